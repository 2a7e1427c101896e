/- Each call computes its plain function. -/
import Derived.Test.YtokchpjijlebiaaProg
import Derived.Test.YtokchpjijlebiaaNQP0
import Derived.Test.YtokchpjijlebiaaNQWA
set_option linter.all false
namespace Go.Proofs.Ytokchpjijlebiaa
open Go Go.RowKit
open Rep (rep)
open KRep (kv)
open VRep (rv)
abbrev JD (g:Option Addr) (a:A0) (q:Nat) (l:Option Addr) (s:Nat) (x:Option Addr) (z:Nat):List SC:=[.slice g a.holds.length q,.slice l a.turns.length s,.slice x a.spares.length z]
abbrev JE (i:Option Addr) (b:A0) (m:Nat) (k:Option Addr) (p:Nat) (u:Option Addr) (y:Nat):List SC:=[.slice i b.holds.length m,.slice k b.turns.length p,.slice u b.spares.length y]
abbrev DK:TM:=[tP 3 1 0,tP 2 0 0]
set_option maxRecDepth 100000 in
set_option maxHeartbeats 4000000 in
theorem ML (n:Nat) {h:Ad} {w:World} (hh:Dv h w) (a:A0) {cs_a:List Value} (hx_a:rep h a cs_a) (b:A0) {cs_b:List Value} (hx_b:rep h b cs_b) {r:Bool} (H:Kd n a b=some r) :
  Calls Try.prog 22 #[.agg cs_a.toArray,.agg cs_b.toArray] w (D6 (fun h v=>v=.bool r) h w):=by
 obtain⟨_,_,rfl,⟨g,q,rfl,ao⟩,⟨_,_,rfl,⟨l,s,rfl,ap⟩,⟨x,z,rfl,ae⟩⟩⟩:=hx_a
 obtain⟨_,_,rfl,⟨i,m,rfl,am⟩,⟨_,_,rfl,⟨k,p,rfl,an⟩,⟨u,y,rfl,ad⟩⟩⟩:=hx_b
 refine enter 47 [.agg (JD g a q l s x z),.agg (JE i b m k p u y)] Try.func22 rfl rfl rfl rfl fun t hk=>?_
 have hm:=Ah.begin h w hh
 unfold Kd at H
 refine QT (Ab (wl fun K hK=>?_))
 refine wb (.agg (JD g a q l s x z)) hk hm fun d cv dm (b1:Kn 47 [(d,0)] [tP 2 0 0,tA 0 (JD g a q l s x z),tA 1 (JE i b m k p u y)] cv) ci=>hK _ _ ?_
 refine wl fun K hK=>?_
 refine wb (.agg (JE i b m k p u y)) b1 ci fun e cw dp (b2:Kn 47 [(d,0),(e,0)] [tP 3 1 0,tP 2 0 0,tA 0 (JD g a q l s x z),tA 1 (JE i b m k p u y)] cw) ar=>hK _ _ ?_
 refine Rk 2 1 DK b2 ar fun c9 b3=>?_
 refine wf (QT (QT ?_))
 obtain⟨bi,aa,H⟩:=A3 H
 refine A7 (fun a' w'=>∃ (a7:Array Value)(ah:Ad),a' = ⟨a7,[]⟩∧Kn 47 [(d,0),(e,0)] [tP 3 1 0,tP 2 0 0,tB 28 bi] a7∧Ah ⟨w,h,Az⟩ ah [(d,0),(e,0)] [⟨JD g a q l s x z,some 34⟩,⟨JE i b m k p u y,some 34⟩] [] w'∧Ad.le h ah) ?_ ?_
 ·
  refine Ab (Rk 0 4 ((tS 9 i b.holds.length m)::(tS 7 g a.holds.length q)::DK) b3 ar fun da b4=>?_)
  obtain⟨x10,ex10,aa⟩:=A3 aa
  refine wl fun K hK=>?_
  refine wc [.c (.slice g a.holds.length q),.c (.slice i b.holds.length m)] b4 ar (Cy n ar.has a.holds ao b.holds am ex10) fun dj c1 dq bn ab ag=>?_
  replace ao:=ao.mono ab
  replace ap:=ap.mono ab
  replace ae:=ae.mono ab
  replace am:=am.mono ab
  replace an:=an.mono ab
  replace ad:=ad.mono ab
  obtain rfl:=bn
  refine⟨.one (.c (.bool x10)),rfl,fun cx (b5:Kn 47 [(d,0),(e,0)] ((tB 10 x10)::(tS 9 i b.holds.length m)::(tS 7 g a.holds.length q)::DK) cx)=>hK _ _ ?_⟩
  refine Rk 5 2 ((tB 12 (!x10))::DK) b5 ag fun bl bc=>?_
  rcases Bool.eq_false_or_eq_true ((!x10)) with ai | ai
  ·
   rw [ai,QW] at aa
   have b6:Kn 47 [(d,0),(e,0)] ((tB 12 true)::DK) bl:=(bc.setB 12 true (by rfl) ai).kp
   refine Rk 7 16 ((tB 28 true)::DK) b6 ag fun db b7=>?_
   refine wf ?_
   obtain rfl:=QZ aa
   exact QY _ ⟨_,rfl,b7.kp,ag,ab⟩
  ·
   rw [ai,QV] at aa
   have b8:Kn 47 [(d,0),(e,0)] ((tB 12 false)::DK) bl:=(bc.setB 12 false (by rfl) ai).kp
   refine Rk 7 4 ((tS 16 k b.turns.length p)::(tS 14 l a.turns.length s)::(tB 12 false)::DK) b8 ag fun dc bd=>?_
   obtain⟨x17,ex17,aa⟩:=A3 aa
   refine Aq _ rfl (Ai bd (by kernel_rfl)) fun K hK=>?_
   refine wc [.c (.slice l a.turns.length s),.c (.slice k b.turns.length p)] bd ag (Cy n ag.has a.turns ap b.turns an ex17) fun dk c2 dr bo bf al=>?_
   obtain rfl:=bo
   refine⟨.one (.c (.bool x17)),rfl,fun cy (b9:Kn 47 [(d,0),(e,0)] ((tB 17 x17)::(tS 16 k b.turns.length p)::(tS 14 l a.turns.length s)::(tB 12 false)::DK) cy)=>hK _ _ ?_⟩
   refine Rk 12 3 ((tB 20 (!x17))::DK) b9 al fun bm be=>?_
   rcases Bool.eq_false_or_eq_true ((!x17)) with aj | aj
   ·
    rw [aj,QW] at aa
    have ca:Kn 47 [(d,0),(e,0)] ((tB 20 true)::DK) bm:=(be.setB 20 true (by rfl) aj).kp
    refine Rk 15 8 ((tB 28 true)::DK) ca al fun dd cb=>?_
    refine wf ?_
    obtain rfl:=QZ aa
    exact QY _ ⟨_,rfl,cb.kp,al,QU ab bf⟩
   ·
    rw [aj,QV] at aa
    have cc:Kn 47 [(d,0),(e,0)] ((tB 20 false)::DK) bm:=(be.setB 20 false (by rfl) aj).kp
    refine Rk 15 8 ((tB 28 (((a.spares.length:Nat):Int) != ((b.spares.length:Nat):Int)))::DK) cc al fun de cd=>?_
    refine wf ?_
    obtain rfl:=QZ aa
    exact QY _ ⟨_,rfl,cd.kp,al,QU ab bf⟩
 ·
  rintro _ ds ⟨a7,ah,rfl,a2,au,af⟩
  replace ao:=ao.mono af
  replace ap:=ap.mono af
  replace ae:=ae.mono af
  replace am:=am.mono af
  replace an:=an.mono af
  replace ad:=ad.mono af
  refine wC (bi) a2 (fun az=>?_) (fun az=>?_)
  ·
   rw [az,QW] at H
   refine QT (Ab (Rk 0 1 [tB 4 false] a2 au fun df ce=>?_))
   refine wf (wp_ret ?_)
   obtain rfl:=QZ H
   exact rt (.one (.c (.bool false))) ce au rfl
  ·
   rw [az,QV] at H
   refine wp_skip (QT (QT (Ab (Rk 0 1 ((tI 5 0)::DK) a2 au fun dg cf=>?_))))
   refine wf ?_
   obtain⟨bj,bb,H⟩:=A3 H
   refine A7 (fun a' w'=>∃ (bk:Unit)(a8:Array Value)(aw:Ad),a' = ⟨a8,[]⟩∧Kn 47 [(d,0),(e,0)] [] a8∧Ah ⟨w,h,Az⟩ aw [(d,0),(e,0)] [⟨JD g a q l s x z,some 34⟩,⟨JE i b m k p u y,some 34⟩] [] w'∧Ad.le ah aw∧bj=.go bk) ?_ ?_
   ·
    refine wp_block ?_
    refine A5 (fun cr a' w'=>∃ (x_v10:Int)(a9:Array Value)(ax:Ad),a' = ⟨a9,[]⟩∧Kn 47 [(d,0),(e,0)] ((tI 5 x_v10)::DK) a9∧Ah ⟨w,h,Az⟩ ax [(d,0),(e,0)] [⟨JD g a q l s x z,some 34⟩,⟨JE i b m k p u y,some 34⟩] [] w'∧Ad.le ah ax∧EY cr a b x_v10=some bj) n ?_ ?_
    ·
     exact QY 0 ⟨_,_,rfl,cf.kp,au,Ad.le_refl _,bb⟩
    ·
     rintro a5 _ dt ⟨x_v10,a9,ax,rfl,cg,ac,aq,f⟩
     clear bb
     obtain _ | a5:=a5
     ·
      rw [EY] at f; cases f
     rw [EY] at f
     replace ae:=ae.mono aq
     replace ad:=ad.mono aq
     refine QT (QT (Ab (Rk 0 5 ((tB 33 (decide (x_v10<((a.spares.length:Nat):Int))))::(tI 5 x_v10)::DK) cg ac fun dh a3=>?_)))
     refine wf (wC (decide (x_v10<((a.spares.length:Nat):Int))) a3 (fun a0=>?_) (fun a0=>?_))
     ·
      rw [a0,QW] at f
      refine wp_skip (QT (wp_block (QT (Ao (by kernel_rfl) ?_))))
      replace ac:=ac.drew
      refine At [] [(d,0),(e,0)] [⟨JD g a q l s x z,some 34⟩,⟨JE i b m k p u y,some 34⟩] ?_
      refine Dr [0,1,2] [2,1,0] ((tI 38 x_v10)::(tS 37 x a.spares.length z)::(tI 5 x_v10)::DK) a3 ac fun di ch=>?_
      obtain⟨x39,ex39,f⟩:=A3 f
      obtain⟨cj,cl,cp⟩:=Ak ex39
      obtain⟨av,a6,cz,bp,cn,br⟩:=ae.get (by decide) cp
      obtain rfl:=cn
      have a4:=ac.addPlc (b:=av) (o:=a6+(x_v10:Int).toNat*1) (cs:=[.bool x39]) (fun j c hj=>br j _ (Al hj)) rfl (by kernel_rfl) (by kernel_rfl)
      refine AY 3 (x_v10) [.bool x39] (fun _ _ _ _ _ h=>h) rfl rfl (rfl) rfl (by decide) (by kernel_rfl) (by kernel_rfl) ch ac.plOk (by rfl) (by rfl) (by rfl) bp (by rfl) cj cl (by kernel_rfl) fun ct (bt:Kn 47 [(d,0),(e,0),(av,a6+(x_v10:Int).toNat*1)] ((tP 39 2 0)::(tI 38 x_v10)::(tS 37 x a.spares.length z)::(tI 5 x_v10)::DK) ct)=>?_
      refine Dr [4,5,6,7] (dn 7) ((tI 43 x_v10)::(tS 42 u b.spares.length y)::(tB 40 x39)::(tI 5 x_v10)::DK) bt a4 fun c4 bu=>?_
      obtain⟨x44,ex44,f⟩:=A3 f
      obtain⟨ck,cm,cq⟩:=Ak ex44
      obtain⟨ba,bh,c0,bq,co,bs⟩:=ad.get (by decide) cq
      obtain rfl:=co
      have ak:=a4.addPlc (b:=ba) (o:=bh+(x_v10:Int).toNat*1) (cs:=[.bool x44]) (fun j c hj=>bs j _ (Al hj)) rfl (by kernel_rfl) (by kernel_rfl)
      refine AY 8 (x_v10) [.bool x44] (fun _ _ _ _ _ h=>h) rfl rfl (rfl) rfl (by decide) (by kernel_rfl) (by kernel_rfl) bu a4.plOk (by rfl) (by rfl) (by rfl) bq (by rfl) ck cm (by kernel_rfl) fun cu (bv:Kn 47 [(d,0),(e,0),(av,a6+(x_v10:Int).toNat*1),(ba,bh+(x_v10:Int).toNat*1)] ((tP 44 3 0)::(tI 43 x_v10)::(tS 42 u b.spares.length y)::(tB 40 x39)::(tI 5 x_v10)::DK) cu)=>?_
      refine Dr [9,10] (dn 10) ((tB 46 (!(x39 == x44)))::(tI 5 x_v10)::DK) bv ak fun c5 a1=>?_
      refine AH (by kernel_rfl) (wC ((!(x39 == x44))) a1 (fun ay=>?_) (fun ay=>?_))
      ·
       rw [ay,QW] at f
       refine QT (Ab (Rk 0 1 [tB 4 false] a1 ak fun c6 bw=>?_))
       refine wf (wp_ret ?_)
       obtain rfl:=QZ f
       obtain rfl:=QZ H
       exact rt (.one (.c (.bool false))) bw ak rfl
      ·
       rw [ay,QV] at f
       refine wp_skip (Ab (Rk 0 3 ((tI 5 (IntKind.i64.wrap (x_v10+1)))::DK) a1 ak fun c7 bx=>?_))
       refine wf ?_
       exact QY a5 ⟨Nat.lt_succ_self _,QY (IntKind.i64.wrap (x_v10+1)) ⟨_,_,rfl,(bx.keep [5,3,2] (by rfl)).cut 2 (by kernel_rfl),ak.cutPl 2 (by kernel_rfl),aq,f⟩⟩
     ·
      rw [a0,QV] at f
      refine wp_exit ?_
      obtain rfl:=QZ f
      exact QY () ⟨_,_,rfl,a3.kp,ac,aq,rfl⟩
   ·
    rintro _ dl ⟨bk,a8,aw,rfl,bz,bg,c3,rfl⟩
    rw [Ex.bind_go] at H
    refine QT (Ab (Rk 0 1 [tB 4 true] bz bg fun c8 b0=>?_))
    refine wf (wp_ret ?_)
    obtain rfl:=QZ H
    exact rt (.one (.c (.bool true))) b0 bg rfl
abbrev K4 (a b c:Option Addr):List SC:=[.slice a 3 3,.int .i64 0,.int .i64 4,.slice b 2 2,.slice c 1 1,.int .i64 5,.int .i64 37,.int .i64 0,.int .i64 50]
abbrev NJ (a:Option Addr):TM:=[tA 5 [.int .i64 0,.int .i64 4],tS 4 a 3 3,tP 0 0 0]
set_option maxRecDepth 100000 in
set_option maxHeartbeats 4000000 in
theorem Bi (n:Nat) {h:Ad} {w:World} (hh:Dv h w)  {r:Ag} (H:By n =some r) :
  Calls Try.prog 45 #[] w (D6 (fun h v=>∃ cs,v=.agg cs.toArray∧rep h r cs) h w):=by
 refine enter 13 [] Try.func45 rfl rfl rfl rfl fun t hk=>?_
 have hm:=Ah.begin h w hh
 unfold By at H
 refine QT (Ab (wl fun K hK=>?_))
 refine wa [.slice none 0 0,.int .i64 0,.int .i64 0,.slice none 0 0,.slice none 0 0,.int .i64 0,.int .i64 0,.int .i64 0,.int .i64 0] hk hm fun d aw a6 (an:Kn 13 [(d,0)] [tP 0 0 0] aw) ae=>hK _ _ ?_
 refine wf (QT (Ab (Rk 0 3 [tA 3 [.int .i64 10,.int .i64 12],tA 2 [.int .i64 5,.int .i64 15],tA 1 [.int .i64 10,.int .i64 10],tP 0 0 0] an ae fun a2 ao=>?_)))
 refine wl fun K hK=>?_
 refine wS 39 2 [.int .i64 10,.int .i64 10,.int .i64 5,.int .i64 15,.int .i64 10,.int .i64 12] ao ae fun a az a3 (af:Kn 13 [(d,0)] [tS 4 a 3 3,tA 3 [.int .i64 10,.int .i64 12],tA 2 [.int .i64 5,.int .i64 15],tA 1 [.int .i64 10,.int .i64 10],tP 0 0 0] az) aa=>?_
 have j:Af h ([Rg.mk 10 10,Rg.mk 5 15,Rg.mk 10 12]:List Rg) ([.int .i64 10,.int .i64 10,.int .i64 5,.int .i64 15,.int .i64 10,.int .i64 12]:List Value):=⟨_,_,rfl,((Aa Ac Ac):rep h ((Rg.mk 10 10):Rg) _),⟨_,_,rfl,((Aa Ac Ac):rep h ((Rg.mk 5 15):Rg) _),⟨_,_,rfl,((Aa Ac Ac):rep h ((Rg.mk 10 12):Rg) _),rfl⟩⟩⟩
 refine hK _ _ ?_
 refine Rk 4 4 ((tA 8 [.int .i64 0,.int .i64 10,.int .i64 20])::(tA 6 [.int .i64 0,.int .i64 0,.int .i64 0])::(NJ a)) af aa fun a0 ag=>?_
 refine wl fun K hK=>?_
 refine wS 96 3 [.int .i64 0,.int .i64 0,.int .i64 0,.int .i64 0,.int .i64 10,.int .i64 20] ag aa fun b av a4 (ah:Kn 13 [(d,0)] ((tS 9 b 2 2)::(tA 8 [.int .i64 0,.int .i64 10,.int .i64 20])::(tA 6 [.int .i64 0,.int .i64 0,.int .i64 0])::(NJ a)) av) ab=>?_
 have k:Af h ([Ct.mk 0 (Rg.mk 0 0),Ct.mk 0 (Rg.mk 10 20)]:List Ct) ([.int .i64 0,.int .i64 0,.int .i64 0,.int .i64 0,.int .i64 10,.int .i64 20]:List Value):=⟨_,_,rfl,((Aa Ac (Aa Ac Ac)):rep h ((Ct.mk 0 (Rg.mk 0 0)):Ct) _),⟨_,_,rfl,((Aa Ac (Aa Ac Ac)):rep h ((Ct.mk 0 (Rg.mk 10 20)):Ct) _),rfl⟩⟩
 refine hK _ _ ?_
 refine Rk 9 1 ((tA 10 [.int .i64 2,.int .i64 40])::(tS 9 b 2 2)::(NJ a)) ah ab fun a1 ai=>?_
 refine wl fun K hK=>?_
 refine wS 110 2 [.int .i64 2,.int .i64 40] ai ab fun c ax a5 (aj:Kn 13 [(d,0)] ((tS 11 c 1 1)::(tA 10 [.int .i64 2,.int .i64 40])::(tS 9 b 2 2)::(NJ a)) ax) ac=>?_
 have l:Af h ([AP.mk 2 40]:List AP) ([.int .i64 2,.int .i64 40]:List Value):=⟨_,_,rfl,((Aa Ac Ac):rep h ((AP.mk 2 40):AP) _),rfl⟩
 refine hK _ _ ?_
 refine Rk 11 1 [tA 12 (K4 a b c),tP 0 0 0] aj ac fun ay ak=>?_
 refine wl fun K hK=>?_
 refine Ea 0 0 (.agg (K4 a b c)) (K4 a b c) ak ac fun x al ad=>hK _ _ ?_
 have am:Kn 13 [(d,0)] [tP 0 0 0] ay:=al.kp
 refine wf (wp_ret ?_)
 obtain⟨y,m,aq,e⟩:=ad.settle (i:=0) rfl
 replace j:=j.mono m
 replace e:Ah ⟨w,h,Az⟩ y [(d,0)] [⟨K4 a b c,some 43⟩] [⟨a,3,3,39,2,([.int .i64 10,.int .i64 10,.int .i64 5,.int .i64 15,.int .i64 10,.int .i64 12]:List Value),(([.int .i64 10,.int .i64 10,.int .i64 5,.int .i64 15,.int .i64 10,.int .i64 12]:List Value):List Value).length⟩,⟨b,2,2,96,3,([.int .i64 0,.int .i64 0,.int .i64 0,.int .i64 0,.int .i64 10,.int .i64 20]:List Value),0⟩,⟨c,1,1,110,2,([.int .i64 2,.int .i64 40]:List Value),0⟩] x:=e
 have s:Ar y a 3 ([Rg.mk 10 10,Rg.mk 5 15,Rg.mk 10 12]:List Rg):=⟨_,j,aq,ad.rowCap (i:=0) rfl⟩
 obtain⟨z,o,ar,f⟩:=e.settle (i:=1) rfl
 replace k:=k.mono (QU m o)
 replace f:Ah ⟨w,h,Az⟩ z [(d,0)] [⟨K4 a b c,some 43⟩] [⟨a,3,3,39,2,([.int .i64 10,.int .i64 10,.int .i64 5,.int .i64 15,.int .i64 10,.int .i64 12]:List Value),(([.int .i64 10,.int .i64 10,.int .i64 5,.int .i64 15,.int .i64 10,.int .i64 12]:List Value):List Value).length⟩,⟨b,2,2,96,3,([.int .i64 0,.int .i64 0,.int .i64 0,.int .i64 0,.int .i64 10,.int .i64 20]:List Value),(([.int .i64 0,.int .i64 0,.int .i64 0,.int .i64 0,.int .i64 10,.int .i64 20]:List Value):List Value).length⟩,⟨c,1,1,110,2,([.int .i64 2,.int .i64 40]:List Value),0⟩] x:=f
 have u:Ar z b 2 ([Ct.mk 0 (Rg.mk 0 0),Ct.mk 0 (Rg.mk 10 20)]:List Ct):=⟨_,k,ar,e.rowCap (i:=1) rfl⟩
 obtain⟨g,p,au,q⟩:=f.settle (i:=2) rfl
 replace s:=s.mono (QU o p)
 replace u:=u.mono p
 replace l:=l.mono (QU (QU m o) p)
 replace q:Ah ⟨w,h,Az⟩ g [(d,0)] [⟨K4 a b c,some 43⟩] [⟨a,3,3,39,2,([.int .i64 10,.int .i64 10,.int .i64 5,.int .i64 15,.int .i64 10,.int .i64 12]:List Value),(([.int .i64 10,.int .i64 10,.int .i64 5,.int .i64 15,.int .i64 10,.int .i64 12]:List Value):List Value).length⟩,⟨b,2,2,96,3,([.int .i64 0,.int .i64 0,.int .i64 0,.int .i64 0,.int .i64 10,.int .i64 20]:List Value),(([.int .i64 0,.int .i64 0,.int .i64 0,.int .i64 0,.int .i64 10,.int .i64 20]:List Value):List Value).length⟩,⟨c,1,1,110,2,([.int .i64 2,.int .i64 40]:List Value),(([.int .i64 2,.int .i64 40]:List Value):List Value).length⟩] x:=q
 have ap:Ar g c 1 ([AP.mk 2 40]:List AP):=⟨_,l,au,f.rowCap (i:=2) rfl⟩
 obtain rfl:=QZ H
 exact rt (.one (.agg (K4 a b c))) am q ⟨_,rfl,((Aa (Ae s) (Aa (Aa Ac Ac) (Aa (Ae u) (Aa (Ae ap) (Aa Ac (Aa Ac (Aa Ac Ac))))))):rep g ((Ag.mk ([Rg.mk 10 10,Rg.mk 5 15,Rg.mk 10 12]:List Rg) (Rg.mk 0 4) ([Ct.mk 0 (Rg.mk 0 0),Ct.mk 0 (Rg.mk 10 20)]:List Ct) ([AP.mk 2 40]:List AP) 5 37 0 50):Ag) _)⟩
abbrev Mc (a b c:Option Addr):List SC:=[.slice a 3 3,.int .i64 0,.int .i64 4,.slice b 2 2,.slice c 1 1,.int .i64 5,.int .i64 37,.int .i64 0,.int .i64 50]
abbrev Md (a:Option Addr):TM:=[tA 5 [.int .i64 0,.int .i64 4],tS 4 a 3 3,tP 0 0 0]
set_option maxRecDepth 100000 in
set_option maxHeartbeats 4000000 in
theorem Me (n:Nat) {h:Ad} {w:World} (hh:Dv h w)  {r:Ag} (H:By n =some r) :
  Calls Try.prog 45 #[] w (OA (fun h v rs=>∃ (e:Option Addr)(i:Nat)(q:List Value)(f:Option Addr)(j:Nat)(s:List Value)(g:Option Addr)(k:Nat)(u:List Value),v=.agg #[.slice e r.legs.length i,.int .i64 r.turn.lo,.int .i64 r.turn.hi,.slice f r.buses.length j,.slice g r.spares.length k,.int .i64 r.unit,.int .i64 r.gap,.int .i64 r.fr,.int .i64 r.to_]∧rs=[⟨e,r.legs.length,i,39,2,q,0⟩,⟨f,r.buses.length,j,96,3,s,0⟩,⟨g,r.spares.length,k,110,2,u,0⟩]∧Af h r.legs q∧Af h r.buses s∧Af h r.spares u) h w):=by
 refine enter 13 [] Try.func45 rfl rfl rfl rfl fun t hk=>?_
 have hm:=Ah.begin h w hh
 unfold By at H
 refine QT (Ab (wl fun K hK=>?_))
 refine wa [.slice none 0 0,.int .i64 0,.int .i64 0,.slice none 0 0,.slice none 0 0,.int .i64 0,.int .i64 0,.int .i64 0,.int .i64 0] hk hm fun d am ay (ai:Kn 13 [(d,0)] [tP 0 0 0] am) p=>hK _ _ ?_
 refine wf (QT (Ab (Rk 0 3 [tA 3 [.int .i64 10,.int .i64 12],tA 2 [.int .i64 5,.int .i64 15],tA 1 [.int .i64 10,.int .i64 10],tP 0 0 0] ai p fun au aj=>?_)))
 refine wl fun K hK=>?_
 refine wS 39 2 [.int .i64 10,.int .i64 10,.int .i64 5,.int .i64 15,.int .i64 10,.int .i64 12] aj p fun a ap av (aa:Kn 13 [(d,0)] [tS 4 a 3 3,tA 3 [.int .i64 10,.int .i64 12],tA 2 [.int .i64 5,.int .i64 15],tA 1 [.int .i64 10,.int .i64 10],tP 0 0 0] ap) l=>?_
 have x:Af h ([Rg.mk 10 10,Rg.mk 5 15,Rg.mk 10 12]:List Rg) ([.int .i64 10,.int .i64 10,.int .i64 5,.int .i64 15,.int .i64 10,.int .i64 12]:List Value):=⟨_,_,rfl,((Aa Ac Ac):rep h ((Rg.mk 10 10):Rg) _),⟨_,_,rfl,((Aa Ac Ac):rep h ((Rg.mk 5 15):Rg) _),⟨_,_,rfl,((Aa Ac Ac):rep h ((Rg.mk 10 12):Rg) _),rfl⟩⟩⟩
 refine hK _ _ ?_
 refine Rk 4 4 ((tA 8 [.int .i64 0,.int .i64 10,.int .i64 20])::(tA 6 [.int .i64 0,.int .i64 0,.int .i64 0])::(Md a)) aa l fun aq ab=>?_
 refine wl fun K hK=>?_
 refine wS 96 3 [.int .i64 0,.int .i64 0,.int .i64 0,.int .i64 0,.int .i64 10,.int .i64 20] ab l fun b al aw (ac:Kn 13 [(d,0)] ((tS 9 b 2 2)::(tA 8 [.int .i64 0,.int .i64 10,.int .i64 20])::(tA 6 [.int .i64 0,.int .i64 0,.int .i64 0])::(Md a)) al) m=>?_
 have y:Af h ([Ct.mk 0 (Rg.mk 0 0),Ct.mk 0 (Rg.mk 10 20)]:List Ct) ([.int .i64 0,.int .i64 0,.int .i64 0,.int .i64 0,.int .i64 10,.int .i64 20]:List Value):=⟨_,_,rfl,((Aa Ac (Aa Ac Ac)):rep h ((Ct.mk 0 (Rg.mk 0 0)):Ct) _),⟨_,_,rfl,((Aa Ac (Aa Ac Ac)):rep h ((Ct.mk 0 (Rg.mk 10 20)):Ct) _),rfl⟩⟩
 refine hK _ _ ?_
 refine Rk 9 1 ((tA 10 [.int .i64 2,.int .i64 40])::(tS 9 b 2 2)::(Md a)) ac m fun ar ad=>?_
 refine wl fun K hK=>?_
 refine wS 110 2 [.int .i64 2,.int .i64 40] ad m fun c an ax (ae:Kn 13 [(d,0)] ((tS 11 c 1 1)::(tA 10 [.int .i64 2,.int .i64 40])::(tS 9 b 2 2)::(Md a)) an) o=>?_
 have z:Af h ([AP.mk 2 40]:List AP) ([.int .i64 2,.int .i64 40]:List Value):=⟨_,_,rfl,((Aa Ac Ac):rep h ((AP.mk 2 40):AP) _),rfl⟩
 refine hK _ _ ?_
 refine Rk 11 1 [tA 12 (Mc a b c),tP 0 0 0] ae o fun ao af=>?_
 refine wl fun K hK=>?_
 refine Ea 0 0 (.agg (Mc a b c)) (Mc a b c) af o fun az ag ak=>hK _ _ ?_
 have ah:Kn 13 [(d,0)] [tP 0 0 0] ao:=ag.kp
 refine wf (wp_ret ?_)
 obtain rfl:=QZ H
 exact Ma (.one (.agg (Mc a b c))) [0,1,2] ah ak (by kernel_rfl) (by kernel_rfl) (by kernel_rfl) ⟨_,_,_,_,_,_,_,_,_,rfl,rfl,x,y,z⟩
abbrev K5 (a b c:Option Addr):List SC:=[.slice a 2 2,.slice b 2 2,.slice c 1 1]
set_option maxRecDepth 100000 in
set_option maxHeartbeats 4000000 in
theorem Eo (n:Nat) {h:Ad} {w:World} (hh:Dv h w)  {r:A0} (H:Dx n =some r) :
  Calls Try.prog 46 #[] w (D6 (fun h v=>∃ cs,v=.agg cs.toArray∧rep h r cs) h w):=by
 refine enter 5 [] Try.func46 rfl rfl rfl rfl fun t hk=>?_
 have hm:=Ah.begin h w hh
 unfold Dx at H
 refine QT (Ab (wl fun K hK=>?_))
 refine wa [.slice none 0 0,.slice none 0 0,.slice none 0 0] hk hm fun d au az (ah:Kn 5 [(d,0)] [tP 0 0 0] au) al=>hK _ _ ?_
 refine wf (QT (Ab (wl fun K hK=>?_)))
 refine wS 3 1 [.int .i64 0,.int .i64 0] ah al fun a aw a0 (ai:Kn 5 [(d,0)] [tS 1 a 2 2,tP 0 0 0] aw) aj=>?_
 have j:Af h ([0,0]:List Int) ([.int .i64 0,.int .i64 0]:List Value):=⟨_,_,rfl,(Ac:rep h (0:Int) _),⟨_,_,rfl,(Ac:rep h (0:Int) _),rfl⟩⟩
 refine hK _ _ ?_
 refine wl fun K hK=>?_
 refine wS 3 1 [.int .i64 (-1),.int .i64 (-1)] ai aj fun b aq ax (ac:Kn 5 [(d,0)] [tS 2 b 2 2,tS 1 a 2 2,tP 0 0 0] aq) ak=>?_
 have k:Af h ([(-1),(-1)]:List Int) ([.int .i64 (-1),.int .i64 (-1)]:List Value):=⟨_,_,rfl,(Ac:rep h ((-1):Int) _),⟨_,_,rfl,(Ac:rep h ((-1):Int) _),rfl⟩⟩
 refine hK _ _ ?_
 refine wl fun K hK=>?_
 refine wS 4 1 [.bool false] ac ak fun c ar ay (ad:Kn 5 [(d,0)] [tS 3 c 1 1,tS 2 b 2 2,tS 1 a 2 2,tP 0 0 0] ar) aa=>?_
 have l:Af h ([false]:List Bool) ([.bool false]:List Value):=⟨_,_,rfl,(AS:rep h (false:Bool) _),rfl⟩
 refine hK _ _ ?_
 refine Rk 3 1 [tA 4 (K5 a b c),tP 0 0 0] ad aa fun av ae=>?_
 refine wl fun K hK=>?_
 refine Ea 0 0 (.agg (K5 a b c)) (K5 a b c) ae aa fun x af ab=>hK _ _ ?_
 have ag:Kn 5 [(d,0)] [tP 0 0 0] av:=af.kp
 refine wf (wp_ret ?_)
 obtain⟨y,m,an,e⟩:=ab.settle (i:=0) rfl
 replace j:=j.mono m
 replace e:Ah ⟨w,h,Az⟩ y [(d,0)] [⟨K5 a b c,some 34⟩] [⟨a,2,2,3,1,([.int .i64 0,.int .i64 0]:List Value),(([.int .i64 0,.int .i64 0]:List Value):List Value).length⟩,⟨b,2,2,3,1,([.int .i64 (-1),.int .i64 (-1)]:List Value),0⟩,⟨c,1,1,4,1,([.bool false]:List Value),0⟩] x:=e
 have s:Ar y a 2 ([0,0]:List Int):=⟨_,j,an,ab.rowCap (i:=0) rfl⟩
 obtain⟨z,o,ao,f⟩:=e.settle (i:=1) rfl
 replace k:=k.mono (QU m o)
 replace f:Ah ⟨w,h,Az⟩ z [(d,0)] [⟨K5 a b c,some 34⟩] [⟨a,2,2,3,1,([.int .i64 0,.int .i64 0]:List Value),(([.int .i64 0,.int .i64 0]:List Value):List Value).length⟩,⟨b,2,2,3,1,([.int .i64 (-1),.int .i64 (-1)]:List Value),(([.int .i64 (-1),.int .i64 (-1)]:List Value):List Value).length⟩,⟨c,1,1,4,1,([.bool false]:List Value),0⟩] x:=f
 have u:Ar z b 2 ([(-1),(-1)]:List Int):=⟨_,k,ao,e.rowCap (i:=1) rfl⟩
 obtain⟨g,p,ap,q⟩:=f.settle (i:=2) rfl
 replace s:=s.mono (QU o p)
 replace u:=u.mono p
 replace l:=l.mono (QU (QU m o) p)
 replace q:Ah ⟨w,h,Az⟩ g [(d,0)] [⟨K5 a b c,some 34⟩] [⟨a,2,2,3,1,([.int .i64 0,.int .i64 0]:List Value),(([.int .i64 0,.int .i64 0]:List Value):List Value).length⟩,⟨b,2,2,3,1,([.int .i64 (-1),.int .i64 (-1)]:List Value),(([.int .i64 (-1),.int .i64 (-1)]:List Value):List Value).length⟩,⟨c,1,1,4,1,([.bool false]:List Value),(([.bool false]:List Value):List Value).length⟩] x:=q
 have am:Ar g c 1 ([false]:List Bool):=⟨_,l,ap,f.rowCap (i:=2) rfl⟩
 obtain rfl:=QZ H
 exact rt (.one (.agg (K5 a b c))) ag q ⟨_,rfl,((Aa (Ae s) (Aa (Ae u) (Ae am))):rep g ((A0.mk ([0,0]:List Int) ([(-1),(-1)]:List Int) ([false]:List Bool)):A0) _)⟩
set_option maxRecDepth 100000 in
set_option maxHeartbeats 4000000 in
theorem II (n:Nat) {h:Ad} {w:World} (hh:Dv h w)  {r:A0} (H:Dx n =some r) :
  Calls Try.prog 46 #[] w (OA (fun h v rs=>∃ (e:Option Addr)(i:Nat)(m:List Value)(f:Option Addr)(j:Nat)(o:List Value)(g:Option Addr)(k:Nat)(p:List Value),v=.agg #[.slice e r.holds.length i,.slice f r.turns.length j,.slice g r.spares.length k]∧rs=[⟨e,r.holds.length,i,3,1,m,0⟩,⟨f,r.turns.length,j,3,1,o,0⟩,⟨g,r.spares.length,k,4,1,p,0⟩]∧Af h r.holds m∧Af h r.turns o∧Af h r.spares p) h w):=by
 refine enter 5 [] Try.func46 rfl rfl rfl rfl fun t hk=>?_
 have hm:=Ah.begin h w hh
 unfold Dx at H
 refine QT (Ab (wl fun K hK=>?_))
 refine wa [.slice none 0 0,.slice none 0 0,.slice none 0 0] hk hm fun d ak aq (ac:Kn 5 [(d,0)] [tP 0 0 0] ak) ah=>hK _ _ ?_
 refine wf (QT (Ab (wl fun K hK=>?_)))
 refine wS 3 1 [.int .i64 0,.int .i64 0] ac ah fun a am ar (ad:Kn 5 [(d,0)] [tS 1 a 2 2,tP 0 0 0] am) ae=>?_
 have q:Af h ([0,0]:List Int) ([.int .i64 0,.int .i64 0]:List Value):=⟨_,_,rfl,(Ac:rep h (0:Int) _),⟨_,_,rfl,(Ac:rep h (0:Int) _),rfl⟩⟩
 refine hK _ _ ?_
 refine wl fun K hK=>?_
 refine wS 3 1 [.int .i64 (-1),.int .i64 (-1)] ad ae fun b ai an (x:Kn 5 [(d,0)] [tS 2 b 2 2,tS 1 a 2 2,tP 0 0 0] ai) af=>?_
 have s:Af h ([(-1),(-1)]:List Int) ([.int .i64 (-1),.int .i64 (-1)]:List Value):=⟨_,_,rfl,(Ac:rep h ((-1):Int) _),⟨_,_,rfl,(Ac:rep h ((-1):Int) _),rfl⟩⟩
 refine hK _ _ ?_
 refine wl fun K hK=>?_
 refine wS 4 1 [.bool false] x af fun c aj ao (y:Kn 5 [(d,0)] [tS 3 c 1 1,tS 2 b 2 2,tS 1 a 2 2,tP 0 0 0] aj) l=>?_
 have u:Af h ([false]:List Bool) ([.bool false]:List Value):=⟨_,_,rfl,(AS:rep h (false:Bool) _),rfl⟩
 refine hK _ _ ?_
 refine Rk 3 1 [tA 4 [.slice a 2 2,.slice b 2 2,.slice c 1 1],tP 0 0 0] y l fun al z=>?_
 refine wl fun K hK=>?_
 refine Ea 0 0 (.agg [.slice a 2 2,.slice b 2 2,.slice c 1 1]) [.slice a 2 2,.slice b 2 2,.slice c 1 1] z l fun ap aa ag=>hK _ _ ?_
 have ab:Kn 5 [(d,0)] [tP 0 0 0] al:=aa.kp
 refine wf (wp_ret ?_)
 obtain rfl:=QZ H
 exact Ma (.one (.agg [.slice a 2 2,.slice b 2 2,.slice c 1 1])) [0,1,2] ab ag (by kernel_rfl) (by kernel_rfl) (by kernel_rfl) ⟨_,_,_,_,_,_,_,_,_,rfl,rfl,q,s,u⟩
abbrev K6 (a b c:Option Addr):List SC:=[.slice a 2 2,.slice b 2 2,.slice c 1 1]
set_option maxRecDepth 100000 in
set_option maxHeartbeats 4000000 in
theorem JF (n:Nat) {h:Ad} {w:World} (hh:Dv h w)  {r:A0} (H:It n =some r) :
  Calls Try.prog 48 #[] w (D6 (fun h v=>∃ cs,v=.agg cs.toArray∧rep h r cs) h w):=by
 refine enter 5 [] Try.func48 rfl rfl rfl rfl fun t hk=>?_
 have hm:=Ah.begin h w hh
 unfold It at H
 refine QT (Ab (wl fun K hK=>?_))
 refine wa [.slice none 0 0,.slice none 0 0,.slice none 0 0] hk hm fun d au az (ah:Kn 5 [(d,0)] [tP 0 0 0] au) al=>hK _ _ ?_
 refine wf (QT (Ab (wl fun K hK=>?_)))
 refine wS 3 1 [.int .i64 0,.int .i64 1] ah al fun a aw a0 (ai:Kn 5 [(d,0)] [tS 1 a 2 2,tP 0 0 0] aw) aj=>?_
 have j:Af h ([0,1]:List Int) ([.int .i64 0,.int .i64 1]:List Value):=⟨_,_,rfl,(Ac:rep h (0:Int) _),⟨_,_,rfl,(Ac:rep h (1:Int) _),rfl⟩⟩
 refine hK _ _ ?_
 refine wl fun K hK=>?_
 refine wS 3 1 [.int .i64 (-1),.int .i64 (-1)] ai aj fun b aq ax (ac:Kn 5 [(d,0)] [tS 2 b 2 2,tS 1 a 2 2,tP 0 0 0] aq) ak=>?_
 have k:Af h ([(-1),(-1)]:List Int) ([.int .i64 (-1),.int .i64 (-1)]:List Value):=⟨_,_,rfl,(Ac:rep h ((-1):Int) _),⟨_,_,rfl,(Ac:rep h ((-1):Int) _),rfl⟩⟩
 refine hK _ _ ?_
 refine wl fun K hK=>?_
 refine wS 4 1 [.bool false] ac ak fun c ar ay (ad:Kn 5 [(d,0)] [tS 3 c 1 1,tS 2 b 2 2,tS 1 a 2 2,tP 0 0 0] ar) aa=>?_
 have l:Af h ([false]:List Bool) ([.bool false]:List Value):=⟨_,_,rfl,(AS:rep h (false:Bool) _),rfl⟩
 refine hK _ _ ?_
 refine Rk 3 1 [tA 4 (K6 a b c),tP 0 0 0] ad aa fun av ae=>?_
 refine wl fun K hK=>?_
 refine Ea 0 0 (.agg (K6 a b c)) (K6 a b c) ae aa fun x af ab=>hK _ _ ?_
 have ag:Kn 5 [(d,0)] [tP 0 0 0] av:=af.kp
 refine wf (wp_ret ?_)
 obtain⟨y,m,an,e⟩:=ab.settle (i:=0) rfl
 replace j:=j.mono m
 replace e:Ah ⟨w,h,Az⟩ y [(d,0)] [⟨K6 a b c,some 34⟩] [⟨a,2,2,3,1,([.int .i64 0,.int .i64 1]:List Value),(([.int .i64 0,.int .i64 1]:List Value):List Value).length⟩,⟨b,2,2,3,1,([.int .i64 (-1),.int .i64 (-1)]:List Value),0⟩,⟨c,1,1,4,1,([.bool false]:List Value),0⟩] x:=e
 have s:Ar y a 2 ([0,1]:List Int):=⟨_,j,an,ab.rowCap (i:=0) rfl⟩
 obtain⟨z,o,ao,f⟩:=e.settle (i:=1) rfl
 replace k:=k.mono (QU m o)
 replace f:Ah ⟨w,h,Az⟩ z [(d,0)] [⟨K6 a b c,some 34⟩] [⟨a,2,2,3,1,([.int .i64 0,.int .i64 1]:List Value),(([.int .i64 0,.int .i64 1]:List Value):List Value).length⟩,⟨b,2,2,3,1,([.int .i64 (-1),.int .i64 (-1)]:List Value),(([.int .i64 (-1),.int .i64 (-1)]:List Value):List Value).length⟩,⟨c,1,1,4,1,([.bool false]:List Value),0⟩] x:=f
 have u:Ar z b 2 ([(-1),(-1)]:List Int):=⟨_,k,ao,e.rowCap (i:=1) rfl⟩
 obtain⟨g,p,ap,q⟩:=f.settle (i:=2) rfl
 replace s:=s.mono (QU o p)
 replace u:=u.mono p
 replace l:=l.mono (QU (QU m o) p)
 replace q:Ah ⟨w,h,Az⟩ g [(d,0)] [⟨K6 a b c,some 34⟩] [⟨a,2,2,3,1,([.int .i64 0,.int .i64 1]:List Value),(([.int .i64 0,.int .i64 1]:List Value):List Value).length⟩,⟨b,2,2,3,1,([.int .i64 (-1),.int .i64 (-1)]:List Value),(([.int .i64 (-1),.int .i64 (-1)]:List Value):List Value).length⟩,⟨c,1,1,4,1,([.bool false]:List Value),(([.bool false]:List Value):List Value).length⟩] x:=q
 have am:Ar g c 1 ([false]:List Bool):=⟨_,l,ap,f.rowCap (i:=2) rfl⟩
 obtain rfl:=QZ H
 exact rt (.one (.agg (K6 a b c))) ag q ⟨_,rfl,((Aa (Ae s) (Aa (Ae u) (Ae am))):rep g ((A0.mk ([0,1]:List Int) ([(-1),(-1)]:List Int) ([false]:List Bool)):A0) _)⟩
end Go.Proofs.Ytokchpjijlebiaa
