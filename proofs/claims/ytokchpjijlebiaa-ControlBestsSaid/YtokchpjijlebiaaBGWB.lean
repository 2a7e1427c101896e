/- Each call computes its plain function. -/
import Derived.Test.YtokchpjijlebiaaProg
import Derived.Test.YtokchpjijlebiaaBGP0
import Derived.Test.YtokchpjijlebiaaBGWA
set_option linter.all false
namespace Go.Proofs.Ytokchpjijlebiaa
open Go Go.RowKit
open Rep (rep)
open KRep (kv)
open VRep (rv)
set_option maxRecDepth 100000 in
set_option maxHeartbeats 4000000 in
theorem MU (n:Nat) {h:Ae} {w:World} (hh:Dn h w) (l:List Int) {a_l:Option Addr} {c_l:Nat} (hr_l:A6 h a_l c_l l) {r:List Int} (H:HO n l=some r) :
  Calls Try.prog 29 #[.slice a_l l.length c_l] w (Dp (fun h v=>∃ a c,v=.slice a r.length c∧A6 h a c r) h w):=by
 refine enter 5 [.c (.slice a_l l.length c_l)] Try.func29 rfl rfl rfl rfl fun t hk=>?_
 have hm:=Ah.begin h w hh
 unfold HO at H
 refine XT (Aa (Rk 0 1 [tS 0 a_l l.length c_l] hk hm fun ai z=>?_))
 refine wf (XT (Aa (Rk 0 1 [tS 3 a_l l.length c_l] z hm fun ak ab=>?_)))
 have q:Ah ⟨w,h,Aj⟩ h [] [] [⟨none,0,0,3,1,[],0⟩] w:=hm.nilRow 3 1
 have u:Ag h ([]:List Int) []:=Ag.nil
 obtain⟨e,f,ag,_⟩:=id hr_l
 obtain⟨x4,ex4,H⟩:=Aq H
 obtain⟨m,ac⟩:=A8 ex4
 refine wl fun K hK=>?_
 refine A3 0 8 l.length _ (x4.length) _ e ab q rfl rfl (by decide) rfl (by rfl) (by kernel_rfl) (by rfl) (by rfl) (Ag.len f) (ag.cell q.has f.one) f.one (by rw [m]; simp) (by rw [m]; exact ac) (by decide) fun b d o ah s x (y:Kn 5 [] [tS 4 b x4.length d,tS 3 a_l l.length c_l] ah) (j:Ah ⟨w,h,Aj⟩ h [] [] [⟨b,x4.length,d,3,1,[]++e,o⟩] s)=>?_
 have g:Ag h x4 ([]++e):=by rw [m]; exact Ag.append u f
 obtain rfl:o=0:=Nat.le_zero.1 x
 refine hK _ _ ?_
 refine Rk 2 1 [tS 2 b x4.length d] y j fun aj aa=>?_
 refine wf (wp_ret ?_)
 obtain⟨p,ad,af,k⟩:=j.settle (i:=0) rfl
 replace g:=g.mono ad
 replace k:Ah ⟨w,h,Aj⟩ p [] [] [⟨b,x4.length,d,3,1,[]++e,(([]++e):List Value).length⟩] s:=k
 have ae:A6 p b d x4:=⟨_,g,af,j.rowCap (i:=0) rfl⟩
 obtain rfl:=XZ H
 exact rt (.one (.c (.slice b x4.length d))) aa k ⟨_,_,rfl,ae⟩
abbrev Rd:List SC:=[.slice none 0 0,.slice none 0 0,.slice none 0 0]
abbrev JC (b:Option Addr) (a:Am) (e:Nat) (d:Option Addr) (f:Nat) (g:Option Addr) (j:Nat):List SC:=[.slice b a.holds.length e,.slice d a.turns.length f,.slice g a.spares.length j]
set_option maxRecDepth 100000 in
set_option maxHeartbeats 4000000 in
theorem Re (n:Nat) {h:Ae} {w:World} (hh:Dn h w) (a:Am) {cs_a:List Value} (hx_a:rep h a cs_a) {r:Am} (H:Jt n a=some r) :
  Calls Try.prog 23 #[.agg cs_a.toArray] w (Dp (fun h v=>∃ cs,v=.agg cs.toArray∧rep h r cs) h w):=by
 obtain⟨_,_,rfl,⟨b,e,rfl,bc⟩,⟨_,_,rfl,⟨d,f,rfl,aj⟩,⟨g,j,rfl,ak⟩⟩⟩:=hx_a
 refine enter 13 [.agg (JC b a e d f g j)] Try.func23 rfl rfl rfl rfl fun t hk=>?_
 have hm:=Ah.begin h w hh
 unfold Jt at H
 refine XT (Aa (wl fun K hK=>?_))
 refine wb (.agg (JC b a e d f g j)) hk hm fun k bg bl (a0:Kn 13 [(k,0)] [tP 1 0 0,tA 0 (JC b a e d f g j)] bg) (bb:Ah ⟨w,h,Aj⟩ h [(k,0)] [⟨JC b a e d f g j,some 50⟩] [] bl)=>hK _ _ ?_
 refine wl fun K hK=>?_
 refine wa Rd a0 bb fun l au bm (a1:Kn 13 [(k,0),(l,0)] [tP 2 1 0,tP 1 0 0,tA 0 (JC b a e d f g j)] au) (z:Ah ⟨w,h,Aj⟩ h [(k,0),(l,0)] [⟨JC b a e d f g j,some 50⟩,⟨Rd,some 34⟩] [] bm)=>hK _ _ ?_
 have a2:Kn 13 [(k,0),(l,0)] [tP 2 1 0,tP 1 0 0] au:=a1.kp
 refine wf (XT (An (by kernel_rfl) ?_))
 replace z:=z.drew
 refine Ao [] [(k,0),(l,0)] [⟨JC b a e d f g j,some 50⟩,⟨Rd,some 34⟩] ?_
 refine Dr [0,1,3,4,6,7] [7,6,4,3,1,0] [tS 10 g a.spares.length j,tS 7 d a.turns.length f,tS 4 b a.holds.length e,tP 2 1 0] a2 z fun bq a3=>?_
 obtain⟨x5,ex5,H⟩:=Aq H
 refine Dl 2 fun K hK=>?_
 refine wc [.c (.slice b a.holds.length e)] a3 z (MU n z.has a.holds bc ex5) fun br bp bt aw an ae=>?_
 replace aj:=aj.mono an
 obtain⟨p,q,rfl,ah⟩:=aw
 refine⟨.one (.c (.slice p x5.length q)),rfl,fun bh (a4:Kn 13 [(k,0),(l,0)] [tS 5 p x5.length q,tS 10 g a.spares.length j,tS 7 d a.turns.length f,tS 4 b a.holds.length e,tP 2 1 0] bh)=>hK _ _ ae.plOk ?_⟩
 obtain⟨x8,ex8,H⟩:=Aq H
 refine Dl 5 fun K hK=>?_
 refine wc [.c (.slice d a.turns.length f)] a4 ae (MU n ae.has a.turns aj ex8) fun bs y bn ax ao ap=>?_
 replace ak:=ak.mono (XU an ao)
 obtain⟨s,u,rfl,ai⟩:=ax
 refine⟨.one (.c (.slice s x8.length u)),rfl,fun bi (a5:Kn 13 [(k,0),(l,0)] [tS 8 s x8.length u,tS 5 p x5.length q,tS 10 g a.spares.length j,tS 7 d a.turns.length f,tS 4 b a.holds.length e,tP 2 1 0] bi)=>hK _ _ ap.plOk ?_⟩
 have aq:Ah ⟨w,h,Aj⟩ y [(k,0),(l,0)] [⟨JC b a e d f g j,some 50⟩,⟨Rd,some 34⟩] [⟨none,0,0,4,1,[],0⟩] bn:=ap.nilRow 4 1
 have ay:Ag y ([]:List Bool) []:=Ag.nil
 obtain⟨x,aa,bf,_⟩:=id ak
 obtain⟨x11,ex11,H⟩:=Aq H
 obtain⟨al,ba⟩:=A8 ex11
 refine Dl 8 fun K hK=>?_
 refine A3 0 1 a.spares.length _ (x11.length) _ x a5 aq rfl rfl (by decide) rfl (by rfl) (by kernel_rfl) (by rfl) (by rfl) (Ag.len aa) (bf.cell aq.has aa.one) aa.one (by rw [al]; simp) (by rw [al]; exact ba) (by decide) fun m o am bj bo az (a6:Kn 13 [(k,0),(l,0)] [tS 11 m x11.length o,tS 8 s x8.length u,tS 5 p x5.length q,tS 10 g a.spares.length j,tS 7 d a.turns.length f,tS 4 b a.holds.length e,tP 2 1 0] bj) (af:Ah ⟨w,h,Aj⟩ y [(k,0),(l,0)] [⟨JC b a e d f g j,some 50⟩,⟨Rd,some 34⟩] [⟨m,x11.length,o,4,1,[]++x,am⟩] bo)=>?_
 have ac:Ag y x11 ([]++x):=by rw [al]; exact Ag.append ay aa
 obtain rfl:am=0:=Nat.le_zero.1 az
 refine hK _ _ af.plOk ?_
 refine Dr [9] [9,8,5,2,7,6,4,3,1,0] [tA 12 [.slice p x5.length q,.slice s x8.length u,.slice m x11.length o],tP 2 1 0] a6 af fun bk a7=>?_
 refine D8 10 rfl (by kernel_rfl) (by decide) (rfl) (by kernel_rfl) fun K hK=>?_
 refine G2 1 0 (.agg [.slice p x5.length q,.slice s x8.length u,.slice m x11.length o]) [.slice p x5.length q,.slice s x8.length u,.slice m x11.length o] a7 af fun av a8 (ar:Ah ⟨w,h,Aj⟩ y [(k,0),(l,0)] [⟨JC b a e d f g j,some 50⟩,⟨[.slice p x5.length q,.slice s x8.length u,.slice m x11.length o],some 34⟩] [⟨m,x11.length,o,4,1,[]++x,0⟩] av)=>hK _ _ ?_
 have a9:Kn 13 [(k,0),(l,0)] [tP 2 1 0] bk:=a8.kp
 refine GB (by kernel_rfl) (wp_ret ?_)
 obtain⟨ab,ad,be,ag⟩:=ar.settle (i:=0) rfl
 replace ah:=ah.mono (XU ao ad)
 replace ai:=ai.mono ad
 replace ac:=ac.mono ad
 replace ag:Ah ⟨w,h,Aj⟩ ab [(k,0),(l,0)] [⟨JC b a e d f g j,some 50⟩,⟨[.slice p x5.length q,.slice s x8.length u,.slice m x11.length o],some 34⟩] [⟨m,x11.length,o,4,1,[]++x,(([]++x):List Value).length⟩] av:=ag
 have bd:A6 ab m o x11:=⟨_,ac,be,ar.rowCap (i:=0) rfl⟩
 obtain rfl:=XZ H
 exact rt (.one (.agg [.slice p x5.length q,.slice s x8.length u,.slice m x11.length o])) a9 ag ⟨_,rfl,((Ab (Ad ah) (Ab (Ad ai) (Ad bd))):rep ab ((Am.mk x5 x8 x11):Am) _)⟩
abbrev IM (f:Option Addr) (a:Am) (i:Nat) (g:Option Addr) (k:Nat) (o:Option Addr) (s:Nat):List SC:=[.slice f a.holds.length i,.slice g a.turns.length k,.slice o a.spares.length s]
abbrev JD (l:Option Addr) (b:Am) (p:Nat) (m:Option Addr) (q:Nat) (u:Option Addr) (x:Nat):List SC:=[.slice l b.holds.length p,.slice m b.turns.length q,.slice u b.spares.length x]
abbrev E4:TM:=[tP 3 1 0,tP 2 0 0]
set_option maxRecDepth 100000 in
set_option maxHeartbeats 4000000 in
theorem MV (n:Nat) {h:Ae} {w:World} (hh:Dn h w) (a:Am) {cs_a:List Value} (hx_a:rep h a cs_a) (b:Am) {cs_b:List Value} (hx_b:rep h b cs_b) {r:Bool} (H:HP n a b=some r) :
  Calls Try.prog 22 #[.agg cs_a.toArray,.agg cs_b.toArray] w (Dp (fun h v=>v=.bool r) h w):=by
 obtain⟨_,_,rfl,⟨f,i,rfl,ao⟩,⟨_,_,rfl,⟨g,k,rfl,ap⟩,⟨o,s,rfl,ad⟩⟩⟩:=hx_a
 obtain⟨_,_,rfl,⟨l,p,rfl,am⟩,⟨_,_,rfl,⟨m,q,rfl,an⟩,⟨u,x,rfl,ac⟩⟩⟩:=hx_b
 refine enter 47 [.agg (IM f a i g k o s),.agg (JD l b p m q u x)] Try.func22 rfl rfl rfl rfl fun t hk=>?_
 have hm:=Ah.begin h w hh
 unfold HP at H
 refine XT (Aa (wl fun K hK=>?_))
 refine wb (.agg (IM f a i g k o s)) hk hm fun d cv cz (b1:Kn 47 [(d,0)] [tP 2 0 0,tA 0 (IM f a i g k o s),tA 1 (JD l b p m q u x)] cv) (ci:Ah ⟨w,h,Aj⟩ h [(d,0)] [⟨IM f a i g k o s,some 34⟩] [] cz)=>hK _ _ ?_
 refine wl fun K hK=>?_
 refine wb (.agg (JD l b p m q u x)) b1 ci fun e cw c0 (b2:Kn 47 [(d,0),(e,0)] [tP 3 1 0,tP 2 0 0,tA 0 (IM f a i g k o s),tA 1 (JD l b p m q u x)] cw) (au:Ah ⟨w,h,Aj⟩ h [(d,0),(e,0)] [⟨IM f a i g k o s,some 34⟩,⟨JD l b p m q u x,some 34⟩] [] c0)=>hK _ _ ?_
 refine Rk 2 1 E4 b2 au fun db b3=>?_
 refine wf (XT (XT ?_))
 obtain⟨bh,z,H⟩:=Aq H
 refine Av (fun a' w'=>∃ (a6:Array Value)(ag:Ae),a' = ⟨a6,[]⟩∧Kn 47 [(d,0),(e,0)] [tP 3 1 0,tP 2 0 0,tB 28 bh] a6∧Ah ⟨w,h,Aj⟩ ag [(d,0),(e,0)] [⟨IM f a i g k o s,some 34⟩,⟨JD l b p m q u x,some 34⟩] [] w'∧Ae.le h ag) ?_ ?_
 ·
  refine Aa (Rk 0 4 ((tS 9 l b.holds.length p)::(tS 7 f a.holds.length i)::E4) b3 au fun dc b4=>?_)
  obtain⟨x10,ex10,z⟩:=Aq z
  refine wl fun K hK=>?_
  refine wc [.c (.slice f a.holds.length i),.c (.slice l b.holds.length p)] b4 au (JB n au.has a.holds ao b.holds am ex10) fun dl c3 dq bn aa af=>?_
  replace ao:=ao.mono aa
  replace ap:=ap.mono aa
  replace ad:=ad.mono aa
  replace am:=am.mono aa
  replace an:=an.mono aa
  replace ac:=ac.mono aa
  obtain rfl:=bn
  refine⟨.one (.c (.bool x10)),rfl,fun cx (b5:Kn 47 [(d,0),(e,0)] ((tB 10 x10)::(tS 9 l b.holds.length p)::(tS 7 f a.holds.length i)::E4) cx)=>hK _ _ ?_⟩
  refine Rk 5 2 ((tB 12 (!x10))::E4) b5 af fun bk bb=>?_
  rcases Bool.eq_false_or_eq_true ((!x10)) with ai | ai
  ·
   rw [ai,XW] at z
   have b6:Kn 47 [(d,0),(e,0)] ((tB 12 true)::E4) bk:=(bb.setB 12 true (by rfl) ai).kp
   refine Rk 7 16 ((tB 28 true)::E4) b6 af fun dd b7=>?_
   refine wf ?_
   obtain rfl:=XZ z
   exact XY _ ⟨_,rfl,b7.kp,af,aa⟩
  ·
   rw [ai,XV] at z
   have b8:Kn 47 [(d,0),(e,0)] ((tB 12 false)::E4) bk:=(bb.setB 12 false (by rfl) ai).kp
   refine Rk 7 4 ((tS 16 m b.turns.length q)::(tS 14 g a.turns.length k)::(tB 12 false)::E4) b8 af fun de bc=>?_
   obtain⟨x17,ex17,z⟩:=Aq z
   refine AS _ rfl (Ak bc (by kernel_rfl)) fun K hK=>?_
   refine wc [.c (.slice g a.turns.length k),.c (.slice m b.turns.length q)] bc af (JB n af.has a.turns ap b.turns an ex17) fun dm c4 dr bo be al=>?_
   obtain rfl:=bo
   refine⟨.one (.c (.bool x17)),rfl,fun cy (b9:Kn 47 [(d,0),(e,0)] ((tB 17 x17)::(tS 16 m b.turns.length q)::(tS 14 g a.turns.length k)::(tB 12 false)::E4) cy)=>hK _ _ ?_⟩
   refine Rk 12 3 ((tB 20 (!x17))::E4) b9 al fun bl bd=>?_
   rcases Bool.eq_false_or_eq_true ((!x17)) with aj | aj
   ·
    rw [aj,XW] at z
    have ca:Kn 47 [(d,0),(e,0)] ((tB 20 true)::E4) bl:=(bd.setB 20 true (by rfl) aj).kp
    refine Rk 15 8 ((tB 28 true)::E4) ca al fun df cb=>?_
    refine wf ?_
    obtain rfl:=XZ z
    exact XY _ ⟨_,rfl,cb.kp,al,XU aa be⟩
   ·
    rw [aj,XV] at z
    have cc:Kn 47 [(d,0),(e,0)] ((tB 20 false)::E4) bl:=(bd.setB 20 false (by rfl) aj).kp
    refine Rk 15 8 ((tB 28 (((a.spares.length:Nat):Int) != ((b.spares.length:Nat):Int)))::E4) cc al fun dg cd=>?_
    refine wf ?_
    obtain rfl:=XZ z
    exact XY _ ⟨_,rfl,cd.kp,al,XU aa be⟩
 ·
  rintro _ ds ⟨a6,ag,rfl,a2,av,ae⟩
  replace ao:=ao.mono ae
  replace ap:=ap.mono ae
  replace ad:=ad.mono ae
  replace am:=am.mono ae
  replace an:=an.mono ae
  replace ac:=ac.mono ae
  refine wC (bh) a2 (fun az=>?_) (fun az=>?_)
  ·
   rw [az,XW] at H
   refine XT (Aa (Rk 0 1 [tB 4 false] a2 av fun dh ce=>?_))
   refine wf (wp_ret ?_)
   obtain rfl:=XZ H
   exact rt (.one (.c (.bool false))) ce av rfl
  ·
   rw [az,XV] at H
   refine wp_skip (XT (XT (Aa (Rk 0 1 ((tI 5 0)::E4) a2 av fun di cf=>?_))))
   refine wf ?_
   obtain⟨bi,ba,H⟩:=Aq H
   refine Av (fun a' w'=>∃ (bj:Unit)(a7:Array Value)(ax:Ae),a' = ⟨a7,[]⟩∧Kn 47 [(d,0),(e,0)] [] a7∧Ah ⟨w,h,Aj⟩ ax [(d,0),(e,0)] [⟨IM f a i g k o s,some 34⟩,⟨JD l b p m q u x,some 34⟩] [] w'∧Ae.le ag ax∧bi=.go bj) ?_ ?_
   ·
    refine wp_block ?_
    refine Ar (fun cr a' w'=>∃ (x_v10:Int)(a8:Array Value)(ah:Ae),a' = ⟨a8,[]⟩∧Kn 47 [(d,0),(e,0)] ((tI 5 x_v10)::E4) a8∧Ah ⟨w,h,Aj⟩ ah [(d,0),(e,0)] [⟨IM f a i g k o s,some 34⟩,⟨JD l b p m q u x,some 34⟩] [] w'∧Ae.le ag ah∧Es cr a b x_v10=some bi) n ?_ ?_
    ·
     exact XY 0 ⟨_,_,rfl,cf.kp,av,Ae.le_refl _,ba⟩
    ·
     rintro a5 _ bm ⟨x_v10,a8,ah,rfl,cg,ab,ar,y⟩
     clear ba
     obtain _ | a5:=a5
     ·
      rw [Es] at y; cases y
     rw [Es] at y
     replace ad:=ad.mono ar
     replace ac:=ac.mono ar
     refine XT (XT (Aa (Rk 0 5 ((tB 33 (decide (x_v10<((a.spares.length:Nat):Int))))::(tI 5 x_v10)::E4) cg ab fun dj a3=>?_)))
     refine wf (wC (decide (x_v10<((a.spares.length:Nat):Int))) a3 (fun a0=>?_) (fun a0=>?_))
     ·
      rw [a0,XW] at y
      refine wp_skip (XT (wp_block (XT (An (by kernel_rfl) ?_))))
      replace ab:=ab.drew
      refine Ao [] [(d,0),(e,0)] [⟨IM f a i g k o s,some 34⟩,⟨JD l b p m q u x,some 34⟩] ?_
      refine Dr [0,1,2] [2,1,0] ((tI 38 x_v10)::(tS 37 o a.spares.length s)::(tI 5 x_v10)::E4) a3 ab fun dk ch=>?_
      obtain⟨x39,ex39,y⟩:=Aq y
      obtain⟨cj,cl,cp⟩:=Ai ex39
      obtain⟨aq,aw,c1,bp,cn,br⟩:=ad.get (by decide) cp
      obtain rfl:=cn
      have a4:Ah ⟨w,h,Aj⟩ ah [(d,0),(e,0),(aq,aw+(x_v10:Int).toNat*1)] [⟨IM f a i g k o s,some 34⟩,⟨JD l b p m q u x,some 34⟩,⟨[.bool x39],none⟩] [] (World.drew bm):=ab.addPlc (cs:=[.bool x39]) (fun j c hj=>br j _ (Al hj)) rfl (by kernel_rfl) (by kernel_rfl)
      refine Ax 3 (x_v10) [.bool x39] (fun _ _ _ _ _ h=>h) rfl rfl (rfl) rfl (by decide) (by kernel_rfl) (by kernel_rfl) ch ab.plOk (by rfl) (by rfl) (by rfl) bp (by rfl) cj cl (by kernel_rfl) fun ct (bt:Kn 47 [(d,0),(e,0),(aq,aw+(x_v10:Int).toNat*1)] ((tP 39 2 0)::(tI 38 x_v10)::(tS 37 o a.spares.length s)::(tI 5 x_v10)::E4) ct)=>?_
      refine Dr [4,5,6,7] (dn 7) ((tI 43 x_v10)::(tS 42 u b.spares.length x)::(tB 40 x39)::(tI 5 x_v10)::E4) bt a4 fun c6 bu=>?_
      obtain⟨x44,ex44,y⟩:=Aq y
      obtain⟨ck,cm,cq⟩:=Ai ex44
      obtain⟨a9,bg,c2,bq,co,bs⟩:=ac.get (by decide) cq
      obtain rfl:=co
      have ak:Ah ⟨w,h,Aj⟩ ah [(d,0),(e,0),(aq,aw+(x_v10:Int).toNat*1),(a9,bg+(x_v10:Int).toNat*1)] [⟨IM f a i g k o s,some 34⟩,⟨JD l b p m q u x,some 34⟩,⟨[.bool x39],none⟩,⟨[.bool x44],none⟩] [] (World.drew bm):=a4.addPlc (cs:=[.bool x44]) (fun j c hj=>bs j _ (Al hj)) rfl (by kernel_rfl) (by kernel_rfl)
      refine Ax 8 (x_v10) [.bool x44] (fun _ _ _ _ _ h=>h) rfl rfl (rfl) rfl (by decide) (by kernel_rfl) (by kernel_rfl) bu a4.plOk (by rfl) (by rfl) (by rfl) bq (by rfl) ck cm (by kernel_rfl) fun cu (bv:Kn 47 [(d,0),(e,0),(aq,aw+(x_v10:Int).toNat*1),(a9,bg+(x_v10:Int).toNat*1)] ((tP 44 3 0)::(tI 43 x_v10)::(tS 42 u b.spares.length x)::(tB 40 x39)::(tI 5 x_v10)::E4) cu)=>?_
      refine Dr [9,10] (dn 10) ((tB 46 (!(x39 == x44)))::(tI 5 x_v10)::E4) bv ak fun c7 a1=>?_
      refine Ay (by kernel_rfl) (wC ((!(x39 == x44))) a1 (fun ay=>?_) (fun ay=>?_))
      ·
       rw [ay,XW] at y
       refine XT (Aa (Rk 0 1 [tB 4 false] a1 ak fun c8 bw=>?_))
       refine wf (wp_ret ?_)
       obtain rfl:=XZ y
       obtain rfl:=XZ H
       exact rt (.one (.c (.bool false))) bw ak rfl
      ·
       rw [ay,XV] at y
       refine wp_skip (Aa (Rk 0 3 ((tI 5 (IntKind.i64.wrap (x_v10+1)))::E4) a1 ak fun c9 bx=>?_))
       refine wf ?_
       exact XY a5 ⟨Nat.lt_succ_self _,XY (IntKind.i64.wrap (x_v10+1)) ⟨_,_,rfl,(bx.keep [5,3,2] (by rfl)).cut 2 (by kernel_rfl),ak.cutPl 2 (by kernel_rfl),ar,y⟩⟩
     ·
      rw [a0,XV] at y
      refine wp_exit ?_
      obtain rfl:=XZ y
      exact XY () ⟨_,_,rfl,a3.kp,ab,ar,rfl⟩
   ·
    rintro _ dp ⟨bj,a7,ax,rfl,bz,bf,c5,rfl⟩
    rw [Ex.bind_go] at H
    refine XT (Aa (Rk 0 1 [tB 4 true] bz bf fun da b0=>?_))
    refine wf (wp_ret ?_)
    obtain rfl:=XZ H
    exact rt (.one (.c (.bool true))) b0 bf rfl
abbrev Oc (b:Option Addr) (a:Am) (d:Nat) (e:Option Addr) (g:Nat) (f:Option Addr) (i:Nat):List SC:=[.slice b a.holds.length d,.slice e a.turns.length g,.slice f a.spares.length i]
set_option maxRecDepth 100000 in
set_option maxHeartbeats 4000000 in
theorem I1 (n:Nat) {h:Ae} {w:World} (hh:Dn h w) (a:Am) {cs_a:List Value} (hx_a:rep h a cs_a) {r:Int} (H:Hn n a=some r) :
  Calls Try.prog 62 #[.agg cs_a.toArray] w (Dp (fun h v=>v=.int .i64 r) h w):=by
 obtain⟨_,_,rfl,⟨b,d,rfl,aa⟩,⟨_,_,rfl,⟨e,g,rfl,a8⟩,⟨f,i,rfl,a9⟩⟩⟩:=hx_a
 refine enter 20 [.agg (Oc b a d e g f i)] Try.func62 rfl rfl rfl rfl fun t hk=>?_
 have hm:=Ah.begin h w hh
 unfold Hn at H
 refine XT (Aa (wl fun K hK=>?_))
 refine wb (.agg (Oc b a d e g f i)) hk hm fun l a2 a4 (ak:Kn 20 [(l,0)] [tP 1 0 0,tA 0 (Oc b a d e g f i)] a2) (o:Ah ⟨w,h,Aj⟩ h [(l,0)] [⟨Oc b a d e g f i,some 50⟩] [] a4)=>hK _ _ ?_
 refine Rk 1 1 [tP 1 0 0] ak o fun ba al=>?_
 refine wf (XT (Aa (Rk 0 1 [tI 3 0,tP 1 0 0] al o fun bb am=>?_)))
 refine wf (XT (XT (Aa (Rk 0 1 [tI 4 0,tI 3 0,tP 1 0 0] am o fun bc an=>?_))))
 refine wf ?_
 obtain⟨q,af,H⟩:=Aq H
 refine Av (fun a' w'=>∃ (ac:Array Value)(s:Ae),a' = ⟨ac,[]⟩∧Kn 20 [(l,0)] [tI 3 q] ac∧Ah ⟨w,h,Aj⟩ s [(l,0)] [⟨Oc b a d e g f i,some 50⟩] [] w'∧Ae.le h s) ?_ ?_
 ·
  refine wp_block ?_
  refine Ar (fun a1 a' w'=>∃ (x_v10:Int)(x_v11:Int)(ad:Array Value)(m:Ae),a' = ⟨ad,[]⟩∧Kn 20 [(l,0)] [tI 4 x_v10,tI 3 x_v11,tP 1 0 0] ad∧Ah ⟨w,h,Aj⟩ m [(l,0)] [⟨Oc b a d e g f i,some 50⟩] [] w'∧Ae.le h m∧ES a1 a x_v10 x_v11=some q) n ?_ ?_
  ·
   exact XY 0 ⟨0,_,_,rfl,an.kp,o,Ae.le_refl _,af⟩
  ·
   rintro ab _ a5 ⟨x_v10,x_v11,ad,m,rfl,ao,p,y,k⟩
   clear af
   obtain _ | ab:=ab
   ·
    rw [ES] at k; cases k
   rw [ES] at k
   replace aa:=aa.mono y
   refine XT (XT (Aa (Rk 0 5 [tB 9 (decide (x_v10<((a.holds.length:Nat):Int))),tI 4 x_v10,tI 3 x_v11,tP 1 0 0] ao p fun bd x=>?_)))
   refine wf (wC (decide (x_v10<((a.holds.length:Nat):Int))) x (fun u=>?_) (fun u=>?_))
   ·
    rw [u,XW] at k
    refine wp_skip (XT (wp_block (Aa (Rk 0 4 [tI 15 x_v10,tS 14 b a.holds.length d,tI 12 x_v11,tI 4 x_v10,tP 1 0 0] x p fun be ap=>?_))))
    obtain⟨x16,ex16,k⟩:=Aq k
    obtain⟨ax,ay,a0⟩:=Ai ex16
    obtain⟨ae,ah,a6,ai,az,aj⟩:=aa.get (by decide) a0
    obtain rfl:=az
    have z:Ah ⟨w,h,Aj⟩ m [(l,0),(ae,ah+(x_v10:Int).toNat*1)] [⟨Oc b a d e g f i,some 50⟩,⟨[.int .i64 x16],none⟩] [] a5:=p.addPlc (cs:=[.int .i64 x16]) (fun j c hj=>aj j _ (Al hj)) rfl (by kernel_rfl) (by kernel_rfl)
    refine Bc 4 (x_v10) rfl rfl (rfl) rfl (by decide) ap (by rfl) (by rfl) (by rfl) ai (by rfl) ax ay (by kernel_rfl) fun a3 (aq:Kn 20 [(l,0),(ae,ah+(x_v10:Int).toNat*1)] [tP 16 1 0,tI 15 x_v10,tS 14 b a.holds.length d,tI 12 x_v11,tI 4 x_v10,tP 1 0 0] a3)=>?_
    refine Rk 5 3 [tI 3 (IntKind.i64.wrap (x_v11+x16)),tI 4 x_v10,tP 1 0 0] aq z fun bf ar=>?_
    refine wf (Aa (Rk 0 3 [tI 4 (IntKind.i64.wrap (x_v10+1)),tI 3 (IntKind.i64.wrap (x_v11+x16)),tP 1 0 0] ar z fun bg au=>?_))
    refine wf ?_
    exact XY ab ⟨Nat.lt_succ_self _,XY (IntKind.i64.wrap (x_v10+1)) ⟨IntKind.i64.wrap (x_v11+x16),_,_,rfl,(au.keep [4,3,1] (by rfl)).cut 1 (by kernel_rfl),z.cutPl 1 (by kernel_rfl),y,k⟩⟩
   ·
    rw [u,XV] at k
    refine wp_exit ?_
    obtain rfl:=XZ k
    exact XY _ ⟨_,rfl,x.kp,p,y⟩
 ·
  rintro _ bi ⟨ac,s,rfl,av,ag,a7⟩
  refine XT (Aa (Rk 0 2 [tI 2 q] av ag fun bh aw=>?_))
  refine wf (wp_ret ?_)
  obtain rfl:=XZ H
  exact rt (.one (.c (.int .i64 q))) aw ag rfl
abbrev IN (d:Option Addr) (a:Am) (g:Nat) (e:Option Addr) (i:Nat) (f:Option Addr) (k:Nat):List SC:=[.slice d a.holds.length g,.slice e a.turns.length i,.slice f a.spares.length k]
set_option maxRecDepth 100000 in
set_option maxHeartbeats 4000000 in
theorem FZ (n:Nat) {h:Ae} {w:World} (hh:Dn h w) (a:Am) {cs_a:List Value} (hx_a:rep h a cs_a) {r:Int} (H:Et n a=some r) :
  Calls Try.prog 33 #[.agg cs_a.toArray] w (Dp (fun h v=>v=.int .i64 r) h w):=by
 obtain⟨_,_,rfl,⟨d,g,rfl,ac⟩,⟨_,_,rfl,⟨e,i,rfl,p⟩,⟨f,k,rfl,q⟩⟩⟩:=hx_a
 refine enter 44 [.agg (IN d a g e i f k)] Try.func33 rfl rfl rfl rfl fun t hk=>?_
 have hm:=Ah.begin h w hh
 unfold Et at H
 refine XT (Aa (wl fun K hK=>?_))
 refine wb (.agg (IN d a g e i f k)) hk hm fun b cr cx (bs:Kn 44 [(b,0)] [tP 1 0 0,tA 0 (IN d a g e i f k)] cr) (ai:Ah ⟨w,h,Aj⟩ h [(b,0)] [⟨IN d a g e i f k,some 50⟩] [] cx)=>hK _ _ ?_
 refine Rk 1 1 [tP 1 0 0] bs ai fun db bx=>?_
 refine wf (XT (Aa (Rk 0 1 [tI 3 0,tP 1 0 0] bx ai fun dc bz=>?_)))
 refine wf (XT (XT (Aa (Rk 0 1 [tI 4 0,tI 3 0,tP 1 0 0] bz ai fun dd b0=>?_))))
 refine wf ?_
 obtain⟨an,bb,H⟩:=Aq H
 refine Av (fun a' w'=>∃ (a4:Array Value)(aa:Ae),a' = ⟨a4,[]⟩∧Kn 44 [(b,0)] [tI 3 an,tP 1 0 0] a4∧Ah ⟨w,h,Aj⟩ aa [(b,0)] [⟨IN d a g e i f k,some 50⟩] [] w'∧Ae.le h aa) ?_ ?_
 ·
  refine wp_block ?_
  refine Ar (fun cp a' w'=>∃ (x_v10:Int)(x_v11:Int)(a5:Array Value)(ab:Ae),a' = ⟨a5,[]⟩∧Kn 44 [(b,0)] [tI 4 x_v10,tI 3 x_v11,tP 1 0 0] a5∧Ah ⟨w,h,Aj⟩ ab [(b,0)] [⟨IN d a g e i f k,some 50⟩] [] w'∧Ae.le h ab∧CH cp a x_v10 x_v11=some an) n ?_ ?_
  ·
   exact XY 0 ⟨0,_,_,rfl,b0.kp,ai,Ae.le_refl _,bb⟩
  ·
   rintro am _ cy ⟨x_v10,x_v11,a5,ab,rfl,b1,aj,u,l⟩
   clear bb
   obtain _ | am:=am
   ·
    rw [CH] at l; cases l
   rw [CH] at l
   replace ac:=ac.mono u
   replace p:=p.mono u
   replace q:=q.mono u
   refine XT (XT (Aa (Rk 0 5 [tB 10 (decide (x_v10<((a.holds.length:Nat):Int))),tI 4 x_v10,tI 3 x_v11,tP 1 0 0] b1 aj fun de az=>?_)))
   refine wf (wC (decide (x_v10<((a.holds.length:Nat):Int))) az (fun au=>?_) (fun au=>?_))
   ·
    rw [au,XW] at l
    refine wp_skip (XT (wp_block (XT (XT (Aa (Rk 0 3 [tI 15 x_v10,tS 14 d a.holds.length g,tI 4 x_v10,tI 3 x_v11,tP 1 0 0] az aj fun df b2=>?_))))))
    obtain⟨x16,ex16,l⟩:=Aq l
    obtain⟨ce,ch,cn⟩:=Ai ex16
    obtain⟨s,z,c1,bj,ck,bm⟩:=ac.get (by decide) cn
    obtain rfl:=ck
    have ak:Ah ⟨w,h,Aj⟩ ab [(b,0),(s,z+(x_v10:Int).toNat*1)] [⟨IN d a g e i f k,some 50⟩,⟨[.int .i64 x16],none⟩] [] cy:=aj.addPlc (cs:=[.int .i64 x16]) (fun j c hj=>bm j _ (Al hj)) rfl (by kernel_rfl) (by kernel_rfl)
    refine Bc 3 (x_v10) rfl rfl (rfl) rfl (by decide) b2 (by rfl) (by rfl) (by rfl) bj (by rfl) ce ch (by kernel_rfl) fun cu (b3:Kn 44 [(b,0),(s,z+(x_v10:Int).toNat*1)] [tP 16 1 0,tI 15 x_v10,tS 14 d a.holds.length g,tI 4 x_v10,tI 3 x_v11,tP 1 0 0] cu)=>?_
    refine Rk 4 2 [tB 18 (decide (x16>0)),tI 4 x_v10,tI 3 x_v11,tP 1 0 0] b3 ak fun dg a0=>?_
    refine wf ?_
    obtain⟨o,ad,l⟩:=Aq l
    refine Av (fun a' w'=>∃ (a6:Array Value)(ae:Ae),a' = ⟨a6,[]⟩∧Kn 44 [(b,0),(s,z+(x_v10:Int).toNat*1)] [tI 4 x_v10,tI 3 o,tP 1 0 0] a6∧Ah ⟨w,h,Aj⟩ ae [(b,0),(s,z+(x_v10:Int).toNat*1)] [⟨IN d a g e i f k,some 50⟩,⟨[.int .i64 x16],none⟩] [] w'∧Ae.le ab ae) ?_ ?_
    ·
     refine wC (decide (x16>0)) a0 (fun av=>?_) (fun av=>?_)
     ·
      rw [av,XW] at ad
      refine Aa (Rk 0 3 [tI 3 (IntKind.i64.wrap (x_v11+1)),tI 4 x_v10,tP 1 0 0] a0 ak fun dh b4=>?_)
      refine wf ?_
      obtain rfl:=XZ ad
      exact XY _ ⟨_,rfl,b4.kp,ak,Ae.le_refl _⟩
     ·
      rw [av,XV] at ad
      refine wp_skip ?_
      obtain rfl:=XZ ad
      exact XY _ ⟨_,rfl,a0.kp,ak,Ae.le_refl _⟩
    ·
     rintro _ cz ⟨a6,ae,rfl,b5,be,a2⟩
     replace p:=p.mono a2
     refine XT (Aa (Rk 0 3 [tI 23 x_v10,tS 22 e a.turns.length i,tI 4 x_v10,tI 3 o,tP 1 0 0] b5 be fun di b6=>?_))
     obtain⟨x24,ex24,l⟩:=Aq l
     obtain⟨cf,ci,co⟩:=Ai ex24
     obtain⟨ba,bh,c2,bk,cl,bn⟩:=p.get (by decide) co
     obtain rfl:=cl
     have y:Ah ⟨w,h,Aj⟩ ae [(b,0),(s,z+(x_v10:Int).toNat*1),(ba,bh+(x_v10:Int).toNat*1)] [⟨IN d a g e i f k,some 50⟩,⟨[.int .i64 x16],none⟩,⟨[.int .i64 x24],none⟩] [] cz:=be.addPlc (cs:=[.int .i64 x24]) (fun j c hj=>bn j _ (Al hj)) rfl (by kernel_rfl) (by kernel_rfl)
     refine Bc 3 (x_v10) rfl rfl (rfl) rfl (by decide) b6 (by rfl) (by rfl) (by rfl) bk (by rfl) cf ci (by kernel_rfl) fun cv (b7:Kn 44 [(b,0),(s,z+(x_v10:Int).toNat*1),(ba,bh+(x_v10:Int).toNat*1)] [tP 24 2 0,tI 23 x_v10,tS 22 e a.turns.length i,tI 4 x_v10,tI 3 o,tP 1 0 0] cv)=>?_
     refine Rk 4 2 [tB 26 (decide (x24≥0)),tI 4 x_v10,tI 3 o,tP 1 0 0] b7 y fun dj a1=>?_
     refine wf (wC (decide (x24≥0)) a1 (fun aw=>?_) (fun aw=>?_))
     ·
      rw [aw,XW] at l
      refine Aa (Rk 0 3 [tI 3 (IntKind.i64.wrap (o+1)),tI 4 x_v10,tP 1 0 0] a1 y fun dk b8=>?_)
      refine wf (Aa (Rk 0 3 [tI 4 (IntKind.i64.wrap (x_v10+1)),tI 3 (IntKind.i64.wrap (o+1)),tP 1 0 0] b8 y fun dl b9=>?_))
      refine wf ?_
      exact XY am ⟨Nat.lt_succ_self _,XY (IntKind.i64.wrap (x_v10+1)) ⟨IntKind.i64.wrap (o+1),_,_,rfl,(b9.keep [4,3,1] (by rfl)).cut 1 (by kernel_rfl),y.cutPl 1 (by kernel_rfl),XU u a2,l⟩⟩
     ·
      rw [aw,XV] at l
      refine wp_skip (Aa (Rk 0 3 [tI 4 (IntKind.i64.wrap (x_v10+1)),tI 3 o,tP 1 0 0] a1 y fun dm ca=>?_))
      refine wf ?_
      exact XY am ⟨Nat.lt_succ_self _,XY (IntKind.i64.wrap (x_v10+1)) ⟨o,_,_,rfl,(ca.keep [4,3,1] (by rfl)).cut 1 (by kernel_rfl),y.cutPl 1 (by kernel_rfl),XU u a2,l⟩⟩
   ·
    rw [au,XV] at l
    refine wp_exit ?_
    obtain rfl:=XZ l
    exact XY _ ⟨_,rfl,az.kp,aj,u⟩
 ·
  rintro _ dq ⟨a4,aa,rfl,cb,bf,a3⟩
  replace ac:=ac.mono a3
  replace p:=p.mono a3
  replace q:=q.mono a3
  refine XT (XT (Aa (Rk 0 1 [tI 5 0,tI 3 an,tP 1 0 0] cb bf fun dn cc=>?_)))
  refine wf ?_
  obtain⟨ao,bc,H⟩:=Aq H
  refine Av (fun a' w'=>∃ (a7:Array Value)(ap:Ae),a' = ⟨a7,[]⟩∧Kn 44 [(b,0)] [tI 3 ao] a7∧Ah ⟨w,h,Aj⟩ ap [(b,0)] [⟨IN d a g e i f k,some 50⟩] [] w'∧Ae.le aa ap) ?_ ?_
  ·
   refine wp_block ?_
   refine Ar (fun cq a' w'=>∃ (x_v20:Int)(x_v21:Int)(a8:Array Value)(af:Ae),a' = ⟨a8,[]⟩∧Kn 44 [(b,0)] [tI 5 x_v20,tI 3 x_v21,tP 1 0 0] a8∧Ah ⟨w,h,Aj⟩ af [(b,0)] [⟨IN d a g e i f k,some 50⟩] [] w'∧Ae.le aa af∧CI cq a x_v20 x_v21=some ao) n ?_ ?_
   ·
    exact XY 0 ⟨an,_,_,rfl,cc.kp,bf,Ae.le_refl _,bc⟩
   ·
    rintro al _ cw ⟨x_v20,x_v21,a8,af,rfl,bo,ah,ag,m⟩
    clear bc
    obtain _ | al:=al
    ·
     rw [CI] at m; cases m
    rw [CI] at m
    replace q:=q.mono ag
    refine XT (XT (Aa (Rk 0 5 [tB 33 (decide (x_v20<((a.spares.length:Nat):Int))),tI 5 x_v20,tI 3 x_v21,tP 1 0 0] bo ah fun c4 ax=>?_)))
    refine wf (wC (decide (x_v20<((a.spares.length:Nat):Int))) ax (fun aq=>?_) (fun aq=>?_))
    ·
     rw [aq,XW] at m
     refine wp_skip (XT (wp_block (XT (Aa (Rk 0 3 [tI 38 x_v20,tS 37 f a.spares.length k,tI 5 x_v20,tI 3 x_v21,tP 1 0 0] ax ah fun c5 bp=>?_)))))
     obtain⟨x39,ex39,m⟩:=Aq m
     obtain⟨cd,cg,cm⟩:=Ai ex39
     obtain⟨a9,bg,c0,bi,cj,bl⟩:=q.get (by decide) cm
     obtain rfl:=cj
     have x:Ah ⟨w,h,Aj⟩ af [(b,0),(a9,bg+(x_v20:Int).toNat*1)] [⟨IN d a g e i f k,some 50⟩,⟨[.bool x39],none⟩] [] cw:=ah.addPlc (cs:=[.bool x39]) (fun j c hj=>bl j _ (Al hj)) rfl (by kernel_rfl) (by kernel_rfl)
     refine Bc 3 (x_v20) rfl rfl (rfl) rfl (by decide) bp (by rfl) (by rfl) (by rfl) bi (by rfl) cd cg (by kernel_rfl) fun ct (bq:Kn 44 [(b,0),(a9,bg+(x_v20:Int).toNat*1)] [tP 39 1 0,tI 38 x_v20,tS 37 f a.spares.length k,tI 5 x_v20,tI 3 x_v21,tP 1 0 0] ct)=>?_
     refine Rk 4 1 [tB 40 x39,tI 5 x_v20,tI 3 x_v21,tP 1 0 0] bq x fun c6 ay=>?_
     refine wf (wC (x39) ay (fun ar=>?_) (fun ar=>?_))
     ·
      rw [ar,XW] at m
      refine Aa (Rk 0 3 [tI 3 (IntKind.i64.wrap (x_v21+1)),tI 5 x_v20,tP 1 0 0] ay x fun c7 br=>?_)
      refine wf (Aa (Rk 0 3 [tI 5 (IntKind.i64.wrap (x_v20+1)),tI 3 (IntKind.i64.wrap (x_v21+1)),tP 1 0 0] br x fun c8 bt=>?_))
      refine wf ?_
      exact XY al ⟨Nat.lt_succ_self _,XY (IntKind.i64.wrap (x_v20+1)) ⟨IntKind.i64.wrap (x_v21+1),_,_,rfl,(bt.keep [5,3,1] (by rfl)).cut 1 (by kernel_rfl),x.cutPl 1 (by kernel_rfl),ag,m⟩⟩
     ·
      rw [ar,XV] at m
      refine wp_skip (Aa (Rk 0 3 [tI 5 (IntKind.i64.wrap (x_v20+1)),tI 3 x_v21,tP 1 0 0] ay x fun c9 bu=>?_))
      refine wf ?_
      exact XY al ⟨Nat.lt_succ_self _,XY (IntKind.i64.wrap (x_v20+1)) ⟨x_v21,_,_,rfl,(bu.keep [5,3,1] (by rfl)).cut 1 (by kernel_rfl),x.cutPl 1 (by kernel_rfl),ag,m⟩⟩
    ·
     rw [aq,XV] at m
     refine wp_exit ?_
     obtain rfl:=XZ m
     exact XY _ ⟨_,rfl,ax.kp,ah,ag⟩
  ·
   rintro _ dp ⟨a7,ap,rfl,bv,bd,c3⟩
   refine XT (Aa (Rk 0 2 [tI 2 ao] bv bd fun da bw=>?_))
   refine wf (wp_ret ?_)
   obtain rfl:=XZ H
   exact rt (.one (.c (.int .i64 ao))) bw bd rfl
abbrev Rf:List SC:=[.slice none 0 0,.int .i64 0,.int .i64 0,.slice none 0 0,.slice none 0 0,.int .i64 0,.int .i64 0,.int .i64 0,.int .i64 0]
abbrev MW (a b c:Option Addr):List SC:=[.slice a 3 3,.int .i64 0,.int .i64 4,.slice b 2 2,.slice c 1 1,.int .i64 5,.int .i64 37,.int .i64 0,.int .i64 50]
abbrev U2 (a b c:Option Addr):List F2:=[⟨a,3,3,39,2,([.int .i64 10,.int .i64 10,.int .i64 5,.int .i64 15,.int .i64 10,.int .i64 12]:List Value),0⟩,⟨b,2,2,96,3,([.int .i64 0,.int .i64 0,.int .i64 0,.int .i64 0,.int .i64 10,.int .i64 20]:List Value),0⟩,⟨c,1,1,110,2,([.int .i64 2,.int .i64 40]:List Value),0⟩]
abbrev S1 (a:Option Addr):TM:=[tA 5 [.int .i64 0,.int .i64 4],tS 4 a 3 3,tP 0 0 0]
set_option maxRecDepth 100000 in
set_option maxHeartbeats 4000000 in
theorem JE (n:Nat) {h:Ae} {w:World} (hh:Dn h w)  {r:Af} (H:Ju n =some r) :
  Calls Try.prog 45 #[] w (Dp (fun h v=>∃ cs,v=.agg cs.toArray∧rep h r cs) h w):=by
 refine enter 13 [] Try.func45 rfl rfl rfl rfl fun t hk=>?_
 have hm:=Ah.begin h w hh
 unfold Ju at H
 refine XT (Aa (wl fun K hK=>?_))
 refine wa Rf hk hm fun d aw a3 (an:Kn 13 [(d,0)] [tP 0 0 0] aw) (ae:Ah ⟨w,h,Aj⟩ h [(d,0)] [⟨Rf,some 43⟩] [] a3)=>hK _ _ ?_
 refine wf (XT (Aa (Rk 0 3 [tA 3 [.int .i64 10,.int .i64 12],tA 2 [.int .i64 5,.int .i64 15],tA 1 [.int .i64 10,.int .i64 10],tP 0 0 0] an ae fun a6 ao=>?_)))
 refine wl fun K hK=>?_
 refine wS 39 2 [.int .i64 10,.int .i64 10,.int .i64 5,.int .i64 15,.int .i64 10,.int .i64 12] ao ae fun a az a0 (af:Kn 13 [(d,0)] [tS 4 a 3 3,tA 3 [.int .i64 10,.int .i64 12],tA 2 [.int .i64 5,.int .i64 15],tA 1 [.int .i64 10,.int .i64 10],tP 0 0 0] az) (aa:Ah ⟨w,h,Aj⟩ h [(d,0)] [⟨Rf,some 43⟩] [⟨a,3,3,39,2,([.int .i64 10,.int .i64 10,.int .i64 5,.int .i64 15,.int .i64 10,.int .i64 12]:List Value),0⟩] a0)=>?_
 have k:Ag h ([Rg.mk 10 10,Rg.mk 5 15,Rg.mk 10 12]:List Rg) ([.int .i64 10,.int .i64 10,.int .i64 5,.int .i64 15,.int .i64 10,.int .i64 12]:List Value):=⟨_,_,rfl,((Ab Ac Ac):rep h ((Rg.mk 10 10):Rg) _),⟨_,_,rfl,((Ab Ac Ac):rep h ((Rg.mk 5 15):Rg) _),⟨_,_,rfl,((Ab Ac Ac):rep h ((Rg.mk 10 12):Rg) _),rfl⟩⟩⟩
 refine hK _ _ ?_
 refine Rk 4 4 ((tA 8 [.int .i64 0,.int .i64 10,.int .i64 20])::(tA 6 [.int .i64 0,.int .i64 0,.int .i64 0])::(S1 a)) af aa fun a4 ag=>?_
 refine wl fun K hK=>?_
 refine wS 96 3 [.int .i64 0,.int .i64 0,.int .i64 0,.int .i64 0,.int .i64 10,.int .i64 20] ag aa fun b av a1 (ah:Kn 13 [(d,0)] ((tS 9 b 2 2)::(tA 8 [.int .i64 0,.int .i64 10,.int .i64 20])::(tA 6 [.int .i64 0,.int .i64 0,.int .i64 0])::(S1 a)) av) (ab:Ah ⟨w,h,Aj⟩ h [(d,0)] [⟨Rf,some 43⟩] [⟨a,3,3,39,2,([.int .i64 10,.int .i64 10,.int .i64 5,.int .i64 15,.int .i64 10,.int .i64 12]:List Value),0⟩,⟨b,2,2,96,3,([.int .i64 0,.int .i64 0,.int .i64 0,.int .i64 0,.int .i64 10,.int .i64 20]:List Value),0⟩] a1)=>?_
 have l:Ag h ([Cy.mk 0 (Rg.mk 0 0),Cy.mk 0 (Rg.mk 10 20)]:List Cy) ([.int .i64 0,.int .i64 0,.int .i64 0,.int .i64 0,.int .i64 10,.int .i64 20]:List Value):=⟨_,_,rfl,((Ab Ac (Ab Ac Ac)):rep h ((Cy.mk 0 (Rg.mk 0 0)):Cy) _),⟨_,_,rfl,((Ab Ac (Ab Ac Ac)):rep h ((Cy.mk 0 (Rg.mk 10 20)):Cy) _),rfl⟩⟩
 refine hK _ _ ?_
 refine Rk 9 1 ((tA 10 [.int .i64 2,.int .i64 40])::(tS 9 b 2 2)::(S1 a)) ah ab fun a5 ai=>?_
 refine wl fun K hK=>?_
 refine wS 110 2 [.int .i64 2,.int .i64 40] ai ab fun c ax a2 (aj:Kn 13 [(d,0)] ((tS 11 c 1 1)::(tA 10 [.int .i64 2,.int .i64 40])::(tS 9 b 2 2)::(S1 a)) ax) (ac:Ah ⟨w,h,Aj⟩ h [(d,0)] [⟨Rf,some 43⟩] (U2 a b c) a2)=>?_
 have m:Ag h ([A7.mk 2 40]:List A7) ([.int .i64 2,.int .i64 40]:List Value):=⟨_,_,rfl,((Ab Ac Ac):rep h ((A7.mk 2 40):A7) _),rfl⟩
 refine hK _ _ ?_
 refine Rk 11 1 [tA 12 (MW a b c),tP 0 0 0] aj ac fun ay ak=>?_
 refine wl fun K hK=>?_
 refine G2 0 0 (.agg (MW a b c)) (MW a b c) ak ac fun g al (ad:Ah ⟨w,h,Aj⟩ h [(d,0)] [⟨MW a b c,some 43⟩] (U2 a b c) g)=>hK _ _ ?_
 have am:Kn 13 [(d,0)] [tP 0 0 0] ay:=al.kp
 refine wf (wp_ret ?_)
 obtain⟨y,o,aq,e⟩:=ad.settle (i:=0) rfl
 replace k:=k.mono o
 replace e:Ah ⟨w,h,Aj⟩ y [(d,0)] [⟨MW a b c,some 43⟩] [⟨a,3,3,39,2,([.int .i64 10,.int .i64 10,.int .i64 5,.int .i64 15,.int .i64 10,.int .i64 12]:List Value),(([.int .i64 10,.int .i64 10,.int .i64 5,.int .i64 15,.int .i64 10,.int .i64 12]:List Value):List Value).length⟩,⟨b,2,2,96,3,([.int .i64 0,.int .i64 0,.int .i64 0,.int .i64 0,.int .i64 10,.int .i64 20]:List Value),0⟩,⟨c,1,1,110,2,([.int .i64 2,.int .i64 40]:List Value),0⟩] g:=e
 have u:A6 y a 3 ([Rg.mk 10 10,Rg.mk 5 15,Rg.mk 10 12]:List Rg):=⟨_,k,aq,ad.rowCap (i:=0) rfl⟩
 obtain⟨z,p,ar,f⟩:=e.settle (i:=1) rfl
 replace l:=l.mono (XU o p)
 replace f:Ah ⟨w,h,Aj⟩ z [(d,0)] [⟨MW a b c,some 43⟩] [⟨a,3,3,39,2,([.int .i64 10,.int .i64 10,.int .i64 5,.int .i64 15,.int .i64 10,.int .i64 12]:List Value),(([.int .i64 10,.int .i64 10,.int .i64 5,.int .i64 15,.int .i64 10,.int .i64 12]:List Value):List Value).length⟩,⟨b,2,2,96,3,([.int .i64 0,.int .i64 0,.int .i64 0,.int .i64 0,.int .i64 10,.int .i64 20]:List Value),(([.int .i64 0,.int .i64 0,.int .i64 0,.int .i64 0,.int .i64 10,.int .i64 20]:List Value):List Value).length⟩,⟨c,1,1,110,2,([.int .i64 2,.int .i64 40]:List Value),0⟩] g:=f
 have x:A6 z b 2 ([Cy.mk 0 (Rg.mk 0 0),Cy.mk 0 (Rg.mk 10 20)]:List Cy):=⟨_,l,ar,e.rowCap (i:=1) rfl⟩
 obtain⟨j,q,au,s⟩:=f.settle (i:=2) rfl
 replace u:=u.mono (XU p q)
 replace x:=x.mono q
 replace m:=m.mono (XU (XU o p) q)
 replace s:Ah ⟨w,h,Aj⟩ j [(d,0)] [⟨MW a b c,some 43⟩] [⟨a,3,3,39,2,([.int .i64 10,.int .i64 10,.int .i64 5,.int .i64 15,.int .i64 10,.int .i64 12]:List Value),(([.int .i64 10,.int .i64 10,.int .i64 5,.int .i64 15,.int .i64 10,.int .i64 12]:List Value):List Value).length⟩,⟨b,2,2,96,3,([.int .i64 0,.int .i64 0,.int .i64 0,.int .i64 0,.int .i64 10,.int .i64 20]:List Value),(([.int .i64 0,.int .i64 0,.int .i64 0,.int .i64 0,.int .i64 10,.int .i64 20]:List Value):List Value).length⟩,⟨c,1,1,110,2,([.int .i64 2,.int .i64 40]:List Value),(([.int .i64 2,.int .i64 40]:List Value):List Value).length⟩] g:=s
 have ap:A6 j c 1 ([A7.mk 2 40]:List A7):=⟨_,m,au,f.rowCap (i:=2) rfl⟩
 obtain rfl:=XZ H
 exact rt (.one (.agg (MW a b c))) am s ⟨_,rfl,((Ab (Ad u) (Ab (Ab Ac Ac) (Ab (Ad x) (Ab (Ad ap) (Ab Ac (Ab Ac (Ab Ac Ac))))))):rep j ((Af.mk ([Rg.mk 10 10,Rg.mk 5 15,Rg.mk 10 12]:List Rg) (Rg.mk 0 4) ([Cy.mk 0 (Rg.mk 0 0),Cy.mk 0 (Rg.mk 10 20)]:List Cy) ([A7.mk 2 40]:List A7) 5 37 0 50):Af) _)⟩
abbrev MX (a b c:Option Addr):List SC:=[.slice a 2 2,.slice b 2 2,.slice c 1 1]
abbrev Rh:List SC:=[.slice none 0 0,.slice none 0 0,.slice none 0 0]
abbrev U3 (a b c:Option Addr):List F2:=[⟨a,2,2,3,1,([.int .i64 0,.int .i64 0]:List Value),0⟩,⟨b,2,2,3,1,([.int .i64 (-1),.int .i64 (-1)]:List Value),0⟩,⟨c,1,1,4,1,([.bool false]:List Value),0⟩]
set_option maxRecDepth 100000 in
set_option maxHeartbeats 4000000 in
theorem Ri (n:Nat) {h:Ae} {w:World} (hh:Dn h w)  {r:Am} (H:NB n =some r) :
  Calls Try.prog 46 #[] w (Dp (fun h v=>∃ cs,v=.agg cs.toArray∧rep h r cs) h w):=by
 refine enter 5 [] Try.func46 rfl rfl rfl rfl fun t hk=>?_
 have hm:=Ah.begin h w hh
 unfold NB at H
 refine XT (Aa (wl fun K hK=>?_))
 refine wa Rh hk hm fun d au az (ah:Kn 5 [(d,0)] [tP 0 0 0] au) (al:Ah ⟨w,h,Aj⟩ h [(d,0)] [⟨Rh,some 34⟩] [] az)=>hK _ _ ?_
 refine wf (XT (Aa (wl fun K hK=>?_)))
 refine wS 3 1 [.int .i64 0,.int .i64 0] ah al fun a aw a0 (ai:Kn 5 [(d,0)] [tS 1 a 2 2,tP 0 0 0] aw) (aj:Ah ⟨w,h,Aj⟩ h [(d,0)] [⟨Rh,some 34⟩] [⟨a,2,2,3,1,([.int .i64 0,.int .i64 0]:List Value),0⟩] a0)=>?_
 have k:Ag h ([0,0]:List Int) ([.int .i64 0,.int .i64 0]:List Value):=⟨_,_,rfl,(Ac:rep h (0:Int) _),⟨_,_,rfl,(Ac:rep h (0:Int) _),rfl⟩⟩
 refine hK _ _ ?_
 refine wl fun K hK=>?_
 refine wS 3 1 [.int .i64 (-1),.int .i64 (-1)] ai aj fun b aq ax (ac:Kn 5 [(d,0)] [tS 2 b 2 2,tS 1 a 2 2,tP 0 0 0] aq) (ak:Ah ⟨w,h,Aj⟩ h [(d,0)] [⟨Rh,some 34⟩] [⟨a,2,2,3,1,([.int .i64 0,.int .i64 0]:List Value),0⟩,⟨b,2,2,3,1,([.int .i64 (-1),.int .i64 (-1)]:List Value),0⟩] ax)=>?_
 have l:Ag h ([(-1),(-1)]:List Int) ([.int .i64 (-1),.int .i64 (-1)]:List Value):=⟨_,_,rfl,(Ac:rep h ((-1):Int) _),⟨_,_,rfl,(Ac:rep h ((-1):Int) _),rfl⟩⟩
 refine hK _ _ ?_
 refine wl fun K hK=>?_
 refine wS 4 1 [.bool false] ac ak fun c ar ay (ad:Kn 5 [(d,0)] [tS 3 c 1 1,tS 2 b 2 2,tS 1 a 2 2,tP 0 0 0] ar) (aa:Ah ⟨w,h,Aj⟩ h [(d,0)] [⟨Rh,some 34⟩] (U3 a b c) ay)=>?_
 have m:Ag h ([false]:List Bool) ([.bool false]:List Value):=⟨_,_,rfl,(Bo:rep h (false:Bool) _),rfl⟩
 refine hK _ _ ?_
 refine Rk 3 1 [tA 4 (MX a b c),tP 0 0 0] ad aa fun av ae=>?_
 refine wl fun K hK=>?_
 refine G2 0 0 (.agg (MX a b c)) (MX a b c) ae aa fun g af (ab:Ah ⟨w,h,Aj⟩ h [(d,0)] [⟨MX a b c,some 34⟩] (U3 a b c) g)=>hK _ _ ?_
 have ag:Kn 5 [(d,0)] [tP 0 0 0] av:=af.kp
 refine wf (wp_ret ?_)
 obtain⟨y,o,an,e⟩:=ab.settle (i:=0) rfl
 replace k:=k.mono o
 replace e:Ah ⟨w,h,Aj⟩ y [(d,0)] [⟨MX a b c,some 34⟩] [⟨a,2,2,3,1,([.int .i64 0,.int .i64 0]:List Value),(([.int .i64 0,.int .i64 0]:List Value):List Value).length⟩,⟨b,2,2,3,1,([.int .i64 (-1),.int .i64 (-1)]:List Value),0⟩,⟨c,1,1,4,1,([.bool false]:List Value),0⟩] g:=e
 have u:A6 y a 2 ([0,0]:List Int):=⟨_,k,an,ab.rowCap (i:=0) rfl⟩
 obtain⟨z,p,ao,f⟩:=e.settle (i:=1) rfl
 replace l:=l.mono (XU o p)
 replace f:Ah ⟨w,h,Aj⟩ z [(d,0)] [⟨MX a b c,some 34⟩] [⟨a,2,2,3,1,([.int .i64 0,.int .i64 0]:List Value),(([.int .i64 0,.int .i64 0]:List Value):List Value).length⟩,⟨b,2,2,3,1,([.int .i64 (-1),.int .i64 (-1)]:List Value),(([.int .i64 (-1),.int .i64 (-1)]:List Value):List Value).length⟩,⟨c,1,1,4,1,([.bool false]:List Value),0⟩] g:=f
 have x:A6 z b 2 ([(-1),(-1)]:List Int):=⟨_,l,ao,e.rowCap (i:=1) rfl⟩
 obtain⟨j,q,ap,s⟩:=f.settle (i:=2) rfl
 replace u:=u.mono (XU p q)
 replace x:=x.mono q
 replace m:=m.mono (XU (XU o p) q)
 replace s:Ah ⟨w,h,Aj⟩ j [(d,0)] [⟨MX a b c,some 34⟩] [⟨a,2,2,3,1,([.int .i64 0,.int .i64 0]:List Value),(([.int .i64 0,.int .i64 0]:List Value):List Value).length⟩,⟨b,2,2,3,1,([.int .i64 (-1),.int .i64 (-1)]:List Value),(([.int .i64 (-1),.int .i64 (-1)]:List Value):List Value).length⟩,⟨c,1,1,4,1,([.bool false]:List Value),(([.bool false]:List Value):List Value).length⟩] g:=s
 have am:A6 j c 1 ([false]:List Bool):=⟨_,m,ap,f.rowCap (i:=2) rfl⟩
 obtain rfl:=XZ H
 exact rt (.one (.agg (MX a b c))) ag s ⟨_,rfl,((Ab (Ad u) (Ab (Ad x) (Ad am))):rep j ((Am.mk ([0,0]:List Int) ([(-1),(-1)]:List Int) ([false]:List Bool)):Am) _)⟩
abbrev MY (a b c:Option Addr):List SC:=[.slice a 2 2,.slice b 2 2,.slice c 1 1]
abbrev Rj:List SC:=[.slice none 0 0,.slice none 0 0,.slice none 0 0]
abbrev U4 (a b c:Option Addr):List F2:=[⟨a,2,2,3,1,([.int .i64 0,.int .i64 1]:List Value),0⟩,⟨b,2,2,3,1,([.int .i64 (-1),.int .i64 (-1)]:List Value),0⟩,⟨c,1,1,4,1,([.bool false]:List Value),0⟩]
set_option maxRecDepth 100000 in
set_option maxHeartbeats 4000000 in
theorem Rl (n:Nat) {h:Ae} {w:World} (hh:Dn h w)  {r:Am} (H:NC n =some r) :
  Calls Try.prog 48 #[] w (Dp (fun h v=>∃ cs,v=.agg cs.toArray∧rep h r cs) h w):=by
 refine enter 5 [] Try.func48 rfl rfl rfl rfl fun t hk=>?_
 have hm:=Ah.begin h w hh
 unfold NC at H
 refine XT (Aa (wl fun K hK=>?_))
 refine wa Rj hk hm fun d au az (ah:Kn 5 [(d,0)] [tP 0 0 0] au) (al:Ah ⟨w,h,Aj⟩ h [(d,0)] [⟨Rj,some 34⟩] [] az)=>hK _ _ ?_
 refine wf (XT (Aa (wl fun K hK=>?_)))
 refine wS 3 1 [.int .i64 0,.int .i64 1] ah al fun a aw a0 (ai:Kn 5 [(d,0)] [tS 1 a 2 2,tP 0 0 0] aw) (aj:Ah ⟨w,h,Aj⟩ h [(d,0)] [⟨Rj,some 34⟩] [⟨a,2,2,3,1,([.int .i64 0,.int .i64 1]:List Value),0⟩] a0)=>?_
 have k:Ag h ([0,1]:List Int) ([.int .i64 0,.int .i64 1]:List Value):=⟨_,_,rfl,(Ac:rep h (0:Int) _),⟨_,_,rfl,(Ac:rep h (1:Int) _),rfl⟩⟩
 refine hK _ _ ?_
 refine wl fun K hK=>?_
 refine wS 3 1 [.int .i64 (-1),.int .i64 (-1)] ai aj fun b aq ax (ac:Kn 5 [(d,0)] [tS 2 b 2 2,tS 1 a 2 2,tP 0 0 0] aq) (ak:Ah ⟨w,h,Aj⟩ h [(d,0)] [⟨Rj,some 34⟩] [⟨a,2,2,3,1,([.int .i64 0,.int .i64 1]:List Value),0⟩,⟨b,2,2,3,1,([.int .i64 (-1),.int .i64 (-1)]:List Value),0⟩] ax)=>?_
 have l:Ag h ([(-1),(-1)]:List Int) ([.int .i64 (-1),.int .i64 (-1)]:List Value):=⟨_,_,rfl,(Ac:rep h ((-1):Int) _),⟨_,_,rfl,(Ac:rep h ((-1):Int) _),rfl⟩⟩
 refine hK _ _ ?_
 refine wl fun K hK=>?_
 refine wS 4 1 [.bool false] ac ak fun c ar ay (ad:Kn 5 [(d,0)] [tS 3 c 1 1,tS 2 b 2 2,tS 1 a 2 2,tP 0 0 0] ar) (aa:Ah ⟨w,h,Aj⟩ h [(d,0)] [⟨Rj,some 34⟩] (U4 a b c) ay)=>?_
 have m:Ag h ([false]:List Bool) ([.bool false]:List Value):=⟨_,_,rfl,(Bo:rep h (false:Bool) _),rfl⟩
 refine hK _ _ ?_
 refine Rk 3 1 [tA 4 (MY a b c),tP 0 0 0] ad aa fun av ae=>?_
 refine wl fun K hK=>?_
 refine G2 0 0 (.agg (MY a b c)) (MY a b c) ae aa fun g af (ab:Ah ⟨w,h,Aj⟩ h [(d,0)] [⟨MY a b c,some 34⟩] (U4 a b c) g)=>hK _ _ ?_
 have ag:Kn 5 [(d,0)] [tP 0 0 0] av:=af.kp
 refine wf (wp_ret ?_)
 obtain⟨y,o,an,e⟩:=ab.settle (i:=0) rfl
 replace k:=k.mono o
 replace e:Ah ⟨w,h,Aj⟩ y [(d,0)] [⟨MY a b c,some 34⟩] [⟨a,2,2,3,1,([.int .i64 0,.int .i64 1]:List Value),(([.int .i64 0,.int .i64 1]:List Value):List Value).length⟩,⟨b,2,2,3,1,([.int .i64 (-1),.int .i64 (-1)]:List Value),0⟩,⟨c,1,1,4,1,([.bool false]:List Value),0⟩] g:=e
 have u:A6 y a 2 ([0,1]:List Int):=⟨_,k,an,ab.rowCap (i:=0) rfl⟩
 obtain⟨z,p,ao,f⟩:=e.settle (i:=1) rfl
 replace l:=l.mono (XU o p)
 replace f:Ah ⟨w,h,Aj⟩ z [(d,0)] [⟨MY a b c,some 34⟩] [⟨a,2,2,3,1,([.int .i64 0,.int .i64 1]:List Value),(([.int .i64 0,.int .i64 1]:List Value):List Value).length⟩,⟨b,2,2,3,1,([.int .i64 (-1),.int .i64 (-1)]:List Value),(([.int .i64 (-1),.int .i64 (-1)]:List Value):List Value).length⟩,⟨c,1,1,4,1,([.bool false]:List Value),0⟩] g:=f
 have x:A6 z b 2 ([(-1),(-1)]:List Int):=⟨_,l,ao,e.rowCap (i:=1) rfl⟩
 obtain⟨j,q,ap,s⟩:=f.settle (i:=2) rfl
 replace u:=u.mono (XU p q)
 replace x:=x.mono q
 replace m:=m.mono (XU (XU o p) q)
 replace s:Ah ⟨w,h,Aj⟩ j [(d,0)] [⟨MY a b c,some 34⟩] [⟨a,2,2,3,1,([.int .i64 0,.int .i64 1]:List Value),(([.int .i64 0,.int .i64 1]:List Value):List Value).length⟩,⟨b,2,2,3,1,([.int .i64 (-1),.int .i64 (-1)]:List Value),(([.int .i64 (-1),.int .i64 (-1)]:List Value):List Value).length⟩,⟨c,1,1,4,1,([.bool false]:List Value),(([.bool false]:List Value):List Value).length⟩] g:=s
 have am:A6 j c 1 ([false]:List Bool):=⟨_,m,ap,f.rowCap (i:=2) rfl⟩
 obtain rfl:=XZ H
 exact rt (.one (.agg (MY a b c))) ag s ⟨_,rfl,((Ab (Ad u) (Ab (Ad x) (Ad am))):rep j ((Am.mk ([0,1]:List Int) ([(-1),(-1)]:List Int) ([false]:List Bool)):Am) _)⟩
abbrev DE (g:Option Addr) (r_:Af) (o:Nat) (l:Option Addr) (p:Nat) (m:Option Addr) (q:Nat):List SC:=[.slice g r_.legs.length o,.int .i64 r_.turn.lo,.int .i64 r_.turn.hi,.slice l r_.buses.length p,.slice m r_.spares.length q,.int .i64 r_.unit,.int .i64 r_.gap,.int .i64 r_.fr,.int .i64 r_.to_]
abbrev Ef (turned turn:Int) (a_legs:Option Addr) (legs:List Int) (c_legs:Nat):TM:=[tI 3 turned,tI 4 turn,tS 5 a_legs legs.length c_legs]
abbrev Gu (stop at_ turned turn:Int) (a_legs:Option Addr) (legs:List Int) (c_legs:Nat):TM:=(tP 6 0 0)::(tI 1 stop)::(tI 2 at_)::(Ef turned turn a_legs legs c_legs)
set_option maxRecDepth 100000 in
set_option maxHeartbeats 4000000 in
theorem K4 (n:Nat) {h:Ae} {w:World} (hh:Dn h w) (r_:Af) {cs_r_:List Value} (hx_r_:rep h r_ cs_r_) (stop:Int) (at_:Int) (turned:Int) (turn:Int) (legs:List Int) {a_legs:Option Addr} {c_legs:Nat} (hr_legs:A6 h a_legs c_legs legs) {r:List Int} (H:FN n r_ stop at_ turned turn legs=some r) :
  Calls Try.prog 107 #[.agg cs_r_.toArray,.int .i64 stop,.int .i64 at_,.int .i64 turned,.int .i64 turn,.slice a_legs legs.length c_legs] w (Dp (fun h v=>∃ a c,v=.slice a r.length c∧A6 h a c r) h w):=by
 obtain⟨_,_,rfl,⟨g,o,rfl,ah⟩,⟨_,_,rfl,⟨_,_,rfl,rfl,rfl⟩,⟨_,_,rfl,⟨l,p,rfl,ai⟩,⟨_,_,rfl,⟨m,q,rfl,aj⟩,⟨_,_,rfl,rfl,⟨_,_,rfl,rfl,⟨_,_,rfl,rfl,rfl⟩⟩⟩⟩⟩⟩⟩:=hx_r_
 refine enter 62 [.agg (DE g r_ o l p m q),.c (.int .i64 stop),.c (.int .i64 at_),.c (.int .i64 turned),.c (.int .i64 turn),.c (.slice a_legs legs.length c_legs)] Try.func107 rfl rfl rfl rfl fun t hk=>?_
 have hm:=Ah.begin h w hh
 unfold FN at H
 refine XT (Aa (wl fun K hK=>?_))
 refine wb (.agg (DE g r_ o l p m q)) hk hm fun d ee ek (c1:Kn 62 [(d,0)] ((tP 6 0 0)::(tA 0 (DE g r_ o l p m q))::(tI 1 stop)::(tI 2 at_)::(Ef turned turn a_legs legs c_legs)) ee) (a7:Ah ⟨w,h,Aj⟩ h [(d,0)] [⟨DE g r_ o l p m q,some 28⟩] [] ek)=>hK _ _ ?_
 refine Rk 1 1 (Gu stop at_ turned turn a_legs legs c_legs) c1 a7 fun e2 c7=>?_
 refine wf (XT (Aa (Rk 0 1 ((tA 16 (DE g r_ o l p m q))::(Gu stop at_ turned turn a_legs legs c_legs)) c7 a7 fun e7 db=>?_)))
 obtain⟨x17,ex17,H⟩:=Aq H
 refine wl fun K hK=>?_
 refine wc [.agg (DE g r_ o l p m q)] db a7 (GD n a7.has r_ ((Ab (Ad ah) (Ab (Ab Ac Ac) (Ab (Ad ai) (Ab (Ad aj) (Ab Ac (Ab Ac (Ab Ac Ac))))))):rep h r_ _) ex17) fun fk ax fm cq a5 dx=>?_
 replace ah:=ah.mono a5
 replace ai:=ai.mono a5
 replace aj:=aj.mono a5
 replace hr_legs:=hr_legs.mono a5
 obtain rfl:=cq
 refine⟨.one (.c (.int .i64 x17)),rfl,fun eh (di:Kn 62 [(d,0)] ((tI 17 x17)::(tA 16 (DE g r_ o l p m q))::(Gu stop at_ turned turn a_legs legs c_legs)) eh)=>hK _ _ ?_⟩
 obtain⟨x18,ex18,H⟩:=Aq H
 obtain⟨d1,d3,cj⟩:=So ex18
 refine wl fun K hK=>?_
 refine L0 3 1 8 [.int .i64 0] (x17) di dx rfl rfl (by decide) (by rfl) (by kernel_rfl) (by kernel_rfl) (by rfl) d1 d3 (by decide) fun au ei em (b5:Kn 62 [(d,0)] [(18,.one (.c (.slice au ((x17:Int).toNat) ((x17:Int).toNat)))),(17,.one (.c (.int .i64 x17))),(16,.one (.agg [.slice g r_.legs.length o,.int .i64 r_.turn.lo,.int .i64 r_.turn.hi,.slice l r_.buses.length p,.slice m r_.spares.length q,.int .i64 r_.unit,.int .i64 r_.gap,.int .i64 r_.fr,.int .i64 r_.to_])),(6,.one (.c (.ptr 0 0))),(1,.one (.c (.int .i64 stop))),(2,.one (.c (.int .i64 at_))),(3,.one (.c (.int .i64 turned))),(4,.one (.c (.int .i64 turn))),(5,.one (.c (.slice a_legs legs.length c_legs)))] ei) (a8:Ah ⟨w,h,Aj⟩ ax [(d,0)] [⟨[.slice g r_.legs.length o,.int .i64 r_.turn.lo,.int .i64 r_.turn.hi,.slice l r_.buses.length p,.slice m r_.spares.length q,.int .i64 r_.unit,.int .i64 r_.gap,.int .i64 r_.fr,.int .i64 r_.to_],some 28⟩] [⟨au,(x17:Int).toNat,(x17:Int).toNat,3,1,List.flatten (List.replicate (x17:Int).toNat ([.int .i64 0]:List Value)),0⟩] em)=>?_
 have b4:Ag ax x18 (List.flatten (List.replicate (x17:Int).toNat ([.int .i64 0]:List Value))):=by rw [cj]; exact Ag.replicate (Ac:rep ax (0:Int) _) _
 have b6:(x17:Int).toNat=x18.length:=by rw [cj]; simp
 rw [b6] at b5 a8
 skip
 rw [b6] at b4
 refine hK _ _ ?_
 refine Rk 3 1 ((tS 13 au x18.length x18.length)::(Gu stop at_ turned turn a_legs legs c_legs)) b5 a8 fun fd dj=>?_
 refine wf (XT (XT (Aa (Rk 0 1 ((tI 14 0)::(tS 13 au x18.length x18.length)::(Gu stop at_ turned turn a_legs legs c_legs)) dj a8 fun fe dk=>?_))))
 refine wf ?_
 obtain⟨ar,bz,H⟩:=Aq H
 refine Av (fun a' w'=>∃ (av:Option Addr)(aw:Nat)(a9:List Value)(bs:Array Value)(ap:Ae),a' = ⟨bs,[]⟩∧Kn 62 [(d,0)] ((tS 13 av ar.length aw)::(Gu stop at_ turned turn a_legs legs c_legs)) bs∧Ah ⟨w,h,Aj⟩ ap [(d,0)] [⟨DE g r_ o l p m q,some 28⟩] [⟨av,ar.length,aw,3,1,a9,0⟩] w'∧Ae.le ax ap∧Ag ap ar a9) ?_ ?_
 ·
  refine wp_block ?_
  refine Ar (fun ed a' w'=>∃ (x_v10:List Int)(x_v11:Int)(y:Option Addr)(z:Nat)(aa:List Value)(bt:Array Value)(ae:Ae),a' = ⟨bt,[]⟩∧Kn 62 [(d,0)] ((tI 14 x_v11)::(tS 13 y x_v10.length z)::(Gu stop at_ turned turn a_legs legs c_legs)) bt∧Ah ⟨w,h,Aj⟩ ae [(d,0)] [⟨DE g r_ o l p m q,some 28⟩] [⟨y,x_v10.length,z,3,1,aa,0⟩] w'∧Ae.le ax ae∧Ag ae x_v10 aa∧Dy ed  x_v10 x_v11=some ar) n ?_ ?_
  ·
   exact XY x18 ⟨0,au,x18.length,List.flatten (List.replicate x18.length ([.int .i64 0]:List Value)),_,_,rfl,dk.kp,a8,Ae.le_refl _,b4,bz⟩
  ·
   rintro bo _ en ⟨x_v10,x_v11,y,z,aa,bt,ae,rfl,dl,a2,b8,a0,ac⟩
   clear bz
   obtain _ | bo:=bo
   ·
    rw [Dy] at ac; cases ac
   rw [Dy] at ac
   refine XT (XT (Aa (Rk 0 4 ((tB 22 (decide (x_v11<((x_v10.length:Nat):Int))))::(tI 14 x_v11)::(tS 13 y x_v10.length z)::(Gu stop at_ turned turn a_legs legs c_legs)) dl a2 fun ff bi=>?_)))
   refine wf (wC (decide (x_v11<((x_v10.length:Nat):Int))) bi (fun bd=>?_) (fun bd=>?_))
   ·
    rw [bd,XW] at ac
    refine wp_skip (XT (wp_block (Aa (Rk 0 2 ((tI 26 x_v11)::(tS 25 y x_v10.length z)::(tI 14 x_v11)::(tS 13 y x_v10.length z)::(Gu stop at_ turned turn a_legs legs c_legs)) bi a2 fun fg dm=>?_))))
    obtain⟨x27,ex27,ac⟩:=Aq ac
    obtain⟨cf,ch,eb⟩:=Ai ex27
    have bk:=Cs cf ch
    obtain⟨er,d8,cw⟩:=DA (sz:=1) rfl a0 eb
    obtain rfl:=d8
    obtain⟨ao,b3⟩:=CR a2 (i:=0) rfl (b0:=0+(x_v11:Int).toNat*1) (Nat.lt_of_lt_of_le (Nat.lt_add_of_pos_right (by decide)) (Cr (sz:=1) rfl a0 bk))
    have dy:Ah ⟨w,h,Aj⟩ ae [(d,0),(ao,0+(x_v11:Int).toNat*1)] [⟨DE g r_ o l p m q,some 28⟩,⟨[],none⟩] [⟨y,x_v10.length,z,3,1,aa,0⟩] en:=a2.addPlc (cs:=[]) (fun j c hj=>by simp at hj) rfl (by kernel_rfl) (by kernel_rfl)
    have eu:∀ (e:Ba) k c,([.int .i64 x27]:List SC)[k]? = some c→(aa)[0+(x_v11:Int).toNat*1+k]? = some (c.den e):=fun e k c hk=>cw k _ (Al hk)
    refine Bc 2 (x_v11) rfl rfl (rfl) rfl (by decide) dm (by rfl) (by rfl) (by rfl) b3 (by rfl) cf ch (by kernel_rfl) fun bu (dn:Kn 62 [(d,0),(ao,0+(x_v11:Int).toNat*1)] ((tP 27 1 0)::(tI 26 x_v11)::(tS 25 y x_v10.length z)::(tI 14 x_v11)::(tS 13 y x_v10.length z)::(Gu stop at_ turned turn a_legs legs c_legs)) bu)=>?_
    obtain⟨al,co,ac⟩:=Aq ac
    obtain⟨ex,ez,ck⟩:=F4 co
    refine wl fun K hK=>?_
    refine Gf 0 1 0 (0+(x_v11:Int).toNat*1) (.c (.int .i64 (-1))) dn dy rfl rfl (by rfl) (by rfl) rfl rfl b3 rfl (by kernel_rfl) (Cr (sz:=1) rfl a0 bk) fun cm dp (dz:Ah ⟨w,h,Aj⟩ ae [(d,0),(ao,0+(x_v11:Int).toNat*1)] [⟨DE g r_ o l p m q,some 28⟩,⟨[],none⟩] [⟨y,x_v10.length,z,3,1,aa.take (0+(x_v11:Int).toNat*1+0)++([.int .i64 (-1)]:List Value)++aa.drop (0+(x_v11:Int).toNat*1+0+1),0⟩] cm)=>?_
    have cx:Ag ae al (aa.take (0+(x_v11:Int).toNat*1+0)++([.int .i64 (-1)]:List Value)++aa.drop (0+(x_v11:Int).toNat*1+0+1)):=by rw [ck]; exact Kh (sz:=1) rfl a0 bk (Ac:rep ae ((-1):Int) _)
    have cd:x_v10.length=al.length:=by rw [ck]; simp
    have dq:Kn 62 [(d,0),(ao,0+(x_v11:Int).toNat*1)] [(27,.one (.c (.ptr 1 0))),(26,.one (.c (.int .i64 x_v11))),(25,.one (.c (.slice y al.length z))),(14,.one (.c (.int .i64 x_v11))),(13,.one (.c (.slice y al.length z))),(6,.one (.c (.ptr 0 0))),(1,.one (.c (.int .i64 stop))),(2,.one (.c (.int .i64 at_))),(3,.one (.c (.int .i64 turned))),(4,.one (.c (.int .i64 turn))),(5,.one (.c (.slice a_legs legs.length c_legs)))] bu:=by rw [← cd]; exact dp
    have ca:Ah ⟨w,h,Aj⟩ ae [(d,0),(ao,0+(x_v11:Int).toNat*1)] [⟨[.slice g r_.legs.length o,.int .i64 r_.turn.lo,.int .i64 r_.turn.hi,.slice l r_.buses.length p,.slice m r_.spares.length q,.int .i64 r_.unit,.int .i64 r_.gap,.int .i64 r_.fr,.int .i64 r_.to_],some 28⟩,⟨[],none⟩] [⟨y,al.length,z,3,1,aa.take (0+(x_v11:Int).toNat*1+0)++([.int .i64 (-1)]:List Value)++aa.drop (0+(x_v11:Int).toNat*1+0+1),0⟩] cm:=by rw [← cd]; exact dz
    refine hK _ _ ?_
    have dr:Kn 62 [(d,0),(ao,0+(x_v11:Int).toNat*1)] ((tI 14 x_v11)::(tS 13 y al.length z)::(Gu stop at_ turned turn a_legs legs c_legs)) bu:=dq.kp
    refine wf (Aa (Rk 0 3 ((tI 14 (IntKind.i64.wrap (x_v11+1)))::(tS 13 y al.length z)::(Gu stop at_ turned turn a_legs legs c_legs)) dr ca fun fh ds=>?_))
    refine wf ?_
    exact XY bo ⟨Nat.lt_succ_self _,XY al ⟨IntKind.i64.wrap (x_v11+1),y,z,aa.take (0+(x_v11:Int).toNat*1+0)++([.int .i64 (-1)]:List Value)++aa.drop (0+(x_v11:Int).toNat*1+0+1),_,_,rfl,(ds.keep [14,13,6,1,2,3,4,5] (by rfl)).cut 1 (by kernel_rfl),ca.cutPl 1 (by kernel_rfl),b8,cx,ac⟩⟩
   ·
    rw [bd,XV] at ac
    refine wp_exit ?_
    obtain rfl:=XZ ac
    exact XY y ⟨z,aa,_,_,rfl,bi.kp,a2,b8,a0⟩
 ·
  rintro _ fn ⟨av,aw,a9,bs,ap,rfl,dt,cb,a6,cv⟩
  replace ah:=ah.mono a6
  replace ai:=ai.mono a6
  replace aj:=aj.mono a6
  replace hr_legs:=hr_legs.mono a6
  refine XT (XT (Aa (Rk 0 2 ((tI 15 stop)::(tS 13 av ar.length aw)::(tP 6 0 0)::(tI 2 at_)::(Ef turned turn a_legs legs c_legs)) dt cb fun fi cy=>?_)))
  refine wf ?_
  obtain⟨ak,bx,H⟩:=Aq H
  refine Av (fun a' w'=>∃ (am:Option Addr)(an:Nat)(a3:List Value)(bp:Array Value)(a4:Ae),a' = ⟨bp,[]⟩∧Kn 62 [(d,0)] [tS 13 am ak.length an] bp∧Ah ⟨w,h,Aj⟩ a4 [(d,0)] [⟨DE g r_ o l p m q,some 28⟩] [⟨am,ak.length,an,3,1,a3,0⟩] w'∧Ae.le ap a4∧Ag a4 ak a3) ?_ ?_
  ·
   refine wp_block ?_
   refine Ar (fun ec a' w'=>∃ (x_v20:List Int)(x_v21:Int)(x_v22:Int)(b:Option Addr)(f:Nat)(x:List Value)(bq:Array Value)(ab:Ae),a' = ⟨bq,[]⟩∧Kn 62 [(d,0)] ((tI 15 x_v21)::(tS 13 b x_v20.length f)::(tP 6 0 0)::(tI 2 x_v22)::(Ef turned turn a_legs legs c_legs)) bq∧Ah ⟨w,h,Aj⟩ ab [(d,0)] [⟨DE g r_ o l p m q,some 28⟩] [⟨b,x_v20.length,f,3,1,x,0⟩] w'∧Ae.le ap ab∧Ag ab x_v20 x∧Cc ec r_ turned turn legs x_v20 x_v21 x_v22=some ak) n ?_ ?_
   ·
    exact XY ar ⟨stop,at_,av,aw,a9,_,_,rfl,cy.kp,cb,Ae.le_refl _,cv,bx⟩
   ·
    rintro aq _ ej ⟨x_v20,x_v21,x_v22,b,f,x,bq,ab,rfl,cz,a1,ag,ay,s⟩
    clear bx
    obtain _ | aq:=aq
    ·
     rw [Cc] at s; cases s
    rw [Cc] at s
    replace ah:=ah.mono ag
    replace ai:=ai.mono ag
    replace aj:=aj.mono ag
    replace hr_legs:=hr_legs.mono ag
    refine XT (XT (Aa (Rk 0 4 ((tB 32 (decide (x_v21<((x_v20.length:Nat):Int))))::(tI 15 x_v21)::(tS 13 b x_v20.length f)::(tP 6 0 0)::(tI 2 x_v22)::(Ef turned turn a_legs legs c_legs)) cz a1 fun e0 bf=>?_)))
    refine wf (wC (decide (x_v21<((x_v20.length:Nat):Int))) bf (fun ba=>?_) (fun ba=>?_))
    ·
     rw [ba,XW] at s
     refine wp_skip (wp_block (XT (Aa (Rk 0 3 ((tI 35 x_v22)::(tI 34 x_v21)::(tS 33 b x_v20.length f)::(tI 15 x_v21)::(tS 13 b x_v20.length f)::(tP 6 0 0)::(tI 2 x_v22)::(Ef turned turn a_legs legs c_legs)) bf a1 fun e1 c0=>?_))))
     obtain⟨x36,ex36,s⟩:=Aq s
     obtain⟨ce,cg,d9⟩:=Ai ex36
     have bj:=Cs ce cg
     obtain⟨eo,d6,ct⟩:=DA (sz:=1) rfl ay d9
     obtain rfl:=d6
     obtain⟨ad,b2⟩:=CR a1 (i:=0) rfl (b0:=0+(x_v21:Int).toNat*1) (Nat.lt_of_lt_of_le (Nat.lt_add_of_pos_right (by decide)) (Cr (sz:=1) rfl ay bj))
     have dv:Ah ⟨w,h,Aj⟩ ab [(d,0),(ad,0+(x_v21:Int).toNat*1)] [⟨DE g r_ o l p m q,some 28⟩,⟨[],none⟩] [⟨b,x_v20.length,f,3,1,x,0⟩] ej:=a1.addPlc (cs:=[]) (fun j c hj=>by simp at hj) rfl (by kernel_rfl) (by kernel_rfl)
     have et:∀ (e:Ba) k c,([.int .i64 x36]:List SC)[k]? = some c→(x)[0+(x_v21:Int).toNat*1+k]? = some (c.den e):=fun e k c hk=>ct k _ (Al hk)
     refine Bc 3 (x_v21) rfl rfl (rfl) rfl (by decide) c0 (by rfl) (by rfl) (by rfl) b2 (by rfl) ce cg (by kernel_rfl) fun br (c2:Kn 62 [(d,0),(ad,0+(x_v21:Int).toNat*1)] ((tP 36 1 0)::(tI 35 x_v22)::(tI 34 x_v21)::(tS 33 b x_v20.length f)::(tI 15 x_v21)::(tS 13 b x_v20.length f)::(tP 6 0 0)::(tI 2 x_v22)::(Ef turned turn a_legs legs c_legs)) br)=>?_
     obtain⟨u,cn,s⟩:=Aq s
     obtain⟨ew,ey,ci⟩:=F4 cn
     refine wl fun K hK=>?_
     refine Gf 0 1 0 (0+(x_v21:Int).toNat*1) (.c (.int .i64 x_v22)) c2 dv rfl rfl (by rfl) (by rfl) rfl rfl b2 rfl (by kernel_rfl) (Cr (sz:=1) rfl ay bj) fun bv c3 (dw:Ah ⟨w,h,Aj⟩ ab [(d,0),(ad,0+(x_v21:Int).toNat*1)] [⟨DE g r_ o l p m q,some 28⟩,⟨[],none⟩] [⟨b,x_v20.length,f,3,1,x.take (0+(x_v21:Int).toNat*1+0)++([.int .i64 x_v22]:List Value)++x.drop (0+(x_v21:Int).toNat*1+0+1),0⟩] bv)=>?_
     have az:Ag ab u (x.take (0+(x_v21:Int).toNat*1+0)++([.int .i64 x_v22]:List Value)++x.drop (0+(x_v21:Int).toNat*1+0+1)):=by rw [ci]; exact Kh (sz:=1) rfl ay bj (Ac:rep ab (x_v22:Int) _)
     have cc:x_v20.length=u.length:=by rw [ci]; simp
     have c4:Kn 62 [(d,0),(ad,0+(x_v21:Int).toNat*1)] [(36,.one (.c (.ptr 1 0))),(35,.one (.c (.int .i64 x_v22))),(34,.one (.c (.int .i64 x_v21))),(33,.one (.c (.slice b u.length f))),(15,.one (.c (.int .i64 x_v21))),(13,.one (.c (.slice b u.length f))),(6,.one (.c (.ptr 0 0))),(2,.one (.c (.int .i64 x_v22))),(3,.one (.c (.int .i64 turned))),(4,.one (.c (.int .i64 turn))),(5,.one (.c (.slice a_legs legs.length c_legs)))] br:=by rw [← cc]; exact c3
     have af:Ah ⟨w,h,Aj⟩ ab [(d,0),(ad,0+(x_v21:Int).toNat*1)] [⟨[.slice g r_.legs.length o,.int .i64 r_.turn.lo,.int .i64 r_.turn.hi,.slice l r_.buses.length p,.slice m r_.spares.length q,.int .i64 r_.unit,.int .i64 r_.gap,.int .i64 r_.fr,.int .i64 r_.to_],some 28⟩,⟨[],none⟩] [⟨b,u.length,f,3,1,x.take (0+(x_v21:Int).toNat*1+0)++([.int .i64 x_v22]:List Value)++x.drop (0+(x_v21:Int).toNat*1+0+1),0⟩] bv:=by rw [← cc]; exact dw
     refine hK _ _ ?_
     have c5:Kn 62 [(d,0),(ad,0+(x_v21:Int).toNat*1)] ((tI 15 x_v21)::(tS 13 b u.length f)::(tP 6 0 0)::(tI 2 x_v22)::(Ef turned turn a_legs legs c_legs)) br:=c4.kp
     refine wf (XT (XT (Aa (Rk 0 3 ((tB 39 (x_v21 == turned))::(tI 15 x_v21)::(tS 13 b u.length f)::(tP 6 0 0)::(tI 2 x_v22)::(Ef turned turn a_legs legs c_legs)) c5 af fun e3 bg=>?_))))
     refine wf (wC ((x_v21 == turned)) bg (fun bb=>?_) (fun bb=>?_))
     ·
      rw [bb,XW] at s
      refine XT (Aa (Rk 0 1 ((tA 40 (DE g r_ o l p m q))::(tI 15 x_v21)::(tS 13 b u.length f)::(tP 6 0 0)::(tI 2 x_v22)::(Ef turned turn a_legs legs c_legs)) bg af fun e4 c6=>?_))
      obtain⟨x41,ex41,s⟩:=Aq s
      refine wl fun K hK=>?_
      refine wc [.agg (DE g r_ o l p m q)] c6 af (K3 aq af.has r_ ((Ab (Ad ah) (Ab (Ab Ac Ac) (Ab (Ad ai) (Ab (Ad aj) (Ab Ac (Ab Ac (Ab Ac Ac))))))):rep ab r_ _) ex41) fun fj es fl cp b7 b9=>?_
      replace az:=az.mono b7
      obtain rfl:=cp
      refine⟨.one (.c (.int .i64 x41)),rfl,fun ef (c8:Kn 62 [(d,0),(ad,0+(x_v21:Int).toNat*1)] ((tI 41 x41)::(tA 40 (DE g r_ o l p m q))::(tI 15 x_v21)::(tS 13 b u.length f)::(tP 6 0 0)::(tI 2 x_v22)::(Ef turned turn a_legs legs c_legs)) ef)=>hK _ _ ?_⟩
      refine Rk 2 9 ((tI 2 (IntKind.i64.wrap (x_v22+turn)))::(tI 15 (IntKind.i64.wrap ((IntKind.i64.wrap ((IntKind.i64.wrap (2*x41))-1))-x_v21)))::(tS 13 b u.length f)::(tP 6 0 0)::(Ef turned turn a_legs legs c_legs)) c8 b9 fun e5 c9=>?_
      refine wf (wp_exit ?_)
      exact XY aq ⟨Nat.lt_succ_self _,XY u ⟨IntKind.i64.wrap ((IntKind.i64.wrap ((IntKind.i64.wrap (2*x41))-1))-x_v21),IntKind.i64.wrap (x_v22+turn),b,f,x.take (0+(x_v21:Int).toNat*1+0)++([.int .i64 x_v22]:List Value)++x.drop (0+(x_v21:Int).toNat*1+0+1),_,_,rfl,(c9.keep [15,13,6,2,3,4,5] (by rfl)).cut 1 (by kernel_rfl),b9.cutPl 1 (by kernel_rfl),XU ag b7,az,s⟩⟩
     ·
      rw [bb,XV] at s
      refine wp_skip (XT (XT (Aa (Rk 0 4 ((tB 52 (decide (x_v21<((legs.length:Nat):Int))))::(tI 15 x_v21)::(tS 13 b u.length f)::(tP 6 0 0)::(tI 2 x_v22)::(Ef turned turn a_legs legs c_legs)) bg af fun e6 bh=>?_))))
      refine wf (wC (decide (x_v21<((legs.length:Nat):Int))) bh (fun bc=>?_) (fun bc=>?_))
      ·
       rw [bc,XW] at s
       refine Aa (Rk 0 3 ((tI 55 x_v21)::(tS 54 a_legs legs.length c_legs)::(tI 53 x_v22)::(tI 15 x_v21)::(tS 13 b u.length f)::(tP 6 0 0)::(Ef turned turn a_legs legs c_legs)) bh af fun e8 da=>?_)
       obtain⟨x56,ex56,s⟩:=Aq s
       obtain⟨d0,d2,ea⟩:=Ai ex56
       obtain⟨bw,cl,ep,cr,d7,cu⟩:=hr_legs.get (by decide) ea
       obtain rfl:=d7
       have bl:Ah ⟨w,h,Aj⟩ ab [(d,0),(ad,0+(x_v21:Int).toNat*1),(bw,cl+(x_v21:Int).toNat*1)] [⟨DE g r_ o l p m q,some 28⟩,⟨[],none⟩,⟨[.int .i64 x56],none⟩] [⟨b,u.length,f,3,1,x.take (0+(x_v21:Int).toNat*1+0)++([.int .i64 x_v22]:List Value)++x.drop (0+(x_v21:Int).toNat*1+0+1),0⟩] bv:=af.addPlc (cs:=[.int .i64 x56]) (fun j c hj=>cu j _ (Al hj)) rfl (by kernel_rfl) (by kernel_rfl)
       refine Bc 3 (x_v21) rfl rfl (rfl) rfl (by decide) da (by rfl) (by rfl) (by rfl) cr (by rfl) d0 d2 (by kernel_rfl) fun eg (dc:Kn 62 [(d,0),(ad,0+(x_v21:Int).toNat*1),(bw,cl+(x_v21:Int).toNat*1)] ((tP 56 2 0)::(tI 55 x_v21)::(tS 54 a_legs legs.length c_legs)::(tI 53 x_v22)::(tI 15 x_v21)::(tS 13 b u.length f)::(tP 6 0 0)::(Ef turned turn a_legs legs c_legs)) eg)=>?_
       refine Rk 4 3 ((tI 2 (IntKind.i64.wrap (x_v22+x56)))::(tI 15 x_v21)::(tS 13 b u.length f)::(tP 6 0 0)::(Ef turned turn a_legs legs c_legs)) dc bl fun e9 dd=>?_
       refine wf (Aa (Rk 0 3 ((tI 15 (IntKind.i64.wrap (x_v21+1)))::(tI 2 (IntKind.i64.wrap (x_v22+x56)))::(tS 13 b u.length f)::(tP 6 0 0)::(Ef turned turn a_legs legs c_legs)) dd bl fun fa de=>?_))
       refine wf ?_
       exact XY aq ⟨Nat.lt_succ_self _,XY u ⟨IntKind.i64.wrap (x_v21+1),IntKind.i64.wrap (x_v22+x56),b,f,x.take (0+(x_v21:Int).toNat*1+0)++([.int .i64 x_v22]:List Value)++x.drop (0+(x_v21:Int).toNat*1+0+1),_,_,rfl,(de.keep [15,13,6,2,3,4,5] (by rfl)).cut 1 (by kernel_rfl),bl.cutPl 1 (by kernel_rfl),ag,az,s⟩⟩
      ·
       rw [bc,XV] at s
       refine wp_skip (Aa (Rk 0 3 ((tI 15 (IntKind.i64.wrap (x_v21+1)))::(tS 13 b u.length f)::(tP 6 0 0)::(tI 2 x_v22)::(Ef turned turn a_legs legs c_legs)) bh af fun fb df=>?_))
       refine wf ?_
       exact XY aq ⟨Nat.lt_succ_self _,XY u ⟨IntKind.i64.wrap (x_v21+1),x_v22,b,f,x.take (0+(x_v21:Int).toNat*1+0)++([.int .i64 x_v22]:List Value)++x.drop (0+(x_v21:Int).toNat*1+0+1),_,_,rfl,(df.keep [15,13,6,2,3,4,5] (by rfl)).cut 1 (by kernel_rfl),af.cutPl 1 (by kernel_rfl),ag,az,s⟩⟩
    ·
     rw [ba,XV] at s
     refine wp_exit ?_
     obtain rfl:=XZ s
     exact XY b ⟨f,x,_,_,rfl,bf.kp,a1,ag,ay⟩
  ·
   rintro _ el ⟨am,an,a3,bp,a4,rfl,dg,bm,ev,be⟩
   refine XT (Aa (Rk 0 2 [tS 12 am ak.length an] dg bm fun fc dh=>?_))
   refine wf (wp_ret ?_)
   obtain⟨b1,du,d5,bn⟩:=bm.settle (i:=0) rfl
   replace be:=be.mono du
   replace bn:Ah ⟨w,h,Aj⟩ b1 [(d,0)] [⟨DE g r_ o l p m q,some 28⟩] [⟨am,ak.length,an,3,1,a3,(a3:List Value).length⟩] el:=bn
   have d4:A6 b1 am an ak:=⟨_,be,d5,bm.rowCap (i:=0) rfl⟩
   obtain rfl:=XZ H
   exact rt (.one (.c (.slice am ak.length an))) dh bn ⟨_,_,rfl,d4⟩
end Go.Proofs.Ytokchpjijlebiaa
