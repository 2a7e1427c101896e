/- Each call computes its plain function. -/
import Derived.Test.YtinminkmefljbaaGreatProg
import Derived.Test.YtinminkmefljbaaGreattcWB
set_option linter.all false
namespace Go.Proofs.YtinminkmefljbaaGreat
open Go Go.RowKit
set_option maxRecDepth 100000
set_option maxHeartbeats 4000000
open Rep (rep)
open KRep (kv)
open VRep (rv)
theorem NL (n:Nat) {h:Ac} {w:World} (hh:CK h w) (l:List Int) {bK:Yd} {bL:Nat} (dP:At h bK bL l) {r:List Int} (H:Je n l=some r) :
  Calls Tryz.prog 33 #[.slice bK l.length bL] w (CP (fun h v=>∃ a c,v=.slice a r.length c∧At h a c r) h w):=by
 refine enter 5 [.c (Yb bK l.length bL)] Tryz.func33 rfl rfl rfl rfl fun t hk=>?_
 have hm:=Ai.begin h w hh
 unfold Je at H
 refine XT (Aa (Rk 0 1 [tS 0 bK l.length bL] hk hm fun ai y=>?_))
 refine wf (XT (Aa (Rk 0 1 [tS 3 bK l.length bL] y hm fun ak aa=>?_)))
 have p:Ai _ _ [] [] [⟨none,0,0,3,1,[],0⟩] _:=hm.nilRow 3 1
 have s:Ae h ([]:List Int) []:=Ae.nil
 obtain⟨f,e,af,_⟩:=id dP
 obtain⟨x4,ex4,H⟩:=Ao H
 obtain⟨m,ab⟩:=Bj ex4
 refine wl fun K hK=>?_
 refine AS 0 8 l.length _ (x4.length) _ f aa p rfl rfl (by decide) rfl (by rfl) (by kernel_rfl) (by rfl) (by rfl) (Ae.len e) (af.cell p.has e.one) e.one (by rw [m]; simp <;> omega) (by rw [m]; exact ab) (by decide) fun b d q ag ah u (x:Kn _ [] [tS 4 b x4.length d,tS 3 bK l.length bL] _) j=>?_
 have g:Ae h x4 ([]++f):=by rw [m]; exact Ae.append s e
 obtain rfl:q=0:=Nat.le_zero.1 u
 refine hK _ _ ?_
 refine Rk 2 1 [tS 2 b x4.length d] x j fun aj z=>?_
 refine wf (wp_ret ?_)
 obtain⟨o,ac,ae,k⟩:=j.settle (i:=0) rfl
 replace g:=g.mono ac
 replace k:Ai _ _ [] [] [⟨b,x4.length,d,3,1,[]++f,_⟩] _:=k
 have ad:At o b d x4:=⟨_,g,ae,j.rowCap (i:=0) rfl⟩
 obtain rfl:=XZ H
 exact rt (.one (.c (Yb b x4.length d))) z k ⟨_,_,rfl,ad⟩
abbrev JC:List SC:=[Yb none 0 0,Yb none 0 0,XR 0]
abbrev SE (l)(x8:List Int)(m)(y:Am):=([Yb l x8.length m,Yb none 0 0,XR y.broken]:List SC)
abbrev Pw (l)(x8:List Int)(m s)(q:List Cn)(u)(y:Am):=([Yb l x8.length m,Yb s q.length u,XR y.broken]:List SC)
abbrev Q2 (e)(y:Am)(f g k):=([⟨Mh e y f g k,some 41⟩,⟨JC,some 51⟩,⟨JC,some 51⟩]:List C0)
abbrev Kz:TM:=[tP 2 1 0,tP 1 0 0]
abbrev IE (aA):=((tI 4 aA)::(tP 3 2 0)::Kz:TM)
abbrev SF (y:Am)(e f):=((tI 10 y.broken)::(tS 7 e y.room.length f)::Kz:TM)
theorem H4 (n:Nat) {h:Ac} {w:World} (hh:CK h w) (y:Am) {dQ:Ye} (eD:rep h y dQ) {r:Am} (H:Gl n y=some r) :
  Calls Tryz.prog 13 #[.agg dQ.toArray] w (CP (fun h v=>∃ cs,v=.agg cs.toArray∧rep h r cs) h w):=by
 obtain⟨_,_,rfl,⟨e,f,rfl,aw⟩,⟨_,_,rfl,⟨g,k,rfl,am⟩,rfl⟩⟩:=eD
 refine enter 37 [.agg (Mh e y f g k)] Tryz.func13 rfl rfl rfl rfl fun t hk=>?_
 have hm:=Ai.begin h w hh
 unfold Gl at H
 refine XT (Aa (wl fun K hK=>?_))
 refine wb (.agg (Mh e y f g k)) hk hm fun a du em (b6:Kn _ [(a,0)] [tP 1 0 0,tA 0 (Mh e y f g k)] _) c7=>hK _ _ ?_
 refine wl fun K hK=>?_
 refine wa JC b6 c7 fun d bu eg (ci:Kn _ [(a,0),(d,0)] [tP 2 1 0,tP 1 0 0,tA 0 (Mh e y f g k)] _) au=>hK _ _ ?_
 have cn:Kn _ _ Kz _:=ci.kp
 refine wf (XT (Au (by kernel_rfl) ?_))
 replace au:=au.drew
 refine Ax [] [(a,0),(d,0)] [⟨Mh e y f g k,some 41⟩,⟨JC,some 51⟩] ?_
 refine Dr [0,1,3,4] [4,3,1,0] (SF y e f) cn au fun ds co=>?_
 obtain⟨x8,ex8,H⟩:=Ao H
 have bh:Kn _ [(a,0),(d,0),(0,0)] (SF y e f) _:=co.push (0,0) (by kernel_rfl)
 have a8:=au.addPlc (b:=0) (o:=0) (cs:=[]) (fun j c hj=>by simp at hj) rfl (by kernel_rfl) (by kernel_rfl)
 refine BZ (e':=[(a,0),(d,0),(0,0)]) (pl':=[⟨Mh e y f g k,some 41⟩,⟨JC,some 51⟩,⟨[],none⟩]) (fun _ hp=>hp.pop (Y8 rfl) (by kernel_rfl)) ?_
 refine BT (fun W=>∀ (p:Nat),∀ (l:Yd),∀ (m:Nat),∀ a' w',(∃ (ax:Array Value)(z:Ac),a' = ⟨ax,[]⟩∧Kn 37 [(a,0),(d,0),(p,0)] ((tP 3 2 0)::(tA 11 (SE l x8 m y))::Kz) ax∧Ai ⟨w,h,BF⟩ z [(a,0),(d,0),(p,0)] (Q2 e y f g k) [] w'∧Ac.le h z∧At z l m x8)→W [(a,0),(d,0),(p,0)] (Q2 e y f g k) [5,2,6,4,3,1,0] a' w') ?_ (fun bt=>?_)
 ·
  intro p l m
  rintro _ ei ⟨ax,z,rfl,cp,c8,bj,a9⟩
  replace am:=am.mono bj
  refine CU 7 rfl (by kernel_rfl) (by decide) (rfl) (by kernel_rfl) fun K hK=>?_
  refine DT 2 0 (.agg (SE l x8 m y)) (SE l x8 m y) cp c8 fun dz cq bp=>hK _ _ ?_
  refine Ax [] [(a,0),(d,0),(p,0)] [⟨Mh e y f g k,some 41⟩,⟨JC,some 51⟩,⟨SE l x8 m y,some 51⟩] ?_
  have cr:Kn _ _ ((tP 3 2 0)::Kz) _:=cq.kp
  refine AL (by kernel_rfl) (XT (XT (Aa (Rk 0 1 ((tI 4 0)::(tP 3 2 0)::Kz) cr bp fun d5 ct=>?_))))
  refine wf ?_
  have c9:Ai _ _ [(a,0),(d,0),(p,0)] [⟨Mh e y f g k,some 41⟩,⟨JC,some 51⟩,⟨SE l x8 m y,some 51⟩] [⟨none,0,0,62,3,[],0⟩] _:=bp.nilRow 62 3
  have b3:Ae z ([]:List Cn) []:=Ae.nil
  obtain⟨q,bf,H⟩:=Ao H
  refine Ar (fun a' w'=>∃ (s:Yd)(u:Nat)(an:Ye)(bc:Array Value)(ar:Ac),a' = ⟨bc,[]⟩∧Kn 37 [(a,0),(d,0),(p,0)] [tP 3 2 0,tP 2 1 0] bc∧Ai ⟨w,h,BF⟩ ar [(a,0),(d,0),(p,0)] [⟨Mh e y f g k,some 41⟩,⟨JC,some 51⟩,⟨Pw l x8 m s q u y,some 51⟩] [⟨s,q.length,u,62,3,an,0⟩] w'∧Ac.le z ar∧Ae ar q an) ?_ ?_
  ·
   refine wp_block ?_
   refine Av (fun dj a' w'=>∃ (aB:List Cn)(aA:Int)(aa:Yd)(ac:Nat)(af:Ye)(bd:Array Value)(ad:Ac),a' = ⟨bd,[]⟩∧Kn 37 [(a,0),(d,0),(p,0)] (IE aA) bd∧Ai ⟨w,h,BF⟩ ad [(a,0),(d,0),(p,0)] [⟨Mh e y f g k,some 41⟩,⟨JC,some 51⟩,⟨[Yb l x8.length m,Yb aa aB.length ac,XR y.broken],some 51⟩] [⟨aa,aB.length,ac,62,3,af,0⟩] w'∧Ac.le z ad∧Ae ad aB af∧Es dj y aB aA=some q) n ?_ ?_
   ·
    exact XY ([]:List Cn) ⟨0,none,0,[],_,_,rfl,ct.kp,c9,Ac.le_refl _,b3,bf⟩
   rintro bb _ ej ⟨aB,aA,aa,ac,af,bd,ad,rfl,cu,av,a3,bg,x⟩
   clear bf
   obtain _ | bb:=bb
   ·
    rw [Es] at x; cases x
   rw [Es] at x
   replace am:=am.mono a3
   refine XT (XT (Aa (Rk 0 5 ((tB 16 (decide (aA<((y.lG.length:Nat):Int))))::(IE aA)) cu av fun d6 a2=>?_)))
   refine wf (wC (decide (aA<((y.lG.length:Nat):Int))) a2 (fun az=>?_) (fun az=>?_))
   ·
    rw [az,XW] at x
    refine wp_skip (XT (wp_block (XT (Aa (Rk 0 3 ((tI 21 aA)::(tS 20 g y.lG.length k)::(IE aA)) a2 av fun d7 cv=>?_)))))
    obtain⟨cB,gL,x⟩:=Ao x
    obtain⟨db,dc,di⟩:=Aj gL
    obtain⟨ab,ae,d0,b1,dh,b4⟩:=am.get (by decide) di
    obtain⟨_,_,rfl,rfl,⟨_,_,rfl,rfl,rfl⟩⟩:=dh
    have bq:=av.addPlc (b:=ab) (o:=ae+Yc aA*3) (cs:=(Qs cB)) (fun j c hj=>b4 j _ (Ak hj)) rfl (by kernel_rfl) (by kernel_rfl)
    refine A9 3 (aA) rfl rfl (rfl) rfl (by decide) cv (by rfl) (by rfl) (by rfl) b1 (by rfl) db dc (by kernel_rfl) fun dt (cw:Kn _ [(a,0),(d,0),(p,0),(ab,ae+Yc aA*3)] ((tP 22 3 0)::(tI 21 aA)::(tS 20 g y.lG.length k)::(IE aA)) _)=>?_
    refine Rk 4 1 ((tA 23 (Qs cB))::(IE aA)) cw bq fun d8 cx=>?_
    refine wl fun K hK=>?_
    refine wa [XR 0,XR 0,XR 0] cx bq fun aj bv ek (cy:Kn _ [(a,0),(d,0),(p,0),(ab,ae+Yc aA*3),(aj,0)] ((tP 5 4 0)::(tA 23 (Qs cB))::(IE aA)) _) da=>hK _ _ ?_
    refine wl fun K hK=>?_
    refine DT 4 0 (.agg (Qs cB)) (Qs cB) cy da fun el cz br=>hK _ _ ?_
    have c0:Kn _ _ ((tP 5 4 0)::(IE aA)) _:=cz.kp
    refine wf (Aa (Rk 0 9 ((tA 32 (Qs cB))::(tS 25 aa aB.length ac)::(IE aA)) c0 br fun d9 c1=>?_))
    refine wl fun K hK=>?_
    refine wS 62 3 (Qs cB) c1 br fun be dv en (c2:Kn _ [(a,0),(d,0),(p,0),(ab,ae+Yc aA*3),(aj,0)] ((tS 33 be 1 1)::(tA 32 (Qs cB))::(tS 25 aa aB.length ac)::(IE aA)) _) bs=>?_
    have a1:Ae ad ([cB]:List Cn) ([.int .i64 cB.lo,.int .i64 cB.hi,.int .i64 cB.turn]:Ye):=⟨_,_,rfl,((Ab Ad (Ab Ad Ad)):rep ad (cB:Cn) _),rfl⟩
    refine hK _ _ ?_
    obtain⟨gF,lD,x⟩:=Ao x
    obtain⟨ba,c3⟩:=Bj lD
    refine wl fun K hK=>?_
    refine AS 0 24 1 _ (gF.length) _ ([.int .i64 cB.lo,.int .i64 cB.hi,.int .i64 cB.turn]:Ye) c2 bs rfl rfl (by decide) rfl (by rfl) (by kernel_rfl) (by rfl) (by rfl) (Ae.len a1) (bs.rowCell (i:=1) rfl) a1.one (by rw [ba]; simp <;> omega) (by rw [ba]; exact c3) (by decide) fun ag ak bw dk ec b5 (b7:Kn _ [(a,0),(d,0),(p,0),(ab,ae+(aA:Int).toNat*3),(aj,0)] ((tS 34 ag gF.length ak)::(tS 33 be 1 1)::(tA 32 (Qs cB))::(tS 25 aa aB.length ac)::(IE aA)) _) bk=>?_
    have b2:Ae ad gF (af++([.int .i64 cB.lo,.int .i64 cB.hi,.int .i64 cB.turn]:Ye)):=by rw [ba]; exact Ae.append bg a1
    obtain rfl:bw=0:=Nat.le_zero.1 b5
    refine hK _ _ ?_
    refine Rk 11 1 ((tP 35 2 1)::(tS 34 ag gF.length ak)::(IE aA)) b7 bk fun dl b8=>?_
    refine wl fun K hK=>?_
    refine DT 2 1 (.c (Yb ag gF.length ak)) [Yb l x8.length m,Yb ag gF.length ak,XR y.broken] b8 bk fun ed b9 bl=>hK _ _ ?_
    have ca:Kn _ _ (IE aA) _:=b9.kp
    refine wf (Aa (Rk 0 3 ((tI 4 (Ya (aA+1)))::(tP 3 2 0)::Kz) ca bl fun d2 cb=>?_))
    refine wf ?_
    exact XY bb ⟨Y4 _,XY gF ⟨Ya (aA+1),ag,ak,af++([.int .i64 cB.lo,.int .i64 cB.hi,.int .i64 cB.turn]:Ye),_,_,rfl,(cb.keep [4,3,2,1] (by rfl)).cut 3 (by kernel_rfl),(bl.cutRw 1).cutPl 3 (by kernel_rfl),a3,b2,x⟩⟩
   rw [az,XV] at x
   refine wp_exit ?_
   obtain rfl:=XZ x
   exact XY aa ⟨ac,af,_,_,rfl,a2.kp,av,a3,bg⟩
  rintro _ ee ⟨s,u,an,bc,ar,rfl,cc,bm,c4,a0⟩
  refine XT (Aa (Rk 0 1 [tA 36 (Pw l x8 m s q u y),tP 2 1 0] cc bm fun dm cd=>?_))
  refine wl fun K hK=>?_
  refine DT 1 0 (.agg (Pw l x8 m s q u y)) (Pw l x8 m s q u y) cd bm fun dw ce bn=>hK _ _ ?_
  have cf:Kn _ _ [tP 2 1 0] _:=ce.kp
  refine wf (wp_ret ?_)
  obtain⟨ay,bi,dg,a4⟩:=bn.settle (i:=0) rfl
  replace a9:=a9.mono (XU c4 bi)
  replace a0:=a0.mono bi
  replace a4:Ai _ _ [(a,0),(d,0),(p,0)] [⟨Mh e y f g k,some 41⟩,⟨Pw l x8 m s q u y,some 51⟩,⟨Pw l x8 m s q u y,some 51⟩] [⟨s,q.length,u,62,3,an,_⟩] _:=a4
  have dd:At ay s u q:=⟨_,a0,dg,bn.rowCap (i:=0) rfl⟩
  obtain rfl:=XZ H
  exact rt (.one (.agg (Pw l x8 m s q u y))) cf a4 ⟨_,rfl,((Ab (Af a9) (Ab (Af dd) Ad)):rep ay ((Am.mk x8 q y.broken):Am) _)⟩
 refine Gn 2 6 rfl rfl (by kernel_rfl) (by decide) (rfl) (rfl) (fun K hK=>?_) (fun K hK=>?_)
 ·
  refine wc [.c (Yb e y.room.length f)] bh a8 (NL n a8.has y.room aw ex8) fun ea b0 ef bx c5 a5=>?_
  obtain⟨ah,al,rfl,de⟩:=bx
  refine⟨.one (.c (Yb ah x8.length al)),rfl,fun dn (cg:Kn _ [(a,0),(d,0),(0,0)] ((tS 8 ah x8.length al)::(SF y e f)) _)=>hK _ _ a5.plOk ?_⟩
  refine Dr [5] [5,2,4,3,1,0] ((tA 11 [Yb ah x8.length al,Yb none 0 0,XR y.broken])::Kz) cg a5 fun d3 ch=>?_
  refine Dl 6 fun K hK=>?_
  refine MO 2 JC ch a5 fun ap dp dx (cj:Kn _ [(a,0),(d,0),(ap,0)] ((tP 3 2 0)::(tA 11 [Yb ah x8.length al,Yb none 0 0,XR y.broken])::Kz) _) (bo:Ai _ _ [(a,0),(d,0),(ap,0)] (Q2 e y f g k) [] _)=>hK _ _ (Ay.unset 2 rfl (by kernel_rfl) bo.plOk) (BZ (e':=[(a,0),(d,0),(ap,0)]) (pl':=(Q2 e y f g k)) (fun _ hp=>hp.unset 2 rfl (by kernel_rfl)) ?_)
  refine AK [5,2,6,4,3,1,0] (by kernel_rfl) (by rfl) (bt ap ah al _ _ ?_)
  exact XY _ ⟨_,rfl,cj.kp,bo,c5,de⟩
 refine MO 2 JC bh a8 fun ai dq dy (ck:Kn _ [(a,0),(d,0),(ai,0)] ((tP 3 2 0)::(SF y e f)) _) (a6:Ai _ _ [(a,0),(d,0),(ai,0)] (Q2 e y f g k) [] _)=>hK _ _ (Ay.unset 2 rfl (by kernel_rfl) a6.plOk) (BZ (e':=[(a,0),(d,0),(ai,0)]) (pl':=(Q2 e y f g k)) (fun _ hp=>hp.unset 2 rfl (by kernel_rfl)) ?_)
 refine Dl 2 fun K hK=>?_
 refine wc [.c (Yb e y.room.length f)] ck a6 (NL n a6.has y.room aw ex8) fun eb d1 eh bz c6 a7=>?_
 obtain⟨ao,aq,rfl,df⟩:=bz
 refine⟨.one (.c (Yb ao x8.length aq)),rfl,fun dr (cl:Kn _ [(a,0),(d,0),(ai,0)] ((tS 8 ao x8.length aq)::(tP 3 2 0)::(SF y e f)) _)=>hK _ _ a7.plOk ?_⟩
 refine Dr [5] [5,2,6,4,3,1,0] ((tA 11 [Yb ao x8.length aq,Yb none 0 0,XR y.broken])::(tP 3 2 0)::Kz) cl a7 fun d4 cm=>?_
 refine AK [5,2,6,4,3,1,0] (by kernel_rfl) (by rfl) (bt ai ao aq _ _ ?_)
 exact XY _ ⟨_,rfl,cm.kp,a7,c6,df⟩
theorem JZ (n:Nat) {h:Ac} {w:World} (hh:CK h w) (n_:Int) (low:Int) (high:Int) {r:Bool} (H:Jf n n_ low high=some r) :
  Calls Tryz.prog 51 #[.int .i64 n_,.int .i64 low,.int .i64 high] w (CP (fun h v=>v=.bool r) h w):=by
 refine enter 15 [.c (XR n_),.c (XR low),.c (XR high)] Tryz.func51 rfl rfl rfl rfl fun t hk=>?_
 have hm:=Ai.begin h w hh
 unfold Jf at H
 refine XT (Aa (Rk 0 1 [tI 0 n_,tI 1 low,tI 2 high] hk hm fun k f=>?_))
 refine wf (XT (Aa (Rk 0 4 [tB 10 (decide (n_≥low)),tI 0 n_,tI 2 high] f hm fun d b=>?_)))
 rcases Y2 (decide (n_≥low)) with a | a
 ·
  rw [a,XW] at H
  have g:Kn _ _ [tB 10 true,tI 0 n_,tI 2 high] _:=(b.setB 10 true (by rfl) a).kp
  refine Rk 4 5 [tB 6 (decide (n_≤high))] g hm fun m i=>?_
  refine wf (wp_ret ?_)
  obtain rfl:=XZ H
  exact rt (.one (.c (.bool (decide (n_≤high))))) i hm rfl
 rw [a,XV] at H
 have j:Kn _ _ [tB 10 false,tI 0 n_,tI 2 high] _:=(b.setB 10 false (by rfl) a).kp
 refine Rk 4 5 [tB 6 false] j hm fun l e=>?_
 refine wf (wp_ret ?_)
 obtain rfl:=XZ H
 exact rt (.one (.c (.bool false))) e hm rfl
abbrev EY (aD):=([tP 5 2 0,tI 4 aD,tP 1 0 0]:TM)
theorem Rr (n:Nat) {h:Ac} {w:World} (hh:CK h w) (y:Am) {dQ:Ye} (eD:rep h y dQ) {r:Int} (H:FT n y=some r) :
  Calls Tryz.prog 24 #[.agg dQ.toArray] w (CP (fun h v=>v=.int .i64 r) h w):=by
 obtain⟨_,_,rfl,⟨m,p,rfl,q⟩,⟨_,_,rfl,⟨f,g,rfl,l⟩,rfl⟩⟩:=eD
 refine enter 84 [.agg (Mh m y p f g)] Tryz.func24 rfl rfl rfl rfl fun t hk=>?_
 have hm:=Ai.begin h w hh
 unfold FT at H
 refine XT (Aa (wl fun K hK=>?_))
 refine wb (.agg (Mh m y p f g)) hk hm fun a fj hc (db:Kn _ [(a,0)] [tP 1 0 0,tA 0 (Mh m y p f g)] _) ad=>hK _ _ ?_
 refine Rk 1 1 [tP 1 0 0] db ad fun fx dh=>?_
 refine wf (XT (XT ?_))
 obtain⟨cm,ap,H⟩:=Ao H
 refine Ar (fun a' w'=>∃ (bu:Array Value)(ar:Ac),a' = ⟨bu,[]⟩∧Kn 84 [(a,0)] [tP 1 0 0,tB 16 cm] bu∧Ai ⟨w,h,BF⟩ ar [(a,0)] [⟨Mh m y p f g,some 41⟩] [] w'∧Ac.le h ar) ?_ ?_
 ·
  refine Aa (Rk 0 5 [tB 11 (decide (((y.room.length:Nat):Int)>3)),tP 1 0 0] dh ad fun cx b7=>?_)
  rcases Y2 (decide (((y.room.length:Nat):Int)>3)) with ak | ak
  ·
   rw [ak,XW] at ap
   have d0:Kn _ _ [tB 11 true,tP 1 0 0] _:=(b7.setB 11 true (by rfl) ak).kp
   refine Rk 5 5 [tB 16 true,tP 1 0 0] d0 ad fun f8 d4=>?_
   refine wf ?_
   obtain rfl:=XZ ap
   exact XY _ ⟨_,rfl,d4.kp,ad,Ac.le_refl _⟩
  rw [ak,XV] at ap
  have d7:Kn _ _ [tB 11 false,tP 1 0 0] _:=(b7.setB 11 false (by rfl) ak).kp
  refine Rk 5 5 [tB 16 (decide (((y.lG.length:Nat):Int)>8)),tP 1 0 0] d7 ad fun gb eb=>?_
  refine wf ?_
  obtain rfl:=XZ ap
  exact XY _ ⟨_,rfl,eb.kp,ad,Ac.le_refl _⟩
 rintro _ g8 ⟨bu,ar,rfl,bj,aa,cd⟩
 replace q:=q.mono cd
 replace l:=l.mono cd
 refine wC (cm) bj (fun bb=>?_) (fun bb=>?_)
 ·
  rw [Ba bb] at H
  refine XT (Aa (Rk 0 1 [tI 2 3] bj aa fun gi eg=>?_))
  refine wf (wp_ret ?_)
  obtain rfl:=XZ H
  exact rt (.one (.c (XR 3))) eg aa rfl
 rw [Bb bb] at H
 refine wp_skip (XT (XT ?_))
 obtain⟨cp,ac,H⟩:=Ao H
 refine Ar (fun a' w'=>∃ (bz:Array Value)(ag:Ac),a' = ⟨bz,[]⟩∧Kn 84 [(a,0)] [tP 1 0 0,tB 26 cp] bz∧Ai ⟨w,h,BF⟩ ag [(a,0)] [⟨Mh m y p f g,some 41⟩] [] w'∧Ac.le ar ag) ?_ ?_
 ·
  refine Aa (Rk 0 5 [tB 21 (decide (((y.room.length:Nat):Int)<1)),tP 1 0 0] bj aa fun c0 ca=>?_)
  rcases Y2 (decide (((y.room.length:Nat):Int)<1)) with al | al
  ·
   rw [al,XW] at ac
   have eh:Kn _ _ [tB 21 true,tP 1 0 0] _:=(ca.setB 21 true (by rfl) al).kp
   refine Rk 5 5 [tB 26 true,tP 1 0 0] eh aa fun gj ei=>?_
   refine wf ?_
   obtain rfl:=XZ ac
   exact XY _ ⟨_,rfl,ei.kp,aa,Ac.le_refl _⟩
  rw [al,XV] at ac
  have ej:Kn _ _ [tB 21 false,tP 1 0 0] _:=(ca.setB 21 false (by rfl) al).kp
  refine Rk 5 2 [tI 23 y.broken,tB 21 false,tP 1 0 0] ej aa fun gk cb=>?_
  obtain⟨dA,gV,ac⟩:=Ao ac
  refine AD _ rfl (Al cb (by kernel_rfl)) fun K hK=>?_
  refine wc [.c (XR y.broken),.c (XR 0),.c (XR 2)] cb aa (JZ n aa.has y.broken 0 2 gV) fun gv fq g9 c4 ew ck=>?_
  obtain rfl:=c4
  refine⟨.one (.c (.bool dA)),rfl,fun fi (ek:Kn _ [(a,0)] [tB 24 dA,tI 23 y.broken,tB 21 false,tP 1 0 0] _)=>hK _ _ ?_⟩
  refine Rk 8 2 [tB 26 (!dA),tP 1 0 0] ek ck fun gl el=>?_
  refine wf ?_
  obtain rfl:=XZ ac
  exact XY _ ⟨_,rfl,el.kp,ck,ew⟩
 rintro _ ha ⟨bz,ag,rfl,bk,ay,ce⟩
 replace q:=q.mono ce
 replace l:=l.mono ce
 refine wC (cp) bk (fun bc=>?_) (fun bc=>?_)
 ·
  rw [Ba bc] at H
  refine XT (Aa (Rk 0 1 [tI 2 1] bk ay fun gm em=>?_))
  refine wf (wp_ret ?_)
  obtain rfl:=XZ H
  exact rt (.one (.c (XR 1))) em ay rfl
 rw [Bb bc] at H
 refine wp_skip (XT (XT (Aa (Rk 0 1 [tI 3 0,tP 1 0 0] bk ay fun gn en=>?_))))
 refine wf ?_
 obtain⟨cq,b5,H⟩:=Ao H
 refine Ar (fun a' w'=>∃ (cv:Unit)(b0:Array Value)(ah:Ac),a' = ⟨b0,[]⟩∧Kn 84 [(a,0)] [tP 1 0 0] b0∧Ai ⟨w,h,BF⟩ ah [(a,0)] [⟨Mh m y p f g,some 41⟩] [] w'∧Ac.le ag ah∧cq=.go cv) ?_ ?_
 ·
  refine wp_block ?_
  refine Av (fun fc a' w'=>∃ (aB:Int)(b1:Array Value)(a5:Ac),a' = ⟨b1,[]⟩∧Kn 84 [(a,0)] [tI 3 aB,tP 1 0 0] b1∧Ai ⟨w,h,BF⟩ a5 [(a,0)] [⟨Mh m y p f g,some 41⟩] [] w'∧Ac.le ag a5∧DD fc y aB=some cq) n ?_ ?_
  ·
   exact XY 0 ⟨_,_,rfl,en.kp,ay,Ac.le_refl _,b5⟩
  rintro a0 _ hb ⟨aB,b1,a5,rfl,eo,az,av,s⟩
  clear b5
  obtain _ | a0:=a0
  ·
   rw [DD] at s; cases s
  rw [DD] at s
  replace q:=q.mono av
  refine XT (XT (Aa (Rk 0 5 [tB 31 (decide (aB<((y.room.length:Nat):Int))),tI 3 aB,tP 1 0 0] eo az fun gp bl=>?_)))
  refine wf (wC (decide (aB<((y.room.length:Nat):Int))) bl (fun bd=>?_) (fun bd=>?_))
  ·
   rw [bd,XW] at s
   refine wp_skip (XT (wp_block (XT (Aa (Rk 0 3 [tI 36 aB,tS 35 m y.room.length p,tI 3 aB,tP 1 0 0] bl az fun gq ep=>?_)))))
   obtain⟨cK,iB,s⟩:=Ao s
   obtain⟨e0,e3,e9⟩:=Aj iB
   obtain⟨a1,br,fn,c7,e6,da⟩:=q.get (by decide) e9
   obtain rfl:=e6
   have bp:=az.addPlc (b:=a1) (o:=br+Yc aB*1) (cs:=[XR cK]) (fun j c hj=>da j _ (Ak hj)) rfl (by kernel_rfl) (by kernel_rfl)
   refine A9 3 (aB) rfl rfl (rfl) rfl (by decide) ep (by rfl) (by rfl) (by rfl) c7 (by rfl) e0 e3 (by kernel_rfl) fun fk (er:Kn _ [(a,0),(a1,br+Yc aB*1)] [tP 37 1 0,tI 36 aB,tS 35 m y.room.length p,tI 3 aB,tP 1 0 0] _)=>?_
   refine Rk 4 1 [tI 38 cK,tI 3 aB,tP 1 0 0] er bp fun gr es=>?_
   obtain⟨fO,jU,s⟩:=Ao s
   refine wl fun K hK=>?_
   refine wc [.c (XR cK),.c (XR 0),.c (XR 8)] es bp (JZ a0 bp.has cK 0 8 jU) fun gw fr gx c1 et an=>?_
   obtain rfl:=c1
   refine⟨.one (.c (.bool fO)),rfl,fun fd (dc:Kn _ [(a,0),(a1,br+Yc aB*1)] [tB 39 fO,tI 38 cK,tI 3 aB,tP 1 0 0] _)=>hK _ _ ?_⟩
   refine Rk 6 1 [tB 40 (!fO),tI 3 aB,tP 1 0 0] dc an fun ft be=>?_
   refine wf (wC ((!fO)) be (fun a6=>?_) (fun a6=>?_))
   ·
    rw [a6,XW] at s
    refine XT (Aa (Rk 0 1 [tI 2 1] be an fun fu dd=>?_))
    refine wf (wp_ret ?_)
    obtain rfl:=XZ s
    obtain rfl:=XZ H
    exact rt (.one (.c (XR 1))) dd an rfl
   rw [a6,XV] at s
   refine wp_skip (Aa (Rk 0 3 [tI 3 (Ya (aB+1)),tP 1 0 0] be an fun fv de=>?_))
   refine wf ?_
   exact XY a0 ⟨Y4 _,XY (Ya (aB+1)) ⟨_,_,rfl,(de.keep [3,1] (by rfl)).cut 1 (by kernel_rfl),an.cutPl 1 (by kernel_rfl),XU av et,s⟩⟩
  rw [bd,XV] at s
  refine wp_exit ?_
  obtain rfl:=XZ s
  exact XY () ⟨_,_,rfl,bl.kp,az,av,rfl⟩
 rintro _ gy ⟨cv,b0,ah,rfl,df,cf,cc,rfl⟩
 rw [Ex.bind_go] at H
 replace l:=l.mono cc
 refine XT (XT (Aa (Rk 0 1 [tI 4 0,tP 1 0 0] df cf fun fw dg=>?_)))
 refine wf ?_
 obtain⟨cl,b3,H⟩:=Ao H
 refine Ar (fun a' w'=>∃ (ct:Unit)(bs:Array Value)(a2:Ac),a' = ⟨bs,[]⟩∧Kn 84 [(a,0)] [] bs∧Ai ⟨w,h,BF⟩ a2 [(a,0)] [⟨Mh m y p f g,some 41⟩] [] w'∧Ac.le ah a2∧cl=.go ct) ?_ ?_
 ·
  refine wp_block ?_
  refine Av (fun fa a' w'=>∃ (aD:Int)(bt:Array Value)(aq:Ac),a' = ⟨bt,[]⟩∧Kn 84 [(a,0)] [tI 4 aD,tP 1 0 0] bt∧Ai ⟨w,h,BF⟩ aq [(a,0)] [⟨Mh m y p f g,some 41⟩] [] w'∧Ac.le ah aq∧DF fa y aD=some cl) n ?_ ?_
  ·
   exact XY 0 ⟨_,_,rfl,dg.kp,cf,Ac.le_refl _,b3⟩
  rintro ae _ gz ⟨aD,bt,aq,rfl,di,aw,au,k⟩
  clear b3
  obtain _ | ae:=ae
  ·
   rw [DF] at k; cases k
  rw [DF] at k
  replace l:=l.mono au
  refine XT (XT (Aa (Rk 0 5 [tB 45 (decide (aD<((y.lG.length:Nat):Int))),tI 4 aD,tP 1 0 0] di aw fun fy bf=>?_)))
  refine wf (wC (decide (aD<((y.lG.length:Nat):Int))) bf (fun a7=>?_) (fun a7=>?_))
  ·
   rw [a7,XW] at k
   refine wp_skip (XT (wp_block (XT (Aa (Rk 0 3 [tI 50 aD,tS 49 f y.lG.length g,tI 4 aD,tP 1 0 0] bf aw fun fz dj=>?_)))))
   obtain⟨cG,hG,k⟩:=Ao k
   obtain⟨ey,e1,e7⟩:=Aj hG
   obtain⟨d,e,fl,c5,e4,c8⟩:=l.get (by decide) e7
   obtain⟨_,_,rfl,rfl,⟨_,_,rfl,rfl,rfl⟩⟩:=e4
   have cg:=aw.addPlc (b:=d) (o:=e+Yc aD*3) (cs:=(Qs cG)) (fun j c hj=>c8 j _ (Ak hj)) rfl (by kernel_rfl) (by kernel_rfl)
   refine A9 3 (aD) rfl rfl (rfl) rfl (by decide) dj (by rfl) (by rfl) (by rfl) c5 (by rfl) ey e1 (by kernel_rfl) fun fe (dk:Kn _ [(a,0),(d,e+Yc aD*3)] [tP 51 1 0,tI 50 aD,tS 49 f y.lG.length g,tI 4 aD,tP 1 0 0] _)=>?_
   refine Rk 4 1 [tA 52 (Qs cG),tI 4 aD,tP 1 0 0] dk cg fun f0 dl=>?_
   refine wl fun K hK=>?_
   refine wa [XR 0,XR 0,XR 0] dl cg fun i cw g0 (dm:Kn _ (Ue a d e aD i) [tP 5 2 0,tA 52 (Qs cG),tI 4 aD,tP 1 0 0] _) ex=>hK _ _ ?_
   refine wl fun K hK=>?_
   refine DT 2 0 (.agg (Qs cG)) (Qs cG) dm ex fun g1 dp bo=>hK _ _ ?_
   have dq:Kn _ _ (EY aD) _:=dp.kp
   refine wf (XT (XT ?_))
   obtain⟨cn,x,k⟩:=Ao k
   refine Ar (fun a' w'=>∃ (bv:Array Value)(af:Ac),a' = ⟨bv,[]⟩∧Kn 84 (Ue a d e aD i) [tP 5 2 0,tI 4 aD,tP 1 0 0,tB 69 cn] bv∧Ai ⟨w,h,BF⟩ af (Ue a d e aD i) [⟨Mh m y p f g,some 41⟩,⟨Qs cG,none⟩,⟨Qs cG,some 74⟩] [] w'∧Ac.le aq af) ?_ ?_
   ·
    refine Aa (Rk 0 4 ((tI 56 cG.hi)::(tI 54 cG.lo)::(EY aD)) dq bo fun f1 dr=>?_)
    obtain⟨gA,jG,x⟩:=Ao x
    refine wl fun K hK=>?_
    refine wc [.c (XR cG.lo),.c (XR 0),.c (XR cG.hi)] dr bo (JZ ae bo.has cG.lo 0 cG.hi jG) fun gs fo g2 c2 am z=>?_
    obtain rfl:=c2
    refine⟨.one (.c (.bool gA)),rfl,fun ff (ds:Kn _ (Ue a d e aD i) ((tB 57 gA)::(tI 56 cG.hi)::(tI 54 cG.lo)::(EY aD)) _)=>hK _ _ ?_⟩
    refine Rk 5 2 ((tB 59 (!gA))::(EY aD)) ds z fun cy b6=>?_
    rcases Y2 ((!gA)) with ai | ai
    ·
     rw [ai,XW] at x
     have dt:Kn _ _ ((tB 59 true)::(EY aD)) _:=(b6.setB 59 true (by rfl) ai).kp
     refine Rk 7 10 ((tB 69 true)::(EY aD)) dt z fun f2 du=>?_
     refine wf ?_
     obtain rfl:=XZ x
     exact XY _ ⟨_,rfl,du.kp,z,am⟩
    rw [ai,XV] at x
    have dv:Kn _ _ ((tB 59 false)::(EY aD)) _:=(b6.setB 59 false (by rfl) ai).kp
    refine Rk 7 5 ((tB 64 (decide (cG.hi>2000)))::(EY aD)) dv z fun cz b8=>?_
    rcases Y2 (decide (cG.hi>2000)) with aj | aj
    ·
     rw [aj,XW] at x
     have dw:Kn _ _ ((tB 64 true)::(EY aD)) _:=(b8.setB 64 true (by rfl) aj).kp
     refine Rk 12 5 ((tB 69 true)::(EY aD)) dw z fun f3 dx=>?_
     refine wf ?_
     obtain rfl:=XZ x
     exact XY _ ⟨_,rfl,dx.kp,z,am⟩
    rw [aj,XV] at x
    have dy:Kn _ _ ((tB 64 false)::(EY aD)) _:=(b8.setB 64 false (by rfl) aj).kp
    refine Rk 12 2 ((tI 66 cG.turn)::(tB 64 false)::(EY aD)) dy z fun f4 b9=>?_
    obtain⟨iT,kZ,x⟩:=Ao x
    refine AD _ rfl (Al b9 (by kernel_rfl)) fun K hK=>?_
    refine wc [.c (XR cG.turn),.c (XR 0),.c (XR 2000)] b9 z (JZ ae z.has cG.turn 0 2000 kZ) fun gu fp g3 c3 eu ch=>?_
    obtain rfl:=c3
    refine⟨.one (.c (.bool iT)),rfl,fun fg (dz:Kn _ (Ue a d e aD i) ((tB 67 iT)::(tI 66 cG.turn)::(tB 64 false)::(EY aD)) _)=>hK _ _ ?_⟩
    refine Rk 15 2 ((tB 69 (!iT))::(EY aD)) dz ch fun f5 d1=>?_
    refine wf ?_
    obtain rfl:=XZ x
    exact XY _ ⟨_,rfl,d1.kp,ch,XU am eu⟩
   rintro _ g4 ⟨bv,af,rfl,bg,ax,bm⟩
   replace l:=l.mono bm
   refine wC (cn) bg (fun a8=>?_) (fun a8=>?_)
   ·
    rw [Ba a8] at k
    refine XT (Aa (Rk 0 1 [tI 2 1] bg ax fun f6 d2=>?_))
    refine wf (wp_ret ?_)
    obtain rfl:=XZ k
    obtain rfl:=XZ H
    exact rt (.one (.c (XR 1))) d2 ax rfl
   rw [Bb a8] at k
   refine wp_skip (XT (Aa (Rk 0 1 ((tI 6 0)::(EY aD)) bg ax fun f7 d3=>?_)))
   refine wf ?_
   obtain⟨co,b4,k⟩:=Ao k
   refine Ar (fun a' w'=>∃ (cu:Unit)(bw:Array Value)(a3:Ac),a' = ⟨bw,[]⟩∧Kn 84 (Ue a d e aD i) [tI 4 aD,tP 1 0 0] bw∧Ai ⟨w,h,BF⟩ a3 (Ue a d e aD i) [⟨Mh m y p f g,some 41⟩,⟨Qs cG,none⟩,⟨Qs cG,some 74⟩] [] w'∧Ac.le af a3∧co=.go cu) ?_ ?_
   ·
    refine wp_block ?_
    refine Av (fun fb a' w'=>∃ (bB:Int)(bx:Array Value)(a4:Ac),a' = ⟨bx,[]⟩∧Kn 84 (Ue a d e aD i) ((tI 6 bB)::(EY aD)) bx∧Ai ⟨w,h,BF⟩ a4 (Ue a d e aD i) [⟨Mh m y p f g,some 41⟩,⟨Qs cG,none⟩,⟨Qs cG,some 74⟩] [] w'∧Ac.le af a4∧DE fb y aD cG bB=some co) ae ?_ ?_
    ·
     exact XY 0 ⟨_,_,rfl,d3.kp,ax,Ac.le_refl _,b4⟩
    rintro bq _ g5 ⟨bB,bx,a4,rfl,d5,ab,bn,u⟩
    clear b4
    obtain _ | bq:=bq
    ·
     rw [DE] at u; cases u
    rw [DE] at u
    replace l:=l.mono bn
    refine XT (XT (Aa (Rk 0 3 ((tB 72 (decide (bB<aD)))::(tI 6 bB)::(EY aD)) d5 ab fun f9 bh=>?_)))
    refine wf (wC (decide (bB<aD)) bh (fun a9=>?_) (fun a9=>?_))
    ·
     rw [a9,XW] at u
     refine wp_skip (XT (wp_block (XT (Au (by kernel_rfl) ?_))))
     replace ab:=ab.drew
     refine Ax [] (Ue a d e aD i) [⟨Mh m y p f g,some 41⟩,⟨Qs cG,none⟩,⟨Qs cG,some 74⟩] ?_
     refine Dr [0,1,2] [2,1,0] ((tI 77 bB)::(tS 76 f y.lG.length g)::(tI 6 bB)::(EY aD)) bh ab fun ga d6=>?_
     obtain⟨x78,ex78,u⟩:=Ao u
     obtain⟨ez,e2,e8⟩:=Aj ex78
     obtain⟨b2,cr,fm,c6,e5,c9⟩:=l.get (by decide) e8
     obtain⟨_,_,rfl,rfl,⟨_,_,rfl,rfl,rfl⟩⟩:=e5
     have ao:=ab.addPlc (b:=b2) (o:=cr+Yc bB*3) (cs:=[XR x78.lo,XR x78.hi,XR x78.turn]) (fun j c hj=>c9 j _ (Ak hj)) rfl (by kernel_rfl) (by kernel_rfl)
     refine A5 3 (bB) [XR x78.lo,XR x78.hi,XR x78.turn] (fun _ _ _ _ _ h=>h) rfl rfl (rfl) rfl (by decide) (by kernel_rfl) (by kernel_rfl) d6 ab.plOk (by rfl) (by rfl) (by rfl) c6 (by rfl) ez e2 (by kernel_rfl) fun fh (d8:Kn _ [(a,0),(d,e+Yc aD*3),(i,0),(b2,cr+Yc bB*3)] ((tP 78 3 0)::(tI 77 bB)::(tS 76 f y.lG.length g)::(tI 6 bB)::(EY aD)) _)=>?_
     refine Dr [4,5,6,7,8] (dn 8) ((tB 83 (x78.turn == cG.turn))::(tI 6 bB)::(EY aD)) d8 ao fun gc bi=>?_
     refine AL (by kernel_rfl) (wC ((x78.turn == cG.turn)) bi (fun ba=>?_) (fun ba=>?_))
     ·
      rw [ba,XW] at u
      refine XT (Aa (Rk 0 1 [tI 2 1] bi ao fun gd d9=>?_))
      refine wf (wp_ret ?_)
      obtain rfl:=XZ u
      obtain rfl:=XZ k
      obtain rfl:=XZ H
      exact rt (.one (.c (XR 1))) d9 ao rfl
     rw [ba,XV] at u
     refine wp_skip (Aa (Rk 0 3 ((tI 6 (Ya (bB+1)))::(EY aD)) bi ao fun gf ea=>?_))
     refine wf ?_
     exact XY bq ⟨Y4 _,XY (Ya (bB+1)) ⟨_,_,rfl,(ea.keep [6,5,4,1] (by rfl)).cut 3 (by kernel_rfl),ao.cutPl 3 (by kernel_rfl),bn,u⟩⟩
    rw [a9,XV] at u
    refine wp_exit ?_
    obtain rfl:=XZ u
    exact XY () ⟨_,_,rfl,bh.kp,ab,bn,rfl⟩
   rintro _ g6 ⟨cu,bw,a3,rfl,ec,ci,ev,rfl⟩
   rw [Ex.bind_go] at k
   refine Aa (Rk 0 3 [tI 4 (Ya (aD+1)),tP 1 0 0] ec ci fun gg ed=>?_)
   refine wf ?_
   exact XY ae ⟨Y4 _,XY (Ya (aD+1)) ⟨_,_,rfl,(ed.keep [4,1] (by rfl)).cut 1 (by kernel_rfl),ci.cutPl 1 (by kernel_rfl),XU au (XU bm ev),k⟩⟩
  rw [a7,XV] at k
  refine wp_exit ?_
  obtain rfl:=XZ k
  exact XY () ⟨_,_,rfl,bf.kp,aw,au,rfl⟩
 rintro _ g7 ⟨ct,bs,a2,rfl,ee,cj,fs,rfl⟩
 rw [Ex.bind_go] at H
 refine XT (Aa (Rk 0 1 [tI 2 0] ee cj fun gh ef=>?_))
 refine wf (wp_ret ?_)
 obtain rfl:=XZ H
 exact rt (.one (.c (XR 0))) ef cj rfl
theorem KW (n:Nat) {h:Ac} {w:World} (hh:CK h w) (y:Am) {dQ:Ye} (eD:rep h y dQ) (order:List Int) {aS:Yd} {aT:Nat} (dR:At h aS aT order) {r:Bool} (H:DN n y order=some r) :
  Calls Tryz.prog 14 #[.agg dQ.toArray,.slice aS order.length aT] w (CP (fun h v=>v=.bool r) h w):=by
 obtain⟨_,_,rfl,⟨a,d,rfl,j⟩,⟨_,_,rfl,⟨b,e,rfl,k⟩,rfl⟩⟩:=eD
 refine enter 17 [.agg (Mh a y d b e),.c (Yb aS order.length aT)] Tryz.func14 rfl rfl rfl rfl fun t hk=>?_
 have hm:=Ai.begin h w hh
 unfold DN at H
 refine XT (Aa (wl fun K hK=>?_))
 refine wb (.agg (Mh a y d b e)) hk hm fun g aq bh (aa:Kn _ [(g,0)] [tP 2 0 0,tA 0 (Mh a y d b e),tS 1 aS order.length aT] _) i=>hK _ _ ?_
 refine Rk 1 1 [tP 2 0 0,tS 1 aS order.length aT] aa i fun av ab=>?_
 refine wf (XT (XT (Aa (Rk 0 1 [tA 7 (Mh a y d b e),tP 2 0 0,tS 1 aS order.length aT] ab i fun aw ac=>?_))))
 obtain⟨x8,ex8,H⟩:=Ao H
 refine wl fun K hK=>?_
 refine wc [.agg (Mh a y d b e)] ac i (Fm n i.has y ((Ab (Af j) (Ab (Af k) Ad)):rep h y _) ex8) fun bb z bd u o f=>?_
 replace j:=j.mono o
 replace k:=k.mono o
 replace dR:=dR.mono o
 obtain rfl:=u
 refine⟨.one (.c (XR x8)),rfl,fun an (ad:Kn _ [(g,0)] [tI 8 x8,tA 7 (Mh a y d b e),tP 2 0 0,tS 1 aS order.length aT] _)=>hK _ _ ?_⟩
 refine Rk 2 1 [tB 9 (x8 != 0),tP 2 0 0,tS 1 aS order.length aT] ad f fun ax m=>?_
 refine wf (wC ((x8 != 0)) m (fun l=>?_) (fun l=>?_))
 ·
  rw [l,XW] at H
  refine XT (Aa (Rk 0 1 [tB 4 false] m f fun ay ae=>?_))
  refine wf (wp_ret ?_)
  obtain rfl:=XZ H
  exact rt (.one (.c (.bool false))) ae f rfl
 rw [l,XV] at H
 refine wp_skip (XT (Aa (Rk 0 2 [tS 12 aS order.length aT,tA 11 (Mh a y d b e)] m f fun az af=>?_)))
 obtain⟨cC,fY,H⟩:=Ao H
 refine wl fun K hK=>?_
 refine wc [.agg (Mh a y d b e),.c (Yb aS order.length aT)] af f (FL n f.has y ((Ab (Af j) (Ab (Af k) Ad)):rep z y _) order dR fY) fun bc ar be x au q=>?_
 obtain⟨_,_,rfl,⟨_,rfl,⟨_,_,rfl,rfl,⟨_,_,rfl,rfl,⟨_,_,rfl,rfl,⟨_,_,rfl,rfl,⟨_,_,rfl,rfl,⟨_,_,rfl,rfl,⟨_,_,rfl,rfl,rfl⟩⟩⟩⟩⟩⟩⟩⟩,rfl⟩:=x
 refine⟨.tup [.agg (Po cC),.c (.bool cC.2)],rfl,fun ao (ag:Kn _ [(g,0)] [(13,.tup [.agg (Po cC),.c (.bool cC.2)]),tS 12 aS order.length aT,tA 11 (Mh a y d b e)] _)=>hK _ _ ?_⟩
 refine Rk 3 3 [tB 15 cC.2,tA 14 (Po cC)] ag q fun a8 ah=>?_
 refine wl fun K hK=>?_
 refine wa [XR 0,XR 0,XR 0,XR 0,XR 0,XR 0,XR 0,XR 0] ah q fun s ap bf (ai:Kn _ [(g,0),(s,0)] [tP 5 1 0,tB 15 cC.2,tA 14 (Po cC)] _) am=>hK _ _ ?_
 refine wl fun K hK=>?_
 refine DT 1 0 (.agg (Po cC)) (Po cC) ai am fun bg aj p=>hK _ _ ?_
 refine Rk 8 1 [tB 6 cC.2] aj p fun a9 ak=>?_
 refine wf (XT (Aa (Rk 0 2 [tB 4 cC.2] ak p fun ba al=>?_)))
 refine wf (wp_ret ?_)
 obtain rfl:=XZ H
 exact rt (.one (.c (.bool cC.2))) al p rfl
end Go.Proofs.YtinminkmefljbaaGreat
