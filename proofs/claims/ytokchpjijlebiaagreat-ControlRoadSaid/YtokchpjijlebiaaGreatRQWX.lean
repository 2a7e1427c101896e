/- Each call computes its plain function. -/
import Derived.Test.YtokchpjijlebiaaGreatProg
import Derived.Test.YtokchpjijlebiaaGreatRQWT
import Derived.Test.YtokchpjijlebiaaGreatRQWV
import Derived.Test.YtokchpjijlebiaaGreatRQWW
set_option linter.all false
namespace Go.Proofs.YtokchpjijlebiaaGreat
open Go Go.RowKit
set_option maxRecDepth 100000
set_option maxHeartbeats 4000000
open Rep (rep)
open KRep (kv)
open VRep (rv)
abbrev Sg (q)(aA:List Int)(s aD)(x6:List (DO Int Rg))(m p):=([tS 12 q aA.length s,tI 8 aD,tI 7 ((x6.length:Nat):Int),tS 6 m x6.length p,tP 1 0 0]:TM)
theorem F7 (n:Nat) {h:Ae} {w:World} (hh:Dk h w) (w_:AM) {eW:Wx} (gt:rep h w_ eW) {r:List Int} (H:Co n w_=some r) :
  Calls Tryz.prog 39 #[.agg eW.toArray] w (Dq (fun h v=>∃ a c,v=.slice a r.length c∧A4 h a c r) h w):=by
 obtain⟨_,_,rfl,⟨_,_,rfl,⟨d,g,rfl,aj⟩,⟨_,_,rfl,⟨_,_,rfl,rfl,rfl⟩,⟨_,_,rfl,⟨e,k,rfl,ak⟩,⟨_,_,rfl,⟨f,l,rfl,al⟩,⟨_,_,rfl,rfl,⟨_,_,rfl,rfl,⟨_,_,rfl,rfl,rfl⟩⟩⟩⟩⟩⟩⟩,⟨_,_,rfl,⟨x,ab,rfl,aq⟩,⟨_,_,rfl,⟨y,ac,rfl,ar⟩,⟨z,ad,rfl,au⟩⟩⟩⟩:=gt
 refine enter 22 [.agg (CH d w_ g e k f l x ab y ac z ad)] Tryz.func39 rfl rfl rfl rfl fun t hk=>?_
 have hm:=Ah.begin h w hh
 unfold Co at H
 refine XT (Aa (wl fun K hK=>?_))
 refine wb (.agg (CH d w_ g e k f l x ab y ac z ad)) hk hm fun aa cv dj (b7:Kn 22 [(aa,0)] [tP 1 0 0,tA 0 (CH d w_ g e k f l x ab y ac z ad)] cv) a2=>hK _ _ ?_
 refine Rk 1 1 [tS 2 none 0 0,tP 1 0 0] b7 a2 fun c8 b8=>?_
 refine wf (XT (XT (Aa (Rk 0 1 [tA 5 (CH d w_ g e k f l x ab y ac z ad),tS 2 none 0 0,tP 1 0 0] b8 a2 fun c9 b9=>?_))))
 obtain⟨x6,kP,H⟩:=Av H
 refine wl fun K hK=>?_
 refine wc [.agg (CH d w_ g e k f l x ab y ac z ad)] b9 a2 (DN n a2.has w_ ((Ab (Ab (Ad aj) (Ab (Ab Ac Ac) (Ab (Ad ak) (Ab (Ad al) (Ab Ac (Ab Ac (Ab Ac Ac))))))) (Ab (Ad aq) (Ab (Ad ar) (Ad au)))):rep h w_ _) kP) fun df az c0 bt ai bp=>?_
 replace aj:=aj.mono ai
 replace ak:=ak.mono ai
 replace al:=al.mono ai
 replace aq:=aq.mono ai
 replace ar:=ar.mono ai
 replace au:=au.mono ai
 obtain⟨m,p,rfl,bg⟩:=bt
 refine⟨.one (.c (Wu m x6.length p)),rfl,fun cw (ca:Kn 22 [(aa,0)] [tS 6 m x6.length p,tA 5 (CH d w_ g e k f l x ab y ac z ad),tS 2 none 0 0,tP 1 0 0] cw)=>hK _ _ ?_⟩
 refine Rk 2 2 [tI 8 0,tI 7 ((x6.length:Nat):Int),tS 6 m x6.length p,tS 2 none 0 0,tP 1 0 0] ca bp fun da cb=>?_
 refine wf ?_
 have ck:Ah ⟨w,h,A6⟩ az [(aa,0)] [⟨CH d w_ g e k f l x ab y ac z ad,some 94⟩] [⟨none,0,0,3,1,[],0⟩] c0:=bp.nilRow 3 1
 have bx:Ag az ([]:List Int) []:=Ag.nil
 obtain⟨af,bl,H⟩:=Av H
 refine A0 (fun a' w'=>∃ (ag:Ww)(ah:Nat)(aw:Wx)(bi:Array Value)(a0:Ae),a' = ⟨bi,[]⟩∧Kn 22 [(aa,0)] [tS 2 ag af.length ah] bi∧Ah ⟨w,h,A6⟩ a0 [(aa,0)] [⟨CH d w_ g e k f l x ab y ac z ad,some 94⟩] [⟨ag,af.length,ah,3,1,aw,0⟩] w'∧Ae.le az a0∧Ag a0 af aw) ?_ ?_
 ·
  refine wp_block ?_
  refine Au (fun cr a' w'=>∃ (aA:List Int)(aD:Int)(q:Ww)(s:Nat)(am:Wx)(bj:Array Value)(ap:Ae),a' = ⟨bj,[]⟩∧Kn 22 [(aa,0)] [tI 8 aD,tI 7 ((x6.length:Nat):Int),tS 6 m x6.length p,tS 2 q aA.length s,tP 1 0 0] bj∧Ah ⟨w,h,A6⟩ ap [(aa,0)] [⟨CH d w_ g e k f l x ab y ac z ad,some 94⟩] [⟨q,aA.length,s,3,1,am,0⟩] w'∧Ae.le az ap∧Ag ap aA am∧Bu cr w_ x6 aA aD=some af) n ?_ ?_
  ·
   exact XY ([]:List Int) ⟨0,none,0,[],_,_,rfl,cb.kp,ck,Ae.le_refl _,bx,bl⟩
  ·
   rintro a4 _ dk ⟨aA,aD,q,s,am,bj,ap,rfl,cc,bf,ae,a1,u⟩
   clear bl
   obtain _ | a4:=a4
   ·
    rw [Bu] at u; cases u
   rw [Bu] at u
   replace aj:=aj.mono ae
   replace ak:=ak.mono ae
   replace al:=al.mono ae
   replace aq:=aq.mono ae
   replace ar:=ar.mono ae
   replace au:=au.mono ae
   replace bg:=bg.mono ae
   refine XT (Aa (Rk 0 1 [tB 9 (decide (aD<((x6.length:Nat):Int))),tI 8 aD,tI 7 ((x6.length:Nat):Int),tS 6 m x6.length p,tS 2 q aA.length s,tP 1 0 0] cc bf fun db ba=>?_))
   refine wf (XT (wC (decide (aD<((x6.length:Nat):Int))) ba (fun a7=>?_) (fun a7=>?_)))
   ·
    rw [a7,XW] at u
    refine wp_skip (XT (wp_block (XT (Aa ?_))))
    obtain⟨bP,dS,u⟩:=Av u
    obtain⟨cl,cm,cq⟩:=Ai dS
    obtain⟨an,av,c2,bv,cp,bz⟩:=bg.get (by decide) cq
    obtain⟨ao,c3,c1,rfl,a5,bs⟩:=cp
    have a3:=bf.addPlc (b:=an) (o:=av+Wv aD*1) (cs:=[.map (some ao)]) (fun j c hj=>bz j _ (Ak hj)) rfl (by kernel_rfl) (by kernel_rfl)
    refine Bl 0 (aD) rfl rfl (rfl) rfl (by decide) ba (by rfl) (by rfl) (by rfl) bv (by rfl) cl cm (by kernel_rfl) fun cx (cd:Kn 22 [(aa,0),(an,av+Wv aD*1)] [tP 10 1 0,tB 9 (decide (aD<((x6.length:Nat):Int))),tI 8 aD,tI 7 ((x6.length:Nat):Int),tS 6 m x6.length p,tS 2 q aA.length s,tP 1 0 0] cx)=>?_
    refine Rk 1 2 [(4,.one (.c (.map (some ao)))),tI 8 aD,tI 7 ((x6.length:Nat):Int),tS 6 m x6.length p,tS 2 q aA.length s,tP 1 0 0] cd a3 fun dc ce=>?_
    refine wf (Aa (Rk 0 4 ((15,.one (.c (.map (some ao))))::(tA 14 (Ja d w_ g e k f l))::(Sg q aA s aD x6 m p)) ce a3 fun dd cf=>?_))
    obtain⟨cH,eV,u⟩:=Av u
    refine wl fun K hK=>?_
    refine wc [.agg (Ja d w_ g e k f l),.c (.map (some ao))] cf a3 (F6 a4 a3.has w_.lH ((Ab (Ad aj) (Ab (Ab Ac Ac) (Ab (Ad ak) (Ab (Ad al) (Ab Ac (Ab Ac (Ab Ac Ac))))))):rep ap w_.lH _) bP a5 bs eV) fun dg a6 dl bu bb bq=>?_
    replace a1:=a1.mono bb
    replace a5:=bb _ _ _ a5
    obtain⟨bm,rfl⟩:=bu
    refine⟨.one (.agg [Ws bm,Ws cH]),rfl,fun cy (cg:Kn 22 [(aa,0),(an,av+Wv aD*1)] ((tA 16 [Ws bm,Ws cH])::(15,.one (.c (.map (some ao))))::(tA 14 (Ja d w_ g e k f l))::(Sg q aA s aD x6 m p)) cy)=>hK _ _ ?_⟩
    refine Rk 5 1 ((tI 17 cH)::(Sg q aA s aD x6 m p)) cg bq fun de ch=>?_
    refine wl fun K hK=>?_
    refine wS 3 1 [Ws cH] ch bq fun bk ct dh (b1:Kn 22 [(aa,0),(an,av+Wv aD*1)] ((tS 18 bk 1 1)::(tI 17 cH)::(Sg q aA s aD x6 m p)) ct) bo=>?_
    have a8:Ag a6 ([cH]:List Int) ([.int .i64 cH]:Wx):=⟨_,_,rfl,(Ac:rep a6 (cH:Int) _),rfl⟩
    refine hK _ _ ?_
    obtain⟨fR,kC,u⟩:=Av u
    obtain⟨bh,ci⟩:=Bb kC
    refine wl fun K hK=>?_
    refine AD 0 8 1 _ (fR.length) _ ([.int .i64 cH]:Wx) b1 bo rfl rfl (by decide) rfl (by rfl) (by kernel_rfl) (by rfl) (by rfl) (Ag.len a8) (bo.rowCell (i:=1) rfl) a8.one (by rw [bh]; simp <;> omega) (by rw [bh]; exact ci) (by decide) fun ax ay br cu di b0 (b2:Kn 22 [(aa,0),(an,av+(aD:Int).toNat*1)] ((tS 19 ax fR.length ay)::(tS 18 bk 1 1)::(tI 17 cH)::(Sg q aA s aD x6 m p)) cu) bc=>?_
    have bw:Ag a6 fR (am++([.int .i64 cH]:Wx)):=by rw [bh]; exact Ag.append a1 a8
    obtain rfl:br=0:=Nat.le_zero.1 b0
    refine hK _ _ ?_
    refine Rk 8 1 [tS 2 ax fR.length ay,tI 8 aD,tI 7 ((x6.length:Nat):Int),tS 6 m x6.length p,tP 1 0 0] b2 bc fun c5 b3=>?_
    refine wf (Aa (Rk 0 2 [tI 8 (Wt (aD+1)),tS 2 ax fR.length ay,tI 7 ((x6.length:Nat):Int),tS 6 m x6.length p,tP 1 0 0] b3 bc fun c6 b4=>?_))
    refine wf ?_
    exact XY a4 ⟨Xc _,XY fR ⟨Wt (aD+1),ax,ay,am++([.int .i64 cH]:Wx),_,_,rfl,(b4.keep [8,7,6,2,1] (by rfl)).cut 1 (by kernel_rfl),(bc.cutRw 1).cutPl 1 (by kernel_rfl),XU ae bb,bw,u⟩⟩
   ·
    rw [a7,XV] at u
    refine wp_exit ?_
    obtain rfl:=XZ u
    exact XY q ⟨s,am,_,_,rfl,ba.kp,bf,ae,a1⟩
 ·
  rintro _ cz ⟨ag,ah,aw,bi,a0,rfl,b5,bd,c4,a9⟩
  refine XT (Aa (Rk 0 2 [tS 2 ag af.length ah] b5 bd fun c7 b6=>?_))
  refine wf (wp_ret ?_)
  obtain⟨bn,cj,co,be⟩:=bd.settle (i:=0) rfl
  replace a9:=a9.mono cj
  replace be:Ah ⟨w,h,A6⟩ bn [(aa,0)] [⟨CH d w_ g e k f l x ab y ac z ad,some 94⟩] [⟨ag,af.length,ah,3,1,aw,(aw:Wx).length⟩] cz:=be
  have cn:A4 bn ag ah af:=⟨_,a9,co,bd.rowCap (i:=0) rfl⟩
  obtain rfl:=XZ H
  exact rt (.one (.c (Wu ag af.length ah))) b6 be ⟨_,_,rfl,cn⟩
abbrev UU:List SC:=[Wu none 0 0,Ws 0,Ws 0,Wu none 0 0,Wu none 0 0,Ws 0,Ws 0,Ws 0,Ws 0,Wu none 0 0,Wu none 0 0,Wu none 0 0]
abbrev Ql (a)(r_:Af)(g e i f k)(d:Ar):=([⟨UB a r_ g e i f k,some 48⟩,⟨DA d,some 105⟩,⟨UU,some 94⟩]:List Db)
abbrev Mc (bM:List (DO Int Rg))(x ac most):=([tI 18 ((bM.length:Nat):Int),tS 17 x bM.length ac,tB 8 true,tP 3 0 0,tI 2 most]:TM)
abbrev Sh (a)(r_:Af)(g e i f k)(d:Ar)(most):=([tA 13 (UB a r_ g e i f k),tA 12 (DA d),tA 11 (UB a r_ g e i f k),tP 3 0 0,tI 2 most]:TM)
theorem IL (n:Nat) {h:Ae} {w:World} (hh:Dk h w) (r_:Af) {aP:Wx} (aW:rep h r_ aP) (d:Ar) {eF:Wx} (fU:rep h d eF) (most:Int) {r:Bool} (H:CT n r_ d most=some r) :
  Calls Tryz.prog 49 #[.agg aP.toArray,.agg eF.toArray,.int .i64 most] w (Dq (fun h v=>v=.bool r) h w):=by
 obtain⟨_,_,rfl,⟨a,g,rfl,ae⟩,⟨_,_,rfl,⟨_,_,rfl,rfl,rfl⟩,⟨_,_,rfl,⟨e,i,rfl,af⟩,⟨_,_,rfl,⟨f,k,rfl,ag⟩,⟨_,_,rfl,rfl,⟨_,_,rfl,rfl,⟨_,_,rfl,rfl,rfl⟩⟩⟩⟩⟩⟩⟩:=aW
 obtain⟨_,_,rfl,⟨_,_,rfl,rfl,⟨_,_,rfl,rfl,⟨_,_,rfl,rfl,rfl⟩⟩⟩,⟨_,_,rfl,⟨_,_,rfl,rfl,⟨_,_,rfl,rfl,⟨_,_,rfl,rfl,rfl⟩⟩⟩,⟨_,_,rfl,rfl,rfl⟩⟩⟩:=fU
 refine enter 31 [.agg (UB a r_ g e i f k),.agg (DA d),.c (Ws most)] Tryz.func49 rfl rfl rfl rfl fun t hk=>?_
 have hm:=Ah.begin h w hh
 unfold CT at H
 refine XT (Aa (wl fun K hK=>?_))
 refine wb (.agg (UB a r_ g e i f k)) hk hm fun l dl en (ck:Kn 31 [(l,0)] [tP 3 0 0,tA 0 (UB a r_ g e i f k),tA 1 (DA d),tI 2 most] dl) c7=>hK _ _ ?_
 refine wl fun K hK=>?_
 refine wb (.agg (DA d)) ck c7 fun m dr er (cr:Kn 31 [(l,0),(m,0)] [tP 4 1 0,tP 3 0 0,tA 0 (UB a r_ g e i f k),tA 1 (DA d),tI 2 most] dr) au=>hK _ _ ?_
 refine Rk 2 1 [tP 4 1 0,tP 3 0 0,tI 2 most] cr au fun eb ct=>?_
 refine wf (wp_scope_straight (XT (Am (by kernel_rfl) ?_)))
 replace au:=au.drew
 refine Ao [] [(l,0),(m,0)] [⟨UB a r_ g e i f k,some 48⟩,⟨DA d,some 105⟩] ?_
 refine Dr [0,1,2] [2,1,0] (Sh a r_ g e i f k d most) ct au fun dt cu=>?_
 obtain⟨cN,fV,H⟩:=Av H
 have b1:Kn 31 [(l,0),(m,0),(0,0)] (Sh a r_ g e i f k d most) dt:=cu.push (0,0) (by kernel_rfl)
 have br:=au.addPlc (b:=0) (o:=0) (cs:=[]) (fun j c hj=>by simp at hj) rfl (by kernel_rfl) (by kernel_rfl)
 refine Cf (e':=[(l,0),(m,0),(0,0)]) (pl':=[⟨UB a r_ g e i f k,some 48⟩,⟨DA d,some 105⟩,⟨[],none⟩]) (fun _ hp=>hp.pop (Nat.le_of_eq rfl) (by kernel_rfl)) ?_
 refine Bc (fun W=>∀ (y:Nat),∀ (q:Ww),∀ (z:Nat),∀ (s:Ww),∀ (aa:Nat),∀ (u:Ww),∀ (ab:Nat),∀ a' w',(∃ (be:Array Value)(ah:Ae),a' = ⟨be,[]⟩∧Kn 31 [(l,0),(m,0),(y,0)] [tP 7 2 0,tA 15 (RN a r_ g e i f k q cN z s aa u ab),tP 3 0 0,tI 2 most] be∧Ah ⟨w,h,A6⟩ ah [(l,0),(m,0),(y,0)] (Ql a r_ g e i f k d) [] w'∧Ae.le h ah∧A4 ah q z cN.lD∧A4 ah s aa cN.lE∧A4 ah u ab cN.lC)→W [(l,0),(m,0),(y,0)] (Ql a r_ g e i f k d) [4,3,5,2,1,0] a' w') ?_ (fun b5=>?_)
 ·
  intro y q z s aa u ab
  rintro _ es ⟨be,ah,rfl,cv,c8,bn,av,aw,ax⟩
  replace ae:=ae.mono bn
  replace af:=af.mono bn
  replace ag:=ag.mono bn
  refine Cq 6 rfl (by kernel_rfl) (by decide) (rfl) (by kernel_rfl) fun K hK=>?_
  refine EZ 2 0 (.agg (RN a r_ g e i f k q cN z s aa u ab)) (RN a r_ g e i f k q cN z s aa u ab) cv c8 fun et cw ba=>hK _ _ ?_
  refine Ao [] [(l,0),(m,0),(y,0)] [⟨UB a r_ g e i f k,some 48⟩,⟨DA d,some 105⟩,⟨RN a r_ g e i f k q cN z s aa u ab,some 94⟩] ?_
  have cx:Kn 31 [(l,0),(m,0),(y,0)] [tP 7 2 0,tP 3 0 0,tI 2 most] be:=cw.kp
  refine A2 (by kernel_rfl) (XT (Aa (Rk 0 1 [tB 8 true,tP 7 2 0,tP 3 0 0,tI 2 most] cx ba fun ec cy=>?_)))
  refine wf (XT (wp_label (XT (XT (Aa (Rk 0 1 [tA 16 (RN a r_ g e i f k q cN z s aa u ab),tB 8 true,tP 3 0 0,tI 2 most] cy ba fun ed cz=>?_))))))
  obtain⟨bM,eU,H⟩:=Av H
  refine wl fun K hK=>?_
  refine wc [.agg (RN a r_ g e i f k q cN z s aa u ab)] cz ba (DN n ba.has (AM.mk r_ cN) ((Ab (Ab (Ad ae) (Ab (Ab Ac Ac) (Ab (Ad af) (Ab (Ad ag) (Ab Ac (Ab Ac (Ab Ac Ac))))))) (Ab (Ad av) (Ab (Ad aw) (Ad ax)))):rep ah (AM.mk r_ cN) _) eU) fun ek b0 eu ca ai b4=>?_
  replace ae:=ae.mono ai
  replace af:=af.mono ai
  replace ag:=ag.mono ai
  replace av:=av.mono ai
  replace aw:=aw.mono ai
  replace ax:=ax.mono ai
  obtain⟨x,ac,rfl,bt⟩:=ca
  refine⟨.one (.c (Wu x bM.length ac)),rfl,fun du (c0:Kn 31 [(l,0),(m,0),(y,0)] [tS 17 x bM.length ac,tA 16 (RN a r_ g e i f k q cN z s aa u ab),tB 8 true,tP 3 0 0,tI 2 most] du)=>hK _ _ ?_⟩
  refine Rk 2 2 ((tI 19 0)::(Mc bM x ac most)) c0 b4 fun ee c1=>?_
  refine wf ?_
  obtain⟨bd,bx,H⟩:=Av H
  refine A0 (fun a' w'=>∃ (bv:Array Value)(bh:Ae),a' = ⟨bv,[]⟩∧Kn 31 [(l,0),(m,0),(y,0)] [tB 8 bd] bv∧Ah ⟨w,h,A6⟩ bh [(l,0),(m,0),(y,0)] [⟨UB a r_ g e i f k,some 48⟩,⟨DA d,some 105⟩,⟨RN a r_ g e i f k q cN z s aa u ab,some 94⟩] [] w'∧Ae.le b0 bh) ?_ ?_
  ·
   refine wp_block ?_
   refine Au (fun dj a' w'=>∃ (aA:Int)(bw:Array Value)(a9:Ae),a' = ⟨bw,[]⟩∧Kn 31 [(l,0),(m,0),(y,0)] ((tI 19 aA)::(Mc bM x ac most)) bw∧Ah ⟨w,h,A6⟩ a9 [(l,0),(m,0),(y,0)] [⟨UB a r_ g e i f k,some 48⟩,⟨DA d,some 105⟩,⟨RN a r_ g e i f k q cN z s aa u ab,some 94⟩] [] w'∧Ae.le b0 a9∧B8 dj r_ most bM aA=some bd) n ?_ ?_
   ·
    exact XY 0 ⟨_,_,rfl,c1.kp,b4,Ae.le_refl _,bx⟩
   ·
    rintro bc _ ev ⟨aA,bw,a9,rfl,c2,bs,ad,p⟩
    clear bx
    obtain _ | bc:=bc
    ·
     rw [B8] at p; cases p
    rw [B8] at p
    replace ae:=ae.mono ad
    replace af:=af.mono ad
    replace ag:=ag.mono ad
    replace av:=av.mono ad
    replace aw:=aw.mono ad
    replace ax:=ax.mono ad
    replace bt:=bt.mono ad
    refine XT (Aa (Rk 0 1 ((tB 20 (decide (aA<((bM.length:Nat):Int))))::(tI 19 aA)::(Mc bM x ac most)) c2 bs fun ef bl=>?_))
    refine wf (XT (wC (decide (aA<((bM.length:Nat):Int))) bl (fun bj=>?_) (fun bj=>?_)))
    ·
     rw [bj,XW] at p
     refine wp_skip (XT (wp_block (XT (Aa ?_))))
     obtain⟨cV,fQ,p⟩:=Av p
     obtain⟨c9,da,di⟩:=Ai fQ
     obtain⟨bf,bu,dz,cc,dh,cd⟩:=bt.get (by decide) di
     obtain⟨an,d0,dy,rfl,bg,b6⟩:=dh
     have bb:=bs.addPlc (b:=bf) (o:=bu+Wv aA*1) (cs:=[.map (some an)]) (fun j c hj=>cd j _ (Ak hj)) rfl (by kernel_rfl) (by kernel_rfl)
     refine Bl 0 (aA) rfl rfl (rfl) rfl (by decide) bl (by rfl) (by rfl) (by rfl) cc (by rfl) c9 da (by kernel_rfl) fun dv (c3:Kn 31 [(l,0),(m,0),(y,0),(bf,bu+Wv aA*1)] ((tP 21 3 0)::(tB 20 (decide (aA<((bM.length:Nat):Int))))::(tI 19 aA)::(Mc bM x ac most)) dv)=>?_
     refine Rk 1 2 ((10,.one (.c (.map (some an))))::(tI 19 aA)::(Mc bM x ac most)) c3 bb fun eg c4=>?_
     refine wf (XT (Aa (Rk 0 2 ((24,.one (.c (.map (some an))))::(tA 23 (UB a r_ g e i f k))::(tI 19 aA)::(Mc bM x ac most)) c4 bb fun d4 ce=>?_)))
     obtain⟨dU,iY,p⟩:=Av p
     refine wl fun K hK=>?_
     refine wc [.agg (UB a r_ g e i f k),.c (.map (some an))] ce bb (F6 bc bb.has r_ ((Ab (Ad ae) (Ab (Ab Ac Ac) (Ab (Ad af) (Ab (Ad ag) (Ab Ac (Ab Ac (Ab Ac Ac))))))):rep a9 r_ _) cV bg b6 iY) fun eh d1 el b7 bm ar=>?_
     replace bg:=bm _ _ _ bg
     obtain⟨bz,rfl⟩:=b7
     refine⟨.one (.agg [Ws bz,Ws dU]),rfl,fun dk (cf:Kn 31 [(l,0),(m,0),(y,0),(bf,bu+Wv aA*1)] ((tA 25 [Ws bz,Ws dU])::(24,.one (.c (.map (some an))))::(tA 23 (UB a r_ g e i f k))::(tI 19 aA)::(Mc bM x ac most)) dk)=>hK _ _ ?_⟩
     refine Rk 3 3 ((tB 28 (decide (dU>most)))::(tI 19 aA)::(Mc bM x ac most)) cf ar fun d5 bk=>?_
     refine wf (wC (decide (dU>most)) bk (fun bi=>?_) (fun bi=>?_))
     ·
      rw [bi,XW] at p
      refine XT (Aa (Rk 0 1 [tB 8 false] bk ar fun d6 cg=>?_))
      refine wf (wp_exit ?_)
      obtain rfl:=XZ p
      exact XY _ ⟨_,rfl,(cg.keep [8] (by rfl)).cut 3 (by kernel_rfl),ar.cutPl 3 (by kernel_rfl),XU ad bm⟩
     ·
      rw [bi,XV] at p
      refine wp_skip (Aa (Rk 0 2 ((tI 19 (Wt (aA+1)))::(Mc bM x ac most)) bk ar fun d7 ch=>?_))
      refine wf ?_
      exact XY bc ⟨Xc _,XY (Wt (aA+1)) ⟨_,_,rfl,(ch.keep [19,18,17,8,3,2] (by rfl)).cut 3 (by kernel_rfl),ar.cutPl 3 (by kernel_rfl),XU ad bm,p⟩⟩
    ·
     rw [bj,XV] at p
     refine wp_exit ?_
     obtain rfl:=XZ p
     exact XY _ ⟨_,rfl,bl.kp,bs,ad⟩
  ·
   rintro _ em ⟨bv,bh,rfl,ci,b2,d3⟩
   refine XT (Aa (Rk 0 2 [tB 6 bd] ci b2 fun d8 cj=>?_))
   refine wf (wp_ret ?_)
   obtain rfl:=XZ H
   exact rt (.one (.c (.bool bd))) cj b2 rfl
 refine D0 3 5 rfl rfl (by kernel_rfl) (by decide) (rfl) (rfl) (fun K hK=>?_) (fun K hK=>?_)
 ·
  refine wc [.agg (DA d),.agg (UB a r_ g e i f k)] b1 br (Dp n br.has d ((Ab (Ab Ac (Ab Ac (Ab Ac Ac))) (Ab (Ab Ac (Ab Ac (Ab Ac Ac))) (Ab B3 B3))):rep h d _) r_ ((Ab (Ad ae) (Ab (Ab Ac Ac) (Ab (Ad af) (Ab (Ad ag) (Ab Ac (Ab Ac (Ab Ac Ac))))))):rep h r_ _) fV) fun ei cb eo b8 c5 bo=>?_
  obtain⟨_,rfl,⟨_,_,rfl,⟨aj,ao,rfl,db⟩,⟨_,_,rfl,⟨ak,ap,rfl,dc⟩,⟨al,aq,rfl,dd⟩⟩⟩⟩:=b8
  refine⟨.one (.agg (Wq cN aj ao ak ap al aq)),rfl,fun dm (cl:Kn 31 [(l,0),(m,0),(0,0)] ((tA 14 (Wq cN aj ao ak ap al aq))::(Sh a r_ g e i f k d most)) dm)=>hK _ _ bo.plOk ?_⟩
  refine Dr [4] (dn 4) [tA 15 [Wu a r_.lA.length g,Ws r_.turn.lo,Ws r_.turn.hi,Wu e r_.lB.length i,Wu f r_.lC.length k,Ws r_.lI,Ws r_.gap,Ws r_.fr,Ws r_.to_,Wu aj cN.lD.length ao,Wu ak cN.lE.length ap,Wu al cN.lC.length aq],tP 3 0 0,tI 2 most] cl bo fun d9 cm=>?_
  refine Dl 5 fun K hK=>?_
  refine JF 2 UU cm bo fun a5 dp dw (cn:Kn 31 [(l,0),(m,0),(a5,0)] [tP 7 2 0,tA 15 [Wu a r_.lA.length g,Ws r_.turn.lo,Ws r_.turn.hi,Wu e r_.lB.length i,Wu f r_.lC.length k,Ws r_.lI,Ws r_.gap,Ws r_.fr,Ws r_.to_,Wu aj cN.lD.length ao,Wu ak cN.lE.length ap,Wu al cN.lC.length aq],tP 3 0 0,tI 2 most] dp) (b3:Ah ⟨w,h,A6⟩ cb [(l,0),(m,0),(a5,0)] (Ql a r_ g e i f k d) [] dw)=>hK _ _ (Ay.unset 2 rfl (by kernel_rfl) b3.plOk) (Cf (e':=[(l,0),(m,0),(a5,0)]) (pl':=(Ql a r_ g e i f k d)) (fun _ hp=>hp.unset 2 rfl (by kernel_rfl)) ?_)
  refine Ax [4,3,5,2,1,0] (by kernel_rfl) (by rfl) (b5 a5 aj ao ak ap al aq _ _ ?_)
  exact XY _ ⟨_,rfl,cn.kp,b3,c5,db,dc,dd⟩
 ·
  refine JF 2 UU b1 br fun am dq dx (co:Kn 31 [(l,0),(m,0),(am,0)] ((tP 7 2 0)::(Sh a r_ g e i f k d most)) dq) (bp:Ah ⟨w,h,A6⟩ h [(l,0),(m,0),(am,0)] (Ql a r_ g e i f k d) [] dx)=>hK _ _ (Ay.unset 2 rfl (by kernel_rfl) bp.plOk) (Cf (e':=[(l,0),(m,0),(am,0)]) (pl':=(Ql a r_ g e i f k d)) (fun _ hp=>hp.unset 2 rfl (by kernel_rfl)) ?_)
  refine Dl 3 fun K hK=>?_
  refine wc [.agg (DA d),.agg (UB a r_ g e i f k)] co bp (Dp n bp.has d ((Ab (Ab Ac (Ab Ac (Ab Ac Ac))) (Ab (Ab Ac (Ab Ac (Ab Ac Ac))) (Ab B3 B3))):rep h d _) r_ ((Ab (Ad ae) (Ab (Ab Ac Ac) (Ab (Ad af) (Ab (Ad ag) (Ab Ac (Ab Ac (Ab Ac Ac))))))):rep h r_ _) fV) fun ej d2 ep b9 c6 bq=>?_
  obtain⟨_,rfl,⟨_,_,rfl,⟨ay,a6,rfl,de⟩,⟨_,_,rfl,⟨az,a7,rfl,df⟩,⟨a4,a8,rfl,dg⟩⟩⟩⟩:=b9
  refine⟨.one (.agg (Wq cN ay a6 az a7 a4 a8)),rfl,fun ds (cp:Kn 31 [(l,0),(m,0),(am,0)] ((tA 14 (Wq cN ay a6 az a7 a4 a8))::(tP 7 2 0)::(Sh a r_ g e i f k d most)) ds)=>hK _ _ bq.plOk ?_⟩
  refine Dr [4] [4,3,5,2,1,0] [tA 15 [Wu a r_.lA.length g,Ws r_.turn.lo,Ws r_.turn.hi,Wu e r_.lB.length i,Wu f r_.lC.length k,Ws r_.lI,Ws r_.gap,Ws r_.fr,Ws r_.to_,Wu ay cN.lD.length a6,Wu az cN.lE.length a7,Wu a4 cN.lC.length a8],tP 7 2 0,tP 3 0 0,tI 2 most] cp bq fun ea cq=>?_
  refine Ax [4,3,5,2,1,0] (by kernel_rfl) (by rfl) (b5 am ay a6 az a7 a4 a8 _ _ ?_)
  exact XY _ ⟨_,rfl,cq.kp,bq,c6,de,df,dg⟩
end Go.Proofs.YtokchpjijlebiaaGreat
