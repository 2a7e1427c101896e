/- Each call computes its plain function. -/
import Derived.Test.YtokchpjijlebiaaProg
import Derived.Test.YtokchpjijlebiaaNQP0
import Derived.Test.YtokchpjijlebiaaNQWT
import Derived.Test.YtokchpjijlebiaaNQWV
import Derived.Test.YtokchpjijlebiaaNQWW
set_option linter.all false
namespace Go.Proofs.Ytokchpjijlebiaa
open Go Go.RowKit
open Rep (rep)
open KRep (kv)
open VRep (rv)
abbrev OS (d:Option Addr) (w_:AC) (g:Nat) (e:Option Addr) (k:Nat) (f:Option Addr) (l:Nat):List SC:=[.slice d w_.route.legs.length g,.int .i64 w_.route.turn.lo,.int .i64 w_.route.turn.hi,.slice e w_.route.buses.length k,.slice f w_.route.spares.length l,.int .i64 w_.route.unit,.int .i64 w_.route.gap,.int .i64 w_.route.fr,.int .i64 w_.route.to_]
abbrev HQ (d:Option Addr) (w_:AC) (g:Nat) (e:Option Addr) (k:Nat) (f:Option Addr) (l:Nat) (x:Option Addr) (ab:Nat) (y:Option Addr) (ac:Nat) (z:Option Addr) (ad:Nat):List SC:=[.slice d w_.route.legs.length g,.int .i64 w_.route.turn.lo,.int .i64 w_.route.turn.hi,.slice e w_.route.buses.length k,.slice f w_.route.spares.length l,.int .i64 w_.route.unit,.int .i64 w_.route.gap,.int .i64 w_.route.fr,.int .i64 w_.route.to_,.slice x w_.acts.holds.length ab,.slice y w_.acts.turns.length ac,.slice z w_.acts.spares.length ad]
abbrev MZ (q:Option Addr) (x_v10:List Int) (s:Nat) (x_v11:Int) (x6:List (EA Int Rg)) (m:Option Addr) (p:Nat):TM:=[tS 12 q x_v10.length s,tI 8 x_v11,tI 7 ((x6.length:Nat):Int),tS 6 m x6.length p,tP 1 0 0]
set_option maxRecDepth 100000 in
set_option maxHeartbeats 4000000 in
theorem Es (n:Nat) {h:Ad} {w:World} (hh:Dv h w) (w_:AC) {cs_w_:List Value} (hx_w_:rep h w_ cs_w_) {r:List Int} (H:CM n w_=some r) :
  Calls Try.prog 58 #[.agg cs_w_.toArray] w (D6 (fun h v=>∃ a c,v=.slice a r.length c∧Ar h a c r) h w):=by
 obtain⟨_,_,rfl,⟨_,_,rfl,⟨d,g,rfl,aj⟩,⟨_,_,rfl,⟨_,_,rfl,rfl,rfl⟩,⟨_,_,rfl,⟨e,k,rfl,ak⟩,⟨_,_,rfl,⟨f,l,rfl,al⟩,⟨_,_,rfl,rfl,⟨_,_,rfl,rfl,⟨_,_,rfl,rfl,rfl⟩⟩⟩⟩⟩⟩⟩,⟨_,_,rfl,⟨x,ab,rfl,aq⟩,⟨_,_,rfl,⟨y,ac,rfl,ar⟩,⟨z,ad,rfl,au⟩⟩⟩⟩:=hx_w_
 refine enter 22 [.agg (HQ d w_ g e k f l x ab y ac z ad)] Try.func58 rfl rfl rfl rfl fun t hk=>?_
 have hm:=Ah.begin h w hh
 unfold CM at H
 refine QT (Ab (wl fun K hK=>?_))
 refine wb (.agg (HQ d w_ g e k f l x ab y ac z ad)) hk hm fun aa cv dj (b7:Kn 22 [(aa,0)] [tP 1 0 0,tA 0 (HQ d w_ g e k f l x ab y ac z ad)] cv) a2=>hK _ _ ?_
 refine Rk 1 1 [tS 2 none 0 0,tP 1 0 0] b7 a2 fun c8 b8=>?_
 refine wf (QT (QT (Ab (Rk 0 1 [tA 5 (HQ d w_ g e k f l x ab y ac z ad),tS 2 none 0 0,tP 1 0 0] b8 a2 fun c9 b9=>?_))))
 obtain⟨x6,ex6,H⟩:=A3 H
 refine wl fun K hK=>?_
 refine wc [.agg (HQ d w_ g e k f l x ab y ac z ad)] b9 a2 (Dh n a2.has w_ ((Aa (Aa (Ae aj) (Aa (Aa Ac Ac) (Aa (Ae ak) (Aa (Ae al) (Aa Ac (Aa Ac (Aa Ac Ac))))))) (Aa (Ae aq) (Aa (Ae ar) (Ae au)))):rep h w_ _) ex6) fun df az c0 bt ai bp=>?_
 replace aj:=aj.mono ai
 replace ak:=ak.mono ai
 replace al:=al.mono ai
 replace aq:=aq.mono ai
 replace ar:=ar.mono ai
 replace au:=au.mono ai
 obtain⟨m,p,rfl,bg⟩:=bt
 refine⟨.one (.c (.slice m x6.length p)),rfl,fun cw (ca:Kn 22 [(aa,0)] [tS 6 m x6.length p,tA 5 (HQ d w_ g e k f l x ab y ac z ad),tS 2 none 0 0,tP 1 0 0] cw)=>hK _ _ ?_⟩
 refine Rk 2 2 [tI 8 0,tI 7 ((x6.length:Nat):Int),tS 6 m x6.length p,tS 2 none 0 0,tP 1 0 0] ca bp fun da cb=>?_
 refine wf ?_
 have ck:Ah ⟨w,h,Az⟩ az [(aa,0)] [⟨HQ d w_ g e k f l x ab y ac z ad,some 115⟩] [⟨none,0,0,3,1,[],0⟩] c0:=bp.nilRow 3 1
 have bx:Af az ([]:List Int) []:=Af.nil
 obtain⟨af,bl,H⟩:=A3 H
 refine A7 (fun a' w'=>∃ (ag:Option Addr)(ah:Nat)(aw:List Value)(bi:Array Value)(a0:Ad),a' = ⟨bi,[]⟩∧Kn 22 [(aa,0)] [tS 2 ag af.length ah] bi∧Ah ⟨w,h,Az⟩ a0 [(aa,0)] [⟨HQ d w_ g e k f l x ab y ac z ad,some 115⟩] [⟨ag,af.length,ah,3,1,aw,0⟩] w'∧Ad.le az a0∧Af a0 af aw) ?_ ?_
 ·
  refine wp_block ?_
  refine A5 (fun cr a' w'=>∃ (x_v10:List Int)(x_v11:Int)(q:Option Addr)(s:Nat)(am:List Value)(bj:Array Value)(ap:Ad),a' = ⟨bj,[]⟩∧Kn 22 [(aa,0)] [tI 8 x_v11,tI 7 ((x6.length:Nat):Int),tS 6 m x6.length p,tS 2 q x_v10.length s,tP 1 0 0] bj∧Ah ⟨w,h,Az⟩ ap [(aa,0)] [⟨HQ d w_ g e k f l x ab y ac z ad,some 115⟩] [⟨q,x_v10.length,s,3,1,am,0⟩] w'∧Ad.le az ap∧Af ap x_v10 am∧B3 cr w_ x6 x_v10 x_v11=some af) n ?_ ?_
  ·
   exact QY ([]:List Int) ⟨0,none,0,[],_,_,rfl,cb.kp,ck,Ad.le_refl _,bx,bl⟩
  ·
   rintro a4 _ dk ⟨x_v10,x_v11,q,s,am,bj,ap,rfl,cc,bf,ae,a1,u⟩
   clear bl
   obtain _ | a4:=a4
   ·
    rw [B3] at u; cases u
   rw [B3] at u
   replace aj:=aj.mono ae
   replace ak:=ak.mono ae
   replace al:=al.mono ae
   replace aq:=aq.mono ae
   replace ar:=ar.mono ae
   replace au:=au.mono ae
   replace bg:=bg.mono ae
   refine QT (Ab (Rk 0 1 [tB 9 (decide (x_v11<((x6.length:Nat):Int))),tI 8 x_v11,tI 7 ((x6.length:Nat):Int),tS 6 m x6.length p,tS 2 q x_v10.length s,tP 1 0 0] cc bf fun db ba=>?_))
   refine wf (QT (wC (decide (x_v11<((x6.length:Nat):Int))) ba (fun a7=>?_) (fun a7=>?_)))
   ·
    rw [a7,QW] at u
    refine wp_skip (QT (wp_block (QT (Ab ?_))))
    obtain⟨x10,ex10,u⟩:=A3 u
    obtain⟨cl,cm,cq⟩:=Ak ex10
    obtain⟨an,av,c2,bv,cp,bz⟩:=bg.get (by decide) cq
    obtain⟨ao,c3,c1,rfl,a5,bs⟩:=cp
    have a3:=bf.addPlc (b:=an) (o:=av+(x_v11:Int).toNat*1) (cs:=[.map (some ao)]) (fun j c hj=>bz j _ (Al hj)) rfl (by kernel_rfl) (by kernel_rfl)
    refine A6 0 (x_v11) rfl rfl (rfl) rfl (by decide) ba (by rfl) (by rfl) (by rfl) bv (by rfl) cl cm (by kernel_rfl) fun cx (cd:Kn 22 [(aa,0),(an,av+(x_v11:Int).toNat*1)] [tP 10 1 0,tB 9 (decide (x_v11<((x6.length:Nat):Int))),tI 8 x_v11,tI 7 ((x6.length:Nat):Int),tS 6 m x6.length p,tS 2 q x_v10.length s,tP 1 0 0] cx)=>?_
    refine Rk 1 2 [(4,.one (.c (.map (some ao)))),tI 8 x_v11,tI 7 ((x6.length:Nat):Int),tS 6 m x6.length p,tS 2 q x_v10.length s,tP 1 0 0] cd a3 fun dc ce=>?_
    refine wf (Ab (Rk 0 4 ((15,.one (.c (.map (some ao))))::(tA 14 (OS d w_ g e k f l))::(MZ q x_v10 s x_v11 x6 m p)) ce a3 fun dd cf=>?_))
    obtain⟨x16,ex16,u⟩:=A3 u
    refine wl fun K hK=>?_
    refine wc [.agg (OS d w_ g e k f l),.c (.map (some ao))] cf a3 (Er a4 a3.has w_.route ((Aa (Ae aj) (Aa (Aa Ac Ac) (Aa (Ae ak) (Aa (Ae al) (Aa Ac (Aa Ac (Aa Ac Ac))))))):rep ap w_.route _) x10 a5 bs ex16) fun dg a6 dl bu bb bq=>?_
    replace a1:=a1.mono bb
    replace a5:=bb _ _ _ a5
    obtain⟨bm,rfl⟩:=bu
    refine⟨.one (.agg [.int .i64 bm,.int .i64 x16]),rfl,fun cy (cg:Kn 22 [(aa,0),(an,av+(x_v11:Int).toNat*1)] ((tA 16 [.int .i64 bm,.int .i64 x16])::(15,.one (.c (.map (some ao))))::(tA 14 (OS d w_ g e k f l))::(MZ q x_v10 s x_v11 x6 m p)) cy)=>hK _ _ ?_⟩
    refine Rk 5 1 ((tI 17 x16)::(MZ q x_v10 s x_v11 x6 m p)) cg bq fun de ch=>?_
    refine wl fun K hK=>?_
    refine wS 3 1 [.int .i64 x16] ch bq fun bk ct dh (b1:Kn 22 [(aa,0),(an,av+(x_v11:Int).toNat*1)] ((tS 18 bk 1 1)::(tI 17 x16)::(MZ q x_v10 s x_v11 x6 m p)) ct) bo=>?_
    have a8:Af a6 ([x16]:List Int) ([.int .i64 x16]:List Value):=⟨_,_,rfl,(Ac:rep a6 (x16:Int) _),rfl⟩
    refine hK _ _ ?_
    obtain⟨x19,ex19,u⟩:=A3 u
    obtain⟨bh,ci⟩:=BZ ex19
    refine wl fun K hK=>?_
    refine Bs 0 8 1 _ (x19.length) _ ([.int .i64 x16]:List Value) b1 bo rfl rfl (by decide) rfl (by rfl) (by kernel_rfl) (by rfl) (by rfl) (Af.len a8) (bo.rowCell (i:=1) rfl) a8.one (by rw [bh]; simp <;> omega) (by rw [bh]; exact ci) (by decide) fun ax ay br cu di b0 (b2:Kn 22 [(aa,0),(an,av+(x_v11:Int).toNat*1)] ((tS 19 ax x19.length ay)::(tS 18 bk 1 1)::(tI 17 x16)::(MZ q x_v10 s x_v11 x6 m p)) cu) bc=>?_
    have bw:Af a6 x19 (am++([.int .i64 x16]:List Value)):=by rw [bh]; exact Af.append a1 a8
    obtain rfl:br=0:=Nat.le_zero.1 b0
    refine hK _ _ ?_
    refine Rk 8 1 [tS 2 ax x19.length ay,tI 8 x_v11,tI 7 ((x6.length:Nat):Int),tS 6 m x6.length p,tP 1 0 0] b2 bc fun c5 b3=>?_
    refine wf (Ab (Rk 0 2 [tI 8 (IntKind.i64.wrap (x_v11+1)),tS 2 ax x19.length ay,tI 7 ((x6.length:Nat):Int),tS 6 m x6.length p,tP 1 0 0] b3 bc fun c6 b4=>?_))
    refine wf ?_
    exact QY a4 ⟨Nat.lt_succ_self _,QY x19 ⟨IntKind.i64.wrap (x_v11+1),ax,ay,am++([.int .i64 x16]:List Value),_,_,rfl,(b4.keep [8,7,6,2,1] (by rfl)).cut 1 (by kernel_rfl),(bc.cutRw 1).cutPl 1 (by kernel_rfl),QU ae bb,bw,u⟩⟩
   ·
    rw [a7,QV] at u
    refine wp_exit ?_
    obtain rfl:=QZ u
    exact QY q ⟨s,am,_,_,rfl,ba.kp,bf,ae,a1⟩
 ·
  rintro _ cz ⟨ag,ah,aw,bi,a0,rfl,b5,bd,c4,a9⟩
  refine QT (Ab (Rk 0 2 [tS 2 ag af.length ah] b5 bd fun c7 b6=>?_))
  refine wf (wp_ret ?_)
  obtain⟨bn,cj,co,be⟩:=bd.settle (i:=0) rfl
  replace a9:=a9.mono cj
  replace be:Ah ⟨w,h,Az⟩ bn [(aa,0)] [⟨HQ d w_ g e k f l x ab y ac z ad,some 115⟩] [⟨ag,af.length,ah,3,1,aw,(aw:List Value).length⟩] cz:=be
  have cn:Ar bn ag ah af:=⟨_,a9,co,bd.rowCap (i:=0) rfl⟩
  obtain rfl:=QZ H
  exact rt (.one (.c (.slice ag af.length ah))) b6 be ⟨_,_,rfl,cn⟩
abbrev OT:List SC:=[.slice none 0 0,.int .i64 0,.int .i64 0,.slice none 0 0,.slice none 0 0,.int .i64 0,.int .i64 0,.int .i64 0,.int .i64 0,.slice none 0 0,.slice none 0 0,.slice none 0 0]
abbrev Fc (a:Option Addr) (r_:Ag) (g:Nat) (e:Option Addr) (i:Nat) (f:Option Addr) (k:Nat):List SC:=[.slice a r_.legs.length g,.int .i64 r_.turn.lo,.int .i64 r_.turn.hi,.slice e r_.buses.length i,.slice f r_.spares.length k,.int .i64 r_.unit,.int .i64 r_.gap,.int .i64 r_.fr,.int .i64 r_.to_]
abbrev Gk (d:Aw):List SC:=[.int .i64 d.holds.a0,.int .i64 d.holds.a1,.int .i64 d.holds.a2,.int .i64 d.holds.a3,.int .i64 d.turns.a0,.int .i64 d.turns.a1,.int .i64 d.turns.a2,.int .i64 d.turns.a3,.bool d.spares.a0,.bool d.spares.a1]
abbrev IW (a:Option Addr) (r_:Ag) (g:Nat) (e:Option Addr) (i:Nat) (f:Option Addr) (k:Nat) (q:Option Addr) (x14:A0) (z:Nat) (s:Option Addr) (aa:Nat) (u:Option Addr) (ab:Nat):List SC:=[.slice a r_.legs.length g,.int .i64 r_.turn.lo,.int .i64 r_.turn.hi,.slice e r_.buses.length i,.slice f r_.spares.length k,.int .i64 r_.unit,.int .i64 r_.gap,.int .i64 r_.fr,.int .i64 r_.to_,.slice q x14.holds.length z,.slice s x14.turns.length aa,.slice u x14.spares.length ab]
abbrev L7 (a:Option Addr) (r_:Ag) (g:Nat) (e:Option Addr) (i:Nat) (f:Option Addr) (k:Nat) (d:Aw):List Cu:=[⟨Fc a r_ g e i f k,some 43⟩,⟨Gk d,some 102⟩,⟨OT,some 115⟩]
abbrev IX (x17:List (EA Int Rg)) (x:Option Addr) (ac:Nat) (most:Int):TM:=[tI 18 ((x17.length:Nat):Int),tS 17 x x17.length ac,tB 8 true,tP 3 0 0,tI 2 most]
abbrev Na (a:Option Addr) (r_:Ag) (g:Nat) (e:Option Addr) (i:Nat) (f:Option Addr) (k:Nat) (d:Aw) (most:Int):TM:=[tA 13 (Fc a r_ g e i f k),tA 12 (Gk d),tA 11 (Fc a r_ g e i f k),tP 3 0 0,tI 2 most]
set_option maxRecDepth 100000 in
set_option maxHeartbeats 4000000 in
theorem G6 (n:Nat) {h:Ad} {w:World} (hh:Dv h w) (r_:Ag) {cs_r_:List Value} (hx_r_:rep h r_ cs_r_) (d:Aw) {cs_d:List Value} (hx_d:rep h d cs_d) (most:Int) {r:Bool} (H:DU n r_ d most=some r) :
  Calls Try.prog 53 #[.agg cs_r_.toArray,.agg cs_d.toArray,.int .i64 most] w (D6 (fun h v=>v=.bool r) h w):=by
 obtain⟨_,_,rfl,⟨a,g,rfl,ae⟩,⟨_,_,rfl,⟨_,_,rfl,rfl,rfl⟩,⟨_,_,rfl,⟨e,i,rfl,af⟩,⟨_,_,rfl,⟨f,k,rfl,ag⟩,⟨_,_,rfl,rfl,⟨_,_,rfl,rfl,⟨_,_,rfl,rfl,rfl⟩⟩⟩⟩⟩⟩⟩:=hx_r_
 obtain⟨_,_,rfl,⟨_,_,rfl,rfl,⟨_,_,rfl,rfl,⟨_,_,rfl,rfl,rfl⟩⟩⟩,⟨_,_,rfl,⟨_,_,rfl,rfl,⟨_,_,rfl,rfl,⟨_,_,rfl,rfl,rfl⟩⟩⟩,⟨_,_,rfl,rfl,rfl⟩⟩⟩:=hx_d
 refine enter 31 [.agg (Fc a r_ g e i f k),.agg (Gk d),.c (.int .i64 most)] Try.func53 rfl rfl rfl rfl fun t hk=>?_
 have hm:=Ah.begin h w hh
 unfold DU at H
 refine QT (Ab (wl fun K hK=>?_))
 refine wb (.agg (Fc a r_ g e i f k)) hk hm fun l dl en (ck:Kn 31 [(l,0)] [tP 3 0 0,tA 0 (Fc a r_ g e i f k),tA 1 (Gk d),tI 2 most] dl) c7=>hK _ _ ?_
 refine wl fun K hK=>?_
 refine wb (.agg (Gk d)) ck c7 fun m dr er (cr:Kn 31 [(l,0),(m,0)] [tP 4 1 0,tP 3 0 0,tA 0 (Fc a r_ g e i f k),tA 1 (Gk d),tI 2 most] dr) au=>hK _ _ ?_
 refine Rk 2 1 [tP 4 1 0,tP 3 0 0,tI 2 most] cr au fun eb ct=>?_
 refine wf (wp_scope_straight (QT (Ao (by kernel_rfl) ?_)))
 replace au:=au.drew
 refine At [] [(l,0),(m,0)] [⟨Fc a r_ g e i f k,some 43⟩,⟨Gk d,some 102⟩] ?_
 refine Dr [0,1,2] [2,1,0] (Na a r_ g e i f k d most) ct au fun dt cu=>?_
 obtain⟨x14,ex14,H⟩:=A3 H
 have b1:Kn 31 [(l,0),(m,0),(0,0)] (Na a r_ g e i f k d most) dt:=cu.push (0,0) (by kernel_rfl)
 have br:=au.addPlc (b:=0) (o:=0) (cs:=[]) (fun j c hj=>by simp at hj) rfl (by kernel_rfl) (by kernel_rfl)
 refine Dj (e':=[(l,0),(m,0),(0,0)]) (pl':=[⟨Fc a r_ g e i f k,some 43⟩,⟨Gk d,some 102⟩,⟨[],none⟩]) (fun _ hp=>hp.pop (Nat.le_of_eq rfl) (by kernel_rfl)) ?_
 refine Bq (fun W=>∀ (y:Nat),∀ (q:Option Addr),∀ (z:Nat),∀ (s:Option Addr),∀ (aa:Nat),∀ (u:Option Addr),∀ (ab:Nat),∀ a' w',(∃ (be:Array Value)(ah:Ad),a' = ⟨be,[]⟩∧Kn 31 [(l,0),(m,0),(y,0)] [tP 7 2 0,tA 15 (IW a r_ g e i f k q x14 z s aa u ab),tP 3 0 0,tI 2 most] be∧Ah ⟨w,h,Az⟩ ah [(l,0),(m,0),(y,0)] (L7 a r_ g e i f k d) [] w'∧Ad.le h ah∧Ar ah q z x14.holds∧Ar ah s aa x14.turns∧Ar ah u ab x14.spares)→W [(l,0),(m,0),(y,0)] (L7 a r_ g e i f k d) [4,3,5,2,1,0] a' w') ?_ (fun b5=>?_)
 ·
  intro y q z s aa u ab
  rintro _ es ⟨be,ah,rfl,cv,c8,bn,av,aw,ax⟩
  replace ae:=ae.mono bn
  replace af:=af.mono bn
  replace ag:=ag.mono bn
  refine DG 6 rfl (by kernel_rfl) (by decide) (rfl) (by kernel_rfl) fun K hK=>?_
  refine Ea 2 0 (.agg (IW a r_ g e i f k q x14 z s aa u ab)) (IW a r_ g e i f k q x14 z s aa u ab) cv c8 fun et cw ba=>hK _ _ ?_
  refine At [] [(l,0),(m,0),(y,0)] [⟨Fc a r_ g e i f k,some 43⟩,⟨Gk d,some 102⟩,⟨IW a r_ g e i f k q x14 z s aa u ab,some 115⟩] ?_
  have cx:Kn 31 [(l,0),(m,0),(y,0)] [tP 7 2 0,tP 3 0 0,tI 2 most] be:=cw.kp
  refine AH (by kernel_rfl) (QT (Ab (Rk 0 1 [tB 8 true,tP 7 2 0,tP 3 0 0,tI 2 most] cx ba fun ec cy=>?_)))
  refine wf (QT (wp_label (QT (QT (Ab (Rk 0 1 [tA 16 (IW a r_ g e i f k q x14 z s aa u ab),tB 8 true,tP 3 0 0,tI 2 most] cy ba fun ed cz=>?_))))))
  obtain⟨x17,ex17,H⟩:=A3 H
  refine wl fun K hK=>?_
  refine wc [.agg (IW a r_ g e i f k q x14 z s aa u ab)] cz ba (Dh n ba.has (AC.mk r_ x14) ((Aa (Aa (Ae ae) (Aa (Aa Ac Ac) (Aa (Ae af) (Aa (Ae ag) (Aa Ac (Aa Ac (Aa Ac Ac))))))) (Aa (Ae av) (Aa (Ae aw) (Ae ax)))):rep ah (AC.mk r_ x14) _) ex17) fun ek b0 eu ca ai b4=>?_
  replace ae:=ae.mono ai
  replace af:=af.mono ai
  replace ag:=ag.mono ai
  replace av:=av.mono ai
  replace aw:=aw.mono ai
  replace ax:=ax.mono ai
  obtain⟨x,ac,rfl,bt⟩:=ca
  refine⟨.one (.c (.slice x x17.length ac)),rfl,fun du (c0:Kn 31 [(l,0),(m,0),(y,0)] [tS 17 x x17.length ac,tA 16 (IW a r_ g e i f k q x14 z s aa u ab),tB 8 true,tP 3 0 0,tI 2 most] du)=>hK _ _ ?_⟩
  refine Rk 2 2 ((tI 19 0)::(IX x17 x ac most)) c0 b4 fun ee c1=>?_
  refine wf ?_
  obtain⟨bd,bx,H⟩:=A3 H
  refine A7 (fun a' w'=>∃ (bv:Array Value)(bh:Ad),a' = ⟨bv,[]⟩∧Kn 31 [(l,0),(m,0),(y,0)] [tB 8 bd] bv∧Ah ⟨w,h,Az⟩ bh [(l,0),(m,0),(y,0)] [⟨Fc a r_ g e i f k,some 43⟩,⟨Gk d,some 102⟩,⟨IW a r_ g e i f k q x14 z s aa u ab,some 115⟩] [] w'∧Ad.le b0 bh) ?_ ?_
  ·
   refine wp_block ?_
   refine A5 (fun dj a' w'=>∃ (x_v10:Int)(bw:Array Value)(a9:Ad),a' = ⟨bw,[]⟩∧Kn 31 [(l,0),(m,0),(y,0)] ((tI 19 x_v10)::(IX x17 x ac most)) bw∧Ah ⟨w,h,Az⟩ a9 [(l,0),(m,0),(y,0)] [⟨Fc a r_ g e i f k,some 43⟩,⟨Gk d,some 102⟩,⟨IW a r_ g e i f k q x14 z s aa u ab,some 115⟩] [] w'∧Ad.le b0 a9∧BH dj r_ most x17 x_v10=some bd) n ?_ ?_
   ·
    exact QY 0 ⟨_,_,rfl,c1.kp,b4,Ad.le_refl _,bx⟩
   ·
    rintro bc _ ev ⟨x_v10,bw,a9,rfl,c2,bs,ad,p⟩
    clear bx
    obtain _ | bc:=bc
    ·
     rw [BH] at p; cases p
    rw [BH] at p
    replace ae:=ae.mono ad
    replace af:=af.mono ad
    replace ag:=ag.mono ad
    replace av:=av.mono ad
    replace aw:=aw.mono ad
    replace ax:=ax.mono ad
    replace bt:=bt.mono ad
    refine QT (Ab (Rk 0 1 ((tB 20 (decide (x_v10<((x17.length:Nat):Int))))::(tI 19 x_v10)::(IX x17 x ac most)) c2 bs fun ef bl=>?_))
    refine wf (QT (wC (decide (x_v10<((x17.length:Nat):Int))) bl (fun bj=>?_) (fun bj=>?_)))
    ·
     rw [bj,QW] at p
     refine wp_skip (QT (wp_block (QT (Ab ?_))))
     obtain⟨x21,ex21,p⟩:=A3 p
     obtain⟨c9,da,di⟩:=Ak ex21
     obtain⟨bf,bu,dz,cc,dh,cd⟩:=bt.get (by decide) di
     obtain⟨an,d0,dy,rfl,bg,b6⟩:=dh
     have bb:=bs.addPlc (b:=bf) (o:=bu+(x_v10:Int).toNat*1) (cs:=[.map (some an)]) (fun j c hj=>cd j _ (Al hj)) rfl (by kernel_rfl) (by kernel_rfl)
     refine A6 0 (x_v10) rfl rfl (rfl) rfl (by decide) bl (by rfl) (by rfl) (by rfl) cc (by rfl) c9 da (by kernel_rfl) fun dv (c3:Kn 31 [(l,0),(m,0),(y,0),(bf,bu+(x_v10:Int).toNat*1)] ((tP 21 3 0)::(tB 20 (decide (x_v10<((x17.length:Nat):Int))))::(tI 19 x_v10)::(IX x17 x ac most)) dv)=>?_
     refine Rk 1 2 ((10,.one (.c (.map (some an))))::(tI 19 x_v10)::(IX x17 x ac most)) c3 bb fun eg c4=>?_
     refine wf (QT (Ab (Rk 0 2 ((24,.one (.c (.map (some an))))::(tA 23 (Fc a r_ g e i f k))::(tI 19 x_v10)::(IX x17 x ac most)) c4 bb fun d4 ce=>?_)))
     obtain⟨x25,ex25,p⟩:=A3 p
     refine wl fun K hK=>?_
     refine wc [.agg (Fc a r_ g e i f k),.c (.map (some an))] ce bb (Er bc bb.has r_ ((Aa (Ae ae) (Aa (Aa Ac Ac) (Aa (Ae af) (Aa (Ae ag) (Aa Ac (Aa Ac (Aa Ac Ac))))))):rep a9 r_ _) x21 bg b6 ex25) fun eh d1 el b7 bm ar=>?_
     replace bg:=bm _ _ _ bg
     obtain⟨bz,rfl⟩:=b7
     refine⟨.one (.agg [.int .i64 bz,.int .i64 x25]),rfl,fun dk (cf:Kn 31 [(l,0),(m,0),(y,0),(bf,bu+(x_v10:Int).toNat*1)] ((tA 25 [.int .i64 bz,.int .i64 x25])::(24,.one (.c (.map (some an))))::(tA 23 (Fc a r_ g e i f k))::(tI 19 x_v10)::(IX x17 x ac most)) dk)=>hK _ _ ?_⟩
     refine Rk 3 3 ((tB 28 (decide (x25>most)))::(tI 19 x_v10)::(IX x17 x ac most)) cf ar fun d5 bk=>?_
     refine wf (wC (decide (x25>most)) bk (fun bi=>?_) (fun bi=>?_))
     ·
      rw [bi,QW] at p
      refine QT (Ab (Rk 0 1 [tB 8 false] bk ar fun d6 cg=>?_))
      refine wf (wp_exit ?_)
      obtain rfl:=QZ p
      exact QY _ ⟨_,rfl,(cg.keep [8] (by rfl)).cut 3 (by kernel_rfl),ar.cutPl 3 (by kernel_rfl),QU ad bm⟩
     ·
      rw [bi,QV] at p
      refine wp_skip (Ab (Rk 0 2 ((tI 19 (IntKind.i64.wrap (x_v10+1)))::(IX x17 x ac most)) bk ar fun d7 ch=>?_))
      refine wf ?_
      exact QY bc ⟨Nat.lt_succ_self _,QY (IntKind.i64.wrap (x_v10+1)) ⟨_,_,rfl,(ch.keep [19,18,17,8,3,2] (by rfl)).cut 3 (by kernel_rfl),ar.cutPl 3 (by kernel_rfl),QU ad bm,p⟩⟩
    ·
     rw [bj,QV] at p
     refine wp_exit ?_
     obtain rfl:=QZ p
     exact QY _ ⟨_,rfl,bl.kp,bs,ad⟩
  ·
   rintro _ em ⟨bv,bh,rfl,ci,b2,d3⟩
   refine QT (Ab (Rk 0 2 [tB 6 bd] ci b2 fun d8 cj=>?_))
   refine wf (wp_ret ?_)
   obtain rfl:=QZ H
   exact rt (.one (.c (.bool bd))) cj b2 rfl
 refine EZ 3 5 rfl rfl (by kernel_rfl) (by decide) (rfl) (rfl) (fun K hK=>?_) (fun K hK=>?_)
 ·
  refine wc [.agg (Gk d),.agg (Fc a r_ g e i f k)] b1 br (CB n br.has d ((Aa (Aa Ac (Aa Ac (Aa Ac Ac))) (Aa (Aa Ac (Aa Ac (Aa Ac Ac))) (Aa AS AS))):rep h d _) r_ ((Aa (Ae ae) (Aa (Aa Ac Ac) (Aa (Ae af) (Aa (Ae ag) (Aa Ac (Aa Ac (Aa Ac Ac))))))):rep h r_ _) ex14) fun ei cb eo b8 c5 bo=>?_
  obtain⟨_,rfl,⟨_,_,rfl,⟨aj,ao,rfl,db⟩,⟨_,_,rfl,⟨ak,ap,rfl,dc⟩,⟨al,aq,rfl,dd⟩⟩⟩⟩:=b8
  refine⟨.one (.agg [.slice aj x14.holds.length ao,.slice ak x14.turns.length ap,.slice al x14.spares.length aq]),rfl,fun dm (cl:Kn 31 [(l,0),(m,0),(0,0)] ((tA 14 [.slice aj x14.holds.length ao,.slice ak x14.turns.length ap,.slice al x14.spares.length aq])::(Na a r_ g e i f k d most)) dm)=>hK _ _ bo.plOk ?_⟩
  refine Dr [4] (dn 4) [tA 15 [.slice a r_.legs.length g,.int .i64 r_.turn.lo,.int .i64 r_.turn.hi,.slice e r_.buses.length i,.slice f r_.spares.length k,.int .i64 r_.unit,.int .i64 r_.gap,.int .i64 r_.fr,.int .i64 r_.to_,.slice aj x14.holds.length ao,.slice ak x14.turns.length ap,.slice al x14.spares.length aq],tP 3 0 0,tI 2 most] cl bo fun d9 cm=>?_
  refine Dl 5 fun K hK=>?_
  refine KS 2 OT cm bo fun a5 dp dw (cn:Kn 31 [(l,0),(m,0),(a5,0)] [tP 7 2 0,tA 15 [.slice a r_.legs.length g,.int .i64 r_.turn.lo,.int .i64 r_.turn.hi,.slice e r_.buses.length i,.slice f r_.spares.length k,.int .i64 r_.unit,.int .i64 r_.gap,.int .i64 r_.fr,.int .i64 r_.to_,.slice aj x14.holds.length ao,.slice ak x14.turns.length ap,.slice al x14.spares.length aq],tP 3 0 0,tI 2 most] dp) (b3:Ah ⟨w,h,Az⟩ cb [(l,0),(m,0),(a5,0)] (L7 a r_ g e i f k d) [] dw)=>hK _ _ (Am.unset 2 rfl (by kernel_rfl) b3.plOk) (Dj (e':=[(l,0),(m,0),(a5,0)]) (pl':=(L7 a r_ g e i f k d)) (fun _ hp=>hp.unset 2 rfl (by kernel_rfl)) ?_)
  refine A2 [4,3,5,2,1,0] (by kernel_rfl) (by rfl) (b5 a5 aj ao ak ap al aq _ _ ?_)
  exact QY _ ⟨_,rfl,cn.kp,b3,c5,db,dc,dd⟩
 ·
  refine KS 2 OT b1 br fun am dq dx (co:Kn 31 [(l,0),(m,0),(am,0)] ((tP 7 2 0)::(Na a r_ g e i f k d most)) dq) (bp:Ah ⟨w,h,Az⟩ h [(l,0),(m,0),(am,0)] (L7 a r_ g e i f k d) [] dx)=>hK _ _ (Am.unset 2 rfl (by kernel_rfl) bp.plOk) (Dj (e':=[(l,0),(m,0),(am,0)]) (pl':=(L7 a r_ g e i f k d)) (fun _ hp=>hp.unset 2 rfl (by kernel_rfl)) ?_)
  refine Dl 3 fun K hK=>?_
  refine wc [.agg (Gk d),.agg (Fc a r_ g e i f k)] co bp (CB n bp.has d ((Aa (Aa Ac (Aa Ac (Aa Ac Ac))) (Aa (Aa Ac (Aa Ac (Aa Ac Ac))) (Aa AS AS))):rep h d _) r_ ((Aa (Ae ae) (Aa (Aa Ac Ac) (Aa (Ae af) (Aa (Ae ag) (Aa Ac (Aa Ac (Aa Ac Ac))))))):rep h r_ _) ex14) fun ej d2 ep b9 c6 bq=>?_
  obtain⟨_,rfl,⟨_,_,rfl,⟨ay,a6,rfl,de⟩,⟨_,_,rfl,⟨az,a7,rfl,df⟩,⟨a4,a8,rfl,dg⟩⟩⟩⟩:=b9
  refine⟨.one (.agg [.slice ay x14.holds.length a6,.slice az x14.turns.length a7,.slice a4 x14.spares.length a8]),rfl,fun ds (cp:Kn 31 [(l,0),(m,0),(am,0)] ((tA 14 [.slice ay x14.holds.length a6,.slice az x14.turns.length a7,.slice a4 x14.spares.length a8])::(tP 7 2 0)::(Na a r_ g e i f k d most)) ds)=>hK _ _ bq.plOk ?_⟩
  refine Dr [4] [4,3,5,2,1,0] [tA 15 [.slice a r_.legs.length g,.int .i64 r_.turn.lo,.int .i64 r_.turn.hi,.slice e r_.buses.length i,.slice f r_.spares.length k,.int .i64 r_.unit,.int .i64 r_.gap,.int .i64 r_.fr,.int .i64 r_.to_,.slice ay x14.holds.length a6,.slice az x14.turns.length a7,.slice a4 x14.spares.length a8],tP 7 2 0,tP 3 0 0,tI 2 most] cp bq fun ea cq=>?_
  refine A2 [4,3,5,2,1,0] (by kernel_rfl) (by rfl) (b5 am ay a6 az a7 a4 a8 _ _ ?_)
  exact QY _ ⟨_,rfl,cq.kp,bq,c6,de,df,dg⟩
end Go.Proofs.Ytokchpjijlebiaa
