/- Each call computes its plain function. -/
import Derived.Test.YtokchpjijlebiaaGreatProg
import Derived.Test.YtokchpjijlebiaaGreatMQP0
import Derived.Test.YtokchpjijlebiaaGreatMQWA
import Derived.Test.YtokchpjijlebiaaGreatMQWC
set_option linter.all false
namespace Go.Proofs.YtokchpjijlebiaaGreat
open Go Go.RowKit
open Rep (rep)
open KRep (kv)
open VRep (rv)
abbrev GW (l m p y:Nat) (x_v21:Int):AT:=[(l,0),(m,0),(p,0),(y,0+(x_v21:Int).toNat*1)]
abbrev DZ (ae:Option Addr) (t_:Au) (an:Nat) (af:Option Addr) (ao:Nat) (ag:Option Addr) (ap:Nat):List SC:=[.slice ae t_.tm.length an,.slice af t_.turns.length ao,.slice ag t_.legs.length ap]
abbrev Ea (ab:Option Addr) (a:Aw) (aj:Nat) (ac:Option Addr) (ak:Nat) (ad:Option Addr) (al:Nat):List SC:=[.slice ab a.holds.length aj,.slice ac a.turns.length ak,.slice ad a.spares.length al]
abbrev Pr (l m p bp bu:Nat) (x_v11:Int) (bw b3:Nat) (stop:Int):AT:=[(l,0),(m,0),(p,0),(bp,bu+(x_v11:Int).toNat*1),(bw,b3+(stop:Int).toNat*1)]
abbrev Eb (aa:Option Addr) (r_:Af) (am:Nat) (ah:Option Addr) (aq:Nat) (ai:Option Addr) (ar:Nat):List SC:=[.slice aa r_.legs.length am,.int .i64 r_.turn.lo,.int .i64 r_.turn.hi,.slice ah r_.buses.length aq,.slice ai r_.spares.length ar,.int .i64 r_.unit,.int .i64 r_.gap,.int .i64 r_.fr,.int .i64 r_.to_]
abbrev I8 (x_v41:Int) (q:Option Addr) (x_v40:List Int) (s:Nat) (x_v21:Int) (f:Option Addr) (d:List Int) (g:Nat):TM:=[tI 17 x_v41,tS 13 q x_v40.length s,tI 14 x_v21,tS 9 f d.length g]
abbrev EV (x_v21:Int) (u:Option Addr) (x_v20:List Int) (x:Nat) (f:Option Addr) (d:List Int) (g:Nat):TM:=[tI 14 x_v21,tS 13 u x_v20.length x,tS 9 f d.length g]
abbrev J0 (x_v11:Int) (au:Option Addr) (x26:List (List Int)) (av:Nat) (ax:Option Addr) (x_v10:List Int) (ay:Nat) (stop:Int):TM:=[tI 11 x_v11,tS 10 au x26.length av,tS 9 ax x_v10.length ay,tP 4 0 0,tI 3 stop]
abbrev NA (x_v41:Int) (q:Option Addr) (x_v40:List Int) (s:Nat) (x_v21:Int) (f:Option Addr) (d:List Int) (g:Nat):TM:=(tI 105 (IntKind.i64.wrap (x_v41-1)))::(tS 103 q x_v40.length s)::(tI 102 x_v41)::(tS 101 q x_v40.length s)::(I8 x_v41 q x_v40 s x_v21 f d g)
set_option maxRecDepth 100000 in
set_option maxHeartbeats 4000000 in
theorem Ky (n:Nat) {h:Ae} {w:World} (hh:C9 h w) (r_:Af) {cs_r_:List Value} (hx_r_:rep h r_ cs_r_) (a:Aw) {cs_a:List Value} (hx_a:rep h a cs_a) (t_:Au) {cs_t_:List Value} (hx_t_:rep h t_ cs_t_) (stop:Int) {r:List Int} (H:Gb n r_ a t_ stop=some r) :
  Calls Tryz.prog 23 #[.agg cs_r_.toArray,.agg cs_a.toArray,.agg cs_t_.toArray,.int .i64 stop] w (CA (fun h v=>∃ a c,v=.slice a r.length c∧Az h a c r) h w):=by
 obtain⟨_,_,rfl,⟨aa,am,rfl,be⟩,⟨_,_,rfl,⟨_,_,rfl,rfl,rfl⟩,⟨_,_,rfl,⟨ah,aq,rfl,bf⟩,⟨_,_,rfl,⟨ai,ar,rfl,bg⟩,⟨_,_,rfl,rfl,⟨_,_,rfl,rfl,⟨_,_,rfl,rfl,rfl⟩⟩⟩⟩⟩⟩⟩:=hx_r_
 obtain⟨_,_,rfl,⟨ab,aj,rfl,a8⟩,⟨_,_,rfl,⟨ac,ak,rfl,a9⟩,⟨ad,al,rfl,ba⟩⟩⟩:=hx_a
 obtain⟨_,_,rfl,⟨ae,an,rfl,bb⟩,⟨_,_,rfl,⟨af,ao,rfl,bc⟩,⟨ag,ap,rfl,bd⟩⟩⟩:=hx_t_
 refine enter 118 [.agg (Eb aa r_ am ah aq ai ar),.agg (Ea ab a aj ac ak ad al),.agg (DZ ae t_ an af ao ag ap),.c (.int .i64 stop)] Tryz.func23 rfl rfl rfl rfl fun t hk=>?_
 have hm:=Ai.begin h w hh
 unfold Gb at H
 refine XT (Aa (wl fun K hK=>?_))
 refine wb (.agg (Eb aa r_ am ah aq ai ar)) hk hm fun l k9 nr (ig:Kn 118 [(l,0)] [tP 4 0 0,tA 0 (Eb aa r_ am ah aq ai ar),tA 1 (Ea ab a aj ac ak ad al),tA 2 (DZ ae t_ an af ao ag ap),tI 3 stop] k9) jy=>hK _ _ ?_
 refine wl fun K hK=>?_
 refine wb (.agg (Ea ab a aj ac ak ad al)) ig jy fun m lc nu (im:Kn 118 [(l,0),(m,0)] [tP 5 1 0,tP 4 0 0,tA 0 (Eb aa r_ am ah aq ai ar),tA 1 (Ea ab a aj ac ak ad al),tA 2 (DZ ae t_ an af ao ag ap),tI 3 stop] lc) jz=>hK _ _ ?_
 refine wl fun K hK=>?_
 refine wb (.agg (DZ ae t_ an af ao ag ap)) im jz fun p lg nw (ix:Kn 118 [(l,0),(m,0),(p,0)] [tP 6 2 0,tP 5 1 0,tP 4 0 0,tA 0 (Eb aa r_ am ah aq ai ar),tA 1 (Ea ab a aj ac ak ad al),tA 2 (DZ ae t_ an af ao ag ap),tI 3 stop] lg) eh=>hK _ _ ?_
 refine Rk 3 1 [tP 6 2 0,tP 5 1 0,tP 4 0 0,tI 3 stop] ix eh fun m5 i3=>?_
 refine wf (XT (Aa (Rk 0 4 [tI 21 r_.to_,tI 19 r_.fr,tP 6 2 0,tP 5 1 0,tP 4 0 0,tI 3 stop] i3 eh fun m6 i6=>?_)))
 refine wl fun K hK=>?_
 refine wS 3 1 [.int .i64 r_.fr,.int .i64 r_.to_] i6 eh fun b7 lj ny (je:Kn 118 [(l,0),(m,0),(p,0)] [tS 22 b7 2 2,tI 21 r_.to_,tI 19 r_.fr,tP 6 2 0,tP 5 1 0,tP 4 0 0,tI 3 stop] lj) de=>?_
 have d3:Ag h ([r_.fr,r_.to_]:List Int) ([.int .i64 r_.fr,.int .i64 r_.to_]:List Value):=⟨_,_,rfl,(Ac:rep h (r_.fr:Int) _),⟨_,_,rfl,(Ac:rep h (r_.to_:Int) _),rfl⟩⟩
 refine hK _ _ ?_
 refine Rk 5 1 [tS 9 b7 2 2,tP 6 2 0,tP 5 1 0,tP 4 0 0,tI 3 stop] je de fun na jf=>?_
 refine wf (XT (Aa (Rk 0 3 [tA 25 (DZ ae t_ an af ao ag ap),tA 24 (Ea ab a aj ac ak ad al),tA 23 (Eb aa r_ am ah aq ai ar),tS 9 b7 2 2,tP 4 0 0,tI 3 stop] jf de fun nb jg=>?_)))
 obtain⟨x26,ex26,H⟩:=Am H
 refine wl fun K hK=>?_
 refine wc [.agg (Eb aa r_ am ah aq ai ar),.agg (Ea ab a aj ac ak ad al),.agg (DZ ae t_ an af ao ag ap)] jg de (Qa n de.has r_ ((Ab (Ad be) (Ab (Ab Ac Ac) (Ab (Ad bf) (Ab (Ad bg) (Ab Ac (Ab Ac (Ab Ac Ac))))))):rep h r_ _) a ((Ab (Ad a8) (Ab (Ad a9) (Ad ba))):rep h a _) t_ ((Ab (Ad bb) (Ab (Ad bc) (Ad bd))):rep h t_ _) ex26) fun ni e9 nz go bl el=>?_
 replace be:=be.mono bl
 replace bf:=bf.mono bl
 replace bg:=bg.mono bl
 replace a8:=a8.mono bl
 replace a9:=a9.mono bl
 replace ba:=ba.mono bl
 replace bb:=bb.mono bl
 replace bc:=bc.mono bl
 replace bd:=bd.mono bl
 replace d3:=d3.mono bl
 obtain⟨au,av,rfl,em⟩:=go
 refine⟨.one (.c (.slice au x26.length av)),rfl,fun lk (jh:Kn 118 [(l,0),(m,0),(p,0)] [tS 26 au x26.length av,tA 25 (DZ ae t_ an af ao ag ap),tA 24 (Ea ab a aj ac ak ad al),tA 23 (Eb aa r_ am ah aq ai ar),tS 9 b7 2 2,tP 4 0 0,tI 3 stop] lk)=>hK _ _ ?_⟩
 refine Rk 4 1 [tS 10 au x26.length av,tS 9 b7 2 2,tP 4 0 0,tI 3 stop] jh el fun nc ji=>?_
 refine wf (XT (XT (Aa (Rk 0 1 [tI 11 0,tS 10 au x26.length av,tS 9 b7 2 2,tP 4 0 0,tI 3 stop] ji el fun nd jj=>?_))))
 refine wf ?_
 obtain⟨d,e7,H⟩:=Am H
 refine Ap (fun a' w'=>∃ (f:Option Addr)(g:Nat)(a1:List Value)(ez:Array Value)(b1:Ae),a' = ⟨ez,[]⟩∧Kn 118 [(l,0),(m,0),(p,0)] [tS 9 f d.length g] ez∧Ai ⟨w,h,A3⟩ b1 [(l,0),(m,0),(p,0)] [⟨Eb aa r_ am ah aq ai ar,some 28⟩,⟨Ea ab a aj ac ak ad al,some 32⟩,⟨DZ ae t_ an af ao ag ap,some 38⟩] [⟨f,d.length,g,3,1,a1,0⟩] w'∧Ae.le e9 b1∧Ag b1 d a1) ?_ ?_
 ·
  refine wp_block ?_
  refine An (fun k1 a' w'=>∃ (x_v10:List Int)(x_v11:Int)(ax:Option Addr)(ay:Nat)(cb:List Value)(e0:Array Value)(c5:Ae),a' = ⟨e0,[]⟩∧Kn 118 [(l,0),(m,0),(p,0)] (J0 x_v11 au x26 av ax x_v10 ay stop) e0∧Ai ⟨w,h,A3⟩ c5 [(l,0),(m,0),(p,0)] [⟨Eb aa r_ am ah aq ai ar,some 28⟩,⟨Ea ab a aj ac ak ad al,some 32⟩,⟨DZ ae t_ an af ao ag ap,some 38⟩] [⟨ax,x_v10.length,ay,3,1,cb,0⟩] w'∧Ae.le e9 c5∧Ag c5 x_v10 cb∧CI k1 r_ stop x26 x_v10 x_v11=some d) n ?_ ?_
  ·
   exact XY ([r_.fr,r_.to_]:List Int) ⟨0,b7,2,([.int .i64 r_.fr,.int .i64 r_.to_]:List Value),_,_,rfl,jj.kp,el,Ae.le_refl _,d3,e7⟩
  ·
   rintro cx _ n0 ⟨x_v10,x_v11,ax,ay,cb,e0,c5,rfl,jk,df,a7,ct,a0⟩
   clear e7
   obtain _ | cx:=cx
   ·
    rw [CI] at a0; cases a0
   rw [CI] at a0
   replace be:=be.mono a7
   replace bf:=bf.mono a7
   replace bg:=bg.mono a7
   replace a8:=a8.mono a7
   replace a9:=a9.mono a7
   replace ba:=ba.mono a7
   replace bb:=bb.mono a7
   replace bc:=bc.mono a7
   replace bd:=bd.mono a7
   replace em:=em.mono a7
   refine XT (XT (Aa (Rk 0 4 ((tB 30 (decide (x_v11<((x26.length:Nat):Int))))::(J0 x_v11 au x26 av ax x_v10 ay stop)) jk df fun nf d9=>?_)))
   refine wf (wC (decide (x_v11<((x26.length:Nat):Int))) d9 (fun dy=>?_) (fun dy=>?_))
   ·
    rw [dy,XW] at a0
    refine wp_skip (XT (wp_block (XT (Aa (Rk 0 2 ((tI 34 x_v11)::(tS 33 au x26.length av)::(J0 x_v11 au x26 av ax x_v10 ay stop)) d9 df fun ng jl=>?_)))))
    obtain⟨x35,ex35,a0⟩:=Am a0
    obtain⟨j4,j6,km⟩:=Ah ex35
    obtain⟨bp,bu,lq,gp,kb,gr⟩:=em.get (by decide) km
    obtain⟨dj,dm,rfl,j8⟩:=kb
    have fl:=df.addPlc (b:=bp) (o:=bu+(x_v11:Int).toNat*1) (cs:=[.slice dj x35.length dm]) (fun j c hj=>gr j _ (Aj hj)) rfl (by kernel_rfl) (by kernel_rfl)
    refine AN 2 (x_v11) rfl rfl (rfl) rfl (by decide) jl (by rfl) (by rfl) (by rfl) gp (by rfl) j4 j6 (by kernel_rfl) fun k2 (hb:Kn 118 [(l,0),(m,0),(p,0),(bp,bu+(x_v11:Int).toNat*1)] ((tP 35 3 0)::(tI 34 x_v11)::(tS 33 au x26.length av)::(J0 x_v11 au x26 av ax x_v10 ay stop)) k2)=>?_
    refine Rk 3 2 ((tI 37 stop)::(tS 36 dj x35.length dm)::(J0 x_v11 au x26 av ax x_v10 ay stop)) hb fl fun l9 hc=>?_
    obtain⟨x38,ex38,a0⟩:=Am a0
    obtain⟨j5,j7,kn⟩:=Ah ex38
    obtain⟨bw,b3,lr,gq,kc,gs⟩:=j8.get (by decide) kn
    obtain rfl:=kc
    have db:=fl.addPlc (b:=bw) (o:=b3+(stop:Int).toNat*1) (cs:=[.int .i64 x38]) (fun j c hj=>gs j _ (Aj hj)) rfl (by kernel_rfl) (by kernel_rfl)
    refine AN 5 (stop) rfl rfl (rfl) rfl (by decide) hc (by rfl) (by rfl) (by rfl) gq (by rfl) j5 j7 (by kernel_rfl) fun k3 (hd:Kn 118 (Pr l m p bp bu x_v11 bw b3 stop) ((tP 38 4 0)::(tI 37 stop)::(tS 36 dj x35.length dm)::(J0 x_v11 au x26 av ax x_v10 ay stop)) k3)=>?_
    refine Rk 6 2 ((tI 12 x38)::(J0 x_v11 au x26 av ax x_v10 ay stop)) hd db fun ma he=>?_
    refine wf (XT (Aa (Rk 0 5 ((tI 44 r_.to_)::(tI 42 r_.fr)::(tI 40 x38)::(tI 12 x38)::(J0 x_v11 au x26 av ax x_v10 ay stop)) he db fun mb hf=>?_)))
    obtain⟨x45,ex45,a0⟩:=Am a0
    refine wl fun K hK=>?_
    refine wc [.c (.int .i64 x38),.c (.int .i64 r_.fr),.c (.int .i64 r_.to_)] hf db (Cz cx db.has x38 r_.fr r_.to_ ex45) fun nh dp nj gn ec dc=>?_
    replace ct:=ct.mono ec
    obtain rfl:=gn
    refine⟨.one (.c (.bool x45)),rfl,fun gf (hg:Kn 118 (Pr l m p bp bu x_v11 bw b3 stop) ((tB 45 x45)::(tI 44 r_.to_)::(tI 42 r_.fr)::(tI 40 x38)::(tI 12 x38)::(J0 x_v11 au x26 av ax x_v10 ay stop)) gf)=>hK _ _ ?_⟩
    have d4:Kn 118 (Pr l m p bp bu x_v11 bw b3 stop) ((tB 45 x45)::(tI 12 x38)::(J0 x_v11 au x26 av ax x_v10 ay stop)) gf:=hg.kp
    refine wf (wC (x45) d4 (fun dt=>?_) (fun dt=>?_))
    ·
     rw [dt,XW] at a0
     refine Aa (Rk 0 2 [tI 47 x38,tS 46 ax x_v10.length ay,tI 11 x_v11,tS 10 au x26.length av,tP 4 0 0,tI 3 stop] d4 dc fun mc hl=>?_)
     refine wl fun K hK=>?_
     refine wS 3 1 [.int .i64 x38] hl dc fun e1 k4 nk (hn:Kn 118 (Pr l m p bp bu x_v11 bw b3 stop) [tS 48 e1 1 1,tI 47 x38,tS 46 ax x_v10.length ay,tI 11 x_v11,tS 10 au x26.length av,tP 4 0 0,tI 3 stop] k4) fm=>?_
     have dz:Ag dp ([x38]:List Int) ([.int .i64 x38]:List Value):=⟨_,_,rfl,(Ac:rep dp (x38:Int) _),rfl⟩
     refine hK _ _ ?_
     obtain⟨x49,ex49,a0⟩:=Am a0
     obtain⟨en,jm⟩:=AU ex49
     refine wl fun K hK=>?_
     refine AG 0 8 1 _ (x49.length) _ ([.int .i64 x38]:List Value) hn fm rfl rfl (by decide) rfl (by rfl) (by kernel_rfl) (by rfl) (by rfl) (Ag.len dz) (fm.rowCell (i:=1) rfl) dz.one (by rw [en]; simp <;> omega) (by rw [en]; exact jm) (by decide) fun cz c1 gl k5 nl g9 (ho:Kn 118 (Pr l m p bp bu x_v11 bw b3 stop) [tS 49 cz x49.length c1,tS 48 e1 1 1,tI 47 x38,tS 46 ax x_v10.length ay,tI 11 x_v11,tS 10 au x26.length av,tP 4 0 0,tI 3 stop] k5) ee=>?_
     have gu:Ag dp x49 (cb++([.int .i64 x38]:List Value)):=by rw [en]; exact Ag.append ct dz
     obtain rfl:gl=0:=Nat.le_zero.1 g9
     refine hK _ _ ?_
     refine Rk 4 1 [tS 9 cz x49.length c1,tI 11 x_v11,tS 10 au x26.length av,tP 4 0 0,tI 3 stop] ho ee fun md hp=>?_
     refine wf (Aa (Rk 0 3 [tI 11 (IntKind.i64.wrap (x_v11+1)),tS 9 cz x49.length c1,tS 10 au x26.length av,tP 4 0 0,tI 3 stop] hp ee fun me hq=>?_))
     refine wf ?_
     exact XY cx ⟨Nat.lt_succ_self _,XY x49 ⟨IntKind.i64.wrap (x_v11+1),cz,c1,cb++([.int .i64 x38]:List Value),_,_,rfl,(hq.keep [11,10,9,4,3] (by rfl)).cut 3 (by kernel_rfl),(ee.cutRw 1).cutPl 3 (by kernel_rfl),XU a7 ec,gu,a0⟩⟩
    ·
     rw [dt,XV] at a0
     refine wp_skip (Aa (Rk 0 3 [tI 11 (IntKind.i64.wrap (x_v11+1)),tS 10 au x26.length av,tS 9 ax x_v10.length ay,tP 4 0 0,tI 3 stop] d4 dc fun mf hr=>?_))
     refine wf ?_
     exact XY cx ⟨Nat.lt_succ_self _,XY x_v10 ⟨IntKind.i64.wrap (x_v11+1),ax,ay,cb,_,_,rfl,(hr.keep [11,10,9,4,3] (by rfl)).cut 3 (by kernel_rfl),dc.cutPl 3 (by kernel_rfl),XU a7 ec,ct,a0⟩⟩
   ·
    rw [dy,XV] at a0
    refine wp_exit ?_
    obtain rfl:=XZ a0
    exact XY ax ⟨ay,cb,_,_,rfl,d9.kp,df,a7,ct⟩
 ·
  rintro _ ll ⟨f,g,a1,ez,b1,rfl,hs,ef,bs,bh⟩
  replace be:=be.mono bs
  replace bf:=bf.mono bs
  replace bg:=bg.mono bs
  replace a8:=a8.mono bs
  replace a9:=a9.mono bs
  replace ba:=ba.mono bs
  replace bb:=bb.mono bs
  replace bc:=bc.mono bs
  replace bd:=bd.mono bs
  refine XT (Aa (Rk 0 1 [tS 13 none 0 0,tS 9 f d.length g] hs ef fun mg ht=>?_))
  refine wf (XT (XT (Aa (Rk 0 1 [tI 14 0,tS 13 none 0 0,tS 9 f d.length g] ht ef fun mh hu=>?_))))
  refine wf ?_
  have jx:Ai ⟨w,h,A3⟩ b1 [(l,0),(m,0),(p,0)] [⟨Eb aa r_ am ah aq ai ar,some 28⟩,⟨Ea ab a aj ac ak ad al,some 32⟩,⟨DZ ae t_ an af ao ag ap,some 38⟩] [⟨f,d.length,g,3,1,a1,0⟩,⟨none,0,0,3,1,[],0⟩] ll:=ef.nilRow 3 1
  have gv:Ag b1 ([]:List Int) []:=Ag.nil
  obtain⟨b4,e4,H⟩:=Am H
  refine Ap (fun a' w'=>∃ (b5:Option Addr)(b8:Nat)(cy:List Value)(er:Array Value)(c3:Ae),a' = ⟨er,[]⟩∧Kn 118 [(l,0),(m,0),(p,0)] [tS 13 b5 b4.length b8] er∧Ai ⟨w,h,A3⟩ c3 [(l,0),(m,0),(p,0)] [⟨Eb aa r_ am ah aq ai ar,some 28⟩,⟨Ea ab a aj ac ak ad al,some 32⟩,⟨DZ ae t_ an af ao ag ap,some 38⟩] [⟨f,d.length,g,3,1,a1,0⟩,⟨b5,b4.length,b8,3,1,cy,0⟩] w'∧Ae.le b1 c3∧Ag c3 b4 cy) ?_ ?_
  ·
   refine wp_block ?_
   refine An (fun ky a' w'=>∃ (x_v20:List Int)(x_v21:Int)(u:Option Addr)(x:Nat)(bn:List Value)(es:Array Value)(cc:Ae),a' = ⟨es,[]⟩∧Kn 118 [(l,0),(m,0),(p,0)] (EV x_v21 u x_v20 x f d g) es∧Ai ⟨w,h,A3⟩ cc [(l,0),(m,0),(p,0)] [⟨Eb aa r_ am ah aq ai ar,some 28⟩,⟨Ea ab a aj ac ak ad al,some 32⟩,⟨DZ ae t_ an af ao ag ap,some 38⟩] [⟨f,d.length,g,3,1,a1,0⟩,⟨u,x_v20.length,x,3,1,bn,0⟩] w'∧Ae.le b1 cc∧Ag cc x_v20 bn∧CL ky d x_v20 x_v21=some b4) n ?_ ?_
   ·
    exact XY ([]:List Int) ⟨0,none,0,[],_,_,rfl,hu.kp,jx,Ae.le_refl _,gv,e4⟩
   ·
    rintro ch _ nm ⟨x_v20,x_v21,u,x,bn,es,cc,rfl,hv,cv,a4,br,az⟩
    clear e4
    obtain _ | ch:=ch
    ·
     rw [CL] at az; cases az
    rw [CL] at az
    replace be:=be.mono a4
    replace bf:=bf.mono a4
    replace bg:=bg.mono a4
    replace a8:=a8.mono a4
    replace a9:=a9.mono a4
    replace ba:=ba.mono a4
    replace bb:=bb.mono a4
    replace bc:=bc.mono a4
    replace bd:=bd.mono a4
    replace bh:=bh.mono a4
    refine XT (XT (Aa (Rk 0 4 ((tB 53 (decide (x_v21<((d.length:Nat):Int))))::(EV x_v21 u x_v20 x f d g)) hv cv fun mi d5=>?_)))
    refine wf (wC (decide (x_v21<((d.length:Nat):Int))) d5 (fun du=>?_) (fun du=>?_))
    ·
     rw [du,XW] at az
     refine wp_skip (XT (wp_block (XT (Aa (Rk 0 1 ((tB 15 false)::(EV x_v21 u x_v20 x f d g)) d5 cv fun mj hw=>?_)))))
     refine wf (XT (XT (Aa (Rk 0 1 ((tI 16 0)::(tB 15 false)::(EV x_v21 u x_v20 x f d g)) hw cv fun mk hx=>?_))))
     refine wf ?_
     obtain⟨dh,e5,az⟩:=Am az
     refine Ap (fun a' w'=>∃ (et:Array Value)(bz:Ae),a' = ⟨et,[]⟩∧Kn 118 [(l,0),(m,0),(p,0)] ((tB 15 dh)::(EV x_v21 u x_v20 x f d g)) et∧Ai ⟨w,h,A3⟩ bz [(l,0),(m,0),(p,0)] [⟨Eb aa r_ am ah aq ai ar,some 28⟩,⟨Ea ab a aj ac ak ad al,some 32⟩,⟨DZ ae t_ an af ao ag ap,some 38⟩] [⟨f,d.length,g,3,1,a1,0⟩,⟨u,x_v20.length,x,3,1,bn,0⟩] w'∧Ae.le cc bz) ?_ ?_
     ·
      refine wp_block ?_
      refine An (fun kz a' w'=>∃ (x_v30:Int)(x_v31:Bool)(eu:Array Value)(dq:Ae),a' = ⟨eu,[]⟩∧Kn 118 [(l,0),(m,0),(p,0)] ((tI 16 x_v30)::(tB 15 x_v31)::(EV x_v21 u x_v20 x f d g)) eu∧Ai ⟨w,h,A3⟩ dq [(l,0),(m,0),(p,0)] [⟨Eb aa r_ am ah aq ai ar,some 28⟩,⟨Ea ab a aj ac ak ad al,some 32⟩,⟨DZ ae t_ an af ao ag ap,some 38⟩] [⟨f,d.length,g,3,1,a1,0⟩,⟨u,x_v20.length,x,3,1,bn,0⟩] w'∧Ae.le cc dq∧CJ kz d x_v20 x_v21 x_v30 x_v31=some dh) ch ?_ ?_
      ·
       exact XY 0 ⟨false,_,_,rfl,hx.kp,cv,Ae.le_refl _,e5⟩
      ·
       rintro dg _ nn ⟨x_v30,x_v31,eu,dq,rfl,hy,bi,cu,a3⟩
       clear e5
       obtain _ | dg:=dg
       ·
        rw [CJ] at a3; cases a3
       rw [CJ] at a3
       replace bh:=bh.mono cu
       replace br:=br.mono cu
       refine XT (XT (Aa (Rk 0 4 ((tB 59 (decide (x_v30<((x_v20.length:Nat):Int))))::(tI 16 x_v30)::(tB 15 x_v31)::(EV x_v21 u x_v20 x f d g)) hy bi fun ml d6=>?_)))
       refine wf (wC (decide (x_v30<((x_v20.length:Nat):Int))) d6 (fun dv=>?_) (fun dv=>?_))
       ·
        rw [dv,XW] at a3
        refine wp_skip (XT (wp_block (Al (by kernel_rfl) ?_)))
        replace bi:=bi.drew
        refine Ao [] [(l,0),(m,0),(p,0)] [⟨Eb aa r_ am ah aq ai ar,some 28⟩,⟨Ea ab a aj ac ak ad al,some 32⟩,⟨DZ ae t_ an af ao ag ap,some 38⟩] ?_
        refine Dr [0,1] [1,0] ((tB 63 x_v31)::(tI 16 x_v30)::(EV x_v21 u x_v20 x f d g)) d6 bi fun gg ff=>?_
        rcases Bool.eq_false_or_eq_true (x_v31) with cp | cp
        ·
         rw [cp,XW] at a3
         have hz:Kn 118 [(l,0),(m,0),(p,0)] ((tB 63 true)::(tI 16 x_v30)::(EV x_v21 u x_v20 x f d g)) gg:=(ff.setB 63 true (by rfl) cp).kp
         refine Dr [2,3,4,5,6,7,8,9,10,11,12] (dn 12) ((tB 15 true)::(tI 16 x_v30)::(EV x_v21 u x_v20 x f d g)) hz bi fun mm h0=>?_
         refine Ay (by kernel_rfl) (Aa (Rk 0 3 ((tI 16 (IntKind.i64.wrap (x_v30+1)))::(tB 15 true)::(EV x_v21 u x_v20 x f d g)) h0 bi fun mn h1=>?_))
         refine wf ?_
         exact XY dg ⟨Nat.lt_succ_self _,XY (IntKind.i64.wrap (x_v30+1)) ⟨true,_,_,rfl,h1.kp,bi,cu,a3⟩⟩
        ·
         rw [cp,XV] at a3
         have h2:Kn 118 [(l,0),(m,0),(p,0)] ((tB 63 false)::(tI 16 x_v30)::(EV x_v21 u x_v20 x f d g)) gg:=(ff.setB 63 false (by rfl) cp).kp
         refine Dr [2,3] (dn 3) ((tI 65 x_v30)::(tS 64 u x_v20.length x)::(tB 63 false)::(tI 16 x_v30)::(EV x_v21 u x_v20 x f d g)) h2 bi fun mo fg=>?_
         obtain⟨x66,ex66,a3⟩:=Am a3
         obtain⟨ft,f2,ko⟩:=Ah ex66
         have jn:=Bi ft f2
         obtain⟨ls,kd,gw⟩:=Dc (sz:=1) rfl br ko
         obtain rfl:=kd
         obtain⟨dk,cn⟩:=B6 bi (i:=1) rfl (b0:=0+(x_v30:Int).toNat*1) (Nat.lt_of_lt_of_le (Nat.lt_add_of_pos_right (by decide)) (Cd (sz:=1) rfl br jn))
         have cd:=bi.addPlc (b:=dk) (o:=0+(x_v30:Int).toNat*1) (cs:=[]) (fun j c hj=>by simp at hj) rfl (by kernel_rfl) (by kernel_rfl)
         have c8:∀ (e:AT) k c,([.int .i64 x66]:List SC)[k]? = some c→(bn)[0+(x_v30:Int).toNat*1+k]? = some (c.den e):=fun e k c hk=>gw k _ (Aj hk)
         refine At 4 (x_v30) [.int .i64 x66] (fun _ _ _ _ _ h=>h) rfl rfl (Ak fg (by kernel_rfl)) rfl (by decide) (by kernel_rfl) (by kernel_rfl) fg bi.plOk (by rfl) (by rfl) (by rfl) cn (by rfl) ft f2 (by kernel_rfl) fun k6 (h3:Kn 118 [(l,0),(m,0),(p,0),(dk,0+(x_v30:Int).toNat*1)] ((tP 66 3 0)::(tI 65 x_v30)::(tS 64 u x_v20.length x)::(tB 63 false)::(tI 16 x_v30)::(EV x_v21 u x_v20 x f d g)) k6)=>?_
         refine Gx [5,6,7] [7,6,5,4,3,2,1,0] [69,68,67,63,16,14,13,9] ((tI 69 x_v21)::(tS 68 f d.length g)::(tI 67 x66)::(tB 63 false)::(tI 16 x_v30)::(EV x_v21 u x_v20 x f d g)) (fun _ _ _ _ _ h=>h) h3 (AH.peek cd.plOk cd 1 3 rfl rfl cn [.int .i64 x66] (c8 _)) (by kernel_rfl) (by rfl) (by kernel_rfl) fun mp fh=>?_
         obtain⟨x70,ex70,a3⟩:=Am a3
         obtain⟨fu,f3,kq⟩:=Ah ex70
         have jo:=Bi fu f3
         obtain⟨lu,ke,gx⟩:=Dc (sz:=1) rfl bh kq
         obtain rfl:=ke
         obtain⟨e2,dr⟩:=B6 cd (i:=0) rfl (b0:=0+(x_v21:Int).toNat*1) (Nat.lt_of_lt_of_le (Nat.lt_add_of_pos_right (by decide)) (Cd (sz:=1) rfl bh jo))
         have b9:=cd.addPlc (b:=e2) (o:=0+(x_v21:Int).toNat*1) (cs:=[]) (fun j c hj=>by simp at hj) rfl (by kernel_rfl) (by kernel_rfl)
         have fd:∀ (e:AT) k c,([.int .i64 x70]:List SC)[k]? = some c→(a1)[0+(x_v21:Int).toNat*1+k]? = some (c.den e):=fun e k c hk=>gx k _ (Aj hk)
         refine At 8 (x_v21) [.int .i64 x70] (fun _ _ _ _ _ h=>h) rfl rfl (Ak fh (by kernel_rfl)) rfl (by decide) (by kernel_rfl) (by kernel_rfl) fh (AH.peek cd.plOk cd 1 3 rfl rfl cn [.int .i64 x66] (c8 _)) (by rfl) (by rfl) (by rfl) dr (by rfl) fu f3 (by kernel_rfl) fun k7 (h4:Kn 118 [(l,0),(m,0),(p,0),(dk,0+(x_v30:Int).toNat*1),(e2,0+(x_v21:Int).toNat*1)] ((tP 70 4 0)::(tI 69 x_v21)::(tS 68 f d.length g)::(tI 67 x66)::(tB 63 false)::(tI 16 x_v30)::(EV x_v21 u x_v20 x f d g)) k7)=>?_
         refine Gx [9,10,11,12] [12,11,10,9,8,7,6,5,4,3,2,1,0] [15,16,14,13,9] ((tB 15 (x66 == x70))::(tI 16 x_v30)::(EV x_v21 u x_v20 x f d g)) (fun _ _ _ _ _ h=>h) h4 (AH.peek (AH.peek b9.plOk b9 1 3 rfl rfl cn [.int .i64 x66] (c8 _)) b9 0 4 rfl rfl dr [.int .i64 x70] (fd _)) (by kernel_rfl) (by rfl) (by kernel_rfl) fun mq h5=>?_
         refine Ay (by kernel_rfl) (Aa (Ip 0 3 [16,15,14,13,9] ((tI 16 (IntKind.i64.wrap (x_v30+1)))::(tB 15 (x66 == x70))::(EV x_v21 u x_v20 x f d g)) h5 (AH.peek (AH.peek b9.plOk b9 1 3 rfl rfl cn [.int .i64 x66] (c8 _)) b9 0 4 rfl rfl dr [.int .i64 x70] (fd _)) (by kernel_rfl) fun mr h6=>?_))
         refine wf ?_
         exact XY dg ⟨Nat.lt_succ_self _,XY (IntKind.i64.wrap (x_v30+1)) ⟨x66 == x70,_,_,rfl,(h6.keep [16,15,14,13,9] (by rfl)).cut 3 (by kernel_rfl),b9.cutPl 3 (by kernel_rfl),cu,a3⟩⟩
       ·
        rw [dv,XV] at a3
        refine wp_exit ?_
        obtain rfl:=XZ a3
        exact XY _ ⟨_,rfl,d6.kp,bi,cu⟩
     ·
      rintro _ np ⟨et,bz,rfl,h7,ce,a5⟩
      replace be:=be.mono a5
      replace bf:=bf.mono a5
      replace bg:=bg.mono a5
      replace a8:=a8.mono a5
      replace a9:=a9.mono a5
      replace ba:=ba.mono a5
      replace bb:=bb.mono a5
      replace bc:=bc.mono a5
      replace bd:=bd.mono a5
      replace bh:=bh.mono a5
      replace br:=br.mono a5
      refine XT (XT (Aa (Rk 0 1 ((tB 74 dh)::(EV x_v21 u x_v20 x f d g)) h7 ce fun ms d7=>?_)))
      refine wf (wC (dh) d7 (fun dw=>?_) (fun dw=>?_))
      ·
       rw [dw,XW] at az
       refine wp_exit (Aa (Rk 0 3 [tI 14 (IntKind.i64.wrap (x_v21+1)),tS 13 u x_v20.length x,tS 9 f d.length g] d7 ce fun mt h8=>?_))
       refine wf ?_
       exact XY ch ⟨Nat.lt_succ_self _,XY x_v20 ⟨IntKind.i64.wrap (x_v21+1),u,x,bn,_,_,rfl,h8.kp,ce,XU a4 a5,br,az⟩⟩
      ·
       rw [dw,XV] at az
       refine wp_skip (XT (Aa (Rk 0 3 [tI 77 x_v21,tS 76 f d.length g,tS 75 u x_v20.length x,tI 14 x_v21,tS 9 f d.length g] d7 ce fun mu h9=>?_)))
       obtain⟨x78,ex78,az⟩:=Am az
       obtain⟨fv,f4,kr⟩:=Ah ex78
       have jp:=Bi fv f4
       obtain⟨lv,kf,gy⟩:=Dc (sz:=1) rfl bh kr
       obtain rfl:=kf
       obtain⟨y,c6⟩:=B6 ce (i:=0) rfl (b0:=0+(x_v21:Int).toNat*1) (Nat.lt_of_lt_of_le (Nat.lt_add_of_pos_right (by decide)) (Cd (sz:=1) rfl bh jp))
       have eg:=ce.addPlc (b:=y) (o:=0+(x_v21:Int).toNat*1) (cs:=[]) (fun j c hj=>by simp at hj) rfl (by kernel_rfl) (by kernel_rfl)
       have d1:∀ (e:AT) k c,([.int .i64 x78]:List SC)[k]? = some c→(a1)[0+(x_v21:Int).toNat*1+k]? = some (c.den e):=fun e k c hk=>gy k _ (Aj hk)
       refine AN 3 (x_v21) rfl rfl (rfl) rfl (by decide) h9 (by rfl) (by rfl) (by rfl) c6 (by rfl) fv f4 (by kernel_rfl) fun k8 (ia:Kn 118 (GW l m p y x_v21) [tP 78 3 0,tI 77 x_v21,tS 76 f d.length g,tS 75 u x_v20.length x,tI 14 x_v21,tS 9 f d.length g] k8)=>?_
       refine Ip 4 1 [79,75,14,9] [tI 79 x78,tS 75 u x_v20.length x,tI 14 x_v21,tS 9 f d.length g] ia (AH.peek eg.plOk eg 0 3 rfl rfl c6 [.int .i64 x78] (d1 _)) (by kernel_rfl) fun mv ib=>?_
       refine wl fun K hK=>?_
       refine wS 3 1 [.int .i64 x78] ib eg fun b6 la nq (ic:Kn 118 (GW l m p y x_v21) [tS 80 b6 1 1,tI 79 x78,tS 75 u x_v20.length x,tI 14 x_v21,tS 9 f d.length g] la) fn=>?_
       have cr:Ag bz ([x78]:List Int) ([.int .i64 x78]:List Value):=⟨_,_,rfl,(Ac:rep bz (x78:Int) _),rfl⟩
       refine hK _ _ ?_
       obtain⟨x81,ex81,az⟩:=Am az
       obtain⟨eo,jq⟩:=AU ex81
       refine wl fun K hK=>?_
       refine AG 1 8 1 _ (x81.length) _ ([.int .i64 x78]:List Value) ic fn rfl rfl (by decide) rfl (by rfl) (by kernel_rfl) (by rfl) (by rfl) (Ag.len cr) (fn.rowCell (i:=2) rfl) cr.one (by rw [eo]; simp <;> omega) (by rw [eo]; exact jq) (by decide) fun c0 c2 gm lb ns ha (ie:Kn 118 (GW l m p y x_v21) [tS 81 c0 x81.length c2,tS 80 b6 1 1,tI 79 x78,tS 75 u x_v20.length x,tI 14 x_v21,tS 9 f d.length g] lb) cw=>?_
       have gz:Ag bz x81 (bn++([.int .i64 x78]:List Value)):=by rw [eo]; exact Ag.append br cr
       obtain rfl:gm=0:=Nat.le_zero.1 ha
       refine hK _ _ ?_
       refine Ip 7 1 [13,14,9] [tS 13 c0 x81.length c2,tI 14 x_v21,tS 9 f d.length g] ie (AH.peek cw.plOk cw 0 3 rfl rfl c6 [.int .i64 x78] (d1 _)) (by kernel_rfl) fun mw ih=>?_
       refine wf (XT (Aa (Ip 0 4 [17,13,14,9] [tI 17 (IntKind.i64.wrap (((x81.length:Nat):Int)-1)),tS 13 c0 x81.length c2,tI 14 x_v21,tS 9 f d.length g] ih (AH.peek cw.plOk cw 0 3 rfl rfl c6 [.int .i64 x78] (d1 _)) (by kernel_rfl) fun mx ii=>?_)))
       refine wf ?_
       obtain⟨ci,e6,az⟩:=Am az
       refine Ap (fun a' w'=>∃ (cj:Option Addr)(cl:Nat)(di:List Value)(ev:Array Value)(c4:Ae),a' = ⟨ev,[]⟩∧Kn 118 (GW l m p y x_v21) [tS 13 cj ci.length cl,tI 14 x_v21,tS 9 f d.length g] ev∧Ai ⟨w,h,A3⟩ c4 (GW l m p y x_v21) [⟨Eb aa r_ am ah aq ai ar,some 28⟩,⟨Ea ab a aj ac ak ad al,some 32⟩,⟨DZ ae t_ an af ao ag ap,some 38⟩,⟨[],none⟩] [⟨f,d.length,g,3,1,a1,0⟩,⟨cj,ci.length,cl,3,1,di,0⟩,⟨b6,1,1,3,1,([.int .i64 x78]:List Value),0⟩] w'∧Ae.le bz c4∧Ag c4 ci di) ?_ ?_
       ·
        refine wp_block ?_
        refine An (fun k0 a' w'=>∃ (x_v40:List Int)(x_v41:Int)(q:Option Addr)(s:Nat)(z:List Value)(ew:Array Value)(cm:Ae),a' = ⟨ew,[]⟩∧Kn 118 (GW l m p y x_v21) (I8 x_v41 q x_v40 s x_v21 f d g) ew∧Ai ⟨w,h,A3⟩ cm (GW l m p y x_v21) [⟨Eb aa r_ am ah aq ai ar,some 28⟩,⟨Ea ab a aj ac ak ad al,some 32⟩,⟨DZ ae t_ an af ao ag ap,some 38⟩,⟨[],none⟩] [⟨f,d.length,g,3,1,a1,0⟩,⟨q,x_v40.length,s,3,1,z,0⟩,⟨b6,1,1,3,1,([.int .i64 x78]:List Value),0⟩] w'∧Ae.le bz cm∧Ag cm x_v40 z∧CK k0  x_v40 x_v41=some ci) ch ?_ ?_
        ·
         exact XY x81 ⟨IntKind.i64.wrap (((x81.length:Nat):Int)-1),c0,c2,bn++([.int .i64 x78]:List Value),_,_,rfl,ii.kp,cw,Ae.le_refl _,gz,e6⟩
        ·
         rintro ep _ nt ⟨x_v40,x_v41,q,s,z,ew,cm,rfl,ij,bt,a6,a2,aw⟩
         clear e6
         obtain _ | ep:=ep
         ·
          rw [CK] at aw; cases aw
         rw [CK] at aw
         replace be:=be.mono a6
         replace bf:=bf.mono a6
         replace bg:=bg.mono a6
         replace a8:=a8.mono a6
         replace a9:=a9.mono a6
         replace ba:=ba.mono a6
         replace bb:=bb.mono a6
         replace bc:=bc.mono a6
         replace bd:=bd.mono a6
         replace bh:=bh.mono a6
         replace cr:=cr.mono a6
         refine XT (XT ?_)
         obtain⟨gd,bx,aw⟩:=Am aw
         refine Ap (fun a' w'=>∃ (ex:Array Value)(bq:Ae),a' = ⟨ex,[]⟩∧Kn 118 (GW l m p y x_v21) [tI 17 x_v41,tS 13 q x_v40.length s,tI 14 x_v21,tS 9 f d.length g,tB 98 gd] ex∧Ai ⟨w,h,A3⟩ bq (GW l m p y x_v21) [⟨Eb aa r_ am ah aq ai ar,some 28⟩,⟨Ea ab a aj ac ak ad al,some 32⟩,⟨DZ ae t_ an af ao ag ap,some 38⟩,⟨[],none⟩] [⟨f,d.length,g,3,1,a1,0⟩,⟨q,x_v40.length,s,3,1,z,0⟩,⟨b6,1,1,3,1,([.int .i64 x78]:List Value),0⟩] w'∧Ae.le cm bq) ?_ ?_
         ·
          refine Al (by kernel_rfl) ?_
          replace bt:=bt.drew
          refine Ao [] (GW l m p y x_v21) [⟨Eb aa r_ am ah aq ai ar,some 28⟩,⟨Ea ab a aj ac ak ad al,some 32⟩,⟨DZ ae t_ an af ao ag ap,some 38⟩,⟨[],none⟩] ?_
          refine Dr [0,1,2] [2,1,0] ((tB 87 (decide (x_v41>0)))::(I8 x_v41 q x_v40 s x_v21 f d g)) ij bt fun gh fi=>?_
          rcases Bool.eq_false_or_eq_true (decide (x_v41>0)) with cq | cq
          ·
           rw [cq,XW] at bx
           have ik:Kn 118 (GW l m p y x_v21) ((tB 87 true)::(I8 x_v41 q x_v40 s x_v21 f d g)) gh:=(fi.setB 87 true (by rfl) cq).kp
           refine Dr [3,4] (dn 4) ((tI 89 x_v41)::(tS 88 q x_v40.length s)::(tB 87 true)::(I8 x_v41 q x_v40 s x_v21 f d g)) ik bt fun my fj=>?_
           obtain⟨x90,ex90,bx⟩:=Am bx
           obtain⟨fw,f5,ks⟩:=Ah ex90
           have jr:=Bi fw f5
           obtain⟨lw,kg,g1⟩:=Dc (sz:=1) rfl a2 ks
           obtain rfl:=kg
           obtain⟨dl,c7⟩:=B6 bt (i:=1) rfl (b0:=0+(x_v41:Int).toNat*1) (Nat.lt_of_lt_of_le (Nat.lt_add_of_pos_right (by decide)) (Cd (sz:=1) rfl a2 jr))
           have cf:=bt.addPlc (b:=dl) (o:=0+(x_v41:Int).toNat*1) (cs:=[]) (fun j c hj=>by simp at hj) rfl (by kernel_rfl) (by kernel_rfl)
           have d2:∀ (e:AT) k c,([.int .i64 x90]:List SC)[k]? = some c→(z)[0+(x_v41:Int).toNat*1+k]? = some (c.den e):=fun e k c hk=>g1 k _ (Aj hk)
           refine At 5 (x_v41) [.int .i64 x90] (fun _ _ _ _ _ h=>h) rfl rfl (Ak fj (by kernel_rfl)) rfl (by decide) (by kernel_rfl) (by kernel_rfl) fj bt.plOk (by rfl) (by rfl) (by rfl) c7 (by rfl) fw f5 (by kernel_rfl) fun ld (il:Kn 118 [(l,0),(m,0),(p,0),(y,0+(x_v21:Int).toNat*1),(dl,0+(x_v41:Int).toNat*1)] ((tP 90 4 0)::(tI 89 x_v41)::(tS 88 q x_v40.length s)::(tB 87 true)::(I8 x_v41 q x_v40 s x_v21 f d g)) ld)=>?_
           refine Gx [6,7,8,9] [9,8,7,6,5,4,3,2,1,0] [94,92,91,87,17,13,14,9] ((tI 94 (IntKind.i64.wrap (x_v41-1)))::(tS 92 q x_v40.length s)::(tI 91 x90)::(tB 87 true)::(I8 x_v41 q x_v40 s x_v21 f d g)) (fun _ _ _ _ _ h=>h) il (AH.peek cf.plOk cf 1 4 rfl rfl c7 [.int .i64 x90] (d2 _)) (by kernel_rfl) (by rfl) (by kernel_rfl) fun mz fk=>?_
           obtain⟨x95,ex95,bx⟩:=Am bx
           obtain⟨fx,f6,kt⟩:=Ah ex95
           have js:=Bi fx f6
           obtain⟨lx,kh,g2⟩:=Dc (sz:=1) rfl a2 kt
           obtain rfl:=kh
           obtain⟨e3,fa⟩:=B6 cf (i:=1) rfl (b0:=0+(IntKind.i64.wrap (x_v41-1):Int).toNat*1) (Nat.lt_of_lt_of_le (Nat.lt_add_of_pos_right (by decide)) (Cd (sz:=1) rfl a2 js))
           have dd:=cf.addPlc (b:=e3) (o:=0+(IntKind.i64.wrap (x_v41-1):Int).toNat*1) (cs:=[]) (fun j c hj=>by simp at hj) rfl (by kernel_rfl) (by kernel_rfl)
           have g3:∀ (e:AT) k c,([.int .i64 x95]:List SC)[k]? = some c→(z)[0+(IntKind.i64.wrap (x_v41-1):Int).toNat*1+k]? = some (c.den e):=fun e k c hk=>g2 k _ (Aj hk)
           refine At 10 (IntKind.i64.wrap (x_v41-1)) [.int .i64 x95] (fun _ _ _ _ _ h=>h) rfl rfl (Ak fk (by kernel_rfl)) rfl (by decide) (by kernel_rfl) (by kernel_rfl) fk (AH.peek cf.plOk cf 1 4 rfl rfl c7 [.int .i64 x90] (d2 _)) (by rfl) (by rfl) (by rfl) fa (by rfl) fx f6 (by kernel_rfl) fun lf (io:Kn 118 [(l,0),(m,0),(p,0),(y,0+(x_v21:Int).toNat*1),(dl,0+(x_v41:Int).toNat*1),(e3,0+(IntKind.i64.wrap (x_v41-1):Int).toNat*1)] ((tP 95 5 0)::(tI 94 (IntKind.i64.wrap (x_v41-1)))::(tS 92 q x_v40.length s)::(tI 91 x90)::(tB 87 true)::(I8 x_v41 q x_v40 s x_v21 f d g)) lf)=>?_
           refine Gx [11,12,13] [13,12,11,10,9,8,7,6,5,4,3,2,1,0] [98,17,13,14,9] ((tB 98 (decide (x90<x95)))::(I8 x_v41 q x_v40 s x_v21 f d g)) (fun _ _ _ _ _ h=>h) io (AH.peek (AH.peek dd.plOk dd 1 4 rfl rfl c7 [.int .i64 x90] (d2 _)) dd 1 5 rfl rfl fa [.int .i64 x95] (g3 _)) (by kernel_rfl) (by rfl) (by kernel_rfl) fun m0 ip=>?_
           refine Ay (by kernel_rfl) ?_
           obtain rfl:=XZ bx
           exact XY _ ⟨_,rfl,(ip.keep [17,13,14,9,98] (by rfl)).cut 4 (by kernel_rfl),dd.cutPl 4 (by kernel_rfl),Ae.le_refl _⟩
          ·
           rw [cq,XV] at bx
           have iq:Kn 118 (GW l m p y x_v21) ((tB 87 false)::(I8 x_v41 q x_v40 s x_v21 f d g)) gh:=(fi.setB 87 false (by rfl) cq).kp
           refine Dr [3,4,5,6,7,8,9,10,11,12,13] (dn 13) ((tB 98 false)::(I8 x_v41 q x_v40 s x_v21 f d g)) iq bt fun m1 ir=>?_
           refine Ay (by kernel_rfl) ?_
           obtain rfl:=XZ bx
           exact XY _ ⟨_,rfl,ir.kp,bt,Ae.le_refl _⟩
         ·
          rintro _ nv ⟨ex,bq,rfl,d8,ca,ed⟩
          replace a2:=a2.mono ed
          refine wC (gd) d8 (fun dx=>?_) (fun dx=>?_)
          ·
           rw [dx,XW] at aw
           refine wp_skip (XT (wp_block (Al (by kernel_rfl) ?_)))
           replace ca:=ca.drew
           refine Ao [] (GW l m p y x_v21) [⟨Eb aa r_ am ah aq ai ar,some 28⟩,⟨Ea ab a aj ac ak ad al,some 32⟩,⟨DZ ae t_ an af ao ag ap,some 38⟩,⟨[],none⟩] ?_
           refine Dr [0,1,2,3,4,5,6,7] (dn 7) ((tI 108 (IntKind.i64.wrap (x_v41-1)))::(tS 106 q x_v40.length s)::(NA x_v41 q x_v40 s x_v21 f d g)) d8 ca fun m2 iu=>?_
           obtain⟨x109,ex109,aw⟩:=Am aw
           obtain⟨fy,f7,ku⟩:=Ah ex109
           have jt:=Bi fy f7
           obtain⟨ly,ki,g4⟩:=Dc (sz:=1) rfl a2 ku
           obtain rfl:=ki
           obtain⟨bj,co⟩:=B6 ca (i:=1) rfl (b0:=0+(IntKind.i64.wrap (x_v41-1):Int).toNat*1) (Nat.lt_of_lt_of_le (Nat.lt_add_of_pos_right (by decide)) (Cd (sz:=1) rfl a2 jt))
           have cg:=ca.addPlc (b:=bj) (o:=0+(IntKind.i64.wrap (x_v41-1):Int).toNat*1) (cs:=[]) (fun j c hj=>by simp at hj) rfl (by kernel_rfl) (by kernel_rfl)
           have c9:∀ (e:AT) k c,([.int .i64 x109]:List SC)[k]? = some c→(z)[0+(IntKind.i64.wrap (x_v41-1):Int).toNat*1+k]? = some (c.den e):=fun e k c hk=>g4 k _ (Aj hk)
           refine At 8 (IntKind.i64.wrap (x_v41-1)) [.int .i64 x109] (fun _ _ _ _ _ h=>h) rfl rfl (rfl) rfl (by decide) (by kernel_rfl) (by kernel_rfl) iu ca.plOk (by rfl) (by rfl) (by rfl) co (by rfl) fy f7 (by kernel_rfl) fun lh (iv:Kn 118 [(l,0),(m,0),(p,0),(y,0+(x_v21:Int).toNat*1),(bj,0+(IntKind.i64.wrap (x_v41-1):Int).toNat*1)] ((tP 109 4 0)::(tI 108 (IntKind.i64.wrap (x_v41-1)))::(tS 106 q x_v40.length s)::(NA x_v41 q x_v40 s x_v21 f d g)) lh)=>?_
           refine Gx [9,10,11] [11,10,9,8,7,6,5,4,3,2,1,0] [112,111,110,105,103,102,101,17,13,14,9] ((tI 112 x_v41)::(tS 111 q x_v40.length s)::(tI 110 x109)::(NA x_v41 q x_v40 s x_v21 f d g)) (fun _ _ _ _ _ h=>h) iv (AH.peek cg.plOk cg 1 4 rfl rfl co [.int .i64 x109] (c9 _)) (by kernel_rfl) (by rfl) (by kernel_rfl) fun m3 iw=>?_
           obtain⟨x113,ex113,aw⟩:=Am aw
           obtain⟨fz,f8,kv⟩:=Ah ex113
           have ju:=Bi fz f8
           obtain⟨lz,kj,g5⟩:=Dc (sz:=1) rfl a2 kv
           obtain rfl:=kj
           obtain⟨bk,ds⟩:=B6 cg (i:=1) rfl (b0:=0+(x_v41:Int).toNat*1) (Nat.lt_of_lt_of_le (Nat.lt_add_of_pos_right (by decide)) (Cd (sz:=1) rfl a2 ju))
           have b2:=cg.addPlc (b:=bk) (o:=0+(x_v41:Int).toNat*1) (cs:=[]) (fun j c hj=>by simp at hj) rfl (by kernel_rfl) (by kernel_rfl)
           have fe:∀ (e:AT) k c,([.int .i64 x113]:List SC)[k]? = some c→(z)[0+(x_v41:Int).toNat*1+k]? = some (c.den e):=fun e k c hk=>g5 k _ (Aj hk)
           refine At 12 (x_v41) [.int .i64 x113] (fun _ _ _ _ _ h=>h) rfl rfl (rfl) rfl (by decide) (by kernel_rfl) (by kernel_rfl) iw (AH.peek cg.plOk cg 1 4 rfl rfl co [.int .i64 x109] (c9 _)) (by rfl) (by rfl) (by rfl) ds (by rfl) fz f8 (by kernel_rfl) fun li (iy:Kn 118 [(l,0),(m,0),(p,0),(y,0+(x_v21:Int).toNat*1),(bj,0+(IntKind.i64.wrap (x_v41-1):Int).toNat*1),(bk,0+(x_v41:Int).toNat*1)] ((tP 113 5 0)::(tI 112 x_v41)::(tS 111 q x_v40.length s)::(tI 110 x109)::(NA x_v41 q x_v40 s x_v21 f d g)) li)=>?_
           refine Gx [13] [13,12,11,10,9,8,7,6,5,4,3,2,1,0] [114,110,105,103,102,101,17,13,14,9] ((tI 114 x113)::(tI 110 x109)::(NA x_v41 q x_v40 s x_v21 f d g)) (fun _ _ _ _ _ h=>h) iy (AH.peek (AH.peek b2.plOk b2 1 4 rfl rfl co [.int .i64 x109] (c9 _)) b2 1 5 rfl rfl ds [.int .i64 x113] (fe _)) (by kernel_rfl) (by rfl) (by kernel_rfl) fun m4 iz=>?_
           obtain⟨x115,ex115,aw⟩:=Am aw
           obtain⟨f0,f9,kw⟩:=Ah ex115
           have ea:=Bi f0 f9
           obtain⟨l0,kk,g6⟩:=Dc (sz:=1) rfl a2 kw
           obtain rfl:=kk
           obtain⟨bo,fb⟩:=B6 b2 (i:=1) rfl (b0:=0+(x_v41:Int).toNat*1) (Nat.lt_of_lt_of_le (Nat.lt_add_of_pos_right (by decide)) (Cd (sz:=1) rfl a2 ea))
           have j0:=b2.addPlc (b:=bo) (o:=0+(x_v41:Int).toNat*1) (cs:=[]) (fun j c hj=>by simp at hj) rfl (by kernel_rfl) (by kernel_rfl)
           have l2:∀ (e:AT) k c,([.int .i64 x115]:List SC)[k]? = some c→(z)[0+(x_v41:Int).toNat*1+k]? = some (c.den e):=fun e k c hk=>g6 k _ (Aj hk)
           refine At 14 (x_v41) [.int .i64 x115] (fun _ _ _ _ _ h=>h) rfl rfl (rfl) rfl (by decide) (by kernel_rfl) (by kernel_rfl) iz (AH.peek (AH.peek b2.plOk b2 1 4 rfl rfl co [.int .i64 x109] (c9 _)) b2 1 5 rfl rfl ds [.int .i64 x113] (fe _)) (by rfl) (by rfl) (by rfl) fb (by rfl) f0 f9 (by kernel_rfl) fun gi (i0:Kn 118 [(l,0),(m,0),(p,0),(y,0+(x_v21:Int).toNat*1),(bj,0+(IntKind.i64.wrap (x_v41-1):Int).toNat*1),(bk,0+(x_v41:Int).toNat*1),(bo,0+(x_v41:Int).toNat*1)] ((tP 115 6 0)::(tI 114 x113)::(tI 110 x109)::(NA x_v41 q x_v40 s x_v21 f d g)) gi)=>?_
           obtain⟨bm,gj,aw⟩:=Am aw
           obtain⟨l5,l7,gb⟩:=Db gj
           refine CB 15 rfl (by kernel_rfl) (by decide) (rfl) (by kernel_rfl) fun K hK=>?_
           refine Dm 1 6 0 (0+(x_v41:Int).toNat*1) (.c (.int .i64 x109)) i0 j0 rfl rfl (by rfl) (by rfl) rfl rfl fb rfl (by kernel_rfl) (Cd (sz:=1) rfl a2 ea) fun lm i1 j1=>?_
           have da:Ag bq bm (z.take (0+(x_v41:Int).toNat*1+0)++([.int .i64 x109]:List Value)++z.drop (0+(x_v41:Int).toNat*1+0+1)):=by rw [gb]; exact Jc (sz:=1) rfl a2 ea (Ac:rep bq (x109:Int) _)
           have fq:x_v40.length=bm.length:=by rw [gb]; simp
           have i2:Kn 118 [(l,0),(m,0),(p,0),(y,0+(x_v21:Int).toNat*1),(bj,0+(IntKind.i64.wrap (x_v41-1):Int).toNat*1),(bk,0+(x_v41:Int).toNat*1),(bo,0+(x_v41:Int).toNat*1)] [(115,.one (.c (.ptr 6 0))),(114,.one (.c (.int .i64 x113))),(110,.one (.c (.int .i64 x109))),(105,.one (.c (.int .i64 (IntKind.i64.wrap (x_v41-1))))),(103,.one (.c (.slice q bm.length s))),(102,.one (.c (.int .i64 x_v41))),(101,.one (.c (.slice q bm.length s))),(17,.one (.c (.int .i64 x_v41))),(13,.one (.c (.slice q bm.length s))),(14,.one (.c (.int .i64 x_v21))),(9,.one (.c (.slice f d.length g)))] gi:=by rw [← fq]; exact i1
           have ei:Ai ⟨w,h,A3⟩ bq [(l,0),(m,0),(p,0),(y,0+(x_v21:Int).toNat*1),(bj,0+(IntKind.i64.wrap (x_v41-1):Int).toNat*1),(bk,0+(x_v41:Int).toNat*1),(bo,0+(x_v41:Int).toNat*1)] [⟨[.slice aa r_.legs.length am,.int .i64 r_.turn.lo,.int .i64 r_.turn.hi,.slice ah r_.buses.length aq,.slice ai r_.spares.length ar,.int .i64 r_.unit,.int .i64 r_.gap,.int .i64 r_.fr,.int .i64 r_.to_],some 28⟩,⟨[.slice ab a.holds.length aj,.slice ac a.turns.length ak,.slice ad a.spares.length al],some 32⟩,⟨[.slice ae t_.tm.length an,.slice af t_.turns.length ao,.slice ag t_.legs.length ap],some 38⟩,⟨[],none⟩,⟨[],none⟩,⟨[],none⟩,⟨[],none⟩] [⟨f,d.length,g,3,1,a1,0⟩,⟨q,bm.length,s,3,1,z.take (0+(x_v41:Int).toNat*1+0)++([.int .i64 x109]:List Value)++z.drop (0+(x_v41:Int).toNat*1+0+1),0⟩,⟨b6,1,1,3,1,([.int .i64 x78]:List Value),0⟩] lm:=by rw [← fq]; exact j1
           refine hK _ _ ?_
           refine Ao [] [(l,0),(m,0),(p,0),(y,0+(x_v21:Int).toNat*1),(bj,0+(IntKind.i64.wrap (x_v41-1):Int).toNat*1),(bk,0+(x_v41:Int).toNat*1),(bo,0+(x_v41:Int).toNat*1)] [⟨Eb aa r_ am ah aq ai ar,some 28⟩,⟨Ea ab a aj ac ak ad al,some 32⟩,⟨DZ ae t_ an af ao ag ap,some 38⟩,⟨[],none⟩,⟨[],none⟩,⟨[],none⟩,⟨[],none⟩] ?_
           obtain⟨x116,ex116,aw⟩:=Am aw
           obtain⟨f1,ga,kx⟩:=Ah ex116
           have eb:=Bi f1 ga
           obtain⟨l1,kl,g7⟩:=Dc (sz:=1) rfl da kx
           obtain rfl:=kl
           obtain⟨ck,fc⟩:=B6 ei (i:=1) rfl (b0:=0+(IntKind.i64.wrap (x_v41-1):Int).toNat*1) (Nat.lt_of_lt_of_le (Nat.lt_add_of_pos_right (by decide)) (Cd (sz:=1) rfl da eb))
           have j2:=ei.addPlc (b:=ck) (o:=0+(IntKind.i64.wrap (x_v41-1):Int).toNat*1) (cs:=[]) (fun j c hj=>by simp at hj) rfl (by kernel_rfl) (by kernel_rfl)
           have l3:∀ (e:AT) k c,([.int .i64 x116]:List SC)[k]? = some c→((z.take (0+(x_v41:Int).toNat*1+0)++([.int .i64 x109]:List Value)++z.drop (0+(x_v41:Int).toNat*1+0+1)))[0+(IntKind.i64.wrap (x_v41-1):Int).toNat*1+k]? = some (c.den e):=fun e k c hk=>g7 k _ (Aj hk)
           refine At 16 (IntKind.i64.wrap (x_v41-1)) [.int .i64 x116] (fun _ _ _ _ _ h=>h) rfl rfl (rfl) rfl (by decide) (by kernel_rfl) (by kernel_rfl) i2 ei.plOk (by rfl) (by rfl) (by rfl) fc (by rfl) f1 ga (by kernel_rfl) fun ey (i4:Kn 118 [(l,0),(m,0),(p,0),(y,0+(x_v21:Int).toNat*1),(bj,0+(IntKind.i64.wrap (x_v41-1):Int).toNat*1),(bk,0+(x_v41:Int).toNat*1),(bo,0+(x_v41:Int).toNat*1),(ck,0+(IntKind.i64.wrap (x_v41-1):Int).toNat*1)] [tP 116 7 0,tP 115 6 0,tI 114 x113,tI 110 x109,tI 105 (IntKind.i64.wrap (x_v41-1)),tS 103 q bm.length s,tI 102 x_v41,tS 101 q bm.length s,tI 17 x_v41,tS 13 q bm.length s,tI 14 x_v21,tS 9 f d.length g] ey)=>?_
           obtain⟨bv,gk,aw⟩:=Am aw
           obtain⟨l6,l8,gc⟩:=Db gk
           refine CB 17 rfl (by kernel_rfl) (by decide) (rfl) (by kernel_rfl) fun K hK=>?_
           refine Dm 1 7 0 (0+(IntKind.i64.wrap (x_v41-1):Int).toNat*1) (.c (.int .i64 x113)) i4 j2 rfl rfl (by rfl) (by rfl) rfl rfl fc rfl (by kernel_rfl) (Cd (sz:=1) rfl da eb) fun ln i5 j3=>?_
           have g8:Ag bq bv ((z.take (0+(x_v41:Int).toNat*1+0)++([.int .i64 x109]:List Value)++z.drop (0+(x_v41:Int).toNat*1+0+1)).take (0+(IntKind.i64.wrap (x_v41-1):Int).toNat*1+0)++([.int .i64 x113]:List Value)++(z.take (0+(x_v41:Int).toNat*1+0)++([.int .i64 x109]:List Value)++z.drop (0+(x_v41:Int).toNat*1+0+1)).drop (0+(IntKind.i64.wrap (x_v41-1):Int).toNat*1+0+1)):=by rw [gc]; exact Jc (sz:=1) rfl da eb (Ac:rep bq (x113:Int) _)
           have fs:bm.length=bv.length:=by rw [gc]; simp
           have i7:Kn 118 [(l,0),(m,0),(p,0),(y,0+(x_v21:Int).toNat*1),(bj,0+(IntKind.i64.wrap (x_v41-1):Int).toNat*1),(bk,0+(x_v41:Int).toNat*1),(bo,0+(x_v41:Int).toNat*1),(ck,0+(IntKind.i64.wrap (x_v41-1):Int).toNat*1)] [(116,.one (.c (.ptr 7 0))),(115,.one (.c (.ptr 6 0))),(114,.one (.c (.int .i64 x113))),(110,.one (.c (.int .i64 x109))),(105,.one (.c (.int .i64 (IntKind.i64.wrap (x_v41-1))))),(103,.one (.c (.slice q bv.length s))),(102,.one (.c (.int .i64 x_v41))),(101,.one (.c (.slice q bv.length s))),(17,.one (.c (.int .i64 x_v41))),(13,.one (.c (.slice q bv.length s))),(14,.one (.c (.int .i64 x_v21))),(9,.one (.c (.slice f d.length g)))] ey:=by rw [← fs]; exact i5
           have fo:Ai ⟨w,h,A3⟩ bq [(l,0),(m,0),(p,0),(y,0+(x_v21:Int).toNat*1),(bj,0+(IntKind.i64.wrap (x_v41-1):Int).toNat*1),(bk,0+(x_v41:Int).toNat*1),(bo,0+(x_v41:Int).toNat*1),(ck,0+(IntKind.i64.wrap (x_v41-1):Int).toNat*1)] [⟨[.slice aa r_.legs.length am,.int .i64 r_.turn.lo,.int .i64 r_.turn.hi,.slice ah r_.buses.length aq,.slice ai r_.spares.length ar,.int .i64 r_.unit,.int .i64 r_.gap,.int .i64 r_.fr,.int .i64 r_.to_],some 28⟩,⟨[.slice ab a.holds.length aj,.slice ac a.turns.length ak,.slice ad a.spares.length al],some 32⟩,⟨[.slice ae t_.tm.length an,.slice af t_.turns.length ao,.slice ag t_.legs.length ap],some 38⟩,⟨[],none⟩,⟨[],none⟩,⟨[],none⟩,⟨[],none⟩,⟨[],none⟩] [⟨f,d.length,g,3,1,a1,0⟩,⟨q,bv.length,s,3,1,(z.take (0+(x_v41:Int).toNat*1+0)++([.int .i64 x109]:List Value)++z.drop (0+(x_v41:Int).toNat*1+0+1)).take (0+(IntKind.i64.wrap (x_v41-1):Int).toNat*1+0)++([.int .i64 x113]:List Value)++(z.take (0+(x_v41:Int).toNat*1+0)++([.int .i64 x109]:List Value)++z.drop (0+(x_v41:Int).toNat*1+0+1)).drop (0+(IntKind.i64.wrap (x_v41-1):Int).toNat*1+0+1),0⟩,⟨b6,1,1,3,1,([.int .i64 x78]:List Value),0⟩] ln:=by rw [← fs]; exact j3
           refine hK _ _ ?_
           have i8:Kn 118 [(l,0),(m,0),(p,0),(y,0+(x_v21:Int).toNat*1),(bj,0+(IntKind.i64.wrap (x_v41-1):Int).toNat*1),(bk,0+(x_v41:Int).toNat*1),(bo,0+(x_v41:Int).toNat*1),(ck,0+(IntKind.i64.wrap (x_v41-1):Int).toNat*1)] [tI 17 x_v41,tS 13 q bv.length s,tI 14 x_v21,tS 9 f d.length g] ey:=i7.kp
           refine E2 (by kernel_rfl) (Aa (Rk 0 3 [tI 17 (IntKind.i64.wrap (x_v41-1)),tS 13 q bv.length s,tI 14 x_v21,tS 9 f d.length g] i8 fo fun m7 i9=>?_))
           refine wf ?_
           exact XY ep ⟨Nat.lt_succ_self _,XY bv ⟨IntKind.i64.wrap (x_v41-1),q,s,(z.take (0+(x_v41:Int).toNat*1+0)++([.int .i64 x109]:List Value)++z.drop (0+(x_v41:Int).toNat*1+0+1)).take (0+(IntKind.i64.wrap (x_v41-1):Int).toNat*1+0)++([.int .i64 x113]:List Value)++(z.take (0+(x_v41:Int).toNat*1+0)++([.int .i64 x109]:List Value)++z.drop (0+(x_v41:Int).toNat*1+0+1)).drop (0+(IntKind.i64.wrap (x_v41-1):Int).toNat*1+0+1),_,_,rfl,(i9.keep [17,13,14,9] (by rfl)).cut 4 (by kernel_rfl),fo.cutPl 4 (by kernel_rfl),XU a6 ed,g8,aw⟩⟩
          ·
           rw [dx,XV] at aw
           refine wp_exit ?_
           obtain rfl:=XZ aw
           exact XY q ⟨s,z,_,_,rfl,d8.kp,ca,XU a6 ed,a2⟩
       ·
        rintro _ nx ⟨cj,cl,di,ev,c4,rfl,ja,fp,jv,g0⟩
        refine Aa (Rk 0 3 [tI 14 (IntKind.i64.wrap (x_v21+1)),tS 13 cj ci.length cl,tS 9 f d.length g] ja fp fun m8 jb=>?_)
        refine wf ?_
        exact XY ch ⟨Nat.lt_succ_self _,XY ci ⟨IntKind.i64.wrap (x_v21+1),cj,cl,di,_,_,rfl,(jb.keep [14,13,9] (by rfl)).cut 3 (by kernel_rfl),(fp.cutRw 2).cutPl 3 (by kernel_rfl),XU a4 (XU a5 jv),g0,az⟩⟩
    ·
     rw [du,XV] at az
     refine wp_exit ?_
     obtain rfl:=XZ az
     exact XY u ⟨x,bn,_,_,rfl,d5.kp,cv,a4,br⟩
  ·
   rintro _ lp ⟨b5,b8,cy,er,c3,rfl,jc,ej,l4,d0⟩
   refine XT (Aa (Rk 0 2 [tS 8 b5 b4.length b8] jc ej fun m9 jd=>?_))
   refine wf (wp_ret ?_)
   obtain⟨e8,jw,ka,ek⟩:=ej.settle (i:=1) rfl
   replace d0:=d0.mono jw
   replace ek:Ai ⟨w,h,A3⟩ e8 [(l,0),(m,0),(p,0)] [⟨Eb aa r_ am ah aq ai ar,some 28⟩,⟨Ea ab a aj ac ak ad al,some 32⟩,⟨DZ ae t_ an af ao ag ap,some 38⟩] [⟨f,d.length,g,3,1,a1,0⟩,⟨b5,b4.length,b8,3,1,cy,(cy:List Value).length⟩] lp:=ek
   have j9:Az e8 b5 b8 b4:=⟨_,d0,ka,ej.rowCap (i:=1) rfl⟩
   obtain rfl:=XZ H
   exact rt (.one (.c (.slice b5 b4.length b8))) jd ek ⟨_,_,rfl,j9⟩
abbrev I9 (l:Option Addr) (t_:Au) (aa:Nat) (m:Option Addr) (ab:Nat) (p:Option Addr) (ac:Nat):List SC:=[.slice l t_.tm.length aa,.slice m t_.turns.length ab,.slice p t_.legs.length ac]
abbrev IA (g:Option Addr) (a:Aw) (u:Nat) (i:Option Addr) (x:Nat) (k:Option Addr) (y:Nat):List SC:=[.slice g a.holds.length u,.slice i a.turns.length x,.slice k a.spares.length y]
abbrev IB (f:Option Addr) (r_:Af) (z:Nat) (q:Option Addr) (ad:Nat) (s:Option Addr) (ae:Nat):List SC:=[.slice f r_.legs.length z,.int .i64 r_.turn.lo,.int .i64 r_.turn.hi,.slice q r_.buses.length ad,.slice s r_.spares.length ae,.int .i64 r_.unit,.int .i64 r_.gap,.int .i64 r_.fr,.int .i64 r_.to_]
set_option maxRecDepth 100000 in
set_option maxHeartbeats 4000000 in
theorem Qb (n:Nat) {h:Ae} {w:World} (hh:C9 h w) (r_:Af) {cs_r_:List Value} (hx_r_:rep h r_ cs_r_) (a:Aw) {cs_a:List Value} (hx_a:rep h a cs_a) (t_:Au) {cs_t_:List Value} (hx_t_:rep h t_ cs_t_) (stop:Int) {r:Int} (H:JW n r_ a t_ stop=some r) :
  Calls Tryz.prog 24 #[.agg cs_r_.toArray,.agg cs_a.toArray,.agg cs_t_.toArray,.int .i64 stop] w (CA (fun h v=>v=.int .i64 r) h w):=by
 obtain⟨_,_,rfl,⟨f,z,rfl,a5⟩,⟨_,_,rfl,⟨_,_,rfl,rfl,rfl⟩,⟨_,_,rfl,⟨q,ad,rfl,a6⟩,⟨_,_,rfl,⟨s,ae,rfl,a7⟩,⟨_,_,rfl,rfl,⟨_,_,rfl,rfl,⟨_,_,rfl,rfl,rfl⟩⟩⟩⟩⟩⟩⟩:=hx_r_
 obtain⟨_,_,rfl,⟨g,u,rfl,az⟩,⟨_,_,rfl,⟨i,x,rfl,a0⟩,⟨k,y,rfl,a1⟩⟩⟩:=hx_a
 obtain⟨_,_,rfl,⟨l,aa,rfl,a2⟩,⟨_,_,rfl,⟨m,ab,rfl,a3⟩,⟨p,ac,rfl,a4⟩⟩⟩:=hx_t_
 refine enter 36 [.agg (IB f r_ z q ad s ae),.agg (IA g a u i x k y),.agg (I9 l t_ aa m ab p ac),.c (.int .i64 stop)] Tryz.func24 rfl rfl rfl rfl fun t hk=>?_
 have hm:=Ai.begin h w hh
 unfold JW at H
 refine XT (Aa (wl fun K hK=>?_))
 refine wb (.agg (IB f r_ z q ad s ae)) hk hm fun af ch c3 (br:Kn 36 [(af,0)] [tP 4 0 0,tA 0 (IB f r_ z q ad s ae),tA 1 (IA g a u i x k y),tA 2 (I9 l t_ aa m ab p ac),tI 3 stop] ch) b5=>hK _ _ ?_
 refine wl fun K hK=>?_
 refine wb (.agg (IA g a u i x k y)) br b5 fun ah ci c4 (bs:Kn 36 [(af,0),(ah,0)] [tP 5 1 0,tP 4 0 0,tA 0 (IB f r_ z q ad s ae),tA 1 (IA g a u i x k y),tA 2 (I9 l t_ aa m ab p ac),tI 3 stop] ci) b6=>hK _ _ ?_
 refine wl fun K hK=>?_
 refine wb (.agg (I9 l t_ aa m ab p ac)) bs b6 fun ai cj c5 (bt:Kn 36 [(af,0),(ah,0),(ai,0)] [tP 6 2 0,tP 5 1 0,tP 4 0 0,tA 0 (IB f r_ z q ad s ae),tA 1 (IA g a u i x k y),tA 2 (I9 l t_ aa m ab p ac),tI 3 stop] cj) al=>hK _ _ ?_
 refine Rk 3 1 [tP 6 2 0,tP 5 1 0,tP 4 0 0,tI 3 stop] bt al fun ct bu=>?_
 refine wf (XT (Aa (Rk 0 4 [tI 15 stop,tA 14 (I9 l t_ aa m ab p ac),tA 13 (IA g a u i x k y),tA 12 (IB f r_ z q ad s ae)] bu al fun cu bv=>?_)))
 obtain⟨x16,ex16,H⟩:=Am H
 refine wl fun K hK=>?_
 refine wc [.agg (IB f r_ z q ad s ae),.agg (IA g a u i x k y),.agg (I9 l t_ aa m ab p ac),.c (.int .i64 stop)] bv al (Ky n al.has r_ ((Ab (Ad a5) (Ab (Ab Ac Ac) (Ab (Ad a6) (Ab (Ad a7) (Ab Ac (Ab Ac (Ab Ac Ac))))))):rep h r_ _) a ((Ab (Ad az) (Ab (Ad a0) (Ad a1))):rep h a _) t_ ((Ab (Ad a2) (Ab (Ad a3) (Ad a4))):rep h t_ _) stop ex16) fun c1 be c6 bh aj am=>?_
 replace a5:=a5.mono aj
 replace a6:=a6.mono aj
 replace a7:=a7.mono aj
 replace az:=az.mono aj
 replace a0:=a0.mono aj
 replace a1:=a1.mono aj
 replace a2:=a2.mono aj
 replace a3:=a3.mono aj
 replace a4:=a4.mono aj
 obtain⟨d,e,rfl,an⟩:=bh
 refine⟨.one (.c (.slice d x16.length e)),rfl,fun ck (bw:Kn 36 [(af,0),(ah,0),(ai,0)] [tS 16 d x16.length e,tI 15 stop,tA 14 (I9 l t_ aa m ab p ac),tA 13 (IA g a u i x k y),tA 12 (IB f r_ z q ad s ae)] ck)=>hK _ _ ?_⟩
 refine Rk 5 1 [tS 9 d x16.length e] bw am fun cv bx=>?_
 refine wf (XT (Aa (Rk 0 1 [tI 10 0,tS 9 d x16.length e] bx am fun cw bz=>?_)))
 refine wf (XT (XT (Aa (Rk 0 1 [tI 11 1,tI 10 0,tS 9 d x16.length e] bz am fun cx b0=>?_))))
 refine wf ?_
 obtain⟨ao,bd,H⟩:=Am H
 refine Ap (fun a' w'=>∃ (ba:Array Value)(aq:Ae),a' = ⟨ba,[]⟩∧Kn 36 [(af,0),(ah,0),(ai,0)] [tI 10 ao] ba∧Ai ⟨w,h,A3⟩ aq [(af,0),(ah,0),(ai,0)] [⟨IB f r_ z q ad s ae,some 28⟩,⟨IA g a u i x k y,some 32⟩,⟨I9 l t_ aa m ab p ac,some 38⟩] [] w'∧Ae.le be aq) ?_ ?_
 ·
  refine wp_block ?_
  refine An (fun cf a' w'=>∃ (x_v10:Int)(x_v11:Int)(bb:Array Value)(ar:Ae),a' = ⟨bb,[]⟩∧Kn 36 [(af,0),(ah,0),(ai,0)] [tI 11 x_v10,tI 10 x_v11,tS 9 d x16.length e] bb∧Ai ⟨w,h,A3⟩ ar [(af,0),(ah,0),(ai,0)] [⟨IB f r_ z q ad s ae,some 28⟩,⟨IA g a u i x k y,some 32⟩,⟨I9 l t_ aa m ab p ac,some 38⟩] [] w'∧Ae.le be ar∧E5 cf x16 x_v10 x_v11=some ao) n ?_ ?_
  ·
   exact XY 1 ⟨0,_,_,rfl,b0.kp,am,Ae.le_refl _,bd⟩
  ·
   rintro a8 _ c7 ⟨x_v10,x_v11,bb,ar,rfl,b1,ak,aw,ag⟩
   clear bd
   obtain _ | a8:=a8
   ·
    rw [E5] at ag; cases ag
   rw [E5] at ag
   replace an:=an.mono aw
   refine XT (XT (Aa (Rk 0 4 [tB 20 (decide (x_v10<((x16.length:Nat):Int))),tI 11 x_v10,tI 10 x_v11,tS 9 d x16.length e] b1 ak fun cy av=>?_)))
   refine wf (wC (decide (x_v10<((x16.length:Nat):Int))) av (fun au=>?_) (fun au=>?_))
   ·
    rw [au,XW] at ag
    refine wp_skip (XT (wp_block (Al (by kernel_rfl) ?_)))
    replace ak:=ak.drew
    refine Ao [] [(af,0),(ah,0),(ai,0)] [⟨IB f r_ z q ad s ae,some 28⟩,⟨IA g a u i x k y,some 32⟩,⟨I9 l t_ aa m ab p ac,some 38⟩] ?_
    refine Dr [0,1,2] [2,1,0] [tI 25 x_v10,tS 24 d x16.length e,tI 23 x_v11,tI 11 x_v10,tS 9 d x16.length e] av ak fun cz b2=>?_
    obtain⟨x26,ex26,ag⟩:=Am ag
    obtain⟨b8,ca,ce⟩:=Ah ex26
    obtain⟨ap,a9,cm,bj,cc,bl⟩:=an.get (by decide) ce
    obtain rfl:=cc
    have ay:=ak.addPlc (b:=ap) (o:=a9+(x_v10:Int).toNat*1) (cs:=[.int .i64 x26]) (fun j c hj=>bl j _ (Aj hj)) rfl (by kernel_rfl) (by kernel_rfl)
    refine At 3 (x_v10) [.int .i64 x26] (fun _ _ _ _ _ h=>h) rfl rfl (rfl) rfl (by decide) (by kernel_rfl) (by kernel_rfl) b2 ak.plOk (by rfl) (by rfl) (by rfl) bj (by rfl) b8 ca (by kernel_rfl) fun cl (b3:Kn 36 [(af,0),(ah,0),(ai,0),(ap,a9+(x_v10:Int).toNat*1)] [tP 26 3 0,tI 25 x_v10,tS 24 d x16.length e,tI 23 x_v11,tI 11 x_v10,tS 9 d x16.length e] cl)=>?_
    refine Dr [4,5,6,7] (dn 7) [tI 30 (IntKind.i64.wrap (x_v10-1)),tS 28 d x16.length e,tI 27 x26,tI 23 x_v11,tI 11 x_v10,tS 9 d x16.length e] b3 ay fun c0 b4=>?_
    obtain⟨x31,ex31,ag⟩:=Am ag
    obtain⟨b7,b9,cd⟩:=Ah ex31
    obtain⟨bc,bg,cn,bi,cb,bk⟩:=an.get (by decide) cd
    obtain rfl:=cb
    have ax:=ay.addPlc (b:=bc) (o:=bg+(IntKind.i64.wrap (x_v10-1):Int).toNat*1) (cs:=[.int .i64 x31]) (fun j c hj=>bk j _ (Aj hj)) rfl (by kernel_rfl) (by kernel_rfl)
    refine At 8 (IntKind.i64.wrap (x_v10-1)) [.int .i64 x31] (fun _ _ _ _ _ h=>h) rfl rfl (rfl) rfl (by decide) (by kernel_rfl) (by kernel_rfl) b4 ay.plOk (by rfl) (by rfl) (by rfl) bi (by rfl) b7 b9 (by kernel_rfl) fun cg (bm:Kn 36 [(af,0),(ah,0),(ai,0),(ap,a9+(x_v10:Int).toNat*1),(bc,bg+(IntKind.i64.wrap (x_v10-1):Int).toNat*1)] [tP 31 4 0,tI 30 (IntKind.i64.wrap (x_v10-1)),tS 28 d x16.length e,tI 27 x26,tI 23 x_v11,tI 11 x_v10,tS 9 d x16.length e] cg)=>?_
    refine Dr [9,10,11,12] (dn 12) [tI 10 (if (IntKind.i64.wrap (x26-x31))>x_v11 then(IntKind.i64.wrap (x26-x31)) else x_v11),tI 11 x_v10,tS 9 d x16.length e] bm ax fun cp bn=>?_
    refine Ay (by kernel_rfl) (Aa (Rk 0 3 [tI 11 (IntKind.i64.wrap (x_v10+1)),tI 10 (if (IntKind.i64.wrap (x26-x31))>x_v11 then(IntKind.i64.wrap (x26-x31)) else x_v11),tS 9 d x16.length e] bn ax fun cq bo=>?_))
    refine wf ?_
    exact XY a8 ⟨Nat.lt_succ_self _,XY (IntKind.i64.wrap (x_v10+1)) ⟨(if (IntKind.i64.wrap (x26-x31))>x_v11 then(IntKind.i64.wrap (x26-x31)) else x_v11),_,_,rfl,(bo.keep [11,10,9] (by rfl)).cut 3 (by kernel_rfl),ax.cutPl 3 (by kernel_rfl),aw,ag⟩⟩
   ·
    rw [au,XV] at ag
    refine wp_exit ?_
    obtain rfl:=XZ ag
    exact XY _ ⟨_,rfl,av.kp,ak,aw⟩
 ·
  rintro _ c2 ⟨ba,aq,rfl,bp,bf,co⟩
  refine XT (Aa (Rk 0 2 [tI 8 ao] bp bf fun cr bq=>?_))
  refine wf (wp_ret ?_)
  obtain rfl:=XZ H
  exact rt (.one (.c (.int .i64 ao))) bq bf rfl
end Go.Proofs.YtokchpjijlebiaaGreat
