/- Each call computes its plain function. -/
import Derived.Test.YtokchpjijlebiaaProg
import Derived.Test.YtokchpjijlebiaaBGP0
import Derived.Test.YtokchpjijlebiaaBGWP
import Derived.Test.YtokchpjijlebiaaBGWR
import Derived.Test.YtokchpjijlebiaaBGWU
set_option linter.all false
namespace Go.Proofs.Ytokchpjijlebiaa
open Go Go.RowKit
open Rep (rep)
open KRep (kv)
open VRep (rv)
abbrev El (au:Option Addr) (x59:A5) (av:Nat):List SC:=[.slice au x59.legs.length av,.int .i64 x59.turn]
abbrev Ht (bc:Option Addr) (x80:A5) (be:Nat):List SC:=[.slice bc x80.legs.length be,.int .i64 x80.turn]
abbrev Be (x52:Bi):List SC:=[.int .i64 x52.stop,.int .i64 x52.tm,.int .i64 x52.turned]
abbrev Gk (x76:Bi):List SC:=[.int .i64 x76.stop,.int .i64 x76.tm,.int .i64 x76.turned]
abbrev PB (d f ae af:Nat) (x_v21:Int) (ag ah:Nat):Ba:=[(d,0),(f,0),(ae,af+(x_v21:Int).toNat*3),(ag,0),(ah,0)]
abbrev JR (d f ae af:Nat) (x_v21:Int) (ag ah ai aj:Nat):Ba:=[(d,0),(f,0),(ae,af+(x_v21:Int).toNat*3),(ag,0),(ah,0),(ai,aj+(x_v21:Int).toNat*2)]
abbrev SJ (d f ae af:Nat) (x_v21:Int) (ag ah ai aj cn:Nat) (x62:Int):Ba:=[(d,0),(f,0),(ae,af+(x_v21:Int).toNat*3),(ag,0),(ah,0),(ai,aj+(x_v21:Int).toNat*2),(cn,0+(x62:Int).toNat*1)]
abbrev KB (d f ae af:Nat) (x_v21:Int) (ag ah ai aj a0 a2 a4 a5:Nat):Ba:=[(d,0),(f,0),(ae,af+(x_v21:Int).toNat*3),(ag,0),(ah,0),(ai,aj+(x_v21:Int).toNat*2),(a0,a2+(x_v21:Int).toNat*3),(a4,a5+(x_v21:Int).toNat*2)]
abbrev Em (g:Option Addr) (w_:B3) (p:Nat) (l:Option Addr) (q:Nat) (o:Option Addr) (u:Nat):List SC:=[.slice g w_.route.legs.length p,.int .i64 w_.route.turn.lo,.int .i64 w_.route.turn.hi,.slice l w_.route.buses.length q,.slice o w_.route.spares.length u,.int .i64 w_.route.unit,.int .i64 w_.route.gap,.int .i64 w_.route.fr,.int .i64 w_.route.to_]
abbrev O2 (d f ae af:Nat) (x_v21:Int) (ag ah ai aj a0 a2 a4 a5 b3:Nat) (x83:Int) (ch:Nat):Ba:=[(d,0),(f,0),(ae,af+(x_v21:Int).toNat*3),(ag,0),(ah,0),(ai,aj+(x_v21:Int).toNat*2),(a0,a2+(x_v21:Int).toNat*3),(a4,a5+(x_v21:Int).toNat*2),(b3,0+(x83:Int).toNat*1),(ch,0+(x83:Int).toNat*1)]
abbrev AK (g:Option Addr) (w_:B3) (p:Nat) (l:Option Addr) (q:Nat) (o:Option Addr) (u:Nat) (y:Option Addr) (ab:Nat) (z:Option Addr) (ac:Nat) (aa:Option Addr) (ad:Nat):List SC:=[.slice g w_.route.legs.length p,.int .i64 w_.route.turn.lo,.int .i64 w_.route.turn.hi,.slice l w_.route.buses.length q,.slice o w_.route.spares.length u,.int .i64 w_.route.unit,.int .i64 w_.route.gap,.int .i64 w_.route.fr,.int .i64 w_.route.to_,.slice y w_.acts.holds.length ab,.slice z w_.acts.turns.length ac,.slice aa w_.acts.spares.length ad]
abbrev Db (x35:(List Bi)×(List A5)) (am:Option Addr) (an:Nat) (ap:Option Addr) (x44:(List Bi)×(List A5)) (ar:Nat) (ao:Option Addr) (aq:Nat) (ak:Option Addr) (al:Nat):TM:=[tI 48 ((x35.1.length:Nat):Int),tS 47 am x35.1.length an,tS 8 ap x44.2.length ar,tS 7 ao x44.1.length aq,tS 6 ak x35.2.length al,tP 3 1 0,tP 1 0 0]
set_option maxRecDepth 100000 in
set_option maxHeartbeats 4000000 in
theorem Fk (n:Nat) {h:Ae} {w:World} (hh:Dn h w) (w_:B3) {cs_w_:List Value} (hx_w_:rep h w_ cs_w_) {r:List (EY Int Rg)} (H:BX n w_=some r) :
  Calls Try.prog 65 #[.agg cs_w_.toArray] w (Dp (fun h v=>∃ a c,v=.slice a r.length c∧A6 h a c r) h w):=by
 obtain⟨_,_,rfl,⟨_,_,rfl,⟨g,p,rfl,aw⟩,⟨_,_,rfl,⟨_,_,rfl,rfl,rfl⟩,⟨_,_,rfl,⟨l,q,rfl,ax⟩,⟨_,_,rfl,⟨o,u,rfl,ay⟩,⟨_,_,rfl,rfl,⟨_,_,rfl,rfl,⟨_,_,rfl,rfl,rfl⟩⟩⟩⟩⟩⟩⟩,⟨_,_,rfl,⟨y,ab,rfl,bh⟩,⟨_,_,rfl,⟨z,ac,rfl,bi⟩,⟨aa,ad,rfl,bj⟩⟩⟩⟩:=hx_w_
 refine Um (e:=[]) 101 [.agg (AK g w_ p l q o u y ab z ac aa ad)] Try.func65 rfl rfl rfl rfl fun t hk=>?_
 have hm:=Ah.begin h w hh
 unfold BX at H
 refine XT (Aa (wl fun K hK=>?_))
 refine wb (.agg (AK g w_ p l q o u y ab z ac aa ad)) hk hm fun d o2 pj (la:Kn 101 [(d,0)] [tP 1 0 0,tA 0 (AK g w_ p l q o u y ab z ac aa ad)] o2) (er:Ah ⟨w,h,Aj⟩ h [(d,0)] [⟨AK g w_ p l q o u y ab z ac aa ad,some 115⟩] [] pj)=>hK _ _ ?_
 refine Rk 1 1 [tP 1 0 0] la er fun qr ld=>?_
 refine wf (XT (Aa (Rk 0 2 [tA 16 (Em g w_ p l q o u),tP 1 0 0] ld er fun qv lj=>?_)))
 obtain⟨x17,ex17,H⟩:=Aq H
 refine wl fun K hK=>?_
 refine wc [.agg (Em g w_ p l q o u)] lj er (CE n er.has w_.route ((Ab (Ad aw) (Ab (Ab Ac Ac) (Ab (Ad ax) (Ab (Ad ay) (Ab Ac (Ab Ac (Ab Ac Ac))))))):rep h w_.route _) ex17) fun ri c9 rr jl de nf=>?_
 replace aw:=aw.mono de
 replace ax:=ax.mono de
 replace ay:=ay.mono de
 replace bh:=bh.mono de
 replace bi:=bi.mono de
 replace bj:=bj.mono de
 obtain rfl:=jl
 refine⟨.one (.c (.int .i64 x17)),rfl,fun o7 (lx:Kn 101 [(d,0)] [tI 17 x17,tA 16 (Em g w_ p l q o u),tP 1 0 0] o7)=>hK _ _ ?_⟩
 obtain⟨x18,ex18,H⟩:=Aq H
 obtain⟨n1,n6,ig⟩:=So ex18
 refine wl fun K hK=>?_
 refine L0 122 1 8 [.map none] (x17) lx nf rfl rfl (by decide) (by rfl) (by kernel_rfl) (by kernel_rfl) (by rfl) n1 n6 (by decide) fun b5 pc po (g0:Kn 101 [(d,0)] [(18,.one (.c (.slice b5 ((x17:Int).toNat) ((x17:Int).toNat)))),(17,.one (.c (.int .i64 x17))),(16,.one (.agg [.slice g w_.route.legs.length p,.int .i64 w_.route.turn.lo,.int .i64 w_.route.turn.hi,.slice l w_.route.buses.length q,.slice o w_.route.spares.length u,.int .i64 w_.route.unit,.int .i64 w_.route.gap,.int .i64 w_.route.fr,.int .i64 w_.route.to_])),(1,.one (.c (.ptr 0 0)))] pc) (fu:Ah ⟨w,h,Aj⟩ c9 [(d,0)] [⟨[.slice g w_.route.legs.length p,.int .i64 w_.route.turn.lo,.int .i64 w_.route.turn.hi,.slice l w_.route.buses.length q,.slice o w_.route.spares.length u,.int .i64 w_.route.unit,.int .i64 w_.route.gap,.int .i64 w_.route.fr,.int .i64 w_.route.to_,.slice y w_.acts.holds.length ab,.slice z w_.acts.turns.length ac,.slice aa w_.acts.spares.length ad],some 115⟩] [⟨b5,(x17:Int).toNat,(x17:Int).toNat,122,1,List.flatten (List.replicate (x17:Int).toNat ([.map none]:List Value)),0⟩] po)=>?_
 obtain⟨e5,j7,kk⟩:∃ bs:List (Option Nat),List.flatten (List.replicate (x17:Int).toNat ([.map none]:List Value))=List.map Value.map bs∧AU c9 ⟨w,h,Aj⟩ bs x18:=⟨List.replicate (x17:Int).toNat none,TA _,by rw [ig]; exact AU.nils _⟩
 have mt:(x17:Int).toNat=x18.length:=by rw [ig]; simp
 rw [j7] at fu
 rw [mt] at g0 fu
 refine hK _ _ ?_
 refine wl fun K hK=>?_
 refine wa [.slice none 0 0] g0 fu fun f il pp (mc:Kn 101 [(d,0),(f,0)] [tP 3 1 0,tS 18 b5 x18.length x18.length,tI 17 x17,tA 16 (Em g w_ p l q o u),tP 1 0 0] il) (nj:Ah ⟨w,h,Aj⟩ c9 [(d,0),(f,0)] [⟨AK g w_ p l q o u y ab z ac aa ad,some 115⟩,⟨[.slice none 0 0],some 123⟩] [⟨b5,x18.length,x18.length,122,1,List.map Value.map e5,0⟩] pp)=>hK _ _ ?_
 refine wl fun K hK=>?_
 refine G2 1 0 (.c (.slice b5 x18.length x18.length)) [.slice b5 x18.length x18.length] mc nj fun pq mg (hl:Ah ⟨w,h,Aj⟩ c9 [(d,0),(f,0)] [⟨AK g w_ p l q o u y ab z ac aa ad,some 115⟩,⟨[.slice b5 x18.length x18.length],some 123⟩] [⟨b5,x18.length,x18.length,122,1,List.map Value.map e5,0⟩] pq)=>hK _ _ ?_
 have mi:Kn 101 [(d,0),(f,0)] [tP 3 1 0,tP 1 0 0] il:=mg.kp
 refine wf (XT (XT (Aa (Rk 0 3 [tI 21 0,tI 20 ((x18.length:Nat):Int),tP 3 1 0,tP 1 0 0] mi hl fun q9 mn=>?_))))
 refine wf ?_
 obtain⟨c2,gk,H⟩:=Aq H
 refine Av (fun a' w'=>∃ (c6:Option Addr)(c8:Nat)(d9:List (Option Nat))(c5:Fr)(ea:List Nat)(f5:Array Value)(cr:Ae),a' = ⟨f5,List.map Qd ea⟩∧Kn 101 [(d,0),(f,0)] [tP 3 1 0,tP 1 0 0] f5∧Ah c5 cr [(d,0),(f,0)] [⟨AK g w_ p l q o u y ab z ac aa ad,some 115⟩,⟨[.slice c6 c2.length c8],some 123⟩] [⟨c6,c2.length,c8,122,1,List.map Value.map d9,0⟩] w'∧Ae.le c9 cr∧AU cr c5 d9 c2∧Fr.Of w h c5∧F6 c5 ea) ?_ ?_
 ·
  refine wp_block ?_
  refine Ar (fun oy a' w'=>∃ (x_v10:List (Option (List (Int×Rg))))(x_v11:Int)(a6:Option Addr)(a7:Nat)(bg:List (Option Nat))(b2:Fr)(dk:List Nat)(f6:Array Value)(bx:Ae),a' = ⟨f6,List.map Qd dk⟩∧Kn 101 [(d,0),(f,0)] [tI 21 x_v11,tI 20 ((x18.length:Nat):Int),tP 3 1 0,tP 1 0 0] f6∧Ah b2 bx [(d,0),(f,0)] [⟨AK g w_ p l q o u y ab z ac aa ad,some 115⟩,⟨[.slice a6 x_v10.length a7],some 123⟩] [⟨a6,x_v10.length,a7,122,1,List.map Value.map bg,0⟩] w'∧Ae.le c9 bx∧AU bx b2 bg x_v10∧Fr.Of w h b2∧F6 b2 dk∧Bl oy x18 x_v10 x_v11=some c2) n ?_ ?_
  ·
   exact XY x18 ⟨0,b5,x18.length,e5,⟨w,h,Aj⟩,([]:List Nat),_,_,rfl,mn.kp,hl,Ae.le_refl _,kk,⟨rfl,rfl⟩,F6.nil _,gk⟩
  ·
   rintro f0 _ ir ⟨x_v10,x_v11,a6,a7,bg,b2,dk,f6,bx,rfl,mp,dr,g2,dc,hz,hs,bz⟩
   clear gk
   obtain _ | f0:=f0
   ·
    rw [Bl] at bz; cases bz
   rw [Bl] at bz
   refine XT (Aa (Rk 0 1 [tB 22 (decide (x_v11<((x18.length:Nat):Int))),tI 21 x_v11,tI 20 ((x18.length:Nat):Int),tP 3 1 0,tP 1 0 0] mp dr fun rb fk=>?_))
   refine wf (XT (wC (decide (x_v11<((x18.length:Nat):Int))) fk (fun fd=>?_) (fun fd=>?_)))
   ·
    rw [fd,XW] at bz
    refine wp_skip (XT (wp_block (XT (Aa (Rk 0 2 [tI 4 x_v11,tI 21 x_v11,tI 20 ((x18.length:Nat):Int),tP 3 1 0,tP 1 0 0] fk dr fun rc mq=>?_)))))
    refine wf (Aa (Rk 0 2 [tI 25 x_v11,tS 24 a6 x_v10.length a7,tI 21 x_v11,tI 20 ((x18.length:Nat):Int),tP 3 1 0,tP 1 0 0] mq dr fun rd mr=>?_))
    refine wl fun K hK=>?_
    refine NV mr dr rfl rfl (by decide) fun bl pi jy (ku:Kn 101 [(d,0),(f,0)] [(26,.one (.c (.map (some bl)))),tI 25 x_v11,tS 24 a6 x_v10.length a7,tI 21 x_v11,tI 20 ((x18.length:Nat):Int),tP 3 1 0,tP 1 0 0] pi) (g9:Ah (Fr.put b2 bl (some (.map #[] 0))) bx [(d,0),(f,0)] [⟨AK g w_ p l q o u y ab z ac aa ad,some 115⟩,⟨[.slice a6 x_v10.length a7],some 123⟩] [⟨a6,x_v10.length,a7,122,1,List.map Value.map bg,0⟩] (World.alloc ir (.map #[] 0)))=>?_
    have jd:DW bx (#[]:Array MapEntry).toList 0 ([]:List (Int×Rg)):=DW.nil
    refine hK _ _ ?_
    obtain⟨x27,ex27,bz⟩:=Aq bz
    obtain⟨h0,h5,qh⟩:=Ai ex27
    have en:=Cs h0 h5
    obtain⟨qi,nu⟩:∃ ob,bg[(x_v11:Int).toNat]? = some ob:=⟨_,List.getElem?_eq_getElem (by rw [dc.len]; exact en)⟩
    obtain⟨cg,gr⟩:=CR g9 (i:=0) rfl (b0:=0+(x_v11:Int).toNat*1) (by show _<(List.map Value.map bg).length; rw [List.length_map,dc.len]; omega)
    have m6:Ah (Fr.put b2 bl (some (.map #[] 0))) bx [(d,0),(f,0),(cg,0+(x_v11:Int).toNat*1)] [⟨AK g w_ p l q o u y ab z ac aa ad,some 115⟩,⟨[.slice a6 x_v10.length a7],some 123⟩,⟨[],none⟩] [⟨a6,x_v10.length,a7,122,1,List.map Value.map bg,0⟩] (World.alloc ir (.map #[] 0)):=g9.addPlc (cs:=[]) (fun j c hj=>by simp at hj) rfl (by kernel_rfl) (by kernel_rfl)
    have qa:=LC nu
    refine Bc 3 (x_v11) rfl rfl (rfl) rfl (by decide) ku (by rfl) (by rfl) (by rfl) gr (by rfl) h0 h5 (by kernel_rfl) fun f2 (kv:Kn 101 [(d,0),(f,0),(cg,0+(x_v11:Int).toNat*1)] [tP 27 2 0,(26,.one (.c (.map (some bl)))),tI 25 x_v11,tS 24 a6 x_v10.length a7,tI 21 x_v11,tI 20 ((x18.length:Nat):Int),tP 3 1 0,tP 1 0 0] f2)=>?_
    obtain⟨c3,i5,bz⟩:=Aq bz
    obtain⟨qf,qg,ic⟩:=F4 i5
    refine wl fun K hK=>?_
    refine Gf 0 2 0 (0+(x_v11:Int).toNat*1) (.c (.map (some bl))) kv m6 rfl rfl (by rfl) (by rfl) rfl rfl gr rfl (by kernel_rfl) (by show 0+(x_v11:Int).toNat*1+0+1≤(List.map Value.map bg).length; rw [List.length_map,dc.len]; have:=en; omega) fun ex kw (m7:Ah (Fr.put b2 bl (some (.map #[] 0))) bx [(d,0),(f,0),(cg,0+(x_v11:Int).toNat*1)] [⟨AK g w_ p l q o u y ab z ac aa ad,some 115⟩,⟨[.slice a6 x_v10.length a7],some 123⟩,⟨[],none⟩] [⟨a6,x_v10.length,a7,122,1,(List.map Value.map bg).take (0+(x_v11:Int).toNat*1+0)++([.map (some bl)]:List Value)++(List.map Value.map bg).drop (0+(x_v11:Int).toNat*1+0+1),0⟩] ex)=>?_
    have oj:=Uq (bs:=bg) (k:=(x_v11:Int).toNat) bl (by rw [dc.len]; exact en)
    have m8:Ah (Fr.put b2 bl (some (.map #[] 0))) bx [(d,0),(f,0),(cg,0+(x_v11:Int).toNat*1)] [⟨[.slice g w_.route.legs.length p,.int .i64 w_.route.turn.lo,.int .i64 w_.route.turn.hi,.slice l w_.route.buses.length q,.slice o w_.route.spares.length u,.int .i64 w_.route.unit,.int .i64 w_.route.gap,.int .i64 w_.route.fr,.int .i64 w_.route.to_,.slice y w_.acts.holds.length ab,.slice z w_.acts.turns.length ac,.slice aa w_.acts.spares.length ad],some 115⟩,⟨[.slice a6 x_v10.length a7],some 123⟩,⟨[],none⟩] [⟨a6,x_v10.length,a7,122,1,List.map Value.map (bg.set (x_v11:Int).toNat (some bl)),0⟩] ex:=by rw [← oj]; exact m7
    have ht:x_v10.length=c3.length:=by rw [ic]; simp
    obtain⟨ez,nv,nn,gw,m9⟩:=AU.take dc m8 jy jd en hz hs
    rw [← ic] at gw
    have kx:Kn 101 [(d,0),(f,0),(cg,0+(x_v11:Int).toNat*1)] [(27,.one (.c (.ptr 2 0))),(26,.one (.c (.map (some bl)))),(25,.one (.c (.int .i64 x_v11))),(24,.one (.c (.slice a6 c3.length a7))),(21,.one (.c (.int .i64 x_v11))),(20,.one (.c (.int .i64 ((x18.length:Nat):Int)))),(3,.one (.c (.ptr 1 0))),(1,.one (.c (.ptr 0 0)))] f2:=by rw [← ht]; exact kw
    have eo:Ah ez bx [(d,0),(f,0),(cg,0+(x_v11:Int).toNat*1)] [⟨[.slice g w_.route.legs.length p,.int .i64 w_.route.turn.lo,.int .i64 w_.route.turn.hi,.slice l w_.route.buses.length q,.slice o w_.route.spares.length u,.int .i64 w_.route.unit,.int .i64 w_.route.gap,.int .i64 w_.route.fr,.int .i64 w_.route.to_,.slice y w_.acts.holds.length ab,.slice z w_.acts.turns.length ac,.slice aa w_.acts.spares.length ad],some 115⟩,⟨[.slice a6 c3.length a7],some 123⟩,⟨[],none⟩] [⟨a6,c3.length,a7,122,1,List.map Value.map (bg.set (x_v11:Int).toNat (some bl)),0⟩] ex:=by rw [← ht]; exact m9
    replace eo:Ah ez bx [(d,0),(f,0),(cg,0+(x_v11:Int).toNat*1)] [⟨AK g w_ p l q o u y ab z ac aa ad,some 115⟩,⟨[.slice a6 c3.length a7],some 123⟩,⟨[],none⟩] [⟨a6,c3.length,a7,122,1,List.map Value.map (bg.set (x_v11:Int).toNat (some bl)),0⟩] ex:=eo
    refine hK _ _ ?_
    have ky:Kn 101 [(d,0),(f,0),(cg,0+(x_v11:Int).toNat*1)] [tI 21 x_v11,tI 20 ((x18.length:Nat):Int),tP 3 1 0,tP 1 0 0] f2:=kx.kp
    refine wf (Aa (Rk 0 2 [tI 21 (IntKind.i64.wrap (x_v11+1)),tI 20 ((x18.length:Nat):Int),tP 3 1 0,tP 1 0 0] ky eo fun ql kz=>?_))
    refine wf ?_
    exact XY f0 ⟨Nat.lt_succ_self _,XY c3 ⟨IntKind.i64.wrap (x_v11+1),a6,a7,bg.set (x_v11:Int).toNat (some bl),ez,dk,_,_,rfl,(kz.keep [21,20,3,1] (by rfl)).cut 2 (by kernel_rfl),eo.cutPl 2 (by kernel_rfl),g2,gw,nv,nn,bz⟩⟩
   ·
    rw [fd,XV] at bz
    refine wp_exit ?_
    obtain rfl:=XZ bz
    exact XY a6 ⟨a7,bg,b2,dk,_,_,rfl,fk.kp,dr,g2,dc,hz,hs⟩
 ·
  rintro _ rm ⟨c6,c8,d9,c5,ea,f5,cr,rfl,k0,dm,dd,fg,ny,nr⟩
  replace aw:=aw.mono dd
  replace ax:=ax.mono dd
  replace ay:=ay.mono dd
  refine XT (An (by kernel_rfl) ?_)
  replace dm:=dm.drew
  refine Ao [] [(d,0),(f,0)] [⟨AK g w_ p l q o u y ab z ac aa ad,some 115⟩,⟨[.slice c6 c2.length c8],some 123⟩] ?_
  refine Dr [0,1,2,3] (dn 3) [tA 33 [.func (.func 68) #[] #[]],tA 32 (Em g w_ p l q o u),tA 30 (AK g w_ p l q o u y ab z ac aa ad),tP 3 1 0,tP 1 0 0] k0 dm fun qm k1=>?_
  obtain⟨x34,ex34,H⟩:=Aq H
  refine Dl 4 fun K hK=>?_
  refine wc [.agg (Em g w_ p l q o u),.agg [.func (.func 68) #[] #[]]] k1 dm (FI n dm.has w_.route ((Ab (Ad aw) (Ab (Ab Ac Ac) (Ab (Ad ax) (Ab (Ad ay) (Ab Ac (Ab Ac (Ab Ac Ac))))))):rep cr w_.route _) (Rw.mk (fun(y0:Rg)=>Ce n y0)) (⟨_,_,_,rfl,(show UK cr (.func (.func 68) #[] #[]) (fun(y0:Rg)=>Ce n y0) from fun h2 w2 hle hh y0 cs0 hy0 r H=>⟨68,_,_,rfl,fun _ _=>by kernel_rfl,JI n hh y0 hy0 H⟩)⟩:rep cr (Rw.mk (fun(y0:Rg)=>Ce n y0)) _) ex34) fun re gn rn jg cv fn=>?_
  replace aw:=aw.mono cv
  replace ax:=ax.mono cv
  replace ay:=ay.mono cv
  replace bh:=bh.mono (XU dd cv)
  replace bi:=bi.mono (XU dd cv)
  replace bj:=bj.mono (XU dd cv)
  obtain⟨_,rfl,⟨_,_,rfl,⟨dv,eb,rfl,n9⟩,⟨_,_,rfl,⟨dw,ec,rfl,oa⟩,⟨dx,ed,rfl,oc⟩⟩⟩⟩:=jg
  refine⟨.one (.agg [.slice dv x34.tm.length eb,.slice dw x34.turns.length ec,.slice dx x34.legs.length ed]),rfl,fun oz (k2:Kn 101 [(d,0),(f,0)] [tA 34 [.slice dv x34.tm.length eb,.slice dw x34.turns.length ec,.slice dx x34.legs.length ed],tA 33 [.func (.func 68) #[] #[]],tA 32 (Em g w_ p l q o u),tA 30 (AK g w_ p l q o u y ab z ac aa ad),tP 3 1 0,tP 1 0 0] oz)=>hK _ _ fn.plOk ?_⟩
  obtain⟨x35,ex35,H⟩:=Aq H
  refine Dl 5 fun K hK=>?_
  refine wc [.agg (AK g w_ p l q o u y ab z ac aa ad),.agg [.slice dv x34.tm.length eb,.slice dw x34.turns.length ec,.slice dx x34.legs.length ed]] k2 fn (Fh n fn.has w_ ((Ab (Ab (Ad aw) (Ab (Ab Ac Ac) (Ab (Ad ax) (Ab (Ad ay) (Ab Ac (Ab Ac (Ab Ac Ac))))))) (Ab (Ad bh) (Ab (Ad bi) (Ad bj)))):rep gn w_ _) x34 ((Ab (Ad n9) (Ab (Ad oa) (Ad oc))):rep gn x34 _) ex35) fun rf e7 ro jh cw cx=>?_
  replace aw:=aw.mono cw
  replace ax:=ax.mono cw
  replace ay:=ay.mono cw
  obtain⟨_,_,rfl,⟨am,an,rfl,b9⟩,⟨ak,al,rfl,ca⟩⟩:=jh
  refine⟨.tup [.c (.slice am x35.1.length an),.c (.slice ak x35.2.length al)],rfl,fun o0 (k3:Kn 101 [(d,0),(f,0)] [(35,.tup [.c (.slice am x35.1.length an),.c (.slice ak x35.2.length al)]),tA 34 [.slice dv x34.tm.length eb,.slice dw x34.turns.length ec,.slice dx x34.legs.length ed],tA 33 [.func (.func 68) #[] #[]],tA 32 (Em g w_ p l q o u),tA 30 (AK g w_ p l q o u y ab z ac aa ad),tP 3 1 0,tP 1 0 0] o0)=>hK _ _ cx.plOk ?_⟩
  refine Dr [6,7,8,9,10] (dn 10) [tS 6 ak x35.2.length al,tS 5 am x35.1.length an,tP 3 1 0,tP 1 0 0] k3 cx fun qn k4=>?_
  refine Ay (by kernel_rfl) (XT (An (by kernel_rfl) ?_))
  replace cx:=cx.drew
  refine Ao [] [(d,0),(f,0)] [⟨AK g w_ p l q o u y ab z ac aa ad,some 115⟩,⟨[.slice c6 c2.length c8],some 123⟩] ?_
  refine Dr [0,1,2,3] (dn 3) [tA 42 [.func (.func 69) #[] #[]],tA 41 (Em g w_ p l q o u),tA 39 (AK g w_ p l q o u y ab z ac aa ad),tS 6 ak x35.2.length al,tS 5 am x35.1.length an,tP 3 1 0,tP 1 0 0] k4 cx fun qo k5=>?_
  obtain⟨x43,ex43,H⟩:=Aq H
  refine Dl 4 fun K hK=>?_
  refine wc [.agg (Em g w_ p l q o u),.agg [.func (.func 69) #[] #[]]] k5 cx (FI n cx.has w_.route ((Ab (Ad aw) (Ab (Ab Ac Ac) (Ab (Ad ax) (Ab (Ad ay) (Ab Ac (Ab Ac (Ab Ac Ac))))))):rep e7 w_.route _) (Rw.mk (fun(y0:Rg)=>BS n y0)) (⟨_,_,_,rfl,(show UK e7 (.func (.func 69) #[] #[]) (fun(y0:Rg)=>BS n y0) from fun h2 w2 hle hh y0 cs0 hy0 r H=>⟨69,_,_,rfl,fun _ _=>by kernel_rfl,IZ n hh y0 hy0 H⟩)⟩:rep e7 (Rw.mk (fun(y0:Rg)=>BS n y0)) _) ex43) fun rg go rp ji b7 fo=>?_
  replace aw:=aw.mono b7
  replace ax:=ax.mono b7
  replace ay:=ay.mono b7
  replace bh:=bh.mono (XU cw b7)
  replace bi:=bi.mono (XU cw b7)
  replace bj:=bj.mono (XU cw b7)
  obtain⟨_,rfl,⟨_,_,rfl,⟨dy,ee,rfl,od⟩,⟨_,_,rfl,⟨dz,ef,rfl,oe⟩,⟨d0,eg,rfl,og⟩⟩⟩⟩:=ji
  refine⟨.one (.agg [.slice dy x43.tm.length ee,.slice dz x43.turns.length ef,.slice d0 x43.legs.length eg]),rfl,fun o1 (k6:Kn 101 [(d,0),(f,0)] [tA 43 [.slice dy x43.tm.length ee,.slice dz x43.turns.length ef,.slice d0 x43.legs.length eg],tA 42 [.func (.func 69) #[] #[]],tA 41 (Em g w_ p l q o u),tA 39 (AK g w_ p l q o u y ab z ac aa ad),tS 6 ak x35.2.length al,tS 5 am x35.1.length an,tP 3 1 0,tP 1 0 0] o1)=>hK _ _ fo.plOk ?_⟩
  obtain⟨x44,ex44,H⟩:=Aq H
  refine Dl 5 fun K hK=>?_
  refine wc [.agg (AK g w_ p l q o u y ab z ac aa ad),.agg [.slice dy x43.tm.length ee,.slice dz x43.turns.length ef,.slice d0 x43.legs.length eg]] k6 fo (Fh n fo.has w_ ((Ab (Ab (Ad aw) (Ab (Ab Ac Ac) (Ab (Ad ax) (Ab (Ad ay) (Ab Ac (Ab Ac (Ab Ac Ac))))))) (Ab (Ad bh) (Ab (Ad bi) (Ad bj)))):rep go w_ _) x43 ((Ab (Ad od) (Ab (Ad oe) (Ad og))):rep go x43 _) ex44) fun rh gp rq jj b8 ep=>?_
  replace aw:=aw.mono b8
  replace ax:=ax.mono b8
  replace ay:=ay.mono b8
  replace bh:=bh.mono b8
  replace bi:=bi.mono b8
  replace bj:=bj.mono b8
  replace b9:=b9.mono (XU b7 b8)
  replace ca:=ca.mono (XU b7 b8)
  replace fg:=fg.mono (XU (XU (XU cv cw) b7) b8)
  obtain⟨_,_,rfl,⟨ao,aq,rfl,cb⟩,⟨ap,ar,rfl,cc⟩⟩:=jj
  refine⟨.tup [.c (.slice ao x44.1.length aq),.c (.slice ap x44.2.length ar)],rfl,fun o3 (k7:Kn 101 [(d,0),(f,0)] [(44,.tup [.c (.slice ao x44.1.length aq),.c (.slice ap x44.2.length ar)]),tA 43 [.slice dy x43.tm.length ee,.slice dz x43.turns.length ef,.slice d0 x43.legs.length eg],tA 42 [.func (.func 69) #[] #[]],tA 41 (Em g w_ p l q o u),tA 39 (AK g w_ p l q o u y ab z ac aa ad),tS 6 ak x35.2.length al,tS 5 am x35.1.length an,tP 3 1 0,tP 1 0 0] o3)=>hK _ _ ep.plOk ?_⟩
  refine Dr [6,7,8,9,10] (dn 10) [tS 8 ap x44.2.length ar,tS 7 ao x44.1.length aq,tS 6 ak x35.2.length al,tS 5 am x35.1.length an,tP 3 1 0,tP 1 0 0] k7 ep fun qp k8=>?_
  refine Ay (by kernel_rfl) (XT (XT (Aa (Rk 0 3 ((tI 49 0)::(Db x35 am an ap x44 ar ao aq ak al)) k8 ep fun qq k9=>?_))))
  refine wf ?_
  obtain⟨dh,gj,H⟩:=Aq H
  refine Av (fun a' w'=>∃ (bu:Option Addr)(bw:Nat)(c7:List (Option Nat))(di:Fr)(d7:List Nat)(f3:Array Value)(eh:Ae),a' = ⟨f3,List.map Qd d7⟩∧Kn 101 [(d,0),(f,0)] [tP 3 1 0] f3∧Ah di eh [(d,0),(f,0)] [⟨AK g w_ p l q o u y ab z ac aa ad,some 115⟩,⟨[.slice bu dh.length bw],some 123⟩] [⟨bu,dh.length,bw,122,1,List.map Value.map c7,0⟩] w'∧Ae.le gp eh∧AU eh di c7 dh∧Fr.Of w h di∧F6 di d7) ?_ ?_
  ·
   refine wp_block ?_
   refine Ar (fun ox a' w'=>∃ (x_v20:List (Option (List (Int×Rg))))(x_v21:Int)(ba:Option Addr)(bb:Nat)(bv:List (Option Nat))(bq:Fr)(co:List Nat)(f4:Array Value)(bo:Ae),a' = ⟨f4,List.map Qd co⟩∧Kn 101 [(d,0),(f,0)] ((tI 49 x_v21)::(Db x35 am an ap x44 ar ao aq ak al)) f4∧Ah bq bo [(d,0),(f,0)] [⟨AK g w_ p l q o u y ab z ac aa ad,some 115⟩,⟨[.slice ba x_v20.length bb],some 123⟩] [⟨ba,x_v20.length,bb,122,1,List.map Value.map bv,0⟩] w'∧Ae.le gp bo∧AU bo bq bv x_v20∧Fr.Of w h bq∧F6 bq co∧Bm ox w_ x35 x44 x_v20 x_v21=some dh) n ?_ ?_
   ·
    exact XY c2 ⟨0,c6,c8,d9,c5,ea,_,_,rfl,k9.kp,ep,Ae.le_refl _,fg,ny,nr,gj⟩
   ·
    rintro c1 _ pk ⟨x_v20,x_v21,ba,bb,bv,bq,co,f4,bo,rfl,lb,et,br,ej,hy,hr,a3⟩
    clear gj
    obtain _ | c1:=c1
    ·
     rw [Bm] at a3; cases a3
    rw [Bm] at a3
    replace aw:=aw.mono br
    replace ax:=ax.mono br
    replace ay:=ay.mono br
    replace bh:=bh.mono br
    replace bi:=bi.mono br
    replace bj:=bj.mono br
    replace b9:=b9.mono br
    replace ca:=ca.mono br
    replace cb:=cb.mono br
    replace cc:=cc.mono br
    refine XT (Aa (Rk 0 1 ((tB 50 (decide (x_v21<((x35.1.length:Nat):Int))))::(tI 49 x_v21)::(Db x35 am an ap x44 ar ao aq ak al)) lb et fun qs fh=>?_))
    refine wf (XT (wC (decide (x_v21<((x35.1.length:Nat):Int))) fh (fun e9=>?_) (fun e9=>?_)))
    ·
     rw [e9,XW] at a3
     refine wp_skip (XT (wp_block (XT (Aa (Rk 0 1 ((tI 51 x_v21)::(tI 49 x_v21)::(Db x35 am an ap x44 ar ao aq ak al)) fh et fun qt lc=>?_)))))
     obtain⟨x52,ex52,a3⟩:=Aq a3
     obtain⟨nz,n4,op⟩:=Ai ex52
     obtain⟨ae,af,p1,j3,ok,kc⟩:=b9.get (by decide) op
     obtain⟨_,_,rfl,rfl,⟨_,_,rfl,rfl,rfl⟩⟩:=ok
     have ha:Ah bq bo [(d,0),(f,0),(ae,af+(x_v21:Int).toNat*3)] [⟨AK g w_ p l q o u y ab z ac aa ad,some 115⟩,⟨[.slice ba x_v20.length bb],some 123⟩,⟨Be x52,none⟩] [⟨ba,x_v20.length,bb,122,1,List.map Value.map bv,0⟩] pk:=et.addPlc (cs:=(Be x52)) (fun j c hj=>kc j _ (Al hj)) rfl (by kernel_rfl) (by kernel_rfl)
     refine Bc 1 (x_v21) rfl rfl (rfl) rfl (by decide) lc (by rfl) (by rfl) (by rfl) j3 (by rfl) nz n4 (by kernel_rfl) fun o4 (lf:Kn 101 [(d,0),(f,0),(ae,af+(x_v21:Int).toNat*3)] ((tP 52 2 0)::(tI 51 x_v21)::(tI 49 x_v21)::(Db x35 am an ap x44 ar ao aq ak al)) o4)=>?_
     refine Rk 2 1 ((tA 53 (Be x52))::(tI 51 x_v21)::(tI 49 x_v21)::(Db x35 am an ap x44 ar ao aq ak al)) lf ha fun qu lg=>?_
     refine wl fun K hK=>?_
     refine wa [.int .i64 0] lg ha fun ag o5 pl (lh:Kn 101 [(d,0),(f,0),(ae,af+(x_v21:Int).toNat*3),(ag,0)] ((tP 9 3 0)::(tA 53 (Be x52))::(tI 51 x_v21)::(tI 49 x_v21)::(Db x35 am an ap x44 ar ao aq ak al)) o5) (na:Ah bq bo [(d,0),(f,0),(ae,af+(x_v21:Int).toNat*3),(ag,0)] [⟨AK g w_ p l q o u y ab z ac aa ad,some 115⟩,⟨[.slice ba x_v20.length bb],some 123⟩,⟨Be x52,none⟩,⟨[.int .i64 0],some 3⟩] [⟨ba,x_v20.length,bb,122,1,List.map Value.map bv,0⟩] pl)=>hK _ _ ?_
     refine wl fun K hK=>?_
     refine wa [.int .i64 0,.int .i64 0,.int .i64 0] lh na fun ah ii pm (li:Kn 101 (PB d f ae af x_v21 ag ah) ((tP 10 4 0)::(tP 9 3 0)::(tA 53 (Be x52))::(tI 51 x_v21)::(tI 49 x_v21)::(Db x35 am an ap x44 ar ao aq ak al)) ii) (nb:Ah bq bo (PB d f ae af x_v21 ag ah) [⟨AK g w_ p l q o u y ab z ac aa ad,some 115⟩,⟨[.slice ba x_v20.length bb],some 123⟩,⟨Be x52,none⟩,⟨[.int .i64 0],some 3⟩,⟨[.int .i64 0,.int .i64 0,.int .i64 0],some 153⟩] [⟨ba,x_v20.length,bb,122,1,List.map Value.map bv,0⟩] pm)=>hK _ _ ?_
     refine wl fun K hK=>?_
     refine G2 3 0 (.c (.int .i64 x_v21)) [.int .i64 x_v21] li nb fun pn lk (nc:Ah bq bo (PB d f ae af x_v21 ag ah) [⟨AK g w_ p l q o u y ab z ac aa ad,some 115⟩,⟨[.slice ba x_v20.length bb],some 123⟩,⟨Be x52,none⟩,⟨[.int .i64 x_v21],some 3⟩,⟨[.int .i64 0,.int .i64 0,.int .i64 0],some 153⟩] [⟨ba,x_v20.length,bb,122,1,List.map Value.map bv,0⟩] pn)=>hK _ _ ?_
     refine wl fun K hK=>?_
     refine G2 4 0 (.agg (Be x52)) (Be x52) lk nc fun im ll (dp:Ah bq bo (PB d f ae af x_v21 ag ah) [⟨AK g w_ p l q o u y ab z ac aa ad,some 115⟩,⟨[.slice ba x_v20.length bb],some 123⟩,⟨Be x52,none⟩,⟨[.int .i64 x_v21],some 3⟩,⟨Be x52,some 153⟩] [⟨ba,x_v20.length,bb,122,1,List.map Value.map bv,0⟩] im)=>hK _ _ ?_
     have lm:Kn 101 (PB d f ae af x_v21 ag ah) ((tP 10 4 0)::(tP 9 3 0)::(tI 49 x_v21)::(Db x35 am an ap x44 ar ao aq ak al)) ii:=ll.kp
     refine wf (XT (XT (An (by kernel_rfl) ?_)))
     replace dp:=dp.drew
     refine Ao [] (PB d f ae af x_v21 ag ah) [⟨AK g w_ p l q o u y ab z ac aa ad,some 115⟩,⟨[.slice ba x_v20.length bb],some 123⟩,⟨Be x52,none⟩,⟨[.int .i64 x_v21],some 3⟩,⟨Be x52,some 153⟩] ?_
     refine Dr [0,1,2,3,4] (dn 4) ((tI 58 x_v21)::(tS 57 ak x35.2.length al)::(tA 56 (Be x52))::(tA 55 (Em g w_ p l q o u))::(tP 9 3 0)::(tI 49 x_v21)::(Db x35 am an ap x44 ar ao aq ak al)) lm dp fun qw ln=>?_
     obtain⟨x59,ex59,a3⟩:=Aq a3
     obtain⟨n0,n5,oq⟩:=Ai ex59
     obtain⟨ai,aj,p2,j4,ol,kd⟩:=ca.get (by decide) oq
     obtain⟨_,_,rfl,⟨au,av,rfl,ds⟩,rfl⟩:=ol
     have fp:Ah bq bo (JR d f ae af x_v21 ag ah ai aj) [⟨AK g w_ p l q o u y ab z ac aa ad,some 115⟩,⟨[.slice ba x_v20.length bb],some 123⟩,⟨Be x52,none⟩,⟨[.int .i64 x_v21],some 3⟩,⟨Be x52,some 153⟩,⟨El au x59 av,none⟩] [⟨ba,x_v20.length,bb,122,1,List.map Value.map bv,0⟩] (World.drew im):=dp.addPlc (cs:=(El au x59 av)) (fun j c hj=>kd j _ (Al hj)) rfl (by kernel_rfl) (by kernel_rfl)
     refine Ax 5 (x_v21) (El au x59 av) (fun _ _ _ _ _ h=>h) rfl rfl (rfl) rfl (by decide) (by kernel_rfl) (by kernel_rfl) ln dp.plOk (by rfl) (by rfl) (by rfl) j4 (by rfl) n0 n5 (by kernel_rfl) fun o6 (lp:Kn 101 (JR d f ae af x_v21 ag ah ai aj) ((tP 59 5 0)::(tI 58 x_v21)::(tS 57 ak x35.2.length al)::(tA 56 (Be x52))::(tA 55 (Em g w_ p l q o u))::(tP 9 3 0)::(tI 49 x_v21)::(Db x35 am an ap x44 ar ao aq ak al)) o6)=>?_
     refine Dr [6] (dn 6) ((tA 60 (El au x59 av))::(tA 56 (Be x52))::(tA 55 (Em g w_ p l q o u))::(tP 9 3 0)::(tI 49 x_v21)::(Db x35 am an ap x44 ar ao aq ak al)) lp fp fun qx lq=>?_
     obtain⟨x61,ex61,a3⟩:=Aq a3
     refine Dl 7 fun K hK=>?_
     refine wc [.agg (Em g w_ p l q o u),.agg (Be x52),.agg (El au x59 av)] lq fp (Fi c1 fp.has w_.route ((Ab (Ad aw) (Ab (Ab Ac Ac) (Ab (Ad ax) (Ab (Ad ay) (Ab Ac (Ab Ac (Ab Ac Ac))))))):rep bo w_.route _) x52 ((Ab Ac (Ab Ac Ac)):rep bo x52 _) x59 ((Ab (Ad ds) Ac):rep bo x59 _) ex61) fun rj jz ce jk bp hc=>?_
     replace aw:=aw.mono bp
     replace ax:=ax.mono bp
     replace ay:=ay.mono bp
     replace bh:=bh.mono bp
     replace bi:=bi.mono bp
     replace bj:=bj.mono bp
     replace b9:=b9.mono bp
     replace ca:=ca.mono bp
     replace cb:=cb.mono bp
     replace cc:=cc.mono bp
     replace ds:=ds.mono bp
     replace ej:=ej.mono bp
     obtain⟨d1,d2,d3,rfl,fa,fb,fc⟩:=jk
     refine⟨.one (.c (.func (.func 106) #[] #[.pointer (some ⟨d1,0,none⟩),.pointer (some ⟨d2,0,none⟩),.pointer (some ⟨d3,0,none⟩)])),rfl,fun ij (lr:Kn 101 (JR d f ae af x_v21 ag ah ai aj) ((61,.one (.c (.func (.func 106) #[] #[.pointer (some ⟨d1,0,none⟩),.pointer (some ⟨d2,0,none⟩),.pointer (some ⟨d3,0,none⟩)])))::(tA 60 (El au x59 av))::(tA 56 (Be x52))::(tA 55 (Em g w_ p l q o u))::(tP 9 3 0)::(tI 49 x_v21)::(Db x35 am an ap x44 ar ao aq ak al)) ij)=>hK _ _ hc.plOk ?_⟩
     have fi:Kn 101 (JR d f ae af x_v21 ag ah ai aj) ((61,.one (.c (.func (.func 106) #[] #[.pointer (some ⟨d1,0,none⟩),.pointer (some ⟨d2,0,none⟩),.pointer (some ⟨d3,0,none⟩)])))::(tP 9 3 0)::(tI 49 x_v21)::(Db x35 am an ap x44 ar ao aq ak al)) ij:=lr.kp
     refine Ay (by kernel_rfl) (wp_block ?_)
     obtain⟨cm,i3,a3⟩:=Aq a3
     refine P0 (.func (.func 106) #[] #[.pointer (some ⟨d1,0,none⟩),.pointer (some ⟨d2,0,none⟩),.pointer (some ⟨d3,0,none⟩)]) fi (by rfl) rfl (fun _ _=>by kernel_rfl) fun b4 h9=>?_
     obtain⟨iu,m0,jp,nd⟩:=Ah.loopBegin hc hr hy b4
     have je:Vc (fun(s:List (Option (List (Int×Rg))))(h':Ae)(w':World)=>∃ (Fj:Fr)(a8:Option Addr)(a9:Nat)(bm:List (Option Nat)),H7 w h Fj ((ce).heap.size+1) b4 ((ce).heap.size::co)∧Ah Fj h' (JR d f ae af x_v21 ag ah ai aj) [⟨AK g w_ p l q o u y ab z ac aa ad,some 115⟩,⟨[.slice a8 s.length a9],some 123⟩,⟨Be x52,none⟩,⟨[.int .i64 x_v21],some 3⟩,⟨Be x52,some 153⟩,⟨El au x59 av,none⟩] [⟨a8,s.length,a9,122,1,List.map Value.map bm,0⟩] w'∧AU h' Fj bm s∧Ae.le jz h'):=⟨fun s h' w' hj=>by obtain⟨_,a8,a9,bm,_,hm,ek,_⟩:=hj; exact hm.has,fun s h' h'' w' w'' hj hb hle hn=>by obtain⟨Fj,a8,a9,bm,hlf,hm,ek,hle0⟩:=hj; exact⟨Fj,a8,a9,bm,hlf,hm.call hb hle hn,ek.mono hle,XU hle0 hle⟩⟩
     have kh:=AU.up ej (fun b es c hb=>jp _ _ hb)
     refine⟨_,EE c1 je (fun(s:List (Option (List (Int×Rg))))(x62:Int)(x63:Int)=>((((Co s x62).bind fun x66 =>
        (x66.bind fun fx =>
        ((upd s x62 (some (EJ fx x_v21 (Rg.mk x63 x63)))).bind fun dt =>
        some dt))):Option (List (Option (List (Int×Rg))))).bind fun s1=>some (s1,true))) ?_ x_v20 ⟨iu,ba,bb,bv,m0,nd,kh,Ae.le_refl _⟩ x61.1 fa x61.2.1 fb x61.2.2 fc i3,?_⟩
     ·
      intro s x62 x63 s' pu cq f7 kq  e2
      obtain⟨iv,a8,a9,bm,fl,cy,ek,mw⟩:=kq
      obtain⟨qj,cp,e2⟩:=Aq e2
      cases e2
      replace cy:Ah iv cq (JR d f ae af x_v21 ag ah ai aj) [⟨AK g w_ p l q o u y ab z ac aa ad,some 115⟩,⟨[.slice a8 s.length a9],some 123⟩,⟨Be x52,none⟩,⟨[.int .i64 x_v21],some 3⟩,⟨Be x52,some 153⟩,⟨El au x59 av,none⟩] [⟨a8,s.length,a9,122,1,List.map Value.map bm,0⟩] f7:=cy
      refine Sr h9 (cy.ext fl.loop) ?_
      have ls:Kn 101 (JR d f ae af x_v21 ag ah ai aj) [tI 63 x63,tI 62 x62,tP 9 3 0,tP 3 1 0] _:=((fi.kp.put (k:=62) (by decide) (.one (.c (.int .i64 x62)))).put (k:=63) (by decide) (.one (.c (.int .i64 x63))))
      refine T8 (F5 (by kernel_rfl) (Rk 0 1 [tI 11 x62,tI 63 x63,tP 9 3 0,tP 3 1 0] ls cy fun qy lu=>?_))
      refine wf (F5 (by kernel_rfl) (Rk 0 1 [tI 12 x63,tI 11 x62,tP 9 3 0,tP 3 1 0] lu cy fun qz lv=>?_))
      refine wf ?_
      refine⟨cy.ext fl.loop,?_⟩
      obtain⟨f9,m1,jq,cj⟩:=Ah.loopStep cy fl { b4 with state:=.busy }
      have el:=AU.up ek jq
      replace cj:Ah f9 cq (JR d f ae af x_v21 ag ah ai aj) [⟨AK g w_ p l q o u y ab z ac aa ad,some 115⟩,⟨[.slice a8 s.length a9],some 123⟩,⟨Be x52,none⟩,⟨[.int .i64 x_v21],some 3⟩,⟨Be x52,some 153⟩,⟨El au x59 av,none⟩] [⟨a8,s.length,a9,122,1,List.map Value.map bm,0⟩] (World.putObj f7 ((ce).heap.size+1) (.loop { b4 with state:=.busy })):=cj
      refine QW (MT (by kernel_rfl) (by kernel_rfl) ?_)
      replace cj:=cj.drew
      refine Ao [] (JR d f ae af x_v21 ag ah ai aj) [⟨AK g w_ p l q o u y ab z ac aa ad,some 115⟩,⟨[.slice a8 s.length a9],some 123⟩,⟨Be x52,none⟩,⟨[.int .i64 x_v21],some 3⟩,⟨Be x52,some 153⟩,⟨El au x59 av,none⟩] ?_
      refine Dr [0,1] [1,0] [tI 65 x62,tS 64 a8 s.length a9,tI 12 x63,tP 9 3 0] lv cj fun q0 lw=>?_
      obtain⟨x66,ex66,cp⟩:=Aq cp
      obtain⟨h1,h6,os⟩:=Ai ex66
      have ms:=Cs h1 h6
      obtain⟨ev,hv⟩:∃ ob,bm[(x62:Int).toNat]? = some ob:=⟨_,List.getElem?_eq_getElem (by rw [el.len]; exact ms)⟩
      obtain⟨cn,e8⟩:=CR cj (i:=0) rfl (b0:=0+(x62:Int).toNat*1) (by show _<(List.map Value.map bm).length; rw [List.length_map,el.len]; omega)
      have fq:Ah f9 cq (SJ d f ae af x_v21 ag ah ai aj cn x62) [⟨AK g w_ p l q o u y ab z ac aa ad,some 115⟩,⟨[.slice a8 s.length a9],some 123⟩,⟨Be x52,none⟩,⟨[.int .i64 x_v21],some 3⟩,⟨Be x52,some 153⟩,⟨El au x59 av,none⟩,⟨[],none⟩] [⟨a8,s.length,a9,122,1,List.map Value.map bm,0⟩] (World.drew (World.putObj f7 ((ce).heap.size+1) (.loop { b4 with state:=.busy }))):=cj.addPlc (cs:=[]) (fun j c hj=>by simp at hj) rfl (by kernel_rfl) (by kernel_rfl)
      have gv:=LC hv
      refine Ax 2 (x62) [.map ev] (fun _ _ _ _ _ h=>h) rfl rfl (rfl) rfl (by decide) (by kernel_rfl) (by kernel_rfl) lw cj.plOk (by rfl) (by rfl) (by rfl) e8 (by rfl) h1 h6 (by kernel_rfl) fun o8 (ly:Kn 101 (SJ d f ae af x_v21 ag ah ai aj cn x62) [tP 66 6 0,tI 65 x62,tS 64 a8 s.length a9,tI 12 x63,tP 9 3 0] o8)=>?_
      refine II [3,4,5,6,7] [7,6,5,4,3,2,1,0] [71,68,67] [tA 71 [.int .i64 x63,.int .i64 x63],tI 68 x_v21,(67,.one (.c (.map ev)))] (fun _ _ _ _ _ h=>h) ly (AZ.peek fq.plOk fq 0 6 rfl rfl e8 [.map ev] (gv _)) (by kernel_rfl) (by rfl) (by kernel_rfl) fun o9 gz=>?_
      obtain⟨fx,i0,cp⟩:=Aq cp
      obtain⟨gf,p5,pw,gs,gl,i8⟩:=el.get (i:=(x62:Int).toNat) (m:=fx) (by rw [os,i0])
      obtain rfl:ev=some gf:=by have:=hv.symm.trans gs; simpa using this
      obtain⟨dt,i6,cp⟩:=Aq cp
      obtain⟨_,_,ie⟩:=F4 i6
      refine Dl 8 fun K hK=>?_
      refine Mm (KT:=3) (E:=39) (k:=(x_v21:Int)) (x:=((Rg.mk x63 x63):Rg)) (.c (.int .i64 x_v21)) (.agg [.int .i64 x63,.int .i64 x63]) gz fq rfl rfl (by rfl) (by rfl) (by rfl) (by kernel_rfl) (KL.int (by kernel_rfl)) gl i8 rfl ⟨_,rfl,((Ab Ac Ac):rep cq ((Rg.mk x63 x63):Rg) _)⟩ fun p6 px io i9 ng=>?_
      obtain⟨ga,g3,gx,dq⟩:=AU.changeL el gs gl i9 ng m1
      rw [← ie] at gx
      have ns:s.length=dt.length:=by rw [ie]; simp
      replace dq:Ah ga cq (SJ d f ae af x_v21 ag ah ai aj cn x62) [⟨AK g w_ p l q o u y ab z ac aa ad,some 115⟩,⟨[.slice a8 s.length a9],some 123⟩,⟨Be x52,none⟩,⟨[.int .i64 x_v21],some 3⟩,⟨Be x52,some 153⟩,⟨El au x59 av,none⟩,⟨[],none⟩] [⟨a8,s.length,a9,122,1,List.map Value.map bm,0⟩] io:=dq
      refine hK _ _ (AZ.peek dq.plOk dq 0 6 rfl rfl e8 [.map (some gf)] (gv _)) ?_
      have lz:Kn 101 (SJ d f ae af x_v21 ag ah ai aj cn x62) [] o9:=gz.kp
      refine Ay (by kernel_rfl) ?_
      have qb:=lz
      have hd:Ah ga cq [(d,0),(f,0),(ae,af+(x_v21:Int).toNat*3),(ag,0),(ah,0),(ai,aj+(x_v21:Int).toNat*2),(cn,0+(x62:Int).toNat*1)] [⟨[.slice g w_.route.legs.length p,.int .i64 w_.route.turn.lo,.int .i64 w_.route.turn.hi,.slice l w_.route.buses.length q,.slice o w_.route.spares.length u,.int .i64 w_.route.unit,.int .i64 w_.route.gap,.int .i64 w_.route.fr,.int .i64 w_.route.to_,.slice y w_.acts.holds.length ab,.slice z w_.acts.turns.length ac,.slice aa w_.acts.spares.length ad],some 115⟩,⟨[.slice a8 dt.length a9],some 123⟩,⟨[.int .i64 x52.stop,.int .i64 x52.tm,.int .i64 x52.turned],none⟩,⟨[.int .i64 x_v21],some 3⟩,⟨[.int .i64 x52.stop,.int .i64 x52.tm,.int .i64 x52.turned],some 153⟩,⟨[.slice au x59.legs.length av,.int .i64 x59.turn],none⟩,⟨[],none⟩] [⟨a8,dt.length,a9,122,1,List.map Value.map bm,0⟩] io:=by rw [← ns]; exact dq
      obtain rfl:=XZ cp
      refine⟨hd.ext g3.loop,?_⟩
      rw [h9.eq]
      obtain⟨iw,m2,jr,nh⟩:=Ah.loopStep hd g3 b4
      have ki:=AU.up gx jr
      exact⟨rfl,cq,Ae.le_refl _,iw,a8,a9,bm,m2,(nh).cutPl 6 (by kernel_rfl),ki,mw⟩
     ·
      intro f8 jn
      obtain⟨da,_,kr⟩:=jn
      obtain⟨ps,cf,ci,d8,g4,he,kj,bk⟩:=kr
      refine⟨he.ext g4.loop,?_⟩
      obtain⟨e0,g5,js,cz⟩:=Ah.loopStep he g4 { b4 with state:=.exhausted }
      have ff:=AU.up kj js
      replace aw:=aw.mono bk
      replace ax:=ax.mono bk
      replace ay:=ay.mono bk
      replace cb:=cb.mono bk
      replace cc:=cc.mono bk
      replace cz:Ah e0 da (JR d f ae af x_v21 ag ah ai aj) [⟨AK g w_ p l q o u y ab z ac aa ad,some 115⟩,⟨[.slice cf cm.length ci],some 123⟩,⟨Be x52,none⟩,⟨[.int .i64 x_v21],some 3⟩,⟨Be x52,some 153⟩,⟨El au x59 av,none⟩] [⟨cf,cm.length,ci,122,1,List.map Value.map d8,0⟩] (World.putObj f8 ((ce).heap.size+1) (.loop { b4 with state:=.exhausted })):=cz
      refine XT (An (by kernel_rfl) ?_)
      replace cz:=cz.drew
      refine Ao [] (JR d f ae af x_v21 ag ah ai aj) [⟨AK g w_ p l q o u y ab z ac aa ad,some 115⟩,⟨[.slice cf cm.length ci],some 123⟩,⟨Be x52,none⟩,⟨[.int .i64 x_v21],some 3⟩,⟨Be x52,some 153⟩,⟨El au x59 av,none⟩] ?_
      refine Dr [0,1,2,3] (dn 3) ((tI 75 x_v21)::(tS 74 ao x44.1.length aq)::(tA 73 (Em g w_ p l q o u))::(tP 9 3 0)::(tI 49 x_v21)::(Db x35 am an ap x44 ar ao aq ak al)) fi cz fun q1 l0=>?_
      obtain⟨x76,ex76,a3⟩:=Aq a3
      obtain⟨n2,n7,ot⟩:=Ai ex76
      obtain⟨a0,a2,p3,j5,om,ke⟩:=cb.get (by decide) ot
      obtain⟨_,_,rfl,rfl,⟨_,_,rfl,rfl,rfl⟩⟩:=om
      have fs:Ah e0 da [(d,0),(f,0),(ae,af+(x_v21:Int).toNat*3),(ag,0),(ah,0),(ai,aj+(x_v21:Int).toNat*2),(a0,a2+(x_v21:Int).toNat*3)] [⟨AK g w_ p l q o u y ab z ac aa ad,some 115⟩,⟨[.slice cf cm.length ci],some 123⟩,⟨Be x52,none⟩,⟨[.int .i64 x_v21],some 3⟩,⟨Be x52,some 153⟩,⟨El au x59 av,none⟩,⟨Gk x76,none⟩] [⟨cf,cm.length,ci,122,1,List.map Value.map d8,0⟩] (World.drew (World.putObj f8 ((ce).heap.size+1) (.loop { b4 with state:=.exhausted }))):=cz.addPlc (cs:=(Gk x76)) (fun j c hj=>ke j _ (Al hj)) rfl (by kernel_rfl) (by kernel_rfl)
      refine Ax 4 (x_v21) (Gk x76) (fun _ _ _ _ _ h=>h) rfl rfl (rfl) rfl (by decide) (by kernel_rfl) (by kernel_rfl) l0 cz.plOk (by rfl) (by rfl) (by rfl) j5 (by rfl) n2 n7 (by kernel_rfl) fun pa (l1:Kn 101 [(d,0),(f,0),(ae,af+(x_v21:Int).toNat*3),(ag,0),(ah,0),(ai,aj+(x_v21:Int).toNat*2),(a0,a2+(x_v21:Int).toNat*3)] ((tP 76 6 0)::(tI 75 x_v21)::(tS 74 ao x44.1.length aq)::(tA 73 (Em g w_ p l q o u))::(tP 9 3 0)::(tI 49 x_v21)::(Db x35 am an ap x44 ar ao aq ak al)) pa)=>?_
      refine Dr [5,6,7] (dn 7) ((tI 79 x_v21)::(tS 78 ap x44.2.length ar)::(tA 77 (Gk x76))::(tA 73 (Em g w_ p l q o u))::(tP 9 3 0)::(tI 49 x_v21)::(Db x35 am an ap x44 ar ao aq ak al)) l1 fs fun q2 l2=>?_
      obtain⟨x80,ex80,a3⟩:=Aq a3
      obtain⟨n3,n8,ou⟩:=Ai ex80
      obtain⟨a4,a5,p4,j6,oo,kf⟩:=cc.get (by decide) ou
      obtain⟨_,_,rfl,⟨bc,be,rfl,fw⟩,rfl⟩:=oo
      have ft:Ah e0 da (KB d f ae af x_v21 ag ah ai aj a0 a2 a4 a5) [⟨AK g w_ p l q o u y ab z ac aa ad,some 115⟩,⟨[.slice cf cm.length ci],some 123⟩,⟨Be x52,none⟩,⟨[.int .i64 x_v21],some 3⟩,⟨Be x52,some 153⟩,⟨El au x59 av,none⟩,⟨Gk x76,none⟩,⟨Ht bc x80 be,none⟩] [⟨cf,cm.length,ci,122,1,List.map Value.map d8,0⟩] (World.drew (World.putObj f8 ((ce).heap.size+1) (.loop { b4 with state:=.exhausted }))):=fs.addPlc (cs:=(Ht bc x80 be)) (fun j c hj=>kf j _ (Al hj)) rfl (by kernel_rfl) (by kernel_rfl)
      refine Ax 8 (x_v21) (Ht bc x80 be) (fun _ _ _ _ _ h=>h) rfl rfl (rfl) rfl (by decide) (by kernel_rfl) (by kernel_rfl) l2 fs.plOk (by rfl) (by rfl) (by rfl) j6 (by rfl) n3 n8 (by kernel_rfl) fun pb (l3:Kn 101 (KB d f ae af x_v21 ag ah ai aj a0 a2 a4 a5) ((tP 80 7 0)::(tI 79 x_v21)::(tS 78 ap x44.2.length ar)::(tA 77 (Gk x76))::(tA 73 (Em g w_ p l q o u))::(tP 9 3 0)::(tI 49 x_v21)::(Db x35 am an ap x44 ar ao aq ak al)) pb)=>?_
      refine Dr [9] (dn 9) ((tA 81 (Ht bc x80 be))::(tA 77 (Gk x76))::(tA 73 (Em g w_ p l q o u))::(tP 9 3 0)::(tI 49 x_v21)::(Db x35 am an ap x44 ar ao aq ak al)) l3 ft fun q3 l4=>?_
      obtain⟨x82,ex82,a3⟩:=Aq a3
      refine Dl 10 fun K hK=>?_
      refine wc [.agg (Em g w_ p l q o u),.agg (Gk x76),.agg (Ht bc x80 be)] l4 ft (Fi c1 ft.has w_.route ((Ab (Ad aw) (Ab (Ab Ac Ac) (Ab (Ad ax) (Ab (Ad ay) (Ab Ac (Ab Ac (Ab Ac Ac))))))):rep da w_.route _) x76 ((Ab Ac (Ab Ac Ac)):rep da x76 _) x80 ((Ab (Ad fw) Ac):rep da x80 _) ex82) fun rk j0 c4 jm bf hf=>?_
      replace aw:=aw.mono bf
      replace ax:=ax.mono bf
      replace ay:=ay.mono bf
      replace bh:=bh.mono (XU bk bf)
      replace bi:=bi.mono (XU bk bf)
      replace bj:=bj.mono (XU bk bf)
      replace b9:=b9.mono (XU bk bf)
      replace ca:=ca.mono (XU bk bf)
      replace cb:=cb.mono bf
      replace cc:=cc.mono bf
      replace ds:=ds.mono (XU bk bf)
      replace fa:=fa.mono (XU bk bf)
      replace fb:=fb.mono (XU bk bf)
      replace fc:=fc.mono (XU bk bf)
      replace fw:=fw.mono bf
      replace ff:=ff.mono bf
      obtain⟨d4,d5,d6,rfl,j8,j9,ka⟩:=jm
      refine⟨.one (.c (.func (.func 106) #[] #[.pointer (some ⟨d4,0,none⟩),.pointer (some ⟨d5,0,none⟩),.pointer (some ⟨d6,0,none⟩)])),rfl,fun ik (l5:Kn 101 (KB d f ae af x_v21 ag ah ai aj a0 a2 a4 a5) ((82,.one (.c (.func (.func 106) #[] #[.pointer (some ⟨d4,0,none⟩),.pointer (some ⟨d5,0,none⟩),.pointer (some ⟨d6,0,none⟩)])))::(tA 81 (Ht bc x80 be))::(tA 77 (Gk x76))::(tA 73 (Em g w_ p l q o u))::(tP 9 3 0)::(tI 49 x_v21)::(Db x35 am an ap x44 ar ao aq ak al)) ik)=>hK _ _ hf.plOk ?_⟩
      have fj:Kn 101 (KB d f ae af x_v21 ag ah ai aj a0 a2 a4 a5) ((82,.one (.c (.func (.func 106) #[] #[.pointer (some ⟨d4,0,none⟩),.pointer (some ⟨d5,0,none⟩),.pointer (some ⟨d6,0,none⟩)])))::(tP 9 3 0)::(tI 49 x_v21)::(Db x35 am an ap x44 ar ao aq ak al)) ik:=l5.kp
      refine Ay (by kernel_rfl) (wp_block ?_)
      obtain⟨f1,i4,a3⟩:=Aq a3
      refine P0 (.func (.func 106) #[] #[.pointer (some ⟨d4,0,none⟩),.pointer (some ⟨d5,0,none⟩),.pointer (some ⟨d6,0,none⟩)]) fj (by rfl) rfl (fun _ _=>by kernel_rfl) fun cd ia=>?_
      obtain⟨ix,m3,jt,ni⟩:=Ah.loopBegin hf g5.marks g5.of cd
      have jf:Vc (fun(s:List (Option (List (Int×Rg))))(h':Ae)(w':World)=>∃ (Fj:Fr)(az:Option Addr)(a1:Nat)(bd:List (Option Nat)),H7 w h Fj ((c4).heap.size+1) cd ((c4).heap.size::((ce).heap.size::co))∧Ah Fj h' (KB d f ae af x_v21 ag ah ai aj a0 a2 a4 a5) [⟨AK g w_ p l q o u y ab z ac aa ad,some 115⟩,⟨[.slice az s.length a1],some 123⟩,⟨Be x52,none⟩,⟨[.int .i64 x_v21],some 3⟩,⟨Be x52,some 153⟩,⟨El au x59 av,none⟩,⟨Gk x76,none⟩,⟨Ht bc x80 be,none⟩] [⟨az,s.length,a1,122,1,List.map Value.map bd,0⟩] w'∧AU h' Fj bd s∧Ae.le j0 h'):=⟨fun s h' w' hj=>by obtain⟨_,az,a1,bd,_,hm,em,_⟩:=hj; exact hm.has,fun s h' h'' w' w'' hj hb hle hn=>by obtain⟨Fj,az,a1,bd,hlf,hm,em,hle0⟩:=hj; exact⟨Fj,az,a1,bd,hlf,hm.call hb hle hn,em.mono hle,XU hle0 hle⟩⟩
      have kl:=AU.up ff (fun b es c hb=>jt _ _ hb)
      refine⟨_,EE c1 jf (fun(s:List (Option (List (Int×Rg))))(x83:Int)(x84:Int)=>((((Co s x83).bind fun x87 =>
         ((Co s x83).bind fun x92 =>
         (x92.bind fun fy =>
         ((some (Gg fy x_v21 ((Rg.mk 0 0):Rg))).bind fun x95 =>
         (x87.bind fun fz =>
         ((upd s x83 (some (EJ fz x_v21 (Rg.mk x95.1.lo x84)))).bind fun du =>
         some du)))))):Option (List (Option (List (Int×Rg))))).bind fun s1=>some (s1,true))) ?_ cm ⟨ix,cf,ci,d8,m3,ni,kl,Ae.le_refl _⟩ x82.1 j8 x82.2.1 j9 x82.2.2 ka i4,?_⟩
      ·
       intro s x83 x84 s' pv b6 ey ks  e3
       obtain⟨iy,az,a1,bd,fm,c0,em,mx⟩:=ks
       obtain⟨qk,bn,e3⟩:=Aq e3
       cases e3
       replace c0:Ah iy b6 (KB d f ae af x_v21 ag ah ai aj a0 a2 a4 a5) [⟨AK g w_ p l q o u y ab z ac aa ad,some 115⟩,⟨[.slice az s.length a1],some 123⟩,⟨Be x52,none⟩,⟨[.int .i64 x_v21],some 3⟩,⟨Be x52,some 153⟩,⟨El au x59 av,none⟩,⟨Gk x76,none⟩,⟨Ht bc x80 be,none⟩] [⟨az,s.length,a1,122,1,List.map Value.map bd,0⟩] ey:=c0
       refine Sr ia (c0.ext fm.loop) ?_
       have l6:Kn 101 (KB d f ae af x_v21 ag ah ai aj a0 a2 a4 a5) [tI 84 x84,tI 83 x83,tP 9 3 0,tP 3 1 0] _:=((fj.kp.put (k:=83) (by decide) (.one (.c (.int .i64 x83)))).put (k:=84) (by decide) (.one (.c (.int .i64 x84))))
       refine T8 (F5 (by kernel_rfl) (Rk 0 1 [tI 13 x83,tI 84 x84,tP 9 3 0,tP 3 1 0] l6 c0 fun q4 l7=>?_))
       refine wf (F5 (by kernel_rfl) (Rk 0 1 [tI 14 x84,tI 13 x83,tP 9 3 0,tP 3 1 0] l7 c0 fun q5 l8=>?_))
       refine wf ?_
       refine⟨c0.ext fm.loop,?_⟩
       obtain⟨e1,m4,ju,ck⟩:=Ah.loopStep c0 fm { cd with state:=.busy }
       have cu:=AU.up em ju
       replace ck:Ah e1 b6 (KB d f ae af x_v21 ag ah ai aj a0 a2 a4 a5) [⟨AK g w_ p l q o u y ab z ac aa ad,some 115⟩,⟨[.slice az s.length a1],some 123⟩,⟨Be x52,none⟩,⟨[.int .i64 x_v21],some 3⟩,⟨Be x52,some 153⟩,⟨El au x59 av,none⟩,⟨Gk x76,none⟩,⟨Ht bc x80 be,none⟩] [⟨az,s.length,a1,122,1,List.map Value.map bd,0⟩] (World.putObj ey ((c4).heap.size+1) (.loop { cd with state:=.busy })):=ck
       refine QW (MT (by kernel_rfl) (by kernel_rfl) ?_)
       replace ck:=ck.drew
       refine Ao [] (KB d f ae af x_v21 ag ah ai aj a0 a2 a4 a5) [⟨AK g w_ p l q o u y ab z ac aa ad,some 115⟩,⟨[.slice az s.length a1],some 123⟩,⟨Be x52,none⟩,⟨[.int .i64 x_v21],some 3⟩,⟨Be x52,some 153⟩,⟨El au x59 av,none⟩,⟨Gk x76,none⟩,⟨Ht bc x80 be,none⟩] ?_
       refine Dr [0,1] [1,0] [tI 86 x83,tS 85 az s.length a1,tI 14 x84,tI 13 x83,tP 9 3 0,tP 3 1 0] l8 ck fun q6 l9=>?_
       obtain⟨x87,ex87,bn⟩:=Aq bn
       obtain⟨h3,h7,ov⟩:=Ai ex87
       have mu:=Cs h3 h7
       obtain⟨bt,hw⟩:∃ ob,bd[(x83:Int).toNat]? = some ob:=⟨_,List.getElem?_eq_getElem (by rw [cu.len]; exact mu)⟩
       obtain⟨b3,ct⟩:=CR ck (i:=0) rfl (b0:=0+(x83:Int).toNat*1) (by show _<(List.map Value.map bd).length; rw [List.length_map,cu.len]; omega)
       have df:Ah e1 b6 [(d,0),(f,0),(ae,af+(x_v21:Int).toNat*3),(ag,0),(ah,0),(ai,aj+(x_v21:Int).toNat*2),(a0,a2+(x_v21:Int).toNat*3),(a4,a5+(x_v21:Int).toNat*2),(b3,0+(x83:Int).toNat*1)] [⟨AK g w_ p l q o u y ab z ac aa ad,some 115⟩,⟨[.slice az s.length a1],some 123⟩,⟨Be x52,none⟩,⟨[.int .i64 x_v21],some 3⟩,⟨Be x52,some 153⟩,⟨El au x59 av,none⟩,⟨Gk x76,none⟩,⟨Ht bc x80 be,none⟩,⟨[],none⟩] [⟨az,s.length,a1,122,1,List.map Value.map bd,0⟩] (World.drew (World.putObj ey ((c4).heap.size+1) (.loop { cd with state:=.busy }))):=ck.addPlc (cs:=[]) (fun j c hj=>by simp at hj) rfl (by kernel_rfl) (by kernel_rfl)
       have db:=LC hw
       refine Ax 2 (x83) [.map bt] (fun _ _ _ _ _ h=>h) rfl rfl (rfl) rfl (by decide) (by kernel_rfl) (by kernel_rfl) l9 ck.plOk (by rfl) (by rfl) (by rfl) ct (by rfl) h3 h7 (by kernel_rfl) fun pd (ma:Kn 101 [(d,0),(f,0),(ae,af+(x_v21:Int).toNat*3),(ag,0),(ah,0),(ai,aj+(x_v21:Int).toNat*2),(a0,a2+(x_v21:Int).toNat*3),(a4,a5+(x_v21:Int).toNat*2),(b3,0+(x83:Int).toNat*1)] [tP 87 8 0,tI 86 x83,tS 85 az s.length a1,tI 14 x84,tI 13 x83,tP 9 3 0,tP 3 1 0] pd)=>?_
       refine II [3,4,5,6] [6,5,4,3,2,1,0] [91,90,89,88,14,9] [tI 91 x83,tS 90 az s.length a1,tI 89 x_v21,(88,.one (.c (.map bt))),tI 14 x84,tP 9 3 0] (fun _ _ _ _ _ h=>h) ma (AZ.peek df.plOk df 0 8 rfl rfl ct [.map bt] (db _)) (by kernel_rfl) (by rfl) (by kernel_rfl) fun q7 mb=>?_
       obtain⟨x92,ex92,bn⟩:=Aq bn
       obtain⟨h4,h8,ow⟩:=Ai ex92
       have mv:=Cs h4 h8
       obtain⟨ew,hx⟩:∃ ob,bd[(x83:Int).toNat]? = some ob:=⟨_,List.getElem?_eq_getElem (by rw [cu.len]; exact mv)⟩
       obtain⟨ch,dl⟩:=CR df (i:=0) rfl (b0:=0+(x83:Int).toNat*1) (by show _<(List.map Value.map bd).length; rw [List.length_map,cu.len]; omega)
       have b1:Ah e1 b6 (O2 d f ae af x_v21 ag ah ai aj a0 a2 a4 a5 b3 x83 ch) [⟨AK g w_ p l q o u y ab z ac aa ad,some 115⟩,⟨[.slice az s.length a1],some 123⟩,⟨Be x52,none⟩,⟨[.int .i64 x_v21],some 3⟩,⟨Be x52,some 153⟩,⟨El au x59 av,none⟩,⟨Gk x76,none⟩,⟨Ht bc x80 be,none⟩,⟨[],none⟩,⟨[],none⟩] [⟨az,s.length,a1,122,1,List.map Value.map bd,0⟩] (World.drew (World.putObj ey ((c4).heap.size+1) (.loop { cd with state:=.busy }))):=df.addPlc (cs:=[]) (fun j c hj=>by simp at hj) rfl (by kernel_rfl) (by kernel_rfl)
       have ei:=LC hx
       refine Ax 7 (x83) [.map ew] (fun _ _ _ _ _ h=>h) rfl rfl (rfl) rfl (by decide) (by kernel_rfl) (by kernel_rfl) mb (AZ.peek df.plOk df 0 8 rfl rfl ct [.map bt] (db _)) (by rfl) (by rfl) (by rfl) dl (by rfl) h4 h8 (by kernel_rfl) fun pe (md:Kn 101 (O2 d f ae af x_v21 ag ah ai aj a0 a2 a4 a5 b3 x83 ch) [tP 92 9 0,tI 91 x83,tS 90 az s.length a1,tI 89 x_v21,(88,.one (.c (.map bt))),tI 14 x84,tP 9 3 0] pe)=>?_
       refine II [8,9,12] [12,9,8,7,6,5,4,3,2,1,0] [97,94,93,89,88] [tI 97 x84,tI 94 x_v21,(93,.one (.c (.map ew))),tI 89 x_v21,(88,.one (.c (.map bt)))] (fun _ _ _ _ _ h=>h) md (AZ.peek (AZ.peek b1.plOk b1 0 8 rfl rfl ct [.map bt] (db _)) b1 0 9 rfl rfl dl [.map ew] (ei _)) (by kernel_rfl) (by rfl) (by kernel_rfl) fun q8 me=>?_
       obtain⟨fy,i1,bn⟩:=Aq bn
       obtain⟨dj,p7,py,kb,jv,ja⟩:=cu.get (i:=(x83:Int).toNat) (m:=fy) (by rw [ow,i1])
       obtain rfl:ew=some dj:=by have:=hx.symm.trans kb; simpa using this
       obtain⟨x95,ex95,bn⟩:=Aq bn
       refine Dl 10 fun K hK=>?_
       refine Kj (KT:=3) (E:=39) (k:=(x_v21:Int)) ((Rg.mk 0 0):Rg) (.c (.int .i64 x_v21)) me rfl rfl (by decide) (by rfl) (by rfl) (by kernel_rfl) (KL.int (by kernel_rfl)) (b1.ext jv) ja rfl (by kernel_rfl) ⟨_,rfl,((Ab Ac Ac):rep b6 ((Rg.mk 0 0):Rg) _)⟩ fun rl ib=>?_
       rw [XZ ex95] at ib ⊢
       obtain⟨_,rfl,⟨_,_,rfl,rfl,rfl⟩⟩:=ib
       refine⟨.one (.agg [.int .i64 x95.1.lo,.int .i64 x95.1.hi]),rfl,fun pf (mf:Kn 101 (O2 d f ae af x_v21 ag ah ai aj a0 a2 a4 a5 b3 x83 ch) [tA 95 [.int .i64 x95.1.lo,.int .i64 x95.1.hi],tI 97 x84,tI 94 x_v21,(93,.one (.c (.map (some dj)))),tI 89 x_v21,(88,.one (.c (.map bt)))] pf)=>hK _ _ (AZ.peek (AZ.peek b1.plOk b1 0 8 rfl rfl ct [.map bt] (db _)) b1 0 9 rfl rfl dl [.map (some dj)] (ei _)) ?_⟩
       refine II [11,13] [13,11,10,12,9,8,7,6,5,4,3,2,1,0] [98,89,88] [tA 98 [.int .i64 x95.1.lo,.int .i64 x84],tI 89 x_v21,(88,.one (.c (.map bt)))] (fun _ _ _ _ _ h=>h) mf (AZ.peek (AZ.peek b1.plOk b1 0 8 rfl rfl ct [.map bt] (db _)) b1 0 9 rfl rfl dl [.map (some dj)] (ei _)) (by kernel_rfl) (by rfl) (by kernel_rfl) fun pg g1=>?_
       obtain⟨fz,i2,bn⟩:=Aq bn
       obtain⟨gg,p8,pz,gu,gm,jb⟩:=cu.get (i:=(x83:Int).toNat) (m:=fz) (by rw [ov,i2])
       obtain rfl:bt=some gg:=by have:=hw.symm.trans gu; simpa using this
       obtain⟨du,i7,bn⟩:=Aq bn
       obtain⟨_,_,ih⟩:=F4 i7
       refine Dl 14 fun K hK=>?_
       refine Mm (KT:=3) (E:=39) (k:=(x_v21:Int)) (x:=((Rg.mk x95.1.lo x84):Rg)) (.c (.int .i64 x_v21)) (.agg [.int .i64 x95.1.lo,.int .i64 x84]) g1 b1 rfl rfl (by rfl) (by rfl) (by rfl) (by kernel_rfl) (KL.int (by kernel_rfl)) gm jb rfl ⟨_,rfl,((Ab Ac Ac):rep b6 ((Rg.mk x95.1.lo x84):Rg) _)⟩ fun p9 p0 ip jc nk=>?_
       obtain⟨gb,g6,gy,dg⟩:=AU.changeL cu gu gm jc nk m4
       rw [← ih] at gy
       have nt:s.length=du.length:=by rw [ih]; simp
       replace dg:Ah gb b6 (O2 d f ae af x_v21 ag ah ai aj a0 a2 a4 a5 b3 x83 ch) [⟨AK g w_ p l q o u y ab z ac aa ad,some 115⟩,⟨[.slice az s.length a1],some 123⟩,⟨Be x52,none⟩,⟨[.int .i64 x_v21],some 3⟩,⟨Be x52,some 153⟩,⟨El au x59 av,none⟩,⟨Gk x76,none⟩,⟨Ht bc x80 be,none⟩,⟨[],none⟩,⟨[],none⟩] [⟨az,s.length,a1,122,1,List.map Value.map bd,0⟩] ip:=dg
       refine hK _ _ (AZ.peek (AZ.peek dg.plOk dg 0 8 rfl rfl ct [.map (some gg)] (db _)) dg 0 9 rfl rfl dl [.map (some dj)] (ei _)) ?_
       have mh:Kn 101 (O2 d f ae af x_v21 ag ah ai aj a0 a2 a4 a5 b3 x83 ch) [] pg:=g1.kp
       refine Ay (by kernel_rfl) ?_
       have qc:=mh
       have hg:Ah gb b6 [(d,0),(f,0),(ae,af+(x_v21:Int).toNat*3),(ag,0),(ah,0),(ai,aj+(x_v21:Int).toNat*2),(a0,a2+(x_v21:Int).toNat*3),(a4,a5+(x_v21:Int).toNat*2),(b3,0+(x83:Int).toNat*1),(ch,0+(x83:Int).toNat*1)] [⟨[.slice g w_.route.legs.length p,.int .i64 w_.route.turn.lo,.int .i64 w_.route.turn.hi,.slice l w_.route.buses.length q,.slice o w_.route.spares.length u,.int .i64 w_.route.unit,.int .i64 w_.route.gap,.int .i64 w_.route.fr,.int .i64 w_.route.to_,.slice y w_.acts.holds.length ab,.slice z w_.acts.turns.length ac,.slice aa w_.acts.spares.length ad],some 115⟩,⟨[.slice az du.length a1],some 123⟩,⟨[.int .i64 x52.stop,.int .i64 x52.tm,.int .i64 x52.turned],none⟩,⟨[.int .i64 x_v21],some 3⟩,⟨[.int .i64 x52.stop,.int .i64 x52.tm,.int .i64 x52.turned],some 153⟩,⟨[.slice au x59.legs.length av,.int .i64 x59.turn],none⟩,⟨[.int .i64 x76.stop,.int .i64 x76.tm,.int .i64 x76.turned],none⟩,⟨[.slice bc x80.legs.length be,.int .i64 x80.turn],none⟩,⟨[],none⟩,⟨[],none⟩] [⟨az,du.length,a1,122,1,List.map Value.map bd,0⟩] ip:=by rw [← nt]; exact dg
       obtain rfl:=XZ bn
       refine⟨hg.ext g6.loop,?_⟩
       rw [ia.eq]
       obtain⟨iz,m5,jw,nl⟩:=Ah.loopStep hg g6 cd
       have km:=AU.up gy jw
       exact⟨rfl,b6,Ae.le_refl _,iz,az,a1,bd,m5,(nl).cutPl 8 (by kernel_rfl),km,mx⟩
      ·
       intro pr jo
       obtain⟨j1,_,kt⟩:=jo
       obtain⟨pt,e4,e6,gh,g7,ho,kn,my⟩:=kt
       refine⟨ho.ext g7.loop,?_⟩
       obtain⟨gc,g8,jx,eu⟩:=Ah.loopStep ho g7 { cd with state:=.exhausted }
       have ko:=AU.up kn jx
       replace eu:Ah gc j1 (KB d f ae af x_v21 ag ah ai aj a0 a2 a4 a5) [⟨AK g w_ p l q o u y ab z ac aa ad,some 115⟩,⟨[.slice e4 f1.length e6],some 123⟩,⟨Be x52,none⟩,⟨[.int .i64 x_v21],some 3⟩,⟨Be x52,some 153⟩,⟨El au x59 av,none⟩,⟨Gk x76,none⟩,⟨Ht bc x80 be,none⟩] [⟨e4,f1.length,e6,122,1,List.map Value.map gh,0⟩] (World.putObj pr ((c4).heap.size+1) (.loop { cd with state:=.exhausted })):=eu
       refine Aa (Rk 0 2 ((tI 49 (IntKind.i64.wrap (x_v21+1)))::(Db x35 am an ap x44 ar ao aq ak al)) fj eu fun ra mj=>?_)
       refine wf ?_
       exact XY c1 ⟨Nat.lt_succ_self _,XY f1 ⟨IntKind.i64.wrap (x_v21+1),e4,e6,gh,gc,((c4).heap.size::((ce).heap.size::co)),_,_,rfl,(mj.keep [49,48,47,8,7,6,3,1] (by rfl)).cut 2 (by kernel_rfl),eu.cutPl 2 (by kernel_rfl),XU br (XU bp (XU bk (XU bf my))),ko,g8.of,g8.marks,a3⟩⟩
    ·
     rw [e9,XV] at a3
     refine wp_exit ?_
     obtain rfl:=XZ a3
     exact XY ba ⟨bb,bv,bq,co,_,_,rfl,fh.kp,et,br,ej,hy,hr⟩
  ·
   rintro _ iq ⟨bu,bw,c7,di,d7,f3,eh,rfl,ml,hp,qd,kg,nw,np⟩
   refine XT (Aa (Rk 0 2 [tS 2 bu dh.length bw] ml hp fun ph mm=>?_))
   refine wf (wp_ret ?_)
   obtain⟨cl,gi,H⟩:=Aq H
   obtain⟨j2,gd,qe,nx,nq,nm,fe⟩:=kg.settleAll hp nw np gi
   have hu:dh.length=(cl.map EY.mk).length:=by rw [Qj gi]; simp
   have mo:Kn 101 [(d,0),(f,0)] [(2,.one (.c (.slice bu ((cl.map EY.mk).length) bw)))] ph:=by rw [← hu]; exact mm
   have hq:Ah gd j2 [(d,0),(f,0)] [⟨[.slice g w_.route.legs.length p,.int .i64 w_.route.turn.lo,.int .i64 w_.route.turn.hi,.slice l w_.route.buses.length q,.slice o w_.route.spares.length u,.int .i64 w_.route.unit,.int .i64 w_.route.gap,.int .i64 w_.route.fr,.int .i64 w_.route.to_,.slice y w_.acts.holds.length ab,.slice z w_.acts.turns.length ac,.slice aa w_.acts.spares.length ad],some 115⟩,⟨[.slice bu ((cl.map EY.mk).length) bw],some 123⟩] [⟨bu,(cl.map EY.mk).length,bw,122,1,List.map Value.map c7,0⟩] iq:=by rw [← hu]; exact nm
   obtain⟨gq,mz,oi,fv⟩:=hq.settle (i:=0) rfl
   replace fe:=fe.mono mz
   replace fv:Ah gd gq [(d,0),(f,0)] [⟨AK g w_ p l q o u y ab z ac aa ad,some 115⟩,⟨[.slice bu ((cl.map EY.mk).length) bw],some 123⟩] [⟨bu,(cl.map EY.mk).length,bw,122,1,List.map Value.map c7,((List.map Value.map c7):List Value).length⟩] iq:=fv
   have oh:A6 gq bu bw (cl.map EY.mk):=⟨_,fe,oi,hq.rowCap (i:=0) rfl⟩
   obtain rfl:=XZ H
   exact T9 (bs:=d7) (.one (.c (.slice bu ((cl.map EY.mk).length) bw))) mo fv nq nx (by kernel_rfl) ⟨_,_,rfl,oh⟩
end Go.Proofs.Ytokchpjijlebiaa
