/- Each call computes its plain function. -/
import Derived.Test.YtokchpjijlebiaaProg
import Derived.Test.YtokchpjijlebiaaNQP0
import Derived.Test.YtokchpjijlebiaaNQWP
import Derived.Test.YtokchpjijlebiaaNQWR
import Derived.Test.YtokchpjijlebiaaNQWU
set_option linter.all false
namespace Go.Proofs.Ytokchpjijlebiaa
open Go Go.RowKit
open Rep (rep)
open KRep (kv)
open VRep (rv)
abbrev EG (az:Option Addr) (x59:A9) (a0:Nat):List SC:=[.slice az x59.legs.length a0,.int .i64 x59.turn]
abbrev Hy (bh:Option Addr) (x80:A9) (bi:Nat):List SC:=[.slice bh x80.legs.length bi,.int .i64 x80.turn]
abbrev BK (x52:Bm):List SC:=[.int .i64 x52.stop,.int .i64 x52.tm,.int .i64 x52.turned]
abbrev Gi (x76:Bm):List SC:=[.int .i64 x76.stop,.int .i64 x76.tm,.int .i64 x76.turned]
abbrev HP (d y ac ag:Nat) (x_v21:Int) (ah ai aj ak:Nat):AG:=[(d,0),(y,0),(ac,ag+(x_v21:Int).toNat*3),(ah,0),(ai,0),(aj,ak+(x_v21:Int).toNat*2)]
abbrev IU (d y ac ag:Nat) (x_v21:Int) (ah ai aj ak a1 a2 a4 a6:Nat):AG:=[(d,0),(y,0),(ac,ag+(x_v21:Int).toNat*3),(ah,0),(ai,0),(aj,ak+(x_v21:Int).toNat*2),(a1,a2+(x_v21:Int).toNat*3),(a4,a6+(x_v21:Int).toNat*2)]
abbrev DA (f:Option Addr) (w_:AC) (p:Nat) (g:Option Addr) (q:Nat) (l:Option Addr) (u:Nat):List SC:=[.slice f w_.route.legs.length p,.int .i64 w_.route.turn.lo,.int .i64 w_.route.turn.hi,.slice g w_.route.buses.length q,.slice l w_.route.spares.length u,.int .i64 w_.route.unit,.int .i64 w_.route.gap,.int .i64 w_.route.fr,.int .i64 w_.route.to_]
abbrev NU (d y ac ag:Nat) (x_v21:Int) (ah ai aj ak a1 a2 a4 a6 bv:Nat) (x83:Int) (b6:Nat):AG:=[(d,0),(y,0),(ac,ag+(x_v21:Int).toNat*3),(ah,0),(ai,0),(aj,ak+(x_v21:Int).toNat*2),(a1,a2+(x_v21:Int).toNat*3),(a4,a6+(x_v21:Int).toNat*2),(bv,0+(x83:Int).toNat*1),(b6,0+(x83:Int).toNat*1)]
abbrev Cp (f:Option Addr) (w_:AC) (p:Nat) (g:Option Addr) (q:Nat) (l:Option Addr) (u:Nat) (z:Option Addr) (ad:Nat) (aa:Option Addr) (ae:Nat) (ab:Option Addr) (af:Nat):List SC:=[.slice f w_.route.legs.length p,.int .i64 w_.route.turn.lo,.int .i64 w_.route.turn.hi,.slice g w_.route.buses.length q,.slice l w_.route.spares.length u,.int .i64 w_.route.unit,.int .i64 w_.route.gap,.int .i64 w_.route.fr,.int .i64 w_.route.to_,.slice z w_.acts.holds.length ad,.slice aa w_.acts.turns.length ae,.slice ab w_.acts.spares.length af]
abbrev CH (x35:(List Bm)×(List A9)) (an:Option Addr) (ao:Nat) (aq:Option Addr) (x44:(List Bm)×(List A9)) (au:Nat) (ap:Option Addr) (ar:Nat) (al:Option Addr) (am:Nat):TM:=[tI 48 ((x35.1.length:Nat):Int),tS 47 an x35.1.length ao,tS 8 aq x44.2.length au,tS 7 ap x44.1.length ar,tS 6 al x35.2.length am,tP 3 1 0,tP 1 0 0]
set_option maxRecDepth 100000 in
set_option maxHeartbeats 4000000 in
theorem Dh (n:Nat) {h:Ad} {w:World} (hh:Dv h w) (w_:AC) {cs_w_:List Value} (hx_w_:rep h w_ cs_w_) {r:List (EA Int Rg)} (H:Ck n w_=some r) :
  Calls Try.prog 65 #[.agg cs_w_.toArray] w (D6 (fun h v=>∃ a c,v=.slice a r.length c∧Ar h a c r) h w):=by
 obtain⟨_,_,rfl,⟨_,_,rfl,⟨f,p,rfl,av⟩,⟨_,_,rfl,⟨_,_,rfl,rfl,rfl⟩,⟨_,_,rfl,⟨g,q,rfl,aw⟩,⟨_,_,rfl,⟨l,u,rfl,ax⟩,⟨_,_,rfl,rfl,⟨_,_,rfl,rfl,⟨_,_,rfl,rfl,rfl⟩⟩⟩⟩⟩⟩⟩,⟨_,_,rfl,⟨z,ad,rfl,bc⟩,⟨_,_,rfl,⟨aa,ae,rfl,bd⟩,⟨ab,af,rfl,be⟩⟩⟩⟩:=hx_w_
 refine NG (e:=[]) 101 [.agg (Cp f w_ p g q l u z ad aa ae ab af)] Try.func65 rfl rfl rfl rfl fun t hk=>?_
 have hm:=Ah.begin h w hh
 unfold Ck at H
 refine QT (Ab (wl fun K hK=>?_))
 refine wb (.agg (Cp f w_ p g q l u z ad aa ae ab af)) hk hm fun d o0 rk (k8:Kn 101 [(d,0)] [tP 1 0 0,tA 0 (Cp f w_ p g q l u z ad aa ae ab af)] o0) ep=>hK _ _ ?_
 refine Rk 1 1 [tP 1 0 0] k8 ep fun qk lb=>?_
 refine wf (QT (Ab (Rk 0 2 [tA 16 (DA f w_ p g q l u),tP 1 0 0] lb ep fun qo lh=>?_)))
 obtain⟨x17,ex17,H⟩:=A3 H
 refine wl fun K hK=>?_
 refine wc [.agg (DA f w_ p g q l u)] lh ep (BJ n ep.has w_.route ((Aa (Ae av) (Aa (Aa Ac Ac) (Aa (Ae aw) (Aa (Ae ax) (Aa Ac (Aa Ac (Aa Ac Ac))))))):rep h w_.route _) ex17) fun rb ef rq jj c6 nc=>?_
 replace av:=av.mono c6
 replace aw:=aw.mono c6
 replace ax:=ax.mono c6
 replace bc:=bc.mono c6
 replace bd:=bd.mono c6
 replace be:=be.mono c6
 obtain rfl:=jj
 refine⟨.one (.c (.int .i64 x17)),rfl,fun o5 (lv:Kn 101 [(d,0)] [tI 17 x17,tA 16 (DA f w_ p g q l u),tP 1 0 0] o5)=>hK _ _ ?_⟩
 obtain⟨x18,ex18,H⟩:=A3 H
 obtain⟨nz,n4,h8⟩:=LO ex18
 refine wl fun K hK=>?_
 refine Gs 122 1 8 [.map none] (x17) lv nc rfl rfl (by decide) (by rfl) (by kernel_rfl) (by kernel_rfl) (by rfl) nz n4 (by decide) fun cx pa pi (gu:Kn 101 [(d,0)] [(18,.one (.c (.slice cx ((x17:Int).toNat) ((x17:Int).toNat)))),(17,.one (.c (.int .i64 x17))),(16,.one (.agg [.slice f w_.route.legs.length p,.int .i64 w_.route.turn.lo,.int .i64 w_.route.turn.hi,.slice g w_.route.buses.length q,.slice l w_.route.spares.length u,.int .i64 w_.route.unit,.int .i64 w_.route.gap,.int .i64 w_.route.fr,.int .i64 w_.route.to_])),(1,.one (.c (.ptr 0 0)))] pa) (fo:Ah ⟨w,h,Az⟩ ef [(d,0)] [⟨[.slice f w_.route.legs.length p,.int .i64 w_.route.turn.lo,.int .i64 w_.route.turn.hi,.slice g w_.route.buses.length q,.slice l w_.route.spares.length u,.int .i64 w_.route.unit,.int .i64 w_.route.gap,.int .i64 w_.route.fr,.int .i64 w_.route.to_,.slice z w_.acts.holds.length ad,.slice aa w_.acts.turns.length ae,.slice ab w_.acts.spares.length af],some 115⟩] [⟨cx,(x17:Int).toNat,(x17:Int).toNat,122,1,List.flatten (List.replicate (x17:Int).toNat ([.map none]:List Value)),0⟩] pi)=>?_
 obtain⟨ix,j5,ki⟩:∃ bs:List (Option Nat),List.flatten (List.replicate (x17:Int).toNat ([.map none]:List Value))=List.map Value.map bs∧AI ef ⟨w,h,Az⟩ bs x18:=⟨List.replicate (x17:Int).toNat none,O9 _,by rw [h8]; exact AI.nils _⟩
 have mr:(x17:Int).toNat=x18.length:=by rw [h8]; simp
 rw [j5] at fo
 rw [mr] at gu fo
 refine hK _ _ ?_
 refine wl fun K hK=>?_
 refine wa [.slice none 0 0] gu fo fun y ie rr (ma:Kn 101 [(d,0),(y,0)] [tP 3 1 0,tS 18 cx x18.length x18.length,tI 17 x17,tA 16 (DA f w_ p g q l u),tP 1 0 0] ie) nh=>hK _ _ ?_
 refine wl fun K hK=>?_
 refine Ea 1 0 (.c (.slice cx x18.length x18.length)) [.slice cx x18.length x18.length] ma nh fun rs me ha=>hK _ _ ?_
 have mg:Kn 101 [(d,0),(y,0)] [tP 3 1 0,tP 1 0 0] ie:=me.kp
 refine wf (QT (QT (Ab (Rk 0 3 [tI 21 0,tI 20 ((x18.length:Nat):Int),tP 3 1 0,tP 1 0 0] mg ha fun q2 ml=>?_))))
 refine wf ?_
 obtain⟨cp,gd,H⟩:=A3 H
 refine A7 (fun a' w'=>∃ (cy:Option Addr)(c1:Nat)(d5:List (Option Nat))(cv:Fr)(d6:List Nat)(f0:Array Value)(cf:Ad),a' = ⟨f0,List.map I7 d6⟩∧Kn 101 [(d,0),(y,0)] [tP 3 1 0,tP 1 0 0] f0∧Ah cv cf [(d,0),(y,0)] [⟨Cp f w_ p g q l u z ad aa ae ab af,some 115⟩,⟨[.slice cy cp.length c1],some 123⟩] [⟨cy,cp.length,c1,122,1,List.map Value.map d5,0⟩] w'∧Ad.le ef cf∧AI cf cv d5 cp∧Fr.Of w h cv∧DQ cv d6) ?_ ?_
 ·
  refine wp_block ?_
  refine A5 (fun ow a' w'=>∃ (x_v10:List (Option (List (Int×Rg))))(x_v11:Int)(a9:Option Addr)(ba:Nat)(bk:List (Option Nat))(b5:Fr)(df:List Nat)(f1:Array Value)(bw:Ad),a' = ⟨f1,List.map I7 df⟩∧Kn 101 [(d,0),(y,0)] [tI 21 x_v11,tI 20 ((x18.length:Nat):Int),tP 3 1 0,tP 1 0 0] f1∧Ah b5 bw [(d,0),(y,0)] [⟨Cp f w_ p g q l u z ad aa ae ab af,some 115⟩,⟨[.slice a9 x_v10.length ba],some 123⟩] [⟨a9,x_v10.length,ba,122,1,List.map Value.map bk,0⟩] w'∧Ad.le ef bw∧AI bw b5 bk x_v10∧Fr.Of w h b5∧DQ b5 df∧B1 ow x18 x_v10 x_v11=some cp) n ?_ ?_
  ·
   exact QY x18 ⟨0,cx,x18.length,ix,⟨w,h,Az⟩,([]:List Nat),_,_,rfl,ml.kp,ha,Ad.le_refl _,ki,⟨rfl,rfl⟩,DQ.nil _,gd⟩
  ·
   rintro fv _ pk ⟨x_v10,x_v11,a9,ba,bk,b5,df,f1,bw,rfl,mn,dk,gw,c4,ht,hg,bt⟩
   clear gd
   obtain _ | fv:=fv
   ·
    rw [B1] at bt; cases bt
   rw [B1] at bt
   refine QT (Ab (Rk 0 1 [tB 22 (decide (x_v11<((x18.length:Nat):Int))),tI 21 x_v11,tI 20 ((x18.length:Nat):Int),tP 3 1 0,tP 1 0 0] mn dk fun q4 ff=>?_))
   refine wf (QT (wC (decide (x_v11<((x18.length:Nat):Int))) ff (fun e8=>?_) (fun e8=>?_)))
   ·
    rw [e8,QW] at bt
    refine wp_skip (QT (wp_block (QT (Ab (Rk 0 2 [tI 4 x_v11,tI 21 x_v11,tI 20 ((x18.length:Nat):Int),tP 3 1 0,tP 1 0 0] ff dk fun q5 mo=>?_)))))
    refine wf (Ab (Rk 0 2 [tI 25 x_v11,tS 24 a9 x_v10.length ba,tI 21 x_v11,tI 20 ((x18.length:Nat):Int),tP 3 1 0,tP 1 0 0] mo dk fun q6 mp=>?_))
    refine wl fun K hK=>?_
    refine Kv mp dk rfl rfl (by decide) fun bq pg jw (ks:Kn 101 [(d,0),(y,0)] [(26,.one (.c (.map (some bq)))),tI 25 x_v11,tS 24 a9 x_v10.length ba,tI 21 x_v11,tI 20 ((x18.length:Nat):Int),tP 3 1 0,tP 1 0 0] pg) (g3:Ah (Fr.put b5 bq (some (.map #[] 0))) bw [(d,0),(y,0)] [⟨Cp f w_ p g q l u z ad aa ae ab af,some 115⟩,⟨[.slice a9 x_v10.length ba],some 123⟩] [⟨a9,x_v10.length,ba,122,1,List.map Value.map bk,0⟩] (World.alloc pk (.map #[] 0)))=>?_
    have jb:Du bw (#[]:Array MapEntry).toList 0 ([]:List (Int×Rg)):=Du.nil
    refine hK _ _ ?_
    obtain⟨x27,ex27,bt⟩:=A3 bt
    obtain⟨hu,hy,qa⟩:=Ak ex27
    have em:=AX hu hy
    obtain⟨qb,ns⟩:∃ ob,bk[(x_v11:Int).toNat]? = some ob:=⟨_,List.getElem?_eq_getElem (by rw [c4.len]; exact em)⟩
    obtain⟨ca,gl⟩:=Bo g3 (i:=0) rfl (b0:=0+(x_v11:Int).toNat*1) (by show _<(List.map Value.map bk).length; rw [List.length_map,c4.len]; omega)
    have m4:=g3.addPlc (b:=ca) (o:=0+(x_v11:Int).toNat*1) (cs:=[]) (fun j c hj=>by simp at hj) rfl (by kernel_rfl) (by kernel_rfl)
    have p3:=IF ns
    refine A6 3 (x_v11) rfl rfl (rfl) rfl (by decide) ks (by rfl) (by rfl) (by rfl) gl (by rfl) hu hy (by kernel_rfl) fun fx (kt:Kn 101 [(d,0),(y,0),(ca,0+(x_v11:Int).toNat*1)] [tP 27 2 0,(26,.one (.c (.map (some bq)))),tI 25 x_v11,tS 24 a9 x_v10.length ba,tI 21 x_v11,tI 20 ((x18.length:Nat):Int),tP 3 1 0,tP 1 0 0] fx)=>?_
    obtain⟨ct,i3,bt⟩:=A3 bt
    obtain⟨p8,p9,h6⟩:=Cm i3
    refine wl fun K hK=>?_
    refine BO 0 2 0 (0+(x_v11:Int).toNat*1) (.c (.map (some bq))) kt m4 rfl rfl (by rfl) (by rfl) rfl rfl gl rfl (by kernel_rfl) (by show 0+(x_v11:Int).toNat*1+0+1≤(List.map Value.map bk).length; rw [List.length_map,c4.len]; have:=em; omega) fun f2 ku m5=>?_
    have oh:=Pq (bs:=bk) (k:=(x_v11:Int).toNat) bq (by rw [c4.len]; exact em)
    have m6:Ah (Fr.put b5 bq (some (.map #[] 0))) bw [(d,0),(y,0),(ca,0+(x_v11:Int).toNat*1)] [⟨[.slice f w_.route.legs.length p,.int .i64 w_.route.turn.lo,.int .i64 w_.route.turn.hi,.slice g w_.route.buses.length q,.slice l w_.route.spares.length u,.int .i64 w_.route.unit,.int .i64 w_.route.gap,.int .i64 w_.route.fr,.int .i64 w_.route.to_,.slice z w_.acts.holds.length ad,.slice aa w_.acts.turns.length ae,.slice ab w_.acts.spares.length af],some 115⟩,⟨[.slice a9 x_v10.length ba],some 123⟩,⟨[],none⟩] [⟨a9,x_v10.length,ba,122,1,List.map Value.map (bk.set (x_v11:Int).toNat (some bq)),0⟩] f2:=by rw [← oh]; exact m5
    have hl:x_v10.length=ct.length:=by rw [h6]; simp
    obtain⟨ex,nt,nl,gp,m7⟩:=AI.take c4 m6 jw jb em ht hg
    rw [← h6] at gp
    have kv:Kn 101 [(d,0),(y,0),(ca,0+(x_v11:Int).toNat*1)] [(27,.one (.c (.ptr 2 0))),(26,.one (.c (.map (some bq)))),(25,.one (.c (.int .i64 x_v11))),(24,.one (.c (.slice a9 ct.length ba))),(21,.one (.c (.int .i64 x_v11))),(20,.one (.c (.int .i64 ((x18.length:Nat):Int)))),(3,.one (.c (.ptr 1 0))),(1,.one (.c (.ptr 0 0)))] fx:=by rw [← hl]; exact ku
    have en:Ah ex bw [(d,0),(y,0),(ca,0+(x_v11:Int).toNat*1)] [⟨[.slice f w_.route.legs.length p,.int .i64 w_.route.turn.lo,.int .i64 w_.route.turn.hi,.slice g w_.route.buses.length q,.slice l w_.route.spares.length u,.int .i64 w_.route.unit,.int .i64 w_.route.gap,.int .i64 w_.route.fr,.int .i64 w_.route.to_,.slice z w_.acts.holds.length ad,.slice aa w_.acts.turns.length ae,.slice ab w_.acts.spares.length af],some 115⟩,⟨[.slice a9 ct.length ba],some 123⟩,⟨[],none⟩] [⟨a9,ct.length,ba,122,1,List.map Value.map (bk.set (x_v11:Int).toNat (some bq)),0⟩] f2:=by rw [← hl]; exact m7
    replace en:Ah ex bw [(d,0),(y,0),(ca,0+(x_v11:Int).toNat*1)] [⟨Cp f w_ p g q l u z ad aa ae ab af,some 115⟩,⟨[.slice a9 ct.length ba],some 123⟩,⟨[],none⟩] [⟨a9,ct.length,ba,122,1,List.map Value.map (bk.set (x_v11:Int).toNat (some bq)),0⟩] f2:=en
    refine hK _ _ ?_
    have kw:Kn 101 [(d,0),(y,0),(ca,0+(x_v11:Int).toNat*1)] [tI 21 x_v11,tI 20 ((x18.length:Nat):Int),tP 3 1 0,tP 1 0 0] fx:=kv.kp
    refine wf (Ab (Rk 0 2 [tI 21 (IntKind.i64.wrap (x_v11+1)),tI 20 ((x18.length:Nat):Int),tP 3 1 0,tP 1 0 0] kw en fun qe kx=>?_))
    refine wf ?_
    exact QY fv ⟨Nat.lt_succ_self _,QY ct ⟨IntKind.i64.wrap (x_v11+1),a9,ba,bk.set (x_v11:Int).toNat (some bq),ex,df,_,_,rfl,(kx.keep [21,20,3,1] (by rfl)).cut 2 (by kernel_rfl),en.cutPl 2 (by kernel_rfl),gw,gp,nt,nl,bt⟩⟩
   ·
    rw [e8,QV] at bt
    refine wp_exit ?_
    obtain rfl:=QZ bt
    exact QY a9 ⟨ba,bk,b5,df,_,_,rfl,ff.kp,dk,gw,c4,ht,hg⟩
 ·
  rintro _ rf ⟨cy,c1,d5,cv,d6,f0,cf,rfl,ky,dh,c5,fb,nw,np⟩
  replace av:=av.mono c5
  replace aw:=aw.mono c5
  replace ax:=ax.mono c5
  refine QT (Ao (by kernel_rfl) ?_)
  replace dh:=dh.drew
  refine At [] [(d,0),(y,0)] [⟨Cp f w_ p g q l u z ad aa ae ab af,some 115⟩,⟨[.slice cy cp.length c1],some 123⟩] ?_
  refine Dr [0,1,2,3] (dn 3) [tA 33 [.func (.func 68) #[] #[]],tA 32 (DA f w_ p g q l u),tA 30 (Cp f w_ p g q l u z ad aa ae ab af),tP 3 1 0,tP 1 0 0] ky dh fun qf kz=>?_
  obtain⟨x34,ex34,H⟩:=A3 H
  refine Dl 4 fun K hK=>?_
  refine wc [.agg (DA f w_ p g q l u),.agg [.func (.func 68) #[] #[]]] kz dh (EF n dh.has w_.route ((Aa (Ae av) (Aa (Aa Ac Ac) (Aa (Ae aw) (Aa (Ae ax) (Aa Ac (Aa Ac (Aa Ac Ac))))))):rep cf w_.route _) (Gl.mk (fun(y0:Rg)=>Aj n y0)) (⟨_,_,_,rfl,(show Mt cf (.func (.func 68) #[] #[]) (fun(y0:Rg)=>Aj n y0) from fun h2 w2 hle hh y0 cs0 hy0 r H=>⟨68,_,_,rfl,fun _ _=>by kernel_rfl,AO n hh y0 hy0 H⟩)⟩:rep cf (Gl.mk (fun(y0:Rg)=>Aj n y0)) _) ex34) fun q7 gh rg je ci fi=>?_
  replace av:=av.mono ci
  replace aw:=aw.mono ci
  replace ax:=ax.mono ci
  replace bc:=bc.mono (QU c5 ci)
  replace bd:=bd.mono (QU c5 ci)
  replace be:=be.mono (QU c5 ci)
  obtain⟨_,rfl,⟨_,_,rfl,⟨dr,d7,rfl,n7⟩,⟨_,_,rfl,⟨ds,d8,rfl,n8⟩,⟨dt,d9,rfl,n9⟩⟩⟩⟩:=je
  refine⟨.one (.agg [.slice dr x34.tm.length d7,.slice ds x34.turns.length d8,.slice dt x34.legs.length d9]),rfl,fun ox (k0:Kn 101 [(d,0),(y,0)] [tA 34 [.slice dr x34.tm.length d7,.slice ds x34.turns.length d8,.slice dt x34.legs.length d9],tA 33 [.func (.func 68) #[] #[]],tA 32 (DA f w_ p g q l u),tA 30 (Cp f w_ p g q l u z ad aa ae ab af),tP 3 1 0,tP 1 0 0] ox)=>hK _ _ fi.plOk ?_⟩
  obtain⟨x35,ex35,H⟩:=A3 H
  refine Dl 5 fun K hK=>?_
  refine wc [.agg (Cp f w_ p g q l u z ad aa ae ab af),.agg [.slice dr x34.tm.length d7,.slice ds x34.turns.length d8,.slice dt x34.legs.length d9]] k0 fi (Df n fi.has w_ ((Aa (Aa (Ae av) (Aa (Aa Ac Ac) (Aa (Ae aw) (Aa (Ae ax) (Aa Ac (Aa Ac (Aa Ac Ac))))))) (Aa (Ae bc) (Aa (Ae bd) (Ae be)))):rep gh w_ _) x34 ((Aa (Ae n7) (Aa (Ae n8) (Ae n9))):rep gh x34 _) ex35) fun q8 e2 rh jf cj ck=>?_
  replace av:=av.mono cj
  replace aw:=aw.mono cj
  replace ax:=ax.mono cj
  obtain⟨_,_,rfl,⟨an,ao,rfl,b1⟩,⟨al,am,rfl,b2⟩⟩:=jf
  refine⟨.tup [.c (.slice an x35.1.length ao),.c (.slice al x35.2.length am)],rfl,fun oy (k1:Kn 101 [(d,0),(y,0)] [(35,.tup [.c (.slice an x35.1.length ao),.c (.slice al x35.2.length am)]),tA 34 [.slice dr x34.tm.length d7,.slice ds x34.turns.length d8,.slice dt x34.legs.length d9],tA 33 [.func (.func 68) #[] #[]],tA 32 (DA f w_ p g q l u),tA 30 (Cp f w_ p g q l u z ad aa ae ab af),tP 3 1 0,tP 1 0 0] oy)=>hK _ _ ck.plOk ?_⟩
  refine Dr [6,7,8,9,10] (dn 10) [tS 6 al x35.2.length am,tS 5 an x35.1.length ao,tP 3 1 0,tP 1 0 0] k1 ck fun qg k2=>?_
  refine AH (by kernel_rfl) (QT (Ao (by kernel_rfl) ?_))
  replace ck:=ck.drew
  refine At [] [(d,0),(y,0)] [⟨Cp f w_ p g q l u z ad aa ae ab af,some 115⟩,⟨[.slice cy cp.length c1],some 123⟩] ?_
  refine Dr [0,1,2,3] (dn 3) [tA 42 [.func (.func 69) #[] #[]],tA 41 (DA f w_ p g q l u),tA 39 (Cp f w_ p g q l u z ad aa ae ab af),tS 6 al x35.2.length am,tS 5 an x35.1.length ao,tP 3 1 0,tP 1 0 0] k2 ck fun qh k3=>?_
  obtain⟨x43,ex43,H⟩:=A3 H
  refine Dl 4 fun K hK=>?_
  refine wc [.agg (DA f w_ p g q l u),.agg [.func (.func 69) #[] #[]]] k3 ck (EF n ck.has w_.route ((Aa (Ae av) (Aa (Aa Ac Ac) (Aa (Ae aw) (Aa (Ae ax) (Aa Ac (Aa Ac (Aa Ac Ac))))))):rep e2 w_.route _) (Gl.mk (fun(y0:Rg)=>Ap n y0)) (⟨_,_,_,rfl,(show Mt e2 (.func (.func 69) #[] #[]) (fun(y0:Rg)=>Ap n y0) from fun h2 w2 hle hh y0 cs0 hy0 r H=>⟨69,_,_,rfl,fun _ _=>by kernel_rfl,Ca n hh y0 hy0 H⟩)⟩:rep e2 (Gl.mk (fun(y0:Rg)=>Ap n y0)) _) ex43) fun q9 gi ri jg bx fj=>?_
  replace av:=av.mono bx
  replace aw:=aw.mono bx
  replace ax:=ax.mono bx
  replace bc:=bc.mono (QU cj bx)
  replace bd:=bd.mono (QU cj bx)
  replace be:=be.mono (QU cj bx)
  obtain⟨_,rfl,⟨_,_,rfl,⟨du,ea,rfl,oa⟩,⟨_,_,rfl,⟨dv,eb,rfl,oc⟩,⟨dw,ec,rfl,od⟩⟩⟩⟩:=jg
  refine⟨.one (.agg [.slice du x43.tm.length ea,.slice dv x43.turns.length eb,.slice dw x43.legs.length ec]),rfl,fun oz (k4:Kn 101 [(d,0),(y,0)] [tA 43 [.slice du x43.tm.length ea,.slice dv x43.turns.length eb,.slice dw x43.legs.length ec],tA 42 [.func (.func 69) #[] #[]],tA 41 (DA f w_ p g q l u),tA 39 (Cp f w_ p g q l u z ad aa ae ab af),tS 6 al x35.2.length am,tS 5 an x35.1.length ao,tP 3 1 0,tP 1 0 0] oz)=>hK _ _ fj.plOk ?_⟩
  obtain⟨x44,ex44,H⟩:=A3 H
  refine Dl 5 fun K hK=>?_
  refine wc [.agg (Cp f w_ p g q l u z ad aa ae ab af),.agg [.slice du x43.tm.length ea,.slice dv x43.turns.length eb,.slice dw x43.legs.length ec]] k4 fj (Df n fj.has w_ ((Aa (Aa (Ae av) (Aa (Aa Ac Ac) (Aa (Ae aw) (Aa (Ae ax) (Aa Ac (Aa Ac (Aa Ac Ac))))))) (Aa (Ae bc) (Aa (Ae bd) (Ae be)))):rep gi w_ _) x43 ((Aa (Ae oa) (Aa (Ae oc) (Ae od))):rep gi x43 _) ex44) fun ra gj rj jh bz eo=>?_
  replace av:=av.mono bz
  replace aw:=aw.mono bz
  replace ax:=ax.mono bz
  replace bc:=bc.mono bz
  replace bd:=bd.mono bz
  replace be:=be.mono bz
  replace b1:=b1.mono (QU bx bz)
  replace b2:=b2.mono (QU bx bz)
  replace fb:=fb.mono (QU (QU (QU ci cj) bx) bz)
  obtain⟨_,_,rfl,⟨ap,ar,rfl,b3⟩,⟨aq,au,rfl,b4⟩⟩:=jh
  refine⟨.tup [.c (.slice ap x44.1.length ar),.c (.slice aq x44.2.length au)],rfl,fun o1 (k5:Kn 101 [(d,0),(y,0)] [(44,.tup [.c (.slice ap x44.1.length ar),.c (.slice aq x44.2.length au)]),tA 43 [.slice du x43.tm.length ea,.slice dv x43.turns.length eb,.slice dw x43.legs.length ec],tA 42 [.func (.func 69) #[] #[]],tA 41 (DA f w_ p g q l u),tA 39 (Cp f w_ p g q l u z ad aa ae ab af),tS 6 al x35.2.length am,tS 5 an x35.1.length ao,tP 3 1 0,tP 1 0 0] o1)=>hK _ _ eo.plOk ?_⟩
  refine Dr [6,7,8,9,10] (dn 10) [tS 8 aq x44.2.length au,tS 7 ap x44.1.length ar,tS 6 al x35.2.length am,tS 5 an x35.1.length ao,tP 3 1 0,tP 1 0 0] k5 eo fun qi k6=>?_
  refine AH (by kernel_rfl) (QT (QT (Ab (Rk 0 3 ((tI 49 0)::(CH x35 an ao aq x44 au ap ar al am)) k6 eo fun qj k7=>?_))))
  refine wf ?_
  obtain⟨c9,gc,H⟩:=A3 H
  refine A7 (fun a' w'=>∃ (bp:Option Addr)(br:Nat)(cz:List (Option Nat))(db:Fr)(d4:List Nat)(fy:Array Value)(ee:Ad),a' = ⟨fy,List.map I7 d4⟩∧Kn 101 [(d,0),(y,0)] [tP 3 1 0] fy∧Ah db ee [(d,0),(y,0)] [⟨Cp f w_ p g q l u z ad aa ae ab af,some 115⟩,⟨[.slice bp c9.length br],some 123⟩] [⟨bp,c9.length,br,122,1,List.map Value.map cz,0⟩] w'∧Ad.le gj ee∧AI ee db cz c9∧Fr.Of w h db∧DQ db d4) ?_ ?_
  ·
   refine wp_block ?_
   refine A5 (fun ov a' w'=>∃ (x_v20:List (Option (List (Int×Rg))))(x_v21:Int)(cw:Option Addr)(c0:Nat)(de:List (Option Nat))(cu:Fr)(cb:List Nat)(fz:Array Value)(cd:Ad),a' = ⟨fz,List.map I7 cb⟩∧Kn 101 [(d,0),(y,0)] ((tI 49 x_v21)::(CH x35 an ao aq x44 au ap ar al am)) fz∧Ah cu cd [(d,0),(y,0)] [⟨Cp f w_ p g q l u z ad aa ae ab af,some 115⟩,⟨[.slice cw x_v20.length c0],some 123⟩] [⟨cw,x_v20.length,c0,122,1,List.map Value.map de,0⟩] w'∧Ad.le gj cd∧AI cd cu de x_v20∧Fr.Of w h cu∧DQ cu cb∧B2 ov w_ x35 x44 x_v20 x_v21=some c9) n ?_ ?_
   ·
    exact QY cp ⟨0,cy,c1,d5,cv,d6,_,_,rfl,k7.kp,eo,Ad.le_refl _,fb,nw,np,gc⟩
   ·
    rintro co _ rl ⟨x_v20,x_v21,cw,c0,de,cu,cb,fz,cd,rfl,k9,er,bn,ei,hs,hf,ay⟩
    clear gc
    obtain _ | co:=co
    ·
     rw [B2] at ay; cases ay
    rw [B2] at ay
    replace av:=av.mono bn
    replace aw:=aw.mono bn
    replace ax:=ax.mono bn
    replace bc:=bc.mono bn
    replace bd:=bd.mono bn
    replace be:=be.mono bn
    replace b1:=b1.mono bn
    replace b2:=b2.mono bn
    replace b3:=b3.mono bn
    replace b4:=b4.mono bn
    refine QT (Ab (Rk 0 1 ((tB 50 (decide (x_v21<((x35.1.length:Nat):Int))))::(tI 49 x_v21)::(CH x35 an ao aq x44 au ap ar al am)) k9 er fun ql fc=>?_))
    refine wf (QT (wC (decide (x_v21<((x35.1.length:Nat):Int))) fc (fun e4=>?_) (fun e4=>?_)))
    ·
     rw [e4,QW] at ay
     refine wp_skip (QT (wp_block (QT (Ab (Rk 0 1 ((tI 51 x_v21)::(tI 49 x_v21)::(CH x35 an ao aq x44 au ap ar al am)) fc er fun qm la=>?_)))))
     obtain⟨x52,ex52,ay⟩:=A3 ay
     obtain⟨nx,n2,om⟩:=Ak ex52
     obtain⟨ac,ag,pu,j1,oi,ka⟩:=b1.get (by decide) om
     obtain⟨_,_,rfl,rfl,⟨_,_,rfl,rfl,rfl⟩⟩:=oi
     have g4:=er.addPlc (b:=ac) (o:=ag+(x_v21:Int).toNat*3) (cs:=(BK x52)) (fun j c hj=>ka j _ (Al hj)) rfl (by kernel_rfl) (by kernel_rfl)
     refine A6 1 (x_v21) rfl rfl (rfl) rfl (by decide) la (by rfl) (by rfl) (by rfl) j1 (by rfl) nx n2 (by kernel_rfl) fun o2 (lc:Kn 101 [(d,0),(y,0),(ac,ag+(x_v21:Int).toNat*3)] ((tP 52 2 0)::(tI 51 x_v21)::(tI 49 x_v21)::(CH x35 an ao aq x44 au ap ar al am)) o2)=>?_
     refine Rk 2 1 ((tA 53 (BK x52))::(tI 51 x_v21)::(tI 49 x_v21)::(CH x35 an ao aq x44 au ap ar al am)) lc g4 fun qn ld=>?_
     refine wl fun K hK=>?_
     refine wa [.int .i64 0] ld g4 fun ah o3 rm (lf:Kn 101 [(d,0),(y,0),(ac,ag+(x_v21:Int).toNat*3),(ah,0)] ((tP 9 3 0)::(tA 53 (BK x52))::(tI 51 x_v21)::(tI 49 x_v21)::(CH x35 an ao aq x44 au ap ar al am)) o3) m8=>hK _ _ ?_
     refine wl fun K hK=>?_
     refine wa [.int .i64 0,.int .i64 0,.int .i64 0] lf m8 fun ai ia rn (lg:Kn 101 [(d,0),(y,0),(ac,ag+(x_v21:Int).toNat*3),(ah,0),(ai,0)] ((tP 10 4 0)::(tP 9 3 0)::(tA 53 (BK x52))::(tI 51 x_v21)::(tI 49 x_v21)::(CH x35 an ao aq x44 au ap ar al am)) ia) m9=>hK _ _ ?_
     refine wl fun K hK=>?_
     refine Ea 3 0 (.c (.int .i64 x_v21)) [.int .i64 x_v21] lg m9 fun ro li na=>hK _ _ ?_
     refine wl fun K hK=>?_
     refine Ea 4 0 (.agg (BK x52)) (BK x52) li na fun rp lj di=>hK _ _ ?_
     have lk:Kn 101 [(d,0),(y,0),(ac,ag+(x_v21:Int).toNat*3),(ah,0),(ai,0)] ((tP 10 4 0)::(tP 9 3 0)::(tI 49 x_v21)::(CH x35 an ao aq x44 au ap ar al am)) ia:=lj.kp
     refine wf (QT (QT (Ao (by kernel_rfl) ?_)))
     replace di:=di.drew
     refine At [] [(d,0),(y,0),(ac,ag+(x_v21:Int).toNat*3),(ah,0),(ai,0)] [⟨Cp f w_ p g q l u z ad aa ae ab af,some 115⟩,⟨[.slice cw x_v20.length c0],some 123⟩,⟨BK x52,none⟩,⟨[.int .i64 x_v21],some 3⟩,⟨BK x52,some 153⟩] ?_
     refine Dr [0,1,2,3,4] (dn 4) ((tI 58 x_v21)::(tS 57 al x35.2.length am)::(tA 56 (BK x52))::(tA 55 (DA f w_ p g q l u))::(tP 9 3 0)::(tI 49 x_v21)::(CH x35 an ao aq x44 au ap ar al am)) lk di fun qp ll=>?_
     obtain⟨x59,ex59,ay⟩:=A3 ay
     obtain⟨ny,n3,oo⟩:=Ak ex59
     obtain⟨aj,ak,pv,j2,oj,kb⟩:=b2.get (by decide) oo
     obtain⟨_,_,rfl,⟨az,a0,rfl,dl⟩,rfl⟩:=oj
     have fk:=di.addPlc (b:=aj) (o:=ak+(x_v21:Int).toNat*2) (cs:=(EG az x59 a0)) (fun j c hj=>kb j _ (Al hj)) rfl (by kernel_rfl) (by kernel_rfl)
     refine AY 5 (x_v21) (EG az x59 a0) (fun _ _ _ _ _ h=>h) rfl rfl (rfl) rfl (by decide) (by kernel_rfl) (by kernel_rfl) ll di.plOk (by rfl) (by rfl) (by rfl) j2 (by rfl) ny n3 (by kernel_rfl) fun o4 (lm:Kn 101 (HP d y ac ag x_v21 ah ai aj ak) ((tP 59 5 0)::(tI 58 x_v21)::(tS 57 al x35.2.length am)::(tA 56 (BK x52))::(tA 55 (DA f w_ p g q l u))::(tP 9 3 0)::(tI 49 x_v21)::(CH x35 an ao aq x44 au ap ar al am)) o4)=>?_
     refine Dr [6] (dn 6) ((tA 60 (EG az x59 a0))::(tA 56 (BK x52))::(tA 55 (DA f w_ p g q l u))::(tP 9 3 0)::(tI 49 x_v21)::(CH x35 an ao aq x44 au ap ar al am)) lm fk fun qq ln=>?_
     obtain⟨x61,ex61,ay⟩:=A3 ay
     refine Dl 7 fun K hK=>?_
     refine wc [.agg (DA f w_ p g q l u),.agg (BK x52),.agg (EG az x59 a0)] ln fk (Dg co fk.has w_.route ((Aa (Ae av) (Aa (Aa Ac Ac) (Aa (Ae aw) (Aa (Ae ax) (Aa Ac (Aa Ac (Aa Ac Ac))))))):rep cd w_.route _) x52 ((Aa Ac (Aa Ac Ac)):rep cd x52 _) x59 ((Aa (Ae dl) Ac):rep cd x59 _) ex61) fun rc jx da ji bm g5=>?_
     replace av:=av.mono bm
     replace aw:=aw.mono bm
     replace ax:=ax.mono bm
     replace bc:=bc.mono bm
     replace bd:=bd.mono bm
     replace be:=be.mono bm
     replace b1:=b1.mono bm
     replace b2:=b2.mono bm
     replace b3:=b3.mono bm
     replace b4:=b4.mono bm
     replace dl:=dl.mono bm
     replace ei:=ei.mono bm
     obtain⟨dy,dz,d0,rfl,e5,e6,e7⟩:=ji
     refine⟨.one (.c (.func (.func 106) #[] #[.pointer (some ⟨dy,0,none⟩),.pointer (some ⟨dz,0,none⟩),.pointer (some ⟨d0,0,none⟩)])),rfl,fun ib (lp:Kn 101 (HP d y ac ag x_v21 ah ai aj ak) ((61,.one (.c (.func (.func 106) #[] #[.pointer (some ⟨dy,0,none⟩),.pointer (some ⟨dz,0,none⟩),.pointer (some ⟨d0,0,none⟩)])))::(tA 60 (EG az x59 a0))::(tA 56 (BK x52))::(tA 55 (DA f w_ p g q l u))::(tP 9 3 0)::(tI 49 x_v21)::(CH x35 an ao aq x44 au ap ar al am)) ib)=>hK _ _ g5.plOk ?_⟩
     have fd:Kn 101 (HP d y ac ag x_v21 ah ai aj ak) ((61,.one (.c (.func (.func 106) #[] #[.pointer (some ⟨dy,0,none⟩),.pointer (some ⟨dz,0,none⟩),.pointer (some ⟨d0,0,none⟩)])))::(tP 9 3 0)::(tI 49 x_v21)::(CH x35 an ao aq x44 au ap ar al am)) ib:=lp.kp
     refine AH (by kernel_rfl) (wp_block ?_)
     obtain⟨eu,i1,ay⟩:=A3 ay
     refine Jp (.func (.func 106) #[] #[.pointer (some ⟨dy,0,none⟩),.pointer (some ⟨dz,0,none⟩),.pointer (some ⟨d0,0,none⟩)]) fd (by rfl) rfl (fun _ _=>by kernel_rfl) fun cq h3=>?_
     obtain⟨il,my,jn,nb⟩:=Ah.loopBegin g5 hf hs cq
     have jc:PO (fun(s:List (Option (List (Int×Rg))))(h':Ad)(w':World)=>∃ (Fj:Fr)(a7:Option Addr)(a8:Nat)(bj:List (Option Nat)),Fz w h Fj ((da).heap.size+1) cq ((da).heap.size::cb)∧Ah Fj h' (HP d y ac ag x_v21 ah ai aj ak) [⟨Cp f w_ p g q l u z ad aa ae ab af,some 115⟩,⟨[.slice a7 s.length a8],some 123⟩,⟨BK x52,none⟩,⟨[.int .i64 x_v21],some 3⟩,⟨BK x52,some 153⟩,⟨EG az x59 a0,none⟩] [⟨a7,s.length,a8,122,1,List.map Value.map bj,0⟩] w'∧AI h' Fj bj s∧Ad.le jx h'):=⟨fun s h' w' hj=>by obtain⟨_,a7,a8,bj,_,hm,ej,_⟩:=hj; exact hm.has,fun s h' h'' w' w'' hj hb hle hn=>by obtain⟨Fj,a7,a8,bj,hlf,hm,ej,hle0⟩:=hj; exact⟨Fj,a7,a8,bj,hlf,hm.call hb hle hn,ej.mono hle,QU hle0 hle⟩⟩
     have kf:=AI.up ei (fun b es c hb=>jn _ _ hb)
     refine⟨_,CG co jc (fun(s:List (Option (List (Int×Rg))))(x62:Int)(x63:Int)=>((((CF s x62).bind fun x66 =>
        (x66.bind fun fs =>
        ((upd s x62 (some (Hh fs x_v21 (Rg.mk x63 x63)))).bind fun dm =>
        some dm))):Option (List (Option (List (Int×Rg))))).bind fun s1=>some (s1,true))) ?_ x_v20 ⟨il,cw,c0,de,my,nb,kf,Ad.le_refl _⟩ x61.1 e5 x61.2.1 e6 x61.2.2 e7 i1,?_⟩
     ·
      intro s x62 x63 s' pn c2 ig kn  ey
      obtain⟨im,a7,a8,bj,fg,cl,ej,mu⟩:=kn
      obtain⟨qc,cc,ey⟩:=A3 ey
      cases ey
      replace cl:Ah im c2 (HP d y ac ag x_v21 ah ai aj ak) [⟨Cp f w_ p g q l u z ad aa ae ab af,some 115⟩,⟨[.slice a7 s.length a8],some 123⟩,⟨BK x52,none⟩,⟨[.int .i64 x_v21],some 3⟩,⟨BK x52,some 153⟩,⟨EG az x59 a0,none⟩] [⟨a7,s.length,a8,122,1,List.map Value.map bj,0⟩] ig:=cl
      refine LY h3 (cl.ext fg.loop) ?_
      have lq:Kn 101 (HP d y ac ag x_v21 ah ai aj ak) [tI 63 x63,tI 62 x62,tP 9 3 0,tP 3 1 0] _:=((fd.kp.put (k:=62) (by decide) (.one (.c (.int .i64 x62)))).put (k:=63) (by decide) (.one (.c (.int .i64 x63))))
      refine LX (C3 (by kernel_rfl) (Rk 0 1 [tI 11 x62,tI 63 x63,tP 9 3 0,tP 3 1 0] lq cl fun qr lr=>?_))
      refine wf (C3 (by kernel_rfl) (Rk 0 1 [tI 12 x63,tI 11 x62,tP 9 3 0,tP 3 1 0] lr cl fun qs ls=>?_))
      refine wf ?_
      refine⟨cl.ext fg.loop,?_⟩
      obtain⟨io,mz,jo,b7⟩:=Ah.loopStep cl fg { cq with state:=.busy }
      have ek:=AI.up ej jo
      replace b7:Ah io c2 (HP d y ac ag x_v21 ah ai aj ak) [⟨Cp f w_ p g q l u z ad aa ae ab af,some 115⟩,⟨[.slice a7 s.length a8],some 123⟩,⟨BK x52,none⟩,⟨[.int .i64 x_v21],some 3⟩,⟨BK x52,some 153⟩,⟨EG az x59 a0,none⟩] [⟨a7,s.length,a8,122,1,List.map Value.map bj,0⟩] (World.putObj ig ((da).heap.size+1) (.loop { cq with state:=.busy })):=b7
      refine Ky (Hj (by kernel_rfl) (by kernel_rfl) ?_)
      replace b7:=b7.drew
      refine At [] (HP d y ac ag x_v21 ah ai aj ak) [⟨Cp f w_ p g q l u z ad aa ae ab af,some 115⟩,⟨[.slice a7 s.length a8],some 123⟩,⟨BK x52,none⟩,⟨[.int .i64 x_v21],some 3⟩,⟨BK x52,some 153⟩,⟨EG az x59 a0,none⟩] ?_
      refine Dr [0,1] [1,0] [tI 65 x62,tS 64 a7 s.length a8,tI 12 x63,tP 9 3 0] ls b7 fun qt lu=>?_
      obtain⟨x66,ex66,cc⟩:=A3 cc
      obtain⟨hv,hz,op⟩:=Ak ex66
      have mq:=AX hv hz
      obtain⟨ev,hp⟩:∃ ob,bj[(x62:Int).toNat]? = some ob:=⟨_,List.getElem?_eq_getElem (by rw [ek.len]; exact mq)⟩
      obtain⟨dc,e3⟩:=Bo b7 (i:=0) rfl (b0:=0+(x62:Int).toNat*1) (by show _<(List.map Value.map bj).length; rw [List.length_map,ek.len]; omega)
      have fl:=b7.addPlc (b:=dc) (o:=0+(x62:Int).toNat*1) (cs:=[]) (fun j c hj=>by simp at hj) rfl (by kernel_rfl) (by kernel_rfl)
      have go:=IF hp
      refine AY 2 (x62) [.map ev] (fun _ _ _ _ _ h=>h) rfl rfl (rfl) rfl (by decide) (by kernel_rfl) (by kernel_rfl) lu b7.plOk (by rfl) (by rfl) (by rfl) e3 (by rfl) hv hz (by kernel_rfl) fun o6 (lw:Kn 101 [(d,0),(y,0),(ac,ag+(x_v21:Int).toNat*3),(ah,0),(ai,0),(aj,ak+(x_v21:Int).toNat*2),(dc,0+(x62:Int).toNat*1)] [tP 66 6 0,tI 65 x62,tS 64 a7 s.length a8,tI 12 x63,tP 9 3 0] o6)=>?_
      refine FB [3,4,5,6,7] [7,6,5,4,3,2,1,0] [71,68,67] [tA 71 [.int .i64 x63,.int .i64 x63],tI 68 x_v21,(67,.one (.c (.map ev)))] (fun _ _ _ _ _ h=>h) lw (Am.peek fl.plOk fl 0 6 rfl rfl e3 [.map ev] (go _)) (by kernel_rfl) (by rfl) (by kernel_rfl) fun o7 gs=>?_
      obtain⟨fs,iy,cc⟩:=A3 cc
      obtain⟨f7,py,pp,gm,gf,i6⟩:=ek.get (i:=(x62:Int).toNat) (m:=fs) (by rw [op,iy])
      obtain rfl:ev=some f7:=by have:=hp.symm.trans gm; simpa using this
      obtain⟨dm,i4,cc⟩:=A3 cc
      obtain⟨_,_,h7⟩:=Cm i4
      refine Dl 8 fun K hK=>?_
      refine Jl (KT:=3) (E:=39) (k:=(x_v21:Int)) (x:=((Rg.mk x63 x63):Rg)) (.c (.int .i64 x_v21)) (.agg [.int .i64 x63,.int .i64 x63]) gs fl rfl rfl (by rfl) (by rfl) (by rfl) (by kernel_rfl) (KL.int (by kernel_rfl)) gf i6 rfl ⟨_,rfl,((Aa Ac Ac):rep c2 ((Rg.mk x63 x63):Rg) _)⟩ fun pz pq ih i7 nd=>?_
      obtain⟨f3,gx,gq,dj⟩:=AI.changeL ek gm gf i7 nd mz
      rw [← h7] at gq
      have nq:s.length=dm.length:=by rw [h7]; simp
      replace dj:Ah f3 c2 [(d,0),(y,0),(ac,ag+(x_v21:Int).toNat*3),(ah,0),(ai,0),(aj,ak+(x_v21:Int).toNat*2),(dc,0+(x62:Int).toNat*1)] [⟨Cp f w_ p g q l u z ad aa ae ab af,some 115⟩,⟨[.slice a7 s.length a8],some 123⟩,⟨BK x52,none⟩,⟨[.int .i64 x_v21],some 3⟩,⟨BK x52,some 153⟩,⟨EG az x59 a0,none⟩,⟨[],none⟩] [⟨a7,s.length,a8,122,1,List.map Value.map bj,0⟩] ih:=dj
      refine hK _ _ (Am.peek dj.plOk dj 0 6 rfl rfl e3 [.map (some f7)] (go _)) ?_
      have lx:Kn 101 [(d,0),(y,0),(ac,ag+(x_v21:Int).toNat*3),(ah,0),(ai,0),(aj,ak+(x_v21:Int).toNat*2),(dc,0+(x62:Int).toNat*1)] [] o7:=gs.kp
      refine AH (by kernel_rfl) ?_
      have p4:=lx
      have g6:Ah f3 c2 [(d,0),(y,0),(ac,ag+(x_v21:Int).toNat*3),(ah,0),(ai,0),(aj,ak+(x_v21:Int).toNat*2),(dc,0+(x62:Int).toNat*1)] [⟨[.slice f w_.route.legs.length p,.int .i64 w_.route.turn.lo,.int .i64 w_.route.turn.hi,.slice g w_.route.buses.length q,.slice l w_.route.spares.length u,.int .i64 w_.route.unit,.int .i64 w_.route.gap,.int .i64 w_.route.fr,.int .i64 w_.route.to_,.slice z w_.acts.holds.length ad,.slice aa w_.acts.turns.length ae,.slice ab w_.acts.spares.length af],some 115⟩,⟨[.slice a7 dm.length a8],some 123⟩,⟨[.int .i64 x52.stop,.int .i64 x52.tm,.int .i64 x52.turned],none⟩,⟨[.int .i64 x_v21],some 3⟩,⟨[.int .i64 x52.stop,.int .i64 x52.tm,.int .i64 x52.turned],some 153⟩,⟨[.slice az x59.legs.length a0,.int .i64 x59.turn],none⟩,⟨[],none⟩] [⟨a7,dm.length,a8,122,1,List.map Value.map bj,0⟩] ih:=by rw [← nq]; exact dj
      obtain rfl:=QZ cc
      refine⟨g6.ext gx.loop,?_⟩
      rw [h3.eq]
      obtain⟨ip,m0,jp,nf⟩:=Ah.loopStep g6 gx cq
      have kg:=AI.up gq jp
      exact⟨rfl,c2,Ad.le_refl _,ip,a7,a8,bj,m0,(nf).cutPl 6 (by kernel_rfl),kg,mu⟩
     ·
      intro ph jl
      obtain⟨eg,_,ko⟩:=jl
      obtain⟨pl,dx,ed,f9,gy,g7,kh,bg⟩:=ko
      refine⟨g7.ext gy.loop,?_⟩
      obtain⟨iq,gz,jq,cm⟩:=Ah.loopStep g7 gy { cq with state:=.exhausted }
      have fa:=AI.up kh jq
      replace av:=av.mono bg
      replace aw:=aw.mono bg
      replace ax:=ax.mono bg
      replace b3:=b3.mono bg
      replace b4:=b4.mono bg
      replace cm:Ah iq eg (HP d y ac ag x_v21 ah ai aj ak) [⟨Cp f w_ p g q l u z ad aa ae ab af,some 115⟩,⟨[.slice dx eu.length ed],some 123⟩,⟨BK x52,none⟩,⟨[.int .i64 x_v21],some 3⟩,⟨BK x52,some 153⟩,⟨EG az x59 a0,none⟩] [⟨dx,eu.length,ed,122,1,List.map Value.map f9,0⟩] (World.putObj ph ((da).heap.size+1) (.loop { cq with state:=.exhausted })):=cm
      refine QT (Ao (by kernel_rfl) ?_)
      replace cm:=cm.drew
      refine At [] (HP d y ac ag x_v21 ah ai aj ak) [⟨Cp f w_ p g q l u z ad aa ae ab af,some 115⟩,⟨[.slice dx eu.length ed],some 123⟩,⟨BK x52,none⟩,⟨[.int .i64 x_v21],some 3⟩,⟨BK x52,some 153⟩,⟨EG az x59 a0,none⟩] ?_
      refine Dr [0,1,2,3] (dn 3) ((tI 75 x_v21)::(tS 74 ap x44.1.length ar)::(tA 73 (DA f w_ p g q l u))::(tP 9 3 0)::(tI 49 x_v21)::(CH x35 an ao aq x44 au ap ar al am)) fd cm fun qu ly=>?_
      obtain⟨x76,ex76,ay⟩:=A3 ay
      obtain⟨n0,n5,oq⟩:=Ak ex76
      obtain⟨a1,a2,pw,j3,ok,kc⟩:=b3.get (by decide) oq
      obtain⟨_,_,rfl,rfl,⟨_,_,rfl,rfl,rfl⟩⟩:=ok
      have fm:=cm.addPlc (b:=a1) (o:=a2+(x_v21:Int).toNat*3) (cs:=(Gi x76)) (fun j c hj=>kc j _ (Al hj)) rfl (by kernel_rfl) (by kernel_rfl)
      refine AY 4 (x_v21) (Gi x76) (fun _ _ _ _ _ h=>h) rfl rfl (rfl) rfl (by decide) (by kernel_rfl) (by kernel_rfl) ly cm.plOk (by rfl) (by rfl) (by rfl) j3 (by rfl) n0 n5 (by kernel_rfl) fun o8 (lz:Kn 101 [(d,0),(y,0),(ac,ag+(x_v21:Int).toNat*3),(ah,0),(ai,0),(aj,ak+(x_v21:Int).toNat*2),(a1,a2+(x_v21:Int).toNat*3)] ((tP 76 6 0)::(tI 75 x_v21)::(tS 74 ap x44.1.length ar)::(tA 73 (DA f w_ p g q l u))::(tP 9 3 0)::(tI 49 x_v21)::(CH x35 an ao aq x44 au ap ar al am)) o8)=>?_
      refine Dr [5,6,7] (dn 7) ((tI 79 x_v21)::(tS 78 aq x44.2.length au)::(tA 77 (Gi x76))::(tA 73 (DA f w_ p g q l u))::(tP 9 3 0)::(tI 49 x_v21)::(CH x35 an ao aq x44 au ap ar al am)) lz fm fun qv l0=>?_
      obtain⟨x80,ex80,ay⟩:=A3 ay
      obtain⟨n1,n6,os⟩:=Ak ex80
      obtain⟨a4,a6,px,j4,ol,kd⟩:=b4.get (by decide) os
      obtain⟨_,_,rfl,⟨bh,bi,rfl,fq⟩,rfl⟩:=ol
      have fn:=fm.addPlc (b:=a4) (o:=a6+(x_v21:Int).toNat*2) (cs:=(Hy bh x80 bi)) (fun j c hj=>kd j _ (Al hj)) rfl (by kernel_rfl) (by kernel_rfl)
      refine AY 8 (x_v21) (Hy bh x80 bi) (fun _ _ _ _ _ h=>h) rfl rfl (rfl) rfl (by decide) (by kernel_rfl) (by kernel_rfl) l0 fm.plOk (by rfl) (by rfl) (by rfl) j4 (by rfl) n1 n6 (by kernel_rfl) fun o9 (l1:Kn 101 (IU d y ac ag x_v21 ah ai aj ak a1 a2 a4 a6) ((tP 80 7 0)::(tI 79 x_v21)::(tS 78 aq x44.2.length au)::(tA 77 (Gi x76))::(tA 73 (DA f w_ p g q l u))::(tP 9 3 0)::(tI 49 x_v21)::(CH x35 an ao aq x44 au ap ar al am)) o9)=>?_
      refine Dr [9] (dn 9) ((tA 81 (Hy bh x80 bi))::(tA 77 (Gi x76))::(tA 73 (DA f w_ p g q l u))::(tP 9 3 0)::(tI 49 x_v21)::(CH x35 an ao aq x44 au ap ar al am)) l1 fn fun qw l2=>?_
      obtain⟨x82,ex82,ay⟩:=A3 ay
      refine Dl 10 fun K hK=>?_
      refine wc [.agg (DA f w_ p g q l u),.agg (Gi x76),.agg (Hy bh x80 bi)] l2 fn (Dg co fn.has w_.route ((Aa (Ae av) (Aa (Aa Ac Ac) (Aa (Ae aw) (Aa (Ae ax) (Aa Ac (Aa Ac (Aa Ac Ac))))))):rep eg w_.route _) x76 ((Aa Ac (Aa Ac Ac)):rep eg x76 _) x80 ((Aa (Ae fq) Ac):rep eg x80 _) ex82) fun rd jy dq jk bb g8=>?_
      replace av:=av.mono bb
      replace aw:=aw.mono bb
      replace ax:=ax.mono bb
      replace bc:=bc.mono (QU bg bb)
      replace bd:=bd.mono (QU bg bb)
      replace be:=be.mono (QU bg bb)
      replace b1:=b1.mono (QU bg bb)
      replace b2:=b2.mono (QU bg bb)
      replace b3:=b3.mono bb
      replace b4:=b4.mono bb
      replace dl:=dl.mono (QU bg bb)
      replace e5:=e5.mono (QU bg bb)
      replace e6:=e6.mono (QU bg bb)
      replace e7:=e7.mono (QU bg bb)
      replace fq:=fq.mono bb
      replace fa:=fa.mono bb
      obtain⟨d1,d2,d3,rfl,j6,j7,j8⟩:=jk
      refine⟨.one (.c (.func (.func 106) #[] #[.pointer (some ⟨d1,0,none⟩),.pointer (some ⟨d2,0,none⟩),.pointer (some ⟨d3,0,none⟩)])),rfl,fun ic (l3:Kn 101 (IU d y ac ag x_v21 ah ai aj ak a1 a2 a4 a6) ((82,.one (.c (.func (.func 106) #[] #[.pointer (some ⟨d1,0,none⟩),.pointer (some ⟨d2,0,none⟩),.pointer (some ⟨d3,0,none⟩)])))::(tA 81 (Hy bh x80 bi))::(tA 77 (Gi x76))::(tA 73 (DA f w_ p g q l u))::(tP 9 3 0)::(tI 49 x_v21)::(CH x35 an ao aq x44 au ap ar al am)) ic)=>hK _ _ g8.plOk ?_⟩
      have fe:Kn 101 (IU d y ac ag x_v21 ah ai aj ak a1 a2 a4 a6) ((82,.one (.c (.func (.func 106) #[] #[.pointer (some ⟨d1,0,none⟩),.pointer (some ⟨d2,0,none⟩),.pointer (some ⟨d3,0,none⟩)])))::(tP 9 3 0)::(tI 49 x_v21)::(CH x35 an ao aq x44 au ap ar al am)) ic:=l3.kp
      refine AH (by kernel_rfl) (wp_block ?_)
      obtain⟨fw,i2,ay⟩:=A3 ay
      refine Jp (.func (.func 106) #[] #[.pointer (some ⟨d1,0,none⟩),.pointer (some ⟨d2,0,none⟩),.pointer (some ⟨d3,0,none⟩)]) fe (by rfl) rfl (fun _ _=>by kernel_rfl) fun cr h4=>?_
      obtain⟨ir,m1,jr,ng⟩:=Ah.loopBegin g8 gz.marks gz.of cr
      have jd:PO (fun(s:List (Option (List (Int×Rg))))(h':Ad)(w':World)=>∃ (Fj:Fr)(a3:Option Addr)(a5:Nat)(bf:List (Option Nat)),Fz w h Fj ((dq).heap.size+1) cr ((dq).heap.size::((da).heap.size::cb))∧Ah Fj h' (IU d y ac ag x_v21 ah ai aj ak a1 a2 a4 a6) [⟨Cp f w_ p g q l u z ad aa ae ab af,some 115⟩,⟨[.slice a3 s.length a5],some 123⟩,⟨BK x52,none⟩,⟨[.int .i64 x_v21],some 3⟩,⟨BK x52,some 153⟩,⟨EG az x59 a0,none⟩,⟨Gi x76,none⟩,⟨Hy bh x80 bi,none⟩] [⟨a3,s.length,a5,122,1,List.map Value.map bf,0⟩] w'∧AI h' Fj bf s∧Ad.le jy h'):=⟨fun s h' w' hj=>by obtain⟨_,a3,a5,bf,_,hm,el,_⟩:=hj; exact hm.has,fun s h' h'' w' w'' hj hb hle hn=>by obtain⟨Fj,a3,a5,bf,hlf,hm,el,hle0⟩:=hj; exact⟨Fj,a3,a5,bf,hlf,hm.call hb hle hn,el.mono hle,QU hle0 hle⟩⟩
      have kj:=AI.up fa (fun b es c hb=>jr _ _ hb)
      refine⟨_,CG co jd (fun(s:List (Option (List (Int×Rg))))(x83:Int)(x84:Int)=>((((CF s x83).bind fun x87 =>
         ((CF s x83).bind fun x92 =>
         (x92.bind fun ft =>
         ((some (Gb ft x_v21 ((Rg.mk 0 0):Rg))).bind fun x95 =>
         (x87.bind fun fu =>
         ((upd s x83 (some (Hh fu x_v21 (Rg.mk x95.1.lo x84)))).bind fun dp =>
         some dp)))))):Option (List (Option (List (Int×Rg))))).bind fun s1=>some (s1,true))) ?_ eu ⟨ir,dx,ed,f9,m1,ng,kj,Ad.le_refl _⟩ x82.1 j6 x82.2.1 j7 x82.2.2 j8 i2,?_⟩
      ·
       intro s x83 x84 s' po ce ii kq  ez
       obtain⟨iu,a3,a5,bf,fh,cn,el,mv⟩:=kq
       obtain⟨qd,bl,ez⟩:=A3 ez
       cases ez
       replace cn:Ah iu ce (IU d y ac ag x_v21 ah ai aj ak a1 a2 a4 a6) [⟨Cp f w_ p g q l u z ad aa ae ab af,some 115⟩,⟨[.slice a3 s.length a5],some 123⟩,⟨BK x52,none⟩,⟨[.int .i64 x_v21],some 3⟩,⟨BK x52,some 153⟩,⟨EG az x59 a0,none⟩,⟨Gi x76,none⟩,⟨Hy bh x80 bi,none⟩] [⟨a3,s.length,a5,122,1,List.map Value.map bf,0⟩] ii:=cn
       refine LY h4 (cn.ext fh.loop) ?_
       have l4:Kn 101 (IU d y ac ag x_v21 ah ai aj ak a1 a2 a4 a6) [tI 84 x84,tI 83 x83,tP 9 3 0,tP 3 1 0] _:=((fe.kp.put (k:=83) (by decide) (.one (.c (.int .i64 x83)))).put (k:=84) (by decide) (.one (.c (.int .i64 x84))))
       refine LX (C3 (by kernel_rfl) (Rk 0 1 [tI 13 x83,tI 84 x84,tP 9 3 0,tP 3 1 0] l4 cn fun qx l5=>?_))
       refine wf (C3 (by kernel_rfl) (Rk 0 1 [tI 14 x84,tI 13 x83,tP 9 3 0,tP 3 1 0] l5 cn fun qy l6=>?_))
       refine wf ?_
       refine⟨cn.ext fh.loop,?_⟩
       obtain⟨iv,m2,js,b8⟩:=Ah.loopStep cn fh { cr with state:=.busy }
       have ch:=AI.up el js
       replace b8:Ah iv ce (IU d y ac ag x_v21 ah ai aj ak a1 a2 a4 a6) [⟨Cp f w_ p g q l u z ad aa ae ab af,some 115⟩,⟨[.slice a3 s.length a5],some 123⟩,⟨BK x52,none⟩,⟨[.int .i64 x_v21],some 3⟩,⟨BK x52,some 153⟩,⟨EG az x59 a0,none⟩,⟨Gi x76,none⟩,⟨Hy bh x80 bi,none⟩] [⟨a3,s.length,a5,122,1,List.map Value.map bf,0⟩] (World.putObj ii ((dq).heap.size+1) (.loop { cr with state:=.busy })):=b8
       refine Ky (Hj (by kernel_rfl) (by kernel_rfl) ?_)
       replace b8:=b8.drew
       refine At [] (IU d y ac ag x_v21 ah ai aj ak a1 a2 a4 a6) [⟨Cp f w_ p g q l u z ad aa ae ab af,some 115⟩,⟨[.slice a3 s.length a5],some 123⟩,⟨BK x52,none⟩,⟨[.int .i64 x_v21],some 3⟩,⟨BK x52,some 153⟩,⟨EG az x59 a0,none⟩,⟨Gi x76,none⟩,⟨Hy bh x80 bi,none⟩] ?_
       refine Dr [0,1] [1,0] [tI 86 x83,tS 85 a3 s.length a5,tI 14 x84,tI 13 x83,tP 9 3 0,tP 3 1 0] l6 b8 fun qz l7=>?_
       obtain⟨x87,ex87,bl⟩:=A3 bl
       obtain⟨hw,h0,ot⟩:=Ak ex87
       have ms:=AX hw h0
       obtain⟨bo,hq⟩:∃ ob,bf[(x83:Int).toNat]? = some ob:=⟨_,List.getElem?_eq_getElem (by rw [ch.len]; exact ms)⟩
       obtain⟨bv,cg⟩:=Bo b8 (i:=0) rfl (b0:=0+(x83:Int).toNat*1) (by show _<(List.map Value.map bf).length; rw [List.length_map,ch.len]; omega)
       have c7:=b8.addPlc (b:=bv) (o:=0+(x83:Int).toNat*1) (cs:=[]) (fun j c hj=>by simp at hj) rfl (by kernel_rfl) (by kernel_rfl)
       have c3:=IF hq
       refine AY 2 (x83) [.map bo] (fun _ _ _ _ _ h=>h) rfl rfl (rfl) rfl (by decide) (by kernel_rfl) (by kernel_rfl) l7 b8.plOk (by rfl) (by rfl) (by rfl) cg (by rfl) hw h0 (by kernel_rfl) fun pb (l8:Kn 101 [(d,0),(y,0),(ac,ag+(x_v21:Int).toNat*3),(ah,0),(ai,0),(aj,ak+(x_v21:Int).toNat*2),(a1,a2+(x_v21:Int).toNat*3),(a4,a6+(x_v21:Int).toNat*2),(bv,0+(x83:Int).toNat*1)] [tP 87 8 0,tI 86 x83,tS 85 a3 s.length a5,tI 14 x84,tI 13 x83,tP 9 3 0,tP 3 1 0] pb)=>?_
       refine FB [3,4,5,6] [6,5,4,3,2,1,0] [91,90,89,88,14,9] [tI 91 x83,tS 90 a3 s.length a5,tI 89 x_v21,(88,.one (.c (.map bo))),tI 14 x84,tP 9 3 0] (fun _ _ _ _ _ h=>h) l8 (Am.peek c7.plOk c7 0 8 rfl rfl cg [.map bo] (c3 _)) (by kernel_rfl) (by rfl) (by kernel_rfl) fun q0 l9=>?_
       obtain⟨x92,ex92,bl⟩:=A3 bl
       obtain⟨hx,h1,ou⟩:=Ak ex92
       have mt:=AX hx h1
       obtain⟨ew,hr⟩:∃ ob,bf[(x83:Int).toNat]? = some ob:=⟨_,List.getElem?_eq_getElem (by rw [ch.len]; exact mt)⟩
       obtain⟨b6,dg⟩:=Bo c7 (i:=0) rfl (b0:=0+(x83:Int).toNat*1) (by show _<(List.map Value.map bf).length; rw [List.length_map,ch.len]; omega)
       have bu:=c7.addPlc (b:=b6) (o:=0+(x83:Int).toNat*1) (cs:=[]) (fun j c hj=>by simp at hj) rfl (by kernel_rfl) (by kernel_rfl)
       have eh:=IF hr
       refine AY 7 (x83) [.map ew] (fun _ _ _ _ _ h=>h) rfl rfl (rfl) rfl (by decide) (by kernel_rfl) (by kernel_rfl) l9 (Am.peek c7.plOk c7 0 8 rfl rfl cg [.map bo] (c3 _)) (by rfl) (by rfl) (by rfl) dg (by rfl) hx h1 (by kernel_rfl) fun pc (mb:Kn 101 (NU d y ac ag x_v21 ah ai aj ak a1 a2 a4 a6 bv x83 b6) [tP 92 9 0,tI 91 x83,tS 90 a3 s.length a5,tI 89 x_v21,(88,.one (.c (.map bo))),tI 14 x84,tP 9 3 0] pc)=>?_
       refine FB [8,9,12] [12,9,8,7,6,5,4,3,2,1,0] [97,94,93,89,88] [tI 97 x84,tI 94 x_v21,(93,.one (.c (.map ew))),tI 89 x_v21,(88,.one (.c (.map bo)))] (fun _ _ _ _ _ h=>h) mb (Am.peek (Am.peek bu.plOk bu 0 8 rfl rfl cg [.map bo] (c3 _)) bu 0 9 rfl rfl dg [.map ew] (eh _)) (by kernel_rfl) (by rfl) (by kernel_rfl) fun q1 mc=>?_
       obtain⟨ft,iz,bl⟩:=A3 bl
       obtain⟨dd,p0,pr,j9,jt,i8⟩:=ch.get (i:=(x83:Int).toNat) (m:=ft) (by rw [ou,iz])
       obtain rfl:ew=some dd:=by have:=hr.symm.trans j9; simpa using this
       obtain⟨x95,ex95,bl⟩:=A3 bl
       refine Dl 10 fun K hK=>?_
       refine Gc (KT:=3) (E:=39) (k:=(x_v21:Int)) ((Rg.mk 0 0):Rg) (.c (.int .i64 x_v21)) mc rfl rfl (by decide) (by rfl) (by rfl) (by kernel_rfl) (KL.int (by kernel_rfl)) (bu.ext jt) i8 rfl (by kernel_rfl) ⟨_,rfl,((Aa Ac Ac):rep ce ((Rg.mk 0 0):Rg) _)⟩ fun re h5=>?_
       rw [QZ ex95] at h5 ⊢
       obtain⟨_,rfl,⟨_,_,rfl,rfl,rfl⟩⟩:=h5
       refine⟨.one (.agg [.int .i64 x95.1.lo,.int .i64 x95.1.hi]),rfl,fun pd (md:Kn 101 (NU d y ac ag x_v21 ah ai aj ak a1 a2 a4 a6 bv x83 b6) [tA 95 [.int .i64 x95.1.lo,.int .i64 x95.1.hi],tI 97 x84,tI 94 x_v21,(93,.one (.c (.map (some dd)))),tI 89 x_v21,(88,.one (.c (.map bo)))] pd)=>hK _ _ (Am.peek (Am.peek bu.plOk bu 0 8 rfl rfl cg [.map bo] (c3 _)) bu 0 9 rfl rfl dg [.map (some dd)] (eh _)) ?_⟩
       refine FB [11,13] [13,11,10,12,9,8,7,6,5,4,3,2,1,0] [98,89,88] [tA 98 [.int .i64 x95.1.lo,.int .i64 x84],tI 89 x_v21,(88,.one (.c (.map bo)))] (fun _ _ _ _ _ h=>h) md (Am.peek (Am.peek bu.plOk bu 0 8 rfl rfl cg [.map bo] (c3 _)) bu 0 9 rfl rfl dg [.map (some dd)] (eh _)) (by kernel_rfl) (by rfl) (by kernel_rfl) fun pe gv=>?_
       obtain⟨fu,i0,bl⟩:=A3 bl
       obtain⟨f8,p1,ps,gn,gg,i9⟩:=ch.get (i:=(x83:Int).toNat) (m:=fu) (by rw [ot,i0])
       obtain rfl:bo=some f8:=by have:=hq.symm.trans gn; simpa using this
       obtain⟨dp,i5,bl⟩:=A3 bl
       obtain⟨_,_,h9⟩:=Cm i5
       refine Dl 14 fun K hK=>?_
       refine Jl (KT:=3) (E:=39) (k:=(x_v21:Int)) (x:=((Rg.mk x95.1.lo x84):Rg)) (.c (.int .i64 x_v21)) (.agg [.int .i64 x95.1.lo,.int .i64 x84]) gv bu rfl rfl (by rfl) (by rfl) (by rfl) (by kernel_rfl) (KL.int (by kernel_rfl)) gg i9 rfl ⟨_,rfl,((Aa Ac Ac):rep ce ((Rg.mk x95.1.lo x84):Rg) _)⟩ fun p2 pt ij ja ni=>?_
       obtain⟨f4,g0,gr,c8⟩:=AI.changeL ch gn gg ja ni m2
       rw [← h9] at gr
       have nr:s.length=dp.length:=by rw [h9]; simp
       replace c8:Ah f4 ce (NU d y ac ag x_v21 ah ai aj ak a1 a2 a4 a6 bv x83 b6) [⟨Cp f w_ p g q l u z ad aa ae ab af,some 115⟩,⟨[.slice a3 s.length a5],some 123⟩,⟨BK x52,none⟩,⟨[.int .i64 x_v21],some 3⟩,⟨BK x52,some 153⟩,⟨EG az x59 a0,none⟩,⟨Gi x76,none⟩,⟨Hy bh x80 bi,none⟩,⟨[],none⟩,⟨[],none⟩] [⟨a3,s.length,a5,122,1,List.map Value.map bf,0⟩] ij:=c8
       refine hK _ _ (Am.peek (Am.peek c8.plOk c8 0 8 rfl rfl cg [.map (some f8)] (c3 _)) c8 0 9 rfl rfl dg [.map (some dd)] (eh _)) ?_
       have mf:Kn 101 (NU d y ac ag x_v21 ah ai aj ak a1 a2 a4 a6 bv x83 b6) [] pe:=gv.kp
       refine AH (by kernel_rfl) ?_
       have p5:=mf
       have g9:Ah f4 ce [(d,0),(y,0),(ac,ag+(x_v21:Int).toNat*3),(ah,0),(ai,0),(aj,ak+(x_v21:Int).toNat*2),(a1,a2+(x_v21:Int).toNat*3),(a4,a6+(x_v21:Int).toNat*2),(bv,0+(x83:Int).toNat*1),(b6,0+(x83:Int).toNat*1)] [⟨[.slice f w_.route.legs.length p,.int .i64 w_.route.turn.lo,.int .i64 w_.route.turn.hi,.slice g w_.route.buses.length q,.slice l w_.route.spares.length u,.int .i64 w_.route.unit,.int .i64 w_.route.gap,.int .i64 w_.route.fr,.int .i64 w_.route.to_,.slice z w_.acts.holds.length ad,.slice aa w_.acts.turns.length ae,.slice ab w_.acts.spares.length af],some 115⟩,⟨[.slice a3 dp.length a5],some 123⟩,⟨[.int .i64 x52.stop,.int .i64 x52.tm,.int .i64 x52.turned],none⟩,⟨[.int .i64 x_v21],some 3⟩,⟨[.int .i64 x52.stop,.int .i64 x52.tm,.int .i64 x52.turned],some 153⟩,⟨[.slice az x59.legs.length a0,.int .i64 x59.turn],none⟩,⟨[.int .i64 x76.stop,.int .i64 x76.tm,.int .i64 x76.turned],none⟩,⟨[.slice bh x80.legs.length bi,.int .i64 x80.turn],none⟩,⟨[],none⟩,⟨[],none⟩] [⟨a3,dp.length,a5,122,1,List.map Value.map bf,0⟩] ij:=by rw [← nr]; exact c8
       obtain rfl:=QZ bl
       refine⟨g9.ext g0.loop,?_⟩
       rw [h4.eq]
       obtain⟨iw,m3,ju,nj⟩:=Ah.loopStep g9 g0 cr
       have kk:=AI.up gr ju
       exact⟨rfl,ce,Ad.le_refl _,iw,a3,a5,bf,m3,(nj).cutPl 8 (by kernel_rfl),kk,mv⟩
      ·
       intro pj jm
       obtain⟨jz,_,kr⟩:=jm
       obtain⟨pm,e0,e1,ga,g1,hc,kl,mw⟩:=kr
       refine⟨hc.ext g1.loop,?_⟩
       obtain⟨f5,g2,jv,et⟩:=Ah.loopStep hc g1 { cr with state:=.exhausted }
       have km:=AI.up kl jv
       replace et:Ah f5 jz (IU d y ac ag x_v21 ah ai aj ak a1 a2 a4 a6) [⟨Cp f w_ p g q l u z ad aa ae ab af,some 115⟩,⟨[.slice e0 fw.length e1],some 123⟩,⟨BK x52,none⟩,⟨[.int .i64 x_v21],some 3⟩,⟨BK x52,some 153⟩,⟨EG az x59 a0,none⟩,⟨Gi x76,none⟩,⟨Hy bh x80 bi,none⟩] [⟨e0,fw.length,e1,122,1,List.map Value.map ga,0⟩] (World.putObj pj ((dq).heap.size+1) (.loop { cr with state:=.exhausted })):=et
       refine Ab (Rk 0 2 ((tI 49 (IntKind.i64.wrap (x_v21+1)))::(CH x35 an ao aq x44 au ap ar al am)) fe et fun q3 mh=>?_)
       refine wf ?_
       exact QY co ⟨Nat.lt_succ_self _,QY fw ⟨IntKind.i64.wrap (x_v21+1),e0,e1,ga,f5,((dq).heap.size::((da).heap.size::cb)),_,_,rfl,(mh.keep [49,48,47,8,7,6,3,1] (by rfl)).cut 2 (by kernel_rfl),et.cutPl 2 (by kernel_rfl),QU bn (QU bm (QU bg (QU bb mw))),km,g2.of,g2.marks,ay⟩⟩
    ·
     rw [e4,QV] at ay
     refine wp_exit ?_
     obtain rfl:=QZ ay
     exact QY cw ⟨c0,de,cu,cb,_,_,rfl,fc.kp,er,bn,ei,hs,hf⟩
  ·
   rintro _ ik ⟨bp,br,cz,db,d4,fy,ee,rfl,mi,hd,p6,ke,nu,nm⟩
   refine QT (Ab (Rk 0 2 [tS 2 bp c9.length br] mi hd fun pf mj=>?_))
   refine wf (wp_ret ?_)
   obtain⟨b9,gb,H⟩:=A3 H
   obtain⟨j0,f6,p7,nv,nn,nk,e9⟩:=ke.settleAll hd nu nm gb
   have ho:c9.length=(b9.map EA.mk).length:=by rw [LZ gb]; simp
   have mm:Kn 101 [(d,0),(y,0)] [(2,.one (.c (.slice bp ((b9.map EA.mk).length) br)))] pf:=by rw [← ho]; exact mj
   have he:Ah f6 j0 [(d,0),(y,0)] [⟨[.slice f w_.route.legs.length p,.int .i64 w_.route.turn.lo,.int .i64 w_.route.turn.hi,.slice g w_.route.buses.length q,.slice l w_.route.spares.length u,.int .i64 w_.route.unit,.int .i64 w_.route.gap,.int .i64 w_.route.fr,.int .i64 w_.route.to_,.slice z w_.acts.holds.length ad,.slice aa w_.acts.turns.length ae,.slice ab w_.acts.spares.length af],some 115⟩,⟨[.slice bp ((b9.map EA.mk).length) br],some 123⟩] [⟨bp,(b9.map EA.mk).length,br,122,1,List.map Value.map cz,0⟩] ik:=by rw [← ho]; exact nk
   obtain⟨gk,mx,og,fp⟩:=he.settle (i:=0) rfl
   replace e9:=e9.mono mx
   replace fp:Ah f6 gk [(d,0),(y,0)] [⟨Cp f w_ p g q l u z ad aa ae ab af,some 115⟩,⟨[.slice bp ((b9.map EA.mk).length) br],some 123⟩] [⟨bp,(b9.map EA.mk).length,br,122,1,List.map Value.map cz,((List.map Value.map cz):List Value).length⟩] ik:=fp
   have oe:Ar gk bp br (b9.map EA.mk):=⟨_,e9,og,he.rowCap (i:=0) rfl⟩
   obtain rfl:=QZ H
   exact MB (bs:=d4) (.one (.c (.slice bp ((b9.map EA.mk).length) br))) mm fp nn nv (by kernel_rfl) ⟨_,_,rfl,oe⟩
end Go.Proofs.Ytokchpjijlebiaa
