/- Each call computes its plain function. -/
import Derived.Test.YtokchpjijlebiaaProg
import Derived.Test.YtokchpjijlebiaaNQP0
import Derived.Test.YtokchpjijlebiaaNQWP
import Derived.Test.YtokchpjijlebiaaNQWR
set_option linter.all false
namespace Go.Proofs.Ytokchpjijlebiaa
open Go Go.RowKit
open Rep (rep)
open KRep (kv)
open VRep (rv)
abbrev JM (aa:Rg):List SC:=[.int .i64 aa.lo,.int .i64 aa.hi]
abbrev IV (z:Rg):List SC:=[.int .i64 z.lo,.int .i64 z.hi]
abbrev Gj (m p q y ad af:Nat) (x_v21:Int) (ab:Nat):AG:=[(m,0),(p,0),(q,0),(y,0),(ad,af+(x_v21:Int).toNat*1),(ab,0)]
abbrev GM (a:Option Addr) (r_:Ag) (f:Nat) (d:Option Addr) (g:Nat) (e:Option Addr) (k:Nat):List SC:=[.slice a r_.legs.length f,.int .i64 r_.turn.lo,.int .i64 r_.turn.hi,.slice d r_.buses.length g,.slice e r_.spares.length k,.int .i64 r_.unit,.int .i64 r_.gap,.int .i64 r_.fr,.int .i64 r_.to_]
abbrev L6 (u:Option Addr) (x_v20:List Int) (x:Nat) (ag:List Value):List Cf:=[⟨u,x_v20.length,x,3,1,ag,(ag:List Value).length⟩]
abbrev MX (a:Option Addr) (r_:Ag) (f:Nat) (d:Option Addr) (g:Nat) (e:Option Addr) (k:Nat):List Cu:=[⟨GM a r_ f d g e k,some 43⟩,⟨[.int .i64 0,.int .i64 0],some 126⟩,⟨[],none⟩]
abbrev MY (a:Option Addr) (r_:Ag) (f:Nat) (d:Option Addr) (g:Nat) (e:Option Addr) (k:Nat) (x_v22 x_v23 x42:Int):List Cu:=[⟨GM a r_ f d g e k,some 43⟩,⟨[.int .i64 0,.int .i64 0],some 126⟩,⟨[],none⟩,⟨[.int .i64 x_v22,.int .i64 x_v23],some 126⟩,⟨[.int .i64 x42],none⟩,⟨[],none⟩]
abbrev GN (a:Option Addr) (r_:Ag) (f:Nat) (d:Option Addr) (g:Nat) (e:Option Addr) (k:Nat) (ac:Option Addr) (x_v10:List Int) (ae bm_spans:Nat):TM:=[tP 21 2 0,(6,.one (.c (.func (.func 95) #[.agg #[.slice a r_.legs.length f,.int .i64 r_.turn.lo,.int .i64 r_.turn.hi,.slice d r_.buses.length g,.slice e r_.spares.length k,.int .i64 r_.unit,.int .i64 r_.gap,.int .i64 r_.fr,.int .i64 r_.to_]] #[]))),tS 5 ac x_v10.length ae,tP 4 1 0,tP 2 0 0,(1,.one (.c (.map (some bm_spans))))]
abbrev Fb (x_v21:Int) (s:((List Int)×(List (Int×Rg)))) (u:Option Addr) (x_v20:List Int) (x bm_spans:Nat):TM:=[tI 40 x_v21,tI 39 ((s.1.length:Nat):Int),tS 38 u x_v20.length x,tP 9 3 0,tP 4 1 0,tP 2 0 0,(1,.one (.c (.map (some bm_spans))))]
abbrev Mp (a:Option Addr) (r_:Ag) (f:Nat) (d:Option Addr) (g:Nat) (e:Option Addr) (k:Nat) (al:Option Addr) (bm_spans:Nat):TM:=[(6,.one (.c (.func (.func 95) #[.agg #[.slice a r_.legs.length f,.int .i64 r_.turn.lo,.int .i64 r_.turn.hi,.slice d r_.buses.length g,.slice e r_.spares.length k,.int .i64 r_.unit,.int .i64 r_.gap,.int .i64 r_.fr,.int .i64 r_.to_]] #[]))),tS 5 al 1 1,tP 4 1 0,tP 2 0 0,(1,.one (.c (.map (some bm_spans))))]
abbrev Mq (a:Option Addr) (r_:Ag) (f:Nat) (d:Option Addr) (g:Nat) (e:Option Addr) (k bm_spans:Nat):TM:=[tP 21 2 0,(6,.one (.c (.func (.func 95) #[.agg #[.slice a r_.legs.length f,.int .i64 r_.turn.lo,.int .i64 r_.turn.hi,.slice d r_.buses.length g,.slice e r_.spares.length k,.int .i64 r_.unit,.int .i64 r_.gap,.int .i64 r_.fr,.int .i64 r_.to_]] #[]))),tP 4 1 0,tP 2 0 0,(1,.one (.c (.map (some bm_spans))))]
abbrev ET (bm_spans:Nat):TM:=[tP 4 1 0,tP 2 0 0,(1,.one (.c (.map (some bm_spans))))]
abbrev FV (x_v30 x42 x_v21:Int) (s:((List Int)×(List (Int×Rg)))) (u:Option Addr) (x_v20:List Int) (x bm_spans:Nat):TM:=(tP 47 5 0)::(tI 12 x_v30)::(tI 11 x42)::(Fb x_v21 s u x_v20 x bm_spans)
set_option maxRecDepth 100000 in
set_option maxHeartbeats 4000000 in
theorem E8 (n:Nat) {h:Ad} {w:World} (hh:Dv h w) (r_:Ag) {cs_r_:List Value} (hx_r_:rep h r_ cs_r_) (spans:EA Int Rg) {bm_spans:Nat} {es_spans:Array MapEntry} {cl_spans:Nat} (hM_spans:h bm_spans 0=some (DH es_spans cl_spans)) (hE_spans:Du h es_spans.toList cl_spans spans.l) {Q:Jh→Prop} (H:CX n r_ spans Q) :
  Calls Try.prog 66 #[.agg cs_r_.toArray,.map (some bm_spans)] w (D6 (fun h v=>∃ r,Q r∧∃ cs,v=.agg cs.toArray∧rep h r cs) h w):=by
 obtain⟨_,_,rfl,⟨a,f,rfl,am⟩,⟨_,_,rfl,⟨_,_,rfl,rfl,rfl⟩,⟨_,_,rfl,⟨d,g,rfl,an⟩,⟨_,_,rfl,⟨e,k,rfl,ao⟩,⟨_,_,rfl,rfl,⟨_,_,rfl,rfl,⟨_,_,rfl,rfl,rfl⟩⟩⟩⟩⟩⟩⟩:=hx_r_
 refine enter 74 [.agg (GM a r_ f d g e k),.c (.map (some bm_spans))] Try.func66 rfl rfl rfl rfl fun t hk=>?_
 have hm:=Ah.begin h w hh
 unfold CX at H
 refine QT (Ab (wl fun K hK=>?_))
 refine wb (.agg (GM a r_ f d g e k)) hk hm fun m gz i1 (ei:Kn 74 [(m,0)] [tP 2 0 0,tA 0 (GM a r_ f d g e k),(1,.one (.c (.map (some bm_spans))))] gz) f9=>hK _ _ ?_
 refine wl fun K hK=>?_
 refine wa [.int .i64 0,.int .i64 0] ei f9 fun p dp i6 (es:Kn 74 [(m,0),(p,0)] [tP 4 1 0,tP 2 0 0,tA 0 (GM a r_ f d g e k),(1,.one (.c (.map (some bm_spans))))] dp) dg=>hK _ _ ?_
 have eu:Kn 74 [(m,0),(p,0)] (ET bm_spans) dp:=es.kp
 refine wf (QT (Ab (Rk 0 2 ((tI 16 r_.fr)::(ET bm_spans)) eu dg fun h8 e1=>?_)))
 refine wl fun K hK=>?_
 refine wS 3 1 [.int .i64 r_.fr] e1 dg fun al g4 i8 (e6:Kn 74 [(m,0),(p,0)] ((tS 17 al 1 1)::(tI 16 r_.fr)::(ET bm_spans)) g4) bg=>?_
 have d6:Af h ([r_.fr]:List Int) ([.int .i64 r_.fr]:List Value):=⟨_,_,rfl,(Ac:rep h (r_.fr:Int) _),rfl⟩
 refine hK _ _ ?_
 refine Rk 3 1 ((tS 5 al 1 1)::(ET bm_spans)) e6 bg fun ig fg=>?_
 refine wf (QT (Ab (Rk 0 1 ((tA 18 (GM a r_ f d g e k))::(tS 5 al 1 1)::(ET bm_spans)) fg bg fun ij fn=>?_)))
 refine Fw 1 #[.agg #[.slice a r_.legs.length f,.int .i64 r_.turn.lo,.int .i64 r_.turn.hi,.slice d r_.buses.length g,.slice e r_.spares.length k,.int .i64 r_.unit,.int .i64 r_.gap,.int .i64 r_.fr,.int .i64 r_.to_]] #[] fn rfl rfl (rfl) rfl (by decide) (by rfl) (by rfl) (by rfl) (by rfl) fun hc (fs:Kn 74 [(m,0),(p,0)] ((19,.one (.c (.func (.func 95) #[.agg #[.slice a r_.legs.length f,.int .i64 r_.turn.lo,.int .i64 r_.turn.hi,.slice d r_.buses.length g,.slice e r_.spares.length k,.int .i64 r_.unit,.int .i64 r_.gap,.int .i64 r_.fr,.int .i64 r_.to_]] #[])))::(tA 18 (GM a r_ f d g e k))::(tS 5 al 1 1)::(ET bm_spans)) hc)=>?_
 refine Rk 2 1 (Mp a r_ f d g e k al bm_spans) fs bg fun im ft=>?_
 refine wf (QT (QT (Ab (Rk 0 1 ((20,.one (.c (.map (some bm_spans))))::(Mp a r_ f d g e k al bm_spans)) ft bg fun io fu=>?_))))
 refine wl fun K hK=>?_
 refine Lq (KT:=3) (E:=39) (l:=spans.l) fu bg rfl rfl (by decide) (by rfl) (by kernel_rfl) hM_spans hE_spans (by kernel_rfl) fun q ds hr d2 dv (fv:Kn 74 [(m,0),(p,0),(q,0)] ((tP 21 2 0)::(20,.one (.c (.map (some bm_spans))))::(Mp a r_ f d g e k al bm_spans)) ds) (gh:Ah (Fr.put ⟨w,h,Az⟩ q (some (.mapIter (some bm_spans) cl_spans #[] cl_spans))) h [(m,0),(p,0),(q,0)] (MX a r_ f d g e k) [⟨al,1,1,3,1,([.int .i64 r_.fr]:List Value),0⟩] hr)=>hK _ _ ?_
 have fw:Kn 74 [(m,0),(p,0),(q,0)] ((tP 21 2 0)::(Mp a r_ f d g e k al bm_spans)) ds:=fv.kp
 refine wf ?_
 obtain⟨c0,dy,H⟩:=PP (G:=AD n r_ ([r_.fr]:List Int) spans.l) H
 refine A7 (fun a' w'=>∃ (s:(List Int)×(List (Int×Rg)))(au:Option Addr)(av:Nat)(bl:List Value)(cp:Array Nat)(cv:Array Value)(ax:Ad),a' = ⟨cv,[]⟩∧Kn 74 [(m,0),(p,0),(q,0)] ((tS 5 au s.1.length av)::(ET bm_spans)) cv∧Ah (Fr.put ⟨w,h,Az⟩ q (some (.mapIter (some bm_spans) cl_spans cp cl_spans))) ax [(m,0),(p,0),(q,0)] (MX a r_ f d g e k) [⟨au,s.1.length,av,3,1,bl,0⟩] w'∧Ad.le h ax∧Af ax s.1 bl∧EB ax es_spans cp s.2∧c0 s) ?_ ?_
 ·
  refine wp_block ?_
  refine A5 (fun gy a' w'=>∃ (x_v10:List Int)(x_v11:List (Int×Rg))(ac:Option Addr)(ae:Nat)(a3:List Value)(a4:Array Nat)(cw:Array Value)(ay:Ad),a' = ⟨cw,[]⟩∧Kn 74 [(m,0),(p,0),(q,0)] (GN a r_ f d g e k ac x_v10 ae bm_spans) cw∧Ah (Fr.put ⟨w,h,Az⟩ q (some (.mapIter (some bm_spans) cl_spans a4 cl_spans))) ay [(m,0),(p,0),(q,0)] (MX a r_ f d g e k) [⟨ac,x_v10.length,ae,3,1,a3,0⟩] w'∧Ad.le h ay∧Af ay x_v10 a3∧EB ay es_spans a4 x_v11∧AD gy r_ x_v10 x_v11 c0) n ?_ ?_
  ·
   exact QY ([r_.fr]:List Int) ⟨spans.l,al,1,([.int .i64 r_.fr]:List Value),#[],_,_,rfl,fw.kp,gh,Ad.le_refl _,d6,dv,H⟩
  ·
   rintro a7 _ jf ⟨x_v10,x_v11,ac,ae,a3,a4,cw,ay,rfl,fx,cj,a1,bd,c6,ai⟩
   obtain _ | a7:=a7
   ·
    rw [AD] at ai; exact ai.elim
   rw [AD] at ai
   replace am:=am.mono a1
   replace an:=an.mono a1
   replace ao:=ao.mono a1
   replace hE_spans:=hE_spans.mono a1
   replace hM_spans:=a1 _ _ _ hM_spans
   refine QT (Ab (wl fun K hK=>?_))
   refine MA fx cj rfl rfl (by decide) (by rfl) (by rfl) hM_spans hE_spans c6 ?_ ?_
   ·
    intro go hd (fy:Kn 74 [(m,0),(p,0),(q,0)] ((22,.tup [.c (.bool false)])::(GN a r_ f d g e k ac x_v10 ae bm_spans)) hd)
    replace ai:=ai.1 go
    refine hK _ _ ?_
    refine Rk 1 1 ((tB 23 false)::(GN a r_ f d g e k ac x_v10 ae bm_spans)) fy cj fun ip da=>?_
    refine wf (QT (wC false da (fun hb=>?_) (fun hb=>?_)))
    ·
     cases hb
    refine wp_exit ?_
    exact QY (x_v10,x_v11) ⟨ac,ae,a3,a4,_,_,rfl,da.kp,cj,a1,bd,c6,ai⟩
   ·
    intro b0 bj aa ix cn gk gs d9 bo he hs f4 (bx:Ah (Fr.put ⟨w,h,Az⟩ q (some (.mapIter (some bm_spans) cl_spans (Array.push a4 b0) cl_spans))) ay [(m,0),(p,0),(q,0)] (MX a r_ f d g e k) [⟨ac,x_v10.length,ae,3,1,a3,0⟩] hs)
    replace ai:=ai.2 bj aa cn gk
    obtain⟨_,rfl,⟨_,_,rfl,rfl,rfl⟩⟩:=gs
    have fz:Kn 74 [(m,0),(p,0),(q,0)] ((22,.tup [.c (.bool true),.c (.int .i64 bj),.agg (JM aa)])::(GN a r_ f d g e k ac x_v10 ae bm_spans)) he:=f4 (.tup [.c (.bool true),.c (.int .i64 bj),.agg (JM aa)]) rfl
    refine hK _ _ ?_
    refine Rk 1 1 ((tB 23 true)::(GN a r_ f d g e k ac x_v10 ae bm_spans)) fz bx fun iq db=>?_
    refine wf (QT (wC true db (fun hb=>?_) (fun hb=>?_)))
    rotate_left
    ·
     cases hb
    refine wp_skip (wp_block (QT (Ab (wl fun K hK=>?_))))
    refine Lr db bx rfl rfl (by decide) (by rfl) (by rfl) hM_spans hE_spans d9 fun hf f5=>?_
    have f0:Kn 74 [(m,0),(p,0),(q,0)] ((24,.tup [.c (.int .i64 bj),.agg (JM aa)])::(tB 23 true)::(GN a r_ f d g e k ac x_v10 ae bm_spans)) hf:=f5 (.tup [.c (.int .i64 bj),.agg (JM aa)]) rfl
    refine hK _ _ ?_
    refine Rk 1 1 ((tA 25 (JM aa))::(GN a r_ f d g e k ac x_v10 ae bm_spans)) f0 bx fun ir f1=>?_
    refine wl fun K hK=>?_
    refine wa [.int .i64 0,.int .i64 0] f1 bx fun a5 dl iy (eb:Kn 74 [(m,0),(p,0),(q,0),(a5,0)] ((tP 8 3 0)::(tA 25 (JM aa))::(GN a r_ f d g e k ac x_v10 ae bm_spans)) dl) f8=>hK _ _ ?_
    refine wl fun K hK=>?_
    refine Ea 3 0 (.agg (JM aa)) (JM aa) eb f8 fun iz ec cf=>hK _ _ ?_
    have ed:Kn 74 [(m,0),(p,0),(q,0),(a5,0)] ((tP 8 3 0)::(GN a r_ f d g e k ac x_v10 ae bm_spans)) dl:=ec.kp
    refine wf (QT (Ab (Rk 0 3 ((tI 28 aa.lo)::(26,.one (.c (.func (.func 95) #[.agg #[.slice a r_.legs.length f,.int .i64 r_.turn.lo,.int .i64 r_.turn.hi,.slice d r_.buses.length g,.slice e r_.spares.length k,.int .i64 r_.unit,.int .i64 r_.gap,.int .i64 r_.fr,.int .i64 r_.to_]] #[])))::(tP 8 3 0)::(GN a r_ f d g e k ac x_v10 ae bm_spans)) ed cf fun hy ee=>?_)))
    obtain⟨x29,ex29,ai⟩:=ai
    refine wl fun K hK=>?_
    refine CN (.func (.func 95) #[.agg #[.slice a r_.legs.length f,.int .i64 r_.turn.lo,.int .i64 r_.turn.hi,.slice d r_.buses.length g,.slice e r_.spares.length k,.int .i64 r_.unit,.int .i64 r_.gap,.int .i64 r_.fr,.int .i64 r_.to_]] #[]) [.c (.int .i64 aa.lo)] _ ee cf rfl rfl (by decide) (by rfl) (by rfl) rfl ((show PG ay (.func (.func 95) #[.agg #[.slice a r_.legs.length f,.int .i64 r_.turn.lo,.int .i64 r_.turn.hi,.slice d r_.buses.length g,.slice e r_.spares.length k,.int .i64 r_.unit,.int .i64 r_.gap,.int .i64 r_.fr,.int .i64 r_.to_]] #[]) (fun(y0:Int)=>AL a7 r_ y0) from fun h2 w2 hle hh y0 r H=>⟨95,_,_,rfl,fun _ _=>by kernel_rfl,Ep a7 hh r_ (Rep.mono hle ((Aa (Ae am) (Aa (Aa Ac Ac) (Aa (Ae an) (Aa (Ae ao) (Aa Ac (Aa Ac (Aa Ac Ac))))))):rep ay r_ _)) y0 H⟩) _ _ (Ad.le_refl _) cf.has aa.lo _ ex29) fun iu b3 i0 dz be cg=>?_
    replace bd:=bd.mono be
    replace bo:=bo.mono be
    replace hM_spans:=be _ _ _ hM_spans
    obtain rfl:=dz
    refine⟨.one (.c (.bool x29)),rfl,fun dm (ef:Kn 74 [(m,0),(p,0),(q,0),(a5,0)] ((tB 29 x29)::(tI 28 aa.lo)::(26,.one (.c (.func (.func 95) #[.agg #[.slice a r_.legs.length f,.int .i64 r_.turn.lo,.int .i64 r_.turn.hi,.slice d r_.buses.length g,.slice e r_.spares.length k,.int .i64 r_.unit,.int .i64 r_.gap,.int .i64 r_.fr,.int .i64 r_.to_]] #[])))::(tP 8 3 0)::(GN a r_ f d g e k ac x_v10 ae bm_spans)) dm)=>hK _ _ ?_⟩
    have ca:Kn 74 [(m,0),(p,0),(q,0),(a5,0)] ((tB 29 x29)::(tP 8 3 0)::(GN a r_ f d g e k ac x_v10 ae bm_spans)) dm:=ef.kp
    refine wf (wC (x29) ca (fun b4=>?_) (fun b4=>?_))
    ·
     rw [b4,QW] at ai
     refine Ab (Rk 0 3 ((tI 32 aa.lo)::(tS 30 ac x_v10.length ae)::(Mq a r_ f d g e k bm_spans)) ca cg fun hz eg=>?_)
     refine wl fun K hK=>?_
     refine wS 3 1 [.int .i64 aa.lo] eg cg fun c1 g0 i2 (eh:Kn 74 [(m,0),(p,0),(q,0),(a5,0)] ((tS 33 c1 1 1)::(tI 32 aa.lo)::(tS 30 ac x_v10.length ae)::(Mq a r_ f d g e k bm_spans)) g0) dc=>?_
     have b8:Af b3 ([aa.lo]:List Int) ([.int .i64 aa.lo]:List Value):=⟨_,_,rfl,(Ac:rep b3 (aa.lo:Int) _),rfl⟩
     refine hK _ _ ?_
     obtain⟨x34,ex34,ai⟩:=ai
     obtain⟨cl,f6⟩:=BZ ex34
     refine wl fun K hK=>?_
     refine Bs 0 8 1 _ (x34.length) _ ([.int .i64 aa.lo]:List Value) eh dc rfl rfl (by decide) rfl (by rfl) (by kernel_rfl) (by rfl) (by rfl) (Af.len b8) (dc.rowCell (i:=1) rfl) b8.one (by rw [cl]; simp <;> omega) (by rw [cl]; exact f6) (by decide) fun bz b1 dt g1 i3 ea (ej:Kn 74 [(m,0),(p,0),(q,0),(a5,0)] ((tS 34 bz x34.length b1)::(tS 33 c1 1 1)::(tI 32 aa.lo)::(tS 30 ac x_v10.length ae)::(Mq a r_ f d g e k bm_spans)) g1) dd=>?_
     have d4:Af b3 x34 (a3++([.int .i64 aa.lo]:List Value)):=by rw [cl]; exact Af.append bd b8
     obtain rfl:dt=0:=Nat.le_zero.1 ea
     refine hK _ _ ?_
     refine Rk 5 1 ((tS 5 bz x34.length b1)::(Mq a r_ f d g e k bm_spans)) ej dd fun h0 ek=>?_
     refine wf ?_
     exact QY a7 ⟨Nat.lt_succ_self _,QY x34 ⟨cn,bz,b1,a3++([.int .i64 aa.lo]:List Value),Array.push a4 b0,_,_,rfl,(ek.keep [21,6,5,4,2,1] (by rfl)).cut 3 (by kernel_rfl),(dd.cutRw 1).cutPl 3 (by kernel_rfl),QU a1 be,d4,bo,ai⟩⟩
    ·
     rw [b4,QV] at ai
     refine wp_skip ?_
     exact QY a7 ⟨Nat.lt_succ_self _,QY x_v10 ⟨cn,ac,ae,a3,Array.push a4 b0,_,_,rfl,(ca.keep [21,6,5,4,2,1] (by rfl)).cut 3 (by kernel_rfl),cg.cutPl 3 (by kernel_rfl),QU a1 be,bd,bo,ai⟩⟩
 ·
  rintro _ hg ⟨s,au,av,bl,cp,cv,ax,rfl,el,ga,bf,d7,hv,H⟩
  rw [dy] at H
  replace am:=am.mono bf
  replace an:=an.mono bf
  replace ao:=ao.mono bf
  replace hE_spans:=hE_spans.mono bf
  replace hM_spans:=bf _ _ _ hM_spans
  have de:Ah ⟨w,h,Az⟩ ax [(m,0),(p,0),(q,0)] (MX a r_ f d g e k) [⟨au,s.1.length,av,3,1,bl,0⟩] hg:=Ah.dropX d2 ga
  refine QT (Ab (Rk 0 3 ((tA 37 [.int .i64 r_.fr,.int .i64 0])::(tS 5 au s.1.length av)::(ET bm_spans)) el de fun h1 em=>?_))
  refine wl fun K hK=>?_
  refine wa [.int .i64 0,.int .i64 0] em de fun y dn i4 (en:Kn 74 [(m,0),(p,0),(q,0),(y,0)] ((tP 9 3 0)::(tA 37 [.int .i64 r_.fr,.int .i64 0])::(tS 5 au s.1.length av)::(ET bm_spans)) dn) gb=>hK _ _ ?_
  refine wl fun K hK=>?_
  refine Ea 3 0 (.agg [.int .i64 r_.fr,.int .i64 0]) [.int .i64 r_.fr,.int .i64 0] en gb fun i5 eo df=>hK _ _ ?_
  have ep:Kn 74 [(m,0),(p,0),(q,0),(y,0)] ((tP 9 3 0)::(tS 5 au s.1.length av)::(ET bm_spans)) dn:=eo.kp
  refine wf (QT (QT (Ab (Rk 0 3 ((tI 40 0)::(tI 39 ((s.1.length:Nat):Int))::(tS 38 au s.1.length av)::(tP 9 3 0)::(ET bm_spans)) ep df fun h3 er=>?_))))
  refine wf ?_
  obtain⟨cy,dw,H⟩:=PP (G:=AF n r_ spans s s.1 0 r_.fr 0) H
  refine A7 (fun a' w'=>∃ (aj:(List Int)×Int×Int)(c2:Option Addr)(c3:Nat)(cx:List Value)(c4:Nat)(cq:Array Value)(ba:Ad),a' = ⟨cq,[]⟩∧Kn 74 [(m,0),(p,0),(q,0),(y,0)] [tP 9 3 0,tP 4 1 0] cq∧Ah ⟨w,h,Az⟩ ba [(m,0),(p,0),(q,0),(y,0)] [⟨GM a r_ f d g e k,some 43⟩,⟨[.int .i64 0,.int .i64 0],some 126⟩,⟨[],none⟩,⟨[.int .i64 aj.2.1,.int .i64 aj.2.2],some 126⟩] [⟨c2,aj.1.length,c3,3,1,cx,c4⟩] w'∧Ad.le ax ba∧Af ba aj.1 cx∧cy aj) ?_ ?_
  ·
   refine wp_block ?_
   refine A5 (fun gw a' w'=>∃ (x_v20:List Int)(x_v21:Int)(x_v22:Int)(x_v23:Int)(u:Option Addr)(x:Nat)(ag:List Value)(b2:Nat)(cr:Array Value)(bp:Ad),a' = ⟨cr,[]⟩∧Kn 74 [(m,0),(p,0),(q,0),(y,0)] (Fb x_v21 s u x_v20 x bm_spans) cr∧Ah ⟨w,h,Az⟩ bp [(m,0),(p,0),(q,0),(y,0)] [⟨GM a r_ f d g e k,some 43⟩,⟨[.int .i64 0,.int .i64 0],some 126⟩,⟨[],none⟩,⟨[.int .i64 x_v22,.int .i64 x_v23],some 126⟩] [⟨u,x_v20.length,x,3,1,ag,b2⟩] w'∧Ad.le ax bp∧Af bp x_v20 ag∧AF gw r_ spans s x_v20 x_v21 x_v22 x_v23 cy) n ?_ ?_
   ·
    exact QY s.1 ⟨0,r_.fr,0,au,av,bl,0,_,_,rfl,er.kp,df,Ad.le_refl _,d7,H⟩
   ·
    rintro a6 _ hl ⟨x_v20,x_v21,x_v22,x_v23,u,x,ag,b2,cr,bp,rfl,et,bs,az,aq,ah⟩
    obtain _ | a6:=a6
    ·
     rw [AF] at ah; exact ah.elim
    rw [AF] at ah
    replace am:=am.mono az
    replace an:=an.mono az
    replace ao:=ao.mono az
    replace hE_spans:=hE_spans.mono az
    replace hM_spans:=az _ _ _ hM_spans
    refine QT (Ab (Rk 0 1 ((tB 41 (decide (x_v21<((s.1.length:Nat):Int))))::(Fb x_v21 s u x_v20 x bm_spans)) et bs fun h4 cb=>?_))
    refine wf (QT (wC (decide (x_v21<((s.1.length:Nat):Int))) cb (fun b5=>?_) (fun b5=>?_)))
    ·
     rw [b5,QW] at ah
     refine wp_skip (QT (wp_block (QT (Ab ?_))))
     obtain⟨bb,a0,gp,ch⟩:=bs.settle (i:=0) rfl
     replace am:=am.mono a0
     replace an:=an.mono a0
     replace ao:=ao.mono a0
     replace hE_spans:=hE_spans.mono a0
     replace aq:=aq.mono a0
     replace hM_spans:=a0 _ _ _ hM_spans
     replace ch:Ah ⟨w,h,Az⟩ bb [(m,0),(p,0),(q,0),(y,0)] [⟨GM a r_ f d g e k,some 43⟩,⟨[.int .i64 0,.int .i64 0],some 126⟩,⟨[],none⟩,⟨[.int .i64 x_v22,.int .i64 x_v23],some 126⟩] (L6 u x_v20 x ag) hl:=ch
     have ck:Ar bb u x x_v20:=⟨_,aq,gp,bs.rowCap (i:=0) rfl⟩
     obtain⟨x42,ex42,ah⟩:=ah
     obtain⟨gi,gl,gv⟩:=Ak ex42
     obtain⟨ad,af,ht,d3,gu,d5⟩:=ck.get (by decide) gv
     obtain rfl:=gu
     have bt:=ch.addPlc (b:=ad) (o:=af+(x_v21:Int).toNat*1) (cs:=[.int .i64 x42]) (fun j c hj=>d5 j _ (Al hj)) rfl (by kernel_rfl) (by kernel_rfl)
     refine A6 0 (x_v21) rfl rfl (rfl) rfl (by decide) cb (by rfl) (by rfl) (by rfl) d3 (by rfl) gi gl (by kernel_rfl) fun g2 (ev:Kn 74 [(m,0),(p,0),(q,0),(y,0),(ad,af+(x_v21:Int).toNat*1)] ((tP 42 4 0)::(tB 41 (decide (x_v21<((s.1.length:Nat):Int))))::(Fb x_v21 s u x_v20 x bm_spans)) g2)=>?_
     refine Rk 1 2 ((tI 11 x42)::(Fb x_v21 s u x_v20 x bm_spans)) ev bt fun h5 ew=>?_
     refine wf (QT (Ab (Rk 0 3 ((tI 12 r_.to_)::(tI 11 x42)::(Fb x_v21 s u x_v20 x bm_spans)) ew bt fun h6 ex=>?_)))
     refine wf (QT (QT (Ab (Rk 0 1 ((46,.one (.c (.map (some bm_spans))))::(tI 12 r_.to_)::(tI 11 x42)::(Fb x_v21 s u x_v20 x bm_spans)) ex bt fun h7 ey=>?_))))
     refine wl fun K hK=>?_
     refine Lq (KT:=3) (E:=39) (l:=spans.l) ey bt rfl rfl (by decide) (by rfl) (by kernel_rfl) hM_spans hE_spans (by kernel_rfl) fun ab dq hn d1 du (ez:Kn 74 (Gj m p q y ad af x_v21 ab) ((tP 47 5 0)::(46,.one (.c (.map (some bm_spans))))::(tI 12 r_.to_)::(tI 11 x42)::(Fb x_v21 s u x_v20 x bm_spans)) dq) (gc:Ah (Fr.put ⟨w,h,Az⟩ ab (some (.mapIter (some bm_spans) cl_spans #[] cl_spans))) bb (Gj m p q y ad af x_v21 ab) (MY a r_ f d g e k x_v22 x_v23 x42) (L6 u x_v20 x ag) hn)=>hK _ _ ?_
     have e0:Kn 74 (Gj m p q y ad af x_v21 ab) ((tP 47 5 0)::(tI 12 r_.to_)::(tI 11 x42)::(Fb x_v21 s u x_v20 x bm_spans)) dq:=ez.kp
     refine wf ?_
     obtain⟨cz,dx,ah⟩:=PP (G:=AE a6 x42 r_.to_ spans.l) ah
     refine A7 (fun a' w'=>∃ (ap:Int×(List (Int×Rg)))(co:Array Nat)(ct:Array Value)(bc:Ad),a' = ⟨ct,[]⟩∧Kn 74 (Gj m p q y ad af x_v21 ab) ((tI 12 ap.1)::(tI 11 x42)::(Fb x_v21 s u x_v20 x bm_spans)) ct∧Ah (Fr.put ⟨w,h,Az⟩ ab (some (.mapIter (some bm_spans) cl_spans co cl_spans))) bc (Gj m p q y ad af x_v21 ab) (MY a r_ f d g e k x_v22 x_v23 x42) (L6 u x_v20 x ag) w'∧Ad.le bb bc∧EB bc es_spans co ap.2∧cz ap) ?_ ?_
     ·
      refine wp_block ?_
      refine A5 (fun gx a' w'=>∃ (x_v30:Int)(x_v31:List (Int×Rg))(a2:Array Nat)(cu:Array Value)(aw:Ad),a' = ⟨cu,[]⟩∧Kn 74 (Gj m p q y ad af x_v21 ab) (FV x_v30 x42 x_v21 s u x_v20 x bm_spans) cu∧Ah (Fr.put ⟨w,h,Az⟩ ab (some (.mapIter (some bm_spans) cl_spans a2 cl_spans))) aw (Gj m p q y ad af x_v21 ab) (MY a r_ f d g e k x_v22 x_v23 x42) (L6 u x_v20 x ag) w'∧Ad.le bb aw∧EB aw es_spans a2 x_v31∧AE gx x42 x_v30 x_v31 cz) a6 ?_ ?_
      ·
       exact QY r_.to_ ⟨spans.l,#[],_,_,rfl,e0.kp,gc,Ad.le_refl _,du,ah⟩
      ·
       rintro bk _ i7 ⟨x_v30,x_v31,a2,cu,aw,rfl,e2,ci,ar,c5,ak⟩
       obtain _ | bk:=bk
       ·
        rw [AE] at ak; exact ak.elim
       rw [AE] at ak
       replace am:=am.mono ar
       replace an:=an.mono ar
       replace ao:=ao.mono ar
       replace hE_spans:=hE_spans.mono ar
       replace ck:=ck.mono ar
       replace hM_spans:=ar _ _ _ hM_spans
       replace aq:=aq.mono ar
       refine QT (Ab (wl fun K hK=>?_))
       refine MA e2 ci rfl rfl (by decide) (by rfl) (by rfl) hM_spans hE_spans c5 ?_ ?_
       ·
        intro gn g3 (e3:Kn 74 (Gj m p q y ad af x_v21 ab) ((48,.tup [.c (.bool false)])::(FV x_v30 x42 x_v21 s u x_v20 x bm_spans)) g3)
        replace ak:=ak.1 gn
        refine hK _ _ ?_
        refine Rk 1 1 ((tB 49 false)::(FV x_v30 x42 x_v21 s u x_v20 x bm_spans)) e3 ci fun h9 c8=>?_
        refine wf (QT (wC false c8 (fun hb=>?_) (fun hb=>?_)))
        ·
         cases hb
        refine wp_exit ?_
        exact QY (x_v30,x_v31) ⟨a2,_,_,rfl,c8.kp,ci,ar,c5,ak⟩
       ·
        intro bm bi z iv cm gj gr d8 bn g5 ho f2 (bu:Ah (Fr.put ⟨w,h,Az⟩ ab (some (.mapIter (some bm_spans) cl_spans (Array.push a2 bm) cl_spans))) aw (Gj m p q y ad af x_v21 ab) (MY a r_ f d g e k x_v22 x_v23 x42) (L6 u x_v20 x ag) ho)
        replace ak:=ak.2 bi z cm gj
        obtain⟨_,rfl,⟨_,_,rfl,rfl,rfl⟩⟩:=gr
        have e4:Kn 74 (Gj m p q y ad af x_v21 ab) ((48,.tup [.c (.bool true),.c (.int .i64 bi),.agg (IV z)])::(FV x_v30 x42 x_v21 s u x_v20 x bm_spans)) g5:=f2 (.tup [.c (.bool true),.c (.int .i64 bi),.agg (IV z)]) rfl
        refine hK _ _ ?_
        refine Rk 1 1 ((tB 49 true)::(FV x_v30 x42 x_v21 s u x_v20 x bm_spans)) e4 bu fun ia c9=>?_
        refine wf (QT (wC true c9 (fun hb=>?_) (fun hb=>?_)))
        rotate_left
        ·
         cases hb
        refine wp_skip (wp_block (QT (Ab (wl fun K hK=>?_))))
        refine Lr c9 bu rfl rfl (by decide) (by rfl) (by rfl) hM_spans hE_spans d8 fun g6 f3=>?_
        have e5:Kn 74 (Gj m p q y ad af x_v21 ab) ((50,.tup [.c (.int .i64 bi),.agg (IV z)])::(tB 49 true)::(FV x_v30 x42 x_v21 s u x_v20 x bm_spans)) g6:=f3 (.tup [.c (.int .i64 bi),.agg (IV z)]) rfl
        refine hK _ _ ?_
        refine Rk 1 1 ((tA 51 (IV z))::(FV x_v30 x42 x_v21 s u x_v20 x bm_spans)) e5 bu fun ib e7=>?_
        refine wl fun K hK=>?_
        refine wa [.int .i64 0,.int .i64 0] e7 bu fun a9 dr i9 (e8:Kn 74 [(m,0),(p,0),(q,0),(y,0),(ad,af+(x_v21:Int).toNat*1),(ab,0),(a9,0)] ((tP 14 6 0)::(tA 51 (IV z))::(FV x_v30 x42 x_v21 s u x_v20 x bm_spans)) dr) gd=>hK _ _ ?_
        refine wl fun K hK=>?_
        refine Ea 6 0 (.agg (IV z)) (IV z) e8 gd fun ja e9 bv=>hK _ _ ?_
        have fa:Kn 74 [(m,0),(p,0),(q,0),(y,0),(ad,af+(x_v21:Int).toNat*1),(ab,0),(a9,0)] ((tP 14 6 0)::(FV x_v30 x42 x_v21 s u x_v20 x bm_spans)) dr:=e9.kp
        refine wf (QT (Ab (Rk 0 4 ((tB 55 (decide (z.lo>x42)))::(tP 14 6 0)::(FV x_v30 x42 x_v21 s u x_v20 x bm_spans)) fa bv fun ic cc=>?_)))
        refine wf (wC (decide (z.lo>x42)) cc (fun b6=>?_) (fun b6=>?_))
        ·
         rw [b6,QW] at ak
         refine Ab (Rk 0 3 ((tI 58 z.hi)::(tI 56 x_v30)::(tP 47 5 0)::(tI 11 x42)::(Fb x_v21 s u x_v20 x bm_spans)) cc bv fun ie fb=>?_)
         refine wl fun K hK=>?_
         refine wS 3 1 [.int .i64 x_v30,.int .i64 z.hi] fb bv fun a8 g7 hp (fc:Kn 74 [(m,0),(p,0),(q,0),(y,0),(ad,af+(x_v21:Int).toNat*1),(ab,0),(a9,0)] ((tS 59 a8 2 2)::(tI 58 z.hi)::(tI 56 x_v30)::(tP 47 5 0)::(tI 11 x42)::(Fb x_v21 s u x_v20 x bm_spans)) g7) dh=>?_
         have b9:Af aw ([x_v30,z.hi]:List Int) ([.int .i64 x_v30,.int .i64 z.hi]:List Value):=⟨_,_,rfl,(Ac:rep aw (x_v30:Int) _),⟨_,_,rfl,(Ac:rep aw (z.hi:Int) _),rfl⟩⟩
         refine hK _ _ ?_
         obtain⟨c7,bq,gq,bw⟩:=dh.settle (i:=1) rfl
         replace b9:=b9.mono bq
         replace hM_spans:=bq _ _ _ hM_spans
         replace bw:Ah (Fr.put ⟨w,h,Az⟩ ab (some (.mapIter (some bm_spans) cl_spans (Array.push a2 bm) cl_spans))) c7 [(m,0),(p,0),(q,0),(y,0),(ad,af+(x_v21:Int).toNat*1),(ab,0),(a9,0)] [⟨GM a r_ f d g e k,some 43⟩,⟨[.int .i64 0,.int .i64 0],some 126⟩,⟨[],none⟩,⟨[.int .i64 x_v22,.int .i64 x_v23],some 126⟩,⟨[.int .i64 x42],none⟩,⟨[],none⟩,⟨IV z,some 39⟩] [⟨u,x_v20.length,x,3,1,ag,(ag:List Value).length⟩,⟨a8,2,2,3,1,([.int .i64 x_v30,.int .i64 z.hi]:List Value),(([.int .i64 x_v30,.int .i64 z.hi]:List Value):List Value).length⟩] hp:=bw
         have gm:Ar c7 a8 2 ([x_v30,z.hi]:List Int):=⟨_,b9,gq,dh.rowCap (i:=1) rfl⟩
         obtain⟨x60,ex60,ak⟩:=ak
         refine wl fun K hK=>?_
         refine wc [.c (.slice a8 2 2)] fc bw (DW bk bw.has ([x_v30,z.hi]:List Int) gm ex60) fun iw hw jb d0 ce di=>?_
         replace bn:=bn.mono (QU bq ce)
         replace hM_spans:=ce _ _ _ hM_spans
         obtain rfl:=d0
         refine⟨.one (.c (.int .i64 x60)),rfl,fun g8 (fd:Kn 74 [(m,0),(p,0),(q,0),(y,0),(ad,af+(x_v21:Int).toNat*1),(ab,0),(a9,0)] ((tI 60 x60)::(tS 59 a8 2 2)::(tI 58 z.hi)::(tI 56 x_v30)::(tP 47 5 0)::(tI 11 x42)::(Fb x_v21 s u x_v20 x bm_spans)) g8)=>hK _ _ ?_⟩
         refine Rk 5 1 ((tI 12 x60)::(tP 47 5 0)::(tI 11 x42)::(Fb x_v21 s u x_v20 x bm_spans)) fd di fun ih fe=>?_
         refine wf ?_
         exact QY bk ⟨Nat.lt_succ_self _,QY x60 ⟨cm,Array.push a2 bm,_,_,rfl,(fe.keep [47,12,11,40,39,38,9,4,2,1] (by rfl)).cut 6 (by kernel_rfl),(di.cutRw 1).cutPl 6 (by kernel_rfl),QU ar (QU bq ce),bn,ak⟩⟩
        ·
         rw [b6,QV] at ak
         refine wp_skip ?_
         exact QY bk ⟨Nat.lt_succ_self _,QY x_v30 ⟨cm,Array.push a2 bm,_,_,rfl,(cc.keep [47,12,11,40,39,38,9,4,2,1] (by rfl)).cut 6 (by kernel_rfl),bv.cutPl 6 (by kernel_rfl),ar,bn,ak⟩⟩
     ·
      rintro _ hq ⟨ap,co,ct,bc,rfl,ff,gf,br,hu,ah⟩
      rw [dx] at ah
      replace hM_spans:=br _ _ _ hM_spans
      replace aq:=aq.mono br
      have bh:Ah ⟨w,h,Az⟩ bc (Gj m p q y ad af x_v21 ab) (MY a r_ f d g e k x_v22 x_v23 x42) (L6 u x_v20 x ag) hq:=Ah.dropX d1 gf
      refine QT (Ab (Rk 0 6 ((tB 66 (decide ((IntKind.i64.wrap (ap.1-x42))>x_v23)))::(tI 12 ap.1)::(tI 11 x42)::(Fb x_v21 s u x_v20 x bm_spans)) ff bh fun ii cd=>?_))
      refine wf (wC (decide ((IntKind.i64.wrap (ap.1-x42))>x_v23)) cd (fun b7=>?_) (fun b7=>?_))
      ·
       rw [b7,QW] at ah
       refine Ab (Rk 0 5 ((tA 71 [.int .i64 x42,.int .i64 (IntKind.i64.wrap (ap.1-x42))])::(Fb x_v21 s u x_v20 x bm_spans)) cd bh fun g9 fh=>?_)
       refine wl fun K hK=>?_
       refine Ea 3 0 (.agg [.int .i64 x42,.int .i64 (IntKind.i64.wrap (ap.1-x42))]) [.int .i64 x42,.int .i64 (IntKind.i64.wrap (ap.1-x42))] fh bh fun jc fi dj=>hK _ _ ?_
       have fj:Kn 74 (Gj m p q y ad af x_v21 ab) (Fb x_v21 s u x_v20 x bm_spans) g9:=fi.kp
       refine wf (Ab (Rk 0 2 ((tI 40 (IntKind.i64.wrap (x_v21+1)))::(tI 39 ((s.1.length:Nat):Int))::(tS 38 u x_v20.length x)::(tP 9 3 0)::(ET bm_spans)) fj dj fun ik fk=>?_))
       refine wf ?_
       exact QY a6 ⟨Nat.lt_succ_self _,QY x_v20 ⟨IntKind.i64.wrap (x_v21+1),x42,IntKind.i64.wrap (ap.1-x42),u,x,ag,(ag:List Value).length,_,_,rfl,(fk.keep [40,39,38,9,4,2,1] (by rfl)).cut 4 (by kernel_rfl),dj.cutPl 4 (by kernel_rfl),QU az (QU a0 br),aq,ah⟩⟩
      ·
       rw [b7,QV] at ah
       refine wp_skip (Ab (Rk 0 2 ((tI 40 (IntKind.i64.wrap (x_v21+1)))::(tI 39 ((s.1.length:Nat):Int))::(tS 38 u x_v20.length x)::(tP 9 3 0)::(ET bm_spans)) cd bh fun il fl=>?_))
       refine wf ?_
       exact QY a6 ⟨Nat.lt_succ_self _,QY x_v20 ⟨IntKind.i64.wrap (x_v21+1),x_v22,x_v23,u,x,ag,(ag:List Value).length,_,_,rfl,(fl.keep [40,39,38,9,4,2,1] (by rfl)).cut 4 (by kernel_rfl),bh.cutPl 4 (by kernel_rfl),QU az (QU a0 br),aq,ah⟩⟩
    ·
     rw [b5,QV] at ah
     refine wp_exit ?_
     exact QY (x_v20,x_v22,x_v23) ⟨u,x,ag,b2,_,_,rfl,cb.kp,bs,az,aq,ah⟩
  ·
   rintro _ jd ⟨aj,c2,c3,cx,c4,cq,ba,rfl,fm,dk,f7,hx,H⟩
   rw [dw] at H
   replace hM_spans:=f7 _ _ _ hM_spans
   refine QT (Ab (Rk 0 1 [tA 73 [.int .i64 aj.2.1,.int .i64 aj.2.2],tP 4 1 0] fm dk fun ha fo=>?_))
   refine wl fun K hK=>?_
   refine Ea 1 0 (.agg [.int .i64 aj.2.1,.int .i64 aj.2.2]) [.int .i64 aj.2.1,.int .i64 aj.2.2] fo dk fun je fp gg=>hK _ _ ?_
   have fq:Kn 74 [(m,0),(p,0),(q,0),(y,0)] [tP 4 1 0] ha:=fp.kp
   refine wf (wp_ret ?_)
   exact rt (.one (.agg [.int .i64 aj.2.1,.int .i64 aj.2.2])) fq gg ⟨_,H,⟨_,rfl,((Aa Ac Ac):rep ba ((Jh.mk aj.2.1 aj.2.2):Jh) _)⟩⟩
theorem Hz (n:Nat) (a b:Int):Cd (n+2) [a,b]=some (min a b):=by
  have h0:CF [a,b] 0=some a:=by simp [CF]
  have h1:CF [a,b] 1=some b:=by simp [CF]
  simp only [Cd,Ds,Br,h0,h1,List.length_cons,List.length_nil,QX]
  have e1:IntKind.i64.wrap (1+1)=2:=by decide
  have e2:decide ((1:Int)<((0+1+1:Nat):Int))=true:=by decide
  have e3:decide ((2:Int)<((0+1+1:Nat):Int))=false:=by decide
  have e4:decide (((0+1+1:Nat):Int)<1)=false:=by decide
  simp only [e1,e2,e3,e4,QW,QV,QX,Option.some.injEq]
  split <;> omega
theorem F5 {m e:Int} {l l':List (Int×Rg)} (h:l.Perm l'):A1 m e l=A1 m e l':=h.foldl_eq' (fun p _ q _ e=>by
  repeat' split
  all_goals omega) _
theorem CI:∀ (n:Nat)(rem:List (Int×Rg))(m e:Int)(K:(Int×List (Int×Rg))→Prop),rem.length+3≤n→K (A1 m e rem,[])→AE n m e rem K
  | 0,_,_,_,_,h,_=>by omega
  | n+1,rem,m,e,K,h,hK=>by
    rw [AE]
    refine⟨fun h0=>by subst h0; exact hK,fun k x rem' hp=>?_⟩
    have hl:=hp.length_eq
    simp at hl
    rw [F5 hp] at hK
    by_cases hx:x.lo>m
    · simp only [hx,decide_true,QW]
      obtain⟨n,rfl⟩:∃ k,n=k+2:=⟨n-2,by omega⟩
      refine⟨_,Hz n e x.hi,CI _ _ _ _ _ (by omega) ?_⟩
      simpa [A1,hx] using hK
    · simp only [hx,decide_false,QV]
      refine CI _ _ _ _ _ (by omega) ?_
      simpa [A1,hx] using hK
theorem CJ:∀ (n:Nat)(rem:List (Int×Rg))(r:Ag)(acc:List Int)(K:(List Int×List (Int×Rg))→Prop),rem.length+1≤n→acc.length+rem.length≤1000000000→(∀ ms,List.Perm ms (acc++(rem.filter fun p=>decide (r.fr≤p.2.lo) && decide (p.2.lo≤r.to_)).map fun p=>p.2.lo)→K (ms,[]))→AD n r acc rem K
  | 0,_,_,_,_,h,_,_=>by omega
  | n+1,rem,r,acc,K,h,hb,hK=>by
    rw [AD]
    refine⟨fun h0=>by subst h0; exact hK _ (by simp),fun k x rem' hp=>?_⟩
    have hl:=hp.length_eq
    simp at hl
    have hw:AL n r x.lo=some (decide (r.fr≤x.lo) && decide (x.lo≤r.to_)):=by
      simp only [AL,Bt]; by_cases h1:r.fr≤x.lo <;> simp [h1]
    refine⟨_,hw,?_⟩
    have hq:=(hp.filter fun p=>decide (r.fr≤p.2.lo) && decide (p.2.lo≤r.to_)).map fun p=>p.2.lo
    cases hc:(decide (r.fr≤x.lo) && decide (x.lo≤r.to_)) with
    | true =>
      simp only [QW]
      refine⟨acc++[x.lo],by simp [KY]; omega,CJ _ _ _ _ _ (by omega) (by simp; omega) fun ms hm=>hK ms (hm.trans ?_)⟩
      rw [List.filter_cons_of_pos (by exact hc)] at hq
      simpa using (hq.symm.append_left acc)
    | false =>
      simp only [QV]
      refine CJ _ _ _ _ _ (by omega) (by omega) fun ms hm=>hK ms (hm.trans ?_)
      rw [List.filter_cons_of_neg (by simp [hc])] at hq
      exact hq.symm.append_left acc
theorem CK:∀ (n:Nat)(r:Ag)(sp:EA Int Rg)(s:List Int×List (Int×Rg))(i:Nat)(b x:Int)(K:(List Int×Int×Int)→Prop),(s.1.length-i)+sp.l.length+4≤n→s.1.length<2000000000→i≤s.1.length →
    (∀ b',K (s.1,b',(s.1.drop i).foldl (fun b m=>max b (IntKind.i64.wrap (A1 m r.to_ sp.l-m))) x))→AF n r sp s s.1 (i:Int) b x K
  | 0,_,_,_,_,_,_,_,h,_,_,_=>by omega
  | n+1,r,sp,s,i,b,x,K,h,hb,hi,hK=>by
    rw [AF]
    by_cases hx:i<s.1.length
    · rw [show decide ((i:Int)<((s.1.length:Nat):Int))=true by simpa using hx]
      have hw:IntKind.i64.wrap ((i:Int)+1)=((i+1:Nat):Int):=by
        rw [show((i+1:Nat):Int)=(i:Int)+1 by omega]
        simp only [IntKind.wrap]
        simp [IntKind.bits,IntKind.signed]; omega
      refine⟨s.1[i],by simp [CF,hx],CI _ _ _ _ _ (by omega) ?_⟩
      rw [List.drop_eq_getElem_cons hx] at hK
      simp only [List.foldl_cons] at hK
      by_cases hg:IntKind.i64.wrap (A1 s.1[i] r.to_ sp.l-s.1[i])>x
      · simp only [hg,decide_true,QW,hw]
        rw [show max x (IntKind.i64.wrap (A1 s.1[i] r.to_ sp.l-s.1[i]))=IntKind.i64.wrap (A1 s.1[i] r.to_ sp.l-s.1[i]) by omega] at hK
        exact CK _ _ _ _ _ _ _ _ (by omega) hb (by omega) hK
      · simp only [hg,decide_false,QV,hw]
        rw [show max x (IntKind.i64.wrap (A1 s.1[i] r.to_ sp.l-s.1[i]))=x by omega] at hK
        exact CK _ _ _ _ _ _ _ _ (by omega) hb (by omega) hK
    · obtain rfl:i=s.1.length:=by omega
      simp only [Int.lt_irrefl,decide_false,QV]
      simpa using hK b
theorem G5 {n:Nat} {r:Ag} {sp:EA Int Rg} {x:Int} (H:Cj n r sp=some x):CX n r sp (fun q=>q.long=x):=by
  unfold Cj at H
  split at H
  · rename_i hb
    cases H
    refine CJ _ _ _ _ _ (by omega) (by simp; omega) fun ms hm=>?_
    have hl:=hm.length_eq
    have hf:((sp.l.filter fun p=>decide (r.fr≤p.2.lo) && decide (p.2.lo≤r.to_)).map fun p=>p.2.lo).length≤sp.l.length:=by rw [List.length_map]; exact List.length_filter_le _ _
    simp only [List.length_append,List.length_cons,List.length_nil] at hl
    refine CK n r sp (ms,[]) 0 _ _ _ (by simp only; omega) (by simp only; omega) (by simp) fun b'=>?_
    simp only [List.drop_zero]
    have:∀ (l:List Int)(z:Int),l.foldl (fun b m=>max b (IntKind.i64.wrap (A1 m r.to_ sp.l-m))) z=(l.map fun m=>IntKind.i64.wrap (A1 m r.to_ sp.l-m)).foldl (fun b x=>max b x) z:=by
      intro l z; rw [List.foldl_map]
    rw [this,this]
    exact(hm.map _).foldl_eq' (fun p _ q _ e=>by omega) _
  · cases H
theorem Er (n:Nat) {h:Ad} {w:World} (hh:Dv h w) (r_:Ag) {cs_r_:List Value} (hx_r_:rep h r_ cs_r_) (spans:EA Int Rg) {bm_spans:Nat} {es_spans:Array MapEntry} {cl_spans:Nat} (hM_spans:h bm_spans 0=some (DH es_spans cl_spans)) (hE_spans:Du h es_spans.toList cl_spans spans.l) {x:Int} (H:Cj n r_ spans=some x) :
    Calls Try.prog 66 #[.agg cs_r_.toArray,.map (some bm_spans)] w (D6 (fun _ v=>∃ fr,v=.agg #[.int .i64 fr,.int .i64 x]) h w) :=
  (E8 n hh r_ hx_r_ spans hM_spans hE_spans (G5 H)).mono fun en w' ⟨v,h',h1,h3,h4,h5,h2⟩=>⟨v,h',h1,h3,h4,h5,by
    obtain⟨q,hq,cs,hv,hx⟩:=h2
    obtain⟨_,_,rfl,rfl,rfl⟩:=hx
    exact⟨q.fr,by rw [hv,← hq]; rfl⟩⟩
end Go.Proofs.Ytokchpjijlebiaa
