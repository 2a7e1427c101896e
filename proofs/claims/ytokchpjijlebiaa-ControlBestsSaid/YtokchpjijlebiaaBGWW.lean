/- Each call computes its plain function. -/
import Derived.Test.YtokchpjijlebiaaProg
import Derived.Test.YtokchpjijlebiaaBGP0
import Derived.Test.YtokchpjijlebiaaBGWP
import Derived.Test.YtokchpjijlebiaaBGWR
set_option linter.all false
namespace Go.Proofs.Ytokchpjijlebiaa
open Go Go.RowKit
open Rep (rep)
open KRep (kv)
open VRep (rv)
abbrev JS (y:Rg):List SC:=[.int .i64 y.lo,.int .i64 y.hi]
abbrev LS (z:Rg):List SC:=[.int .i64 z.lo,.int .i64 z.hi]
abbrev O3 (ag:((List Int)×Int×Int)):List SC:=[.int .i64 ag.2.1,.int .i64 ag.2.2]
abbrev KC (k o m ak:Nat):Ba:=[(k,0),(o,0),(m,0),(ak,0)]
abbrev JT (k o m u:Nat):Ba:=[(k,0),(o,0),(m,0),(u,0)]
abbrev Hu (k o m u aa ab:Nat) (x_v21:Int) (x:Nat):Ba:=[(k,0),(o,0),(m,0),(u,0),(aa,ab+(x_v21:Int).toNat*1),(x,0)]
abbrev Nc (k o m u aa ab:Nat) (x_v21:Int) (x ax:Nat):Ba:=[(k,0),(o,0),(m,0),(u,0),(aa,ab+(x_v21:Int).toNat*1),(x,0),(ax,0)]
abbrev Ec (a:Option Addr) (r_:Af) (e:Nat) (b:Option Addr) (f:Nat) (d:Option Addr) (g:Nat):List SC:=[.slice a r_.legs.length e,.int .i64 r_.turn.lo,.int .i64 r_.turn.hi,.slice b r_.buses.length f,.slice d r_.spares.length g,.int .i64 r_.unit,.int .i64 r_.gap,.int .i64 r_.fr,.int .i64 r_.to_]
abbrev KD (q:Option Addr) (x_v20:List Int) (s:Nat) (ae:List Value):List F2:=[⟨q,x_v20.length,s,3,1,ae,(ae:List Value).length⟩]
abbrev O4 (a:Option Addr) (r_:Af) (e:Nat) (b:Option Addr) (f:Nat) (d:Option Addr) (g:Nat):List CP:=[⟨Ec a r_ e b f d g,some 43⟩,⟨[.int .i64 0,.int .i64 0],some 126⟩,⟨[],none⟩]
abbrev O5 (a:Option Addr) (r_:Af) (e:Nat) (b:Option Addr) (f:Nat) (d:Option Addr) (g:Nat) (x_v22 x_v23 x42:Int):List CP:=[⟨Ec a r_ e b f d g,some 43⟩,⟨[.int .i64 0,.int .i64 0],some 126⟩,⟨[],none⟩,⟨[.int .i64 x_v22,.int .i64 x_v23],some 126⟩,⟨[.int .i64 x42],none⟩,⟨[],none⟩]
abbrev Sc (a:Option Addr) (r_:Af) (e:Nat) (b:Option Addr) (f:Nat) (d:Option Addr) (g:Nat) (x_v22 x_v23 x42:Int) (z:Rg):List CP:=[⟨Ec a r_ e b f d g,some 43⟩,⟨[.int .i64 0,.int .i64 0],some 126⟩,⟨[],none⟩,⟨[.int .i64 x_v22,.int .i64 x_v23],some 126⟩,⟨[.int .i64 x42],none⟩,⟨[],none⟩,⟨LS z,some 39⟩]
abbrev Gz (a:Option Addr) (r_:Af) (e:Nat) (b:Option Addr) (f:Nat) (d:Option Addr) (g:Nat) (ac:Option Addr) (x_v10:List Int) (ad bm_spans:Nat):TM:=[tP 21 2 0,(6,.one (.c (.func (.func 95) #[.agg #[.slice a r_.legs.length e,.int .i64 r_.turn.lo,.int .i64 r_.turn.hi,.slice b r_.buses.length f,.slice d r_.spares.length g,.int .i64 r_.unit,.int .i64 r_.gap,.int .i64 r_.fr,.int .i64 r_.to_]] #[]))),tS 5 ac x_v10.length ad,tP 4 1 0,tP 2 0 0,(1,.one (.c (.map (some bm_spans))))]
abbrev E6 (x_v21:Int) (p:((List Int)×(List (Int×Rg)))) (q:Option Addr) (x_v20:List Int) (s bm_spans:Nat):TM:=[tI 40 x_v21,tI 39 ((p.1.length:Nat):Int),tS 38 q x_v20.length s,tP 9 3 0,tP 4 1 0,tP 2 0 0,(1,.one (.c (.map (some bm_spans))))]
abbrev Qu (a:Option Addr) (r_:Af) (e:Nat) (b:Option Addr) (f:Nat) (d:Option Addr) (g:Nat) (aj:Option Addr) (bm_spans:Nat):TM:=[(6,.one (.c (.func (.func 95) #[.agg #[.slice a r_.legs.length e,.int .i64 r_.turn.lo,.int .i64 r_.turn.hi,.slice b r_.buses.length f,.slice d r_.spares.length g,.int .i64 r_.unit,.int .i64 r_.gap,.int .i64 r_.fr,.int .i64 r_.to_]] #[]))),tS 5 aj 1 1,tP 4 1 0,tP 2 0 0,(1,.one (.c (.map (some bm_spans))))]
abbrev Qv (a:Option Addr) (r_:Af) (e:Nat) (b:Option Addr) (f:Nat) (d:Option Addr) (g bm_spans:Nat):TM:=[tP 21 2 0,(6,.one (.c (.func (.func 95) #[.agg #[.slice a r_.legs.length e,.int .i64 r_.turn.lo,.int .i64 r_.turn.hi,.slice b r_.buses.length f,.slice d r_.spares.length g,.int .i64 r_.unit,.int .i64 r_.gap,.int .i64 r_.fr,.int .i64 r_.to_]] #[]))),tP 4 1 0,tP 2 0 0,(1,.one (.c (.map (some bm_spans))))]
abbrev FX (bm_spans:Nat):TM:=[tP 4 1 0,tP 2 0 0,(1,.one (.c (.map (some bm_spans))))]
abbrev HF (x_v30 x42 x_v21:Int) (p:((List Int)×(List (Int×Rg)))) (q:Option Addr) (x_v20:List Int) (s bm_spans:Nat):TM:=(tP 47 5 0)::(tI 12 x_v30)::(tI 11 x42)::(E6 x_v21 p q x_v20 s bm_spans)
set_option maxRecDepth 100000 in
set_option maxHeartbeats 4000000 in
theorem I5 (n:Nat) {h:Ae} {w:World} (hh:Dn h w) (r_:Af) {cs_r_:List Value} (hx_r_:rep h r_ cs_r_) (spans:EY Int Rg) {bm_spans:Nat} {es_spans:Array MapEntry} {cl_spans:Nat} (hM_spans:h bm_spans 0=some (E0 es_spans cl_spans)) (hE_spans:DW h es_spans.toList cl_spans spans.l) {Q:QC→Prop} (H:EI n r_ spans Q) :
  Calls Try.prog 66 #[.agg cs_r_.toArray,.map (some bm_spans)] w (Dp (fun h v=>∃ r,Q r∧∃ cs,v=.agg cs.toArray∧rep h r cs) h w):=by
 obtain⟨_,_,rfl,⟨a,e,rfl,aq⟩,⟨_,_,rfl,⟨_,_,rfl,rfl,rfl⟩,⟨_,_,rfl,⟨b,f,rfl,ar⟩,⟨_,_,rfl,⟨d,g,rfl,au⟩,⟨_,_,rfl,rfl,⟨_,_,rfl,rfl,⟨_,_,rfl,rfl,rfl⟩⟩⟩⟩⟩⟩⟩:=hx_r_
 refine enter 74 [.agg (Ec a r_ e b f d g),.c (.map (some bm_spans))] Try.func66 rfl rfl rfl rfl fun t hk=>?_
 have hm:=Ah.begin h w hh
 unfold EI at H
 refine XT (Aa (wl fun K hK=>?_))
 refine wb (.agg (Ec a r_ e b f d g)) hk hm fun k gz hn (ei:Kn 74 [(k,0)] [tP 2 0 0,tA 0 (Ec a r_ e b f d g),(1,.one (.c (.map (some bm_spans))))] gz) (f9:Ah ⟨w,h,Aj⟩ h [(k,0)] [⟨Ec a r_ e b f d g,some 43⟩] [] hn)=>hK _ _ ?_
 refine wl fun K hK=>?_
 refine wa [.int .i64 0,.int .i64 0] ei f9 fun o dn ht (es:Kn 74 [(k,0),(o,0)] [tP 4 1 0,tP 2 0 0,tA 0 (Ec a r_ e b f d g),(1,.one (.c (.map (some bm_spans))))] dn) (df:Ah ⟨w,h,Aj⟩ h [(k,0),(o,0)] [⟨Ec a r_ e b f d g,some 43⟩,⟨[.int .i64 0,.int .i64 0],some 126⟩] [] ht)=>hK _ _ ?_
 have eu:Kn 74 [(k,0),(o,0)] (FX bm_spans) dn:=es.kp
 refine wf (XT (Aa (Rk 0 2 ((tI 16 r_.fr)::(FX bm_spans)) eu df fun il e1=>?_)))
 refine wl fun K hK=>?_
 refine wS 3 1 [.int .i64 r_.fr] e1 df fun aj g4 hv (e6:Kn 74 [(k,0),(o,0)] ((tS 17 aj 1 1)::(tI 16 r_.fr)::(FX bm_spans)) g4) (bi:Ah ⟨w,h,Aj⟩ h [(k,0),(o,0)] [⟨Ec a r_ e b f d g,some 43⟩,⟨[.int .i64 0,.int .i64 0],some 126⟩] [⟨aj,1,1,3,1,([.int .i64 r_.fr]:List Value),0⟩] hv)=>?_
 have d6:Ag h ([r_.fr]:List Int) ([.int .i64 r_.fr]:List Value):=⟨_,_,rfl,(Ac:rep h (r_.fr:Int) _),rfl⟩
 refine hK _ _ ?_
 refine Rk 3 1 ((tS 5 aj 1 1)::(FX bm_spans)) e6 bi fun iu fg=>?_
 refine wf (XT (Aa (Rk 0 1 ((tA 18 (Ec a r_ e b f d g))::(tS 5 aj 1 1)::(FX bm_spans)) fg bi fun ix fn=>?_)))
 refine H6 1 #[.agg #[.slice a r_.legs.length e,.int .i64 r_.turn.lo,.int .i64 r_.turn.hi,.slice b r_.buses.length f,.slice d r_.spares.length g,.int .i64 r_.unit,.int .i64 r_.gap,.int .i64 r_.fr,.int .i64 r_.to_]] #[] fn rfl rfl (rfl) rfl (by decide) (by rfl) (by rfl) (by rfl) (by rfl) fun hc (fs:Kn 74 [(k,0),(o,0)] ((19,.one (.c (.func (.func 95) #[.agg #[.slice a r_.legs.length e,.int .i64 r_.turn.lo,.int .i64 r_.turn.hi,.slice b r_.buses.length f,.slice d r_.spares.length g,.int .i64 r_.unit,.int .i64 r_.gap,.int .i64 r_.fr,.int .i64 r_.to_]] #[])))::(tA 18 (Ec a r_ e b f d g))::(tS 5 aj 1 1)::(FX bm_spans)) hc)=>?_
 refine Rk 2 1 (Qu a r_ e b f d g aj bm_spans) fs bi fun i0 ft=>?_
 refine wf (XT (XT (Aa (Rk 0 1 ((20,.one (.c (.map (some bm_spans))))::(Qu a r_ e b f d g aj bm_spans)) ft bi fun i1 fu=>?_))))
 refine wl fun K hK=>?_
 refine Py (KT:=3) (E:=39) (l:=spans.l) fu bi rfl rfl (by decide) (by rfl) (by kernel_rfl) hM_spans hE_spans (by kernel_rfl) fun m dr h3 d2 dv (fv:Kn 74 [(k,0),(o,0),(m,0)] ((tP 21 2 0)::(20,.one (.c (.map (some bm_spans))))::(Qu a r_ e b f d g aj bm_spans)) dr) (gh:Ah (Fr.put ⟨w,h,Aj⟩ m (some (.mapIter (some bm_spans) cl_spans #[] cl_spans))) h [(k,0),(o,0),(m,0)] (O4 a r_ e b f d g) [⟨aj,1,1,3,1,([.int .i64 r_.fr]:List Value),0⟩] h3)=>hK _ _ ?_
 have fw:Kn 74 [(k,0),(o,0),(m,0)] ((tP 21 2 0)::(Qu a r_ e b f d g aj bm_spans)) dr:=fv.kp
 refine wf ?_
 obtain⟨c2,dy,H⟩:=Vf (G:=AN n r_ ([r_.fr]:List Int) spans.l) H
 refine Av (fun a' w'=>∃ (p:(List Int)×(List (Int×Rg)))(an:Option Addr)(ao:Nat)(a7:List Value)(ct:Array Nat)(cy:Array Value)(ay:Ae),a' = ⟨cy,[]⟩∧Kn 74 [(k,0),(o,0),(m,0)] ((tS 5 an p.1.length ao)::(FX bm_spans)) cy∧Ah (Fr.put ⟨w,h,Aj⟩ m (some (.mapIter (some bm_spans) cl_spans ct cl_spans))) ay [(k,0),(o,0),(m,0)] (O4 a r_ e b f d g) [⟨an,p.1.length,ao,3,1,a7,0⟩] w'∧Ae.le h ay∧Ag ay p.1 a7∧FG ay es_spans ct p.2∧c2 p) ?_ ?_
 ·
  refine wp_block ?_
  refine Ar (fun gy a' w'=>∃ (x_v10:List Int)(x_v11:List (Int×Rg))(ac:Option Addr)(ad:Nat)(am:List Value)(aw:Array Nat)(cz:Array Value)(az:Ae),a' = ⟨cz,[]⟩∧Kn 74 [(k,0),(o,0),(m,0)] (Gz a r_ e b f d g ac x_v10 ad bm_spans) cz∧Ah (Fr.put ⟨w,h,Aj⟩ m (some (.mapIter (some bm_spans) cl_spans aw cl_spans))) az [(k,0),(o,0),(m,0)] (O4 a r_ e b f d g) [⟨ac,x_v10.length,ad,3,1,am,0⟩] w'∧Ae.le h az∧Ag az x_v10 am∧FG az es_spans aw x_v11∧AN gy r_ x_v10 x_v11 c2) n ?_ ?_
  ·
   exact XY ([r_.fr]:List Int) ⟨spans.l,aj,1,([.int .i64 r_.fr]:List Value),#[],_,_,rfl,fw.kp,gh,Ae.le_refl _,d6,dv,H⟩
  ·
   rintro bd _ jd ⟨x_v10,x_v11,ac,ad,am,aw,cz,az,rfl,fx,cm,a4,bf,c5,ah⟩
   obtain _ | bd:=bd
   ·
    rw [AN] at ah; exact ah.elim
   rw [AN] at ah
   replace aq:=aq.mono a4
   replace ar:=ar.mono a4
   replace au:=au.mono a4
   replace hE_spans:=hE_spans.mono a4
   replace hM_spans:=a4 _ _ _ hM_spans
   refine XT (Aa (wl fun K hK=>?_))
   refine QV fx cm rfl rfl (by decide) (by rfl) (by rfl) hM_spans hE_spans c5 ?_ ?_
   ·
    intro go hd (fy:Kn 74 [(k,0),(o,0),(m,0)] ((22,.tup [.c (.bool false)])::(Gz a r_ e b f d g ac x_v10 ad bm_spans)) hd)
    replace ah:=ah.1 go
    refine hK _ _ ?_
    refine Rk 1 1 ((tB 23 false)::(Gz a r_ e b f d g ac x_v10 ad bm_spans)) fy cm fun i2 c9=>?_
    refine wf (XT (wC false c9 (fun hb=>?_) (fun hb=>?_)))
    ·
     cases hb
    refine wp_exit ?_
    exact XY (x_v10,x_v11) ⟨ac,ad,am,aw,_,_,rfl,c9.kp,cm,a4,bf,c5,ah⟩
   ·
    intro a6 bl y i8 cq gk gs d9 br he h4 f4 (b1:Ah (Fr.put ⟨w,h,Aj⟩ m (some (.mapIter (some bm_spans) cl_spans (Array.push aw a6) cl_spans))) az [(k,0),(o,0),(m,0)] (O4 a r_ e b f d g) [⟨ac,x_v10.length,ad,3,1,am,0⟩] h4)
    replace ah:=ah.2 bl y cq gk
    obtain⟨_,rfl,⟨_,_,rfl,rfl,rfl⟩⟩:=gs
    have fz:Kn 74 [(k,0),(o,0),(m,0)] ((22,.tup [.c (.bool true),.c (.int .i64 bl),.agg (JS y)])::(Gz a r_ e b f d g ac x_v10 ad bm_spans)) he:=f4 (.tup [.c (.bool true),.c (.int .i64 bl),.agg (JS y)]) rfl
    refine hK _ _ ?_
    refine Rk 1 1 ((tB 23 true)::(Gz a r_ e b f d g ac x_v10 ad bm_spans)) fz b1 fun i3 da=>?_
    refine wf (XT (wC true da (fun hb=>?_) (fun hb=>?_)))
    rotate_left
    ·
     cases hb
    refine wp_skip (wp_block (XT (Aa (wl fun K hK=>?_))))
    refine Pz da b1 rfl rfl (by decide) (by rfl) (by rfl) hM_spans hE_spans d9 fun hf f5=>?_
    have f0:Kn 74 [(k,0),(o,0),(m,0)] ((24,.tup [.c (.int .i64 bl),.agg (JS y)])::(tB 23 true)::(Gz a r_ e b f d g ac x_v10 ad bm_spans)) hf:=f5 (.tup [.c (.int .i64 bl),.agg (JS y)]) rfl
    refine hK _ _ ?_
    refine Rk 1 1 ((tA 25 (JS y))::(Gz a r_ e b f d g ac x_v10 ad bm_spans)) f0 b1 fun i4 f1=>?_
    refine wl fun K hK=>?_
    refine wa [.int .i64 0,.int .i64 0] f1 b1 fun ak dk hg (eb:Kn 74 (KC k o m ak) ((tP 8 3 0)::(tA 25 (JS y))::(Gz a r_ e b f d g ac x_v10 ad bm_spans)) dk) (f8:Ah (Fr.put ⟨w,h,Aj⟩ m (some (.mapIter (some bm_spans) cl_spans (Array.push aw a6) cl_spans))) az (KC k o m ak) [⟨Ec a r_ e b f d g,some 43⟩,⟨[.int .i64 0,.int .i64 0],some 126⟩,⟨[],none⟩,⟨[.int .i64 0,.int .i64 0],some 39⟩] [⟨ac,x_v10.length,ad,3,1,am,0⟩] hg)=>hK _ _ ?_
    refine wl fun K hK=>?_
    refine G2 3 0 (.agg (JS y)) (JS y) eb f8 fun hl ec (ci:Ah (Fr.put ⟨w,h,Aj⟩ m (some (.mapIter (some bm_spans) cl_spans (Array.push aw a6) cl_spans))) az (KC k o m ak) [⟨Ec a r_ e b f d g,some 43⟩,⟨[.int .i64 0,.int .i64 0],some 126⟩,⟨[],none⟩,⟨JS y,some 39⟩] [⟨ac,x_v10.length,ad,3,1,am,0⟩] hl)=>hK _ _ ?_
    have ed:Kn 74 (KC k o m ak) ((tP 8 3 0)::(Gz a r_ e b f d g ac x_v10 ad bm_spans)) dk:=ec.kp
    refine wf (XT (Aa (Rk 0 3 ((tI 28 y.lo)::(26,.one (.c (.func (.func 95) #[.agg #[.slice a r_.legs.length e,.int .i64 r_.turn.lo,.int .i64 r_.turn.hi,.slice b r_.buses.length f,.slice d r_.spares.length g,.int .i64 r_.unit,.int .i64 r_.gap,.int .i64 r_.fr,.int .i64 r_.to_]] #[])))::(tP 8 3 0)::(Gz a r_ e b f d g ac x_v10 ad bm_spans)) ed ci fun ia ee=>?_)))
    obtain⟨x29,ex29,ah⟩:=ah
    refine wl fun K hK=>?_
    refine DB (.func (.func 95) #[.agg #[.slice a r_.legs.length e,.int .i64 r_.turn.lo,.int .i64 r_.turn.hi,.slice b r_.buses.length f,.slice d r_.spares.length g,.int .i64 r_.unit,.int .i64 r_.gap,.int .i64 r_.fr,.int .i64 r_.to_]] #[]) [.c (.int .i64 y.lo)] _ ee ci rfl rfl (by decide) (by rfl) (by rfl) rfl ((show US az (.func (.func 95) #[.agg #[.slice a r_.legs.length e,.int .i64 r_.turn.lo,.int .i64 r_.turn.hi,.slice b r_.buses.length f,.slice d r_.spares.length g,.int .i64 r_.unit,.int .i64 r_.gap,.int .i64 r_.fr,.int .i64 r_.to_]] #[]) (fun(y0:Int)=>BU bd r_ y0) from fun h2 w2 hle hh y0 r H=>⟨95,_,_,rfl,fun _ _=>by kernel_rfl,HY bd hh r_ (Rep.mono hle ((Ab (Ad aq) (Ab (Ab Ac Ac) (Ab (Ad ar) (Ab (Ad au) (Ab Ac (Ab Ac (Ab Ac Ac))))))):rep az r_ _)) y0 H⟩) _ _ (Ae.le_refl _) ci.has y.lo _ ex29) fun i5 be i9 dz bg cj=>?_
    replace bf:=bf.mono bg
    replace br:=br.mono bg
    replace hM_spans:=bg _ _ _ hM_spans
    obtain rfl:=dz
    refine⟨.one (.c (.bool x29)),rfl,fun dl (ef:Kn 74 (KC k o m ak) ((tB 29 x29)::(tI 28 y.lo)::(26,.one (.c (.func (.func 95) #[.agg #[.slice a r_.legs.length e,.int .i64 r_.turn.lo,.int .i64 r_.turn.hi,.slice b r_.buses.length f,.slice d r_.spares.length g,.int .i64 r_.unit,.int .i64 r_.gap,.int .i64 r_.fr,.int .i64 r_.to_]] #[])))::(tP 8 3 0)::(Gz a r_ e b f d g ac x_v10 ad bm_spans)) dl)=>hK _ _ ?_⟩
    have cd:Kn 74 (KC k o m ak) ((tB 29 x29)::(tP 8 3 0)::(Gz a r_ e b f d g ac x_v10 ad bm_spans)) dl:=ef.kp
    refine wf (wC (x29) cd (fun b7=>?_) (fun b7=>?_))
    ·
     rw [b7,XW] at ah
     refine Aa (Rk 0 3 ((tI 32 y.lo)::(tS 30 ac x_v10.length ad)::(Qv a r_ e b f d g bm_spans)) cd cj fun ib eg=>?_)
     refine wl fun K hK=>?_
     refine wS 3 1 [.int .i64 y.lo] eg cj fun bn g0 ho (eh:Kn 74 (KC k o m ak) ((tS 33 bn 1 1)::(tI 32 y.lo)::(tS 30 ac x_v10.length ad)::(Qv a r_ e b f d g bm_spans)) g0) (db:Ah (Fr.put ⟨w,h,Aj⟩ m (some (.mapIter (some bm_spans) cl_spans (Array.push aw a6) cl_spans))) be (KC k o m ak) [⟨Ec a r_ e b f d g,some 43⟩,⟨[.int .i64 0,.int .i64 0],some 126⟩,⟨[],none⟩,⟨JS y,some 39⟩] [⟨ac,x_v10.length,ad,3,1,am,0⟩,⟨bn,1,1,3,1,([.int .i64 y.lo]:List Value),0⟩] ho)=>?_
     have cb:Ag be ([y.lo]:List Int) ([.int .i64 y.lo]:List Value):=⟨_,_,rfl,(Ac:rep be (y.lo:Int) _),rfl⟩
     refine hK _ _ ?_
     obtain⟨x34,ex34,ah⟩:=ah
     obtain⟨co,f6⟩:=A8 ex34
     refine wl fun K hK=>?_
     refine A3 0 8 1 _ (x34.length) _ ([.int .i64 y.lo]:List Value) eh db rfl rfl (by decide) rfl (by rfl) (by kernel_rfl) (by rfl) (by rfl) (Ag.len cb) (db.rowCell (i:=1) rfl) cb.one (by rw [co]; simp) (by rw [co]; exact f6) (by decide) fun bo bp c3 g1 hp ea (ej:Kn 74 (KC k o m ak) ((tS 34 bo x34.length bp)::(tS 33 bn 1 1)::(tI 32 y.lo)::(tS 30 ac x_v10.length ad)::(Qv a r_ e b f d g bm_spans)) g1) (dc:Ah (Fr.put ⟨w,h,Aj⟩ m (some (.mapIter (some bm_spans) cl_spans (Array.push aw a6) cl_spans))) be (KC k o m ak) [⟨Ec a r_ e b f d g,some 43⟩,⟨[.int .i64 0,.int .i64 0],some 126⟩,⟨[],none⟩,⟨JS y,some 39⟩] [⟨bo,x34.length,bp,3,1,am++([.int .i64 y.lo]:List Value),c3⟩,⟨bn,1,1,3,1,([.int .i64 y.lo]:List Value),0⟩] hp)=>?_
     have d4:Ag be x34 (am++([.int .i64 y.lo]:List Value)):=by rw [co]; exact Ag.append bf cb
     obtain rfl:c3=0:=Nat.le_zero.1 ea
     refine hK _ _ ?_
     refine Rk 5 1 ((tS 5 bo x34.length bp)::(Qv a r_ e b f d g bm_spans)) ej dc fun ic ek=>?_
     refine wf ?_
     exact XY bd ⟨Nat.lt_succ_self _,XY x34 ⟨cq,bo,bp,am++([.int .i64 y.lo]:List Value),Array.push aw a6,_,_,rfl,(ek.keep [21,6,5,4,2,1] (by rfl)).cut 3 (by kernel_rfl),(dc.cutRw 1).cutPl 3 (by kernel_rfl),XU a4 bg,d4,br,ah⟩⟩
    ·
     rw [b7,XV] at ah
     refine wp_skip ?_
     exact XY bd ⟨Nat.lt_succ_self _,XY x_v10 ⟨cq,ac,ad,am,Array.push aw a6,_,_,rfl,(cd.keep [21,6,5,4,2,1] (by rfl)).cut 3 (by kernel_rfl),cj.cutPl 3 (by kernel_rfl),XU a4 bg,bf,br,ah⟩⟩
 ·
  rintro _ hq ⟨p,an,ao,a7,ct,cy,ay,rfl,el,ga,bh,d7,h7,H⟩
  rw [dy] at H
  replace aq:=aq.mono bh
  replace ar:=ar.mono bh
  replace au:=au.mono bh
  replace hE_spans:=hE_spans.mono bh
  replace hM_spans:=bh _ _ _ hM_spans
  have dd:Ah ⟨w,h,Aj⟩ ay [(k,0),(o,0),(m,0)] (O4 a r_ e b f d g) [⟨an,p.1.length,ao,3,1,a7,0⟩] hq:=Ah.dropX d2 ga
  refine XT (Aa (Rk 0 3 ((tA 37 [.int .i64 r_.fr,.int .i64 0])::(tS 5 an p.1.length ao)::(FX bm_spans)) el dd fun ie em=>?_))
  refine wl fun K hK=>?_
  refine wa [.int .i64 0,.int .i64 0] em dd fun u dm hr (en:Kn 74 (JT k o m u) ((tP 9 3 0)::(tA 37 [.int .i64 r_.fr,.int .i64 0])::(tS 5 an p.1.length ao)::(FX bm_spans)) dm) (gb:Ah ⟨w,h,Aj⟩ ay (JT k o m u) [⟨Ec a r_ e b f d g,some 43⟩,⟨[.int .i64 0,.int .i64 0],some 126⟩,⟨[],none⟩,⟨[.int .i64 0,.int .i64 0],some 126⟩] [⟨an,p.1.length,ao,3,1,a7,0⟩] hr)=>hK _ _ ?_
  refine wl fun K hK=>?_
  refine G2 3 0 (.agg [.int .i64 r_.fr,.int .i64 0]) [.int .i64 r_.fr,.int .i64 0] en gb fun hs eo (de:Ah ⟨w,h,Aj⟩ ay (JT k o m u) [⟨Ec a r_ e b f d g,some 43⟩,⟨[.int .i64 0,.int .i64 0],some 126⟩,⟨[],none⟩,⟨[.int .i64 r_.fr,.int .i64 0],some 126⟩] [⟨an,p.1.length,ao,3,1,a7,0⟩] hs)=>hK _ _ ?_
  have ep:Kn 74 (JT k o m u) ((tP 9 3 0)::(tS 5 an p.1.length ao)::(FX bm_spans)) dm:=eo.kp
  refine wf (XT (XT (Aa (Rk 0 3 ((tI 40 0)::(tI 39 ((p.1.length:Nat):Int))::(tS 38 an p.1.length ao)::(tP 9 3 0)::(FX bm_spans)) ep de fun ig er=>?_))))
  refine wf ?_
  obtain⟨c0,dw,H⟩:=Vf (G:=AP n r_ spans p p.1 0 r_.fr 0) H
  refine Av (fun a' w'=>∃ (ag:(List Int)×Int×Int)(b3:Option Addr)(b4:Nat)(b2:List Value)(b6:Nat)(cu:Array Value)(a9:Ae),a' = ⟨cu,[]⟩∧Kn 74 (JT k o m u) [tP 9 3 0,tP 4 1 0] cu∧Ah ⟨w,h,Aj⟩ a9 (JT k o m u) [⟨Ec a r_ e b f d g,some 43⟩,⟨[.int .i64 0,.int .i64 0],some 126⟩,⟨[],none⟩,⟨O3 ag,some 126⟩] [⟨b3,ag.1.length,b4,3,1,b2,b6⟩] w'∧Ae.le ay a9∧Ag a9 ag.1 b2∧c0 ag) ?_ ?_
  ·
   refine wp_block ?_
   refine Ar (fun gw a' w'=>∃ (x_v20:List Int)(x_v21:Int)(x_v22:Int)(x_v23:Int)(q:Option Addr)(s:Nat)(ae:List Value)(b5:Nat)(cv:Array Value)(bs:Ae),a' = ⟨cv,[]⟩∧Kn 74 (JT k o m u) (E6 x_v21 p q x_v20 s bm_spans) cv∧Ah ⟨w,h,Aj⟩ bs (JT k o m u) [⟨Ec a r_ e b f d g,some 43⟩,⟨[.int .i64 0,.int .i64 0],some 126⟩,⟨[],none⟩,⟨[.int .i64 x_v22,.int .i64 x_v23],some 126⟩] [⟨q,x_v20.length,s,3,1,ae,b5⟩] w'∧Ae.le ay bs∧Ag bs x_v20 ae∧AP gw r_ spans p x_v20 x_v21 x_v22 x_v23 c0) n ?_ ?_
   ·
    exact XY p.1 ⟨0,r_.fr,0,an,ao,a7,0,_,_,rfl,er.kp,de,Ae.le_refl _,d7,H⟩
   ·
    rintro bc _ ds ⟨x_v20,x_v21,x_v22,x_v23,q,s,ae,b5,cv,bs,rfl,et,bv,a2,a0,af⟩
    obtain _ | bc:=bc
    ·
     rw [AP] at af; exact af.elim
    rw [AP] at af
    replace aq:=aq.mono a2
    replace ar:=ar.mono a2
    replace au:=au.mono a2
    replace hE_spans:=hE_spans.mono a2
    replace hM_spans:=a2 _ _ _ hM_spans
    refine XT (Aa (Rk 0 1 ((tB 41 (decide (x_v21<((p.1.length:Nat):Int))))::(E6 x_v21 p q x_v20 s bm_spans)) et bv fun ih ce=>?_))
    refine wf (XT (wC (decide (x_v21<((p.1.length:Nat):Int))) ce (fun b8=>?_) (fun b8=>?_)))
    ·
     rw [b8,XW] at af
     refine wp_skip (XT (wp_block (XT (Aa ?_))))
     obtain⟨ba,a3,gp,ck⟩:=bv.settle (i:=0) rfl
     replace aq:=aq.mono a3
     replace ar:=ar.mono a3
     replace au:=au.mono a3
     replace hE_spans:=hE_spans.mono a3
     replace a0:=a0.mono a3
     replace hM_spans:=a3 _ _ _ hM_spans
     replace ck:Ah ⟨w,h,Aj⟩ ba (JT k o m u) [⟨Ec a r_ e b f d g,some 43⟩,⟨[.int .i64 0,.int .i64 0],some 126⟩,⟨[],none⟩,⟨[.int .i64 x_v22,.int .i64 x_v23],some 126⟩] (KD q x_v20 s ae) ds:=ck
     have cn:A6 ba q s x_v20:=⟨_,a0,gp,bv.rowCap (i:=0) rfl⟩
     obtain⟨x42,ex42,af⟩:=af
     obtain⟨gi,gl,gv⟩:=Ai ex42
     obtain⟨aa,ab,h5,d3,gu,d5⟩:=cn.get (by decide) gv
     obtain rfl:=gu
     have bw:Ah ⟨w,h,Aj⟩ ba [(k,0),(o,0),(m,0),(u,0),(aa,ab+(x_v21:Int).toNat*1)] [⟨Ec a r_ e b f d g,some 43⟩,⟨[.int .i64 0,.int .i64 0],some 126⟩,⟨[],none⟩,⟨[.int .i64 x_v22,.int .i64 x_v23],some 126⟩,⟨[.int .i64 x42],none⟩] (KD q x_v20 s ae) ds:=ck.addPlc (cs:=[.int .i64 x42]) (fun j c hj=>d5 j _ (Al hj)) rfl (by kernel_rfl) (by kernel_rfl)
     refine Bc 0 (x_v21) rfl rfl (rfl) rfl (by decide) ce (by rfl) (by rfl) (by rfl) d3 (by rfl) gi gl (by kernel_rfl) fun g2 (ev:Kn 74 [(k,0),(o,0),(m,0),(u,0),(aa,ab+(x_v21:Int).toNat*1)] ((tP 42 4 0)::(tB 41 (decide (x_v21<((p.1.length:Nat):Int))))::(E6 x_v21 p q x_v20 s bm_spans)) g2)=>?_
     refine Rk 1 2 ((tI 11 x42)::(E6 x_v21 p q x_v20 s bm_spans)) ev bw fun ii ew=>?_
     refine wf (XT (Aa (Rk 0 3 ((tI 12 r_.to_)::(tI 11 x42)::(E6 x_v21 p q x_v20 s bm_spans)) ew bw fun ij ex=>?_)))
     refine wf (XT (XT (Aa (Rk 0 1 ((46,.one (.c (.map (some bm_spans))))::(tI 12 r_.to_)::(tI 11 x42)::(E6 x_v21 p q x_v20 s bm_spans)) ex bw fun ik ey=>?_))))
     refine wl fun K hK=>?_
     refine Py (KT:=3) (E:=39) (l:=spans.l) ey bw rfl rfl (by decide) (by rfl) (by kernel_rfl) hM_spans hE_spans (by kernel_rfl) fun x dp hu d1 du (ez:Kn 74 (Hu k o m u aa ab x_v21 x) ((tP 47 5 0)::(46,.one (.c (.map (some bm_spans))))::(tI 12 r_.to_)::(tI 11 x42)::(E6 x_v21 p q x_v20 s bm_spans)) dp) (gc:Ah (Fr.put ⟨w,h,Aj⟩ x (some (.mapIter (some bm_spans) cl_spans #[] cl_spans))) ba (Hu k o m u aa ab x_v21 x) (O5 a r_ e b f d g x_v22 x_v23 x42) (KD q x_v20 s ae) hu)=>hK _ _ ?_
     have e0:Kn 74 (Hu k o m u aa ab x_v21 x) ((tP 47 5 0)::(tI 12 r_.to_)::(tI 11 x42)::(E6 x_v21 p q x_v20 s bm_spans)) dp:=ez.kp
     refine wf ?_
     obtain⟨c1,dx,af⟩:=Vf (G:=AO bc x42 r_.to_ spans.l) af
     refine Av (fun a' w'=>∃ (al:Int×(List (Int×Rg)))(cr:Array Nat)(cw:Array Value)(bb:Ae),a' = ⟨cw,[]⟩∧Kn 74 (Hu k o m u aa ab x_v21 x) ((tI 12 al.1)::(tI 11 x42)::(E6 x_v21 p q x_v20 s bm_spans)) cw∧Ah (Fr.put ⟨w,h,Aj⟩ x (some (.mapIter (some bm_spans) cl_spans cr cl_spans))) bb (Hu k o m u aa ab x_v21 x) (O5 a r_ e b f d g x_v22 x_v23 x42) (KD q x_v20 s ae) w'∧Ae.le ba bb∧FG bb es_spans cr al.2∧c1 al) ?_ ?_
     ·
      refine wp_block ?_
      refine Ar (fun gx a' w'=>∃ (x_v30:Int)(x_v31:List (Int×Rg))(av:Array Nat)(cx:Array Value)(ap:Ae),a' = ⟨cx,[]⟩∧Kn 74 (Hu k o m u aa ab x_v21 x) (HF x_v30 x42 x_v21 p q x_v20 s bm_spans) cx∧Ah (Fr.put ⟨w,h,Aj⟩ x (some (.mapIter (some bm_spans) cl_spans av cl_spans))) ap (Hu k o m u aa ab x_v21 x) (O5 a r_ e b f d g x_v22 x_v23 x42) (KD q x_v20 s ae) w'∧Ae.le ba ap∧FG ap es_spans av x_v31∧AO gx x42 x_v30 x_v31 c1) bc ?_ ?_
      ·
       exact XY r_.to_ ⟨spans.l,#[],_,_,rfl,e0.kp,gc,Ae.le_refl _,du,af⟩
      ·
       rintro bm _ ja ⟨x_v30,x_v31,av,cx,ap,rfl,e2,cl,a1,c4,ai⟩
       obtain _ | bm:=bm
       ·
        rw [AO] at ai; exact ai.elim
       rw [AO] at ai
       replace aq:=aq.mono a1
       replace ar:=ar.mono a1
       replace au:=au.mono a1
       replace hE_spans:=hE_spans.mono a1
       replace cn:=cn.mono a1
       replace hM_spans:=a1 _ _ _ hM_spans
       replace a0:=a0.mono a1
       refine XT (Aa (wl fun K hK=>?_))
       refine QV e2 cl rfl rfl (by decide) (by rfl) (by rfl) hM_spans hE_spans c4 ?_ ?_
       ·
        intro gn g3 (e3:Kn 74 (Hu k o m u aa ab x_v21 x) ((48,.tup [.c (.bool false)])::(HF x_v30 x42 x_v21 p q x_v20 s bm_spans)) g3)
        replace ai:=ai.1 gn
        refine hK _ _ ?_
        refine Rk 1 1 ((tB 49 false)::(HF x_v30 x42 x_v21 p q x_v20 s bm_spans)) e3 cl fun im c7=>?_
        refine wf (XT (wC false c7 (fun hb=>?_) (fun hb=>?_)))
        ·
         cases hb
        refine wp_exit ?_
        exact XY (x_v30,x_v31) ⟨av,_,_,rfl,c7.kp,cl,a1,c4,ai⟩
       ·
        intro a5 bk z i6 cp gj gr d8 bq g5 hw f2 (bx:Ah (Fr.put ⟨w,h,Aj⟩ x (some (.mapIter (some bm_spans) cl_spans (Array.push av a5) cl_spans))) ap (Hu k o m u aa ab x_v21 x) (O5 a r_ e b f d g x_v22 x_v23 x42) (KD q x_v20 s ae) hw)
        replace ai:=ai.2 bk z cp gj
        obtain⟨_,rfl,⟨_,_,rfl,rfl,rfl⟩⟩:=gr
        have e4:Kn 74 (Hu k o m u aa ab x_v21 x) ((48,.tup [.c (.bool true),.c (.int .i64 bk),.agg (LS z)])::(HF x_v30 x42 x_v21 p q x_v20 s bm_spans)) g5:=f2 (.tup [.c (.bool true),.c (.int .i64 bk),.agg (LS z)]) rfl
        refine hK _ _ ?_
        refine Rk 1 1 ((tB 49 true)::(HF x_v30 x42 x_v21 p q x_v20 s bm_spans)) e4 bx fun io c8=>?_
        refine wf (XT (wC true c8 (fun hb=>?_) (fun hb=>?_)))
        rotate_left
        ·
         cases hb
        refine wp_skip (wp_block (XT (Aa (wl fun K hK=>?_))))
        refine Pz c8 bx rfl rfl (by decide) (by rfl) (by rfl) hM_spans hE_spans d8 fun g6 f3=>?_
        have e5:Kn 74 (Hu k o m u aa ab x_v21 x) ((50,.tup [.c (.int .i64 bk),.agg (LS z)])::(tB 49 true)::(HF x_v30 x42 x_v21 p q x_v20 s bm_spans)) g6:=f3 (.tup [.c (.int .i64 bk),.agg (LS z)]) rfl
        refine hK _ _ ?_
        refine Rk 1 1 ((tA 51 (LS z))::(HF x_v30 x42 x_v21 p q x_v20 s bm_spans)) e5 bx fun ip e7=>?_
        refine wl fun K hK=>?_
        refine wa [.int .i64 0,.int .i64 0] e7 bx fun ax dq hx (e8:Kn 74 (Nc k o m u aa ab x_v21 x ax) ((tP 14 6 0)::(tA 51 (LS z))::(HF x_v30 x42 x_v21 p q x_v20 s bm_spans)) dq) (gd:Ah (Fr.put ⟨w,h,Aj⟩ x (some (.mapIter (some bm_spans) cl_spans (Array.push av a5) cl_spans))) ap (Nc k o m u aa ab x_v21 x ax) [⟨Ec a r_ e b f d g,some 43⟩,⟨[.int .i64 0,.int .i64 0],some 126⟩,⟨[],none⟩,⟨[.int .i64 x_v22,.int .i64 x_v23],some 126⟩,⟨[.int .i64 x42],none⟩,⟨[],none⟩,⟨[.int .i64 0,.int .i64 0],some 39⟩] (KD q x_v20 s ae) hx)=>hK _ _ ?_
        refine wl fun K hK=>?_
        refine G2 6 0 (.agg (LS z)) (LS z) e8 gd fun hy e9 (bz:Ah (Fr.put ⟨w,h,Aj⟩ x (some (.mapIter (some bm_spans) cl_spans (Array.push av a5) cl_spans))) ap (Nc k o m u aa ab x_v21 x ax) (Sc a r_ e b f d g x_v22 x_v23 x42 z) (KD q x_v20 s ae) hy)=>hK _ _ ?_
        have fa:Kn 74 (Nc k o m u aa ab x_v21 x ax) ((tP 14 6 0)::(HF x_v30 x42 x_v21 p q x_v20 s bm_spans)) dq:=e9.kp
        refine wf (XT (Aa (Rk 0 4 ((tB 55 (decide (z.lo>x42)))::(tP 14 6 0)::(HF x_v30 x42 x_v21 p q x_v20 s bm_spans)) fa bz fun iq cf=>?_)))
        refine wf (wC (decide (z.lo>x42)) cf (fun b9=>?_) (fun b9=>?_))
        ·
         rw [b9,XW] at ai
         refine Aa (Rk 0 3 ((tI 58 z.hi)::(tI 56 x_v30)::(tP 47 5 0)::(tI 11 x42)::(E6 x_v21 p q x_v20 s bm_spans)) cf bz fun ir fb=>?_)
         refine wl fun K hK=>?_
         refine wS 3 1 [.int .i64 x_v30,.int .i64 z.hi] fb bz fun a8 g7 dt (fc:Kn 74 (Nc k o m u aa ab x_v21 x ax) ((tS 59 a8 2 2)::(tI 58 z.hi)::(tI 56 x_v30)::(tP 47 5 0)::(tI 11 x42)::(E6 x_v21 p q x_v20 s bm_spans)) g7) (dg:Ah (Fr.put ⟨w,h,Aj⟩ x (some (.mapIter (some bm_spans) cl_spans (Array.push av a5) cl_spans))) ap (Nc k o m u aa ab x_v21 x ax) (Sc a r_ e b f d g x_v22 x_v23 x42 z) [⟨q,x_v20.length,s,3,1,ae,(ae:List Value).length⟩,⟨a8,2,2,3,1,([.int .i64 x_v30,.int .i64 z.hi]:List Value),0⟩] dt)=>?_
         have cc:Ag ap ([x_v30,z.hi]:List Int) ([.int .i64 x_v30,.int .i64 z.hi]:List Value):=⟨_,_,rfl,(Ac:rep ap (x_v30:Int) _),⟨_,_,rfl,(Ac:rep ap (z.hi:Int) _),rfl⟩⟩
         refine hK _ _ ?_
         obtain⟨c6,bt,gq,b0⟩:=dg.settle (i:=1) rfl
         replace cc:=cc.mono bt
         replace hM_spans:=bt _ _ _ hM_spans
         replace b0:Ah (Fr.put ⟨w,h,Aj⟩ x (some (.mapIter (some bm_spans) cl_spans (Array.push av a5) cl_spans))) c6 (Nc k o m u aa ab x_v21 x ax) (Sc a r_ e b f d g x_v22 x_v23 x42 z) [⟨q,x_v20.length,s,3,1,ae,(ae:List Value).length⟩,⟨a8,2,2,3,1,([.int .i64 x_v30,.int .i64 z.hi]:List Value),(([.int .i64 x_v30,.int .i64 z.hi]:List Value):List Value).length⟩] dt:=b0
         have gm:A6 c6 a8 2 ([x_v30,z.hi]:List Int):=⟨_,cc,gq,dg.rowCap (i:=1) rfl⟩
         obtain⟨x60,ex60,ai⟩:=ai
         refine wl fun K hK=>?_
         refine wc [.c (.slice a8 2 2)] fc b0 (EL bm b0.has ([x_v30,z.hi]:List Int) gm ex60) fun i7 h8 jb d0 ch dh=>?_
         replace bq:=bq.mono (XU bt ch)
         replace hM_spans:=ch _ _ _ hM_spans
         obtain rfl:=d0
         refine⟨.one (.c (.int .i64 x60)),rfl,fun g8 (fd:Kn 74 (Nc k o m u aa ab x_v21 x ax) ((tI 60 x60)::(tS 59 a8 2 2)::(tI 58 z.hi)::(tI 56 x_v30)::(tP 47 5 0)::(tI 11 x42)::(E6 x_v21 p q x_v20 s bm_spans)) g8)=>hK _ _ ?_⟩
         refine Rk 5 1 ((tI 12 x60)::(tP 47 5 0)::(tI 11 x42)::(E6 x_v21 p q x_v20 s bm_spans)) fd dh fun iv fe=>?_
         refine wf ?_
         exact XY bm ⟨Nat.lt_succ_self _,XY x60 ⟨cp,Array.push av a5,_,_,rfl,(fe.keep [47,12,11,40,39,38,9,4,2,1] (by rfl)).cut 6 (by kernel_rfl),(dh.cutRw 1).cutPl 6 (by kernel_rfl),XU a1 (XU bt ch),bq,ai⟩⟩
        ·
         rw [b9,XV] at ai
         refine wp_skip ?_
         exact XY bm ⟨Nat.lt_succ_self _,XY x_v30 ⟨cp,Array.push av a5,_,_,rfl,(cf.keep [47,12,11,40,39,38,9,4,2,1] (by rfl)).cut 6 (by kernel_rfl),bz.cutPl 6 (by kernel_rfl),a1,bq,ai⟩⟩
     ·
      rintro _ hz ⟨al,cr,cw,bb,rfl,ff,gf,bu,h6,af⟩
      rw [dx] at af
      replace hM_spans:=bu _ _ _ hM_spans
      replace a0:=a0.mono bu
      have bj:Ah ⟨w,h,Aj⟩ bb (Hu k o m u aa ab x_v21 x) (O5 a r_ e b f d g x_v22 x_v23 x42) (KD q x_v20 s ae) hz:=Ah.dropX d1 gf
      refine XT (Aa (Rk 0 6 ((tB 66 (decide ((IntKind.i64.wrap (al.1-x42))>x_v23)))::(tI 12 al.1)::(tI 11 x42)::(E6 x_v21 p q x_v20 s bm_spans)) ff bj fun iw cg=>?_))
      refine wf (wC (decide ((IntKind.i64.wrap (al.1-x42))>x_v23)) cg (fun ca=>?_) (fun ca=>?_))
      ·
       rw [ca,XW] at af
       refine Aa (Rk 0 5 ((tA 71 [.int .i64 x42,.int .i64 (IntKind.i64.wrap (al.1-x42))])::(E6 x_v21 p q x_v20 s bm_spans)) cg bj fun g9 fh=>?_)
       refine wl fun K hK=>?_
       refine G2 3 0 (.agg [.int .i64 x42,.int .i64 (IntKind.i64.wrap (al.1-x42))]) [.int .i64 x42,.int .i64 (IntKind.i64.wrap (al.1-x42))] fh bj fun h0 fi (di:Ah ⟨w,h,Aj⟩ bb (Hu k o m u aa ab x_v21 x) [⟨Ec a r_ e b f d g,some 43⟩,⟨[.int .i64 0,.int .i64 0],some 126⟩,⟨[],none⟩,⟨[.int .i64 x42,.int .i64 (IntKind.i64.wrap (al.1-x42))],some 126⟩,⟨[.int .i64 x42],none⟩,⟨[],none⟩] (KD q x_v20 s ae) h0)=>hK _ _ ?_
       have fj:Kn 74 (Hu k o m u aa ab x_v21 x) (E6 x_v21 p q x_v20 s bm_spans) g9:=fi.kp
       refine wf (Aa (Rk 0 2 ((tI 40 (IntKind.i64.wrap (x_v21+1)))::(tI 39 ((p.1.length:Nat):Int))::(tS 38 q x_v20.length s)::(tP 9 3 0)::(FX bm_spans)) fj di fun iy fk=>?_))
       refine wf ?_
       exact XY bc ⟨Nat.lt_succ_self _,XY x_v20 ⟨IntKind.i64.wrap (x_v21+1),x42,IntKind.i64.wrap (al.1-x42),q,s,ae,(ae:List Value).length,_,_,rfl,(fk.keep [40,39,38,9,4,2,1] (by rfl)).cut 4 (by kernel_rfl),di.cutPl 4 (by kernel_rfl),XU a2 (XU a3 bu),a0,af⟩⟩
      ·
       rw [ca,XV] at af
       refine wp_skip (Aa (Rk 0 2 ((tI 40 (IntKind.i64.wrap (x_v21+1)))::(tI 39 ((p.1.length:Nat):Int))::(tS 38 q x_v20.length s)::(tP 9 3 0)::(FX bm_spans)) cg bj fun iz fl=>?_))
       refine wf ?_
       exact XY bc ⟨Nat.lt_succ_self _,XY x_v20 ⟨IntKind.i64.wrap (x_v21+1),x_v22,x_v23,q,s,ae,(ae:List Value).length,_,_,rfl,(fl.keep [40,39,38,9,4,2,1] (by rfl)).cut 4 (by kernel_rfl),bj.cutPl 4 (by kernel_rfl),XU a2 (XU a3 bu),a0,af⟩⟩
    ·
     rw [b8,XV] at af
     refine wp_exit ?_
     exact XY (x_v20,x_v22,x_v23) ⟨q,s,ae,b5,_,_,rfl,ce.kp,bv,a2,a0,af⟩
  ·
   rintro _ jc ⟨ag,b3,b4,b2,b6,cu,a9,rfl,fm,dj,f7,h9,H⟩
   rw [dw] at H
   replace hM_spans:=f7 _ _ _ hM_spans
   refine XT (Aa (Rk 0 1 [tA 73 (O3 ag),tP 4 1 0] fm dj fun ha fo=>?_))
   refine wl fun K hK=>?_
   refine G2 1 0 (.agg (O3 ag)) (O3 ag) fo dj fun h1 fp (gg:Ah ⟨w,h,Aj⟩ a9 (JT k o m u) [⟨Ec a r_ e b f d g,some 43⟩,⟨O3 ag,some 126⟩,⟨[],none⟩,⟨O3 ag,some 126⟩] [⟨b3,ag.1.length,b4,3,1,b2,b6⟩] h1)=>hK _ _ ?_
   have fq:Kn 74 (JT k o m u) [tP 4 1 0] ha:=fp.kp
   refine wf (wp_ret ?_)
   exact rt (.one (.agg (O3 ag))) fq gg ⟨_,H,⟨_,rfl,((Ab Ac Ac):rep a9 ((QC.mk ag.2.1 ag.2.2):QC) _)⟩⟩
theorem JU (n:Nat) (a b:Int):BI (n+2) [a,b]=some (min a b):=by
  have h0:Co [a,b] 0=some a:=by simp [Co]
  have h1:Co [a,b] 1=some b:=by simp [Co]
  simp only [BI,CQ,Bh,h0,h1,List.length_cons,List.length_nil,XX]
  have e1:IntKind.i64.wrap (1+1)=2:=by decide
  have e2:decide ((1:Int)<((0+1+1:Nat):Int))=true:=by decide
  have e3:decide ((2:Int)<((0+1+1:Nat):Int))=false:=by decide
  have e4:decide (((0+1+1:Nat):Int)<1)=false:=by decide
  simp only [e1,e2,e3,e4,XW,XV,XX,Option.some.injEq]
  split <;> omega
theorem Hi {m e:Int} {l l':List (Int×Rg)} (h:l.Perm l'):A4 m e l=A4 m e l':=h.foldl_eq' (fun p _ q _ e=>by
  repeat' split
  all_goals omega) _
theorem Dc:∀ (n:Nat)(rem:List (Int×Rg))(m e:Int)(K:(Int×List (Int×Rg))→Prop),rem.length+3≤n→K (A4 m e rem,[])→AO n m e rem K
  | 0,_,_,_,_,h,_=>by omega
  | n+1,rem,m,e,K,h,hK=>by
    rw [AO]
    refine⟨fun h0=>by subst h0; exact hK,fun k x rem' hp=>?_⟩
    have hl:=hp.length_eq
    simp at hl
    rw [Hi hp] at hK
    by_cases hx:x.lo>m
    · simp only [hx,decide_true,XW]
      obtain⟨n,rfl⟩:∃ k,n=k+2:=⟨n-2,by omega⟩
      refine⟨_,JU n e x.hi,Dc _ _ _ _ _ (by omega) ?_⟩
      simpa [A4,hx] using hK
    · simp only [hx,decide_false,XV]
      refine Dc _ _ _ _ _ (by omega) ?_
      simpa [A4,hx] using hK
theorem Dd:∀ (n:Nat)(rem:List (Int×Rg))(r:Af)(acc:List Int)(K:(List Int×List (Int×Rg))→Prop),rem.length+1≤n→acc.length+rem.length≤1000000000→(∀ ms,List.Perm ms (acc++(rem.filter fun p=>decide (r.fr≤p.2.lo) && decide (p.2.lo≤r.to_)).map fun p=>p.2.lo)→K (ms,[]))→AN n r acc rem K
  | 0,_,_,_,_,h,_,_=>by omega
  | n+1,rem,r,acc,K,h,hb,hK=>by
    rw [AN]
    refine⟨fun h0=>by subst h0; exact hK _ (by simp),fun k x rem' hp=>?_⟩
    have hl:=hp.length_eq
    simp at hl
    have hw:BU n r x.lo=some (decide (r.fr≤x.lo) && decide (x.lo≤r.to_)):=by
      simp only [BU,Bv]; by_cases h1:r.fr≤x.lo <;> simp [h1]
    refine⟨_,hw,?_⟩
    have hq:=(hp.filter fun p=>decide (r.fr≤p.2.lo) && decide (p.2.lo≤r.to_)).map fun p=>p.2.lo
    cases hc:(decide (r.fr≤x.lo) && decide (x.lo≤r.to_)) with
    | true =>
      simp only [XW]
      refine⟨acc++[x.lo],by simp [HU]; omega,Dd _ _ _ _ _ (by omega) (by simp; omega) fun ms hm=>hK ms (hm.trans ?_)⟩
      rw [List.filter_cons_of_pos (by exact hc)] at hq
      simpa using (hq.symm.append_left acc)
    | false =>
      simp only [XV]
      refine Dd _ _ _ _ _ (by omega) (by omega) fun ms hm=>hK ms (hm.trans ?_)
      rw [List.filter_cons_of_neg (by simp [hc])] at hq
      exact hq.symm.append_left acc
theorem De:∀ (n:Nat)(r:Af)(sp:EY Int Rg)(s:List Int×List (Int×Rg))(i:Nat)(b x:Int)(K:(List Int×Int×Int)→Prop),(s.1.length-i)+sp.l.length+4≤n→s.1.length<2000000000→i≤s.1.length →
    (∀ b',K (s.1,b',(s.1.drop i).foldl (fun b m=>max b (IntKind.i64.wrap (A4 m r.to_ sp.l-m))) x))→AP n r sp s s.1 (i:Int) b x K
  | 0,_,_,_,_,_,_,_,h,_,_,_=>by omega
  | n+1,r,sp,s,i,b,x,K,h,hb,hi,hK=>by
    rw [AP]
    by_cases hx:i<s.1.length
    · rw [show decide ((i:Int)<((s.1.length:Nat):Int))=true by simpa using hx]
      have hw:IntKind.i64.wrap ((i:Int)+1)=((i+1:Nat):Int):=by
        rw [show((i+1:Nat):Int)=(i:Int)+1 by omega]
        simp only [IntKind.wrap]
        simp [IntKind.bits,IntKind.signed]; omega
      refine⟨s.1[i],by simp [Co,hx],Dc _ _ _ _ _ (by omega) ?_⟩
      rw [List.drop_eq_getElem_cons hx] at hK
      simp only [List.foldl_cons] at hK
      by_cases hg:IntKind.i64.wrap (A4 s.1[i] r.to_ sp.l-s.1[i])>x
      · simp only [hg,decide_true,XW,hw]
        rw [show max x (IntKind.i64.wrap (A4 s.1[i] r.to_ sp.l-s.1[i]))=IntKind.i64.wrap (A4 s.1[i] r.to_ sp.l-s.1[i]) by omega] at hK
        exact De _ _ _ _ _ _ _ _ (by omega) hb (by omega) hK
      · simp only [hg,decide_false,XV,hw]
        rw [show max x (IntKind.i64.wrap (A4 s.1[i] r.to_ sp.l-s.1[i]))=x by omega] at hK
        exact De _ _ _ _ _ _ _ _ (by omega) hb (by omega) hK
    · obtain rfl:i=s.1.length:=by omega
      simp only [Int.lt_irrefl,decide_false,XV]
      simpa using hK b
theorem I6 {n:Nat} {r:Af} {sp:EY Int Rg} {x:Int} (H:BF n r sp=some x):EI n r sp (fun q=>q.long=x):=by
  unfold BF at H
  split at H
  · rename_i hb
    cases H
    refine Dd _ _ _ _ _ (by omega) (by simp; omega) fun ms hm=>?_
    have hl:=hm.length_eq
    have hf:((sp.l.filter fun p=>decide (r.fr≤p.2.lo) && decide (p.2.lo≤r.to_)).map fun p=>p.2.lo).length≤sp.l.length:=by rw [List.length_map]; exact List.length_filter_le _ _
    simp only [List.length_append,List.length_cons,List.length_nil] at hl
    refine De n r sp (ms,[]) 0 _ _ _ (by simp only; omega) (by simp only; omega) (by simp) fun b'=>?_
    simp only [List.drop_zero]
    have:∀ (l:List Int)(z:Int),l.foldl (fun b m=>max b (IntKind.i64.wrap (A4 m r.to_ sp.l-m))) z=(l.map fun m=>IntKind.i64.wrap (A4 m r.to_ sp.l-m)).foldl (fun b x=>max b x) z:=by
      intro l z; rw [List.foldl_map]
    rw [this,this]
    exact(hm.map _).foldl_eq' (fun p _ q _ e=>by omega) _
  · cases H
theorem Fm (n:Nat) {h:Ae} {w:World} (hh:Dn h w) (r_:Af) {cs_r_:List Value} (hx_r_:rep h r_ cs_r_) (spans:EY Int Rg) {bm_spans:Nat} {es_spans:Array MapEntry} {cl_spans:Nat} (hM_spans:h bm_spans 0=some (E0 es_spans cl_spans)) (hE_spans:DW h es_spans.toList cl_spans spans.l) {x:Int} (H:BF n r_ spans=some x) :
    Calls Try.prog 66 #[.agg cs_r_.toArray,.map (some bm_spans)] w (Dp (fun _ v=>∃ fr,v=.agg #[.int .i64 fr,.int .i64 x]) h w) :=
  (I5 n hh r_ hx_r_ spans hM_spans hE_spans (I6 H)).mono fun en w' ⟨v,h',h1,h3,h4,h5,h2⟩=>⟨v,h',h1,h3,h4,h5,by
    obtain⟨q,hq,cs,hv,hx⟩:=h2
    obtain⟨_,_,rfl,rfl,rfl⟩:=hx
    exact⟨q.fr,by rw [hv,← hq]; rfl⟩⟩
end Go.Proofs.Ytokchpjijlebiaa
