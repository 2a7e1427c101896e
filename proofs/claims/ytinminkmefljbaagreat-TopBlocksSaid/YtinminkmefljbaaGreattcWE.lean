/- Each call computes its plain function. -/
import Derived.Test.YtinminkmefljbaaGreatProg
import Derived.Test.YtinminkmefljbaaGreattcWB
import Derived.Test.YtinminkmefljbaaGreattcWC
set_option linter.all false
namespace Go.Proofs.YtinminkmefljbaaGreat
open Go Go.RowKit
set_option maxRecDepth 100000
set_option maxHeartbeats 4000000
open Rep (rep)
open KRep (kv)
open VRep (rv)
def A8 (r:Ca) (x:A4):Ye:=[.slice r.a r.n r.c,.int .i64 x.down]
abbrev EG (x:A4):=(x.lG:List Int)
theorem B3 (r:Ca) (x:A4):(A8 r x).length=2:=rfl
theorem PK (h:Ac) (r:Ca) (x:A4) (hr:At h r.a r.c (EG x)) (hn:r.n=(EG x).length):rep h x (A8 r x):=by
  unfold A8; rw [hn]; exact((Ab (Af hr) Ad):rep h x _)
abbrev Uj (d l m p aj)(al:Nat)(bZ:Int)(an)(eS:Int):=([(d,0),(l,0),(m,0),(p,0),(aj,al+Yc bZ*1),(an,0+Yc eS*2)]:AJ)
abbrev Gv (aA)(y:Am):=([tI 46 aA,tI 45 ((y.lG.length:Nat):Int),tP 7 3 0,tP 5 2 0,tP 4 1 0]:TM)
theorem J8 (n:Nat) {h:Ac} {w:World} (hh:CK h w) (y:Am) {dQ:Ye} (eD:rep h y dQ) (lanes:List Int) {aU:Yd} {aV:Nat} (cU:At h aU aV lanes) (broken:A1) {gt:Ye} (iE:rep h broken gt) {r:List A4} (H:Dh n y lanes broken=some r) :
  Calls Tryz.prog 29 #[.agg dQ.toArray,.slice aU lanes.length aV,.agg gt.toArray] w (CP (fun h v=>∃ a c,v=.slice a r.length c∧At h a c r) h w):=by
 obtain⟨_,_,rfl,⟨q,z,rfl,b2⟩,⟨_,_,rfl,⟨u,aa,rfl,b3⟩,rfl⟩⟩:=eD
 obtain⟨_,_,rfl,rfl,⟨_,_,rfl,rfl,⟨_,_,rfl,rfl,⟨_,_,rfl,rfl,⟨_,_,rfl,rfl,⟨_,_,rfl,rfl,⟨_,_,rfl,rfl,rfl⟩⟩⟩⟩⟩⟩⟩:=iE
 refine QZ (e:=[]) 70 [.agg (Mh q y z u aa),.c (Yb aU lanes.length aV),.agg (WP broken)] Tryz.func29 rfl rfl rfl rfl fun t hk=>?_
 have hm:=Ai.begin h w hh
 unfold Dh at H
 refine XT (Aa (wl fun K hK=>?_))
 refine wb (.agg (Mh q y z u aa)) hk hm fun d i2 ko (fv:Kn _ [(d,0)] [tP 3 0 0,tA 0 (Mh q y z u aa),tS 1 aU lanes.length aV,tA 2 (WP broken)] _) hf=>hK _ _ ?_
 refine wl fun K hK=>?_
 refine wb (.c (Yb aU lanes.length aV)) fv hf fun l io ki (f4:Kn _ [(d,0),(l,0)] [tP 4 1 0,tP 3 0 0,tA 0 (Mh q y z u aa),tS 1 aU lanes.length aV,tA 2 (WP broken)] _) ho=>hK _ _ ?_
 refine wl fun K hK=>?_
 refine wb (.agg (WP broken)) f4 ho fun m iu kj (gb:Kn _ [(d,0),(l,0),(m,0)] [tP 5 2 0,tP 4 1 0,tP 3 0 0,tA 0 (Mh q y z u aa),tS 1 aU lanes.length aV,tA 2 (WP broken)] _) de=>hK _ _ ?_
 refine Rk 3 1 [tP 5 2 0,tP 4 1 0,tP 3 0 0] gb de fun jy gd=>?_
 refine wf (XT (Aa (Rk 0 3 [tI 14 ((y.room.length:Nat):Int),tP 5 2 0,tP 4 1 0,tP 3 0 0] gd de fun j1 gi=>?_)))
 obtain⟨dJ,jH,H⟩:=Ao H
 obtain⟨h0,h5,el⟩:=Oe jH
 refine wl fun K hK=>?_
 refine GJ 86 2 32 [Yb none 0 0,XR 0] (((y.room.length:Nat):Int)) gi de rfl rfl (by decide) (by rfl) (by kernel_rfl) (by kernel_rfl) (by rfl) h0 h5 (by decide) fun bh i1 ev (d2:Kn _ [(d,0),(l,0),(m,0)] [(15,.one (.c (Yb bh ((((y.room.length:Nat):Int):Int).toNat) ((((y.room.length:Nat):Int):Int).toNat)))),(14,.one (.c (XR ((y.room.length:Nat):Int)))),(5,.one (.c (.ptr 2 0))),(4,.one (.c (.ptr 1 0))),(3,.one (.c (.ptr 0 0)))] _) (hv:Ai _ _ [(d,0),(l,0),(m,0)] [⟨[Yb q y.room.length z,Yb u y.lG.length aa,XR y.broken],some 51⟩,⟨[Yb aU lanes.length aV],some 26⟩,⟨[.bool broken.a0,.bool broken.a1,.bool broken.a2,.bool broken.a3,.bool broken.a4,.bool broken.a5,.bool broken.a6,.bool broken.a7],some 82⟩] [⟨bh,(((y.room.length:Nat):Int):Int).toNat,(((y.room.length:Nat):Int):Int).toNat,86,2,List.flatten (List.replicate (((y.room.length:Nat):Int):Int).toNat ([.slice none 0 0,.int .i64 0]:Ye)),0⟩] _)=>?_
 have g9:(((y.room.length:Nat):Int):Int).toNat=dJ.length:=by rw [el]; simp
 obtain⟨cr,c3,di⟩:=EM.make (g:=A8) (pr:=EG) (rw:=[]) (x:=((A4.mk ([]:List Int) 0):A4)) 3 1 rfl rfl el hv
 rw [g9] at d2
 replace di:Ai _ _ [(d,0),(l,0),(m,0)] [⟨Mh q y z u aa,some 51⟩,⟨[Yb aU lanes.length aV],some 26⟩,⟨WP broken,some 82⟩] (⟨bh,dJ.length,dJ.length,86,2,B2 A8 cr dJ,0⟩::cr) _:=di
 refine hK _ _ ?_
 refine wl fun K hK=>?_
 refine wa [Yb none 0 0] d2 di fun p eo km (g0:Kn _ (CW d l m p) [tP 7 3 0,tS 15 bh dJ.length dJ.length,tI 14 ((y.room.length:Nat):Int),tP 5 2 0,tP 4 1 0,tP 3 0 0] _) hw=>hK _ _ ?_
 refine wl fun K hK=>?_
 refine DT 3 0 (.c (Yb bh dJ.length dJ.length)) [Yb bh dJ.length dJ.length] g0 hw fun kn g1 dj=>hK _ _ ?_
 have g2:Kn _ _ [tP 7 3 0,tP 5 2 0,tP 4 1 0,tP 3 0 0] _:=g1.kp
 refine wf (XT (XT (Aa (Rk 0 2 [tA 17 (WP broken),tA 16 (Mh q y z u aa),tP 7 3 0,tP 5 2 0,tP 4 1 0,tP 3 0 0] g2 dj fun ka g3=>?_))))
 obtain⟨cS,gW,H⟩:=Ao H
 refine wl fun K hK=>?_
 refine wc [.agg (Mh q y z u aa),.agg (WP broken)] g3 dj (He n dj.has y ((Ab (Af b2) (Ab (Af b3) Ad)):rep h y _) broken ((Ab Ag (Ab Ag (Ab Ag (Ab Ag (Ab Ag (Ab Ag (Ab Ag Ag))))))):rep h broken _) gW) fun kd fc bp e9 cc hx=>?_
 replace cU:=cU.mono cc
 replace c3:=c3.mono cc
 obtain⟨b6,rfl,cw⟩:=e9
 refine⟨.one (.c (.func (.func 107) #[] #[.pointer (some ⟨b6,0,none⟩)])),rfl,fun ep (g4:Kn _ (CW d l m p) [(18,.one (.c (.func (.func 107) #[] #[.pointer (some ⟨b6,0,none⟩)]))),tA 17 (WP broken),tA 16 (Mh q y z u aa),tP 7 3 0,tP 5 2 0,tP 4 1 0,tP 3 0 0] _)=>hK _ _ ?_⟩
 have c9:Kn _ _ [(18,.one (.c (.func (.func 107) #[] #[.pointer (some ⟨b6,0,none⟩)]))),tP 7 3 0,tP 5 2 0,tP 4 1 0,tP 3 0 0] _:=g4.kp
 refine wf (wp_block ?_)
 obtain⟨cm,e2,H⟩:=Ao H
 refine MN (.func (.func 107) #[] #[.pointer (some ⟨b6,0,none⟩)]) c9 (by rfl) rfl (fun _ _=>by kernel_rfl) fun bo ej=>?_
 obtain⟨ey,he,jc,hy⟩:=Ai.loopBegin hx (Gp.nil _) ⟨rfl,rfl⟩ bo
 have e8:Xz (fun(s:List A4)(h':Ac)(w':World)=>∃ (Fj:Fr)(ab:Yd)(ac:Nat)(ag:List Ca),I1 w h Fj ((bp).heap.size+1) bo ((bp).heap.size::([]:List Nat))∧Ai Fj h' (CW d l m p) [⟨Mh q y z u aa,some 51⟩,⟨[Yb aU lanes.length aV],some 26⟩,⟨WP broken,some 82⟩,⟨[Yb ab s.length ac],some 83⟩] (⟨ab,s.length,ac,86,2,B2 A8 ag s,0⟩::ag) w'∧EM EG 3 1 h' ag s∧Ac.le fc h'):=⟨fun s h' w' hj=>by obtain⟨_,ab,ac,ag,_,hm,bm,_⟩:=hj; exact hm.has,fun s h' h'' w' w'' hj hb hle hn=>by obtain⟨Fj,ab,ac,ag,hlf,hm,bm,hle0⟩:=hj; exact⟨Fj,ab,ac,ag,hlf,hm.call hb hle hn,bm.mono hle,XU hle0 hle⟩⟩
 refine⟨_,E2 n e8 (fun(s:List A4)(bZ:Int)=>((((Bm lanes bZ).bind fun eS =>
    ((Bm s eS).bind fun eC =>
    ((Ih eC.lG ([bZ]:List Int)).bind fun fU =>
    ((upd s eS ({ eC with lG:=fU }:A4)).bind fun ai =>
    ((upd ai eS ({ ({ eC with lG:=fU }:A4) with down:=IntKind.i64.wrap (eC.down+1) }:A4)).bind fun am =>
    some am))))):Option (List A4)).bind fun s1=>some (s1,true))) ?_ dJ ⟨ey,bh,dJ.length,cr,he,hy,c3,Ac.le_refl _⟩ cS cw e2,?_⟩
 ·
  intro s bZ s' i7 ao ew fu  cn
  obtain⟨ez,ab,ac,ag,db,bv,bm,d3⟩:=fu
  obtain⟨jt,aw,cn⟩:=Ao cn
  cases cn
  replace cU:=cU.mono d3
  replace bv:Ai _ _ (CW d l m p) [⟨Mh q y z u aa,some 51⟩,⟨[Yb aU lanes.length aV],some 26⟩,⟨WP broken,some 82⟩,⟨[Yb ab s.length ac],some 83⟩] (⟨ab,s.length,ac,86,2,B2 A8 ag s,0⟩::ag) _:=bv
  refine TU ej (bv.ext db.loop) ?_
  have g5:Kn _ (CW d l m p) [tI 19 bZ,tP 7 3 0,tP 4 1 0] _:=(c9.kp.put (k:=19) (by decide) (.one (.c (XR bZ))))
  refine AI (by kernel_rfl) (Rk 0 1 [tI 8 bZ,tP 7 3 0,tP 4 1 0] g5 bv fun kb g6=>?_)
  refine wf ?_
  refine⟨bv.ext db.loop,?_⟩
  obtain⟨bq,d6,jd,bn⟩:=Ai.loopStep bv db { bo with state:=.busy }
  replace bn:Ai _ _ (CW d l m p) [⟨Mh q y z u aa,some 51⟩,⟨[Yb aU lanes.length aV],some 26⟩,⟨WP broken,some 82⟩,⟨[Yb ab s.length ac],some 83⟩] (⟨ab,s.length,ac,86,2,B2 A8 ag s,0⟩::ag) _:=bn
  refine Jx (F9 (N9 (by kernel_rfl) (by kernel_rfl) ?_))
  replace bn:=bn.drew
  refine Ax [] (CW d l m p) [⟨Mh q y z u aa,some 51⟩,⟨[Yb aU lanes.length aV],some 26⟩,⟨WP broken,some 82⟩,⟨[Yb ab s.length ac],some 83⟩] ?_
  refine Dr [0,1,2] [2,1,0] [tI 22 bZ,tS 21 aU lanes.length aV,tS 20 ab s.length ac,tI 8 bZ] g6 bn fun kc g7=>?_
  obtain⟨eS,kA,aw⟩:=Ao aw
  obtain⟨h2,h6,ii⟩:=Aj kA
  obtain⟨aj,al,i9,fe,ie,fm⟩:=cU.get (by decide) ii
  obtain rfl:=ie
  have cd:=bn.addPlc (b:=aj) (o:=al+Yc bZ*1) (cs:=[XR eS]) (fun j c hj=>fm j _ (Ak hj)) rfl (by kernel_rfl) (by kernel_rfl)
  refine A5 3 (bZ) [XR eS] (fun _ _ _ _ _ h=>h) rfl rfl (rfl) rfl (by decide) (by kernel_rfl) (by kernel_rfl) g7 bn.plOk (by rfl) (by rfl) (by rfl) fe (by rfl) h2 h6 (by kernel_rfl) fun ik (fw:Kn _ [(d,0),(l,0),(m,0),(p,0),(aj,al+Yc bZ*1)] [tP 23 4 0,tI 22 bZ,tS 21 aU lanes.length aV,tS 20 ab s.length ac,tI 8 bZ] _)=>?_
  refine Dr [4] (dn 4) [tI 24 eS,tS 20 ab s.length ac,tI 8 bZ] fw cd fun ju fx=>?_
  obtain⟨eC,iD,aw⟩:=Ao aw
  obtain⟨ef,eh,dm⟩:=Aj iD
  have b8:=AG ef eh
  obtain⟨an,bl⟩:=AP cd (i:=0) rfl (b0:=0+Yc eS*2) (Ok B3 (by decide) bm.len b8)
  have bz:=cd.addPlc (b:=an) (o:=0+Yc eS*2) (cs:=[]) (fun j c hj=>by simp at hj) rfl (by kernel_rfl) (by kernel_rfl)
  obtain⟨a8,ba,b4,c4,ff⟩:=bm.get dm
  have cx:∀ (e:AJ) k c,([Yb a8 eC.lG.length ba,XR eC.down]:List SC)[k]? = some c→((B2 A8 ag s))[0+Yc eS*2+k]? = some (c.den e):=fun e k c hk=>FA B3 c4 dm k _ (Ak hk)
  refine A5 5 (eS) [Yb a8 eC.lG.length ba,XR eC.down] (fun _ _ _ _ _ h=>h) rfl rfl (rfl) rfl (by decide) (by kernel_rfl) (by kernel_rfl) fx cd.plOk (by rfl) (by rfl) (by rfl) bl (by rfl) ef eh (by kernel_rfl) fun il (fy:Kn _ (Uj d l m p aj al bZ an eS) [tP 25 5 0,tI 24 eS,tS 20 ab s.length ac,tI 8 bZ] _)=>?_
  refine Dj [6] [6,5,4,3,2,1,0] [9,8] [tP 9 5 0,tI 8 bZ] (fun _ _ _ _ _ h=>h) fy (Ay.peek bz.plOk bz 0 5 rfl rfl bl [Yb a8 eC.lG.length ba,XR eC.down] (cx _)) (by kernel_rfl) (by rfl) (by kernel_rfl) fun jv fz=>?_
  refine AL (by kernel_rfl) (F9 (AI (by kernel_rfl) (F4 0 6 [31,30,26,9] [tI 31 bZ,tS 30 a8 eC.lG.length ba,tP 26 5 0,tP 9 5 0] fz (Ay.peek bz.plOk bz 0 5 rfl rfl bl [Yb a8 eC.lG.length ba,XR eC.down] (cx _)) (by kernel_rfl) fun jw f0=>?_)))
  refine wl fun K hK=>?_
  refine wS 3 1 [XR bZ] f0 bz fun bd im i3 (f1:Kn _ (Uj d l m p aj al bZ an eS) [tS 32 bd 1 1,tI 31 bZ,tS 30 a8 eC.lG.length ba,tP 26 5 0,tP 9 5 0] _) hg=>?_
  have d7:Ai _ _ (Uj d l m p aj al bZ an eS) [⟨Mh q y z u aa,some 51⟩,⟨[Yb aU lanes.length aV],some 26⟩,⟨WP broken,some 82⟩,⟨[Yb ab s.length ac],some 83⟩,⟨[XR eS],none⟩,⟨[],none⟩] (⟨ab,s.length,ac,86,2,B2 A8 ag s,0⟩::⟨bd,1,1,3,1,([.int .i64 bZ]:Ye),0⟩::ag) _:=Ai.famIn [⟨ab,s.length,ac,86,2,B2 A8 ag s,0⟩] hg
  have cy:Ae ao ([bZ]:List Int) ([.int .i64 bZ]:Ye):=⟨_,_,rfl,(Ad:rep ao (bZ:Int) _),rfl⟩
  refine hK _ _ ?_
  obtain⟨fU,jD,aw⟩:=Ao aw
  obtain⟨dk,g8⟩:=Bj jD
  refine wl fun K hK=>?_
  refine AS (r:=⟨a8,eC.lG.length,ba,3,1,b4,0⟩) ((eS:Int).toNat+2) 8 1 _ (fU.length) _ ([.int .i64 bZ]:Ye) f1 d7 rfl rfl (by decide) (by exact c4) (by rfl) (by kernel_rfl) (by rfl) (by rfl) (Ae.len cy) (d7.rowCell (i:=1) rfl) cy.one (by rw [dk]; simp <;> omega) (by rw [dk]; exact g8) (by decide) fun bf bi e6 ip kh fn (f2:Kn _ (Uj d l m p aj al bZ an eS) [tS 33 bf fU.length bi,tS 32 bd 1 1,tI 31 bZ,tS 30 a8 eC.lG.length ba,tP 26 5 0,tP 9 5 0] _) dc=>?_
  have fg:Ae ao fU (b4++([.int .i64 bZ]:Ye)):=by rw [dk]; exact Ae.append ff cy
  obtain rfl:e6=0:=Nat.le_zero.1 fn
  refine hK _ _ ?_
  refine F4 8 2 [35,33,9] [tP 35 5 0,tS 33 bf fU.length bi,tP 9 5 0] f2 (Ay.peek dc.plOk dc 0 5 rfl rfl bl [Yb a8 eC.lG.length ba,XR eC.down] (cx _)) (by kernel_rfl) fun iq f3=>?_
  obtain⟨ai,e3,aw⟩:=Ao aw
  obtain⟨jn,jq,ch⟩:=Cl e3
  refine wl fun K hK=>?_
  refine B4 0 5 0 (0+Yc eS*2) (.c (Yb bf fU.length bi)) f3 dc rfl rfl (by rfl) (by rfl) rfl rfl bl rfl (by kernel_rfl) (Me B3 bm.len b8 (Y7 rfl)) fun er f5 hi=>?_
  have h9:((B2 A8 ag s).take (0+Yc eS*2+0)++([.slice bf fU.length bi]:Ye)++(B2 A8 ag s).drop (0+Yc eS*2+0+1))=(B2 A8 (List.set ag (Yc eS) ⟨bf,fU.length,bi,3,1,b4++([.int .i64 bZ]:Ye),0⟩) ai):=by rw [ch]; exact J0 (r':=⟨bf,fU.length,bi,3,1,b4++([.int .i64 bZ]:Ye),0⟩) B3 c4 dm rfl (Y7 rfl)
  have ec:s.length=ai.length:=by rw [ch]; simp
  obtain⟨bk,c2,hl⟩:∃ f,EM EG 3 1 ao f ai∧Ai bq ao [(d,0),(l,0),(m,0),(p,0),(aj,al+Yc bZ*1),(an,0+Yc eS*2)] [⟨[Yb q y.room.length z,Yb u y.lG.length aa,XR y.broken],some 51⟩,⟨[Yb aU lanes.length aV],some 26⟩,⟨[.bool broken.a0,.bool broken.a1,.bool broken.a2,.bool broken.a3,.bool broken.a4,.bool broken.a5,.bool broken.a6,.bool broken.a7],some 82⟩,⟨[Yb ab s.length ac],some 83⟩,⟨[XR eS],none⟩,⟨[],none⟩] (⟨ab,s.length,ac,86,2,B2 A8 f ai,0⟩::⟨bd,1,1,3,1,([.int .i64 bZ]:Ye),0⟩::f) er:=⟨List.set ag (Yc eS) ⟨bf,fU.length,bi,3,1,b4++([.int .i64 bZ]:Ye),0⟩,(by rw [ch]; exact bm.set ⟨rfl,rfl,rfl,rfl,fg⟩),by rw [← h9]; exact hi⟩
  have f6:=f5
  have dd:Ai bq ao [(d,0),(l,0),(m,0),(p,0),(aj,al+Yc bZ*1),(an,0+Yc eS*2)] [⟨[.slice q y.room.length z,.slice u y.lG.length aa,.int .i64 y.broken],some 51⟩,⟨[.slice aU lanes.length aV],some 26⟩,⟨[.bool broken.a0,.bool broken.a1,.bool broken.a2,.bool broken.a3,.bool broken.a4,.bool broken.a5,.bool broken.a6,.bool broken.a7],some 82⟩,⟨[.slice ab ai.length ac],some 83⟩,⟨[.int .i64 eS],none⟩,⟨[],none⟩] (⟨ab,ai.length,ac,86,2,B2 A8 bk ai,0⟩::⟨bd,1,1,3,1,([.int .i64 bZ]:Ye),0⟩::bk) er:=by rw [← ec]; exact hl
  have da:(Yc eS)<ai.length:=by rw [← ec]; exact b8
  have ci:ai[(Yc eS)]? = some ({ eC with lG:=fU }:A4):=by rw [ch]; exact Yz b8
  obtain⟨ds,du,ke,c5,je⟩:=c2.get ci
  have fh:∀ (e:AJ) k c,([Yb ds fU.length du,XR eC.down]:List SC)[k]? = some c→((B2 A8 bk ai))[0+Yc eS*2+k]? = some (c.den e):=fun e k c hk=>FA B3 c5 ci k _ (Ak hk)
  refine hK _ _ ?_
  have f7:Kn _ _ [tP 9 5 0] _:=f6.kp
  refine wf (AI (by kernel_rfl) (F4 0 7 [42,40] [tP 42 5 1,tI 40 (IntKind.i64.wrap (eC.down+1))] f7 (Ay.peek dd.plOk dd 0 5 rfl rfl bl [Yb ds fU.length du,XR eC.down] (fh _)) (by kernel_rfl) fun ir f8=>?_))
  obtain⟨am,e4,aw⟩:=Ao aw
  obtain⟨jo,jr,cj⟩:=Cl e4
  refine wl fun K hK=>?_
  refine B4 0 5 1 (0+Yc eS*2) (.c (XR (IntKind.i64.wrap (eC.down+1)))) f8 dd rfl rfl (by rfl) (by rfl) rfl rfl bl rfl (by kernel_rfl) (Me B3 c2.len da (Y7 rfl)) fun es f9 hp=>?_
  have ia:((B2 A8 bk ai).take (0+Yc eS*2+1)++([.int .i64 (IntKind.i64.wrap (eC.down+1))]:Ye)++(B2 A8 bk ai).drop (0+Yc eS*2+1+1))=(B2 A8 bk am):=by rw [cj]; exact UQ B3 c5 ci rfl (Y7 rfl)
  have ed:ai.length=am.length:=by rw [cj]; simp
  obtain⟨bw,dy,hq⟩:∃ f,EM EG 3 1 ao f am∧Ai bq ao [(d,0),(l,0),(m,0),(p,0),(aj,al+Yc bZ*1),(an,0+Yc eS*2)] [⟨[Yb q y.room.length z,Yb u y.lG.length aa,XR y.broken],some 51⟩,⟨[Yb aU lanes.length aV],some 26⟩,⟨[.bool broken.a0,.bool broken.a1,.bool broken.a2,.bool broken.a3,.bool broken.a4,.bool broken.a5,.bool broken.a6,.bool broken.a7],some 82⟩,⟨[Yb ab ai.length ac],some 83⟩,⟨[XR eS],none⟩,⟨[],none⟩] (⟨ab,ai.length,ac,86,2,B2 A8 f am,0⟩::⟨bd,1,1,3,1,([.int .i64 bZ]:Ye),0⟩::f) es:=⟨bk,(by rw [cj]; exact c2.set1 c5 ci rfl),by rw [← ia]; exact hp⟩
  have d8:Ai bq ao [(d,0),(l,0),(m,0),(p,0),(aj,al+Yc bZ*1),(an,0+Yc eS*2)] [⟨[.slice q y.room.length z,.slice u y.lG.length aa,.int .i64 y.broken],some 51⟩,⟨[.slice aU lanes.length aV],some 26⟩,⟨[.bool broken.a0,.bool broken.a1,.bool broken.a2,.bool broken.a3,.bool broken.a4,.bool broken.a5,.bool broken.a6,.bool broken.a7],some 82⟩,⟨[.slice ab am.length ac],some 83⟩,⟨[.int .i64 eS],none⟩,⟨[],none⟩] (⟨ab,am.length,ac,86,2,B2 A8 bw am,0⟩::⟨bd,1,1,3,1,([.int .i64 bZ]:Ye),0⟩::bw) es:=by rw [← ed]; exact hq
  have jj:(Yc eS)<am.length:=by rw [← ed]; exact da
  have ek:am[(Yc eS)]? = some ({ ({ eC with lG:=fU }:A4) with down:=IntKind.i64.wrap (eC.down+1) }:A4):=by rw [cj]; exact Yz da
  obtain⟨e0,e1,kf,fr,jf⟩:=dy.get ek
  have jg:∀ (e:AJ) k c,([Yb e0 fU.length e1,XR (IntKind.i64.wrap (eC.down+1))]:List SC)[k]? = some c→((B2 A8 bw am))[0+Yc eS*2+k]? = some (c.den e):=fun e k c hk=>FA B3 fr ek k _ (Ak hk)
  refine hK _ _ ?_
  refine wf ?_
  obtain rfl:=XZ aw
  refine⟨d8.ext d6.loop,?_⟩
  rw [ej.eq]
  obtain⟨ex,hd,ja,hr⟩:=Ai.loopStep d8 d6 bo
  exact⟨rfl,ao,Ac.le_refl _,ex,ab,ac,bw,hd,(Ai.famCut [⟨ab,am.length,ac,86,2,B2 A8 bw am,0⟩] [⟨bd,1,1,3,1,([.int .i64 bZ]:Ye),0⟩] (hr)).cutPl 4 (by kernel_rfl),dy,d3⟩
 intro i4 fa
 obtain⟨ct,_,ft⟩:=fa
 obtain⟨i6,co,cp,cq,d4,d9,fo,ca⟩:=ft
 refine⟨d9.ext d4.loop,?_⟩
 obtain⟨bc,d5,jb,ce⟩:=Ai.loopStep d9 d4 { bo with state:=.exhausted }
 replace cU:=cU.mono ca
 replace ce:Ai _ _ (CW d l m p) [⟨Mh q y z u aa,some 51⟩,⟨[Yb aU lanes.length aV],some 26⟩,⟨WP broken,some 82⟩,⟨[Yb co cm.length cp],some 83⟩] (⟨co,cm.length,cp,86,2,B2 A8 cq cm,0⟩::cq) _:=ce
 refine XT (XT (Aa (Rk 0 4 [tI 46 0,tI 45 ((y.lG.length:Nat):Int),tP 7 3 0,tP 5 2 0,tP 4 1 0] c9 ce fun jx gc=>?_)))
 refine wf ?_
 obtain⟨ah,dw,H⟩:=Ao H
 refine Ar (fun a' w'=>∃ (ar:Yd)(av:Nat)(be:List Ca)(dq:Array Value)(b7:Ac),a' = ⟨dq,List.map UL ((bp).heap.size::([]:List Nat))⟩∧Kn 70 (CW d l m p) [tP 7 3 0] dq∧Ai bc b7 (CW d l m p) [⟨Mh q y z u aa,some 51⟩,⟨[Yb aU lanes.length aV],some 26⟩,⟨WP broken,some 82⟩,⟨[Yb ar ah.length av],some 83⟩] (⟨ar,ah.length,av,86,2,B2 A8 be ah,0⟩::be) w'∧Ac.le ct b7∧EM EG 3 1 b7 be ah) ?_ ?_
 ·
  refine wp_block ?_
  refine Av (fun ij a' w'=>∃ (aB:List A4)(aA:Int)(ae:Yd)(af:Nat)(ak:List Ca)(dr:Array Value)(ax:Ac),a' = ⟨dr,List.map UL ((bp).heap.size::([]:List Nat))⟩∧Kn 70 (CW d l m p) (Gv aA y) dr∧Ai bc ax (CW d l m p) [⟨Mh q y z u aa,some 51⟩,⟨[Yb aU lanes.length aV],some 26⟩,⟨WP broken,some 82⟩,⟨[Yb ae aB.length af],some 83⟩] (⟨ae,aB.length,af,86,2,B2 A8 ak aB,0⟩::ak) w'∧Ac.le ct ax∧EM EG 3 1 ax ak aB∧Bp ij y lanes broken aB aA=some ah) n ?_ ?_
  ·
   exact XY cm ⟨0,co,cp,cq,_,_,rfl,gc.kp,ce,Ac.le_refl _,fo,dw⟩
  rintro cl _ kk ⟨aB,aA,ae,af,ak,dr,ax,rfl,gf,aq,cb,bu,ad⟩
  clear dw
  obtain _ | cl:=cl
  ·
   rw [Bp] at ad; cases ad
  rw [Bp] at ad
  replace cU:=cU.mono cb
  refine XT (Aa (Rk 0 1 ((tB 47 (decide (aA<((y.lG.length:Nat):Int))))::(Gv aA y)) gf aq fun jz c7=>?_))
  refine wf (XT (wC (decide (aA<((y.lG.length:Nat):Int))) c7 (fun cu=>?_) (fun cu=>?_)))
  ·
   rw [cu,XW] at ad
   refine wp_skip (XT (wp_block (XT (Aa (Rk 0 2 ((tI 10 aA)::(Gv aA y)) c7 aq fun j0 gg=>?_)))))
   refine wf (XT (Aa (Rk 0 1 ((tI 49 aA)::(tI 10 aA)::(Gv aA y)) gg aq fun j2 d0=>?_)))
   obtain⟨jM,kY,ad⟩:=Ao ad
   obtain⟨hz,h3⟩:=BI kY
   refine Eg 1 (.one (.c (.ptr 2 (0+Yc aA*1)))) rfl (rfl) rfl (AZ (E:=4) d0 rfl (by kernel_rfl) (by kernel_rfl) (by rfl) (by rfl) hz h3) (d0.put (by decide) _) fun iv (d1:Kn _ (CW d l m p) ((tP 50 2 (0+Yc aA*1))::(tI 49 aA)::(tI 10 aA)::(Gv aA y)) _)=>?_
   obtain⟨cG,hG,ad⟩:=Ao ad
   obtain⟨_,_,ig⟩:=Aj hG
   refine Eg 2 (.one (.c (.bool cG))) rfl (rfl) rfl (CA d1 aq.plOk rfl (by rfl) rfl (by kernel_rfl) (F8 (fun(y:Bool)=>([.bool y]:List SC)) 1 (fun _=>rfl) [] [] broken.toL _ _ ig rfl rfl)) (d1.put (by decide) _) fun en (gh:Kn _ (CW d l m p) ((tB 51 cG)::(tP 50 2 (0+Yc aA*1))::(tI 49 aA)::(tI 10 aA)::(Gv aA y)) _)=>?_
   have c8:Kn _ _ ((tB 51 cG)::(tI 10 aA)::(Gv aA y)) _:=gh.kp
   refine wf (wC (cG) c8 (fun cv=>?_) (fun cv=>?_))
   ·
    rw [Ba cv] at ad
    refine XT (Au (by kernel_rfl) ?_)
    replace aq:=aq.drew
    refine Ax [] (CW d l m p) [⟨Mh q y z u aa,some 51⟩,⟨[Yb aU lanes.length aV],some 26⟩,⟨WP broken,some 82⟩,⟨[Yb ae aB.length af],some 83⟩] ?_
    refine Dr [0,1,2] [2,1,0] ((tI 54 aA)::(tS 53 aU lanes.length aV)::(tS 52 ae aB.length af)::(tI 10 aA)::(Gv aA y)) c8 aq fun j3 gj=>?_
    obtain⟨gB,ex55,ad⟩:=Ao ad
    obtain⟨h1,h4,ih⟩:=Aj ex55
    obtain⟨au,ay,i8,fd,ib,fi⟩:=cU.get (by decide) ih
    obtain rfl:=ib
    have cf:=aq.addPlc (b:=au) (o:=ay+Yc aA*1) (cs:=[XR gB]) (fun j c hj=>fi j _ (Ak hj)) rfl (by kernel_rfl) (by kernel_rfl)
    refine A5 3 (aA) [XR gB] (fun _ _ _ _ _ h=>h) rfl rfl (rfl) rfl (by decide) (by kernel_rfl) (by kernel_rfl) gj aq.plOk (by rfl) (by rfl) (by rfl) fd (by rfl) h1 h4 (by kernel_rfl) fun iw (gk:Kn _ [(d,0),(l,0),(m,0),(p,0),(au,ay+Yc aA*1)] ((tP 55 4 0)::(tI 54 aA)::(tS 53 aU lanes.length aV)::(tS 52 ae aB.length af)::(tI 10 aA)::(Gv aA y)) _)=>?_
    refine Dr [4] (dn 4) ((tI 56 gB)::(tS 52 ae aB.length af)::(tI 10 aA)::(Gv aA y)) gk cf fun j4 gl=>?_
    obtain⟨gA,jG,ad⟩:=Ao ad
    obtain⟨eg,ei,dp⟩:=Aj jG
    have b9:=AG eg ei
    obtain⟨az,bt⟩:=AP cf (i:=0) rfl (b0:=0+Yc gB*2) (Ok B3 (by decide) bu.len b9)
    have b1:=cf.addPlc (b:=az) (o:=0+Yc gB*2) (cs:=[]) (fun j c hj=>by simp at hj) rfl (by kernel_rfl) (by kernel_rfl)
    obtain⟨a9,bb,b5,c6,fj⟩:=bu.get dp
    have cz:∀ (e:AJ) k c,([Yb a9 gA.lG.length bb,XR gA.down]:List SC)[k]? = some c→((B2 A8 ak aB))[0+Yc gB*2+k]? = some (c.den e):=fun e k c hk=>FA B3 c6 dp k _ (Ak hk)
    refine A5 5 (gB) [Yb a9 gA.lG.length bb,XR gA.down] (fun _ _ _ _ _ h=>h) rfl rfl (rfl) rfl (by decide) (by kernel_rfl) (by kernel_rfl) gl cf.plOk (by rfl) (by rfl) (by rfl) bt (by rfl) eg ei (by kernel_rfl) fun ix (gm:Kn _ (Uj d l m p au ay aA az gB) ((tP 57 5 0)::(tI 56 gB)::(tS 52 ae aB.length af)::(tI 10 aA)::(Gv aA y)) _)=>?_
    refine Dj [6] [6,5,4,3,2,1,0] [11,10,46,45,7,5,4] ((tP 11 5 0)::(tI 10 aA)::(Gv aA y)) (fun _ _ _ _ _ h=>h) gm (Ay.peek b1.plOk b1 0 5 rfl rfl bt [Yb a9 gA.lG.length bb,XR gA.down] (cz _)) (by kernel_rfl) (by rfl) (by kernel_rfl) fun j5 gn=>?_
    refine AL (by kernel_rfl) (Aa (F4 0 6 [63,62,58,46,45,7,5,4] ((tI 63 aA)::(tS 62 a9 gA.lG.length bb)::(tP 58 5 0)::(Gv aA y)) gn (Ay.peek b1.plOk b1 0 5 rfl rfl bt [Yb a9 gA.lG.length bb,XR gA.down] (cz _)) (by kernel_rfl) fun j6 go=>?_))
    refine wl fun K hK=>?_
    refine wS 3 1 [XR aA] go b1 fun br iy i5 (gp:Kn _ (Uj d l m p au ay aA az gB) ((tS 64 br 1 1)::(tI 63 aA)::(tS 62 a9 gA.lG.length bb)::(tP 58 5 0)::(Gv aA y)) _) hs=>?_
    have ea:Ai _ _ (Uj d l m p au ay aA az gB) [⟨Mh q y z u aa,some 51⟩,⟨[Yb aU lanes.length aV],some 26⟩,⟨WP broken,some 82⟩,⟨[Yb ae aB.length af],some 83⟩,⟨[XR gB],none⟩,⟨[],none⟩] (⟨ae,aB.length,af,86,2,B2 A8 ak aB,0⟩::⟨br,1,1,3,1,([.int .i64 aA]:Ye),0⟩::ak) _:=Ai.famIn [⟨ae,aB.length,af,86,2,B2 A8 ak aB,0⟩] hs
    have c0:Ae ax ([aA]:List Int) ([.int .i64 aA]:Ye):=⟨_,_,rfl,(Ad:rep ax (aA:Int) _),rfl⟩
    refine hK _ _ ?_
    obtain⟨kE,ex65,ad⟩:=Ao ad
    obtain⟨dl,ha⟩:=Bj ex65
    refine wl fun K hK=>?_
    refine AS (r:=⟨a9,gA.lG.length,bb,3,1,b5,0⟩) ((gB:Int).toNat+2) 8 1 _ (kE.length) _ ([.int .i64 aA]:Ye) gp ea rfl rfl (by decide) (by exact c6) (by rfl) (by kernel_rfl) (by rfl) (by rfl) (Ae.len c0) (ea.rowCell (i:=1) rfl) c0.one (by rw [dl]; simp <;> omega) (by rw [dl]; exact ha) (by decide) fun bg bj e7 iz kl fq (gq:Kn _ (Uj d l m p au ay aA az gB) ((tS 65 bg kE.length bj)::(tS 64 br 1 1)::(tI 63 aA)::(tS 62 a9 gA.lG.length bb)::(tP 58 5 0)::(Gv aA y)) _) df=>?_
    have fk:Ae ax kE (b5++([.int .i64 aA]:Ye)):=by rw [dl]; exact Ae.append fj c0
    obtain rfl:e7=0:=Nat.le_zero.1 fq
    refine hK _ _ ?_
    refine F4 8 2 [67,65,46,45,7,5,4] ((tP 67 5 0)::(tS 65 bg kE.length bj)::(Gv aA y)) gq (Ay.peek df.plOk df 0 5 rfl rfl bt [Yb a9 gA.lG.length bb,XR gA.down] (cz _)) (by kernel_rfl) fun i0 gr=>?_
    obtain⟨ap,e5,ad⟩:=Ao ad
    obtain⟨jp,js,ck⟩:=Cl e5
    refine wl fun K hK=>?_
    refine B4 0 5 0 (0+Yc gB*2) (.c (Yb bg kE.length bj)) gr df rfl rfl (by rfl) (by rfl) rfl rfl bt rfl (by kernel_rfl) (Me B3 bu.len b9 (Y7 rfl)) fun et gs ht=>?_
    have ic:((B2 A8 ak aB).take (0+Yc gB*2+0)++([.slice bg kE.length bj]:Ye)++(B2 A8 ak aB).drop (0+Yc gB*2+0+1))=(B2 A8 (List.set ak (Yc gB) ⟨bg,kE.length,bj,3,1,b5++([.int .i64 aA]:Ye),0⟩) ap):=by rw [ck]; exact J0 (r':=⟨bg,kE.length,bj,3,1,b5++([.int .i64 aA]:Ye),0⟩) B3 c6 dp rfl (Y7 rfl)
    have ee:aB.length=ap.length:=by rw [ck]; simp
    obtain⟨bx,dz,hu⟩:∃ f,EM EG 3 1 ax f ap∧Ai bc ax [(d,0),(l,0),(m,0),(p,0),(au,ay+Yc aA*1),(az,0+Yc gB*2)] [⟨[Yb q y.room.length z,Yb u y.lG.length aa,XR y.broken],some 51⟩,⟨[Yb aU lanes.length aV],some 26⟩,⟨[.bool broken.a0,.bool broken.a1,.bool broken.a2,.bool broken.a3,.bool broken.a4,.bool broken.a5,.bool broken.a6,.bool broken.a7],some 82⟩,⟨[Yb ae aB.length af],some 83⟩,⟨[XR gB],none⟩,⟨[],none⟩] (⟨ae,aB.length,af,86,2,B2 A8 f ap,0⟩::⟨br,1,1,3,1,([.int .i64 aA]:Ye),0⟩::f) et:=⟨List.set ak (Yc gB) ⟨bg,kE.length,bj,3,1,b5++([.int .i64 aA]:Ye),0⟩,(by rw [ck]; exact bu.set ⟨rfl,rfl,rfl,rfl,fk⟩),by rw [← ic]; exact ht⟩
    have gu:=gs
    have dg:Ai bc ax [(d,0),(l,0),(m,0),(p,0),(au,ay+Yc aA*1),(az,0+Yc gB*2)] [⟨[.slice q y.room.length z,.slice u y.lG.length aa,.int .i64 y.broken],some 51⟩,⟨[.slice aU lanes.length aV],some 26⟩,⟨[.bool broken.a0,.bool broken.a1,.bool broken.a2,.bool broken.a3,.bool broken.a4,.bool broken.a5,.bool broken.a6,.bool broken.a7],some 82⟩,⟨[.slice ae ap.length af],some 83⟩,⟨[.int .i64 gB],none⟩,⟨[],none⟩] (⟨ae,ap.length,af,86,2,B2 A8 bx ap,0⟩::⟨br,1,1,3,1,([.int .i64 aA]:Ye),0⟩::bx) et:=by rw [← ee]; exact hu
    have jk:(Yc gB)<ap.length:=by rw [← ee]; exact b9
    have em:ap[(Yc gB)]? = some ({ gA with lG:=kE }:A4):=by rw [ck]; exact Yz b9
    obtain⟨dt,dv,kg,fs,jh⟩:=dz.get em
    have fl:∀ (e:AJ) k c,([Yb dt kE.length dv,XR gA.down]:List SC)[k]? = some c→((B2 A8 bx ap))[0+Yc gB*2+k]? = some (c.den e):=fun e k c hk=>FA B3 fs em k _ (Ak hk)
    refine hK _ _ ?_
    have gv:Kn _ _ (Gv aA y) _:=gu.kp
    refine wf (Aa (F4 0 2 [46,45,7,5,4] [tI 46 (IntKind.i64.wrap (aA+1)),tI 45 ((y.lG.length:Nat):Int),tP 7 3 0,tP 5 2 0,tP 4 1 0] gv (Ay.peek dg.plOk dg 0 5 rfl rfl bt [Yb dt kE.length dv,XR gA.down] (fl _)) (by kernel_rfl) fun j7 gw=>?_))
    refine wf ?_
    exact XY cl ⟨Y4 _,XY ap ⟨IntKind.i64.wrap (aA+1),ae,af,bx,_,_,rfl,(gw.keep [46,45,7,5,4] (by rfl)).cut 4 (by kernel_rfl),(Ai.famCut [⟨ae,ap.length,af,86,2,B2 A8 bx ap,0⟩] [⟨br,1,1,3,1,([.int .i64 aA]:Ye),0⟩] dg).cutPl 4 (by kernel_rfl),cb,dz,ad⟩⟩
   rw [Bb cv] at ad
   refine wp_skip (Aa (Rk 0 2 [tI 46 (IntKind.i64.wrap (aA+1)),tI 45 ((y.lG.length:Nat):Int),tP 7 3 0,tP 5 2 0,tP 4 1 0] c8 aq fun j8 gx=>?_))
   refine wf ?_
   exact XY cl ⟨Y4 _,XY aB ⟨IntKind.i64.wrap (aA+1),ae,af,ak,_,_,rfl,gx.kp,aq,cb,bu,ad⟩⟩
  rw [cu,XV] at ad
  refine wp_exit ?_
  obtain rfl:=XZ ad
  exact XY ae ⟨af,ak,_,_,rfl,c7.kp,aq,cb,bu⟩
 rintro _ eu ⟨ar,av,be,dq,b7,rfl,gy,eb,jl,fp⟩
 refine XT (Aa (Rk 0 2 [tS 6 ar ah.length av] gy eb fun j9 gz=>?_))
 refine wf (wp_ret ?_)
 obtain⟨fb,jm,cg,c1⟩:=EM.settleAll [⟨ar,ah.length,av,86,2,B2 A8 be ah,0⟩] fp PK eb
 replace cg:Ai _ _ (CW d l m p) [⟨Mh q y z u aa,some 51⟩,⟨[Yb aU lanes.length aV],some 26⟩,⟨WP broken,some 82⟩,⟨[Yb ar ah.length av],some 83⟩] [⟨ar,ah.length,av,86,2,B2 A8 be ah,0⟩] _:=cg
 obtain⟨dx,hc,h8,dh⟩:=cg.settle (i:=0) rfl
 replace c1:=c1.mono hc
 replace dh:Ai _ _ (CW d l m p) [⟨Mh q y z u aa,some 51⟩,⟨[Yb aU lanes.length aV],some 26⟩,⟨WP broken,some 82⟩,⟨[Yb ar ah.length av],some 83⟩] [⟨ar,ah.length,av,86,2,B2 A8 be ah,_⟩] _:=dh
 have h7:At dx ar av ah:=⟨_,c1,h8,cg.rowCap (i:=0) rfl⟩
 obtain rfl:=XZ H
 exact OW (bs:=((bp).heap.size::([]:List Nat))) (.one (.c (Yb ar ah.length av))) gz dh d5.marks d5.of (by kernel_rfl) ⟨_,_,rfl,h7⟩
abbrev S6 (dH bV cV):=([.func (.func 57) #[] #[.pointer (some ⟨dH,0,none⟩),.pointer (some ⟨bV,0,none⟩),.pointer (some ⟨cV,0,none⟩)]]:List SC)
abbrev Hg (aA more):=([tI 9 aA,tP 6 3 0,tI 2 more,tP 4 1 0,tP 5 2 0]:TM)
theorem I6 (n:Nat):∀ (F:Fr)(h:Ac)(w:World)(dH bV cV:Nat)(s_:A1)(fQ:Ye)(hU:rep h s_ fQ)(fG:Int)(more:Int)(out:List A1)(gG:Yd)(gH:Nat)(fZ:Ye)(jJ:Ae h out fZ)(y:Am)(eL:B9 h bV y)(fK:As h cV [.func (.func 57) #[] #[.pointer (some ⟨dH,0,none⟩),.pointer (some ⟨bV,0,none⟩),.pointer (some ⟨cV,0,none⟩)]])(hm:Ai F h [(dH,0)] [⟨[Yb gG out.length gH],some 77⟩] [⟨gG,out.length,gH,82,8,fZ,0⟩] w)(r:List A1)(H:lane_Yard_breaks_1 n s_ fG more out y=some r),
  Calls Tryz.prog 57 #[.agg fQ.toArray,.int .i64 fG,.int .i64 more,.pointer (some ⟨dH,0,none⟩),.pointer (some ⟨bV,0,none⟩),.pointer (some ⟨cV,0,none⟩)] w (Jw fun v w'=>∃ (h':Ac)(aa:Yd)(ab:Nat)(ag:Ye),Ac.le h h'∧(v=.tuple #[])∧Ae h' r ag∧Ai F h' [(dH,0)] [⟨[.slice aa r.length ab],some 77⟩] [⟨aa,r.length,ab,82,8,ag,0⟩] w'):=by
 induction n using Nat.strongRecOn with
 | _ n ih =>
  intro F h w dH bV cV s_ fQ hU fG more out gG gH fZ jJ y eL fK hm r H
  obtain _ | n:=n
  ·
   rw [lane_Yard_breaks_1] at H; cases H
  obtain⟨_,_,rfl,rfl,⟨_,_,rfl,rfl,⟨_,_,rfl,rfl,⟨_,_,rfl,rfl,⟨_,_,rfl,rfl,⟨_,_,rfl,rfl,⟨_,_,rfl,rfl,rfl⟩⟩⟩⟩⟩⟩⟩:=hU
  obtain⟨_,eD,kB⟩:=id eL
  obtain⟨_,_,rfl,⟨f,k,rfl,au⟩,⟨_,_,rfl,⟨g,l,rfl,av⟩,rfl⟩⟩:=eD
  refine DZ (e:=[(dH,0),(bV,0),(cV,0)]) 37 [.agg (WP s_),.c (XR fG),.c (XR more),.c (.ptr 0 0),.c (.ptr 1 0),.c (.ptr 2 0)] Tryz.func57 rfl rfl rfl rfl fun t hk=>?_
  replace hm:=hm.addPlc (o:=0) (cs:=[Yb f y.room.length k,Yb g y.lG.length l,XR y.broken]) (fun j c hj=>by rw [Y3]; exact kB j _ (Ak hj)) rfl (by kernel_rfl) (by kernel_rfl)
  replace hm:=hm.addPlc (o:=0) (cs:=[.func (.func 57) #[] #[.pointer (some ⟨dH,0,none⟩),.pointer (some ⟨bV,0,none⟩),.pointer (some ⟨cV,0,none⟩)]]) (fun j c hj=>by rw [Y3]; exact fK j _ (Ak hj)) rfl (by kernel_rfl) (by kernel_rfl)
  replace hm:Ai _ _ [(dH,0),(bV,0),(cV,0)] [⟨[Yb gG out.length gH],some 77⟩,⟨Mh f y k g l,none⟩,⟨S6 dH bV cV,none⟩] [⟨gG,out.length,gH,82,8,fZ,0⟩] _:=hm
  rw [lane_Yard_breaks_1] at H
  refine XT (Aa (wl fun K hK=>?_))
  refine wb (.agg (WP s_)) hk hm fun a bt dv (b5:Kn _ (CW dH bV cV a) [tP 6 3 0,tA 0 (WP s_),tI 1 fG,tI 2 more,tP 3 0 0,tP 4 1 0,tP 5 2 0] _) bk=>hK _ _ ?_
  have b9:Kn _ _ [tP 6 3 0,tI 1 fG,tI 2 more,tP 3 0 0,tP 4 1 0,tP 5 2 0] _:=b5.kp
  refine wf (XT (Aa (Rk 0 2 [tA 12 (WP s_),tS 11 gG out.length gH,tP 6 3 0,tI 1 fG,tI 2 more,tP 3 0 0,tP 4 1 0,tP 5 2 0] b9 bk fun df cd=>?_)))
  refine wl fun K hK=>?_
  refine wS 82 8 (WP s_) cd bk fun u c5 dn (ce:Kn _ (CW dH bV cV a) [tS 13 u 1 1,tA 12 (WP s_),tS 11 gG out.length gH,tP 6 3 0,tI 1 fG,tI 2 more,tP 3 0 0,tP 4 1 0,tP 5 2 0] _) bl=>?_
  have q:Ae h ([s_]:List A1) ([.bool s_.a0,.bool s_.a1,.bool s_.a2,.bool s_.a3,.bool s_.a4,.bool s_.a5,.bool s_.a6,.bool s_.a7]:Ye):=⟨_,_,rfl,((Ab Ag (Ab Ag (Ab Ag (Ab Ag (Ab Ag (Ab Ag (Ab Ag Ag))))))):rep h (s_:A1) _),rfl⟩
  refine hK _ _ ?_
  obtain⟨cQ,fX,H⟩:=Ao H
  obtain⟨ba,cv⟩:=Bj fX
  refine wl fun K hK=>?_
  refine AS 0 8 1 _ (cQ.length) _ ([.bool s_.a0,.bool s_.a1,.bool s_.a2,.bool s_.a3,.bool s_.a4,.bool s_.a5,.bool s_.a6,.bool s_.a7]:Ye) ce bl rfl rfl (by decide) rfl (by rfl) (by kernel_rfl) (by rfl) (by rfl) (Ae.len q) (bl.rowCell (i:=1) rfl) q.one (by rw [ba]; simp <;> omega) (by rw [ba]; exact cv) (by decide) fun aj am bx br dp b4 (cf:Kn _ (CW dH bV cV a) [tS 14 aj cQ.length am,tS 13 u 1 1,tA 12 (WP s_),tS 11 gG out.length gH,tP 6 3 0,tI 1 fG,tI 2 more,tP 3 0 0,tP 4 1 0,tP 5 2 0] _) cz=>?_
  have b2:Ae h cQ (fZ++([.bool s_.a0,.bool s_.a1,.bool s_.a2,.bool s_.a3,.bool s_.a4,.bool s_.a5,.bool s_.a6,.bool s_.a7]:Ye)):=by rw [ba]; exact Ae.append jJ q
  obtain rfl:bx=0:=Nat.le_zero.1 b4
  refine hK _ _ ?_
  refine wl fun K hK=>?_
  refine DT 0 0 (.c (Yb aj cQ.length am)) [Yb aj cQ.length am] cf cz fun dq cg bm=>hK _ _ ?_
  have ch:Kn _ _ [tP 6 3 0,tI 1 fG,tI 2 more,tP 4 1 0,tP 5 2 0] _:=cg.kp
  refine wf (XT (Aa (Rk 0 2 [tI 9 fG,tP 6 3 0,tI 2 more,tP 4 1 0,tP 5 2 0] ch bm fun dg ci=>?_)))
  refine wf ?_
  obtain⟨ax,bf,H⟩:=Ao H
  refine Ar (fun a' w'=>∃ (ak:Yd)(an:Nat)(ay:Ye)(bb:Array Value)(ac:Ac),a' = ⟨bb,[]⟩∧Kn 37 (CW dH bV cV a) [] bb∧Ai F ac (CW dH bV cV a) [⟨[Yb ak ax.length an],some 77⟩,⟨Mh f y k g l,none⟩,⟨S6 dH bV cV,none⟩,⟨WP s_,some 82⟩] [⟨ak,ax.length,an,82,8,ay,0⟩,⟨u,1,1,82,8,([.bool s_.a0,.bool s_.a1,.bool s_.a2,.bool s_.a3,.bool s_.a4,.bool s_.a5,.bool s_.a6,.bool s_.a7]:Ye),0⟩] w'∧Ac.le h ac∧Ae ac ax ay) ?_ ?_
  ·
   refine wp_block ?_
   refine Av (fun bo a' w'=>∃ (aB:List A1)(aA:Int)(x:Yd)(z:Nat)(ah:Ye)(bc:Array Value)(ad:Ac),a' = ⟨bc,[]⟩∧Kn 37 (CW dH bV cV a) (Hg aA more) bc∧Ai F ad (CW dH bV cV a) [⟨[Yb x aB.length z],some 77⟩,⟨Mh f y k g l,none⟩,⟨S6 dH bV cV,none⟩,⟨WP s_,some 82⟩] [⟨x,aB.length,z,82,8,ah,0⟩,⟨u,1,1,82,8,([.bool s_.a0,.bool s_.a1,.bool s_.a2,.bool s_.a3,.bool s_.a4,.bool s_.a5,.bool s_.a6,.bool s_.a7]:Ye),0⟩] w'∧Ac.le h ad∧Ae ad aB ah∧bo≤n∧Bl bo s_ more y aB aA=some ax) n ?_ ?_
   ·
    exact XY cQ ⟨fG,aj,am,fZ++([.bool s_.a0,.bool s_.a1,.bool s_.a2,.bool s_.a3,.bool s_.a4,.bool s_.a5,.bool s_.a6,.bool s_.a7]:Ye),_,_,rfl,ci.kp,bm,Ac.le_refl _,b2,Ys _,bf⟩
   rintro aw _ dr ⟨aB,aA,x,z,ah,bc,ad,rfl,cj,af,s,aq,da,d⟩
   clear bf
   obtain _ | aw:=aw
   ·
    rw [Bl] at d; cases d
   rw [Bl] at d
   replace eL:=eL.mono s
   replace fK:=fK.mono s
   refine XT (XT ?_)
   obtain⟨bp,ao,d⟩:=Ao d
   refine Ar (fun a' w'=>∃ (bd:Array Value)(ap:Ac),a' = ⟨bd,[]⟩∧Kn 37 (CW dH bV cV a) [tI 9 aA,tP 6 3 0,tI 2 more,tP 4 1 0,tP 5 2 0,tB 24 bp] bd∧Ai F ap (CW dH bV cV a) [⟨[Yb x aB.length z],some 77⟩,⟨Mh f y k g l,none⟩,⟨S6 dH bV cV,none⟩,⟨WP s_,some 82⟩] [⟨x,aB.length,z,82,8,ah,0⟩,⟨u,1,1,82,8,([.bool s_.a0,.bool s_.a1,.bool s_.a2,.bool s_.a3,.bool s_.a4,.bool s_.a5,.bool s_.a6,.bool s_.a7]:Ye),0⟩] w'∧Ac.le ad ap) ?_ ?_
   ·
    refine Aa (Rk 0 6 ((tB 21 (decide (aA<((y.lG.length:Nat):Int))))::(Hg aA more)) cj af fun bs bg=>?_)
    rcases Y2 (decide (aA<((y.lG.length:Nat):Int))) with ae | ae
    ·
     rw [ae,XW] at ao
     have ck:Kn _ _ ((tB 21 true)::(Hg aA more)) _:=(bg.setB 21 true (by rfl) ae).kp
     refine Rk 6 3 ((tB 24 (decide (more>0)))::(Hg aA more)) ck af fun dh cl=>?_
     refine wf ?_
     obtain rfl:=XZ ao
     exact XY _ ⟨_,rfl,cl.kp,af,Ac.le_refl _⟩
    rw [ae,XV] at ao
    have cm:Kn _ _ ((tB 21 false)::(Hg aA more)) _:=(bg.setB 21 false (by rfl) ae).kp
    refine Rk 6 3 ((tB 24 false)::(Hg aA more)) cm af fun di cn=>?_
    refine wf ?_
    obtain rfl:=XZ ao
    exact XY _ ⟨_,rfl,cn.kp,af,Ac.le_refl _⟩
   rintro _ ds ⟨bd,ap,rfl,a8,a9,m⟩
   replace eL:=eL.mono m
   replace fK:=fK.mono m
   replace aq:=aq.mono m
   refine wC (bp) a8 (fun az=>?_) (fun az=>?_)
   ·
    rw [Ba az] at d
    refine wp_skip (XT (wp_block (XT (Aa (Rk 0 1 ((tA 27 (WP s_))::(Hg aA more)) a8 a9 fun dj co=>?_)))))
    refine wl fun K hK=>?_
    refine wa [.bool false,.bool false,.bool false,.bool false,.bool false,.bool false,.bool false,.bool false] co a9 fun p bu dt (cp:Kn _ [(dH,0),(bV,0),(cV,0),(a,0),(p,0)] ((tP 10 4 0)::(tA 27 (WP s_))::(Hg aA more)) _) c0=>hK _ _ ?_
    refine wl fun K hK=>?_
    refine DT 4 0 (.agg (WP s_)) (WP s_) cp c0 fun du cq bn=>hK _ _ ?_
    have cr:Kn _ _ ((tP 10 4 0)::(Hg aA more)) _:=cq.kp
    refine wf (XT (Aa (Rk 0 1 ((tI 28 aA)::(tP 10 4 0)::(Hg aA more)) cr bn fun dk bh=>?_)))
    obtain⟨gN,iQ,d⟩:=Ao d
    obtain⟨c1,c2⟩:=BI iQ
    refine Eg 1 (.one (.c (.ptr 4 (0+Yc aA*1)))) rfl (rfl) rfl (AZ (E:=4) bh rfl (by kernel_rfl) (by kernel_rfl) (by rfl) (by rfl) c1 c2) (bh.put (by decide) _) fun bv (ct:Kn _ [(dH,0),(bV,0),(cV,0),(a,0),(p,0)] ((tP 29 4 (0+Yc aA*1))::(tI 28 aA)::(tP 10 4 0)::(Hg aA more)) _)=>?_
    obtain⟨b,bw,d⟩:=Ao d
    obtain⟨db,dc,c4⟩:=A1.setI_some bw
    refine wl fun K hK=>?_
    refine DS 4 (0+(aA:Int).toNat*1) (.c (.bool true)) (WP b) ct bn rfl rfl (by rfl) (by rfl) (by rfl) (by kernel_rfl) (by refine decide_eq_true ?_; show(0+(aA:Int).toNat*1)+1≤8; omega) (F7 (fun(y:Bool)=>([.bool y]:List SC)) 1 (fun _=>rfl) [] [] s_.toL b.toL (aA:Int).toNat true c4 (show(aA:Int).toNat<8 by omega) rfl rfl rfl) fun dw b6 bj=>hK _ _ ?_
    have b7:Kn _ _ ((tP 10 4 0)::(Hg aA more)) _:=b6.kp
    refine wf (Aa (Rk 0 6 ((tI 35 (IntKind.i64.wrap (more-1)))::(tI 33 (IntKind.i64.wrap (aA+1)))::(tA 31 (WP b))::(30,.one (.c (.func (.func 57) #[] #[.pointer (some ⟨dH,0,none⟩),.pointer (some ⟨bV,0,none⟩),.pointer (some ⟨cV,0,none⟩)])))::(Hg aA more)) b7 bj fun dd b8=>?_))
    obtain⟨cD,jZ,d⟩:=Ao d
    obtain⟨c7,c8,cu,c3⟩:=bj.lend0 [0] [0] (by kernel_rfl) (by kernel_rfl) (by kernel_rfl) (by kernel_rfl)
    refine wl fun K hK=>?_
    refine ED (.func (.func 57) #[] #[.pointer (some ⟨dH,0,none⟩),.pointer (some ⟨bV,0,none⟩),.pointer (some ⟨cV,0,none⟩)]) [.agg (WP b),.c (XR (IntKind.i64.wrap (aA+1))),.c (XR (IntKind.i64.wrap (more-1)))] _ b8 rfl rfl (by decide) (by rfl) (by rfl) rfl ⟨57,_,_,rfl,fun _ _=>by kernel_rfl,ih aw (by omega) _ _ _ _ _ _ b _ ((Ab Ag (Ab Ag (Ab Ag (Ab Ag (Ab Ag (Ab Ag (Ab Ag Ag))))))):rep ap b _) (IntKind.i64.wrap (aA+1)) (IntKind.i64.wrap (more-1)) aB _ _ _ aq y eL fK cu _ jZ⟩ fun dl c6 bz=>?_
    obtain⟨b0,ai,al,be,bi,rfl,b1,cx⟩:=bz
    have ar:=c3 _ _ _ [⟨ai,cD.length,al,82,8,be,0⟩] bi rfl (Y7 rfl) (by kernel_rfl) cx
    replace ar:Ai _ _ [(dH,0),(bV,0),(cV,0),(a,0),(p,0)] [⟨[Yb ai cD.length al],some 77⟩,⟨Mh f y k g l,none⟩,⟨S6 dH bV cV,none⟩,⟨WP s_,some 82⟩,⟨WP b,some 82⟩] [⟨ai,cD.length,al,82,8,be,0⟩,⟨u,1,1,82,8,([.bool s_.a0,.bool s_.a1,.bool s_.a2,.bool s_.a3,.bool s_.a4,.bool s_.a5,.bool s_.a6,.bool s_.a7]:Ye),0⟩] _:=ar
    refine⟨.tup [],rfl,fun bq (ca:Kn _ [(dH,0),(bV,0),(cV,0),(a,0),(p,0)] ((36,.tup [])::(tI 35 (IntKind.i64.wrap (more-1)))::(tI 33 (IntKind.i64.wrap (aA+1)))::(tA 31 (WP b))::(30,.one (.c (.func (.func 57) #[] #[.pointer (some ⟨dH,0,none⟩),.pointer (some ⟨bV,0,none⟩),.pointer (some ⟨cV,0,none⟩)])))::(Hg aA more)) _)=>hK _ _ ?_⟩
    have cb:Kn _ _ (Hg aA more) _:=ca.kp
    refine wf (Aa (Rk 0 3 [tI 9 (IntKind.i64.wrap (aA+1)),tP 6 3 0,tI 2 more,tP 4 1 0,tP 5 2 0] cb ar fun de cc=>?_))
    refine wf ?_
    exact XY aw ⟨Y4 _,XY cD ⟨IntKind.i64.wrap (aA+1),ai,al,be,_,_,rfl,(cc.keep [9,6,2,4,5] (by rfl)).cut 4 (by kernel_rfl),ar.cutPl 4 (by kernel_rfl),XU s (XU m bi),b1,(by omega),d⟩⟩
   rw [Bb az] at d
   refine wp_exit ?_
   obtain rfl:=XZ d
   exact XY x ⟨z,ah,_,_,rfl,a8.kp,a9,XU s m,aq⟩
  rintro _ dm ⟨ak,an,ay,bb,ac,rfl,c9,cy,cw,b3⟩
  obtain rfl:=XZ H
  exact LY rfl ⟨ac,ak,an,ay,cw,rfl,b3,(cy.cutRw 1).cutPl 1 (by kernel_rfl)⟩
theorem IL (n:Nat) {F:Fr} {h:Ac} {w:World} {dH bV cV:Nat} (s_:A1) {fQ:Ye} (hU:rep h s_ fQ) (fG:Int) (more:Int) (out:List A1) {gG:Yd} {gH:Nat} {fZ:Ye} (jJ:Ae h out fZ) (y:Am) (eL:B9 h bV y) (fK:As h cV [.func (.func 57) #[] #[.pointer (some ⟨dH,0,none⟩),.pointer (some ⟨bV,0,none⟩),.pointer (some ⟨cV,0,none⟩)]]) (hm:Ai F h [(dH,0)] [⟨[Yb gG out.length gH],some 77⟩] [⟨gG,out.length,gH,82,8,fZ,0⟩] w) {r:List A1} (H:lane_Yard_breaks_1 n s_ fG more out y=some r) :
  Calls Tryz.prog 57 #[.agg fQ.toArray,.int .i64 fG,.int .i64 more,.pointer (some ⟨dH,0,none⟩),.pointer (some ⟨bV,0,none⟩),.pointer (some ⟨cV,0,none⟩)] w (Jw fun v w'=>∃ (h':Ac)(aa:Yd)(ab:Nat)(ag:Ye),Ac.le h h'∧(v=.tuple #[])∧Ae h' r ag∧Ai F h' [(dH,0)] [⟨[.slice aa r.length ab],some 77⟩] [⟨aa,r.length,ab,82,8,ag,0⟩] w'):=I6 n F h w dH bV cV s_ fQ hU fG more out gG gH fZ jJ y eL fK hm r H
theorem Kc (n:Nat) {h:Ac} {w:World} (hh:CK h w) (y:Am) {dQ:Ye} (eD:rep h y dQ) {r:List A1} (H:D1 n y=some r) :
  Calls Tryz.prog 26 #[.agg dQ.toArray] w (CP (fun h v=>∃ a c,v=.slice a r.length c∧At h a c r) h w):=by
 obtain⟨_,_,rfl,⟨g,k,rfl,ae⟩,⟨_,_,rfl,⟨j,l,rfl,af⟩,rfl⟩⟩:=eD
 refine enter 11 [.agg (Mh g y k j l)] Tryz.func26 rfl rfl rfl rfl fun t hk=>?_
 have hm:=Ai.begin h w hh
 unfold D1 at H
 refine XT (Aa (wl fun K hK=>?_))
 refine wb (.agg (Mh g y k j l)) hk hm fun b bm bw (aw:Kn _ [(b,0)] [tP 1 0 0,tA 0 (Mh g y k j l)] _) bc=>hK _ _ ?_
 refine wl fun K hK=>?_
 refine wa [Yb none 0 0] aw bc fun d am bv (ax:Kn _ [(b,0),(d,0)] [tP 2 1 0,tP 1 0 0,tA 0 (Mh g y k j l)] _) bd=>hK _ _ ?_
 have ay:Kn _ _ [tP 2 1 0,tP 1 0 0] _:=ax.kp
 refine wf (XT (Aa (wl fun K hK=>?_)))
 refine wa [.nilfunc] ay bd fun f bk bn (az:Kn _ [(b,0),(d,0),(f,0)] [tP 3 2 0,tP 2 1 0,tP 1 0 0] _) be=>hK _ _ ?_
 refine wf (XT (Aa ?_))
 obtain⟨p,ai,ah,ab⟩:=be.settlePlc (i:=0) rfl
 replace ae:=ae.mono ai
 replace af:=af.mono ai
 replace ab:Ai _ _ [(b,0),(d,0),(f,0)] [⟨Mh g y k j l,none⟩,⟨[Yb none 0 0],some 77⟩,⟨[.nilfunc],some 118⟩] [] _:=ab
 have x:B9 p b (y:Am):=B9.of (e:=[(b,0),(d,0),(f,0)]) (cs:=(Mh g y k j l)) ((Ab (Af ae) (Ab (Af af) Ad)):rep p (y:Am) _) rfl ah
 have bs:As p b [.slice g y.room.length k,.slice j y.lG.length l,.int .i64 y.broken]:=As.of (e:=[(b,0),(d,0),(f,0)]) (cs:=[.slice g y.room.length k,.slice j y.lG.length l,.int .i64 y.broken]) rfl ah
 refine Ey 0 #[] #[.pointer (some ⟨d,0,none⟩),.pointer (some ⟨b,0,none⟩),.pointer (some ⟨f,0,none⟩)] az rfl rfl (rfl) rfl (by decide) (by rfl) (by rfl) (by rfl) (by rfl) fun an (a0:Kn _ [(b,0),(d,0),(f,0)] [(4,.one (.c (.func (.func 57) #[] #[.pointer (some ⟨d,0,none⟩),.pointer (some ⟨b,0,none⟩),.pointer (some ⟨f,0,none⟩)]))),tP 3 2 0,tP 2 1 0,tP 1 0 0] _)=>?_
 refine wl fun K hK=>?_
 refine DT 2 0 (.c (.func (.func 57) #[] #[.pointer (some ⟨d,0,none⟩),.pointer (some ⟨b,0,none⟩),.pointer (some ⟨f,0,none⟩)])) (S6 d b f) a0 ab fun ap a1 ak=>hK _ _ ?_
 have a2:Kn _ _ [tP 3 2 0,tP 2 1 0,tP 1 0 0] _:=a1.kp
 refine wf (XT (Aa (Rk 0 4 [tI 8 y.broken,tA 6 VQ,(5,.one (.c (.func (.func 57) #[] #[.pointer (some ⟨d,0,none⟩),.pointer (some ⟨b,0,none⟩),.pointer (some ⟨f,0,none⟩)]))),tP 2 1 0] a2 ak fun bt a3=>?_)))
 have bf:Ai _ _ [(b,0),(d,0),(f,0)] [⟨Mh g y k j l,none⟩,⟨[.slice none 0 0],some 77⟩,⟨S6 d b f,some 118⟩] [⟨none,0,0,82,8,([]:Ye),0⟩] _:=ak.nilRow 82 8
 have z:Ae p ([]:List A1) []:=Ae.nil
 obtain⟨u,aj,av,ac⟩:=bf.settlePlc (i:=2) rfl
 replace x:=x.mono aj
 replace z:=z.mono aj
 replace ac:Ai _ _ [(b,0),(d,0),(f,0)] [⟨Mh g y k j l,none⟩,⟨[Yb none 0 0],some 77⟩,⟨S6 d b f,none⟩] [⟨none,0,0,82,8,([]:Ye),0⟩] _:=ac
 have au:As u f [.func (.func 57) #[] #[.pointer (some ⟨d,0,none⟩),.pointer (some ⟨b,0,none⟩),.pointer (some ⟨f,0,none⟩)]]:=As.of (e:=[(b,0),(d,0),(f,0)]) (cs:=[.func (.func 57) #[] #[.pointer (some ⟨d,0,none⟩),.pointer (some ⟨b,0,none⟩),.pointer (some ⟨f,0,none⟩)]]) rfl av
 obtain⟨x9,kW,H⟩:=Ao H
 obtain⟨bq,br,a9,bi⟩:=ac.lend0 [1] [0] (by kernel_rfl) (by kernel_rfl) (by kernel_rfl) (by kernel_rfl)
 refine wl fun K hK=>?_
 refine ED (.func (.func 57) #[] #[.pointer (some ⟨d,0,none⟩),.pointer (some ⟨b,0,none⟩),.pointer (some ⟨f,0,none⟩)]) [.agg VQ,.c (XR 0),.c (XR y.broken)] _ a3 rfl rfl (by decide) (by rfl) (by rfl) rfl ⟨57,_,_,rfl,fun _ _=>by kernel_rfl,IL n (A1.mk false false false false false false false false) ((Ab Ag (Ab Ag (Ab Ag (Ab Ag (Ab Ag (Ab Ag (Ab Ag Ag))))))):rep u (A1.mk false false false false false false false false) _) 0 y.broken ([]:List A1) z y x au a9 kW⟩ fun bu bo aq=>?_
 obtain⟨ar,m,o,s,ba,rfl,aa,bg⟩:=aq
 have q:=bi _ _ _ [⟨m,x9.length,o,82,8,s,0⟩] ba rfl (Y7 rfl) (by kernel_rfl) bg
 replace q:Ai _ _ [(b,0),(d,0),(f,0)] [⟨Mh g y k j l,none⟩,⟨[Yb m x9.length o],some 77⟩,⟨S6 d b f,none⟩] [⟨m,x9.length,o,82,8,s,0⟩] _:=q
 refine⟨.tup [],rfl,fun ao (a4:Kn _ [(b,0),(d,0),(f,0)] [(9,.tup []),tI 8 y.broken,tA 6 VQ,(5,.one (.c (.func (.func 57) #[] #[.pointer (some ⟨d,0,none⟩),.pointer (some ⟨b,0,none⟩),.pointer (some ⟨f,0,none⟩)]))),tP 2 1 0] _)=>hK _ _ ?_⟩
 have a5:Kn _ _ [tP 2 1 0] _:=a4.kp
 refine wf (XT (Aa (Rk 0 1 [tS 10 m x9.length o,tP 2 1 0] a5 q fun bl a6=>?_)))
 refine wl fun K hK=>?_
 refine DT 1 0 (.c (Yb m x9.length o)) [Yb m x9.length o] a6 q fun bp a7 al=>hK _ _ ?_
 have a8:Kn _ _ [tP 2 1 0] _:=a7.kp
 refine wf (wp_ret ?_)
 obtain⟨ag,bb,bj,ad⟩:=al.settle (i:=0) rfl
 replace aa:=aa.mono bb
 replace ad:Ai _ _ [(b,0),(d,0),(f,0)] [⟨Mh g y k j l,none⟩,⟨[Yb m x9.length o],some 77⟩,⟨S6 d b f,none⟩] [⟨m,x9.length,o,82,8,s,_⟩] _:=ad
 have bh:At ag m o x9:=⟨_,aa,bj,al.rowCap (i:=0) rfl⟩
 obtain rfl:=XZ H
 exact rt (.one (.c (Yb m x9.length o))) a8 ad ⟨_,_,rfl,bh⟩
theorem Mn (n:Nat) {h:Ac} {w:World} (hh:CK h w) (b:Cn) {iO:Ye} (jT:rep h b iO) {r:Int} (H:B1 n b=some r) :
  Calls Tryz.prog 85 #[.agg iO.toArray] w (CP (fun h v=>v=.int .i64 r) h w):=by
 obtain⟨_,_,rfl,rfl,⟨_,_,rfl,rfl,rfl⟩⟩:=jT
 refine enter 5 [.agg [XR b.lo,XR b.hi,XR b.turn]] Tryz.func85 rfl rfl rfl rfl fun t hk=>?_
 have hm:=Ai.begin h w hh
 unfold B1 at H
 refine XT (Aa (wl fun K hK=>?_))
 refine wb (.agg [XR b.lo,XR b.hi,XR b.turn]) hk hm fun d i l (e:Kn _ [(d,0)] [tP 1 0 0,tA 0 [XR b.lo,XR b.hi,XR b.turn]] _) a=>hK _ _ ?_
 refine Rk 1 1 [tP 1 0 0] e a fun j f=>?_
 refine wf (XT (Aa (Rk 0 3 [tI 2 b.lo] f a fun k g=>?_)))
 refine wf (wp_ret ?_)
 obtain rfl:=XZ H
 exact rt (.one (.c (XR b.lo))) g a rfl
theorem MT (n:Nat) {h:Ac} {w:World} (hh:CK h w) (b:Cn) {iO:Ye} (jT:rep h b iO) {r:Int} (H:Bo n b=some r) :
  Calls Tryz.prog 86 #[.agg iO.toArray] w (CP (fun h v=>v=.int .i64 r) h w):=by
 obtain⟨_,_,rfl,rfl,⟨_,_,rfl,rfl,rfl⟩⟩:=jT
 refine enter 5 [.agg [XR b.lo,XR b.hi,XR b.turn]] Tryz.func86 rfl rfl rfl rfl fun t hk=>?_
 have hm:=Ai.begin h w hh
 unfold Bo at H
 refine XT (Aa (wl fun K hK=>?_))
 refine wb (.agg [XR b.lo,XR b.hi,XR b.turn]) hk hm fun d i l (e:Kn _ [(d,0)] [tP 1 0 0,tA 0 [XR b.lo,XR b.hi,XR b.turn]] _) a=>hK _ _ ?_
 refine Rk 1 1 [tP 1 0 0] e a fun j f=>?_
 refine wf (XT (Aa (Rk 0 3 [tI 2 b.hi] f a fun k g=>?_)))
 refine wf (wp_ret ?_)
 obtain rfl:=XZ H
 exact rt (.one (.c (XR b.hi))) g a rfl
theorem Rq (n:Nat) {h:Ac} {w:World} (hh:CK h w)  {r:List Cg} (H:JM n =some r) :
  Calls Tryz.prog 60 #[] w (CP (fun h v=>∃ a c,v=.slice a r.length c∧At h a c r) h w):=by
 refine enter 4 [] Tryz.func60 rfl rfl rfl rfl fun t hk=>?_
 have hm:=Ai.begin h w hh
 unfold JM at H
 refine XT (Aa (Rk 0 1 [] hk hm fun x k=>?_))
 refine wf (XT (Aa (Rk 0 2 [tA 2 [.func (.func 86) #[] #[]],tA 1 [.func (.func 85) #[] #[]]] k hm fun z l=>?_)))
 refine wl fun K hK=>?_
 refine wS 132 1 [.func (.func 85) #[] #[],.func (.func 86) #[] #[]] l hm fun b s u (m:Kn _ [] [tS 3 b 2 2,tA 2 [.func (.func 86) #[] #[]],tA 1 [.func (.func 85) #[] #[]]] _) f=>?_
 have d:Ae h ([(Cg.mk (fun(y0:Cn)=>B1 n y0)),(Cg.mk (fun(y0:Cn)=>Bo n y0))]:List Cg) ([.func (.func 85) #[] #[],.func (.func 86) #[] #[]]:Ye):=⟨_,_,rfl,(⟨_,_,_,rfl,(show Xy h (.func (.func 85) #[] #[]) (fun(y0:Cn)=>B1 n y0) from fun h2 w2 hle hh y0 cs0 hy0 r H=>⟨85,_,_,rfl,fun _ _=>by kernel_rfl,Mn n hh y0 hy0 H⟩)⟩:rep h ((Cg.mk (fun(y0:Cn)=>B1 n y0)):Cg) _),⟨_,_,rfl,(⟨_,_,_,rfl,(show Xy h (.func (.func 86) #[] #[]) (fun(y0:Cn)=>Bo n y0) from fun h2 w2 hle hh y0 cs0 hy0 r H=>⟨86,_,_,rfl,fun _ _=>by kernel_rfl,MT n hh y0 hy0 H⟩)⟩:rep h ((Cg.mk (fun(y0:Cn)=>Bo n y0)):Cg) _),rfl⟩⟩
 refine hK _ _ ?_
 refine Rk 3 1 [tS 0 b 2 2] m f fun y j=>?_
 refine wf (wp_ret ?_)
 obtain⟨g,o,q,e⟩:=f.settle (i:=0) rfl
 replace d:=d.mono o
 replace e:Ai _ _ [] [] [⟨b,2,2,132,1,([.func (.func 85) #[] #[],.func (.func 86) #[] #[]]:Ye),_⟩] _:=e
 have p:At g b 2 ([(Cg.mk (fun(y0:Cn)=>B1 n y0)),(Cg.mk (fun(y0:Cn)=>Bo n y0))]:List Cg):=⟨_,d,q,f.rowCap (i:=0) rfl⟩
 obtain rfl:=XZ H
 exact rt (.one (.c (Yb b 2 2))) j e ⟨_,_,rfl,p⟩
theorem B7.KL:KL Tryz.prog 126 B7:=by
  refine KL.struct 5 (by decide) (fun x=>[XR x.behind,XR x.last]) (fun _=>rfl) (by kernel_rfl) (fun _=>by kernel_rfl) (fun _=>by kernel_rfl) fun a b=>⟨(a.behind == b.behind) && ((a.last == b.last) && true),by kernel_rfl,?_⟩
  rcases a with⟨a0,a1⟩
  rcases b with⟨b0,b1⟩
  simp [and_assoc]
abbrev FO (s_:B7):=([XR s_.behind,XR s_.last]:List SC)
abbrev NE (ai)(c:A4)(ak):=([Yb ai c.lG.length ak,XR c.down]:List SC)
abbrev S8 (s_:B7)(an):=([XR (IntKind.i64.wrap (s_.behind+1)),XR an]:List SC)
abbrev S9 (s_:B7):=([XR (IntKind.i64.wrap (s_.behind+1)),XR s_.last]:List SC)
abbrev GA:List SC:=[XR 0,XR 0,XR 0,XR 0,XR 0,XR 0,XR 0,XR 0,XR 0]
abbrev NG (eQ aG bV bS f g l m)(p:Nat)(s_:B7)(q):=([(eQ,0),(aG,0),(bV,0),(bS,0),(f,0),(g,0),(l,0),(m,p+(s_.behind:Int).toNat*1),(q,0)]:AJ)
abbrev NH (eQ aG bV bS):=([.func (.func 59) #[] #[.pointer (some ⟨eQ,0,none⟩),.pointer (some ⟨aG,0,none⟩),.pointer (some ⟨bV,0,none⟩),.pointer (some ⟨bS,0,none⟩)]]:List SC)
abbrev MU (aC)(aA:A0):=([XR aC,XR aA.a0,XR aA.a1,XR aA.a2,XR aA.a3,XR aA.a4,XR aA.a5,XR aA.a6,XR aA.a7]:List SC)
abbrev I7 (ad:(A0×Int×(List (B7×AX)))):=([XR ad.2.1,XR ad.1.a0,XR ad.1.a1,XR ad.1.a2,XR ad.1.a3,XR ad.1.a4,XR ad.1.a5,XR ad.1.a6,XR ad.1.a7]:List SC)
abbrev Pr (az)(fJ:(AX×(List (B7×AX)))):=([XR az,XR fJ.1.tm.a0,XR fJ.1.tm.a1,XR fJ.1.tm.a2,XR fJ.1.tm.a3,XR fJ.1.tm.a4,XR fJ.1.tm.a5,XR fJ.1.tm.a6,XR fJ.1.tm.a7]:List SC)
abbrev Eb (cJ:(AX×Bool)):=([XR cJ.1.many,XR cJ.1.tm.a0,XR cJ.1.tm.a1,XR cJ.1.tm.a2,XR cJ.1.tm.a3,XR cJ.1.tm.a4,XR cJ.1.tm.a5,XR cJ.1.tm.a6,XR cJ.1.tm.a7]:List SC)
abbrev Ps (fJ:(AX×(List (B7×AX)))):=([XR fJ.1.many,XR fJ.1.tm.a0,XR fJ.1.tm.a1,XR fJ.1.tm.a2,XR fJ.1.tm.a3,XR fJ.1.tm.a4,XR fJ.1.tm.a5,XR fJ.1.tm.a6,XR fJ.1.tm.a7]:List SC)
abbrev KU (eQ aG bV bS f g l m)(p:Nat)(s_:B7)(q s)(u:Nat)(aB:Int)(z aa)(ab:Nat)(dC:Int)(ae):=([(eQ,0),(aG,0),(bV,0),(bS,0),(f,0),(g,0),(l,0),(m,p+(s_.behind:Int).toNat*1),(q,0),(s,u+Yc aB*1),(z,0),(aa,ab+Yc dC*3),(ae,0)]:AJ)
abbrev MV (eQ aG bV bS f g l m)(p:Nat)(s_:B7)(q s)(u:Nat)(aB:Int)(z aa)(ab:Nat)(dC:Int)(ae am):=([(eQ,0),(aG,0),(bV,0),(bS,0),(f,0),(g,0),(l,0),(m,p+(s_.behind:Int).toNat*1),(q,0),(s,u+Yc aB*1),(z,0),(aa,ab+Yc dC*3),(ae,0),(am,0)]:AJ)
abbrev CL (aB)(cK:List Cg)(a d dC):=([tI 39 aB,tI 38 ((cK.length:Nat):Int),tS 37 a cK.length d,tP 10 8 0,tI 9 dC,tP 6 5 0,tP 5 4 0,tP 1 0 0,tP 2 1 0,tP 3 2 0,tP 4 3 0]:TM)
abbrev EN:TM:=[tP 6 5 0,tP 5 4 0,tP 1 0 0,tP 2 1 0,tP 3 2 0,tP 4 3 0]
abbrev T3 (s_:B7)(an eQ aG bV bS cG aB)(cK:List Cg)(a d dC):=((tA 70 (S8 s_ an))::(69,.one (.c (.func (.func 59) #[] #[.pointer (some ⟨eQ,0,none⟩),.pointer (some ⟨aG,0,none⟩),.pointer (some ⟨bV,0,none⟩),.pointer (some ⟨bS,0,none⟩)])))::(tI 13 cG)::(tI 11 aB)::(CL aB cK a d dC):TM)
abbrev EO (cG aB)(cK:List Cg)(a d dC):=((tI 13 cG)::(tI 11 aB)::(CL aB cK a d dC):TM)
theorem IM (n:Nat):∀ (F:Fr)(h:Ac)(w:World)(eQ aG bV bS:Nat)(s_:B7)(fQ:Ye)(hU:rep h s_ fQ)(c:A4)(iF:B9 h eQ c)(known:List (B7×AX))(aM:Nat)(cW:Array MapEntry)(cX:Nat)(cM:As h aG [.map (some aM)])(hX_known:F.X aM=some (.map cW cX))(hE_known:Cy h cW.toList cX known)(y:Am)(eL:B9 h bV y)(eN:As h bS [.func (.func 59) #[] #[.pointer (some ⟨eQ,0,none⟩),.pointer (some ⟨aG,0,none⟩),.pointer (some ⟨bV,0,none⟩),.pointer (some ⟨bS,0,none⟩)]])(hm:Ai F h [] [] [] w)(r:AX×(List (B7×AX)))(H:lane_Yard_worst_1 n s_ c known y=some r),
  Calls Tryz.prog 59 #[.agg fQ.toArray,.pointer (some ⟨eQ,0,none⟩),.pointer (some ⟨aG,0,none⟩),.pointer (some ⟨bV,0,none⟩),.pointer (some ⟨bS,0,none⟩)] w (Jw fun v w'=>∃ (h':Ac)(bp:Array MapEntry)(bn:Nat),Ac.le h h'∧(∃ cs,v=.agg cs.toArray∧rep h' r.1 cs)∧Cy h' bp.toList bn r.2∧Ai (Fr.put F aM (some (.map bp bn))) h' [] [] [] w'):=by
 induction n using Nat.strongRecOn with
 | _ n ih =>
  intro F h w eQ aG bV bS s_ fQ hU c iF known aM cW cX cM hX_known hE_known y eL eN hm r H
  obtain _ | n:=n
  ·
   rw [lane_Yard_worst_1] at H; cases H
  obtain⟨_,_,rfl,rfl,rfl⟩:=hU
  obtain⟨_,hx_c,hc_c⟩:=id iF
  obtain⟨_,_,rfl,⟨ai,ak,rfl,ax⟩,rfl⟩:=hx_c
  obtain⟨_,eD,kB⟩:=id eL
  obtain⟨_,_,rfl,⟨ao,ap,rfl,a8⟩,⟨_,_,rfl,⟨aj,al,rfl,ay⟩,rfl⟩⟩:=eD
  refine DZ (e:=[(eQ,0),(aG,0),(bV,0),(bS,0)]) 99 [.agg (FO s_),.c (.ptr 0 0),.c (.ptr 1 0),.c (.ptr 2 0),.c (.ptr 3 0)] Tryz.func59 rfl rfl rfl rfl fun t hk=>?_
  replace hm:=hm.addPlc (o:=0) (cs:=[Yb ai c.lG.length ak,XR c.down]) (fun j c hj=>by rw [Y3]; exact hc_c j _ (Ak hj)) rfl (by kernel_rfl) (by kernel_rfl)
  replace hm:=hm.addPlc (o:=0) (cs:=[.map (some aM)]) (fun j c hj=>by rw [Y3]; exact cM j _ (Ak hj)) rfl (by kernel_rfl) (by kernel_rfl)
  replace hm:=hm.addPlc (o:=0) (cs:=[Yb ao y.room.length ap,Yb aj y.lG.length al,XR y.broken]) (fun j c hj=>by rw [Y3]; exact kB j _ (Ak hj)) rfl (by kernel_rfl) (by kernel_rfl)
  replace hm:=hm.addPlc (o:=0) (cs:=[.func (.func 59) #[] #[.pointer (some ⟨eQ,0,none⟩),.pointer (some ⟨aG,0,none⟩),.pointer (some ⟨bV,0,none⟩),.pointer (some ⟨bS,0,none⟩)]]) (fun j c hj=>by rw [Y3]; exact eN j _ (Ak hj)) rfl (by kernel_rfl) (by kernel_rfl)
  rw [← Fr.put_self hX_known] at hm
  replace hm:Ai _ _ [(eQ,0),(aG,0),(bV,0),(bS,0)] [⟨[Yb ai c.lG.length ak,XR c.down],none⟩,⟨[.map (some aM)],none⟩,⟨[Yb ao y.room.length ap,Yb aj y.lG.length al,XR y.broken],none⟩,⟨[.func (.func 59) #[] #[.pointer (some ⟨eQ,0,none⟩),.pointer (some ⟨aG,0,none⟩),.pointer (some ⟨bV,0,none⟩),.pointer (some ⟨bS,0,none⟩)]],none⟩] [] _:=hm
  rw [lane_Yard_worst_1] at H
  refine XT (Aa (wl fun K hK=>?_))
  refine wb (.agg (FO s_)) hk hm fun f g5 i4 (eb:Kn _ [(eQ,0),(aG,0),(bV,0),(bS,0),(f,0)] [tP 5 4 0,tA 0 (FO s_),tP 1 0 0,tP 2 1 0,tP 3 2 0,tP 4 3 0] _) gf=>hK _ _ ?_
  refine wl fun K hK=>?_
  refine wa GA eb gf fun g dp i8 (er:Kn _ [(eQ,0),(aG,0),(bV,0),(bS,0),(f,0),(g,0)] [tP 6 5 0,tP 5 4 0,tA 0 (FO s_),tP 1 0 0,tP 2 1 0,tP 3 2 0,tP 4 3 0] _) be=>hK _ _ ?_
  have ev:Kn _ _ EN _:=er.kp
  refine wf (XT (XT (Aa (Rk 0 6 ((tB 21 (s_.behind == ((c.lG.length:Nat):Int)))::EN) ev be fun ie ck=>?_))))
  refine wf (wC ((s_.behind == ((c.lG.length:Nat):Int))) ck (fun cd=>?_) (fun cd=>?_))
  ·
   rw [cd,XW] at H
   refine XT (Aa (Rk 0 1 [tA 22 GA,tP 6 5 0] ck be fun hf e6=>?_))
   refine wl fun K hK=>?_
   refine DT 5 0 (.agg GA) GA e6 be fun ji fc da=>hK _ _ ?_
   have fj:Kn _ _ [tP 6 5 0] _:=fc.kp
   refine wf (wp_ret ?_)
   obtain rfl:=XZ H
   exact Hw (.one (.agg GA)) fj da (by kernel_rfl) ⟨h,cW,cX,Ac.le_refl _,⟨_,rfl,((Ab Ad (Ab Ad (Ab Ad (Ab Ad (Ab Ad (Ab Ad (Ab Ad (Ab Ad Ad)))))))):rep h ((AX.mk 0 (A0.mk 0 0 0 0 0 0 0 0)):AX) _)⟩,hE_known,(da.cutRw 0).cutPl 0 (by kernel_rfl)⟩
  rw [cd,XV] at H
  refine wp_skip (XT (XT (Aa (Rk 0 2 ((tA 25 (FO s_))::(24,.one (.c (.map (some aM))))::EN) ck be fun im fr=>?_))))
  obtain⟨cJ,gD,H⟩:=Ao H
  refine wl fun K hK=>?_
  refine HV (KT:=126) (E:=93) (k:=(s_:B7)) ((AX.mk 0 (A0.mk 0 0 0 0 0 0 0 0)):AX) (.agg (FO s_)) fr rfl rfl (by decide) (by rfl) (by rfl) (by kernel_rfl) B7.KL (be.ext (Fr.put_X _ _ _)) hE_known rfl (by kernel_rfl) ⟨_,rfl,((Ab Ad (Ab Ad (Ab Ad (Ab Ad (Ab Ad (Ab Ad (Ab Ad (Ab Ad Ad)))))))):rep h ((AX.mk 0 (A0.mk 0 0 0 0 0 0 0 0)):AX) _)⟩ fun i1 dk=>?_
  rw [XZ gD] at dk ⊢
  obtain⟨_,rfl,⟨_,_,rfl,rfl,⟨_,_,rfl,rfl,⟨_,_,rfl,rfl,⟨_,_,rfl,rfl,⟨_,_,rfl,rfl,⟨_,_,rfl,rfl,⟨_,_,rfl,rfl,⟨_,_,rfl,rfl,rfl⟩⟩⟩⟩⟩⟩⟩⟩⟩:=dk
  refine⟨.tup [.agg (Eb cJ),.c (.bool cJ.2)],rfl,fun hn (fx:Kn _ [(eQ,0),(aG,0),(bV,0),(bS,0),(f,0),(g,0)] ((26,.tup [.agg (Eb cJ),.c (.bool cJ.2)])::(tA 25 (FO s_))::(24,.one (.c (.map (some aM))))::EN) _)=>hK _ _ ?_⟩
  refine Rk 3 3 ((tB 28 cJ.2)::(tA 27 (Eb cJ))::EN) fx be fun iq fy=>?_
  refine wl fun K hK=>?_
  refine wa GA fy be fun l ho jo (fz:Kn _ [(eQ,0),(aG,0),(bV,0),(bS,0),(f,0),(g,0),(l,0)] ((tP 7 6 0)::(tB 28 cJ.2)::(tA 27 (Eb cJ))::EN) _) gl=>hK _ _ ?_
  refine wl fun K hK=>?_
  refine DT 6 0 (.agg (Eb cJ)) (Eb cJ) fz gl fun jp f0 bk=>hK _ _ ?_
  refine Rk 8 1 ((tB 8 cJ.2)::(tP 7 6 0)::EN) f0 bk fun ir f1=>?_
  refine wf (XT (Aa (Rk 0 1 ((tB 29 cJ.2)::(tP 7 6 0)::EN) f1 bk fun iu cn=>?_)))
  refine wf (wC (cJ.2) cn (fun cg=>?_) (fun cg=>?_))
  ·
   rw [Ba cg] at H
   refine XT (Aa (Rk 0 1 [tA 30 (Eb cJ),tP 6 5 0] cn bk fun hp f2=>?_))
   refine wl fun K hK=>?_
   refine DT 5 0 (.agg (Eb cJ)) (Eb cJ) f2 bk fun jq f3 dg=>hK _ _ ?_
   have f4:Kn _ _ [tP 6 5 0] _:=f3.kp
   refine wf (wp_ret ?_)
   obtain rfl:=XZ H
   exact Hw (.one (.agg (Eb cJ))) f4 dg (by kernel_rfl) ⟨h,cW,cX,Ac.le_refl _,⟨_,rfl,((Ab Ad (Ab Ad (Ab Ad (Ab Ad (Ab Ad (Ab Ad (Ab Ad (Ab Ad Ad)))))))):rep h (cJ.1:AX) _)⟩,hE_known,(dg.cutRw 0).cutPl 0 (by kernel_rfl)⟩
  rw [Bb cg] at H
  refine wp_skip (XT (Aa (Rk 0 4 ((tI 34 s_.behind)::(tS 32 ai c.lG.length ak)::EN) cn bk fun iv f5=>?_)))
  obtain⟨dC,kC,H⟩:=Ao H
  obtain⟨gp,gu,g4⟩:=Aj kC
  obtain⟨m,p,hz,d5,g0,d8⟩:=ax.get (by decide) g4
  obtain rfl:=g0
  have dh:=bk.addPlc (b:=m) (o:=p+(s_.behind:Int).toNat*1) (cs:=[XR dC]) (fun j c hj=>d8 j _ (Ak hj)) rfl (by kernel_rfl) (by kernel_rfl)
  refine A9 4 (s_.behind) rfl rfl (rfl) rfl (by decide) f5 (by rfl) (by rfl) (by rfl) d5 (by rfl) gp gu (by kernel_rfl) fun hq (f6:Kn _ [(eQ,0),(aG,0),(bV,0),(bS,0),(f,0),(g,0),(l,0),(m,p+(s_.behind:Int).toNat*1)] ((tP 35 7 0)::(tI 34 s_.behind)::(tS 32 ai c.lG.length ak)::EN) _)=>?_
  refine Rk 5 2 ((tI 9 dC)::EN) f6 dh fun iw f7=>?_
  refine wf (XT (Aa (wl fun K hK=>?_)))
  refine wa GA f7 dh fun q hr jr (f8:Kn _ (NG eQ aG bV bS f g l m p s_ q) ((tP 10 8 0)::(tI 9 dC)::EN) _) di=>hK _ _ ?_
  refine wf (XT (XT (Aa ?_)))
  obtain⟨cK,iB,H⟩:=Ao H
  refine wl fun K hK=>?_
  refine wc [] f8 di (Rq n di.has  iB) fun i2 c1 js d0 ba dj=>?_
  replace iF:=iF.mono ba
  replace cM:=cM.mono ba
  replace ay:=ay.mono ba
  replace eL:=eL.mono ba
  replace eN:=eN.mono ba
  replace hE_known:=hE_known.mono ba
  obtain⟨a,d,rfl,bb⟩:=d0
  refine⟨.one (.c (Yb a cK.length d)),rfl,fun hs (f9:Kn _ (NG eQ aG bV bS f g l m p s_ q) ((tS 37 a cK.length d)::(tP 10 8 0)::(tI 9 dC)::EN) _)=>hK _ _ ?_⟩
  refine Rk 1 2 ((tI 39 0)::(tI 38 ((cK.length:Nat):Int))::(tS 37 a cK.length d)::(tP 10 8 0)::(tI 9 dC)::EN) f9 dj fun ix ga=>?_
  refine wf ?_
  obtain⟨ad,cx,H⟩:=Ao H
  refine Ar (fun a' w'=>∃ (b9:Array MapEntry)(b8:Nat)(cv:Array Value)(bc:Ac),a' = ⟨cv,[]⟩∧Kn 99 (NG eQ aG bV bS f g l m p s_ q) [tP 10 8 0,tP 6 5 0,tP 5 4 0,tP 2 1 0] cv∧Ai (Fr.put F aM (some (.map b9 b8))) bc (NG eQ aG bV bS f g l m p s_ q) [⟨NE ai c ak,none⟩,⟨[.map (some aM)],none⟩,⟨Mh ao y ap aj al,none⟩,⟨NH eQ aG bV bS,none⟩,⟨FO s_,some 126⟩,⟨GA,some 93⟩,⟨Eb cJ,some 93⟩,⟨[XR dC],none⟩,⟨I7 ad,some 93⟩] [] w'∧Ac.le c1 bc∧Cy bc b9.toList b8 ad.2.2) ?_ ?_
  ·
   refine wp_block ?_
   refine Av (fun dl a' w'=>∃ (aB:Int)(aA:A0)(aC:Int)(cA:List (B7×AX))(bh:Array MapEntry)(bf:Nat)(cq:Array Value)(br:Ac),a' = ⟨cq,[]⟩∧Kn 99 (NG eQ aG bV bS f g l m p s_ q) (CL aB cK a d dC) cq∧Ai (Fr.put F aM (some (.map bh bf))) br (NG eQ aG bV bS f g l m p s_ q) [⟨NE ai c ak,none⟩,⟨[.map (some aM)],none⟩,⟨Mh ao y ap aj al,none⟩,⟨NH eQ aG bV bS,none⟩,⟨FO s_,some 126⟩,⟨GA,some 93⟩,⟨Eb cJ,some 93⟩,⟨[XR dC],none⟩,⟨MU aC aA,some 93⟩] [] w'∧Ac.le c1 br∧Cy br bh.toList bf cA∧dl≤n∧AN dl s_ c y dC cK aB aA aC cA=some ad) n ?_ ?_
   ·
    exact XY 0 ⟨A0.mk 0 0 0 0 0 0 0 0,0,known,cW,cX,_,_,rfl,ga.kp,dj,Ac.le_refl _,hE_known,Ys _,cx⟩
   rintro bl _ i3 ⟨aB,aA,aC,cA,bh,bf,cq,br,rfl,d9,b1,aw,bj,h1,ac⟩
   clear cx
   obtain _ | bl:=bl
   ·
    rw [AN] at ac; cases ac
   rw [AN] at ac
   replace iF:=iF.mono aw
   replace cM:=cM.mono aw
   replace ay:=ay.mono aw
   replace eL:=eL.mono aw
   replace eN:=eN.mono aw
   replace bb:=bb.mono aw
   refine XT (Aa (Rk 0 1 ((tB 40 (decide (aB<((cK.length:Nat):Int))))::(CL aB cK a d dC)) d9 b1 fun h4 ci=>?_))
   refine wf (XT (wC (decide (aB<((cK.length:Nat):Int))) ci (fun cb=>?_) (fun cb=>?_)))
   ·
    rw [cb,XW] at ac
    refine wp_skip (XT (wp_block (XT (Aa (Rk 0 1 ((tI 41 aB)::(CL aB cK a d dC)) ci b1 fun h5 ea=>?_)))))
    obtain⟨dI,iC,ac⟩:=Ao ac
    obtain⟨gm,gq,g1⟩:=Aj iC
    obtain⟨s,u,hx,d3,gy,d6⟩:=bb.get (by decide) g1
    obtain⟨ah,af,ag,rfl,bd⟩:=gy
    have c5:=b1.addPlc (b:=s) (o:=u+Yc aB*1) (cs:=[.func ah af ag]) (fun j c hj=>d6 j _ (Ak hj)) rfl (by kernel_rfl) (by kernel_rfl)
    refine A9 1 (aB) rfl rfl (rfl) rfl (by decide) ea (by rfl) (by rfl) (by rfl) d3 (by rfl) gm gq (by kernel_rfl) fun g6 (ec:Kn _ [(eQ,0),(aG,0),(bV,0),(bS,0),(f,0),(g,0),(l,0),(m,p+(s_.behind:Int).toNat*1),(q,0),(s,u+Yc aB*1)] ((tP 42 9 0)::(tI 41 aB)::(CL aB cK a d dC)) _)=>?_
    refine Rk 2 1 ((tA 43 [.func ah af ag])::(tI 41 aB)::(CL aB cK a d dC)) ec c5 fun h6 ed=>?_
    refine wl fun K hK=>?_
    refine wa [.nilfunc] ed c5 fun z g7 i5 (ee:Kn _ [(eQ,0),(aG,0),(bV,0),(bS,0),(f,0),(g,0),(l,0),(m,p+(s_.behind:Int).toNat*1),(q,0),(s,u+Yc aB*1),(z,0)] ((tP 12 10 0)::(tA 43 [.func ah af ag])::(tI 41 aB)::(CL aB cK a d dC)) _) c6=>hK _ _ ?_
    refine Rk 4 1 ((tI 11 aB)::(tP 12 10 0)::(tA 43 [.func ah af ag])::(CL aB cK a d dC)) ee c6 fun g8 ef=>?_
    refine wl fun K hK=>?_
    refine DT 10 0 (.agg [.func ah af ag]) [.func ah af ag] ef c6 fun i6 eg bt=>hK _ _ ?_
    have eh:Kn _ _ ((tI 11 aB)::(tP 12 10 0)::(CL aB cK a d dC)) _:=eg.kp
    refine wf (XT (Au (by kernel_rfl) ?_))
    replace bt:=bt.drew
    refine Ax [] [(eQ,0),(aG,0),(bV,0),(bS,0),(f,0),(g,0),(l,0),(m,p+(s_.behind:Int).toNat*1),(q,0),(s,u+Yc aB*1),(z,0)] [⟨NE ai c ak,none⟩,⟨[.map (some aM)],none⟩,⟨Mh ao y ap aj al,none⟩,⟨NH eQ aG bV bS,none⟩,⟨FO s_,some 126⟩,⟨GA,some 93⟩,⟨Eb cJ,some 93⟩,⟨[XR dC],none⟩,⟨MU aC aA,some 93⟩,⟨[.func ah af ag],none⟩,⟨[.func ah af ag],some 132⟩] ?_
    refine Dr [0,1,2,3,4] (dn 4) ((tI 48 dC)::(tS 47 aj y.lG.length al)::(45,.one (.c (.func ah af ag)))::(tI 11 aB)::(CL aB cK a d dC)) eh bt fun h7 ei=>?_
    obtain⟨dY,jX,ac⟩:=Ao ac
    obtain⟨gn,gr,g2⟩:=Aj jX
    obtain⟨aa,ab,hy,d4,gz,d7⟩:=ay.get (by decide) g2
    obtain⟨_,_,rfl,rfl,⟨_,_,rfl,rfl,rfl⟩⟩:=gz
    have cp:=bt.addPlc (b:=aa) (o:=ab+Yc dC*3) (cs:=(Qs dY)) (fun j c hj=>d7 j _ (Ak hj)) rfl (by kernel_rfl) (by kernel_rfl)
    refine A5 5 (dC) (Qs dY) (fun _ _ _ _ _ h=>h) rfl rfl (rfl) rfl (by decide) (by kernel_rfl) (by kernel_rfl) ei bt.plOk (by rfl) (by rfl) (by rfl) d4 (by rfl) gn gr (by kernel_rfl) fun g9 (ej:Kn _ [(eQ,0),(aG,0),(bV,0),(bS,0),(f,0),(g,0),(l,0),(m,p+(s_.behind:Int).toNat*1),(q,0),(s,u+Yc aB*1),(z,0),(aa,ab+Yc dC*3)] ((tP 49 11 0)::(tI 48 dC)::(tS 47 aj y.lG.length al)::(45,.one (.c (.func ah af ag)))::(tI 11 aB)::(CL aB cK a d dC)) _)=>?_
    refine Dr [6] (dn 6) ((tA 50 (Qs dY))::(45,.one (.c (.func ah af ag)))::(tI 11 aB)::(CL aB cK a d dC)) ej cp fun h8 ek=>?_
    obtain⟨cG,hG,ac⟩:=Ao ac
    refine Dl 7 fun K hK=>?_
    refine D2 (.func ah af ag) [.agg (Qs dY)] _ ek cp rfl rfl (by decide) (by rfl) (by rfl) rfl (bd _ _ (Ac.le_refl _) cp.has dY _ ((Ab Ad (Ab Ad Ad)):rep br dY _) _ hG) fun iy bx i7 dy aq b2=>?_
    replace iF:=iF.mono aq
    replace cM:=cM.mono aq
    replace eL:=eL.mono aq
    replace eN:=eN.mono aq
    replace bj:=bj.mono aq
    obtain rfl:=dy
    refine⟨.one (.c (XR cG)),rfl,fun ha (el:Kn _ [(eQ,0),(aG,0),(bV,0),(bS,0),(f,0),(g,0),(l,0),(m,p+(s_.behind:Int).toNat*1),(q,0),(s,u+Yc aB*1),(z,0),(aa,ab+Yc dC*3)] ((tI 51 cG)::(tA 50 (Qs dY))::(45,.one (.c (.func ah af ag)))::(tI 11 aB)::(CL aB cK a d dC)) _)=>hK _ _ b2.plOk ?_⟩
    refine Dr [8] (dn 8) (EO cG aB cK a d dC) el b2 fun h9 em=>?_
    refine AL (by kernel_rfl) (XT (Aa (Rk 0 6 ((tA 57 (S9 s_))::(EO cG aB cK a d dC)) em b2 fun ia en=>?_)))
    refine wl fun K hK=>?_
    refine wa [XR 0,XR 0] en b2 fun ae dq i9 (eo:Kn _ (KU eQ aG bV bS f g l m p s_ q s u aB z aa ab dC ae) ((tP 14 12 0)::(tA 57 (S9 s_))::(EO cG aB cK a d dC)) _) gg=>hK _ _ ?_
    refine wl fun K hK=>?_
    refine DT 12 0 (.agg (S9 s_)) (S9 s_) eo gg fun ja ep b3=>hK _ _ ?_
    have es:Kn _ _ ((tP 14 12 0)::(EO cG aB cK a d dC)) _:=ep.kp
    refine wf (XT (XT (Aa (Rk 0 5 ((tB 62 (decide (s_.behind<c.down)))::(tP 14 12 0)::(EO cG aB cK a d dC)) es b3 fun ib cj=>?_))))
    refine wf ?_
    obtain⟨an,bg,ac⟩:=Ao ac
    refine Ar (fun a' w'=>∃ (cr:Array Value)(bz:Ac),a' = ⟨cr,[]⟩∧Kn 99 (KU eQ aG bV bS f g l m p s_ q s u aB z aa ab dC ae) ((tP 14 12 0)::(EO cG aB cK a d dC)) cr∧Ai (Fr.put F aM (some (.map bh bf))) bz (KU eQ aG bV bS f g l m p s_ q s u aB z aa ab dC ae) [⟨NE ai c ak,none⟩,⟨[.map (some aM)],none⟩,⟨Mh ao y ap aj al,none⟩,⟨NH eQ aG bV bS,none⟩,⟨FO s_,some 126⟩,⟨GA,some 93⟩,⟨Eb cJ,some 93⟩,⟨[XR dC],none⟩,⟨MU aC aA,some 93⟩,⟨[.func ah af ag],none⟩,⟨[.func ah af ag],some 132⟩,⟨Qs dY,none⟩,⟨S8 s_ an,some 126⟩] [] w'∧Ac.le bx bz) ?_ ?_
    ·
     refine wC (decide (s_.behind<c.down)) cj (fun cc=>?_) (fun cc=>?_)
     ·
      rw [cc,XW] at bg
      refine Aa (Rk 0 3 ((tI 65 cG)::(tI 64 s_.last)::(tP 14 12 0)::(EO cG aB cK a d dC)) cj b3 fun ic et=>?_)
      refine wl fun K hK=>?_
      refine wS 3 1 [XR s_.last,XR cG] et b3 fun bm hb ht (eu:Kn _ (KU eQ aG bV bS f g l m p s_ q s u aB z aa ab dC ae) ((tS 66 bm 2 2)::(tI 65 cG)::(tI 64 s_.last)::(tP 14 12 0)::(EO cG aB cK a d dC)) _) c7=>?_
      have ch:Ae bx ([s_.last,cG]:List Int) ([.int .i64 s_.last,.int .i64 cG]:Ye):=⟨_,_,rfl,(Ad:rep bx (s_.last:Int) _),⟨_,_,rfl,(Ad:rep bx (cG:Int) _),rfl⟩⟩
      refine hK _ _ ?_
      obtain⟨cz,c4,gx,b4⟩:=c7.settle (i:=0) rfl
      replace ch:=ch.mono c4
      replace b4:Ai _ _ (KU eQ aG bV bS f g l m p s_ q s u aB z aa ab dC ae) [⟨NE ai c ak,none⟩,⟨[.map (some aM)],none⟩,⟨Mh ao y ap aj al,none⟩,⟨NH eQ aG bV bS,none⟩,⟨FO s_,some 126⟩,⟨GA,some 93⟩,⟨Eb cJ,some 93⟩,⟨[XR dC],none⟩,⟨MU aC aA,some 93⟩,⟨[.func ah af ag],none⟩,⟨[.func ah af ag],some 132⟩,⟨Qs dY,none⟩,⟨S9 s_,some 126⟩] [⟨bm,2,2,3,1,([.int .i64 s_.last,.int .i64 cG]:Ye),_⟩] _:=b4
      have gv:At cz bm 2 ([s_.last,cG]:List Int):=⟨_,ch,gx,c7.rowCap (i:=0) rfl⟩
      obtain⟨iT,kZ,bg⟩:=Ao bg
      refine wl fun K hK=>?_
      refine wc [.c (Yb bm 2 2)] eu b4 (Hc bl b4.has ([s_.last,cG]:List Int) gv kZ) fun iz h0 jb dz gc c8=>?_
      obtain rfl:=dz
      refine⟨.one (.c (XR iT)),rfl,fun hc (ew:Kn _ (KU eQ aG bV bS f g l m p s_ q s u aB z aa ab dC ae) ((tI 67 iT)::(tS 66 bm 2 2)::(tI 65 cG)::(tI 64 s_.last)::(tP 14 12 0)::(EO cG aB cK a d dC)) _)=>hK _ _ ?_⟩
      refine Rk 5 1 ((tP 68 12 1)::(tI 67 iT)::(tP 14 12 0)::(EO cG aB cK a d dC)) ew c8 fun hd ex=>?_
      refine wl fun K hK=>?_
      refine DT 12 1 (.c (XR iT)) [XR (IntKind.i64.wrap (s_.behind+1)),XR iT] ex c8 fun jc ey gh=>hK _ _ ?_
      have ez:Kn _ _ ((tP 14 12 0)::(EO cG aB cK a d dC)) _:=ey.kp
      refine wf ?_
      obtain rfl:=XZ bg
      exact XY _ ⟨_,rfl,ez.kp,gh.cutRw 0,XU c4 gc⟩
     rw [cc,XV] at bg
     refine wp_skip ?_
     obtain rfl:=XZ bg
     exact XY _ ⟨_,rfl,cj.kp,b3,Ac.le_refl _⟩
    rintro _ jd ⟨cr,bz,rfl,e0,c9,ar⟩
    replace iF:=iF.mono ar
    replace cM:=cM.mono ar
    replace eL:=eL.mono ar
    replace eN:=eN.mono ar
    replace bj:=bj.mono ar
    refine XT (Aa (Rk 0 2 (T3 s_ an eQ aG bV bS cG aB cK a d dC) e0 c9 fun ig e1=>?_))
    obtain⟨fJ,ex71,ac⟩:=Ao ac
    obtain⟨hw,d2,gb,gw⟩:=c9.lend1 aM (Fr.put_X _ _ _) [] [] (by kernel_rfl) (by kernel_rfl) (by kernel_rfl) (by kernel_rfl)
    refine wl fun K hK=>?_
    refine ED (.func (.func 59) #[] #[.pointer (some ⟨eQ,0,none⟩),.pointer (some ⟨aG,0,none⟩),.pointer (some ⟨bV,0,none⟩),.pointer (some ⟨bS,0,none⟩)]) [.agg (S8 s_ an)] _ e1 rfl rfl (by decide) (by rfl) (by rfl) rfl ⟨59,_,_,rfl,fun _ _=>by kernel_rfl,ih bl (by omega) _ _ _ _ _ _ _ (B7.mk (IntKind.i64.wrap (s_.behind+1)) an) _ ((Ab Ad Ad):rep bz (B7.mk (IntKind.i64.wrap (s_.behind+1)) an) _) c iF cA _ _ _ cM (d2 _ _ (Fr.put_X _ _ _)) bj y eL eN gb _ ex71⟩ fun i0 hu d1=>?_
    obtain⟨c0,bq,bo,au,⟨_,rfl,⟨_,_,rfl,rfl,⟨_,_,rfl,rfl,⟨_,_,rfl,rfl,⟨_,_,rfl,rfl,⟨_,_,rfl,rfl,⟨_,_,rfl,rfl,⟨_,_,rfl,rfl,⟨_,_,rfl,rfl,rfl⟩⟩⟩⟩⟩⟩⟩⟩⟩,bi,gi⟩:=d1
    have b5:=gw _ _ _ _ [] au rfl (Ys _) (by kernel_rfl) gi
    rw [Fr.put_put] at b5
    replace b5:Ai _ _ [(eQ,0),(aG,0),(bV,0),(bS,0),(f,0),(g,0),(l,0),(m,p+(s_.behind:Int).toNat*1),(q,0),(s,u+Yc aB*1),(z,0),(aa,ab+Yc dC*3),(ae,0)] [⟨[Yb ai c.lG.length ak,XR c.down],none⟩,⟨[.map (some aM)],none⟩,⟨[Yb ao y.room.length ap,Yb aj y.lG.length al,XR y.broken],none⟩,⟨[.func (.func 59) #[] #[.pointer (some ⟨eQ,0,none⟩),.pointer (some ⟨aG,0,none⟩),.pointer (some ⟨bV,0,none⟩),.pointer (some ⟨bS,0,none⟩)]],none⟩,⟨[XR s_.behind,XR s_.last],some 126⟩,⟨[XR 0,XR 0,XR 0,XR 0,XR 0,XR 0,XR 0,XR 0,XR 0],some 93⟩,⟨[XR cJ.1.many,XR cJ.1.tm.a0,XR cJ.1.tm.a1,XR cJ.1.tm.a2,XR cJ.1.tm.a3,XR cJ.1.tm.a4,XR cJ.1.tm.a5,XR cJ.1.tm.a6,XR cJ.1.tm.a7],some 93⟩,⟨[XR dC],none⟩,⟨[XR aC,XR aA.a0,XR aA.a1,XR aA.a2,XR aA.a3,XR aA.a4,XR aA.a5,XR aA.a6,XR aA.a7],some 93⟩,⟨[.func ah af ag],none⟩,⟨[.func ah af ag],some 132⟩,⟨[XR dY.lo,XR dY.hi,XR dY.turn],none⟩,⟨[XR (IntKind.i64.wrap (s_.behind+1)),XR an],some 126⟩] [] _:=b5
    refine⟨.one (.agg (Ps fJ)),rfl,fun he (e2:Kn _ (KU eQ aG bV bS f g l m p s_ q s u aB z aa ab dC ae) ((tA 71 (Ps fJ))::(T3 s_ an eQ aG bV bS cG aB cK a d dC)) _)=>hK _ _ ?_⟩
    refine wl fun K hK=>?_
    refine wa GA e2 b5 fun am dr je (e3:Kn _ (MV eQ aG bV bS f g l m p s_ q s u aB z aa ab dC ae am) ((tP 15 13 0)::(tA 71 (Ps fJ))::(T3 s_ an eQ aG bV bS cG aB cK a d dC)) _) gj=>hK _ _ ?_
    refine wl fun K hK=>?_
    refine DT 13 0 (.agg (Ps fJ)) (Ps fJ) e3 gj fun jf e4 b6=>hK _ _ ?_
    have e5:Kn _ _ ((tP 15 13 0)::(EO cG aB cK a d dC)) _:=e4.kp
    refine wf (XT (XT (Aa (Rk 0 4 ((tB 75 (decide (cG≤s_.last)))::(tP 15 13 0)::(EO cG aB cK a d dC)) e5 b6 fun ii cl=>?_))))
    refine wf ?_
    obtain⟨az,bv,ac⟩:=Ao ac
    refine Ar (fun a' w'=>∃ (ct:Array Value)(b0:Ac),a' = ⟨ct,[]⟩∧Kn 99 (MV eQ aG bV bS f g l m p s_ q s u aB z aa ab dC ae am) ((tP 15 13 0)::(EO cG aB cK a d dC)) ct∧Ai (Fr.put F aM (some (.map bq bo))) b0 (MV eQ aG bV bS f g l m p s_ q s u aB z aa ab dC ae am) [⟨NE ai c ak,none⟩,⟨[.map (some aM)],none⟩,⟨Mh ao y ap aj al,none⟩,⟨NH eQ aG bV bS,none⟩,⟨FO s_,some 126⟩,⟨GA,some 93⟩,⟨Eb cJ,some 93⟩,⟨[XR dC],none⟩,⟨MU aC aA,some 93⟩,⟨[.func ah af ag],none⟩,⟨[.func ah af ag],some 132⟩,⟨Qs dY,none⟩,⟨S8 s_ an,some 126⟩,⟨Pr az fJ,some 93⟩] [] w'∧Ac.le c0 b0) ?_ ?_
    ·
     refine wC (decide (cG≤s_.last)) cl (fun ce=>?_) (fun ce=>?_)
     ·
      rw [ce,XW] at bv
      refine Aa (Rk 0 4 ((tP 79 13 0)::(tI 78 (IntKind.i64.wrap (fJ.1.many+1)))::(tP 15 13 0)::(EO cG aB cK a d dC)) cl b6 fun hg e7=>?_)
      refine wl fun K hK=>?_
      refine DT 13 0 (.c (XR (IntKind.i64.wrap (fJ.1.many+1)))) [XR (IntKind.i64.wrap (fJ.1.many+1)),XR fJ.1.tm.a0,XR fJ.1.tm.a1,XR fJ.1.tm.a2,XR fJ.1.tm.a3,XR fJ.1.tm.a4,XR fJ.1.tm.a5,XR fJ.1.tm.a6,XR fJ.1.tm.a7] e7 b6 fun jg e8 gk=>hK _ _ ?_
      have e9:Kn _ _ ((tP 15 13 0)::(EO cG aB cK a d dC)) _:=e8.kp
      refine wf ?_
      obtain rfl:=XZ bv
      exact XY _ ⟨_,rfl,e9.kp,gk,Ac.le_refl _⟩
     rw [ce,XV] at bv
     refine wp_skip ?_
     obtain rfl:=XZ bv
     exact XY _ ⟨_,rfl,cl.kp,b6,Ac.le_refl _⟩
    rintro _ jh ⟨ct,b0,rfl,fa,bu,av⟩
    replace bi:=bi.mono av
    refine XT ?_
    obtain⟨dm,bw,ac⟩:=Ao ac
    refine Ar (fun a' w'=>∃ (cu:Array Value)(ca:Ac),a' = ⟨cu,[]⟩∧Kn 99 (MV eQ aG bV bS f g l m p s_ q s u aB z aa ab dC ae am) [tP 15 13 0,tI 13 cG,tI 39 aB,tI 38 ((cK.length:Nat):Int),tS 37 a cK.length d,tP 10 8 0,tI 9 dC,tP 6 5 0,tP 5 4 0,tP 1 0 0,tP 2 1 0,tP 3 2 0,tP 4 3 0,tB 88 dm] cu∧Ai (Fr.put F aM (some (.map bq bo))) ca (MV eQ aG bV bS f g l m p s_ q s u aB z aa ab dC ae am) [⟨NE ai c ak,none⟩,⟨[.map (some aM)],none⟩,⟨Mh ao y ap aj al,none⟩,⟨NH eQ aG bV bS,none⟩,⟨FO s_,some 126⟩,⟨GA,some 93⟩,⟨Eb cJ,some 93⟩,⟨[XR dC],none⟩,⟨MU aC aA,some 93⟩,⟨[.func ah af ag],none⟩,⟨[.func ah af ag],some 132⟩,⟨Qs dY,none⟩,⟨S8 s_ an,some 126⟩,⟨Pr az fJ,some 93⟩] [] w'∧Ac.le b0 ca) ?_ ?_
    ·
     refine Aa (Rk 0 3 ((tB 82 (aB == 0))::(tP 15 13 0)::(tI 13 cG)::(CL aB cK a d dC)) fa bu fun ds c2=>?_)
     rcases Y2 ((aB == 0)) with bs | bs
     ·
      rw [bs,XW] at bw
      have fb:Kn _ _ ((tB 82 true)::(tP 15 13 0)::(tI 13 cG)::(CL aB cK a d dC)) _:=(c2.setB 82 true (by rfl) bs).kp
      refine Rk 3 6 ((tB 88 true)::(tP 15 13 0)::(tI 13 cG)::(CL aB cK a d dC)) fb bu fun ij fd=>?_
      refine wf ?_
      obtain rfl:=XZ bw
      exact XY _ ⟨_,rfl,fd.kp,bu,Ac.le_refl _⟩
     rw [bs,XV] at bw
     have fe:Kn _ _ ((tB 82 false)::(tP 15 13 0)::(tI 13 cG)::(CL aB cK a d dC)) _:=(c2.setB 82 false (by rfl) bs).kp
     refine Rk 3 6 ((tB 88 (decide (az>aC)))::(tP 15 13 0)::(tI 13 cG)::(CL aB cK a d dC)) fe bu fun ik ff=>?_
     refine wf ?_
     obtain rfl:=XZ bw
     exact XY _ ⟨_,rfl,ff.kp,bu,Ac.le_refl _⟩
    rintro _ jj ⟨cu,ca,rfl,cm,b7,co⟩
    replace bi:=bi.mono co
    refine wC (dm) cm (fun cf=>?_) (fun cf=>?_)
    ·
     rw [Ba cf] at ac
     refine XT (Aa (Rk 0 1 ((tA 89 (Pr az fJ))::(tI 13 cG)::(CL aB cK a d dC)) cm b7 fun hh fg=>?_))
     refine wl fun K hK=>?_
     refine DT 8 0 (.agg (Pr az fJ)) (Pr az fJ) fg b7 fun jk fh db=>hK _ _ ?_
     have fi:Kn _ _ ((tI 13 cG)::(CL aB cK a d dC)) _:=fh.kp
     refine wf (Aa (Rk 0 3 ((tP 92 8 1)::(tI 91 cG)::(tI 90 dC)::(CL aB cK a d dC)) fi db fun il c3=>?_))
     obtain⟨x93,ex93,ac⟩:=Ao ac
     obtain⟨go,gs⟩:=BI ex93
     refine Eg 3 (.one (.c (.ptr 8 (1+Yc dC*1)))) rfl (rfl) rfl (AZ (E:=3) c3 rfl (by kernel_rfl) (by kernel_rfl) (by rfl) (by rfl) go gs) (c3.put (by decide) _) fun dt (fk:Kn _ (MV eQ aG bV bS f g l m p s_ q s u aB z aa ab dC ae am) ((tP 93 8 (1+Yc dC*1))::(tP 92 8 1)::(tI 91 cG)::(tI 90 dC)::(CL aB cK a d dC)) _)=>?_
     obtain⟨a9,dv,ac⟩:=Ao ac
     obtain⟨h2,h3,g3⟩:=A0.setI_some dv
     refine wl fun K hK=>?_
     refine DS 8 (1+(dC:Int).toNat*1) (.c (XR cG)) [XR az,XR a9.a0,XR a9.a1,XR a9.a2,XR a9.a3,XR a9.a4,XR a9.a5,XR a9.a6,XR a9.a7] fk db rfl rfl (by rfl) (by rfl) (by rfl) (by kernel_rfl) (by refine decide_eq_true ?_; show(1+(dC:Int).toNat*1)+1≤9; omega) (F7 (fun(y:Int)=>([XR y]:List SC)) 1 (fun _=>rfl) [XR az] [] fJ.1.tm.toL a9.toL (dC:Int).toNat cG g3 (show(dC:Int).toNat<8 by omega) rfl rfl rfl) fun jl fl dc=>hK _ _ ?_
     have fm:Kn _ _ (CL aB cK a d dC) _:=fl.kp
     refine wf (Aa (Rk 0 2 ((tI 39 (IntKind.i64.wrap (aB+1)))::(tI 38 ((cK.length:Nat):Int))::(tS 37 a cK.length d)::(tP 10 8 0)::(tI 9 dC)::EN) fm dc fun io fn=>?_))
     refine wf ?_
     exact XY bl ⟨Y4 _,XY (IntKind.i64.wrap (aB+1)) ⟨a9,az,fJ.2,bq,bo,_,_,rfl,(fn.keep [39,38,37,10,9,6,5,1,2,3,4] (by rfl)).cut 9 (by kernel_rfl),dc.cutPl 9 (by kernel_rfl),XU aw (XU aq (XU ar (XU au (XU av co)))),bi,(by omega),ac⟩⟩
    rw [Bb cf] at ac
    refine wp_skip (Aa (Rk 0 2 ((tI 39 (IntKind.i64.wrap (aB+1)))::(tI 38 ((cK.length:Nat):Int))::(tS 37 a cK.length d)::(tP 10 8 0)::(tI 9 dC)::EN) cm b7 fun ip fo=>?_))
    refine wf ?_
    exact XY bl ⟨Y4 _,XY (IntKind.i64.wrap (aB+1)) ⟨aA,aC,fJ.2,bq,bo,_,_,rfl,(fo.keep [39,38,37,10,9,6,5,1,2,3,4] (by rfl)).cut 9 (by kernel_rfl),b7.cutPl 9 (by kernel_rfl),XU aw (XU aq (XU ar (XU au (XU av co)))),bi,(by omega),ac⟩⟩
   rw [cb,XV] at ac
   refine wp_exit ?_
   obtain rfl:=XZ ac
   exact XY bh ⟨bf,_,_,rfl,ci.kp,b1,aw,bj⟩
  rintro _ jm ⟨b9,b8,cv,bc,rfl,fp,dd,gd,dx⟩
  refine XT (Aa (Rk 0 3 [tA 97 (I7 ad),tA 96 (FO s_),(95,.one (.c (.map (some aM)))),tP 10 8 0,tP 6 5 0] fp dd fun du fq=>?_))
  refine wl fun K hK=>?_
  refine KN (KT:=126) (E:=93) (k:=(s_:B7)) (x:=((AX.mk ad.2.1 ad.1):AX)) (.agg (FO s_)) (.agg (I7 ad)) fq dd rfl rfl (by rfl) (by rfl) (by rfl) (by kernel_rfl) B7.KL dx rfl ⟨_,rfl,((Ab Ad (Ab Ad (Ab Ad (Ab Ad (Ab Ad (Ab Ad (Ab Ad (Ab Ad Ad)))))))):rep bc ((AX.mk ad.2.1 ad.1):AX) _)⟩ fun cy cw hv dw (fs:Kn _ (NG eQ aG bV bS f g l m p s_ q) [tA 97 (I7 ad),tA 96 (FO s_),(95,.one (.c (.map (some aM)))),tP 10 8 0,tP 6 5 0] _) (de:Ai _ _ (NG eQ aG bV bS f g l m p s_ q) [⟨NE ai c ak,none⟩,⟨[.map (some aM)],none⟩,⟨Mh ao y ap aj al,none⟩,⟨NH eQ aG bV bS,none⟩,⟨FO s_,some 126⟩,⟨GA,some 93⟩,⟨Eb cJ,some 93⟩,⟨[XR dC],none⟩,⟨I7 ad,some 93⟩] [] _)=>hK _ _ ?_
  have ft:Kn _ _ [tP 10 8 0,tP 6 5 0] _:=fs.kp
  refine wf (XT (Aa (Rk 0 1 [tA 98 (I7 ad),tP 6 5 0] ft de fun hl fu=>?_)))
  refine wl fun K hK=>?_
  refine DT 5 0 (.agg (I7 ad)) (I7 ad) fu de fun jn fv df=>hK _ _ ?_
  have fw:Kn _ _ [tP 6 5 0] _:=fv.kp
  refine wf (wp_ret ?_)
  obtain rfl:=XZ H
  exact Hw (.one (.agg (I7 ad))) fw df (by kernel_rfl) ⟨bc,cy,cw,XU ba gd,⟨_,rfl,((Ab Ad (Ab Ad (Ab Ad (Ab Ad (Ab Ad (Ab Ad (Ab Ad (Ab Ad Ad)))))))):rep bc ((AX.mk ad.2.1 ad.1):AX) _)⟩,dw,(df.cutRw 0).cutPl 0 (by kernel_rfl)⟩
theorem J9 (n:Nat) {F:Fr} {h:Ac} {w:World} {eQ aG bV bS:Nat} (s_:B7) {fQ:Ye} (hU:rep h s_ fQ) (c:A4) (iF:B9 h eQ c) (known:List (B7×AX)) {aM:Nat} {cW:Array MapEntry} {cX:Nat} (cM:As h aG [.map (some aM)]) (hX_known:F.X aM=some (.map cW cX)) (hE_known:Cy h cW.toList cX known) (y:Am) (eL:B9 h bV y) (eN:As h bS [.func (.func 59) #[] #[.pointer (some ⟨eQ,0,none⟩),.pointer (some ⟨aG,0,none⟩),.pointer (some ⟨bV,0,none⟩),.pointer (some ⟨bS,0,none⟩)]]) (hm:Ai F h [] [] [] w) {r:AX×(List (B7×AX))} (H:lane_Yard_worst_1 n s_ c known y=some r) :
  Calls Tryz.prog 59 #[.agg fQ.toArray,.pointer (some ⟨eQ,0,none⟩),.pointer (some ⟨aG,0,none⟩),.pointer (some ⟨bV,0,none⟩),.pointer (some ⟨bS,0,none⟩)] w (Jw fun v w'=>∃ (h':Ac)(bp:Array MapEntry)(bn:Nat),Ac.le h h'∧(∃ cs,v=.agg cs.toArray∧rep h' r.1 cs)∧Cy h' bp.toList bn r.2∧Ai (Fr.put F aM (some (.map bp bn))) h' [] [] [] w'):=IM n F h w eQ aG bV bS s_ fQ hU c iF known aM cW cX cM hX_known hE_known y eL eN hm r H
abbrev Mp (a b g d f):=([(a,0),(b,0),(g,0),(d,0),(f,0)]:AJ)
theorem KV (n:Nat) {h:Ac} {w:World} (hh:CK h w) (y:Am) {dQ:Ye} (eD:rep h y dQ) (c:A4) {cs_c:Ye} (hx_c:rep h c cs_c) {r:AX} (H:De n y c=some r) :
  Calls Tryz.prog 30 #[.agg dQ.toArray,.agg cs_c.toArray] w (CP (fun h v=>∃ cs,v=.agg cs.toArray∧rep h r cs) h w):=by
 obtain⟨_,_,rfl,⟨k,o,rfl,am⟩,⟨_,_,rfl,⟨l,p,rfl,an⟩,rfl⟩⟩:=eD
 obtain⟨_,_,rfl,⟨m,q,rfl,ao⟩,rfl⟩:=hx_c
 refine enter 12 [.agg (Mh k y o l p),.agg (NE m c q)] Tryz.func30 rfl rfl rfl rfl fun t hk=>?_
 have hm:=Ai.begin h w hh
 unfold De at H
 refine XT (Aa (wl fun K hK=>?_))
 refine wb (.agg (Mh k y o l p)) hk hm fun a b9 cn (bg:Kn _ [(a,0)] [tP 2 0 0,tA 0 (Mh k y o l p),tA 1 (NE m c q)] _) bz=>hK _ _ ?_
 refine wl fun K hK=>?_
 refine wb (.agg (NE m c q)) bg bz fun b ca co (bh:Kn _ [(a,0),(b,0)] [tP 3 1 0,tP 2 0 0,tA 0 (Mh k y o l p),tA 1 (NE m c q)] _) b0=>hK _ _ ?_
 refine wl fun K hK=>?_
 refine wa GA bh b0 fun g ax cd (bi:Kn _ [(a,0),(b,0),(g,0)] [tP 4 2 0,tP 3 1 0,tP 2 0 0,tA 0 (Mh k y o l p),tA 1 (NE m c q)] _) b1=>hK _ _ ?_
 have bj:Kn _ _ [tP 4 2 0,tP 3 1 0,tP 2 0 0] _:=bi.kp
 refine wf (XT (Aa (wl fun K hK=>?_)))
 refine KI bj b1 rfl rfl (by decide) fun j cb ci (bk:Kn _ [(a,0),(b,0),(g,0)] [(7,.one (.c (.map (some j)))),tP 4 2 0,tP 3 1 0,tP 2 0 0] _) (b2:Ai _ _ [(a,0),(b,0),(g,0)] [⟨Mh k y o l p,some 51⟩,⟨NE m c q,some 86⟩,⟨GA,some 93⟩] [] _)=>?_
 have ad:Cy h (#[]:Array MapEntry).toList 0 ([]:List (B7×AX)):=Cy.nil
 refine hK _ _ ?_
 refine wl fun K hK=>?_
 refine wa [.map none] bk b2 fun d ay cp (bl:Kn _ [(a,0),(b,0),(g,0),(d,0)] [tP 5 3 0,(7,.one (.c (.map (some j)))),tP 4 2 0,tP 3 1 0,tP 2 0 0] _) b3=>hK _ _ ?_
 refine wl fun K hK=>?_
 refine DT 3 0 (.c (.map (some j))) [.map (some j)] bl b3 fun cq bm b4=>hK _ _ ?_
 have bn:Kn _ _ [tP 5 3 0,tP 4 2 0,tP 3 1 0,tP 2 0 0] _:=bm.kp
 refine wf (XT (Aa (wl fun K hK=>?_)))
 refine wa [.nilfunc] bn b4 fun f cc ap (bo:Kn _ (Mp a b g d f) [tP 6 4 0,tP 5 3 0,tP 4 2 0,tP 3 1 0,tP 2 0 0] _) b5=>hK _ _ ?_
 refine wf (XT (Aa ?_))
 obtain⟨u,z,au,ai⟩:=b5.settlePlc (i:=1) rfl
 replace ao:=ao.mono z
 replace ai:Ai _ _ (Mp a b g d f) [⟨Mh k y o l p,some 51⟩,⟨NE m c q,none⟩,⟨GA,some 93⟩,⟨[.map (some j)],some 123⟩,⟨[.nilfunc],some 124⟩] [] _:=ai
 have af:B9 u b (c:A4):=B9.of (e:=(Mp a b g d f)) (cs:=(NE m c q)) ((Ab (Af ao) Ad):rep u (c:A4) _) rfl au
 have cj:As u b [.slice m c.lG.length q,.int .i64 c.down]:=As.of (e:=[(a,0),(b,0),(g,0),(d,0),(f,0)]) (cs:=[.slice m c.lG.length q,.int .i64 c.down]) rfl au
 obtain⟨aq,aa,be,aj⟩:=ai.settlePlc (i:=3) rfl
 replace aj:Ai _ _ (Mp a b g d f) [⟨Mh k y o l p,some 51⟩,⟨NE m c q,none⟩,⟨GA,some 93⟩,⟨[.map (some j)],none⟩,⟨[.nilfunc],some 124⟩] [] _:=aj
 have ah:As aq d [.map (some j)]:=As.of (e:=[(a,0),(b,0),(g,0),(d,0),(f,0)]) (cs:=[.map (some j)]) rfl be
 obtain⟨x,s,av,ak⟩:=aj.settlePlc (i:=0) rfl
 replace am:=am.mono (XU (XU z aa) s)
 replace an:=an.mono (XU (XU z aa) s)
 replace ak:Ai _ _ (Mp a b g d f) [⟨Mh k y o l p,none⟩,⟨NE m c q,none⟩,⟨GA,some 93⟩,⟨[.map (some j)],none⟩,⟨[.nilfunc],some 124⟩] [] _:=ak
 have ag:B9 x a (y:Am):=B9.of (e:=(Mp a b g d f)) (cs:=(Mh k y o l p)) ((Ab (Af am) (Ab (Af an) Ad)):rep x (y:Am) _) rfl av
 have ck:As x a [.slice k y.room.length o,.slice l y.lG.length p,.int .i64 y.broken]:=As.of (e:=[(a,0),(b,0),(g,0),(d,0),(f,0)]) (cs:=[.slice k y.room.length o,.slice l y.lG.length p,.int .i64 y.broken]) rfl av
 refine Ey 0 #[] #[.pointer (some ⟨b,0,none⟩),.pointer (some ⟨d,0,none⟩),.pointer (some ⟨a,0,none⟩),.pointer (some ⟨f,0,none⟩)] bo rfl rfl (rfl) rfl (by decide) (by rfl) (by rfl) (by rfl) (by rfl) fun az (bp:Kn _ (Mp a b g d f) [(8,.one (.c (.func (.func 59) #[] #[.pointer (some ⟨b,0,none⟩),.pointer (some ⟨d,0,none⟩),.pointer (some ⟨a,0,none⟩),.pointer (some ⟨f,0,none⟩)]))),tP 6 4 0,tP 5 3 0,tP 4 2 0,tP 3 1 0,tP 2 0 0] _)=>?_
 refine wl fun K hK=>?_
 refine DT 4 0 (.c (.func (.func 59) #[] #[.pointer (some ⟨b,0,none⟩),.pointer (some ⟨d,0,none⟩),.pointer (some ⟨a,0,none⟩),.pointer (some ⟨f,0,none⟩)])) [.func (.func 59) #[] #[.pointer (some ⟨b,0,none⟩),.pointer (some ⟨d,0,none⟩),.pointer (some ⟨a,0,none⟩),.pointer (some ⟨f,0,none⟩)]] bp ak fun ce bq aw=>hK _ _ ?_
 have br:Kn _ _ [tP 6 4 0,tP 4 2 0] _:=bq.kp
 refine wf (XT (Aa (Rk 0 2 [tA 10 [XR 0,XR (-1)],(9,.one (.c (.func (.func 59) #[] #[.pointer (some ⟨b,0,none⟩),.pointer (some ⟨d,0,none⟩),.pointer (some ⟨a,0,none⟩),.pointer (some ⟨f,0,none⟩)]))),tP 4 2 0] br aw fun cl bs=>?_)))
 obtain⟨ae,ab,bf,al⟩:=aw.settlePlc (i:=4) rfl
 replace af:=af.mono (XU (XU aa s) ab)
 replace ah:=ah.mono (XU s ab)
 replace ag:=ag.mono ab
 replace ad:=ad.mono (XU (XU (XU z aa) s) ab)
 replace al:Ai _ _ (Mp a b g d f) [⟨Mh k y o l p,none⟩,⟨NE m c q,none⟩,⟨GA,some 93⟩,⟨[.map (some j)],none⟩,⟨[.func (.func 59) #[] #[.pointer (some ⟨b,0,none⟩),.pointer (some ⟨d,0,none⟩),.pointer (some ⟨a,0,none⟩),.pointer (some ⟨f,0,none⟩)]],none⟩] [] _:=al
 have bd:As ae f [.func (.func 59) #[] #[.pointer (some ⟨b,0,none⟩),.pointer (some ⟨d,0,none⟩),.pointer (some ⟨a,0,none⟩),.pointer (some ⟨f,0,none⟩)]]:=As.of (e:=[(a,0),(b,0),(g,0),(d,0),(f,0)]) (cs:=[.func (.func 59) #[] #[.pointer (some ⟨b,0,none⟩),.pointer (some ⟨d,0,none⟩),.pointer (some ⟨a,0,none⟩),.pointer (some ⟨f,0,none⟩)]]) rfl bf
 obtain⟨cY,gR,H⟩:=Ao H
 obtain⟨cg,bc,bw,b8⟩:=al.lend1 j (Fr.put_X _ _ _) [] [] (by kernel_rfl) (by kernel_rfl) (by kernel_rfl) (by kernel_rfl)
 refine wl fun K hK=>?_
 refine ED (.func (.func 59) #[] #[.pointer (some ⟨b,0,none⟩),.pointer (some ⟨d,0,none⟩),.pointer (some ⟨a,0,none⟩),.pointer (some ⟨f,0,none⟩)]) [.agg [XR 0,XR (-1)]] _ bs rfl rfl (by decide) (by rfl) (by rfl) rfl ⟨59,_,_,rfl,fun _ _=>by kernel_rfl,J9 n (B7.mk 0 (-1)) ((Ab Ad Ad):rep ae (B7.mk 0 (-1)) _) c af ([]:List (B7×AX)) ah (bc _ _ (Fr.put_X _ _ _)) ad y ag bd bw gR⟩ fun cm cf bb=>?_
 obtain⟨ar,ba,a9,bx,⟨_,rfl,⟨_,_,rfl,rfl,⟨_,_,rfl,rfl,⟨_,_,rfl,rfl,⟨_,_,rfl,rfl,⟨_,_,rfl,rfl,⟨_,_,rfl,rfl,⟨_,_,rfl,rfl,⟨_,_,rfl,rfl,rfl⟩⟩⟩⟩⟩⟩⟩⟩⟩,ch,b6⟩:=bb
 have ac:=b8 _ _ _ _ [] bx rfl (Ys _) (by kernel_rfl) b6
 rw [Fr.put_put] at ac
 replace ac:Ai _ _ [(a,0),(b,0),(g,0),(d,0),(f,0)] [⟨[Yb k y.room.length o,Yb l y.lG.length p,XR y.broken],none⟩,⟨[Yb m c.lG.length q,XR c.down],none⟩,⟨[XR 0,XR 0,XR 0,XR 0,XR 0,XR 0,XR 0,XR 0,XR 0],some 93⟩,⟨[.map (some j)],none⟩,⟨[.func (.func 59) #[] #[.pointer (some ⟨b,0,none⟩),.pointer (some ⟨d,0,none⟩),.pointer (some ⟨a,0,none⟩),.pointer (some ⟨f,0,none⟩)]],none⟩] [] _:=ac
 refine⟨.one (.agg (Ps cY)),rfl,fun a8 (bt:Kn _ (Mp a b g d f) [tA 11 (Ps cY),tA 10 [XR 0,XR (-1)],(9,.one (.c (.func (.func 59) #[] #[.pointer (some ⟨b,0,none⟩),.pointer (some ⟨d,0,none⟩),.pointer (some ⟨a,0,none⟩),.pointer (some ⟨f,0,none⟩)]))),tP 4 2 0] _)=>hK _ _ ?_⟩
 refine wl fun K hK=>?_
 refine DT 2 0 (.agg (Ps cY)) (Ps cY) bt ac fun cr bu b7=>hK _ _ ?_
 have bv:Kn _ _ [tP 4 2 0] _:=bu.kp
 refine wf (wp_ret ?_)
 obtain rfl:=XZ H
 exact rt (.one (.agg (Ps cY))) bv b7 ⟨_,rfl,((Ab Ad (Ab Ad (Ab Ad (Ab Ad (Ab Ad (Ab Ad (Ab Ad (Ab Ad Ad)))))))):rep ar (cY.1:AX) _)⟩
end Go.Proofs.YtinminkmefljbaaGreat
