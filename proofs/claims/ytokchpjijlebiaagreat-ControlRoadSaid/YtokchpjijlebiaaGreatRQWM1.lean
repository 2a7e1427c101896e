/- Each call computes its plain function. -/
import Derived.Test.YtokchpjijlebiaaGreatProg
import Derived.Test.YtokchpjijlebiaaGreatRQS6
import Derived.Test.YtokchpjijlebiaaGreatRQS8
import Derived.Test.YtokchpjijlebiaaGreatRQWQ
import Derived.Test.YtokchpjijlebiaaGreatRQWR
import Derived.Test.YtokchpjijlebiaaGreatRQWU
set_option linter.all false
namespace Go.Proofs.YtokchpjijlebiaaGreat
open Go Go.RowKit
set_option maxRecDepth 100000
set_option maxHeartbeats 4000000
open Rep (rep)
open KRep (kv)
open VRep (rv)
abbrev RX (y z aa ab bb)(aL:Int):=([(y,0),(z,0),(aa,0),(ab,0),(bb,0+Wv aL*1)]:Bh)
abbrev JO (y z aa ab aq)(ar:Nat)(aB:Int)(ax ay)(az:Nat):=([(y,0),(z,0),(aa,0),(ab,0),(aq,ar+Wv aB*3),(ax,0),(ay,az+Wv aB*2)]:Bh)
abbrev Th (y z aa ab aq)(ar:Nat)(aB:Int)(ax ay)(az:Nat)(b1)(bW:Int):=([(y,0),(z,0),(aa,0),(ab,0),(aq,ar+Wv aB*3),(ax,0),(ay,az+Wv aB*2),(b1,0+Wv bW*1)]:Bh)
abbrev FK (d)(w_:AM)(p l q m u):=([.func (.func 73) #[.agg #[.slice d w_.lH.lA.length p,.int .i64 w_.lH.turn.lo,.int .i64 w_.lH.turn.hi,.slice l w_.lH.lB.length q,.slice m w_.lH.lC.length u,.int .i64 w_.lH.lI,.int .i64 w_.lH.gap,.int .i64 w_.lH.fr,.int .i64 w_.lH.to_]] #[]]:List SC)
abbrev Fx (bK:(List Bj)×(List A8))(a5 a6 a1 a2):=([tI 45 ((bK.1.length:Nat):Int),tS 44 a5 bK.1.length a6,tS 9 a1 bK.2.length a2,tP 6 3 0,tP 5 2 0,tP 2 0 0]:TM)
abbrev Gl (aL)(aw:List (List Int)):=([tI 77 aL,tI 76 ((aw.length:Nat):Int),tP 5 2 0]:TM)
abbrev IE (cG:List (List Int)):=([tI 23 ((cG.length:Nat):Int),tP 6 3 0,tP 5 2 0,tP 3 1 0,tP 2 0 0]:TM)
theorem Il (n:Nat) {h:Ae} {w:World} (hh:Dk h w) (w_:AM) {eW:Wx} (gt:rep h w_ eW) (t_:Ap) {cI:Wx} (dF:rep h t_ cI) {r:List (List Int)} (H:CG n w_ t_=some r) :
  Calls Tryz.prog 42 #[.agg eW.toArray,.agg cI.toArray] w (Dq (fun h v=>∃ a c,v=.slice a r.length c∧A4 h a c r) h w):=by
 obtain⟨_,_,rfl,⟨_,_,rfl,⟨d,p,rfl,bd⟩,⟨_,_,rfl,⟨_,_,rfl,rfl,rfl⟩,⟨_,_,rfl,⟨l,q,rfl,be⟩,⟨_,_,rfl,⟨m,u,rfl,bf⟩,⟨_,_,rfl,rfl,⟨_,_,rfl,rfl,⟨_,_,rfl,rfl,rfl⟩⟩⟩⟩⟩⟩⟩,⟨_,_,rfl,⟨ac,ai,rfl,bq⟩,⟨_,_,rfl,⟨ad,aj,rfl,br⟩,⟨ae,ak,rfl,bt⟩⟩⟩⟩:=gt
 obtain⟨_,_,rfl,⟨af,al,rfl,bu⟩,⟨_,_,rfl,⟨ag,am,rfl,bv⟩,⟨ah,an,rfl,bw⟩⟩⟩:=dF
 refine SZ (e:=[]) 95 [.agg (CH d w_ p l q m u ac ai ad aj ae ak),.agg (Ie af t_ al ag am ah an)] Tryz.func42 rfl rfl rfl rfl fun t hk=>?_
 have hm:=Ah.begin h w hh
 unfold CG at H
 refine XT (Aa (wl fun K hK=>?_))
 refine wb (.agg (CH d w_ p l q m u ac ai ad aj ae ak)) hk hm fun y nz qs (kt:Kn 95 [(y,0)] [tP 2 0 0,tA 0 (CH d w_ p l q m u ac ai ad aj ae ak),tA 1 (Ie af t_ al ag am ah an)] nz) mn=>hK _ _ ?_
 refine wl fun K hK=>?_
 refine wb (.agg (Ie af t_ al ag am ah an)) kt mn fun z n1 qu (k1:Kn 95 [(y,0),(z,0)] [tP 3 1 0,tP 2 0 0,tA 0 (CH d w_ p l q m u ac ai ad aj ae ak),tA 1 (Ie af t_ al ag am ah an)] n1) ef=>hK _ _ ?_
 refine Rk 2 1 [tP 3 1 0,tP 2 0 0] k1 ef fun py k5=>?_
 refine wf (XT (Aa (Rk 0 2 [tA 16 (Ja d w_ p l q m u),tP 3 1 0,tP 2 0 0] k5 ef fun pz k6=>?_)))
 obtain⟨bM,eU,H⟩:=Av H
 refine wl fun K hK=>?_
 refine wc [.agg (Ja d w_ p l q m u)] k6 ef (Cy n ef.has w_.lH ((Ab (Ad bd) (Ab (Ab Ac Ac) (Ab (Ad be) (Ab (Ad bf) (Ab Ac (Ab Ac (Ab Ac Ac))))))):rep h w_.lH _) eU) fun qf d4 qx i4 cj mu=>?_
 replace bd:=bd.mono cj
 replace be:=be.mono cj
 replace bf:=bf.mono cj
 replace bq:=bq.mono cj
 replace br:=br.mono cj
 replace bt:=bt.mono cj
 replace bu:=bu.mono cj
 replace bv:=bv.mono cj
 replace bw:=bw.mono cj
 obtain rfl:=i4
 refine⟨.one (.c (Ws bM)),rfl,fun n5 (lh:Kn 95 [(y,0),(z,0)] [tI 17 bM,tA 16 (Ja d w_ p l q m u),tP 3 1 0,tP 2 0 0] n5)=>hK _ _ ?_⟩
 obtain⟨cG,jF,H⟩:=Av H
 obtain⟨m8,nb,h4⟩:=SW jF
 refine wl fun K hK=>?_
 refine L7 29 1 24 [Wu none 0 0] (bM) lh mu rfl rfl (by decide) (by rfl) (by kernel_rfl) (by kernel_rfl) (by rfl) m8 nb (by decide) fun cr n8 ih (gz:Kn 95 [(y,0),(z,0)] [(18,.one (.c (Wu cr ((Wv bM)) ((Wv bM))))),(17,.one (.c (Ws bM))),(16,.one (.agg (Wp w_.lH d p l q m u))),(3,.one (.c (.ptr 1 0))),(2,.one (.c (.ptr 0 0)))] n8) (m0:Ah ⟨w,h,A6⟩ d4 [(y,0),(z,0)] [⟨[Wu d w_.lH.lA.length p,Ws w_.lH.turn.lo,Ws w_.lH.turn.hi,Wu l w_.lH.lB.length q,Wu m w_.lH.lC.length u,Ws w_.lH.lI,Ws w_.lH.gap,Ws w_.lH.fr,Ws w_.lH.to_,Wu ac w_.acts.lD.length ai,Wu ad w_.acts.lE.length aj,Wu ae w_.acts.lC.length ak],some 94⟩,⟨(Wr t_ af al ag am ah an),some 52⟩] [⟨cr,(Wv bM),(Wv bM),29,1,List.flatten (List.replicate (Wv bM) ([.slice none 0 0]:Wx)),0⟩] ih)=>?_
 have mb:(Wv bM)=cG.length:=by rw [h4]; simp
 obtain⟨er,jt,fh⟩:=Fw.make (g:=FG) (pr:=Tb) (rw:=[]) (x:=(([]:List Int):List Int)) 3 1 rfl rfl h4 m0
 rw [mb] at gz
 replace fh:Ah ⟨w,h,A6⟩ d4 [(y,0),(z,0)] [⟨CH d w_ p l q m u ac ai ad aj ae ak,some 94⟩,⟨Ie af t_ al ag am ah an,some 52⟩] (⟨cr,cG.length,cG.length,29,1,BA FG er cG,0⟩::er) ih:=fh
 refine hK _ _ ?_
 refine wl fun K hK=>?_
 refine wa [Wu none 0 0] gz fh fun aa h9 qz (lw:Kn 95 [(y,0),(z,0),(aa,0)] [tP 5 2 0,tS 18 cr cG.length cG.length,tI 17 bM,tA 16 (Ja d w_ p l q m u),tP 3 1 0,tP 2 0 0] h9) m1=>hK _ _ ?_
 refine wl fun K hK=>?_
 refine EZ 2 0 (.c (Wu cr cG.length cG.length)) [Wu cr cG.length cG.length] lw m1 fun q0 lx hd=>hK _ _ ?_
 have ly:Kn 95 [(y,0),(z,0),(aa,0)] [tP 5 2 0,tP 3 1 0,tP 2 0 0] h9:=lx.kp
 refine wf (XT (Aa (Rk 0 2 [tA 20 (Ja d w_ p l q m u),tP 5 2 0,tP 3 1 0,tP 2 0 0] ly hd fun qa lz=>?_)))
 refine Hn 2 #[.agg #[.slice d w_.lH.lA.length p,.int .i64 w_.lH.turn.lo,.int .i64 w_.lH.turn.hi,.slice l w_.lH.lB.length q,.slice m w_.lH.lC.length u,.int .i64 w_.lH.lI,.int .i64 w_.lH.gap,.int .i64 w_.lH.fr,.int .i64 w_.lH.to_]] #[] lz rfl rfl (rfl) rfl (by decide) (by rfl) (by rfl) (by rfl) (by rfl) fun n9 (l0:Kn 95 [(y,0),(z,0),(aa,0)] [(21,.one (.c (.func (.func 73) #[.agg #[.slice d w_.lH.lA.length p,.int .i64 w_.lH.turn.lo,.int .i64 w_.lH.turn.hi,.slice l w_.lH.lB.length q,.slice m w_.lH.lC.length u,.int .i64 w_.lH.lI,.int .i64 w_.lH.gap,.int .i64 w_.lH.fr,.int .i64 w_.lH.to_]] #[]))),tA 20 (Ja d w_ p l q m u),tP 5 2 0,tP 3 1 0,tP 2 0 0] n9)=>?_
 refine wl fun K hK=>?_
 refine wa [.nilfunc] l0 hd fun ab ia q1 (l1:Kn 95 (FJ y z aa ab) [tP 6 3 0,(21,.one (.c (.func (.func 73) #[.agg #[.slice d w_.lH.lA.length p,.int .i64 w_.lH.turn.lo,.int .i64 w_.lH.turn.hi,.slice l w_.lH.lB.length q,.slice m w_.lH.lC.length u,.int .i64 w_.lH.lI,.int .i64 w_.lH.gap,.int .i64 w_.lH.fr,.int .i64 w_.lH.to_]] #[]))),tA 20 (Ja d w_ p l q m u),tP 5 2 0,tP 3 1 0,tP 2 0 0] ia) m2=>hK _ _ ?_
 refine wl fun K hK=>?_
 refine EZ 3 0 (.c (.func (.func 73) #[.agg #[.slice d w_.lH.lA.length p,.int .i64 w_.lH.turn.lo,.int .i64 w_.lH.turn.hi,.slice l w_.lH.lB.length q,.slice m w_.lH.lC.length u,.int .i64 w_.lH.lI,.int .i64 w_.lH.gap,.int .i64 w_.lH.fr,.int .i64 w_.lH.to_]] #[])) (FK d w_ p l q m u) l1 m2 fun q2 l2 he=>hK _ _ ?_
 have l3:Kn 95 (FJ y z aa ab) [tP 6 3 0,tP 5 2 0,tP 3 1 0,tP 2 0 0] ia:=l2.kp
 refine wf (XT (XT (Aa (Rk 0 3 ((tI 24 0)::(IE cG)) l3 he fun qb l4=>?_))))
 refine wf ?_
 obtain⟨db,gj,H⟩:=Av H
 refine A0 (fun a' w'=>∃ (dv:Ww)(d0:Nat)(df:List CO)(f3:Array Value)(c5:Ae),a' = ⟨f3,List.map KX ([]:List Nat)⟩∧Kn 95 (FJ y z aa ab) [tP 6 3 0,tP 5 2 0,tP 3 1 0,tP 2 0 0] f3∧Ah ⟨w,h,A6⟩ c5 (FJ y z aa ab) [⟨CH d w_ p l q m u ac ai ad aj ae ak,some 94⟩,⟨Ie af t_ al ag am ah an,some 52⟩,⟨[Wu dv db.length d0],some 36⟩,⟨FK d w_ p l q m u,some 112⟩] (⟨dv,db.length,d0,29,1,BA FG df db,0⟩::df) w'∧Ae.le d4 c5∧Fw Tb 3 1 c5 df db) ?_ ?_
 ·
  refine wp_block ?_
  refine Au (fun ns a' w'=>∃ (aA:List (List Int))(aD:Int)(a8:Ww)(ba:Nat)(bc:List CO)(f4:Array Value)(b3:Ae),a' = ⟨f4,List.map KX ([]:List Nat)⟩∧Kn 95 (FJ y z aa ab) ((tI 24 aD)::(IE cG)) f4∧Ah ⟨w,h,A6⟩ b3 (FJ y z aa ab) [⟨CH d w_ p l q m u ac ai ad aj ae ak,some 94⟩,⟨Ie af t_ al ag am ah an,some 52⟩,⟨[Wu a8 aA.length ba],some 36⟩,⟨FK d w_ p l q m u,some 112⟩] (⟨a8,aA.length,ba,29,1,BA FG bc aA,0⟩::bc) w'∧Ae.le d4 b3∧Fw Tb 3 1 b3 bc aA∧Bw ns w_ cG aA aD=some db) n ?_ ?_
  ·
   exact XY cG ⟨0,cr,cG.length,er,_,_,rfl,l4.kp,he,Ae.le_refl _,jt,gj⟩
  ·
   rintro fu _ qm ⟨aA,aD,a8,ba,bc,f4,b3,rfl,jz,dk,g0,c7,ca⟩
   clear gj
   obtain _ | fu:=fu
   ·
    rw [Bw] at ca; cases ca
   rw [Bw] at ca
   refine XT (Aa (Rk 0 1 ((tB 25 (decide (aD<((cG.length:Nat):Int))))::(tI 24 aD)::(IE cG)) jz dk fun pg e3=>?_))
   refine wf (XT (wC (decide (aD<((cG.length:Nat):Int))) e3 (fun eu=>?_) (fun eu=>?_)))
   ·
    rw [eu,XW] at ca
    refine wp_skip (XT (wp_block (XT (Aa (Rk 0 2 ((tI 7 aD)::(tI 24 aD)::(IE cG)) e3 dk fun ph j0=>?_)))))
    refine wf (Aa (Rk 0 8 ((tI 34 w_.lH.to_)::(tI 31 w_.lH.fr)::(tI 28 aD)::(tS 27 a8 aA.length ba)::(tI 24 aD)::(IE cG)) j0 dk fun pi j1=>?_))
    refine wl fun K hK=>?_
    refine wS 3 1 [Ws w_.lH.fr,Ws w_.lH.to_] j1 dk fun bx nt od (j2:Kn 95 (FJ y z aa ab) ((tS 35 bx 2 2)::(tI 34 w_.lH.to_)::(tI 31 w_.lH.fr)::(tI 28 aD)::(tS 27 a8 aA.length ba)::(tI 24 aD)::(IE cG)) nt) mh=>?_
    have g4:Ah ⟨w,h,A6⟩ b3 (FJ y z aa ab) [⟨CH d w_ p l q m u ac ai ad aj ae ak,some 94⟩,⟨Ie af t_ al ag am ah an,some 52⟩,⟨[Wu a8 aA.length ba],some 36⟩,⟨FK d w_ p l q m u,some 112⟩] (⟨a8,aA.length,ba,29,1,BA FG bc aA,0⟩::⟨bx,2,2,3,1,([.int .i64 w_.lH.fr,.int .i64 w_.lH.to_]:Wx),0⟩::bc) od:=Ah.famIn [⟨a8,aA.length,ba,29,1,BA FG bc aA,0⟩] mh
    have je:Ag b3 ([w_.lH.fr,w_.lH.to_]:List Int) ([.int .i64 w_.lH.fr,.int .i64 w_.lH.to_]:Wx):=⟨_,_,rfl,(Ac:rep b3 (w_.lH.fr:Int) _),⟨_,_,rfl,(Ac:rep b3 (w_.lH.to_:Int) _),rfl⟩⟩
    refine hK _ _ ?_
    obtain⟨bZ,iV,ca⟩:=Av ca
    obtain⟨hl,ht,fo⟩:=Ai iV
    have dh:=C1 hl ht
    obtain⟨ct,es⟩:=CV g4 (i:=0) rfl (b0:=0+Wv aD*1) (Kq CB (by decide) c7.len dh)
    have mi:=g4.addPlc (b:=ct) (o:=0+Wv aD*1) (cs:=[]) (fun j c hj=>by simp at hj) rfl (by kernel_rfl) (by kernel_rfl)
    obtain⟨im,ip,qg,gr,ot⟩:=c7.get fo
    have ou:∀ (e:Bh) k c,([Wu im bZ.length ip]:List SC)[k]? = some c→((BA FG bc aA))[0+Wv aD*1+k]? = some (c.den e):=fun e k c hk=>Fm CB gr fo k _ (Ak hk)
    refine Bl 9 (aD) rfl rfl (rfl) rfl (by decide) j2 (by rfl) (by rfl) (by rfl) es (by rfl) hl ht (by kernel_rfl) fun fw (j3:Kn 95 [(y,0),(z,0),(aa,0),(ab,0),(ct,0+Wv aD*1)] ((tP 36 4 0)::(tS 35 bx 2 2)::(tI 34 w_.lH.to_)::(tI 31 w_.lH.fr)::(tI 28 aD)::(tS 27 a8 aA.length ba)::(tI 24 aD)::(IE cG)) fw)=>?_
    obtain⟨b5,iu,ca⟩:=Av ca
    obtain⟨o9,pc,ei⟩:=Er iu
    refine wl fun K hK=>?_
    refine EM 0 4 0 (0+Wv aD*1) (.c (Wu bx 2 2)) j3 mi rfl rfl (by rfl) (by rfl) rfl rfl es rfl (by kernel_rfl) (OI CB c7.len dh (Xf rfl)) fun f5 j4 mj=>?_
    have nf:((BA FG bc aA).take (0+Wv aD*1+0)++([.slice bx 2 2]:Wx)++(BA FG bc aA).drop (0+Wv aD*1+0+1))=(BA FG (List.set bc (Wv aD) ⟨bx,2,2,3,1,([.int .i64 w_.lH.fr,.int .i64 w_.lH.to_]:Wx),0⟩) b5):=by rw [ei]; exact LN (r':=⟨bx,2,2,3,1,([.int .i64 w_.lH.fr,.int .i64 w_.lH.to_]:Wx),0⟩) CB gr fo rfl (Xf rfl)
    have mk:Ah ⟨w,h,A6⟩ b3 [(y,0),(z,0),(aa,0),(ab,0),(ct,0+Wv aD*1)] [⟨[Wu d w_.lH.lA.length p,Ws w_.lH.turn.lo,Ws w_.lH.turn.hi,Wu l w_.lH.lB.length q,Wu m w_.lH.lC.length u,Ws w_.lH.lI,Ws w_.lH.gap,Ws w_.lH.fr,Ws w_.lH.to_,Wu ac w_.acts.lD.length ai,Wu ad w_.acts.lE.length aj,Wu ae w_.acts.lC.length ak],some 94⟩,⟨(Wr t_ af al ag am ah an),some 52⟩,⟨[Wu a8 aA.length ba],some 36⟩,⟨[.func (.func 73) #[.agg #[.slice d w_.lH.lA.length p,.int .i64 w_.lH.turn.lo,.int .i64 w_.lH.turn.hi,.slice l w_.lH.lB.length q,.slice m w_.lH.lC.length u,.int .i64 w_.lH.lI,.int .i64 w_.lH.gap,.int .i64 w_.lH.fr,.int .i64 w_.lH.to_]] #[]],some 112⟩,⟨[],none⟩] (⟨a8,aA.length,ba,29,1,(BA FG bc aA).take (0+Wv aD*1+0)++([.slice bx 2 2]:Wx)++(BA FG bc aA).drop (0+Wv aD*1+0+1),0⟩::(List.set bc (Wv aD) ⟨bx,2,2,3,1,([.int .i64 w_.lH.fr,.int .i64 w_.lH.to_]:Wx),0⟩)) f5:=Ah.famPut [⟨a8,aA.length,ba,29,1,(BA FG bc aA).take (0+Wv aD*1+0)++([.slice bx 2 2]:Wx)++(BA FG bc aA).drop (0+Wv aD*1+0+1),0⟩] mj (by rw [c7.len]; exact dh)
    have fi:aA.length=b5.length:=by rw [ei]; simp
    obtain⟨d1,go,ml⟩:∃ f,Fw Tb 3 1 b3 f b5∧Ah ⟨w,h,A6⟩ b3 [(y,0),(z,0),(aa,0),(ab,0),(ct,0+Wv aD*1)] [⟨[Wu d w_.lH.lA.length p,Ws w_.lH.turn.lo,Ws w_.lH.turn.hi,Wu l w_.lH.lB.length q,Wu m w_.lH.lC.length u,Ws w_.lH.lI,Ws w_.lH.gap,Ws w_.lH.fr,Ws w_.lH.to_,Wu ac w_.acts.lD.length ai,Wu ad w_.acts.lE.length aj,Wu ae w_.acts.lC.length ak],some 94⟩,⟨(Wr t_ af al ag am ah an),some 52⟩,⟨[Wu a8 aA.length ba],some 36⟩,⟨[.func (.func 73) #[.agg #[.slice d w_.lH.lA.length p,.int .i64 w_.lH.turn.lo,.int .i64 w_.lH.turn.hi,.slice l w_.lH.lB.length q,.slice m w_.lH.lC.length u,.int .i64 w_.lH.lI,.int .i64 w_.lH.gap,.int .i64 w_.lH.fr,.int .i64 w_.lH.to_]] #[]],some 112⟩,⟨[],none⟩] (⟨a8,aA.length,ba,29,1,BA FG f b5,0⟩::f) f5:=⟨List.set bc (Wv aD) ⟨bx,2,2,3,1,([.int .i64 w_.lH.fr,.int .i64 w_.lH.to_]:Wx),0⟩,(by rw [ei]; exact c7.set ⟨rfl,rfl,rfl,rfl,je⟩),by rw [← nf]; exact mk⟩
    have j5:Kn 95 [(y,0),(z,0),(aa,0),(ab,0),(ct,0+Wv aD*1)] [(36,.one (.c (.ptr 4 0))),(35,.one (.c (Wu bx 2 2))),(34,.one (.c (Ws w_.lH.to_))),(31,.one (.c (Ws w_.lH.fr))),(28,.one (.c (Ws aD))),(27,.one (.c (Wu a8 b5.length ba))),(24,.one (.c (Ws aD))),(23,.one (.c (Ws ((cG.length:Nat):Int)))),(6,.one (.c (.ptr 3 0))),(5,.one (.c (.ptr 2 0))),(3,.one (.c (.ptr 1 0))),(2,.one (.c (.ptr 0 0)))] fw:=by rw [← fi]; exact j4
    have e8:Ah ⟨w,h,A6⟩ b3 [(y,0),(z,0),(aa,0),(ab,0),(ct,0+Wv aD*1)] [⟨[Wu d w_.lH.lA.length p,Ws w_.lH.turn.lo,Ws w_.lH.turn.hi,Wu l w_.lH.lB.length q,Wu m w_.lH.lC.length u,Ws w_.lH.lI,Ws w_.lH.gap,Ws w_.lH.fr,Ws w_.lH.to_,Wu ac w_.acts.lD.length ai,Wu ad w_.acts.lE.length aj,Wu ae w_.acts.lC.length ak],some 94⟩,⟨(Wr t_ af al ag am ah an),some 52⟩,⟨[Wu a8 b5.length ba],some 36⟩,⟨[.func (.func 73) #[.agg #[.slice d w_.lH.lA.length p,.int .i64 w_.lH.turn.lo,.int .i64 w_.lH.turn.hi,.slice l w_.lH.lB.length q,.slice m w_.lH.lC.length u,.int .i64 w_.lH.lI,.int .i64 w_.lH.gap,.int .i64 w_.lH.fr,.int .i64 w_.lH.to_]] #[]],some 112⟩,⟨[],none⟩] (⟨a8,b5.length,ba,29,1,BA FG d1 b5,0⟩::d1) f5:=by rw [← fi]; exact ml
    have o4:(Wv aD)<b5.length:=by rw [← fi]; exact dh
    have hz:b5[(Wv aD)]? = some ([w_.lH.fr,w_.lH.to_]:List Int):=by rw [ei]; exact WY dh
    obtain⟨f8,gc,qh,ju,ov⟩:=go.get hz
    have jf:∀ (e:Bh) k c,([Wu f8 (([w_.lH.fr,w_.lH.to_]:List Int).length) gc]:List SC)[k]? = some c→((BA FG d1 b5))[0+Wv aD*1+k]? = some (c.den e):=fun e k c hk=>Fm CB ju hz k _ (Ak hk)
    refine hK _ _ ?_
    have j6:Kn 95 [(y,0),(z,0),(aa,0),(ab,0),(ct,0+Wv aD*1)] ((tI 24 aD)::(IE cG)) fw:=j5.kp
    refine wf (Aa (I5 0 2 [24,23,6,5,3,2] ((tI 24 (Wt (aD+1)))::(IE cG)) j6 (Ay.peek e8.plOk e8 0 4 rfl rfl es [Wu f8 (([w_.lH.fr,w_.lH.to_]:List Int).length) gc] (jf _)) (by kernel_rfl) fun pj j7=>?_))
    refine wf ?_
    exact XY fu ⟨Xc _,XY b5 ⟨Wt (aD+1),a8,ba,d1,_,_,rfl,(j7.keep [24,23,6,5,3,2] (by rfl)).cut 4 (by kernel_rfl),e8.cutPl 4 (by kernel_rfl),g0,go,ca⟩⟩
   ·
    rw [eu,XV] at ca
    refine wp_exit ?_
    obtain rfl:=XZ ca
    exact XY a8 ⟨ba,bc,_,_,rfl,e3.kp,dk,g0,c7⟩
 ·
  rintro _ qn ⟨dv,d0,df,f3,c5,rfl,j8,e9,ch,e1⟩
  replace bd:=bd.mono ch
  replace be:=be.mono ch
  replace bf:=bf.mono ch
  replace bq:=bq.mono ch
  replace br:=br.mono ch
  replace bt:=bt.mono ch
  replace bu:=bu.mono ch
  replace bv:=bv.mono ch
  replace bw:=bw.mono ch
  refine XT (Aa (Rk 0 2 [tA 40 (Ie af t_ al ag am ah an),tA 39 (CH d w_ p l q m u ac ai ad aj ae ak),tP 6 3 0,tP 5 2 0,tP 2 0 0] j8 e9 fun pk j9=>?_))
  obtain⟨bK,ex41,H⟩:=Av H
  refine wl fun K hK=>?_
  refine wc [.agg (CH d w_ p l q m u ac ai ad aj ae ak),.agg (Ie af t_ al ag am ah an)] j9 e9 (DJ n e9.has w_ ((Ab (Ab (Ad bd) (Ab (Ab Ac Ac) (Ab (Ad be) (Ab (Ad bf) (Ab Ac (Ab Ac (Ab Ac Ac))))))) (Ab (Ad bq) (Ab (Ad br) (Ad bt)))):rep c5 w_ _) t_ ((Ab (Ad bu) (Ab (Ad bv) (Ad bw))):rep c5 t_ _) ex41) fun qc gk qo i1 cc fa=>?_
  replace bd:=bd.mono cc
  replace be:=be.mono cc
  replace bf:=bf.mono cc
  replace bq:=bq.mono cc
  replace br:=br.mono cc
  replace bt:=bt.mono cc
  replace bu:=bu.mono cc
  replace bv:=bv.mono cc
  replace bw:=bw.mono cc
  replace e1:=e1.mono cc
  obtain⟨_,_,rfl,⟨a5,a6,rfl,dp⟩,⟨a1,a2,rfl,dq⟩⟩:=i1
  refine⟨.tup [.c (Wu a5 bK.1.length a6),.c (Wu a1 bK.2.length a2)],rfl,fun nu (ka:Kn 95 (FJ y z aa ab) [(41,.tup [.c (Wu a5 bK.1.length a6),.c (Wu a1 bK.2.length a2)]),tA 40 (Ie af t_ al ag am ah an),tA 39 (CH d w_ p l q m u ac ai ad aj ae ak),tP 6 3 0,tP 5 2 0,tP 2 0 0] nu)=>hK _ _ ?_⟩
  refine Rk 3 5 [tS 9 a1 bK.2.length a2,tS 8 a5 bK.1.length a6,tP 6 3 0,tP 5 2 0,tP 2 0 0] ka fa fun pl kb=>?_
  refine wf (XT (XT (Aa (Rk 0 3 ((tI 46 0)::(Fx bK a5 a6 a1 a2)) kb fa fun pm kc=>?_))))
  refine wf ?_
  obtain⟨aw,gh,H⟩:=Av H
  refine A0 (fun a' w'=>∃ (du:Ww)(dz:Nat)(dd:List CO)(bl:Fr)(c1:List Nat)(fx:Array Value)(c4:Ae),a' = ⟨fx,List.map KX c1⟩∧Kn 95 (FJ y z aa ab) [tP 5 2 0] fx∧Ah bl c4 (FJ y z aa ab) [⟨CH d w_ p l q m u ac ai ad aj ae ak,some 94⟩,⟨Ie af t_ al ag am ah an,some 52⟩,⟨[Wu du aw.length dz],some 36⟩,⟨FK d w_ p l q m u,some 112⟩] (⟨du,aw.length,dz,29,1,BA FG dd aw,0⟩::dd) w'∧Ae.le gk c4∧Fw Tb 3 1 c4 dd aw∧Fr.Of w h bl∧Fc bl c1) ?_ ?_
  ·
   refine wp_block ?_
   refine Au (fun nq a' w'=>∃ (aC:List (List Int))(aB:Int)(cx:Ww)(c2:Nat)(c3:List CO)(dc:Fr)(c0:List Nat)(fy:Array Value)(cu:Ae),a' = ⟨fy,List.map KX c0⟩∧Kn 95 (FJ y z aa ab) ((tI 46 aB)::(Fx bK a5 a6 a1 a2)) fy∧Ah dc cu (FJ y z aa ab) [⟨CH d w_ p l q m u ac ai ad aj ae ak,some 94⟩,⟨Ie af t_ al ag am ah an,some 52⟩,⟨[Wu cx aC.length c2],some 36⟩,⟨FK d w_ p l q m u,some 112⟩] (⟨cx,aC.length,c2,29,1,BA FG c3 aC,0⟩::c3) w'∧Ae.le gk cu∧Fw Tb 3 1 cu c3 aC∧Fr.Of w h dc∧Fc dc c0∧By nq w_ bK aC aB=some aw) n ?_ ?_
   ·
    exact XY db ⟨0,dv,d0,df,⟨w,h,A6⟩,([]:List Nat),_,_,rfl,kc.kp,fa,Ae.le_refl _,e1,⟨rfl,rfl⟩,Fc.nil _,gh⟩
   ·
    rintro cp _ qp ⟨aC,aB,cx,c2,c3,dc,c0,fy,cu,rfl,kd,ed,bp,d8,hg,hf,bj⟩
    clear gh
    obtain _ | cp:=cp
    ·
     rw [By] at bj; cases bj
    rw [By] at bj
    replace bd:=bd.mono bp
    replace be:=be.mono bp
    replace bf:=bf.mono bp
    replace bq:=bq.mono bp
    replace br:=br.mono bp
    replace bt:=bt.mono bp
    replace bu:=bu.mono bp
    replace bv:=bv.mono bp
    replace bw:=bw.mono bp
    replace dp:=dp.mono bp
    replace dq:=dq.mono bp
    refine XT (Aa (Rk 0 1 ((tB 47 (decide (aB<((bK.1.length:Nat):Int))))::(tI 46 aB)::(Fx bK a5 a6 a1 a2)) kd ed fun pn e4=>?_))
    refine wf (XT (wC (decide (aB<((bK.1.length:Nat):Int))) e4 (fun ev=>?_) (fun ev=>?_)))
    ·
     rw [ev,XW] at bj
     refine wp_skip (XT (wp_block (XT (Aa (Rk 0 1 ((tI 48 aB)::(tI 46 aB)::(Fx bK a5 a6 a1 a2)) e4 ed fun po ke=>?_)))))
     obtain⟨cA,gU,bj⟩:=Av bj
     obtain⟨m6,m9,nl⟩:=Ai gU
     obtain⟨aq,ar,ok,i9,ng,jg⟩:=dp.get (by decide) nl
     obtain⟨_,_,rfl,rfl,⟨_,_,rfl,rfl,rfl⟩⟩:=ng
     have g5:=ed.addPlc (b:=aq) (o:=ar+Wv aB*3) (cs:=(Eu cA)) (fun j c hj=>jg j _ (Ak hj)) rfl (by kernel_rfl) (by kernel_rfl)
     refine Bl 1 (aB) rfl rfl (rfl) rfl (by decide) ke (by rfl) (by rfl) (by rfl) i9 (by rfl) m6 m9 (by kernel_rfl) fun nv (kf:Kn 95 [(y,0),(z,0),(aa,0),(ab,0),(aq,ar+Wv aB*3)] ((tP 49 4 0)::(tI 48 aB)::(tI 46 aB)::(Fx bK a5 a6 a1 a2)) nv)=>?_
     refine Rk 2 1 ((tA 50 (Eu cA))::(tI 48 aB)::(tI 46 aB)::(Fx bK a5 a6 a1 a2)) kf g5 fun pp kg=>?_
     refine wl fun K hK=>?_
     refine wa [Ws 0,Ws 0,Ws 0] kg g5 fun ax nw qq (kh:Kn 95 [(y,0),(z,0),(aa,0),(ab,0),(aq,ar+Wv aB*3),(ax,0)] ((tP 11 5 0)::(tA 50 (Eu cA))::(tI 48 aB)::(tI 46 aB)::(Fx bK a5 a6 a1 a2)) nw) g6=>hK _ _ ?_
     refine Rk 4 1 ((tI 10 aB)::(tP 11 5 0)::(tA 50 (Eu cA))::(tI 46 aB)::(Fx bK a5 a6 a1 a2)) kh g6 fun nx ki=>?_
     refine wl fun K hK=>?_
     refine EZ 5 0 (.agg (Eu cA)) (Eu cA) ki g6 fun qr kj dl=>hK _ _ ?_
     have kk:Kn 95 [(y,0),(z,0),(aa,0),(ab,0),(aq,ar+Wv aB*3),(ax,0)] ((tI 10 aB)::(tP 11 5 0)::(tI 46 aB)::(Fx bK a5 a6 a1 a2)) nx:=kj.kp
     refine wf (XT (Am (by kernel_rfl) ?_))
     replace dl:=dl.drew
     refine Ao [] [(y,0),(z,0),(aa,0),(ab,0),(aq,ar+Wv aB*3),(ax,0)] [⟨CH d w_ p l q m u ac ai ad aj ae ak,some 94⟩,⟨Ie af t_ al ag am ah an,some 52⟩,⟨[Wu cx aC.length c2],some 36⟩,⟨FK d w_ p l q m u,some 112⟩,⟨Eu cA,none⟩,⟨Eu cA,some 141⟩] ?_
     refine Dr [0,1,2,3,4] (dn 4) ((tI 55 aB)::(tS 54 a1 bK.2.length a2)::(tA 53 (Eu cA))::(tA 52 (Ja d w_ p l q m u))::(tI 46 aB)::(Fx bK a5 a6 a1 a2)) kk dl fun pq kl=>?_
     obtain⟨dO,kK,bj⟩:=Av bj
     obtain⟨m7,na,nm⟩:=Ai kK
     obtain⟨ay,az,ol,ja,nh,jh⟩:=dq.get (by decide) nm
     obtain⟨_,_,rfl,⟨bh,bi,rfl,fl⟩,rfl⟩:=nh
     have fb:=dl.addPlc (b:=ay) (o:=az+Wv aB*2) (cs:=(JN bh dO bi)) (fun j c hj=>jh j _ (Ak hj)) rfl (by kernel_rfl) (by kernel_rfl)
     refine Az 5 (aB) (JN bh dO bi) (fun _ _ _ _ _ h=>h) rfl rfl (rfl) rfl (by decide) (by kernel_rfl) (by kernel_rfl) kl dl.plOk (by rfl) (by rfl) (by rfl) ja (by rfl) m7 na (by kernel_rfl) fun ny (km:Kn 95 (JO y z aa ab aq ar aB ax ay az) ((tP 56 6 0)::(tI 55 aB)::(tS 54 a1 bK.2.length a2)::(tA 53 (Eu cA))::(tA 52 (Ja d w_ p l q m u))::(tI 46 aB)::(Fx bK a5 a6 a1 a2)) ny)=>?_
     refine Dr [6] (dn 6) ((tA 57 (JN bh dO bi))::(tA 53 (Eu cA))::(tA 52 (Ja d w_ p l q m u))::(tI 46 aB)::(Fx bK a5 a6 a1 a2)) km fb fun ps kn=>?_
     obtain⟨dM,jB,bj⟩:=Av bj
     refine Dl 7 fun K hK=>?_
     refine wc [.agg (Ja d w_ p l q m u),.agg (Eu cA),.agg (JN bh dO bi)] kn fb (DM cp fb.has w_.lH ((Ab (Ad bd) (Ab (Ab Ac Ac) (Ab (Ad be) (Ab (Ad bf) (Ab Ac (Ab Ac (Ab Ac Ac))))))):rep cu w_.lH _) cA ((Ab Ac (Ab Ac Ac)):rep cu cA _) dO ((Ab (Ad fl) Ac):rep cu dO _) jB) fun qd i6 ds i2 bn g7=>?_
     replace bd:=bd.mono bn
     replace be:=be.mono bn
     replace bf:=bf.mono bn
     replace bq:=bq.mono bn
     replace br:=br.mono bn
     replace bt:=bt.mono bn
     replace bu:=bu.mono bn
     replace bv:=bv.mono bn
     replace bw:=bw.mono bn
     replace dp:=dp.mono bn
     replace dq:=dq.mono bn
     replace fl:=fl.mono bn
     replace d8:=d8.mono bn
     obtain⟨dw,dx,dy,rfl,jb,jc,jd⟩:=i2
     refine⟨.one (.c (.func (.func 91) #[] #[.pointer (some ⟨dw,0,none⟩),.pointer (some ⟨dx,0,none⟩),.pointer (some ⟨dy,0,none⟩)])),rfl,fun h6 (ko:Kn 95 (JO y z aa ab aq ar aB ax ay az) ((58,.one (.c (.func (.func 91) #[] #[.pointer (some ⟨dw,0,none⟩),.pointer (some ⟨dx,0,none⟩),.pointer (some ⟨dy,0,none⟩)])))::(tA 57 (JN bh dO bi))::(tA 53 (Eu cA))::(tA 52 (Ja d w_ p l q m u))::(tI 46 aB)::(Fx bK a5 a6 a1 a2)) h6)=>hK _ _ g7.plOk ?_⟩
     have e5:Kn 95 (JO y z aa ab aq ar aB ax ay az) ((58,.one (.c (.func (.func 91) #[] #[.pointer (some ⟨dw,0,none⟩),.pointer (some ⟨dx,0,none⟩),.pointer (some ⟨dy,0,none⟩)])))::(tI 46 aB)::(Fx bK a5 a6 a1 a2)) h6:=ko.kp
     refine A2 (by kernel_rfl) (wp_block ?_)
     obtain⟨el,ir,bj⟩:=Av bj
     refine My (.func (.func 91) #[] #[.pointer (some ⟨dw,0,none⟩),.pointer (some ⟨dx,0,none⟩),.pointer (some ⟨dy,0,none⟩)]) e5 (by rfl) rfl (fun _ _=>by kernel_rfl) fun cq fm=>?_
     obtain⟨ii,me,om,mm⟩:=Ah.loopBegin g7 hf hg cq
     have i0:Wi (fun(s:List (List Int))(h':Ae)(w':World)=>∃ (Fj:Fr)(ao:Ww)(ap:Nat)(a3:List CO),Hq w h Fj ((ds).heap.size+1) cq ((ds).heap.size::c0)∧Ah Fj h' (JO y z aa ab aq ar aB ax ay az) [⟨CH d w_ p l q m u ac ai ad aj ae ak,some 94⟩,⟨Ie af t_ al ag am ah an,some 52⟩,⟨[Wu ao s.length ap],some 36⟩,⟨FK d w_ p l q m u,some 112⟩,⟨Eu cA,none⟩,⟨Eu cA,some 141⟩,⟨JN bh dO bi,none⟩] (⟨ao,s.length,ap,29,1,BA FG a3 s,0⟩::a3) w'∧Fw Tb 3 1 h' a3 s∧Ae.le i6 h'):=⟨fun s h' w' hj=>by obtain⟨_,ao,ap,a3,_,hm,b4,_⟩:=hj; exact hm.has,fun s h' h'' w' w'' hj hb hle hn=>by obtain⟨Fj,ao,ap,a3,hlf,hm,b4,hle0⟩:=hj; exact⟨Fj,ao,ap,a3,hlf,hm.call hb hle hn,b4.mono hle,XU hle0 hle⟩⟩
     refine⟨_,Dt cp i0 (fun(s:List (List Int))(bW:Int)(dJ:Int)=>(((((fun(y0:Int)=>AC cp w_.lH y0) dJ).bind fun dC =>
        (bif dC then
        ((Cm s bW).bind fun dW =>
        ((Jj dW ([dJ]:List Int)).bind fun iK =>
        ((Cm s bW).bind fun dP =>
        ((upd s bW iK).bind fun bk =>
        some bk))))
        else
        some s)):Option (List (List Int))).bind fun s1=>some (s1,true))) ?_ aC ⟨ii,cx,c2,c3,me,mm,d8,Ae.le_refl _⟩ dM.1 jb dM.2.1 jc dM.2.2 jd ir,?_⟩
     ·
      intro s bW dJ s' oj d3 ib jx  em
      obtain⟨ij,ao,ap,a3,e7,cv,b4,di⟩:=jx
      obtain⟨pf,bm,em⟩:=Av em
      cases em
      replace bd:=bd.mono di
      replace be:=be.mono di
      replace bf:=bf.mono di
      replace cv:Ah ij d3 (JO y z aa ab aq ar aB ax ay az) [⟨CH d w_ p l q m u ac ai ad aj ae ak,some 94⟩,⟨Ie af t_ al ag am ah an,some 52⟩,⟨[Wu ao s.length ap],some 36⟩,⟨FK d w_ p l q m u,some 112⟩,⟨Eu cA,none⟩,⟨Eu cA,some 141⟩,⟨JN bh dO bi,none⟩] (⟨ao,s.length,ap,29,1,BA FG a3 s,0⟩::a3) ib:=cv
      refine QJ fm (cv.ext e7.loop) ?_
      have kq:Kn 95 (JO y z aa ab aq ar aB ax ay az) [tI 60 dJ,tI 59 bW,tP 6 3 0,tP 5 2 0] _:=((e5.kp.put (k:=59) (by decide) (.one (.c (Ws bW)))).put (k:=60) (by decide) (.one (.c (Ws dJ))))
      refine QI (Df (by kernel_rfl) (Rk 0 1 [tI 12 bW,tI 60 dJ,tP 6 3 0,tP 5 2 0] kq cv fun pt kr=>?_))
      refine wf (Df (by kernel_rfl) (Rk 0 1 [tI 13 dJ,tI 12 bW,tP 6 3 0,tP 5 2 0] kr cv fun pu ks=>?_))
      refine wf ?_
      refine⟨cv.ext e7.loop,?_⟩
      obtain⟨dt,ec,oo,dm⟩:=Ah.loopStep cv e7 { cq with state:=.busy }
      replace dm:Ah dt d3 (JO y z aa ab aq ar aB ax ay az) [⟨CH d w_ p l q m u ac ai ad aj ae ak,some 94⟩,⟨Ie af t_ al ag am ah an,some 52⟩,⟨[Wu ao s.length ap],some 36⟩,⟨FK d w_ p l q m u,some 112⟩,⟨Eu cA,none⟩,⟨Eu cA,some 141⟩,⟨JN bh dO bi,none⟩] (⟨ao,s.length,ap,29,1,BA FG a3 s,0⟩::a3) (World.putObj ib ((ds).heap.size+1) (.loop { cq with state:=.busy })):=dm
      refine OE (QI (Df (by kernel_rfl) (Rk 0 2 [tI 62 dJ,(61,.one (.c (.func (.func 73) #[.agg #[.slice d w_.lH.lA.length p,.int .i64 w_.lH.turn.lo,.int .i64 w_.lH.turn.hi,.slice l w_.lH.lB.length q,.slice m w_.lH.lC.length u,.int .i64 w_.lH.lI,.int .i64 w_.lH.gap,.int .i64 w_.lH.fr,.int .i64 w_.lH.to_]] #[]))),tI 13 dJ,tI 12 bW,tP 5 2 0] ks dm fun pv ku=>?_)))
      obtain⟨dC,gW,bm⟩:=Av bm
      refine wl fun K hK=>?_
      refine D1 (.func (.func 73) #[.agg #[.slice d w_.lH.lA.length p,.int .i64 w_.lH.turn.lo,.int .i64 w_.lH.turn.hi,.slice l w_.lH.lB.length q,.slice m w_.lH.lC.length u,.int .i64 w_.lH.lI,.int .i64 w_.lH.gap,.int .i64 w_.lH.fr,.int .i64 w_.lH.to_]] #[]) [.c (Ws dJ)] _ ku dm rfl rfl (by decide) (by rfl) (by rfl) rfl ((show VZ d3 (.func (.func 73) #[.agg #[.slice d w_.lH.lA.length p,.int .i64 w_.lH.turn.lo,.int .i64 w_.lH.turn.hi,.slice l w_.lH.lB.length q,.slice m w_.lH.lC.length u,.int .i64 w_.lH.lI,.int .i64 w_.lH.gap,.int .i64 w_.lH.fr,.int .i64 w_.lH.to_]] #[]) (fun(y0:Int)=>AC cp w_.lH y0) from fun h2 w2 hle hh y0 r H=>⟨73,_,_,rfl,fun _ _=>by kernel_rfl,F5 cp hh w_.lH (Rep.mono hle ((Ab (Ad bd) (Ab (Ab Ac Ac) (Ab (Ad be) (Ab (Ad bf) (Ab Ac (Ab Ac (Ab Ac Ac))))))):rep d3 w_.lH _)) y0 H⟩) _ _ (Ae.le_refl _) dm.has dJ _ gW) fun qe cg qt i3 dj co=>?_
      replace b4:=b4.mono dj
      obtain rfl:=i3
      refine⟨.one (.c (.bool dC)),rfl,fun h7 (kv:Kn 95 (JO y z aa ab aq ar aB ax ay az) [tB 63 dC,tI 62 dJ,(61,.one (.c (.func (.func 73) #[.agg #[.slice d w_.lH.lA.length p,.int .i64 w_.lH.turn.lo,.int .i64 w_.lH.turn.hi,.slice l w_.lH.lB.length q,.slice m w_.lH.lC.length u,.int .i64 w_.lH.lI,.int .i64 w_.lH.gap,.int .i64 w_.lH.fr,.int .i64 w_.lH.to_]] #[]))),tI 13 dJ,tI 12 bW,tP 5 2 0] h7)=>hK _ _ ?_⟩
      have gx:Kn 95 (JO y z aa ab aq ar aB ax ay az) [tB 63 dC,tI 13 dJ,tI 12 bW,tP 5 2 0] h7:=kv.kp
      refine wf (SB (dC) gx (by kernel_rfl) (fun ew=>?_) (fun ew=>?_))
      ·
       rw [ew,XW] at bm
       refine JD (by kernel_rfl) (by kernel_rfl) ?_
       replace co:=co.drew
       refine Ao [] (JO y z aa ab aq ar aB ax ay az) [⟨CH d w_ p l q m u ac ai ad aj ae ak,some 94⟩,⟨Ie af t_ al ag am ah an,some 52⟩,⟨[Wu ao s.length ap],some 36⟩,⟨FK d w_ p l q m u,some 112⟩,⟨Eu cA,none⟩,⟨Eu cA,some 141⟩,⟨JN bh dO bi,none⟩] ?_
       refine Dr [0,1,2,3] (dn 3) [tI 67 bW,tS 66 ao s.length ap,tI 65 bW,tS 64 ao s.length ap,tI 13 dJ] gx co fun pw kw=>?_
       obtain⟨dW,jY,bm⟩:=Av bm
       obtain⟨ho,hu,h0⟩:=Ai jY
       have l5:=C1 ho hu
       obtain⟨b1,dg⟩:=CV co (i:=0) rfl (b0:=0+Wv bW*1) (Kq CB (by decide) b4.len l5)
       have fc:=co.addPlc (b:=b1) (o:=0+Wv bW*1) (cs:=[]) (fun j c hj=>by simp at hj) rfl (by kernel_rfl) (by kernel_rfl)
       obtain⟨bz,b2,dr,gs,ji⟩:=b4.get h0
       have d7:∀ (e:Bh) k c,([Wu bz dW.length b2]:List SC)[k]? = some c→((BA FG a3 s))[0+Wv bW*1+k]? = some (c.den e):=fun e k c hk=>Fm CB gs h0 k _ (Ak hk)
       refine Az 4 (bW) [Wu bz dW.length b2] (fun _ _ _ _ _ h=>h) rfl rfl (rfl) rfl (by decide) (by kernel_rfl) (by kernel_rfl) kw co.plOk (by rfl) (by rfl) (by rfl) dg (by rfl) ho hu (by kernel_rfl) fun n0 (kx:Kn 95 (Th y z aa ab aq ar aB ax ay az b1 bW) [tP 68 7 0,tI 67 bW,tS 66 ao s.length ap,tI 65 bW,tS 64 ao s.length ap,tI 13 dJ] n0)=>?_
       refine IX [5,6] [6,5,4,3,2,1,0] [70,69,65,64] [tI 70 dJ,tS 69 bz dW.length b2,tI 65 bW,tS 64 ao s.length ap] (fun _ _ _ _ _ h=>h) kx (Ay.peek fc.plOk fc 0 7 rfl rfl dg [Wu bz dW.length b2] (d7 _)) (by kernel_rfl) (by rfl) (by kernel_rfl) fun px ky=>?_
       refine Dl 7 fun K hK=>?_
       refine wS 3 1 [Ws dJ] ky fc fun ck n2 oe (kz:Kn 95 (Th y z aa ab aq ar aB ax ay az b1 bW) [tS 71 ck 1 1,tI 70 dJ,tS 69 bz dW.length b2,tI 65 bW,tS 64 ao s.length ap] n2) mo=>?_
       have ee:Ah dt cg (Th y z aa ab aq ar aB ax ay az b1 bW) [⟨CH d w_ p l q m u ac ai ad aj ae ak,some 94⟩,⟨Ie af t_ al ag am ah an,some 52⟩,⟨[Wu ao s.length ap],some 36⟩,⟨FK d w_ p l q m u,some 112⟩,⟨Eu cA,none⟩,⟨Eu cA,some 141⟩,⟨JN bh dO bi,none⟩,⟨[],none⟩] (⟨ao,s.length,ap,29,1,BA FG a3 s,0⟩::⟨ck,1,1,3,1,([.int .i64 dJ]:Wx),0⟩::a3) oe:=Ah.famIn [⟨ao,s.length,ap,29,1,BA FG a3 s,0⟩] mo
       have ey:Ag cg ([dJ]:List Int) ([.int .i64 dJ]:Wx):=⟨_,_,rfl,(Ac:rep cg (dJ:Int) _),rfl⟩
       refine hK _ _ (Ay.peek ee.plOk ee 0 7 rfl rfl dg [Wu bz dW.length b2] (d7 _)) ?_
       obtain⟨iK,ex72,bm⟩:=Av bm
       obtain⟨fn,l6⟩:=Bb ex72
       refine Dl 8 fun K hK=>?_
       refine AD (r:=⟨bz,dW.length,b2,3,1,dr,0⟩) ((bW:Int).toNat+2) 8 1 _ (iK.length) _ ([.int .i64 dJ]:Wx) kz ee rfl rfl (by decide) (by exact gs) (by rfl) (by kernel_rfl) (by rfl) (by rfl) (Ag.len ey) (ee.rowCell (i:=1) rfl) ey.one (by rw [fn]; simp <;> omega) (by rw [fn]; exact l6) (by decide) fun cl cm iz n3 qv jq (k0:Kn 95 (Th y z aa ab aq ar aB ax ay az b1 bW) [tS 72 cl iK.length cm,tS 71 ck 1 1,tI 70 dJ,tS 69 bz dW.length b2,tI 65 bW,tS 64 ao s.length ap] n3) c8=>?_
       have jj:Ag cg iK (dr++([.int .i64 dJ]:Wx)):=by rw [fn]; exact Ag.append ji ey
       obtain rfl:iz=0:=Nat.le_zero.1 jq
       refine hK _ _ (Ay.peek c8.plOk c8 0 7 rfl rfl dg [Wu bz dW.length b2] (d7 _)) ?_
       obtain⟨dP,ex73,bm⟩:=Av bm
       obtain⟨hp,hv,fp⟩:=Ai ex73
       have ea:=C1 hp hv
       obtain⟨cy,gm⟩:=CV c8 (i:=0) rfl (b0:=0+Wv bW*1) (Kq CB (by decide) b4.len ea)
       have mp:=c8.addPlc (b:=cy) (o:=0+Wv bW*1) (cs:=[]) (fun j c hj=>by simp at hj) rfl (by kernel_rfl) (by kernel_rfl)
       obtain⟨f9,gd,qi,gu,ow⟩:=b4.get fp
       have ox:∀ (e:Bh) k c,([Wu f9 dP.length gd]:List SC)[k]? = some c→((BA FG a3 s))[0+Wv bW*1+k]? = some (c.den e):=fun e k c hk=>Fm CB gu fp k _ (Ak hk)
       refine Az 9 (bW) [Wu f9 dP.length gd] (fun _ _ _ _ _ h=>h) rfl rfl (rfl) rfl (by decide) (by kernel_rfl) (by kernel_rfl) k0 (Ay.peek c8.plOk c8 0 7 rfl rfl dg [Wu bz dW.length b2] (d7 _)) (by rfl) (by rfl) (by rfl) gm (by rfl) hp hv (by kernel_rfl) fun fz (k2:Kn 95 [(y,0),(z,0),(aa,0),(ab,0),(aq,ar+Wv aB*3),(ax,0),(ay,az+Wv aB*2),(b1,0+Wv bW*1),(cy,0+Wv bW*1)] [tP 73 8 0,tS 72 cl iK.length cm,tS 71 ck 1 1,tI 70 dJ,tS 69 bz dW.length b2,tI 65 bW,tS 64 ao s.length ap] fz)=>?_
       obtain⟨bk,iv,bm⟩:=Av bm
       obtain⟨pa,pd,ej⟩:=Er iv
       refine Cq 10 rfl (by kernel_rfl) (by decide) (rfl) (by kernel_rfl) fun K hK=>?_
       refine EM 0 8 0 (0+Wv bW*1) (.c (Wu cl iK.length cm)) k2 mp rfl rfl (by rfl) (by rfl) rfl rfl gm rfl (by kernel_rfl) (OI CB b4.len ea (Xf rfl)) fun ic k3 mq=>?_
       have ni:((BA FG a3 s).take (0+Wv bW*1+0)++([.slice cl iK.length cm]:Wx)++(BA FG a3 s).drop (0+Wv bW*1+0+1))=(BA FG (List.set a3 (Wv bW) ⟨cl,iK.length,cm,3,1,dr++([.int .i64 dJ]:Wx),0⟩) bk):=by rw [ej]; exact LN (r':=⟨cl,iK.length,cm,3,1,dr++([.int .i64 dJ]:Wx),0⟩) CB gu fp rfl (Xf rfl)
       have fj:s.length=bk.length:=by rw [ej]; simp
       obtain⟨de,gp,mr⟩:∃ f,Fw Tb 3 1 cg f bk∧Ah dt cg [(y,0),(z,0),(aa,0),(ab,0),(aq,ar+Wv aB*3),(ax,0),(ay,az+Wv aB*2),(b1,0+Wv bW*1),(cy,0+Wv bW*1)] [⟨[Wu d w_.lH.lA.length p,Ws w_.lH.turn.lo,Ws w_.lH.turn.hi,Wu l w_.lH.lB.length q,Wu m w_.lH.lC.length u,Ws w_.lH.lI,Ws w_.lH.gap,Ws w_.lH.fr,Ws w_.lH.to_,Wu ac w_.acts.lD.length ai,Wu ad w_.acts.lE.length aj,Wu ae w_.acts.lC.length ak],some 94⟩,⟨(Wr t_ af al ag am ah an),some 52⟩,⟨[Wu ao s.length ap],some 36⟩,⟨[.func (.func 73) #[.agg #[.slice d w_.lH.lA.length p,.int .i64 w_.lH.turn.lo,.int .i64 w_.lH.turn.hi,.slice l w_.lH.lB.length q,.slice m w_.lH.lC.length u,.int .i64 w_.lH.lI,.int .i64 w_.lH.gap,.int .i64 w_.lH.fr,.int .i64 w_.lH.to_]] #[]],some 112⟩,⟨[Ws cA.stop,Ws cA.tm,Ws cA.lF],none⟩,⟨[Ws cA.stop,Ws cA.tm,Ws cA.lF],some 141⟩,⟨[Wu bh dO.lA.length bi,Ws dO.turn],none⟩,⟨[],none⟩,⟨[],none⟩] (⟨ao,s.length,ap,29,1,BA FG f bk,0⟩::⟨ck,1,1,3,1,([.int .i64 dJ]:Wx),0⟩::f) ic:=⟨List.set a3 (Wv bW) ⟨cl,iK.length,cm,3,1,dr++([.int .i64 dJ]:Wx),0⟩,(by rw [ej]; exact b4.set ⟨rfl,rfl,rfl,rfl,jj⟩),by rw [← ni]; exact mq⟩
       have k4:Kn 95 [(y,0),(z,0),(aa,0),(ab,0),(aq,ar+Wv aB*3),(ax,0),(ay,az+Wv aB*2),(b1,0+Wv bW*1),(cy,0+Wv bW*1)] [(73,.one (.c (.ptr 8 0))),(72,.one (.c (Wu cl iK.length cm))),(71,.one (.c (Wu ck 1 1))),(70,.one (.c (Ws dJ))),(69,.one (.c (Wu bz dW.length b2))),(65,.one (.c (Ws bW))),(64,.one (.c (Wu ao bk.length ap)))] fz:=by rw [← fj]; exact k3
       have g8:Ah dt cg [(y,0),(z,0),(aa,0),(ab,0),(aq,ar+Wv aB*3),(ax,0),(ay,az+Wv aB*2),(b1,0+Wv bW*1),(cy,0+Wv bW*1)] [⟨[.slice d w_.lH.lA.length p,.int .i64 w_.lH.turn.lo,.int .i64 w_.lH.turn.hi,.slice l w_.lH.lB.length q,.slice m w_.lH.lC.length u,.int .i64 w_.lH.lI,.int .i64 w_.lH.gap,.int .i64 w_.lH.fr,.int .i64 w_.lH.to_,.slice ac w_.acts.lD.length ai,.slice ad w_.acts.lE.length aj,.slice ae w_.acts.lC.length ak],some 94⟩,⟨[.slice af t_.tm.length al,.slice ag t_.lE.length am,.slice ah t_.lA.length an],some 52⟩,⟨[.slice ao bk.length ap],some 36⟩,⟨[.func (.func 73) #[.agg #[.slice d w_.lH.lA.length p,.int .i64 w_.lH.turn.lo,.int .i64 w_.lH.turn.hi,.slice l w_.lH.lB.length q,.slice m w_.lH.lC.length u,.int .i64 w_.lH.lI,.int .i64 w_.lH.gap,.int .i64 w_.lH.fr,.int .i64 w_.lH.to_]] #[]],some 112⟩,⟨[.int .i64 cA.stop,.int .i64 cA.tm,.int .i64 cA.lF],none⟩,⟨[.int .i64 cA.stop,.int .i64 cA.tm,.int .i64 cA.lF],some 141⟩,⟨[.slice bh dO.lA.length bi,.int .i64 dO.turn],none⟩,⟨[],none⟩,⟨[],none⟩] (⟨ao,bk.length,ap,29,1,BA FG de bk,0⟩::⟨ck,1,1,3,1,([.int .i64 dJ]:Wx),0⟩::de) ic:=by rw [← fj]; exact mr
       have o5:(Wv bW)<bk.length:=by rw [← fj]; exact ea
       have h1:bk[(Wv bW)]? = some iK:=by rw [ej]; exact WY ea
       obtain⟨io,iq,qj,jv,oy⟩:=gp.get h1
       have oz:∀ (e:Bh) k c,([Wu io iK.length iq]:List SC)[k]? = some c→((BA FG de bk))[0+Wv bW*1+k]? = some (c.den e):=fun e k c hk=>Fm CB jv h1 k _ (Ak hk)
       refine hK _ _ ?_
       have o3:Kn 95 [(y,0),(z,0),(aa,0),(ab,0),(aq,ar+Wv aB*3),(ax,0),(ay,az+Wv aB*2),(b1,0+Wv bW*1),(cy,0+Wv bW*1)] [] fz:=k4.kp
       refine Em (by kernel_rfl) ?_
       obtain rfl:=XZ bm
       refine⟨g8.ext ec.loop,?_⟩
       rw [fm.eq]
       obtain⟨ik,mf,op,ms⟩:=Ah.loopStep g8 ec cq
       exact⟨rfl,cg,dj,ik,ao,ap,de,mf,(Ah.famCut [⟨ao,bk.length,ap,29,1,BA FG de bk,0⟩] [⟨ck,1,1,3,1,([.int .i64 dJ]:Wx),0⟩] (ms)).cutPl 7 (by kernel_rfl),gp,XU di dj⟩
      ·
       rw [ew,XV] at bm
       refine Vr ?_
       obtain rfl:=XZ bm
       refine⟨co.ext ec.loop,?_⟩
       rw [fm.eq]
       obtain⟨il,mg,oq,mt⟩:=Ah.loopStep co ec cq
       exact⟨rfl,cg,dj,il,ao,ap,a3,mg,mt,b4,XU di dj⟩
     ·
      intro og i5
      obtain⟨i7,_,jy⟩:=i5
      obtain⟨oi,en,eo,ep,g2,g9,jr,mc⟩:=jy
      refine⟨g9.ext g2.loop,?_⟩
      obtain⟨f7,g3,os,eg⟩:=Ah.loopStep g9 g2 { cq with state:=.exhausted }
      replace eg:Ah f7 i7 (JO y z aa ab aq ar aB ax ay az) [⟨CH d w_ p l q m u ac ai ad aj ae ak,some 94⟩,⟨Ie af t_ al ag am ah an,some 52⟩,⟨[Wu en el.length eo],some 36⟩,⟨FK d w_ p l q m u,some 112⟩,⟨Eu cA,none⟩,⟨Eu cA,some 141⟩,⟨JN bh dO bi,none⟩] (⟨en,el.length,eo,29,1,BA FG ep el,0⟩::ep) (World.putObj og ((ds).heap.size+1) (.loop { cq with state:=.exhausted })):=eg
      refine Aa (Rk 0 2 ((tI 46 (Wt (aB+1)))::(Fx bK a5 a6 a1 a2)) e5 eg fun p0 k7=>?_)
      refine wf ?_
      exact XY cp ⟨Xc _,XY el ⟨Wt (aB+1),en,eo,ep,f7,((ds).heap.size::c0),_,_,rfl,(k7.keep [46,45,44,9,6,5,2] (by rfl)).cut 4 (by kernel_rfl),eg.cutPl 4 (by kernel_rfl),XU bp (XU bn mc),jr,g3.of,g3.marks,bj⟩⟩
    ·
     rw [ev,XV] at bj
     refine wp_exit ?_
     obtain rfl:=XZ bj
     exact XY cx ⟨c2,c3,dc,c0,_,_,rfl,e4.kp,ed,bp,d8,hg,hf⟩
  ·
   rintro _ qw ⟨du,dz,dd,bl,c1,fx,c4,rfl,k8,ha,ci,jp,m5,m3⟩
   replace bd:=bd.mono ci
   replace be:=be.mono ci
   replace bf:=bf.mono ci
   replace bq:=bq.mono ci
   replace br:=br.mono ci
   replace bt:=bt.mono ci
   replace bu:=bu.mono ci
   replace bv:=bv.mono ci
   replace bw:=bw.mono ci
   refine XT (XT (Aa (Rk 0 3 [tI 77 0,tI 76 ((aw.length:Nat):Int),tP 5 2 0] k8 ha fun p1 k9=>?_)))
   refine wf ?_
   obtain⟨bg,gi,H⟩:=Av H
   refine A0 (fun a' w'=>∃ (b7:Ww)(b8:Nat)(cn:List CO)(f0:Array Value)(d5:Ae),a' = ⟨f0,List.map KX c1⟩∧Kn 95 (FJ y z aa ab) [tP 5 2 0] f0∧Ah bl d5 (FJ y z aa ab) [⟨CH d w_ p l q m u ac ai ad aj ae ak,some 94⟩,⟨Ie af t_ al ag am ah an,some 52⟩,⟨[Wu b7 bg.length b8],some 36⟩,⟨FK d w_ p l q m u,some 112⟩] (⟨b7,bg.length,b8,29,1,BA FG cn bg,0⟩::cn) w'∧Ae.le c4 d5∧Fw Tb 3 1 d5 cn bg) ?_ ?_
   ·
    refine wp_block ?_
    refine Au (fun nr a' w'=>∃ (aH:List (List Int))(aL:Int)(au:Ww)(av:Nat)(b9:List CO)(f1:Array Value)(bo:Ae),a' = ⟨f1,List.map KX c1⟩∧Kn 95 (FJ y z aa ab) (Gl aL aw) f1∧Ah bl bo (FJ y z aa ab) [⟨CH d w_ p l q m u ac ai ad aj ae ak,some 94⟩,⟨Ie af t_ al ag am ah an,some 52⟩,⟨[Wu au aH.length av],some 36⟩,⟨FK d w_ p l q m u,some 112⟩] (⟨au,aH.length,av,29,1,BA FG b9 aH,0⟩::b9) w'∧Ae.le c4 bo∧Fw Tb 3 1 bo b9 aH∧Bz nr aw aH aL=some bg) n ?_ ?_
    ·
     exact XY aw ⟨0,du,dz,dd,_,_,rfl,k9.kp,ha,Ae.le_refl _,jp,gi⟩
    ·
     rintro fv _ qy ⟨aH,aL,au,av,b9,f1,bo,rfl,la,c9,g1,d9,a4⟩
     clear gi
     obtain _ | fv:=fv
     ·
      rw [Bz] at a4; cases a4
     rw [Bz] at a4
     refine XT (Aa (Rk 0 1 ((tB 78 (decide (aL<((aw.length:Nat):Int))))::(Gl aL aw)) la c9 fun p2 e6=>?_))
     refine wf (XT (wC (decide (aL<((aw.length:Nat):Int))) e6 (fun ex=>?_) (fun ex=>?_)))
     ·
      rw [ex,XW] at a4
      refine wp_skip (XT (wp_block (XT (Aa (Rk 0 2 ((tI 14 aL)::(Gl aL aw)) e6 c9 fun p3 lb=>?_)))))
      refine wf (XT (Aa (Rk 0 2 ((tI 81 aL)::(tS 80 au aH.length av)::(tI 14 aL)::(Gl aL aw)) lb c9 fun p4 lc=>?_)))
      obtain⟨eK,jZ,a4⟩:=Av a4
      obtain⟨hq,hw,fq⟩:=Ai jZ
      have l7:=C1 hq hw
      obtain⟨bb,gn⟩:=CV c9 (i:=0) rfl (b0:=0+Wv aL*1) (Kq CB (by decide) d9.len l7)
      have fd:=c9.addPlc (b:=bb) (o:=0+Wv aL*1) (cs:=[]) (fun j c hj=>by simp at hj) rfl (by kernel_rfl) (by kernel_rfl)
      obtain⟨cd,cf,ob,e2,jk⟩:=d9.get fq
      have jl:∀ (e:Bh) k c,([Wu cd eK.length cf]:List SC)[k]? = some c→((BA FG b9 aH))[0+Wv aL*1+k]? = some (c.den e):=fun e k c hk=>Fm CB e2 fq k _ (Ak hk)
      refine Bl 2 (aL) rfl rfl (rfl) rfl (by decide) lc (by rfl) (by rfl) (by rfl) gn (by rfl) hq hw (by kernel_rfl) fun n4 (ld:Kn 95 (RX y z aa ab bb aL) ((tP 82 4 0)::(tI 81 aL)::(tS 80 au aH.length av)::(tI 14 aL)::(Gl aL aw)) n4)=>?_
      refine I5 3 1 [83,14,77,76,5] ((tS 83 cd eK.length cf)::(tI 14 aL)::(Gl aL aw)) ld (Ay.peek fd.plOk fd 0 4 rfl rfl gn [Wu cd eK.length cf] (jl _)) (by kernel_rfl) fun p5 lf=>?_
      obtain⟨oa,iw,a4⟩:=Av a4
      obtain⟨a0,ix,a4⟩:=Av a4
      obtain⟨l8,nn⟩:=SF iw
      obtain⟨_,_,fs⟩:=Er ix
      refine wl fun K hK=>?_
      refine Vv (r:=⟨cd,eK.length,cf,3,1,ob,0⟩) Tryz.sorts ((Wv aL)+1) lf fd rfl rfl (by decide) (by rfl) (fun _ _=>by kernel_rfl) (by exact e2) rfl rfl rfl jk l8 fun h8 f6 (lg:Kn 95 (RX y z aa ab bb aL) ((84,.tup [])::(tS 83 cd eK.length cf)::(tI 14 aL)::(Gl aL aw)) h8) (mv:Ah bl bo (RX y z aa ab bb aL) [⟨CH d w_ p l q m u ac ai ad aj ae ak,some 94⟩,⟨Ie af t_ al ag am ah an,some 52⟩,⟨[Wu au aH.length av],some 36⟩,⟨FK d w_ p l q m u,some 112⟩,⟨[],none⟩] (⟨au,aH.length,av,29,1,BA FG b9 aH,0⟩::(List.set b9 (Wv aL) ⟨cd,eK.length,cf,3,1,List.map (Value.int .i64) (Et eK),0⟩)) f6)=>?_
      have nj:(BA FG b9 aH)=(BA FG (List.set b9 (Wv aL) ⟨cd,eK.length,cf,3,1,List.map (Value.int .i64) (Et eK),0⟩) a0):=by rw [fs]; exact(PX (g:=FG) (r':=⟨cd,eK.length,cf,3,1,List.map (Value.int .i64) (Et eK),0⟩) (x':=oa) e2 fq rfl).symm
      have m4:aH.length=a0.length:=by rw [fs]; simp
      obtain⟨cb,c6,mw⟩:∃ f,Fw Tb 3 1 bo f a0∧Ah bl bo [(y,0),(z,0),(aa,0),(ab,0),(bb,0+Wv aL*1)] [⟨[Wu d w_.lH.lA.length p,Ws w_.lH.turn.lo,Ws w_.lH.turn.hi,Wu l w_.lH.lB.length q,Wu m w_.lH.lC.length u,Ws w_.lH.lI,Ws w_.lH.gap,Ws w_.lH.fr,Ws w_.lH.to_,Wu ac w_.acts.lD.length ai,Wu ad w_.acts.lE.length aj,Wu ae w_.acts.lC.length ak],some 94⟩,⟨(Wr t_ af al ag am ah an),some 52⟩,⟨[Wu au aH.length av],some 36⟩,⟨[.func (.func 73) #[.agg #[.slice d w_.lH.lA.length p,.int .i64 w_.lH.turn.lo,.int .i64 w_.lH.turn.hi,.slice l w_.lH.lB.length q,.slice m w_.lH.lC.length u,.int .i64 w_.lH.lI,.int .i64 w_.lH.gap,.int .i64 w_.lH.fr,.int .i64 w_.lH.to_]] #[]],some 112⟩,⟨[],none⟩] (⟨au,aH.length,av,29,1,BA FG f a0,0⟩::f) f6:=⟨List.set b9 (Wv aL) ⟨cd,eK.length,cf,3,1,List.map (Value.int .i64) (Et eK),0⟩,(by rw [fs,nn]; exact d9.set ⟨rfl,rfl,rfl,(Kp _).symm,IC _ _⟩),by rw [← nj]; exact mv⟩
      have li:=lg
      have da:Ah bl bo [(y,0),(z,0),(aa,0),(ab,0),(bb,0+Wv aL*1)] [⟨[.slice d w_.lH.lA.length p,.int .i64 w_.lH.turn.lo,.int .i64 w_.lH.turn.hi,.slice l w_.lH.lB.length q,.slice m w_.lH.lC.length u,.int .i64 w_.lH.lI,.int .i64 w_.lH.gap,.int .i64 w_.lH.fr,.int .i64 w_.lH.to_,.slice ac w_.acts.lD.length ai,.slice ad w_.acts.lE.length aj,.slice ae w_.acts.lC.length ak],some 94⟩,⟨[.slice af t_.tm.length al,.slice ag t_.lE.length am,.slice ah t_.lA.length an],some 52⟩,⟨[.slice au a0.length av],some 36⟩,⟨[.func (.func 73) #[.agg #[.slice d w_.lH.lA.length p,.int .i64 w_.lH.turn.lo,.int .i64 w_.lH.turn.hi,.slice l w_.lH.lB.length q,.slice m w_.lH.lC.length u,.int .i64 w_.lH.lI,.int .i64 w_.lH.gap,.int .i64 w_.lH.fr,.int .i64 w_.lH.to_]] #[]],some 112⟩,⟨[],none⟩] (⟨au,a0.length,av,29,1,BA FG cb a0,0⟩::cb) f6:=by rw [← m4]; exact mw
      refine hK _ _ ?_
      have lj:Kn 95 (RX y z aa ab bb aL) ((tI 14 aL)::(Gl aL aw)) h8:=li.kp
      refine wf (Am (by kernel_rfl) ?_)
      replace da:=da.drew
      refine Ao [] (RX y z aa ab bb aL) [⟨CH d w_ p l q m u ac ai ad aj ae ak,some 94⟩,⟨Ie af t_ al ag am ah an,some 52⟩,⟨[Wu au a0.length av],some 36⟩,⟨FK d w_ p l q m u,some 112⟩,⟨[],none⟩] ?_
      refine Dr [0,1,2,3] (dn 3) ((tI 88 aL)::(tS 87 au a0.length av)::(tI 86 aL)::(tS 85 au a0.length av)::(Gl aL aw)) lj da fun p6 lk=>?_
      obtain⟨cX,ex89,a4⟩:=Av a4
      obtain⟨hr,hx,h3⟩:=Ai ex89
      have l9:=C1 hr hx
      obtain⟨ce,d6⟩:=CV da (i:=0) rfl (b0:=0+Wv aL*1) (Kq CB (by decide) c6.len l9)
      have fe:=da.addPlc (b:=ce) (o:=0+Wv aL*1) (cs:=[]) (fun j c hj=>by simp at hj) rfl (by kernel_rfl) (by kernel_rfl)
      obtain⟨a7,a9,oc,gv,jm⟩:=c6.get h3
      have ez:∀ (e:Bh) k c,([Wu a7 cX.length a9]:List SC)[k]? = some c→((BA FG cb a0))[0+Wv aL*1+k]? = some (c.den e):=fun e k c hk=>Fm CB gv h3 k _ (Ak hk)
      refine Az 4 (aL) [Wu a7 cX.length a9] (fun _ _ _ _ _ h=>h) rfl rfl (rfl) rfl (by decide) (by kernel_rfl) (by kernel_rfl) lk da.plOk (by rfl) (by rfl) (by rfl) d6 (by rfl) hr hx (by kernel_rfl) fun n6 (ll:Kn 95 [(y,0),(z,0),(aa,0),(ab,0),(bb,0+Wv aL*1),(ce,0+Wv aL*1)] ((tP 89 5 0)::(tI 88 aL)::(tS 87 au a0.length av)::(tI 86 aL)::(tS 85 au a0.length av)::(Gl aL aw)) n6)=>?_
      refine IX [5] [5,4,3,2,1,0] [90,86,85,77,76,5] ((tS 90 a7 cX.length a9)::(tI 86 aL)::(tS 85 au a0.length av)::(Gl aL aw)) (fun _ _ _ _ _ h=>h) ll (Ay.peek fe.plOk fe 0 5 rfl rfl d6 [Wu a7 cX.length a9] (ez _)) (by kernel_rfl) (by rfl) (by kernel_rfl) fun p7 lm=>?_
      obtain⟨eA,ex91,a4⟩:=Av a4
      obtain⟨ma,np⟩:=SG ex91
      refine Dl 6 fun K hK=>?_
      refine SH (r:=⟨a7,cX.length,a9,3,1,oc,0⟩) Tryz.compacts ((Wv aL)+1) lm fe rfl rfl (by decide) (by rfl) (fun _ _=>by kernel_rfl) (by exact gv) rfl rfl rfl jm ma fun n7 oh (gy:Kn 95 [(y,0),(z,0),(aa,0),(ab,0),(bb,0+Wv aL*1),(ce,0+Wv aL*1)] [(91,.one (.c (Wu a7 ((Lib.compact cX).length) a9))),(90,.one (.c (Wu a7 cX.length a9))),(86,.one (.c (Ws aL))),(85,.one (.c (Wu au a0.length av))),(77,.one (.c (Ws aL))),(76,.one (.c (Ws ((aw.length:Nat):Int)))),(5,.one (.c (.ptr 2 0)))] n7) (cw:Ah bl bo [(y,0),(z,0),(aa,0),(ab,0),(bb,0+Wv aL*1),(ce,0+Wv aL*1)] [⟨[Wu d w_.lH.lA.length p,Ws w_.lH.turn.lo,Ws w_.lH.turn.hi,Wu l w_.lH.lB.length q,Wu m w_.lH.lC.length u,Ws w_.lH.lI,Ws w_.lH.gap,Ws w_.lH.fr,Ws w_.lH.to_,Wu ac w_.acts.lD.length ai,Wu ad w_.acts.lE.length aj,Wu ae w_.acts.lC.length ak],some 94⟩,⟨(Wr t_ af al ag am ah an),some 52⟩,⟨[Wu au a0.length av],some 36⟩,⟨[.func (.func 73) #[.agg #[.slice d w_.lH.lA.length p,.int .i64 w_.lH.turn.lo,.int .i64 w_.lH.turn.hi,.slice l w_.lH.lB.length q,.slice m w_.lH.lC.length u,.int .i64 w_.lH.lI,.int .i64 w_.lH.gap,.int .i64 w_.lH.fr,.int .i64 w_.lH.to_]] #[]],some 112⟩,⟨[],none⟩,⟨[],none⟩] (⟨au,a0.length,av,29,1,BA FG cb a0,0⟩::(List.set cb (Wv aL) ⟨a7,(Lib.compact cX).length,a9,3,1,List.map (Value.int .i64) (Lib.compact cX),0⟩)) oh)=>?_
      rw [← np] at gy cw
      have jn:Ag bo eA (List.map (Value.int .i64) eA):=IC _ _
      refine hK _ _ (Ay.peek cw.plOk cw 0 5 rfl rfl d6 [Wu a7 cX.length a9] (ez _)) ?_
      obtain⟨dX,iI,a4⟩:=Av a4
      obtain⟨hs,hy,ft⟩:=Ai iI
      have eb:=C1 hs hy
      obtain⟨cz,et⟩:=CV cw (i:=0) rfl (b0:=0+Wv aL*1) (Kq CB (by decide) c6.len eb)
      have mx:=cw.addPlc (b:=cz) (o:=0+Wv aL*1) (cs:=[]) (fun j c hj=>by simp at hj) rfl (by kernel_rfl) (by kernel_rfl)
      obtain⟨ga,gf,qk,gw,o0⟩:=c6.get ft
      have o1:∀ (e:Bh) k c,([Wu ga dX.length gf]:List SC)[k]? = some c→((BA FG cb a0))[0+Wv aL*1+k]? = some (c.den e):=fun e k c hk=>Fm CB gw ft k _ (Ak hk)
      refine Az 7 (aL) [Wu ga dX.length gf] (fun _ _ _ _ _ h=>h) rfl rfl (rfl) rfl (by decide) (by kernel_rfl) (by kernel_rfl) gy (Ay.peek cw.plOk cw 0 5 rfl rfl d6 [Wu a7 cX.length a9] (ez _)) (by rfl) (by rfl) (by rfl) et (by rfl) hs hy (by kernel_rfl) fun f2 (ln:Kn 95 [(y,0),(z,0),(aa,0),(ab,0),(bb,0+Wv aL*1),(ce,0+Wv aL*1),(cz,0+Wv aL*1)] ((tP 92 6 0)::(tS 91 a7 eA.length a9)::(tS 90 a7 cX.length a9)::(tI 86 aL)::(tS 85 au a0.length av)::(Gl aL aw)) f2)=>?_
      obtain⟨b6,iy,a4⟩:=Av a4
      obtain⟨pb,pe,ek⟩:=Er iy
      refine Cq 8 rfl (by kernel_rfl) (by decide) (rfl) (by kernel_rfl) fun K hK=>?_
      refine EM 0 6 0 (0+Wv aL*1) (.c (Wu a7 eA.length a9)) ln mx rfl rfl (by rfl) (by rfl) rfl rfl et rfl (by kernel_rfl) (OI CB c6.len eb (Xf rfl)) fun ie lp my=>?_
      have nk:((BA FG cb a0).take (0+Wv aL*1+0)++([.slice a7 eA.length a9]:Wx)++(BA FG cb a0).drop (0+Wv aL*1+0+1))=(BA FG (List.set cb (Wv aL) ⟨a7,eA.length,a9,3,1,List.map (Value.int .i64) eA,0⟩) b6):=by rw [ek]; exact LN (r':=⟨a7,eA.length,a9,3,1,List.map (Value.int .i64) eA,0⟩) CB gw ft rfl (Xf rfl)
      have fk:a0.length=b6.length:=by rw [ek]; simp
      obtain⟨d2,gq,mz⟩:∃ f,Fw Tb 3 1 bo f b6∧Ah bl bo [(y,0),(z,0),(aa,0),(ab,0),(bb,0+Wv aL*1),(ce,0+Wv aL*1),(cz,0+Wv aL*1)] [⟨[Wu d w_.lH.lA.length p,Ws w_.lH.turn.lo,Ws w_.lH.turn.hi,Wu l w_.lH.lB.length q,Wu m w_.lH.lC.length u,Ws w_.lH.lI,Ws w_.lH.gap,Ws w_.lH.fr,Ws w_.lH.to_,Wu ac w_.acts.lD.length ai,Wu ad w_.acts.lE.length aj,Wu ae w_.acts.lC.length ak],some 94⟩,⟨(Wr t_ af al ag am ah an),some 52⟩,⟨[Wu au a0.length av],some 36⟩,⟨[.func (.func 73) #[.agg #[.slice d w_.lH.lA.length p,.int .i64 w_.lH.turn.lo,.int .i64 w_.lH.turn.hi,.slice l w_.lH.lB.length q,.slice m w_.lH.lC.length u,.int .i64 w_.lH.lI,.int .i64 w_.lH.gap,.int .i64 w_.lH.fr,.int .i64 w_.lH.to_]] #[]],some 112⟩,⟨[],none⟩,⟨[],none⟩,⟨[],none⟩] (⟨au,a0.length,av,29,1,BA FG f b6,0⟩::f) ie:=⟨List.set cb (Wv aL) ⟨a7,eA.length,a9,3,1,List.map (Value.int .i64) eA,0⟩,(by rw [ek]; exact c6.set ⟨rfl,rfl,rfl,rfl,jn⟩),by rw [← nk]; exact my⟩
      have lq:Kn 95 [(y,0),(z,0),(aa,0),(ab,0),(bb,0+Wv aL*1),(ce,0+Wv aL*1),(cz,0+Wv aL*1)] [(92,.one (.c (.ptr 6 0))),(91,.one (.c (Wu a7 eA.length a9))),(90,.one (.c (Wu a7 cX.length a9))),(86,.one (.c (Ws aL))),(85,.one (.c (Wu au b6.length av))),(77,.one (.c (Ws aL))),(76,.one (.c (Ws ((aw.length:Nat):Int)))),(5,.one (.c (.ptr 2 0)))] f2:=by rw [← fk]; exact lp
      have ff:Ah bl bo [(y,0),(z,0),(aa,0),(ab,0),(bb,0+Wv aL*1),(ce,0+Wv aL*1),(cz,0+Wv aL*1)] [⟨[.slice d w_.lH.lA.length p,.int .i64 w_.lH.turn.lo,.int .i64 w_.lH.turn.hi,.slice l w_.lH.lB.length q,.slice m w_.lH.lC.length u,.int .i64 w_.lH.lI,.int .i64 w_.lH.gap,.int .i64 w_.lH.fr,.int .i64 w_.lH.to_,.slice ac w_.acts.lD.length ai,.slice ad w_.acts.lE.length aj,.slice ae w_.acts.lC.length ak],some 94⟩,⟨[.slice af t_.tm.length al,.slice ag t_.lE.length am,.slice ah t_.lA.length an],some 52⟩,⟨[.slice au b6.length av],some 36⟩,⟨[.func (.func 73) #[.agg #[.slice d w_.lH.lA.length p,.int .i64 w_.lH.turn.lo,.int .i64 w_.lH.turn.hi,.slice l w_.lH.lB.length q,.slice m w_.lH.lC.length u,.int .i64 w_.lH.lI,.int .i64 w_.lH.gap,.int .i64 w_.lH.fr,.int .i64 w_.lH.to_]] #[]],some 112⟩,⟨[],none⟩,⟨[],none⟩,⟨[],none⟩] (⟨au,b6.length,av,29,1,BA FG d2 b6,0⟩::d2) ie:=by rw [← fk]; exact mz
      have o6:(Wv aL)<b6.length:=by rw [← fk]; exact eb
      have h5:b6[(Wv aL)]? = some eA:=by rw [ek]; exact WY eb
      obtain⟨gb,gg,ql,jw,o2⟩:=gq.get h5
      have jo:∀ (e:Bh) k c,([Wu gb eA.length gg]:List SC)[k]? = some c→((BA FG d2 b6))[0+Wv aL*1+k]? = some (c.den e):=fun e k c hk=>Fm CB jw h5 k _ (Ak hk)
      refine hK _ _ ?_
      have lr:Kn 95 [(y,0),(z,0),(aa,0),(ab,0),(bb,0+Wv aL*1),(ce,0+Wv aL*1),(cz,0+Wv aL*1)] (Gl aL aw) f2:=lq.kp
      refine Em (by kernel_rfl) (Aa (I5 0 2 [77,76,5] [tI 77 (Wt (aL+1)),tI 76 ((aw.length:Nat):Int),tP 5 2 0] lr (Ay.peek ff.plOk ff 0 6 rfl rfl et [Wu gb eA.length gg] (jo _)) (by kernel_rfl) fun p8 ls=>?_))
      refine wf ?_
      exact XY fv ⟨Xc _,XY b6 ⟨Wt (aL+1),au,av,d2,_,_,rfl,(ls.keep [77,76,5] (by rfl)).cut 4 (by kernel_rfl),ff.cutPl 4 (by kernel_rfl),g1,gq,a4⟩⟩
     ·
      rw [ex,XV] at a4
      refine wp_exit ?_
      obtain rfl:=XZ a4
      exact XY au ⟨av,b9,_,_,rfl,e6.kp,c9,g1,d9⟩
   ·
    rintro _ ig ⟨b7,b8,cn,f0,d5,rfl,lu,hc,o7,js⟩
    refine XT (Aa (Rk 0 2 [tS 4 b7 bg.length b8] lu hc fun p9 lv=>?_))
    refine wf (wp_ret ?_)
    obtain⟨i8,o8,eh,e0⟩:=Fw.settleAll [⟨b7,bg.length,b8,29,1,BA FG cn bg,0⟩] js Vw hc
    replace eh:Ah bl i8 (FJ y z aa ab) [⟨CH d w_ p l q m u ac ai ad aj ae ak,some 94⟩,⟨Ie af t_ al ag am ah an,some 52⟩,⟨[Wu b7 bg.length b8],some 36⟩,⟨FK d w_ p l q m u,some 112⟩] [⟨b7,bg.length,b8,29,1,BA FG cn bg,0⟩] ig:=eh
    obtain⟨gl,md,nd,fg⟩:=eh.settle (i:=0) rfl
    replace e0:=e0.mono md
    replace fg:Ah bl gl (FJ y z aa ab) [⟨CH d w_ p l q m u ac ai ad aj ae ak,some 94⟩,⟨Ie af t_ al ag am ah an,some 52⟩,⟨[Wu b7 bg.length b8],some 36⟩,⟨FK d w_ p l q m u,some 112⟩] [⟨b7,bg.length,b8,29,1,BA FG cn bg,((BA FG cn bg):Wx).length⟩] ig:=fg
    have nc:A4 gl b7 b8 bg:=⟨_,e0,nd,eh.rowCap (i:=0) rfl⟩
    obtain rfl:=XZ H
    exact RD (bs:=c1) (.one (.c (Wu b7 bg.length b8))) lv fg m3 m5 (by kernel_rfl) ⟨_,_,rfl,nc⟩
theorem M7 (n:Nat) {h:Ae} {w:World} (hh:Dk h w) (r_:Af) {aP:Wx} (aW:rep h r_ aP) (a:An) {cS:Wx} (dN:rep h a cS) (t_:Ap) {cI:Wx} (dF:rep h t_ cI) {r:(List (List Int))×Int} (H:D5 n r_ a t_=some r) :
  Calls Tryz.prog 17 #[.agg aP.toArray,.agg cS.toArray,.agg cI.toArray] w (Dq (fun h v=>∃ v0 v1,v=.tuple #[v0,v1]∧(∃ a c,v0=.slice a r.1.length c∧A4 h a c r.1)∧(v1=.int .i64 r.2)) h w):=by
 obtain⟨_,_,rfl,⟨b,f,rfl,ad⟩,⟨_,_,rfl,⟨_,_,rfl,rfl,rfl⟩,⟨_,_,rfl,⟨d,g,rfl,ae⟩,⟨_,_,rfl,⟨e,i,rfl,af⟩,⟨_,_,rfl,rfl,⟨_,_,rfl,rfl,⟨_,_,rfl,rfl,rfl⟩⟩⟩⟩⟩⟩⟩:=aW
 obtain⟨_,_,rfl,⟨j,m,rfl,ai⟩,⟨_,_,rfl,⟨k,o,rfl,aj⟩,⟨l,p,rfl,ak⟩⟩⟩:=dN
 obtain⟨_,_,rfl,⟨q,x,rfl,al⟩,⟨_,_,rfl,⟨s,y,rfl,am⟩,⟨u,z,rfl,an⟩⟩⟩:=dF
 refine enter 24 [.agg (UB b r_ f d g e i),.agg (OL j a m k o l p),.agg (Ie q t_ x s y u z)] Tryz.func17 rfl rfl rfl rfl fun t hk=>?_
 have hm:=Ah.begin h w hh
 unfold D5 at H
 refine XT (Aa (wl fun K hK=>?_))
 refine wb (.agg (UB b r_ f d g e i)) hk hm fun ag bm b8 (a5:Kn 24 [(ag,0)] [tP 3 0 0,tA 0 (UB b r_ f d g e i),tA 1 (OL j a m k o l p),tA 2 (Ie q t_ x s y u z)] bm) bj=>hK _ _ ?_
 refine wl fun K hK=>?_
 refine wb (.agg (OL j a m k o l p)) a5 bj fun ao bn b9 (a6:Kn 24 [(ag,0),(ao,0)] [tP 4 1 0,tP 3 0 0,tA 0 (UB b r_ f d g e i),tA 1 (OL j a m k o l p),tA 2 (Ie q t_ x s y u z)] bn) bk=>hK _ _ ?_
 refine wl fun K hK=>?_
 refine wb (.agg (Ie q t_ x s y u z)) a6 bk fun aq bo ca (a7:Kn 24 [(ag,0),(ao,0),(aq,0)] [tP 5 2 0,tP 4 1 0,tP 3 0 0,tA 0 (UB b r_ f d g e i),tA 1 (OL j a m k o l p),tA 2 (Ie q t_ x s y u z)] bo) au=>hK _ _ ?_
 refine Rk 3 2 [tP 5 2 0,tP 4 1 0,tP 3 0 0] a7 au fun bu a8=>?_
 refine wf (XT (XT (Aa (Rk 0 2 [tA 10 (OL j a m k o l p),tA 9 (UB b r_ f d g e i),tP 5 2 0,tP 4 1 0,tP 3 0 0] a8 au fun bv a9=>?_))))
 obtain⟨cW,fZ,H⟩:=Av H
 refine wl fun K hK=>?_
 refine wc [.agg (UB b r_ f d g e i),.agg (OL j a m k o l p)] a9 au (E3 n au.has r_ ((Ab (Ad ad) (Ab (Ab Ac Ac) (Ab (Ad ae) (Ab (Ad af) (Ab Ac (Ab Ac (Ab Ac Ac))))))):rep h r_ _) a ((Ab (Ad ai) (Ab (Ad aj) (Ad ak))):rep h a _) fZ) fun b5 az cb a2 aa ac=>?_
 replace ad:=ad.mono aa
 replace ae:=ae.mono aa
 replace af:=af.mono aa
 replace ai:=ai.mono aa
 replace aj:=aj.mono aa
 replace ak:=ak.mono aa
 replace al:=al.mono aa
 replace am:=am.mono aa
 replace an:=an.mono aa
 obtain rfl:=a2
 refine⟨.one (.c (Ws cW)),rfl,fun bp (ba:Kn 24 [(ag,0),(ao,0),(aq,0)] [tI 11 cW,tA 10 (OL j a m k o l p),tA 9 (UB b r_ f d g e i),tP 5 2 0,tP 4 1 0,tP 3 0 0] bp)=>hK _ _ ?_⟩
 refine Rk 3 1 [tI 8 cW,tP 5 2 0,tP 4 1 0,tP 3 0 0] ba ac fun bw bb=>?_
 refine wf (XT (Aa (Rk 0 2 [tB 13 (cW != 0),tI 8 cW,tP 5 2 0,tP 4 1 0,tP 3 0 0] bb ac fun bx ax=>?_)))
 refine wf (wC ((cW != 0)) ax (fun av=>?_) (fun av=>?_))
 ·
  rw [av,XW] at H
  refine XT (Aa (Rk 0 3 [tI 7 cW,tS 6 none 0 0] ax ac fun bz bc=>?_))
  refine wf (wp_ret ?_)
  obtain rfl:=XZ H
  exact rt (.tup [.c (Wu none 0 0),.c (Ws cW)]) bc ac ⟨_,_,rfl,⟨_,_,rfl,A4.nil⟩,rfl⟩
 ·
  rw [av,XV] at H
  refine wp_skip (XT (XT (Aa (Rk 0 2 [tA 16 (Ie q t_ x s y u z),tA 15 (UB b r_ f d g e i),tP 5 2 0,tP 4 1 0,tP 3 0 0] ax ac fun b0 bd=>?_))))
  obtain⟨bM,eU,H⟩:=Av H
  refine wl fun K hK=>?_
  refine wc [.agg (UB b r_ f d g e i),.agg (Ie q t_ x s y u z)] bd ac (IF n ac.has r_ ((Ab (Ad ad) (Ab (Ab Ac Ac) (Ab (Ad ae) (Ab (Ad af) (Ab Ac (Ab Ac (Ab Ac Ac))))))):rep az r_ _) t_ ((Ab (Ad al) (Ab (Ad am) (Ad an))):rep az t_ _) eU) fun b6 a0 cc a3 ab ah=>?_
  replace ad:=ad.mono ab
  replace ae:=ae.mono ab
  replace af:=af.mono ab
  replace ai:=ai.mono ab
  replace aj:=aj.mono ab
  replace ak:=ak.mono ab
  replace al:=al.mono ab
  replace am:=am.mono ab
  replace an:=an.mono ab
  obtain rfl:=a3
  refine⟨.one (.c (.bool bM)),rfl,fun bq (be:Kn 24 [(ag,0),(ao,0),(aq,0)] [tB 17 bM,tA 16 (Ie q t_ x s y u z),tA 15 (UB b r_ f d g e i),tP 5 2 0,tP 4 1 0,tP 3 0 0] bq)=>hK _ _ ?_⟩
  refine Rk 3 1 [tB 18 (!bM),tP 5 2 0,tP 4 1 0,tP 3 0 0] be ah fun b1 ay=>?_
  refine wf (wC ((!bM)) ay (fun aw=>?_) (fun aw=>?_))
  ·
   rw [aw,XW] at H
   refine XT (Aa (Rk 0 2 [tI 7 2,tS 6 none 0 0] ay ah fun b2 bf=>?_))
   refine wf (wp_ret ?_)
   obtain rfl:=XZ H
   exact rt (.tup [.c (Wu none 0 0),.c (Ws 2)]) bf ah ⟨_,_,rfl,⟨_,_,rfl,A4.nil⟩,rfl⟩
  ·
   rw [aw,XV] at H
   refine wp_skip (XT (Aa (Rk 0 4 [tA 22 (Ie q t_ x s y u z),tA 21 (RN b r_ f d g e i j a m k o l p)] ay ah fun b3 bg=>?_)))
   obtain⟨gD,kD,H⟩:=Av H
   refine wl fun K hK=>?_
   refine wc [.agg (RN b r_ f d g e i j a m k o l p),.agg (Ie q t_ x s y u z)] bg ah (Il n ah.has (AM.mk r_ a) ((Ab (Ab (Ad ad) (Ab (Ab Ac Ac) (Ab (Ad ae) (Ab (Ad af) (Ab Ac (Ab Ac (Ab Ac Ac))))))) (Ab (Ad ai) (Ab (Ad aj) (Ad ak)))):rep a0 (AM.mk r_ a) _) t_ ((Ab (Ad al) (Ab (Ad am) (Ad an))):rep a0 t_ _) kD) fun b7 bs cd a4 bt a1=>?_
   obtain⟨ap,ar,rfl,bl⟩:=a4
   refine⟨.one (.c (Wu ap gD.length ar)),rfl,fun br (bh:Kn 24 [(ag,0),(ao,0),(aq,0)] [tS 23 ap gD.length ar,tA 22 (Ie q t_ x s y u z),tA 21 (RN b r_ f d g e i j a m k o l p)] br)=>hK _ _ ?_⟩
   refine Rk 5 2 [tI 7 0,tS 6 ap gD.length ar] bh a1 fun b4 bi=>?_
   refine wf (wp_ret ?_)
   obtain rfl:=XZ H
   exact rt (.tup [.c (Wu ap gD.length ar),.c (Ws 0)]) bi a1 ⟨_,_,rfl,⟨_,_,rfl,bl⟩,rfl⟩
theorem Jb (n:Nat) {h:Ae} {w:World} (hh:Dk h w) (r_:Af) {aP:Wx} (aW:rep h r_ aP) (a:An) {cS:Wx} (dN:rep h a cS) (t_:Ap) {cI:Wx} (dF:rep h t_ cI) {r:(List Int)×Int} (H:EV n r_ a t_=some r) :
  Calls Tryz.prog 9 #[.agg aP.toArray,.agg cS.toArray,.agg cI.toArray] w (Dq (fun h v=>∃ v0 v1,v=.tuple #[v0,v1]∧(∃ a c,v0=.slice a r.1.length c∧A4 h a c r.1)∧(v1=.int .i64 r.2)) h w):=by
 obtain⟨_,_,rfl,⟨f,ab,rfl,a4⟩,⟨_,_,rfl,⟨_,_,rfl,rfl,rfl⟩,⟨_,_,rfl,⟨s,af,rfl,a5⟩,⟨_,_,rfl,⟨u,ag,rfl,a6⟩,⟨_,_,rfl,rfl,⟨_,_,rfl,rfl,⟨_,_,rfl,rfl,rfl⟩⟩⟩⟩⟩⟩⟩:=aW
 obtain⟨_,_,rfl,⟨g,y,rfl,ay⟩,⟨_,_,rfl,⟨k,z,rfl,az⟩,⟨l,aa,rfl,a0⟩⟩⟩:=dN
 obtain⟨_,_,rfl,⟨m,ac,rfl,a1⟩,⟨_,_,rfl,⟨p,ad,rfl,a2⟩,⟨q,ae,rfl,a3⟩⟩⟩:=dF
 refine enter 36 [.agg (UB f r_ ab s af u ag),.agg (OL g a y k z l aa),.agg (Ie m t_ ac p ad q ae)] Tryz.func9 rfl rfl rfl rfl fun t hk=>?_
 have hm:=Ah.begin h w hh
 unfold EV at H
 refine XT (Aa (wl fun K hK=>?_))
 refine wb (.agg (UB f r_ ab s af u ag)) hk hm fun x df d6 (cl:Kn 36 [(x,0)] [tP 3 0 0,tA 0 (UB f r_ ab s af u ag),tA 1 (OL g a y k z l aa),tA 2 (Ie m t_ ac p ad q ae)] df) c0=>hK _ _ ?_
 refine wl fun K hK=>?_
 refine wb (.agg (OL g a y k z l aa)) cl c0 fun ah dg d7 (cm:Kn 36 [(x,0),(ah,0)] [tP 4 1 0,tP 3 0 0,tA 0 (UB f r_ ab s af u ag),tA 1 (OL g a y k z l aa),tA 2 (Ie m t_ ac p ad q ae)] dg) c1=>hK _ _ ?_
 refine wl fun K hK=>?_
 refine wb (.agg (Ie m t_ ac p ad q ae)) cm c1 fun aj dh d8 (cn:Kn 36 [(x,0),(ah,0),(aj,0)] [tP 5 2 0,tP 4 1 0,tP 3 0 0,tA 0 (UB f r_ ab s af u ag),tA 1 (OL g a y k z l aa),tA 2 (Ie m t_ ac p ad q ae)] dh) bg=>hK _ _ ?_
 refine Rk 3 2 [tP 5 2 0,tP 4 1 0,tP 3 0 0] cn bg fun dt co=>?_
 refine wf (XT (Aa (Rk 0 3 [tA 16 (Ie m t_ ac p ad q ae),tA 15 (OL g a y k z l aa),tA 14 (UB f r_ ab s af u ag)] co bg fun du cp=>?_)))
 obtain⟨bM,eU,H⟩:=Av H
 refine wl fun K hK=>?_
 refine wc [.agg (UB f r_ ab s af u ag),.agg (OL g a y k z l aa),.agg (Ie m t_ ac p ad q ae)] cp bg (M7 n bg.has r_ ((Ab (Ad a4) (Ab (Ab Ac Ac) (Ab (Ad a5) (Ab (Ad a6) (Ab Ac (Ab Ac (Ab Ac Ac))))))):rep h r_ _) a ((Ab (Ad ay) (Ab (Ad az) (Ad a0))):rep h a _) t_ ((Ab (Ad a1) (Ab (Ad a2) (Ad a3))):rep h t_ _) eU) fun d2 bb dk b5 an av=>?_
 replace a4:=a4.mono an
 replace a5:=a5.mono an
 replace a6:=a6.mono an
 replace ay:=ay.mono an
 replace az:=az.mono an
 replace a0:=a0.mono an
 replace a1:=a1.mono an
 replace a2:=a2.mono an
 replace a3:=a3.mono an
 obtain⟨_,_,rfl,⟨d,e,rfl,bt⟩,rfl⟩:=b5
 refine⟨.tup [.c (Wu d bM.1.length e),.c (Ws bM.2)],rfl,fun di (cq:Kn 36 [(x,0),(ah,0),(aj,0)] [(17,.tup [.c (Wu d bM.1.length e),.c (Ws bM.2)]),tA 16 (Ie m t_ ac p ad q ae),tA 15 (OL g a y k z l aa),tA 14 (UB f r_ ab s af u ag)] di)=>hK _ _ ?_⟩
 refine Rk 4 5 [tI 9 bM.2,tS 8 d bM.1.length e] cq av fun dv cr=>?_
 refine wf (XT (XT (Aa (Rk 0 2 [tB 21 (bM.2 != 0),tI 9 bM.2,tS 8 d bM.1.length e] cr av fun dw bn=>?_))))
 refine wf (wC ((bM.2 != 0)) bn (fun bj=>?_) (fun bj=>?_))
 ·
  rw [bj,XW] at H
  refine XT (Aa (Rk 0 3 [tI 7 bM.2,tS 6 none 0 0] bn av fun dx ct=>?_))
  refine wf (wp_ret ?_)
  obtain rfl:=XZ H
  exact rt (.tup [.c (Wu none 0 0),.c (Ws bM.2)]) ct av ⟨_,_,rfl,⟨_,_,rfl,A4.nil⟩,rfl⟩
 ·
  rw [bj,XV] at H
  refine wp_skip (XT (Aa (Rk 0 1 [tS 10 none 0 0,tS 8 d bM.1.length e] bn av fun dy cu=>?_)))
  refine wf (XT (XT (Aa (Rk 0 3 [tI 25 0,tI 24 ((bM.1.length:Nat):Int),tS 23 d bM.1.length e,tS 10 none 0 0] cu av fun dz cv=>?_))))
  refine wf ?_
  have c2:Ah ⟨w,h,A6⟩ bb [(x,0),(ah,0),(aj,0)] [⟨UB f r_ ab s af u ag,some 48⟩,⟨OL g a y k z l aa,some 50⟩,⟨Ie m t_ ac p ad q ae,some 52⟩] [⟨none,0,0,3,1,[],0⟩] dk:=av.nilRow 3 1
  have b9:Ag bb ([]:List Int) []:=Ag.nil
  obtain⟨ao,bz,H⟩:=Av H
  refine A0 (fun a' w'=>∃ (aq:Ww)(au:Nat)(a8:Wx)(bv:Array Value)(bc:Ae),a' = ⟨bv,[]⟩∧Kn 36 [(x,0),(ah,0),(aj,0)] [tS 10 aq ao.length au] bv∧Ah ⟨w,h,A6⟩ bc [(x,0),(ah,0),(aj,0)] [⟨UB f r_ ab s af u ag,some 48⟩,⟨OL g a y k z l aa,some 50⟩,⟨Ie m t_ ac p ad q ae,some 52⟩] [⟨aq,ao.length,au,3,1,a8,0⟩] w'∧Ae.le bb bc∧Ag bc ao a8) ?_ ?_
  ·
   refine wp_block ?_
   refine Au (fun da a' w'=>∃ (aA:List Int)(aD:Int)(al:Ww)(am:Nat)(aw:Wx)(bw:Array Value)(bd:Ae),a' = ⟨bw,[]⟩∧Kn 36 [(x,0),(ah,0),(aj,0)] [tI 25 aD,tI 24 ((bM.1.length:Nat):Int),tS 23 d bM.1.length e,tS 10 al aA.length am] bw∧Ah ⟨w,h,A6⟩ bd [(x,0),(ah,0),(aj,0)] [⟨UB f r_ ab s af u ag,some 48⟩,⟨OL g a y k z l aa,some 50⟩,⟨Ie m t_ ac p ad q ae,some 52⟩] [⟨al,aA.length,am,3,1,aw,0⟩] w'∧Ae.le bb bd∧Ag bd aA aw∧CN da bM aA aD=some ao) n ?_ ?_
   ·
    exact XY ([]:List Int) ⟨0,none,0,[],_,_,rfl,cv.kp,c2,Ae.le_refl _,b9,bz⟩
   ·
    rintro bh _ d9 ⟨aA,aD,al,am,aw,bw,bd,rfl,cw,bs,ak,be,ai⟩
    clear bz
    obtain _ | bh:=bh
    ·
     rw [CN] at ai; cases ai
    rw [CN] at ai
    replace a4:=a4.mono ak
    replace a5:=a5.mono ak
    replace a6:=a6.mono ak
    replace ay:=ay.mono ak
    replace az:=az.mono ak
    replace a0:=a0.mono ak
    replace a1:=a1.mono ak
    replace a2:=a2.mono ak
    replace a3:=a3.mono ak
    replace bt:=bt.mono ak
    refine XT (Aa (Rk 0 1 [tB 26 (decide (aD<((bM.1.length:Nat):Int))),tI 25 aD,tI 24 ((bM.1.length:Nat):Int),tS 23 d bM.1.length e,tS 10 al aA.length am] cw bs fun d0 bo=>?_))
    refine wf (XT (wC (decide (aD<((bM.1.length:Nat):Int))) bo (fun bk=>?_) (fun bk=>?_)))
    ·
     rw [bk,XW] at ai
     refine wp_skip (XT (wp_block (XT (Aa ?_))))
     obtain⟨gF,jG,ai⟩:=Av ai
     obtain⟨c3,c4,c9⟩:=Ai jG
     obtain⟨ax,a7,dl,b6,c8,b7⟩:=bt.get (by decide) c9
     obtain⟨ap,ar,rfl,c5⟩:=c8
     have bf:=bs.addPlc (b:=ax) (o:=a7+Wv aD*1) (cs:=[Wu ap gF.length ar]) (fun j c hj=>b7 j _ (Ak hj)) rfl (by kernel_rfl) (by kernel_rfl)
     refine Bl 0 (aD) rfl rfl (rfl) rfl (by decide) bo (by rfl) (by rfl) (by rfl) b6 (by rfl) c3 c4 (by kernel_rfl) fun db (cb:Kn 36 [(x,0),(ah,0),(aj,0),(ax,a7+Wv aD*1)] [tP 27 3 0,tB 26 (decide (aD<((bM.1.length:Nat):Int))),tI 25 aD,tI 24 ((bM.1.length:Nat):Int),tS 23 d bM.1.length e,tS 10 al aA.length am] db)=>?_
     refine Rk 1 2 [tS 12 ap gF.length ar,tI 25 aD,tI 24 ((bM.1.length:Nat):Int),tS 23 d bM.1.length e,tS 10 al aA.length am] cb bf fun dn cc=>?_
     refine wf (Aa (Rk 0 2 [tS 30 ap gF.length ar,tS 29 al aA.length am,tI 25 aD,tI 24 ((bM.1.length:Nat):Int),tS 23 d bM.1.length e] cc bf fun dp cd=>?_))
     obtain⟨aV,fP,ai⟩:=Av ai
     refine wl fun K hK=>?_
     refine wc [.c (Wu ap gF.length ar)] cd bf (Pe bh bf.has gF c5 fP) fun d1 bi d3 b4 b1 cz=>?_
     replace be:=be.mono b1
     obtain rfl:=b4
     refine⟨.one (.c (Ws aV)),rfl,fun dc (ce:Kn 36 [(x,0),(ah,0),(aj,0),(ax,a7+Wv aD*1)] [tI 31 aV,tS 30 ap gF.length ar,tS 29 al aA.length am,tI 25 aD,tI 24 ((bM.1.length:Nat):Int),tS 23 d bM.1.length e] dc)=>hK _ _ ?_⟩
     refine wl fun K hK=>?_
     refine wS 3 1 [Ws aV] ce cz fun bx dd d4 (cf:Kn 36 [(x,0),(ah,0),(aj,0),(ax,a7+Wv aD*1)] [tS 32 bx 1 1,tI 31 aV,tS 30 ap gF.length ar,tS 29 al aA.length am,tI 25 aD,tI 24 ((bM.1.length:Nat):Int),tS 23 d bM.1.length e] dd) b2=>?_
     have bl:Ag bi ([aV]:List Int) ([.int .i64 aV]:Wx):=⟨_,_,rfl,(Ac:rep bi (aV:Int) _),rfl⟩
     refine hK _ _ ?_
     obtain⟨fG,ex33,ai⟩:=Av ai
     obtain⟨bu,cx⟩:=Bb ex33
     refine wl fun K hK=>?_
     refine AD 0 8 1 _ (fG.length) _ ([.int .i64 aV]:Wx) cf b2 rfl rfl (by decide) rfl (by rfl) (by kernel_rfl) (by rfl) (by rfl) (Ag.len bl) (b2.rowCell (i:=1) rfl) bl.one (by rw [bu]; simp <;> omega) (by rw [bu]; exact cx) (by decide) fun a9 ba b3 de d5 ca (cg:Kn 36 [(x,0),(ah,0),(aj,0),(ax,a7+(aD:Int).toNat*1)] [tS 33 a9 fG.length ba,tS 32 bx 1 1,tI 31 aV,tS 30 ap gF.length ar,tS 29 al aA.length am,tI 25 aD,tI 24 ((bM.1.length:Nat):Int),tS 23 d bM.1.length e] de) bp=>?_
     have b8:Ag bi fG (aw++([.int .i64 aV]:Wx)):=by rw [bu]; exact Ag.append be bl
     obtain rfl:b3=0:=Nat.le_zero.1 ca
     refine hK _ _ ?_
     refine Rk 5 1 [tS 10 a9 fG.length ba,tI 25 aD,tI 24 ((bM.1.length:Nat):Int),tS 23 d bM.1.length e] cg bp fun dq ch=>?_
     refine wf (Aa (Rk 0 2 [tI 25 (Wt (aD+1)),tS 10 a9 fG.length ba,tI 24 ((bM.1.length:Nat):Int),tS 23 d bM.1.length e] ch bp fun dr ci=>?_))
     refine wf ?_
     exact XY bh ⟨Xc _,XY fG ⟨Wt (aD+1),a9,ba,aw++([.int .i64 aV]:Wx),_,_,rfl,(ci.keep [25,24,23,10] (by rfl)).cut 3 (by kernel_rfl),(bp.cutRw 1).cutPl 3 (by kernel_rfl),XU ak b1,b8,ai⟩⟩
    ·
     rw [bk,XV] at ai
     refine wp_exit ?_
     obtain rfl:=XZ ai
     exact XY al ⟨am,aw,_,_,rfl,bo.kp,bs,ak,be⟩
  ·
   rintro _ dj ⟨aq,au,a8,bv,bc,rfl,cj,bq,dm,bm⟩
   refine XT (Aa (Rk 0 3 [tI 7 0,tS 6 aq ao.length au] cj bq fun ds ck=>?_))
   refine wf (wp_ret ?_)
   obtain⟨b0,cy,c7,br⟩:=bq.settle (i:=0) rfl
   replace bm:=bm.mono cy
   replace br:Ah ⟨w,h,A6⟩ b0 [(x,0),(ah,0),(aj,0)] [⟨UB f r_ ab s af u ag,some 48⟩,⟨OL g a y k z l aa,some 50⟩,⟨Ie m t_ ac p ad q ae,some 52⟩] [⟨aq,ao.length,au,3,1,a8,(a8:Wx).length⟩] dj:=br
   have c6:A4 b0 aq au ao:=⟨_,bm,c7,bq.rowCap (i:=0) rfl⟩
   obtain rfl:=XZ H
   exact rt (.tup [.c (Wu aq ao.length au),.c (Ws 0)]) ck br ⟨_,_,rfl,⟨_,_,rfl,c6⟩,rfl⟩
end Go.Proofs.YtokchpjijlebiaaGreat
