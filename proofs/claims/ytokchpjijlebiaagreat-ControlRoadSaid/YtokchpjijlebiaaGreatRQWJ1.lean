/- Each call computes its plain function. -/
import Derived.Test.YtokchpjijlebiaaGreatProg
import Derived.Test.YtokchpjijlebiaaGreatRQWA
set_option linter.all false
namespace Go.Proofs.YtokchpjijlebiaaGreat
open Go Go.RowKit
set_option maxRecDepth 100000
set_option maxHeartbeats 4000000
open Rep (rep)
open KRep (kv)
open VRep (rv)
abbrev Tg (a d aj)(ak:Nat)(aA:Int)(al)(am:Nat)(an)(aq:Nat):=([(a,0),(d,0),(aj,ak+Wv aA*1),(al,am+Wv aA*3),(an,aq+Wv aA*3)]:Bh)
abbrev Ii (aH aC):=((tI 7 aH)::(tI 6 aC)::EO:TM)
theorem RS (n:Nat) {h:Ae} {w:World} (hh:Dk h w) (r_:Af) {aP:Wx} (aW:rep h r_ aP) (t_:Ap) {cI:Wx} (dF:rep h t_ cI) {r:Bool} (H:J1 n r_ t_=some r) :
  Calls Tryz.prog 20 #[.agg aP.toArray,.agg cI.toArray] w (Dq (fun h v=>v=.bool r) h w):=by
 obtain⟨_,_,rfl,⟨f,l,rfl,ac⟩,⟨_,_,rfl,⟨_,_,rfl,rfl,rfl⟩,⟨_,_,rfl,⟨i,m,rfl,ad⟩,⟨_,_,rfl,⟨y,z,rfl,ah⟩,⟨_,_,rfl,rfl,⟨_,_,rfl,rfl,⟨_,_,rfl,rfl,rfl⟩⟩⟩⟩⟩⟩⟩:=aW
 obtain⟨_,_,rfl,⟨q,u,rfl,ae⟩,⟨_,_,rfl,⟨s,x,rfl,af⟩,⟨g,k,rfl,ab⟩⟩⟩:=dF
 refine enter 126 [.agg (UB f r_ l i m y z),.agg (Ie q t_ u s x g k)] Tryz.func20 rfl rfl rfl rfl fun t hk=>?_
 have hm:=Ah.begin h w hh
 unfold J1 at H
 refine XT (Aa (wl fun K hK=>?_))
 refine wb (.agg (UB f r_ l i m y z)) hk hm fun a g1 i4 (em:Kn 126 [(a,0)] [tP 2 0 0,tA 0 (UB f r_ l i m y z),tA 1 (Ie q t_ u s x g k)] g1) fn=>hK _ _ ?_
 refine wl fun K hK=>?_
 refine wb (.agg (Ie q t_ u s x g k)) em fn fun d g3 i6 (eu:Kn 126 [(a,0),(d,0)] [tP 3 1 0,tP 2 0 0,tA 0 (UB f r_ l i m y z),tA 1 (Ie q t_ u s x g k)] g3) ap=>hK _ _ ?_
 refine Rk 2 1 EO eu ap fun ie ez=>?_
 refine wf (XT (XT ?_))
 obtain⟨c8,aw,H⟩:=Av H
 refine A0 (fun a' w'=>∃ (cp:Array Value)(bb:Ae),a' = ⟨cp,[]⟩∧Kn 126 [(a,0),(d,0)] [tP 3 1 0,tP 2 0 0,tB 36 c8] cp∧Ah ⟨w,h,A6⟩ bb [(a,0),(d,0)] [⟨UB f r_ l i m y z,some 28⟩,⟨Ie q t_ u s x g k,some 38⟩] [] w'∧Ae.le h bb) ?_ ?_
 ·
  refine Aa (Rk 0 8 ((tB 15 (((t_.tm.length:Nat):Int) != ((r_.lB.length:Nat):Int)))::EO) ez ap fun de c0=>?_)
  rcases Xb ((((t_.tm.length:Nat):Int) != ((r_.lB.length:Nat):Int))) with be | be
  ·
   rw [be,XW] at aw
   have e7:Kn 126 [(a,0),(d,0)] ((tB 15 true)::EO) de:=(c0.setB 15 true (by rfl) be).kp
   refine Rk 8 21 ((tB 36 true)::EO) e7 ap fun im e8=>?_
   refine wf ?_
   obtain rfl:=XZ aw
   exact XY _ ⟨_,rfl,e8.kp,ap,Ae.le_refl _⟩
  ·
   rw [be,XV] at aw
   have e9:Kn 126 [(a,0),(d,0)] ((tB 15 false)::EO) de:=(c0.setB 15 false (by rfl) be).kp
   refine Rk 8 9 ((tB 24 (((t_.lE.length:Nat):Int) != ((r_.lB.length:Nat):Int)))::EO) e9 ap fun df c1=>?_
   rcases Xb ((((t_.lE.length:Nat):Int) != ((r_.lB.length:Nat):Int))) with bf | bf
   ·
    rw [bf,XW] at aw
    have fa:Kn 126 [(a,0),(d,0)] ((tB 24 true)::EO) df:=(c1.setB 24 true (by rfl) bf).kp
    refine Rk 17 12 ((tB 36 true)::EO) fa ap fun io fb=>?_
    refine wf ?_
    obtain rfl:=XZ aw
    exact XY _ ⟨_,rfl,fb.kp,ap,Ae.le_refl _⟩
   ·
    rw [bf,XV] at aw
    have fc:Kn 126 [(a,0),(d,0)] ((tB 24 false)::EO) df:=(c1.setB 24 false (by rfl) bf).kp
    refine Rk 17 12 ((tB 36 (((t_.lA.length:Nat):Int) != (Wt (((r_.lB.length:Nat):Int)+((r_.lC.length:Nat):Int)))))::EO) fc ap fun ip fd=>?_
    refine wf ?_
    obtain rfl:=XZ aw
    exact XY _ ⟨_,rfl,fd.kp,ap,Ae.le_refl _⟩
 ·
  rintro _ ja ⟨cp,bb,rfl,b9,bm,a3⟩
  replace ac:=ac.mono a3
  replace ad:=ad.mono a3
  replace ah:=ah.mono a3
  replace ae:=ae.mono a3
  replace af:=af.mono a3
  replace ab:=ab.mono a3
  refine wC (c8) b9 (fun b2=>?_) (fun b2=>?_)
  ·
   rw [b2,XW] at H
   refine XT (Aa (Rk 0 1 [tB 4 false] b9 bm fun iq fe=>?_))
   refine wf (wp_ret ?_)
   obtain rfl:=XZ H
   exact rt (.one (.c (.bool false))) fe bm rfl
  ·
   rw [b2,XV] at H
   refine wp_skip (XT (XT (Aa (Rk 0 1 ((tI 5 0)::EO) b9 bm fun ir ff=>?_))))
   refine wf ?_
   obtain⟨c9,cv,H⟩:=Av H
   refine A0 (fun a' w'=>∃ (dc:Unit)(cq:Array Value)(bc:Ae),a' = ⟨cq,[]⟩∧Kn 126 [(a,0),(d,0)] EO cq∧Ah ⟨w,h,A6⟩ bc [(a,0),(d,0)] [⟨UB f r_ l i m y z,some 28⟩,⟨Ie q t_ u s x g k,some 38⟩] [] w'∧Ae.le bb bc∧c9=.go dc) ?_ ?_
   ·
    refine wp_block ?_
    refine Au (fun gv a' w'=>∃ (aA:Int)(cr:Array Value)(bv:Ae),a' = ⟨cr,[]⟩∧Kn 126 [(a,0),(d,0)] ((tI 5 aA)::EO) cr∧Ah ⟨w,h,A6⟩ bv [(a,0),(d,0)] [⟨UB f r_ l i m y z,some 28⟩,⟨Ie q t_ u s x g k,some 38⟩] [] w'∧Ae.le bb bv∧EF gv r_ t_ aA=some c9) n ?_ ?_
    ·
     exact XY 0 ⟨_,_,rfl,ff.kp,bm,Ae.le_refl _,cv⟩
    ·
     rintro bh _ jb ⟨aA,cr,bv,rfl,fg,a0,au,e⟩
     clear cv
     obtain _ | bh:=bh
     ·
      rw [EF] at e; cases e
     rw [EF] at e
     replace ac:=ac.mono au
     replace ad:=ad.mono au
     replace ah:=ah.mono au
     replace ae:=ae.mono au
     replace af:=af.mono au
     replace ab:=ab.mono au
     refine XT (XT (Aa (Rk 0 5 ((tB 41 (decide (aA<((r_.lB.length:Nat):Int))))::(tI 5 aA)::EO) fg a0 fun iu ca=>?_)))
     refine wf (wC (decide (aA<((r_.lB.length:Nat):Int))) ca (fun b3=>?_) (fun b3=>?_))
     ·
      rw [b3,XW] at e
      refine wp_skip (XT (wp_block (XT (Am (by kernel_rfl) ?_))))
      replace a0:=a0.drew
      refine Ao [] [(a,0),(d,0)] [⟨UB f r_ l i m y z,some 28⟩,⟨Ie q t_ u s x g k,some 38⟩] ?_
      refine Dr [0,1,2] [2,1,0] ((tI 46 aA)::(tS 45 q t_.tm.length u)::(tI 5 aA)::EO) ca a0 fun iv fh=>?_
      obtain⟨dZ,kQ,e⟩:=Av e
      obtain⟨fw,f6,gr⟩:=Ai kQ
      obtain⟨aj,ak,hn,ds,gg,d1⟩:=ae.get (by decide) gr
      obtain rfl:=gg
      have ci:=a0.addPlc (b:=aj) (o:=ak+Wv aA*1) (cs:=[Ws dZ]) (fun j c hj=>d1 j _ (Ak hj)) rfl (by kernel_rfl) (by kernel_rfl)
      refine Az 3 (aA) [Ws dZ] (fun _ _ _ _ _ h=>h) rfl rfl (rfl) rfl (by decide) (by kernel_rfl) (by kernel_rfl) fh a0.plOk (by rfl) (by rfl) (by rfl) ds (by rfl) fw f6 (by kernel_rfl) fun g9 (fi:Kn 126 [(a,0),(d,0),(aj,ak+Wv aA*1)] ((tP 47 2 0)::(tI 46 aA)::(tS 45 q t_.tm.length u)::(tI 5 aA)::EO) g9)=>?_
      refine Dr [4,5,6,7] (dn 7) ((tI 51 aA)::(tS 50 i r_.lB.length m)::(tI 48 dZ)::(tI 5 aA)::EO) fi ci fun iw fj=>?_
      obtain⟨cT,kR,e⟩:=Av e
      obtain⟨fx,fy,gi⟩:=Ai kR
      obtain⟨al,am,ho,dt,gh,d2⟩:=ad.get (by decide) gi
      obtain⟨_,_,rfl,rfl,⟨_,_,rfl,rfl,rfl⟩⟩:=gh
      have cb:=ci.addPlc (b:=al) (o:=am+Wv aA*3) (cs:=[Ws cT.stop,Ws cT.tm.lo,Ws cT.tm.hi]) (fun j c hj=>d2 j _ (Ak hj)) rfl (by kernel_rfl) (by kernel_rfl)
      refine Az 8 (aA) [Ws cT.stop,Ws cT.tm.lo,Ws cT.tm.hi] (fun _ _ _ _ _ h=>h) rfl rfl (rfl) rfl (by decide) (by kernel_rfl) (by kernel_rfl) fj ci.plOk (by rfl) (by rfl) (by rfl) dt (by rfl) fx fy (by kernel_rfl) fun gw (d3:Kn 126 [(a,0),(d,0),(aj,ak+Wv aA*1),(al,am+Wv aA*3)] ((tP 52 3 0)::(tI 51 aA)::(tS 50 i r_.lB.length m)::(tI 48 dZ)::(tI 5 aA)::EO) gw)=>?_
      refine Dr [9,10,11,12,13,14] (dn 14) ((tI 58 aA)::(tS 57 i r_.lB.length m)::(tI 55 cT.tm.lo)::(tI 48 dZ)::(tI 5 aA)::EO) d3 cb fun ht d4=>?_
      obtain⟨bW,kS,e⟩:=Av e
      obtain⟨fo,fz,gj⟩:=Ai kS
      obtain⟨an,aq,ha,dj,f8,du⟩:=ad.get (by decide) gj
      obtain⟨_,_,rfl,rfl,⟨_,_,rfl,rfl,rfl⟩⟩:=f8
      have cc:=cb.addPlc (b:=an) (o:=aq+Wv aA*3) (cs:=[Ws bW.stop,Ws bW.tm.lo,Ws bW.tm.hi]) (fun j c hj=>du j _ (Ak hj)) rfl (by kernel_rfl) (by kernel_rfl)
      refine Az 15 (aA) [Ws bW.stop,Ws bW.tm.lo,Ws bW.tm.hi] (fun _ _ _ _ _ h=>h) rfl rfl (rfl) rfl (by decide) (by kernel_rfl) (by kernel_rfl) d4 cb.plOk (by rfl) (by rfl) (by rfl) dj (by rfl) fo fz (by kernel_rfl) fun gx (d5:Kn 126 (Tg a d aj ak aA al am an aq) ((tP 59 4 0)::(tI 58 aA)::(tS 57 i r_.lB.length m)::(tI 55 cT.tm.lo)::(tI 48 dZ)::(tI 5 aA)::EO) gx)=>?_
      refine Dr [16,17,18] (dn 18) ((tI 62 bW.tm.hi)::(tI 55 cT.tm.lo)::(tI 48 dZ)::(tI 5 aA)::EO) d5 cc fun hu d6=>?_
      obtain⟨dC,gW,e⟩:=Av e
      refine Dl 19 fun K hK=>?_
      refine wc [.c (Ws dZ),.c (Ws cT.tm.lo),.c (Ws bW.tm.hi)] d6 cc (Dw bh cc.has dZ cT.tm.lo bW.tm.hi gW) fun ix hp i0 dg ax av=>?_
      replace ac:=ac.mono ax
      replace ad:=ad.mono ax
      replace ah:=ah.mono ax
      replace ae:=ae.mono ax
      replace af:=af.mono ax
      replace ab:=ab.mono ax
      obtain rfl:=dg
      refine⟨.one (.c (.bool dC)),rfl,fun gy (d7:Kn 126 (Tg a d aj ak aA al am an aq) ((tB 63 dC)::(tI 62 bW.tm.hi)::(tI 55 cT.tm.lo)::(tI 48 dZ)::(tI 5 aA)::EO) gy)=>hK _ _ av.plOk ?_⟩
      refine Dr [20,21] (dn 21) ((tB 65 (!dC))::(tI 5 aA)::EO) d7 av fun dd cw=>?_
      rcases Xb ((!dC)) with bd | bd
      ·
       rw [bd,XW] at e
       have d8:Kn 126 (Tg a d aj ak aA al am an aq) ((tB 65 true)::(tI 5 aA)::EO) dd:=(cw.setB 65 true (by rfl) bd).kp
       refine Dr [22,23,24,25,26,27,28,29,30,31,32,33,34,35] (dn 35) ((tB 79 true)::(tI 5 aA)::EO) d8 av fun hv cx=>?_
       refine A2 (by kernel_rfl) (wC true cx (fun hb=>?_) (fun hb=>?_))
       rotate_left
       ·
        cases hb
       refine XT (Aa (Rk 0 1 [tB 4 false] cx av fun hw d9=>?_))
       refine wf (wp_ret ?_)
       obtain rfl:=XZ e
       obtain rfl:=XZ H
       exact rt (.one (.c (.bool false))) d9 av rfl
      ·
       rw [bd,XV] at e
       have ea:Kn 126 (Tg a d aj ak aA al am an aq) ((tB 65 false)::(tI 5 aA)::EO) dd:=(cw.setB 65 false (by rfl) bd).kp
       refine Dr [22,23,24] (dn 24) ((tI 68 aA)::(tS 67 s t_.lE.length x)::(tB 65 false)::(tI 5 aA)::EO) ea av fun hx cy=>?_
       obtain⟨dQ,kT,e⟩:=Av e
       obtain⟨fp,f0,gk⟩:=Ai kT
       obtain⟨bq,cj,hc,dk,f9,dv⟩:=af.get (by decide) gk
       obtain rfl:=f9
       have cd:=av.addPlc (b:=bq) (o:=cj+Wv aA*1) (cs:=[Ws dQ]) (fun j c hj=>dv j _ (Ak hj)) rfl (by kernel_rfl) (by kernel_rfl)
       refine Az 25 (aA) [Ws dQ] (fun _ _ _ _ _ h=>h) rfl rfl (Aj cy (by kernel_rfl)) rfl (by decide) (by kernel_rfl) (by kernel_rfl) cy av.plOk (by rfl) (by rfl) (by rfl) dk (by rfl) fp f0 (by kernel_rfl) fun gz (eb:Kn 126 [(a,0),(d,0),(aj,ak+Wv aA*1),(al,am+Wv aA*3),(an,aq+Wv aA*3),(bq,cj+Wv aA*1)] ((tP 69 5 0)::(tI 68 aA)::(tS 67 s t_.lE.length x)::(tB 65 false)::(tI 5 aA)::EO) gz)=>?_
       refine Dr [26,27,28,29,30,31,32] (dn 32) ((tI 76 r_.turn.hi)::(tI 73 r_.turn.lo)::(tI 70 dQ)::(tB 65 false)::(tI 5 aA)::EO) eb cd fun hy cz=>?_
       obtain⟨iB,ex77,e⟩:=Av e
       refine EJ 33 rfl (by kernel_rfl) (by decide) (Aj cz (by kernel_rfl)) fun K hK=>?_
       refine wc [.c (Ws dQ),.c (Ws r_.turn.lo),.c (Ws r_.turn.hi)] cz cd (Dw bh cd.has dQ r_.turn.lo r_.turn.hi ex77) fun iy hq i1 dh fk a4=>?_
       obtain rfl:=dh
       refine⟨.one (.c (.bool iB)),rfl,fun g0 (ec:Kn 126 [(a,0),(d,0),(aj,ak+Wv aA*1),(al,am+Wv aA*3),(an,aq+Wv aA*3),(bq,cj+Wv aA*1)] ((tB 77 iB)::(tI 76 r_.turn.hi)::(tI 73 r_.turn.lo)::(tI 70 dQ)::(tB 65 false)::(tI 5 aA)::EO) g0)=>hK _ _ a4.plOk ?_⟩
       refine Dr [34,35] (dn 35) ((tB 79 (!iB))::(tI 5 aA)::EO) ec a4 fun hz b4=>?_
       refine A2 (by kernel_rfl) (wC ((!iB)) b4 (fun bw=>?_) (fun bw=>?_))
       ·
        rw [bw,XW] at e
        refine XT (Aa (Rk 0 1 [tB 4 false] b4 a4 fun h0 ed=>?_))
        refine wf (wp_ret ?_)
        obtain rfl:=XZ e
        obtain rfl:=XZ H
        exact rt (.one (.c (.bool false))) ed a4 rfl
       ·
        rw [bw,XV] at e
        refine wp_skip (Aa (Rk 0 3 ((tI 5 (Wt (aA+1)))::EO) b4 a4 fun h1 ee=>?_))
        refine wf ?_
        exact XY bh ⟨Xc _,XY (Wt (aA+1)) ⟨_,_,rfl,(ee.keep [5,3,2] (by rfl)).cut 2 (by kernel_rfl),a4.cutPl 2 (by kernel_rfl),XU au (XU ax fk),e⟩⟩
     ·
      rw [b3,XV] at e
      refine wp_exit ?_
      obtain rfl:=XZ e
      exact XY () ⟨_,_,rfl,ca.kp,a0,au,rfl⟩
   ·
    rintro _ i2 ⟨dc,cq,bc,rfl,ef,c2,a2,rfl⟩
    rw [Ex.bind_go] at H
    replace ac:=ac.mono a2
    replace ad:=ad.mono a2
    replace ah:=ah.mono a2
    replace ae:=ae.mono a2
    replace af:=af.mono a2
    replace ab:=ab.mono a2
    refine XT (XT (Aa (Rk 0 1 ((tI 6 0)::EO) ef c2 fun h2 eg=>?_)))
    refine wf ?_
    obtain⟨c6,ct,H⟩:=Av H
    refine A0 (fun a' w'=>∃ (da:Unit)(cl:Array Value)(bs:Ae),a' = ⟨cl,[]⟩∧Kn 126 [(a,0),(d,0)] [] cl∧Ah ⟨w,h,A6⟩ bs [(a,0),(d,0)] [⟨UB f r_ l i m y z,some 28⟩,⟨Ie q t_ u s x g k,some 38⟩] [] w'∧Ae.le bc bs∧c6=.go da) ?_ ?_
    ·
     refine wp_block ?_
     refine Au (fun gs a' w'=>∃ (aC:Int)(cm:Array Value)(ba:Ae),a' = ⟨cm,[]⟩∧Kn 126 [(a,0),(d,0)] ((tI 6 aC)::EO) cm∧Ah ⟨w,h,A6⟩ ba [(a,0),(d,0)] [⟨UB f r_ l i m y z,some 28⟩,⟨Ie q t_ u s x g k,some 38⟩] [] w'∧Ae.le bc ba∧EH gs r_ t_ aC=some c6) n ?_ ?_
     ·
      exact XY 0 ⟨_,_,rfl,eg.kp,c2,Ae.le_refl _,ct⟩
     ·
      rintro bn _ i3 ⟨aC,cm,ba,rfl,eh,ay,ar,aa⟩
      clear ct
      obtain _ | bn:=bn
      ·
       rw [EH] at aa; cases aa
      rw [EH] at aa
      replace ac:=ac.mono ar
      replace ad:=ad.mono ar
      replace ah:=ah.mono ar
      replace ae:=ae.mono ar
      replace af:=af.mono ar
      replace ab:=ab.mono ar
      refine XT (XT (Aa (Rk 0 5 ((tB 84 (decide (aC<((t_.lA.length:Nat):Int))))::(tI 6 aC)::EO) eh ay fun h3 b5=>?_)))
      refine wf (wC (decide (aC<((t_.lA.length:Nat):Int))) b5 (fun bx=>?_) (fun bx=>?_))
      ·
       rw [bx,XW] at aa
       refine wp_skip (XT (wp_block (XT (XT (Am (by kernel_rfl) ?_)))))
       replace ay:=ay.drew
       refine Ao [] [(a,0),(d,0)] [⟨UB f r_ l i m y z,some 28⟩,⟨Ie q t_ u s x g k,some 38⟩] ?_
       refine Dr [0,1,2] [2,1,0] ((tI 89 aC)::(tS 88 g t_.lA.length k)::(tI 6 aC)::EO) b5 ay fun h4 ei=>?_
       obtain⟨x90,ex90,aa⟩:=Av aa
       obtain⟨fq,f1,gl⟩:=Ai ex90
       obtain⟨ag,ai,hd,dl,ga,dw⟩:=ab.get (by decide) gl
       obtain⟨a7,a9,rfl,c5⟩:=ga
       have bg:=ay.addPlc (b:=ag) (o:=ai+Wv aC*1) (cs:=[Wu a7 x90.length a9]) (fun j c hj=>dw j _ (Ak hj)) rfl (by kernel_rfl) (by kernel_rfl)
       refine Az 3 (aC) [Wu a7 x90.length a9] (fun _ _ _ _ _ h=>h) rfl rfl (rfl) rfl (by decide) (by kernel_rfl) (by kernel_rfl) ei ay.plOk (by rfl) (by rfl) (by rfl) dl (by rfl) fq f1 (by kernel_rfl) fun g2 (ej:Kn 126 [(a,0),(d,0),(ag,ai+Wv aC*1)] ((tP 90 2 0)::(tI 89 aC)::(tS 88 g t_.lA.length k)::(tI 6 aC)::EO) g2)=>?_
       refine Dr [4,5,6,7,8,9] (dn 9) ((tB 96 (((x90.length:Nat):Int) != ((r_.lA.length:Nat):Int)))::(tI 6 aC)::EO) ej bg fun h5 b6=>?_
       refine A2 (by kernel_rfl) (wC ((((x90.length:Nat):Int) != ((r_.lA.length:Nat):Int))) b6 (fun bz=>?_) (fun bz=>?_))
       ·
        rw [bz,XW] at aa
        refine XT (Aa (Rk 0 1 [tB 4 false] b6 bg fun h6 ek=>?_))
        refine wf (wp_ret ?_)
        obtain rfl:=XZ aa
        obtain rfl:=XZ H
        exact rt (.one (.c (.bool false))) ek bg rfl
       ·
        rw [bz,XV] at aa
        refine wp_skip (XT (Aa (Rk 0 1 ((tI 7 0)::(tI 6 aC)::EO) b6 bg fun h7 el=>?_)))
        refine wf ?_
        obtain⟨c7,cu,aa⟩:=Av aa
        refine A0 (fun a' w'=>∃ (db:Unit)(cn:Array Value)(bt:Ae),a' = ⟨cn,[]⟩∧Kn 126 [(a,0),(d,0),(ag,ai+Wv aC*1)] ((tI 6 aC)::EO) cn∧Ah ⟨w,h,A6⟩ bt [(a,0),(d,0),(ag,ai+Wv aC*1)] [⟨UB f r_ l i m y z,some 28⟩,⟨Ie q t_ u s x g k,some 38⟩,⟨[Wu a7 x90.length a9],none⟩] [] w'∧Ae.le ba bt∧c7=.go db) ?_ ?_
        ·
         refine wp_block ?_
         refine Au (fun gu a' w'=>∃ (aH:Int)(co:Array Value)(bu:Ae),a' = ⟨co,[]⟩∧Kn 126 [(a,0),(d,0),(ag,ai+Wv aC*1)] (Ii aH aC) co∧Ah ⟨w,h,A6⟩ bu [(a,0),(d,0),(ag,ai+Wv aC*1)] [⟨UB f r_ l i m y z,some 28⟩,⟨Ie q t_ u s x g k,some 38⟩,⟨[Wu a7 x90.length a9],none⟩] [] w'∧Ae.le ba bu∧EG gu r_ t_ aC aH=some c7) bn ?_ ?_
         ·
          exact XY 0 ⟨_,_,rfl,el.kp,bg,Ae.le_refl _,cu⟩
         ·
          rintro bo _ i5 ⟨aH,co,bu,rfl,en,az,ao,p⟩
          clear cu
          obtain _ | bo:=bo
          ·
           rw [EG] at p; cases p
          rw [EG] at p
          replace ac:=ac.mono ao
          replace ad:=ad.mono ao
          replace ah:=ah.mono ao
          replace ae:=ae.mono ao
          replace af:=af.mono ao
          replace ab:=ab.mono ao
          replace c5:=c5.mono ao
          refine XT (XT (Aa (Rk 0 5 ((tB 101 (decide (aH<((r_.lA.length:Nat):Int))))::(Ii aH aC)) en az fun h8 b7=>?_)))
          refine wf (wC (decide (aH<((r_.lA.length:Nat):Int))) b7 (fun b0=>?_) (fun b0=>?_))
          ·
           rw [b0,XW] at p
           refine wp_skip (XT (wp_block (XT (Am (by kernel_rfl) ?_))))
           replace az:=az.drew
           refine Ao [] [(a,0),(d,0),(ag,ai+Wv aC*1)] [⟨UB f r_ l i m y z,some 28⟩,⟨Ie q t_ u s x g k,some 38⟩,⟨[Wu a7 x90.length a9],none⟩] ?_
           refine Dr [0,1,2] [2,1,0] ((tI 106 aC)::(tS 105 g t_.lA.length k)::(Ii aH aC)) b7 az fun h9 eo=>?_
           obtain⟨jK,ex107,p⟩:=Av p
           obtain⟨fs,f2,gm⟩:=Ai ex107
           obtain⟨a1,a6,he,dm,gb,dx⟩:=ab.get (by decide) gm
           obtain⟨bj,bl,rfl,f7⟩:=gb
           have ce:=az.addPlc (b:=a1) (o:=a6+Wv aC*1) (cs:=[Wu bj jK.length bl]) (fun j c hj=>dx j _ (Ak hj)) rfl (by kernel_rfl) (by kernel_rfl)
           refine Az 3 (aC) [Wu bj jK.length bl] (fun _ _ _ _ _ h=>h) rfl rfl (rfl) rfl (by decide) (by kernel_rfl) (by kernel_rfl) eo az.plOk (by rfl) (by rfl) (by rfl) dm (by rfl) fs f2 (by kernel_rfl) fun g4 (ep:Kn 126 [(a,0),(d,0),(ag,ai+Wv aC*1),(a1,a6+Wv aC*1)] ((tP 107 3 0)::(tI 106 aC)::(tS 105 g t_.lA.length k)::(Ii aH aC)) g4)=>?_
           refine Dr [4,5] (dn 5) ((tI 109 aH)::(tS 108 bj jK.length bl)::(Ii aH aC)) ep ce fun ia er=>?_
           obtain⟨bX,iE,p⟩:=Av p
           obtain⟨ft,f3,gn⟩:=Ai iE
           obtain⟨a8,bi,hf,dp,gc,dy⟩:=f7.get (by decide) gn
           obtain rfl:=gc
           have cf:=ce.addPlc (b:=a8) (o:=bi+Wv aH*1) (cs:=[Ws bX]) (fun j c hj=>dy j _ (Ak hj)) rfl (by kernel_rfl) (by kernel_rfl)
           refine Az 6 (aH) [Ws bX] (fun _ _ _ _ _ h=>h) rfl rfl (rfl) rfl (by decide) (by kernel_rfl) (by kernel_rfl) er ce.plOk (by rfl) (by rfl) (by rfl) dp (by rfl) ft f3 (by kernel_rfl) fun g5 (es:Kn 126 [(a,0),(d,0),(ag,ai+Wv aC*1),(a1,a6+Wv aC*1),(a8,bi+Wv aH*1)] ((tP 110 4 0)::(tI 109 aH)::(tS 108 bj jK.length bl)::(Ii aH aC)) g5)=>?_
           refine Dr [7,8,9,10] (dn 10) ((tI 114 aH)::(tS 113 f r_.lA.length l)::(tI 111 bX)::(Ii aH aC)) es cf fun ib et=>?_
           obtain⟨dA,kU,p⟩:=Av p
           obtain⟨fu,f4,gp⟩:=Ai kU
           obtain⟨bk,bp,hg,dq,gd,dz⟩:=ac.get (by decide) gp
           obtain⟨_,_,rfl,rfl,rfl⟩:=gd
           have cg:=cf.addPlc (b:=bk) (o:=bp+Wv aH*2) (cs:=[Ws dA.lo,Ws dA.hi]) (fun j c hj=>dz j _ (Ak hj)) rfl (by kernel_rfl) (by kernel_rfl)
           refine Az 11 (aH) [Ws dA.lo,Ws dA.hi] (fun _ _ _ _ _ h=>h) rfl rfl (rfl) rfl (by decide) (by kernel_rfl) (by kernel_rfl) et cf.plOk (by rfl) (by rfl) (by rfl) dq (by rfl) fu f4 (by kernel_rfl) fun g6 (ev:Kn 126 [(a,0),(d,0),(ag,ai+Wv aC*1),(a1,a6+Wv aC*1),(a8,bi+Wv aH*1),(bk,bp+Wv aH*2)] ((tP 115 5 0)::(tI 114 aH)::(tS 113 f r_.lA.length l)::(tI 111 bX)::(Ii aH aC)) g6)=>?_
           refine Dr [12,13,14,15,16] (dn 16) ((tI 120 aH)::(tS 119 f r_.lA.length l)::(tI 117 dA.lo)::(tI 111 bX)::(Ii aH aC)) ev cg fun ic ew=>?_
           obtain⟨gJ,ex121,p⟩:=Av p
           obtain⟨fv,f5,gq⟩:=Ai ex121
           obtain⟨br,ck,hl,dr,gf,d0⟩:=ac.get (by decide) gq
           obtain⟨_,_,rfl,rfl,rfl⟩:=gf
           have ch:=cg.addPlc (b:=br) (o:=ck+Wv aH*2) (cs:=[Ws gJ.lo,Ws gJ.hi]) (fun j c hj=>d0 j _ (Ak hj)) rfl (by kernel_rfl) (by kernel_rfl)
           refine Az 17 (aH) [Ws gJ.lo,Ws gJ.hi] (fun _ _ _ _ _ h=>h) rfl rfl (rfl) rfl (by decide) (by kernel_rfl) (by kernel_rfl) ew cg.plOk (by rfl) (by rfl) (by rfl) dr (by rfl) fv f5 (by kernel_rfl) fun g7 (ex:Kn 126 [(a,0),(d,0),(ag,ai+Wv aC*1),(a1,a6+Wv aC*1),(a8,bi+Wv aH*1),(bk,bp+Wv aH*2),(br,ck+Wv aH*2)] ((tP 121 6 0)::(tI 120 aH)::(tS 119 f r_.lA.length l)::(tI 117 dA.lo)::(tI 111 bX)::(Ii aH aC)) g7)=>?_
           refine Dr [18,19] (dn 19) ((tI 123 gJ.hi)::(tI 117 dA.lo)::(tI 111 bX)::(Ii aH aC)) ex ch fun ig ey=>?_
           obtain⟨fH,kV,p⟩:=Av p
           refine Dl 20 fun K hK=>?_
           refine wc [.c (Ws bX),.c (Ws dA.lo),.c (Ws gJ.hi)] ey ch (Dw bo ch.has bX dA.lo gJ.hi kV) fun iz hr i7 di fl a5=>?_
           obtain rfl:=di
           refine⟨.one (.c (.bool fH)),rfl,fun g8 (e0:Kn 126 [(a,0),(d,0),(ag,ai+Wv aC*1),(a1,a6+Wv aC*1),(a8,bi+Wv aH*1),(bk,bp+Wv aH*2),(br,ck+Wv aH*2)] ((tB 124 fH)::(tI 123 gJ.hi)::(tI 117 dA.lo)::(tI 111 bX)::(Ii aH aC)) g8)=>hK _ _ a5.plOk ?_⟩
           refine Dr [21] (dn 21) ((tB 125 (!fH))::(Ii aH aC)) e0 a5 fun ih b8=>?_
           refine A2 (by kernel_rfl) (wC ((!fH)) b8 (fun b1=>?_) (fun b1=>?_))
           ·
            rw [b1,XW] at p
            refine XT (Aa (Rk 0 1 [tB 4 false] b8 a5 fun ii e1=>?_))
            refine wf (wp_ret ?_)
            obtain rfl:=XZ p
            obtain rfl:=XZ aa
            obtain rfl:=XZ H
            exact rt (.one (.c (.bool false))) e1 a5 rfl
           ·
            rw [b1,XV] at p
            refine wp_skip (Aa (Rk 0 3 ((tI 7 (Wt (aH+1)))::(tI 6 aC)::EO) b8 a5 fun ij e2=>?_))
            refine wf ?_
            exact XY bo ⟨Xc _,XY (Wt (aH+1)) ⟨_,_,rfl,(e2.keep [7,6,3,2] (by rfl)).cut 3 (by kernel_rfl),a5.cutPl 3 (by kernel_rfl),XU ao fl,p⟩⟩
          ·
           rw [b0,XV] at p
           refine wp_exit ?_
           obtain rfl:=XZ p
           exact XY () ⟨_,_,rfl,b7.kp,az,ao,rfl⟩
        ·
         rintro _ i8 ⟨db,cn,bt,rfl,e3,c3,fm,rfl⟩
         rw [Ex.bind_go] at aa
         refine Aa (Rk 0 3 ((tI 6 (Wt (aC+1)))::EO) e3 c3 fun ik e4=>?_)
         refine wf ?_
         exact XY bn ⟨Xc _,XY (Wt (aC+1)) ⟨_,_,rfl,(e4.keep [6,3,2] (by rfl)).cut 2 (by kernel_rfl),c3.cutPl 2 (by kernel_rfl),XU ar fm,aa⟩⟩
      ·
       rw [bx,XV] at aa
       refine wp_exit ?_
       obtain rfl:=XZ aa
       exact XY () ⟨_,_,rfl,b5.kp,ay,ar,rfl⟩
    ·
     rintro _ i9 ⟨da,cl,bs,rfl,e5,c4,hs,rfl⟩
     rw [Ex.bind_go] at H
     refine XT (Aa (Rk 0 1 [tB 4 true] e5 c4 fun il e6=>?_))
     refine wf (wp_ret ?_)
     obtain rfl:=XZ H
     exact rt (.one (.c (.bool true))) e6 c4 rfl
end Go.Proofs.YtokchpjijlebiaaGreat
