/- Each call computes its plain function. -/
import Derived.Test.YtokchpjijlebiaaGreatProg
import Derived.Test.YtokchpjijlebiaaGreatMQP0
import Derived.Test.YtokchpjijlebiaaGreatMQWA
set_option linter.all false
namespace Go.Proofs.YtokchpjijlebiaaGreat
open Go Go.RowKit
open Rep (rep)
open KRep (kv)
open VRep (rv)
abbrev G2 (q:Option Addr) (t_:Au) (u:Nat) (s:Option Addr) (x:Nat) (g:Option Addr) (k:Nat):List SC:=[.slice q t_.tm.length u,.slice s t_.turns.length x,.slice g t_.legs.length k]
abbrev Qw (a d aj ak:Nat) (x_v10:Int) (al am an aq:Nat):AT:=[(a,0),(d,0),(aj,ak+(x_v10:Int).toNat*1),(al,am+(x_v10:Int).toNat*3),(an,aq+(x_v10:Int).toNat*3)]
abbrev G3 (f:Option Addr) (r_:Af) (l:Nat) (i:Option Addr) (m:Nat) (y:Option Addr) (z:Nat):List SC:=[.slice f r_.legs.length l,.int .i64 r_.turn.lo,.int .i64 r_.turn.hi,.slice i r_.buses.length m,.slice y r_.spares.length z,.int .i64 r_.unit,.int .i64 r_.gap,.int .i64 r_.fr,.int .i64 r_.to_]
abbrev B7:TM:=[tP 3 1 0,tP 2 0 0]
abbrev GX (x_v30 x_v20:Int):TM:=(tI 7 x_v30)::(tI 6 x_v20)::B7
set_option maxRecDepth 100000 in
set_option maxHeartbeats 4000000 in
theorem Ps (n:Nat) {h:Ae} {w:World} (hh:C9 h w) (r_:Af) {cs_r_:List Value} (hx_r_:rep h r_ cs_r_) (t_:Au) {cs_t_:List Value} (hx_t_:rep h t_ cs_t_) {r:Bool} (H:Ik n r_ t_=some r) :
  Calls Tryz.prog 20 #[.agg cs_r_.toArray,.agg cs_t_.toArray] w (CA (fun h v=>v=.bool r) h w):=by
 obtain⟨_,_,rfl,⟨f,l,rfl,ac⟩,⟨_,_,rfl,⟨_,_,rfl,rfl,rfl⟩,⟨_,_,rfl,⟨i,m,rfl,ad⟩,⟨_,_,rfl,⟨y,z,rfl,ah⟩,⟨_,_,rfl,rfl,⟨_,_,rfl,rfl,⟨_,_,rfl,rfl,rfl⟩⟩⟩⟩⟩⟩⟩:=hx_r_
 obtain⟨_,_,rfl,⟨q,u,rfl,ae⟩,⟨_,_,rfl,⟨s,x,rfl,af⟩,⟨g,k,rfl,ab⟩⟩⟩:=hx_t_
 refine enter 126 [.agg (G3 f r_ l i m y z),.agg (G2 q t_ u s x g k)] Tryz.func20 rfl rfl rfl rfl fun t hk=>?_
 have hm:=Ai.begin h w hh
 unfold Ik at H
 refine XT (Aa (wl fun K hK=>?_))
 refine wb (.agg (G3 f r_ l i m y z)) hk hm fun a g1 i4 (em:Kn 126 [(a,0)] [tP 2 0 0,tA 0 (G3 f r_ l i m y z),tA 1 (G2 q t_ u s x g k)] g1) fn=>hK _ _ ?_
 refine wl fun K hK=>?_
 refine wb (.agg (G2 q t_ u s x g k)) em fn fun d g3 i6 (eu:Kn 126 [(a,0),(d,0)] [tP 3 1 0,tP 2 0 0,tA 0 (G3 f r_ l i m y z),tA 1 (G2 q t_ u s x g k)] g3) ap=>hK _ _ ?_
 refine Rk 2 1 B7 eu ap fun ie ez=>?_
 refine wf (XT (XT ?_))
 obtain⟨c8,aw,H⟩:=Am H
 refine Ap (fun a' w'=>∃ (cp:Array Value)(bb:Ae),a' = ⟨cp,[]⟩∧Kn 126 [(a,0),(d,0)] [tP 3 1 0,tP 2 0 0,tB 36 c8] cp∧Ai ⟨w,h,A3⟩ bb [(a,0),(d,0)] [⟨G3 f r_ l i m y z,some 28⟩,⟨G2 q t_ u s x g k,some 38⟩] [] w'∧Ae.le h bb) ?_ ?_
 ·
  refine Aa (Rk 0 8 ((tB 15 (((t_.tm.length:Nat):Int) != ((r_.buses.length:Nat):Int)))::B7) ez ap fun de c0=>?_)
  rcases Bool.eq_false_or_eq_true ((((t_.tm.length:Nat):Int) != ((r_.buses.length:Nat):Int))) with be | be
  ·
   rw [be,XW] at aw
   have e7:Kn 126 [(a,0),(d,0)] ((tB 15 true)::B7) de:=(c0.setB 15 true (by rfl) be).kp
   refine Rk 8 21 ((tB 36 true)::B7) e7 ap fun im e8=>?_
   refine wf ?_
   obtain rfl:=XZ aw
   exact XY _ ⟨_,rfl,e8.kp,ap,Ae.le_refl _⟩
  ·
   rw [be,XV] at aw
   have e9:Kn 126 [(a,0),(d,0)] ((tB 15 false)::B7) de:=(c0.setB 15 false (by rfl) be).kp
   refine Rk 8 9 ((tB 24 (((t_.turns.length:Nat):Int) != ((r_.buses.length:Nat):Int)))::B7) e9 ap fun df c1=>?_
   rcases Bool.eq_false_or_eq_true ((((t_.turns.length:Nat):Int) != ((r_.buses.length:Nat):Int))) with bf | bf
   ·
    rw [bf,XW] at aw
    have fa:Kn 126 [(a,0),(d,0)] ((tB 24 true)::B7) df:=(c1.setB 24 true (by rfl) bf).kp
    refine Rk 17 12 ((tB 36 true)::B7) fa ap fun io fb=>?_
    refine wf ?_
    obtain rfl:=XZ aw
    exact XY _ ⟨_,rfl,fb.kp,ap,Ae.le_refl _⟩
   ·
    rw [bf,XV] at aw
    have fc:Kn 126 [(a,0),(d,0)] ((tB 24 false)::B7) df:=(c1.setB 24 false (by rfl) bf).kp
    refine Rk 17 12 ((tB 36 (((t_.legs.length:Nat):Int) != (IntKind.i64.wrap (((r_.buses.length:Nat):Int)+((r_.spares.length:Nat):Int)))))::B7) fc ap fun ip fd=>?_
    refine wf ?_
    obtain rfl:=XZ aw
    exact XY _ ⟨_,rfl,fd.kp,ap,Ae.le_refl _⟩
 ·
  rintro _ ja ⟨cp,bb,rfl,b9,bm,a3⟩
  replace ac:=ac.mono a3
  replace ad:=ad.mono a3
  replace ah:=ah.mono a3
  replace ae:=ae.mono a3
  replace af:=af.mono a3
  replace ab:=ab.mono a3
  refine wC (c8) b9 (fun b2=>?_) (fun b2=>?_)
  ·
   rw [b2,XW] at H
   refine XT (Aa (Rk 0 1 [tB 4 false] b9 bm fun iq fe=>?_))
   refine wf (wp_ret ?_)
   obtain rfl:=XZ H
   exact rt (.one (.c (.bool false))) fe bm rfl
  ·
   rw [b2,XV] at H
   refine wp_skip (XT (XT (Aa (Rk 0 1 ((tI 5 0)::B7) b9 bm fun ir ff=>?_))))
   refine wf ?_
   obtain⟨c9,cv,H⟩:=Am H
   refine Ap (fun a' w'=>∃ (dc:Unit)(cq:Array Value)(bc:Ae),a' = ⟨cq,[]⟩∧Kn 126 [(a,0),(d,0)] B7 cq∧Ai ⟨w,h,A3⟩ bc [(a,0),(d,0)] [⟨G3 f r_ l i m y z,some 28⟩,⟨G2 q t_ u s x g k,some 38⟩] [] w'∧Ae.le bb bc∧c9=.go dc) ?_ ?_
   ·
    refine wp_block ?_
    refine An (fun gv a' w'=>∃ (x_v10:Int)(cr:Array Value)(bv:Ae),a' = ⟨cr,[]⟩∧Kn 126 [(a,0),(d,0)] ((tI 5 x_v10)::B7) cr∧Ai ⟨w,h,A3⟩ bv [(a,0),(d,0)] [⟨G3 f r_ l i m y z,some 28⟩,⟨G2 q t_ u s x g k,some 38⟩] [] w'∧Ae.le bb bv∧DN gv r_ t_ x_v10=some c9) n ?_ ?_
    ·
     exact XY 0 ⟨_,_,rfl,ff.kp,bm,Ae.le_refl _,cv⟩
    ·
     rintro bh _ jb ⟨x_v10,cr,bv,rfl,fg,a0,au,e⟩
     clear cv
     obtain _ | bh:=bh
     ·
      rw [DN] at e; cases e
     rw [DN] at e
     replace ac:=ac.mono au
     replace ad:=ad.mono au
     replace ah:=ah.mono au
     replace ae:=ae.mono au
     replace af:=af.mono au
     replace ab:=ab.mono au
     refine XT (XT (Aa (Rk 0 5 ((tB 41 (decide (x_v10<((r_.buses.length:Nat):Int))))::(tI 5 x_v10)::B7) fg a0 fun iu ca=>?_)))
     refine wf (wC (decide (x_v10<((r_.buses.length:Nat):Int))) ca (fun b3=>?_) (fun b3=>?_))
     ·
      rw [b3,XW] at e
      refine wp_skip (XT (wp_block (XT (Al (by kernel_rfl) ?_))))
      replace a0:=a0.drew
      refine Ao [] [(a,0),(d,0)] [⟨G3 f r_ l i m y z,some 28⟩,⟨G2 q t_ u s x g k,some 38⟩] ?_
      refine Dr [0,1,2] [2,1,0] ((tI 46 x_v10)::(tS 45 q t_.tm.length u)::(tI 5 x_v10)::B7) ca a0 fun iv fh=>?_
      obtain⟨x47,ex47,e⟩:=Am e
      obtain⟨fw,f6,gr⟩:=Ah ex47
      obtain⟨aj,ak,hn,ds,gg,d1⟩:=ae.get (by decide) gr
      obtain rfl:=gg
      have ci:=a0.addPlc (b:=aj) (o:=ak+(x_v10:Int).toNat*1) (cs:=[.int .i64 x47]) (fun j c hj=>d1 j _ (Aj hj)) rfl (by kernel_rfl) (by kernel_rfl)
      refine At 3 (x_v10) [.int .i64 x47] (fun _ _ _ _ _ h=>h) rfl rfl (rfl) rfl (by decide) (by kernel_rfl) (by kernel_rfl) fh a0.plOk (by rfl) (by rfl) (by rfl) ds (by rfl) fw f6 (by kernel_rfl) fun g9 (fi:Kn 126 [(a,0),(d,0),(aj,ak+(x_v10:Int).toNat*1)] ((tP 47 2 0)::(tI 46 x_v10)::(tS 45 q t_.tm.length u)::(tI 5 x_v10)::B7) g9)=>?_
      refine Dr [4,5,6,7] (dn 7) ((tI 51 x_v10)::(tS 50 i r_.buses.length m)::(tI 48 x47)::(tI 5 x_v10)::B7) fi ci fun iw fj=>?_
      obtain⟨x52,ex52,e⟩:=Am e
      obtain⟨fx,fy,gi⟩:=Ah ex52
      obtain⟨al,am,ho,dt,gh,d2⟩:=ad.get (by decide) gi
      obtain⟨_,_,rfl,rfl,⟨_,_,rfl,rfl,rfl⟩⟩:=gh
      have cb:=ci.addPlc (b:=al) (o:=am+(x_v10:Int).toNat*3) (cs:=[.int .i64 x52.stop,.int .i64 x52.tm.lo,.int .i64 x52.tm.hi]) (fun j c hj=>d2 j _ (Aj hj)) rfl (by kernel_rfl) (by kernel_rfl)
      refine At 8 (x_v10) [.int .i64 x52.stop,.int .i64 x52.tm.lo,.int .i64 x52.tm.hi] (fun _ _ _ _ _ h=>h) rfl rfl (rfl) rfl (by decide) (by kernel_rfl) (by kernel_rfl) fj ci.plOk (by rfl) (by rfl) (by rfl) dt (by rfl) fx fy (by kernel_rfl) fun gw (d3:Kn 126 [(a,0),(d,0),(aj,ak+(x_v10:Int).toNat*1),(al,am+(x_v10:Int).toNat*3)] ((tP 52 3 0)::(tI 51 x_v10)::(tS 50 i r_.buses.length m)::(tI 48 x47)::(tI 5 x_v10)::B7) gw)=>?_
      refine Dr [9,10,11,12,13,14] (dn 14) ((tI 58 x_v10)::(tS 57 i r_.buses.length m)::(tI 55 x52.tm.lo)::(tI 48 x47)::(tI 5 x_v10)::B7) d3 cb fun ht d4=>?_
      obtain⟨x59,ex59,e⟩:=Am e
      obtain⟨fo,fz,gj⟩:=Ah ex59
      obtain⟨an,aq,ha,dj,f8,du⟩:=ad.get (by decide) gj
      obtain⟨_,_,rfl,rfl,⟨_,_,rfl,rfl,rfl⟩⟩:=f8
      have cc:=cb.addPlc (b:=an) (o:=aq+(x_v10:Int).toNat*3) (cs:=[.int .i64 x59.stop,.int .i64 x59.tm.lo,.int .i64 x59.tm.hi]) (fun j c hj=>du j _ (Aj hj)) rfl (by kernel_rfl) (by kernel_rfl)
      refine At 15 (x_v10) [.int .i64 x59.stop,.int .i64 x59.tm.lo,.int .i64 x59.tm.hi] (fun _ _ _ _ _ h=>h) rfl rfl (rfl) rfl (by decide) (by kernel_rfl) (by kernel_rfl) d4 cb.plOk (by rfl) (by rfl) (by rfl) dj (by rfl) fo fz (by kernel_rfl) fun gx (d5:Kn 126 (Qw a d aj ak x_v10 al am an aq) ((tP 59 4 0)::(tI 58 x_v10)::(tS 57 i r_.buses.length m)::(tI 55 x52.tm.lo)::(tI 48 x47)::(tI 5 x_v10)::B7) gx)=>?_
      refine Dr [16,17,18] (dn 18) ((tI 62 x59.tm.hi)::(tI 55 x52.tm.lo)::(tI 48 x47)::(tI 5 x_v10)::B7) d5 cc fun hu d6=>?_
      obtain⟨x63,ex63,e⟩:=Am e
      refine Dl 19 fun K hK=>?_
      refine wc [.c (.int .i64 x47),.c (.int .i64 x52.tm.lo),.c (.int .i64 x59.tm.hi)] d6 cc (Cz bh cc.has x47 x52.tm.lo x59.tm.hi ex63) fun ix hp i0 dg ax av=>?_
      replace ac:=ac.mono ax
      replace ad:=ad.mono ax
      replace ah:=ah.mono ax
      replace ae:=ae.mono ax
      replace af:=af.mono ax
      replace ab:=ab.mono ax
      obtain rfl:=dg
      refine⟨.one (.c (.bool x63)),rfl,fun gy (d7:Kn 126 (Qw a d aj ak x_v10 al am an aq) ((tB 63 x63)::(tI 62 x59.tm.hi)::(tI 55 x52.tm.lo)::(tI 48 x47)::(tI 5 x_v10)::B7) gy)=>hK _ _ av.plOk ?_⟩
      refine Dr [20,21] (dn 21) ((tB 65 (!x63))::(tI 5 x_v10)::B7) d7 av fun dd cw=>?_
      rcases Bool.eq_false_or_eq_true ((!x63)) with bd | bd
      ·
       rw [bd,XW] at e
       have d8:Kn 126 (Qw a d aj ak x_v10 al am an aq) ((tB 65 true)::(tI 5 x_v10)::B7) dd:=(cw.setB 65 true (by rfl) bd).kp
       refine Dr [22,23,24,25,26,27,28,29,30,31,32,33,34,35] (dn 35) ((tB 79 true)::(tI 5 x_v10)::B7) d8 av fun hv cx=>?_
       refine Ay (by kernel_rfl) (wC true cx (fun hb=>?_) (fun hb=>?_))
       rotate_left
       ·
        cases hb
       refine XT (Aa (Rk 0 1 [tB 4 false] cx av fun hw d9=>?_))
       refine wf (wp_ret ?_)
       obtain rfl:=XZ e
       obtain rfl:=XZ H
       exact rt (.one (.c (.bool false))) d9 av rfl
      ·
       rw [bd,XV] at e
       have ea:Kn 126 (Qw a d aj ak x_v10 al am an aq) ((tB 65 false)::(tI 5 x_v10)::B7) dd:=(cw.setB 65 false (by rfl) bd).kp
       refine Dr [22,23,24] (dn 24) ((tI 68 x_v10)::(tS 67 s t_.turns.length x)::(tB 65 false)::(tI 5 x_v10)::B7) ea av fun hx cy=>?_
       obtain⟨x69,ex69,e⟩:=Am e
       obtain⟨fp,f0,gk⟩:=Ah ex69
       obtain⟨bq,cj,hc,dk,f9,dv⟩:=af.get (by decide) gk
       obtain rfl:=f9
       have cd:=av.addPlc (b:=bq) (o:=cj+(x_v10:Int).toNat*1) (cs:=[.int .i64 x69]) (fun j c hj=>dv j _ (Aj hj)) rfl (by kernel_rfl) (by kernel_rfl)
       refine At 25 (x_v10) [.int .i64 x69] (fun _ _ _ _ _ h=>h) rfl rfl (Ak cy (by kernel_rfl)) rfl (by decide) (by kernel_rfl) (by kernel_rfl) cy av.plOk (by rfl) (by rfl) (by rfl) dk (by rfl) fp f0 (by kernel_rfl) fun gz (eb:Kn 126 [(a,0),(d,0),(aj,ak+(x_v10:Int).toNat*1),(al,am+(x_v10:Int).toNat*3),(an,aq+(x_v10:Int).toNat*3),(bq,cj+(x_v10:Int).toNat*1)] ((tP 69 5 0)::(tI 68 x_v10)::(tS 67 s t_.turns.length x)::(tB 65 false)::(tI 5 x_v10)::B7) gz)=>?_
       refine Dr [26,27,28,29,30,31,32] (dn 32) ((tI 76 r_.turn.hi)::(tI 73 r_.turn.lo)::(tI 70 x69)::(tB 65 false)::(tI 5 x_v10)::B7) eb cd fun hy cz=>?_
       obtain⟨x77,ex77,e⟩:=Am e
       refine E7 33 rfl (by kernel_rfl) (by decide) (Ak cz (by kernel_rfl)) fun K hK=>?_
       refine wc [.c (.int .i64 x69),.c (.int .i64 r_.turn.lo),.c (.int .i64 r_.turn.hi)] cz cd (Cz bh cd.has x69 r_.turn.lo r_.turn.hi ex77) fun iy hq i1 dh fk a4=>?_
       obtain rfl:=dh
       refine⟨.one (.c (.bool x77)),rfl,fun g0 (ec:Kn 126 [(a,0),(d,0),(aj,ak+(x_v10:Int).toNat*1),(al,am+(x_v10:Int).toNat*3),(an,aq+(x_v10:Int).toNat*3),(bq,cj+(x_v10:Int).toNat*1)] ((tB 77 x77)::(tI 76 r_.turn.hi)::(tI 73 r_.turn.lo)::(tI 70 x69)::(tB 65 false)::(tI 5 x_v10)::B7) g0)=>hK _ _ a4.plOk ?_⟩
       refine Dr [34,35] (dn 35) ((tB 79 (!x77))::(tI 5 x_v10)::B7) ec a4 fun hz b4=>?_
       refine Ay (by kernel_rfl) (wC ((!x77)) b4 (fun bw=>?_) (fun bw=>?_))
       ·
        rw [bw,XW] at e
        refine XT (Aa (Rk 0 1 [tB 4 false] b4 a4 fun h0 ed=>?_))
        refine wf (wp_ret ?_)
        obtain rfl:=XZ e
        obtain rfl:=XZ H
        exact rt (.one (.c (.bool false))) ed a4 rfl
       ·
        rw [bw,XV] at e
        refine wp_skip (Aa (Rk 0 3 ((tI 5 (IntKind.i64.wrap (x_v10+1)))::B7) b4 a4 fun h1 ee=>?_))
        refine wf ?_
        exact XY bh ⟨Nat.lt_succ_self _,XY (IntKind.i64.wrap (x_v10+1)) ⟨_,_,rfl,(ee.keep [5,3,2] (by rfl)).cut 2 (by kernel_rfl),a4.cutPl 2 (by kernel_rfl),XU au (XU ax fk),e⟩⟩
     ·
      rw [b3,XV] at e
      refine wp_exit ?_
      obtain rfl:=XZ e
      exact XY () ⟨_,_,rfl,ca.kp,a0,au,rfl⟩
   ·
    rintro _ i2 ⟨dc,cq,bc,rfl,ef,c2,a2,rfl⟩
    rw [Ex.bind_go] at H
    replace ac:=ac.mono a2
    replace ad:=ad.mono a2
    replace ah:=ah.mono a2
    replace ae:=ae.mono a2
    replace af:=af.mono a2
    replace ab:=ab.mono a2
    refine XT (XT (Aa (Rk 0 1 ((tI 6 0)::B7) ef c2 fun h2 eg=>?_)))
    refine wf ?_
    obtain⟨c6,ct,H⟩:=Am H
    refine Ap (fun a' w'=>∃ (da:Unit)(cl:Array Value)(bs:Ae),a' = ⟨cl,[]⟩∧Kn 126 [(a,0),(d,0)] [] cl∧Ai ⟨w,h,A3⟩ bs [(a,0),(d,0)] [⟨G3 f r_ l i m y z,some 28⟩,⟨G2 q t_ u s x g k,some 38⟩] [] w'∧Ae.le bc bs∧c6=.go da) ?_ ?_
    ·
     refine wp_block ?_
     refine An (fun gs a' w'=>∃ (x_v20:Int)(cm:Array Value)(ba:Ae),a' = ⟨cm,[]⟩∧Kn 126 [(a,0),(d,0)] ((tI 6 x_v20)::B7) cm∧Ai ⟨w,h,A3⟩ ba [(a,0),(d,0)] [⟨G3 f r_ l i m y z,some 28⟩,⟨G2 q t_ u s x g k,some 38⟩] [] w'∧Ae.le bc ba∧DP gs r_ t_ x_v20=some c6) n ?_ ?_
     ·
      exact XY 0 ⟨_,_,rfl,eg.kp,c2,Ae.le_refl _,ct⟩
     ·
      rintro bn _ i3 ⟨x_v20,cm,ba,rfl,eh,ay,ar,aa⟩
      clear ct
      obtain _ | bn:=bn
      ·
       rw [DP] at aa; cases aa
      rw [DP] at aa
      replace ac:=ac.mono ar
      replace ad:=ad.mono ar
      replace ah:=ah.mono ar
      replace ae:=ae.mono ar
      replace af:=af.mono ar
      replace ab:=ab.mono ar
      refine XT (XT (Aa (Rk 0 5 ((tB 84 (decide (x_v20<((t_.legs.length:Nat):Int))))::(tI 6 x_v20)::B7) eh ay fun h3 b5=>?_)))
      refine wf (wC (decide (x_v20<((t_.legs.length:Nat):Int))) b5 (fun bx=>?_) (fun bx=>?_))
      ·
       rw [bx,XW] at aa
       refine wp_skip (XT (wp_block (XT (XT (Al (by kernel_rfl) ?_)))))
       replace ay:=ay.drew
       refine Ao [] [(a,0),(d,0)] [⟨G3 f r_ l i m y z,some 28⟩,⟨G2 q t_ u s x g k,some 38⟩] ?_
       refine Dr [0,1,2] [2,1,0] ((tI 89 x_v20)::(tS 88 g t_.legs.length k)::(tI 6 x_v20)::B7) b5 ay fun h4 ei=>?_
       obtain⟨x90,ex90,aa⟩:=Am aa
       obtain⟨fq,f1,gl⟩:=Ah ex90
       obtain⟨ag,ai,hd,dl,ga,dw⟩:=ab.get (by decide) gl
       obtain⟨a7,a9,rfl,c5⟩:=ga
       have bg:=ay.addPlc (b:=ag) (o:=ai+(x_v20:Int).toNat*1) (cs:=[.slice a7 x90.length a9]) (fun j c hj=>dw j _ (Aj hj)) rfl (by kernel_rfl) (by kernel_rfl)
       refine At 3 (x_v20) [.slice a7 x90.length a9] (fun _ _ _ _ _ h=>h) rfl rfl (rfl) rfl (by decide) (by kernel_rfl) (by kernel_rfl) ei ay.plOk (by rfl) (by rfl) (by rfl) dl (by rfl) fq f1 (by kernel_rfl) fun g2 (ej:Kn 126 [(a,0),(d,0),(ag,ai+(x_v20:Int).toNat*1)] ((tP 90 2 0)::(tI 89 x_v20)::(tS 88 g t_.legs.length k)::(tI 6 x_v20)::B7) g2)=>?_
       refine Dr [4,5,6,7,8,9] (dn 9) ((tB 96 (((x90.length:Nat):Int) != ((r_.legs.length:Nat):Int)))::(tI 6 x_v20)::B7) ej bg fun h5 b6=>?_
       refine Ay (by kernel_rfl) (wC ((((x90.length:Nat):Int) != ((r_.legs.length:Nat):Int))) b6 (fun bz=>?_) (fun bz=>?_))
       ·
        rw [bz,XW] at aa
        refine XT (Aa (Rk 0 1 [tB 4 false] b6 bg fun h6 ek=>?_))
        refine wf (wp_ret ?_)
        obtain rfl:=XZ aa
        obtain rfl:=XZ H
        exact rt (.one (.c (.bool false))) ek bg rfl
       ·
        rw [bz,XV] at aa
        refine wp_skip (XT (Aa (Rk 0 1 ((tI 7 0)::(tI 6 x_v20)::B7) b6 bg fun h7 el=>?_)))
        refine wf ?_
        obtain⟨c7,cu,aa⟩:=Am aa
        refine Ap (fun a' w'=>∃ (db:Unit)(cn:Array Value)(bt:Ae),a' = ⟨cn,[]⟩∧Kn 126 [(a,0),(d,0),(ag,ai+(x_v20:Int).toNat*1)] ((tI 6 x_v20)::B7) cn∧Ai ⟨w,h,A3⟩ bt [(a,0),(d,0),(ag,ai+(x_v20:Int).toNat*1)] [⟨G3 f r_ l i m y z,some 28⟩,⟨G2 q t_ u s x g k,some 38⟩,⟨[.slice a7 x90.length a9],none⟩] [] w'∧Ae.le ba bt∧c7=.go db) ?_ ?_
        ·
         refine wp_block ?_
         refine An (fun gu a' w'=>∃ (x_v30:Int)(co:Array Value)(bu:Ae),a' = ⟨co,[]⟩∧Kn 126 [(a,0),(d,0),(ag,ai+(x_v20:Int).toNat*1)] (GX x_v30 x_v20) co∧Ai ⟨w,h,A3⟩ bu [(a,0),(d,0),(ag,ai+(x_v20:Int).toNat*1)] [⟨G3 f r_ l i m y z,some 28⟩,⟨G2 q t_ u s x g k,some 38⟩,⟨[.slice a7 x90.length a9],none⟩] [] w'∧Ae.le ba bu∧DO gu r_ t_ x_v20 x_v30=some c7) bn ?_ ?_
         ·
          exact XY 0 ⟨_,_,rfl,el.kp,bg,Ae.le_refl _,cu⟩
         ·
          rintro bo _ i5 ⟨x_v30,co,bu,rfl,en,az,ao,p⟩
          clear cu
          obtain _ | bo:=bo
          ·
           rw [DO] at p; cases p
          rw [DO] at p
          replace ac:=ac.mono ao
          replace ad:=ad.mono ao
          replace ah:=ah.mono ao
          replace ae:=ae.mono ao
          replace af:=af.mono ao
          replace ab:=ab.mono ao
          replace c5:=c5.mono ao
          refine XT (XT (Aa (Rk 0 5 ((tB 101 (decide (x_v30<((r_.legs.length:Nat):Int))))::(GX x_v30 x_v20)) en az fun h8 b7=>?_)))
          refine wf (wC (decide (x_v30<((r_.legs.length:Nat):Int))) b7 (fun b0=>?_) (fun b0=>?_))
          ·
           rw [b0,XW] at p
           refine wp_skip (XT (wp_block (XT (Al (by kernel_rfl) ?_))))
           replace az:=az.drew
           refine Ao [] [(a,0),(d,0),(ag,ai+(x_v20:Int).toNat*1)] [⟨G3 f r_ l i m y z,some 28⟩,⟨G2 q t_ u s x g k,some 38⟩,⟨[.slice a7 x90.length a9],none⟩] ?_
           refine Dr [0,1,2] [2,1,0] ((tI 106 x_v20)::(tS 105 g t_.legs.length k)::(GX x_v30 x_v20)) b7 az fun h9 eo=>?_
           obtain⟨x107,ex107,p⟩:=Am p
           obtain⟨fs,f2,gm⟩:=Ah ex107
           obtain⟨a1,a6,he,dm,gb,dx⟩:=ab.get (by decide) gm
           obtain⟨bj,bl,rfl,f7⟩:=gb
           have ce:=az.addPlc (b:=a1) (o:=a6+(x_v20:Int).toNat*1) (cs:=[.slice bj x107.length bl]) (fun j c hj=>dx j _ (Aj hj)) rfl (by kernel_rfl) (by kernel_rfl)
           refine At 3 (x_v20) [.slice bj x107.length bl] (fun _ _ _ _ _ h=>h) rfl rfl (rfl) rfl (by decide) (by kernel_rfl) (by kernel_rfl) eo az.plOk (by rfl) (by rfl) (by rfl) dm (by rfl) fs f2 (by kernel_rfl) fun g4 (ep:Kn 126 [(a,0),(d,0),(ag,ai+(x_v20:Int).toNat*1),(a1,a6+(x_v20:Int).toNat*1)] ((tP 107 3 0)::(tI 106 x_v20)::(tS 105 g t_.legs.length k)::(GX x_v30 x_v20)) g4)=>?_
           refine Dr [4,5] (dn 5) ((tI 109 x_v30)::(tS 108 bj x107.length bl)::(GX x_v30 x_v20)) ep ce fun ia er=>?_
           obtain⟨x110,ex110,p⟩:=Am p
           obtain⟨ft,f3,gn⟩:=Ah ex110
           obtain⟨a8,bi,hf,dp,gc,dy⟩:=f7.get (by decide) gn
           obtain rfl:=gc
           have cf:=ce.addPlc (b:=a8) (o:=bi+(x_v30:Int).toNat*1) (cs:=[.int .i64 x110]) (fun j c hj=>dy j _ (Aj hj)) rfl (by kernel_rfl) (by kernel_rfl)
           refine At 6 (x_v30) [.int .i64 x110] (fun _ _ _ _ _ h=>h) rfl rfl (rfl) rfl (by decide) (by kernel_rfl) (by kernel_rfl) er ce.plOk (by rfl) (by rfl) (by rfl) dp (by rfl) ft f3 (by kernel_rfl) fun g5 (es:Kn 126 [(a,0),(d,0),(ag,ai+(x_v20:Int).toNat*1),(a1,a6+(x_v20:Int).toNat*1),(a8,bi+(x_v30:Int).toNat*1)] ((tP 110 4 0)::(tI 109 x_v30)::(tS 108 bj x107.length bl)::(GX x_v30 x_v20)) g5)=>?_
           refine Dr [7,8,9,10] (dn 10) ((tI 114 x_v30)::(tS 113 f r_.legs.length l)::(tI 111 x110)::(GX x_v30 x_v20)) es cf fun ib et=>?_
           obtain⟨x115,ex115,p⟩:=Am p
           obtain⟨fu,f4,gp⟩:=Ah ex115
           obtain⟨bk,bp,hg,dq,gd,dz⟩:=ac.get (by decide) gp
           obtain⟨_,_,rfl,rfl,rfl⟩:=gd
           have cg:=cf.addPlc (b:=bk) (o:=bp+(x_v30:Int).toNat*2) (cs:=[.int .i64 x115.lo,.int .i64 x115.hi]) (fun j c hj=>dz j _ (Aj hj)) rfl (by kernel_rfl) (by kernel_rfl)
           refine At 11 (x_v30) [.int .i64 x115.lo,.int .i64 x115.hi] (fun _ _ _ _ _ h=>h) rfl rfl (rfl) rfl (by decide) (by kernel_rfl) (by kernel_rfl) et cf.plOk (by rfl) (by rfl) (by rfl) dq (by rfl) fu f4 (by kernel_rfl) fun g6 (ev:Kn 126 [(a,0),(d,0),(ag,ai+(x_v20:Int).toNat*1),(a1,a6+(x_v20:Int).toNat*1),(a8,bi+(x_v30:Int).toNat*1),(bk,bp+(x_v30:Int).toNat*2)] ((tP 115 5 0)::(tI 114 x_v30)::(tS 113 f r_.legs.length l)::(tI 111 x110)::(GX x_v30 x_v20)) g6)=>?_
           refine Dr [12,13,14,15,16] (dn 16) ((tI 120 x_v30)::(tS 119 f r_.legs.length l)::(tI 117 x115.lo)::(tI 111 x110)::(GX x_v30 x_v20)) ev cg fun ic ew=>?_
           obtain⟨x121,ex121,p⟩:=Am p
           obtain⟨fv,f5,gq⟩:=Ah ex121
           obtain⟨br,ck,hl,dr,gf,d0⟩:=ac.get (by decide) gq
           obtain⟨_,_,rfl,rfl,rfl⟩:=gf
           have ch:=cg.addPlc (b:=br) (o:=ck+(x_v30:Int).toNat*2) (cs:=[.int .i64 x121.lo,.int .i64 x121.hi]) (fun j c hj=>d0 j _ (Aj hj)) rfl (by kernel_rfl) (by kernel_rfl)
           refine At 17 (x_v30) [.int .i64 x121.lo,.int .i64 x121.hi] (fun _ _ _ _ _ h=>h) rfl rfl (rfl) rfl (by decide) (by kernel_rfl) (by kernel_rfl) ew cg.plOk (by rfl) (by rfl) (by rfl) dr (by rfl) fv f5 (by kernel_rfl) fun g7 (ex:Kn 126 [(a,0),(d,0),(ag,ai+(x_v20:Int).toNat*1),(a1,a6+(x_v20:Int).toNat*1),(a8,bi+(x_v30:Int).toNat*1),(bk,bp+(x_v30:Int).toNat*2),(br,ck+(x_v30:Int).toNat*2)] ((tP 121 6 0)::(tI 120 x_v30)::(tS 119 f r_.legs.length l)::(tI 117 x115.lo)::(tI 111 x110)::(GX x_v30 x_v20)) g7)=>?_
           refine Dr [18,19] (dn 19) ((tI 123 x121.hi)::(tI 117 x115.lo)::(tI 111 x110)::(GX x_v30 x_v20)) ex ch fun ig ey=>?_
           obtain⟨x124,ex124,p⟩:=Am p
           refine Dl 20 fun K hK=>?_
           refine wc [.c (.int .i64 x110),.c (.int .i64 x115.lo),.c (.int .i64 x121.hi)] ey ch (Cz bo ch.has x110 x115.lo x121.hi ex124) fun iz hr i7 di fl a5=>?_
           obtain rfl:=di
           refine⟨.one (.c (.bool x124)),rfl,fun g8 (e0:Kn 126 [(a,0),(d,0),(ag,ai+(x_v20:Int).toNat*1),(a1,a6+(x_v20:Int).toNat*1),(a8,bi+(x_v30:Int).toNat*1),(bk,bp+(x_v30:Int).toNat*2),(br,ck+(x_v30:Int).toNat*2)] ((tB 124 x124)::(tI 123 x121.hi)::(tI 117 x115.lo)::(tI 111 x110)::(GX x_v30 x_v20)) g8)=>hK _ _ a5.plOk ?_⟩
           refine Dr [21] (dn 21) ((tB 125 (!x124))::(GX x_v30 x_v20)) e0 a5 fun ih b8=>?_
           refine Ay (by kernel_rfl) (wC ((!x124)) b8 (fun b1=>?_) (fun b1=>?_))
           ·
            rw [b1,XW] at p
            refine XT (Aa (Rk 0 1 [tB 4 false] b8 a5 fun ii e1=>?_))
            refine wf (wp_ret ?_)
            obtain rfl:=XZ p
            obtain rfl:=XZ aa
            obtain rfl:=XZ H
            exact rt (.one (.c (.bool false))) e1 a5 rfl
           ·
            rw [b1,XV] at p
            refine wp_skip (Aa (Rk 0 3 ((tI 7 (IntKind.i64.wrap (x_v30+1)))::(tI 6 x_v20)::B7) b8 a5 fun ij e2=>?_))
            refine wf ?_
            exact XY bo ⟨Nat.lt_succ_self _,XY (IntKind.i64.wrap (x_v30+1)) ⟨_,_,rfl,(e2.keep [7,6,3,2] (by rfl)).cut 3 (by kernel_rfl),a5.cutPl 3 (by kernel_rfl),XU ao fl,p⟩⟩
          ·
           rw [b0,XV] at p
           refine wp_exit ?_
           obtain rfl:=XZ p
           exact XY () ⟨_,_,rfl,b7.kp,az,ao,rfl⟩
        ·
         rintro _ i8 ⟨db,cn,bt,rfl,e3,c3,fm,rfl⟩
         rw [Ex.bind_go] at aa
         refine Aa (Rk 0 3 ((tI 6 (IntKind.i64.wrap (x_v20+1)))::B7) e3 c3 fun ik e4=>?_)
         refine wf ?_
         exact XY bn ⟨Nat.lt_succ_self _,XY (IntKind.i64.wrap (x_v20+1)) ⟨_,_,rfl,(e4.keep [6,3,2] (by rfl)).cut 2 (by kernel_rfl),c3.cutPl 2 (by kernel_rfl),XU ar fm,aa⟩⟩
      ·
       rw [bx,XV] at aa
       refine wp_exit ?_
       obtain rfl:=XZ aa
       exact XY () ⟨_,_,rfl,b5.kp,ay,ar,rfl⟩
    ·
     rintro _ i9 ⟨da,cl,bs,rfl,e5,c4,hs,rfl⟩
     rw [Ex.bind_go] at H
     refine XT (Aa (Rk 0 1 [tB 4 true] e5 c4 fun il e6=>?_))
     refine wf (wp_ret ?_)
     obtain rfl:=XZ H
     exact rt (.one (.c (.bool true))) e6 c4 rfl
end Go.Proofs.YtokchpjijlebiaaGreat
