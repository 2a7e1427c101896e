/- Each call computes its plain function. -/
import Derived.Test.YtokchpjijlebiaaProg
import Derived.Test.YtokchpjijlebiaaBGP0
import Derived.Test.YtokchpjijlebiaaBGWA
import Derived.Test.YtokchpjijlebiaaBGWA1
import Derived.Test.YtokchpjijlebiaaBGWB
import Derived.Test.YtokchpjijlebiaaBGWC
import Derived.Test.YtokchpjijlebiaaBGWC1
import Derived.Test.YtokchpjijlebiaaBGWD
import Derived.Test.YtokchpjijlebiaaBGWE
import Derived.Test.YtokchpjijlebiaaBGWF
import Derived.Test.YtokchpjijlebiaaBGWZ
set_option linter.all false
namespace Go.Proofs.Ytokchpjijlebiaa
open Go Go.RowKit
open Rep (rep)
open KRep (kv)
open VRep (rv)
abbrev TL:List SC:=[.slice none 0 0,.slice none 0 0,.slice none 0 0]
abbrev RZ (a e a3 bc:Nat) (ab:(Int×Int)):Ba:=[(a,0),(e,0),(a3,bc+(ab.2:Int).toNat*3)]
abbrev F8 (s:Option Addr) (x21:Am×Int) (y:Nat) (u:Option Addr) (z:Nat) (x:Option Addr) (aa:Nat):List SC:=[.slice s x21.1.holds.length y,.slice u x21.1.turns.length z,.slice x x21.1.spares.length aa]
abbrev Tc (bd:Option Addr) (x82:Am) (bj:Nat) (be:Option Addr) (bk:Nat) (bf:Option Addr) (bl:Nat):List SC:=[.slice bd x82.holds.length bj,.slice be x82.turns.length bk,.slice bf x82.spares.length bl]
abbrev Ql (ap:Option Addr) (x105:Am) (au:Nat) (aq:Option Addr) (av:Nat) (ar:Option Addr) (aw:Nat):List SC:=[.slice ap x105.holds.length au,.slice aq x105.turns.length av,.slice ar x105.spares.length aw]
abbrev Td (bg:Option Addr) (x109:Am) (bm:Nat) (bh:Option Addr) (bn:Nat) (bi:Option Addr) (bo:Nat):List SC:=[.slice bg x109.holds.length bm,.slice bh x109.turns.length bn,.slice bi x109.spares.length bo]
abbrev Sa (a0:Option Addr) (x149:Am) (a4:Nat) (a1:Option Addr) (a5:Nat) (a2:Option Addr) (a6:Nat):List SC:=[.slice a0 x149.holds.length a4,.slice a1 x149.turns.length a5,.slice a2 x149.spares.length a6]
abbrev CU (f:Option Addr) (r_:Af) (k:Nat) (g:Option Addr) (l:Nat) (i:Option Addr) (m:Nat):List SC:=[.slice f r_.legs.length k,.int .i64 r_.turn.lo,.int .i64 r_.turn.hi,.slice g r_.buses.length l,.slice i r_.spares.length m,.int .i64 r_.unit,.int .i64 r_.gap,.int .i64 r_.fr,.int .i64 r_.to_]
abbrev Uu (bw:Option Addr) (x20:Af) (b4:Nat) (bx:Option Addr) (b5:Nat) (bz:Option Addr) (b6:Nat):List SC:=[.slice bw x20.legs.length b4,.int .i64 x20.turn.lo,.int .i64 x20.turn.hi,.slice bx x20.buses.length b5,.slice bz x20.spares.length b6,.int .i64 x20.unit,.int .i64 x20.gap,.int .i64 x20.fr,.int .i64 x20.to_]
abbrev S4 (b0:Option Addr) (x26:Af) (b7:Nat) (b1:Option Addr) (b2:Nat) (bv:Option Addr) (b3:Nat):List SC:=[.slice b0 x26.legs.length b7,.int .i64 x26.turn.lo,.int .i64 x26.turn.hi,.slice b1 x26.buses.length b2,.slice bv x26.spares.length b3,.int .i64 x26.unit,.int .i64 x26.gap,.int .i64 x26.fr,.int .i64 x26.to_]
abbrev IQ (b:Option Addr) (x65:List Am) (d:Nat) (x27:Int×Int) (x21:Am×Int):TM:=[tS 8 b x65.length d,tI 6 x27.2,tI 5 x27.1,tI 4 x21.2,tP 3 1 0,tP 1 0 0]
abbrev Fg (x_v10 x_v11 x_v12:Int) (b:Option Addr) (x65:List Am) (d:Nat) (x27:Int×Int) (x21:Am×Int):TM:=(tI 11 x_v10)::(tI 10 x_v11)::(tI 9 x_v12)::(IQ b x65 d x27 x21)
abbrev G3 (x_v10 ad x_v12:Int) (b:Option Addr) (x65:List Am) (d:Nat) (x27:Int×Int) (x21:Am×Int):TM:=(tI 11 x_v10)::(tI 10 ad)::(tI 9 x_v12)::(IQ b x65 d x27 x21)
abbrev Ol (x27:Int×Int) (x21:Am×Int):TM:=[tI 6 x27.2,tI 5 x27.1,tI 4 x21.2,tP 3 1 0,tP 1 0 0]
set_option maxRecDepth 100000 in
set_option maxHeartbeats 4000000 in
theorem Kq (n:Nat) {h:Ae} {w:World} (hh:Dn h w) (r_:Af) {cs_r_:List Value} (hx_r_:rep h r_ cs_r_) {r:Bool} (H:EA n r_=some r) :
  Calls Try.prog 3 #[.agg cs_r_.toArray] w (Dp (fun h v=>v=.bool r) h w):=by
 obtain⟨_,_,rfl,⟨f,k,rfl,o⟩,⟨_,_,rfl,⟨_,_,rfl,rfl,rfl⟩,⟨_,_,rfl,⟨g,l,rfl,p⟩,⟨_,_,rfl,⟨i,m,rfl,q⟩,⟨_,_,rfl,rfl,⟨_,_,rfl,rfl,⟨_,_,rfl,rfl,rfl⟩⟩⟩⟩⟩⟩⟩:=hx_r_
 refine enter 157 [.agg (CU f r_ k g l i m)] Try.func3 rfl rfl rfl rfl fun t hk=>?_
 have hm:=Ah.begin h w hh
 unfold EA at H
 refine XT (Aa (wl fun K hK=>?_))
 refine wb (.agg (CU f r_ k g l i m)) hk hm fun a lb lz (hd:Kn 157 [(a,0)] [tP 1 0 0,tA 0 (CU f r_ k g l i m)] lb) (dd:Ah ⟨w,h,Aj⟩ h [(a,0)] [⟨CU f r_ k g l i m,some 28⟩] [] lz)=>hK _ _ ?_
 refine Rk 1 1 [tP 1 0 0] hd dd fun mo hn=>?_
 refine wf (XT (XT (Aa (Rk 0 1 [tA 14 (CU f r_ k g l i m),tP 1 0 0] hn dd fun mt hz=>?_))))
 obtain⟨x15,ex15,H⟩:=Aq H
 refine wl fun K hK=>?_
 refine wc [.agg (CU f r_ k g l i m)] hz dd (RY n dd.has r_ ((Ab (Ad o) (Ab (Ab Ac Ac) (Ab (Ad p) (Ab (Ad q) (Ab Ac (Ab Ac (Ab Ac Ac))))))):rep h r_ _) ex15) fun ob gv ow gh d6 cd=>?_
 replace o:=o.mono d6
 replace p:=p.mono d6
 replace q:=q.mono d6
 obtain rfl:=gh
 refine⟨.one (.c (.bool x15)),rfl,fun li (ib:Kn 157 [(a,0)] [tB 15 x15,tA 14 (CU f r_ k g l i m),tP 1 0 0] li)=>hK _ _ ?_⟩
 refine Rk 2 1 [tB 16 (!x15),tP 1 0 0] ib cd fun m6 d1=>?_
 refine wf (wC ((!x15)) d1 (fun dt=>?_) (fun dt=>?_))
 ·
  rw [dt,XW] at H
  refine XT (Aa ?_)
  obtain⟨x17,ex17,H⟩:=Aq H
  refine wl fun K hK=>?_
  refine wc [] d1 cd (GE n cd.has  ex17) fun oe ma o1 gk mg fp=>?_
  obtain rfl:=gk
  refine⟨.one (.c (.bool x17)),rfl,fun lm (iz:Kn 157 [(a,0)] [tB 17 x17,tB 16 (!x15),tP 1 0 0] lm)=>hK _ _ ?_⟩
  refine Rk 1 1 [tB 2 x17] iz fp fun nj i4=>?_
  refine wf (wp_ret ?_)
  obtain rfl:=XZ H
  exact rt (.one (.c (.bool x17))) i4 fp rfl
 ·
  rw [dt,XV] at H
  refine wp_skip (XT (Aa (Rk 0 1 [tA 19 (CU f r_ k g l i m),tP 1 0 0] d1 cd fun nr jc=>?_)))
  obtain⟨x20,ex20,H⟩:=Aq H
  refine wl fun K hK=>?_
  refine wc [.agg (CU f r_ k g l i m)] jc cd (LL n cd.has r_ ((Ab (Ad o) (Ab (Ab Ac Ac) (Ab (Ad p) (Ab (Ad q) (Ab Ac (Ab Ac (Ab Ac Ac))))))):rep gv r_ _) ex20) fun oh gw o5 gn d7 fs=>?_
  obtain⟨_,rfl,⟨_,_,rfl,⟨bw,b4,rfl,kw⟩,⟨_,_,rfl,⟨_,_,rfl,rfl,rfl⟩,⟨_,_,rfl,⟨bx,b5,rfl,kx⟩,⟨_,_,rfl,⟨bz,b6,rfl,ky⟩,⟨_,_,rfl,rfl,⟨_,_,rfl,rfl,⟨_,_,rfl,rfl,rfl⟩⟩⟩⟩⟩⟩⟩⟩:=gn
  refine⟨.one (.agg (Uu bw x20 b4 bx b5 bz b6)),rfl,fun lw (jw:Kn 157 [(a,0)] [tA 20 (Uu bw x20 b4 bx b5 bz b6),tA 19 (CU f r_ k g l i m),tP 1 0 0] lw)=>hK _ _ ?_⟩
  obtain⟨x21,ex21,H⟩:=Aq H
  refine wl fun K hK=>?_
  refine wc [.agg (Uu bw x20 b4 bx b5 bz b6)] jw fs (IW n fs.has x20 ((Ab (Ad kw) (Ab (Ab Ac Ac) (Ab (Ad kx) (Ab (Ad ky) (Ab Ac (Ab Ac (Ab Ac Ac))))))):rep gw x20 _) ex21) fun om dp pa gr d8 ft=>?_
  replace o:=o.mono (XU d7 d8)
  replace p:=p.mono (XU d7 d8)
  replace q:=q.mono (XU d7 d8)
  obtain⟨_,_,rfl,⟨_,rfl,⟨_,_,rfl,⟨s,y,rfl,ae⟩,⟨_,_,rfl,⟨u,z,rfl,af⟩,⟨x,aa,rfl,ag⟩⟩⟩⟩,rfl⟩:=gr
  refine⟨.tup [.agg (F8 s x21 y u z x aa),.c (.int .i64 x21.2)],rfl,fun lx (jx:Kn 157 [(a,0)] [(21,.tup [.agg (F8 s x21 y u z x aa),.c (.int .i64 x21.2)]),tA 20 (Uu bw x20 b4 bx b5 bz b6),tA 19 (CU f r_ k g l i m),tP 1 0 0] lx)=>hK _ _ ?_⟩
  refine Rk 3 3 [tI 23 x21.2,tA 22 (F8 s x21 y u z x aa),tP 1 0 0] jx ft fun n4 jy=>?_
  refine wl fun K hK=>?_
  refine wa TL jy ft fun e ly l2 (jz:Kn 157 [(a,0),(e,0)] [tP 3 1 0,tI 23 x21.2,tA 22 (F8 s x21 y u z x aa),tP 1 0 0] ly) (j8:Ah ⟨w,h,Aj⟩ dp [(a,0),(e,0)] [⟨CU f r_ k g l i m,some 28⟩,⟨TL,some 34⟩] [] l2)=>hK _ _ ?_
  refine wl fun K hK=>?_
  refine G2 1 0 (.agg (F8 s x21 y u z x aa)) (F8 s x21 y u z x aa) jz j8 fun l3 j0 (dg:Ah ⟨w,h,Aj⟩ dp [(a,0),(e,0)] [⟨CU f r_ k g l i m,some 28⟩,⟨F8 s x21 y u z x aa,some 34⟩] [] l3)=>hK _ _ ?_
  refine Rk 8 1 [tI 4 x21.2,tP 3 1 0,tP 1 0 0] j0 dg fun n5 j1=>?_
  refine wf (XT (Aa (Rk 0 1 [tA 25 (CU f r_ k g l i m),tI 4 x21.2,tP 3 1 0,tP 1 0 0] j1 dg fun n6 j2=>?_)))
  obtain⟨x26,ex26,H⟩:=Aq H
  refine wl fun K hK=>?_
  refine wc [.agg (CU f r_ k g l i m)] j2 dg (LL n dg.has r_ ((Ab (Ad o) (Ab (Ab Ac Ac) (Ab (Ad p) (Ab (Ad q) (Ab Ac (Ab Ac (Ab Ac Ac))))))):rep dp r_ _) ex26) fun oo gx pb gs cc fu=>?_
  obtain⟨_,rfl,⟨_,_,rfl,⟨b0,b7,rfl,kz⟩,⟨_,_,rfl,⟨_,_,rfl,rfl,rfl⟩,⟨_,_,rfl,⟨b1,b2,rfl,kh⟩,⟨_,_,rfl,⟨bv,b3,rfl,ki⟩,⟨_,_,rfl,rfl,⟨_,_,rfl,rfl,⟨_,_,rfl,rfl,rfl⟩⟩⟩⟩⟩⟩⟩⟩:=gs
  refine⟨.one (.agg (S4 b0 x26 b7 b1 b2 bv b3)),rfl,fun la (g6:Kn 157 [(a,0),(e,0)] [tA 26 (S4 b0 x26 b7 b1 b2 bv b3),tA 25 (CU f r_ k g l i m),tI 4 x21.2,tP 3 1 0,tP 1 0 0] la)=>hK _ _ ?_⟩
  obtain⟨x27,ex27,H⟩:=Aq H
  refine wl fun K hK=>?_
  refine wc [.agg (S4 b0 x26 b7 b1 b2 bv b3)] g6 fu (HX n fu.has x26 ((Ab (Ad kz) (Ab (Ab Ac Ac) (Ab (Ad kh) (Ab (Ad ki) (Ab Ac (Ab Ac (Ab Ac Ac))))))):rep gx x26 _) ex27) fun n7 gu op gc b9 dc=>?_
  replace o:=o.mono (XU cc b9)
  replace p:=p.mono (XU cc b9)
  replace q:=q.mono (XU cc b9)
  obtain⟨_,_,rfl,rfl,rfl⟩:=gc
  refine⟨.tup [.c (.int .i64 x27.1),.c (.int .i64 x27.2)],rfl,fun lc (g7:Kn 157 [(a,0),(e,0)] [(27,.tup [.c (.int .i64 x27.1),.c (.int .i64 x27.2)]),tA 26 (S4 b0 x26 b7 b1 b2 bv b3),tA 25 (CU f r_ k g l i m),tI 4 x21.2,tP 3 1 0,tP 1 0 0] lc)=>hK _ _ ?_⟩
  refine Rk 3 5 (Ol x27 x21) g7 dc fun mj g8=>?_
  refine wf (XT (XT (Aa (Rk 0 1 ((tA 30 (CU f r_ k g l i m))::(Ol x27 x21)) g8 dc fun ml g9=>?_))))
  obtain⟨x31,ex31,H⟩:=Aq H
  refine wl fun K hK=>?_
  refine wc [.agg (CU f r_ k g l i m)] g9 dc (LF n dc.has r_ ((Ab (Ad o) (Ab (Ab Ac Ac) (Ab (Ad p) (Ab (Ad q) (Ab Ac (Ab Ac (Ab Ac Ac))))))):rep gu r_ _) ex31) fun n8 dj oq gd ca ah=>?_
  replace o:=o.mono ca
  replace p:=p.mono ca
  replace q:=q.mono ca
  replace ae:=ae.mono (XU (XU cc b9) ca)
  replace af:=af.mono (XU (XU cc b9) ca)
  replace ag:=ag.mono (XU (XU cc b9) ca)
  obtain rfl:=gd
  refine⟨.one (.c (.int .i64 x31)),rfl,fun ld (ha:Kn 157 [(a,0),(e,0)] ((tI 31 x31)::(tA 30 (CU f r_ k g l i m))::(Ol x27 x21)) ld)=>hK _ _ ?_⟩
  refine Rk 2 1 ((tI 7 x31)::(Ol x27 x21)) ha ah fun mm hc=>?_
  refine wf (XT (Aa (Rk 0 2 ((tB 33 (x31 != 0))::(tI 7 x31)::(Ol x27 x21)) hc ah fun mn dy=>?_)))
  refine wf (wC ((x31 != 0)) dy (fun dq=>?_) (fun dq=>?_))
  ·
   rw [dq,XW] at H
   refine XT ?_
   obtain⟨fv,ak,H⟩:=Aq H
   refine Av (fun a' w'=>∃ (em:Array Value)(dk:Ae),a' = ⟨em,[]⟩∧Kn 157 [(a,0),(e,0)] [tB 2 fv] em∧Ah ⟨w,h,Aj⟩ dk [(a,0),(e,0)] [⟨CU f r_ k g l i m,some 28⟩,⟨F8 s x21 y u z x aa,some 34⟩] [] w'∧Ae.le dj dk) ?_ ?_
   ·
    refine Aa (Rk 0 4 [tB 37 (x21.2 == x31),tI 7 x31,tI 6 x27.2,tI 5 x27.1,tP 3 1 0] dy ah fun fz e0=>?_)
    rcases Bool.eq_false_or_eq_true ((x21.2 == x31)) with ch | ch
    ·
     rw [ch,XW] at ak
     have he:Kn 157 [(a,0),(e,0)] [tB 37 true,tI 7 x31,tI 6 x27.2,tI 5 x27.1,tP 3 1 0] fz:=(e0.setB 37 true (by rfl) ch).kp
     refine Rk 4 5 [tB 42 (x27.2 == x31),tI 5 x27.1,tP 3 1 0] he ah fun f0 e1=>?_
     rcases Bool.eq_false_or_eq_true ((x27.2 == x31)) with ci | ci
     ·
      rw [ci,XW] at ak
      have hf:Kn 157 [(a,0),(e,0)] [tB 42 true,tI 5 x27.1,tP 3 1 0] f0:=(e1.setB 42 true (by rfl) ci).kp
      refine Rk 9 4 [tB 46 (x27.1 == 0),tP 3 1 0] hf ah fun f1 e2=>?_
      rcases Bool.eq_false_or_eq_true ((x27.1 == 0)) with cj | cj
      ·
       rw [cj,XW] at ak
       have hg:Kn 157 [(a,0),(e,0)] [tB 46 true,tP 3 1 0] f1:=(e2.setB 46 true (by rfl) cj).kp
       refine Rk 13 14 [tB 60 ((IntKind.i64.wrap ((IntKind.i64.wrap (((x21.1.holds.length:Nat):Int)+((x21.1.turns.length:Nat):Int)))+((x21.1.spares.length:Nat):Int))) == 0)] hg ah fun f2 e3=>?_
       rcases Bool.eq_false_or_eq_true (((IntKind.i64.wrap ((IntKind.i64.wrap (((x21.1.holds.length:Nat):Int)+((x21.1.turns.length:Nat):Int)))+((x21.1.spares.length:Nat):Int))) == 0)) with ck | ck
       ·
        rw [ck,XW] at ak
        have e4:Kn 157 [(a,0),(e,0)] [tB 60 true] f2:=(e3.setB 60 true (by rfl) ck).kp
        obtain⟨x61,ex61,ak⟩:=Aq ak
        refine AS _ rfl (Ak e4 (by kernel_rfl)) fun K hK=>?_
        refine wc [] e4 ah (GE n ah.has  ex61) fun n9 l8 os gf j3 fo=>?_
        obtain rfl:=gf
        refine⟨.one (.c (.bool x61)),rfl,fun lf (hl:Kn 157 [(a,0),(e,0)] [tB 61 x61,tB 60 true] lf)=>hK _ _ ?_⟩
        refine Rk 28 2 [tB 2 x61] hl fo fun mp ho=>?_
        refine wf ?_
        obtain rfl:=XZ ak
        exact XY _ ⟨_,rfl,ho.kp,fo,j3⟩
       ·
        rw [ck,XV] at ak
        have hp:Kn 157 [(a,0),(e,0)] [tB 60 false] f2:=(e3.setB 60 false (by rfl) ck).kp
        refine Rk 27 3 [tB 2 false] hp ah fun mq hq=>?_
        refine wf ?_
        obtain rfl:=XZ ak
        exact XY _ ⟨_,rfl,hq.kp,ah,Ae.le_refl _⟩
      ·
       rw [cj,XV] at ak
       have hr:Kn 157 [(a,0),(e,0)] [tB 46 false,tP 3 1 0] f1:=(e2.setB 46 false (by rfl) cj).kp
       refine Rk 13 17 [tB 2 false] hr ah fun mr hs=>?_
       refine wf ?_
       obtain rfl:=XZ ak
       exact XY _ ⟨_,rfl,hs.kp,ah,Ae.le_refl _⟩
     ·
      rw [ci,XV] at ak
      have ht:Kn 157 [(a,0),(e,0)] [tB 42 false,tI 5 x27.1,tP 3 1 0] f0:=(e1.setB 42 false (by rfl) ci).kp
      refine Rk 9 21 [tB 2 false] ht ah fun ms hu=>?_
      refine wf ?_
      obtain rfl:=XZ ak
      exact XY _ ⟨_,rfl,hu.kp,ah,Ae.le_refl _⟩
    ·
     rw [ch,XV] at ak
     have hv:Kn 157 [(a,0),(e,0)] [tB 37 false,tI 7 x31,tI 6 x27.2,tI 5 x27.1,tP 3 1 0] fz:=(e0.setB 37 false (by rfl) ch).kp
     refine Rk 4 26 [tB 2 false] hv ah fun mu hw=>?_
     refine wf ?_
     obtain rfl:=XZ ak
     exact XY _ ⟨_,rfl,hw.kp,ah,Ae.le_refl _⟩
   ·
    rintro _ ot ⟨em,dk,rfl,hx,j6,mf⟩
    refine wp_ret ?_
    obtain rfl:=XZ H
    exact rt (.one (.c (.bool fv))) hx j6 rfl
  ·
   rw [dq,XV] at H
   refine wp_skip (XT (Aa (Rk 0 2 ((tA 64 TL)::(tA 63 (CU f r_ k g l i m))::(Ol x27 x21)) dy ah fun mv hy=>?_)))
   obtain⟨x65,ex65,H⟩:=Aq H
   refine wl fun K hK=>?_
   refine wc [.agg (CU f r_ k g l i m),.agg TL] hy ah (Qr n ah.has r_ ((Ab (Ad o) (Ab (Ab Ac Ac) (Ab (Ad p) (Ab (Ad q) (Ab Ac (Ab Ac (Ab Ac Ac))))))):rep dj r_ _) (Am.mk ([]:List Int) ([]:List Int) ([]:List Bool)) ((Ab (Ad A6.nil) (Ab (Ad A6.nil) (Ad A6.nil))):rep dj (Am.mk ([]:List Int) ([]:List Int) ([]:List Bool)) _) ex65) fun oa ey ou gg cb de=>?_
   replace o:=o.mono cb
   replace p:=p.mono cb
   replace q:=q.mono cb
   replace ae:=ae.mono cb
   replace af:=af.mono cb
   replace ag:=ag.mono cb
   obtain⟨b,d,rfl,aj⟩:=gg
   refine⟨.one (.c (.slice b x65.length d)),rfl,fun lg (h0:Kn 157 [(a,0),(e,0)] ((tS 65 b x65.length d)::(tA 64 TL)::(tA 63 (CU f r_ k g l i m))::(Ol x27 x21)) lg)=>hK _ _ ?_⟩
   refine Rk 3 1 (IQ b x65 d x27 x21) h0 de fun mw h1=>?_
   refine wf (XT (Aa (Rk 0 2 ((tI 10 (-1))::(tI 9 (-1))::(IQ b x65 d x27 x21)) h1 de fun mx h2=>?_)))
   refine wf (XT (XT (Aa (Rk 0 1 ((tI 11 0)::(tI 10 (-1))::(tI 9 (-1))::(IQ b x65 d x27 x21)) h2 de fun my h3=>?_))))
   refine wf ?_
   obtain⟨ab,ew,H⟩:=Aq H
   refine Av (fun a' w'=>∃ (en:Array Value)(c8:Ae),a' = ⟨en,[]⟩∧Kn 157 [(a,0),(e,0)] [tI 10 ab.1,tI 9 ab.2,tS 8 b x65.length d,tI 6 x27.2,tI 5 x27.1,tI 4 x21.2,tP 3 1 0] en∧Ah ⟨w,h,Aj⟩ c8 [(a,0),(e,0)] [⟨CU f r_ k g l i m,some 28⟩,⟨F8 s x21 y u z x aa,some 34⟩] [] w'∧Ae.le ey c8) ?_ ?_
   ·
    refine wp_block ?_
    refine Ar (fun k8 a' w'=>∃ (x_v10:Int)(x_v11:Int)(x_v12:Int)(eo:Array Value)(cg:Ae),a' = ⟨eo,[]⟩∧Kn 157 [(a,0),(e,0)] (Fg x_v10 x_v11 x_v12 b x65 d x27 x21) eo∧Ah ⟨w,h,Aj⟩ cg [(a,0),(e,0)] [⟨CU f r_ k g l i m,some 28⟩,⟨F8 s x21 y u z x aa,some 34⟩] [] w'∧Ae.le ey cg∧AJ k8 r_ x65 x_v10 x_v11 x_v12=some ab) n ?_ ?_
    ·
     exact XY 0 ⟨(-1),(-1),_,_,rfl,h3.kp,de,Ae.le_refl _,ew⟩
    ·
     rintro bp _ ov ⟨x_v10,x_v11,x_v12,eo,cg,rfl,h4,cu,ao,ac⟩
     clear ew
     obtain _ | bp:=bp
     ·
      rw [AJ] at ac; cases ac
     rw [AJ] at ac
     replace o:=o.mono ao
     replace p:=p.mono ao
     replace q:=q.mono ao
     replace ae:=ae.mono ao
     replace af:=af.mono ao
     replace ag:=ag.mono ao
     replace aj:=aj.mono ao
     refine XT (XT (Aa (Rk 0 4 ((tB 69 (decide (x_v10<((x65.length:Nat):Int))))::(Fg x_v10 x_v11 x_v12 b x65 d x27 x21)) h4 cu fun mz dz=>?_)))
     refine wf (wC (decide (x_v10<((x65.length:Nat):Int))) dz (fun dr=>?_) (fun dr=>?_))
     ·
      rw [dr,XW] at ac
      refine wp_skip (XT (wp_block (XT (Aa (Rk 0 1 ((tI 12 0)::(Fg x_v10 x_v11 x_v12 b x65 d x27 x21)) dz cu fun m0 h5=>?_)))))
      refine wf (XT (XT (Aa (Rk 0 1 ((tI 13 0)::(tI 12 0)::(Fg x_v10 x_v11 x_v12 b x65 d x27 x21)) h5 cu fun m1 h6=>?_))))
      refine wf ?_
      obtain⟨am,ex,ac⟩:=Aq ac
      refine Av (fun a' w'=>∃ (ep:Array Value)(c9:Ae),a' = ⟨ep,[]⟩∧Kn 157 [(a,0),(e,0)] ((tI 12 am)::(Fg x_v10 x_v11 x_v12 b x65 d x27 x21)) ep∧Ah ⟨w,h,Aj⟩ c9 [(a,0),(e,0)] [⟨CU f r_ k g l i m,some 28⟩,⟨F8 s x21 y u z x aa,some 34⟩] [] w'∧Ae.le cg c9) ?_ ?_
      ·
       refine wp_block ?_
       refine Ar (fun k9 a' w'=>∃ (x_v20:Int)(x_v21:Int)(er:Array Value)(da:Ae),a' = ⟨er,[]⟩∧Kn 157 [(a,0),(e,0)] ((tI 13 x_v20)::(tI 12 x_v21)::(Fg x_v10 x_v11 x_v12 b x65 d x27 x21)) er∧Ah ⟨w,h,Aj⟩ da [(a,0),(e,0)] [⟨CU f r_ k g l i m,some 28⟩,⟨F8 s x21 y u z x aa,some 34⟩] [] w'∧Ae.le cg da∧Bj k9 r_ x65 x_v10 x_v20 x_v21=some am) bp ?_ ?_
       ·
        exact XY 0 ⟨0,_,_,rfl,h6.kp,cu,Ae.le_refl _,ex⟩
       ·
        rintro cx _ ox ⟨x_v20,x_v21,er,da,rfl,h7,d9,a8,an⟩
        clear ex
        obtain _ | cx:=cx
        ·
         rw [Bj] at an; cases an
        rw [Bj] at an
        replace o:=o.mono a8
        replace p:=p.mono a8
        replace q:=q.mono a8
        refine XT (XT (Aa (Rk 0 2 ((tA 73 (CU f r_ k g l i m))::(tI 72 x_v20)::(tI 13 x_v20)::(tI 12 x_v21)::(Fg x_v10 x_v11 x_v12 b x65 d x27 x21)) h7 d9 fun m2 h8=>?_)))
        obtain⟨x74,ex74,an⟩:=Aq an
        refine wl fun K hK=>?_
        refine wc [.agg (CU f r_ k g l i m)] h8 d9 (GD cx d9.has r_ ((Ab (Ad o) (Ab (Ab Ac Ac) (Ab (Ad p) (Ab (Ad q) (Ab Ac (Ab Ac (Ab Ac Ac))))))):rep da r_ _) ex74) fun oc dl l0 gi a9 bt=>?_
        replace o:=o.mono a9
        replace p:=p.mono a9
        replace q:=q.mono a9
        replace ae:=ae.mono (XU a8 a9)
        replace af:=af.mono (XU a8 a9)
        replace ag:=ag.mono (XU a8 a9)
        replace aj:=aj.mono (XU a8 a9)
        obtain rfl:=gi
        refine⟨.one (.c (.int .i64 x74)),rfl,fun lh (h9:Kn 157 [(a,0),(e,0)] ((tI 74 x74)::(tA 73 (CU f r_ k g l i m))::(tI 72 x_v20)::(tI 13 x_v20)::(tI 12 x_v21)::(Fg x_v10 x_v11 x_v12 b x65 d x27 x21)) lh)=>hK _ _ ?_⟩
        refine Rk 3 1 ((tB 75 (decide (x_v20<x74)))::(tI 13 x_v20)::(tI 12 x_v21)::(Fg x_v10 x_v11 x_v12 b x65 d x27 x21)) h9 bt fun m3 d0=>?_
        refine wf (wC (decide (x_v20<x74)) d0 (fun ds=>?_) (fun ds=>?_))
        ·
         rw [ds,XW] at an
         refine wp_skip (XT (wp_block (An (by kernel_rfl) ?_)))
         replace bt:=bt.drew
         refine Ao [] [(a,0),(e,0)] [⟨CU f r_ k g l i m,some 28⟩,⟨F8 s x21 y u z x aa,some 34⟩] ?_
         refine Dr [0,1,2,3] (dn 3) ((tI 81 x_v10)::(tS 80 b x65.length d)::(tA 79 (CU f r_ k g l i m))::(tI 78 x_v21)::(tI 13 x_v20)::(Fg x_v10 x_v11 x_v12 b x65 d x27 x21)) d0 bt fun m4 ia=>?_
         obtain⟨x82,ex82,an⟩:=Aq an
         obtain⟨j9,kd,k4⟩:=Ai ex82
         obtain⟨dh,ek,l4,gy,k0,g2⟩:=aj.get (by decide) k4
         obtain⟨_,_,rfl,⟨bd,bj,rfl,kj⟩,⟨_,_,rfl,⟨be,bk,rfl,kk⟩,⟨bf,bl,rfl,kl⟩⟩⟩:=k0
         have ea:Ah ⟨w,h,Aj⟩ dl [(a,0),(e,0),(dh,ek+(x_v10:Int).toNat*3)] [⟨CU f r_ k g l i m,some 28⟩,⟨F8 s x21 y u z x aa,some 34⟩,⟨Tc bd x82 bj be bk bf bl,none⟩] [] (World.drew l0):=bt.addPlc (cs:=(Tc bd x82 bj be bk bf bl)) (fun j c hj=>g2 j _ (Al hj)) rfl (by kernel_rfl) (by kernel_rfl)
         refine Ax 4 (x_v10) (Tc bd x82 bj be bk bf bl) (fun _ _ _ _ _ h=>h) rfl rfl (rfl) rfl (by decide) (by kernel_rfl) (by kernel_rfl) ia bt.plOk (by rfl) (by rfl) (by rfl) gy (by rfl) j9 kd (by kernel_rfl) fun lj (ic:Kn 157 [(a,0),(e,0),(dh,ek+(x_v10:Int).toNat*3)] ((tP 82 2 0)::(tI 81 x_v10)::(tS 80 b x65.length d)::(tA 79 (CU f r_ k g l i m))::(tI 78 x_v21)::(tI 13 x_v20)::(Fg x_v10 x_v11 x_v12 b x65 d x27 x21)) lj)=>?_
         refine Dr [5,6] (dn 6) ((tI 84 x_v20)::(tA 83 (Tc bd x82 bj be bk bf bl))::(tA 79 (CU f r_ k g l i m))::(tI 78 x_v21)::(tI 13 x_v20)::(Fg x_v10 x_v11 x_v12 b x65 d x27 x21)) ic ea fun m5 ie=>?_
         obtain⟨x85,ex85,an⟩:=Aq an
         refine Dl 7 fun K hK=>?_
         refine wc [.agg (CU f r_ k g l i m),.agg (Tc bd x82 bj be bk bf bl),.c (.int .i64 x_v20)] ie ea (Qq cx ea.has r_ ((Ab (Ad o) (Ab (Ab Ac Ac) (Ab (Ad p) (Ab (Ad q) (Ab Ac (Ab Ac (Ab Ac Ac))))))):rep dl r_ _) x82 ((Ab (Ad kj) (Ab (Ad kk) (Ad kl))):rep dl x82 _) x_v20 ex85) fun od l9 oy gj j4 df=>?_
         obtain rfl:=gj
         refine⟨.one (.c (.int .i64 x85)),rfl,fun lk (ig:Kn 157 [(a,0),(e,0),(dh,ek+(x_v10:Int).toNat*3)] ((tI 85 x85)::(tI 84 x_v20)::(tA 83 (Tc bd x82 bj be bk bf bl))::(tA 79 (CU f r_ k g l i m))::(tI 78 x_v21)::(tI 13 x_v20)::(Fg x_v10 x_v11 x_v12 b x65 d x27 x21)) lk)=>hK _ _ df.plOk ?_⟩
         refine Dr [8,9] (dn 9) ((tI 12 (if x85>x_v21 then x85 else x_v21))::(tI 13 x_v20)::(Fg x_v10 x_v11 x_v12 b x65 d x27 x21)) ig df fun m7 ih=>?_
         refine Ay (by kernel_rfl) (Aa (Rk 0 3 ((tI 13 (IntKind.i64.wrap (x_v20+1)))::(tI 12 (if x85>x_v21 then x85 else x_v21))::(Fg x_v10 x_v11 x_v12 b x65 d x27 x21)) ih df fun m8 ii=>?_))
         refine wf ?_
         exact XY cx ⟨Nat.lt_succ_self _,XY (IntKind.i64.wrap (x_v20+1)) ⟨(if x85>x_v21 then x85 else x_v21),_,_,rfl,(ii.keep [13,12,11,10,9,8,6,5,4,3,1] (by rfl)).cut 2 (by kernel_rfl),df.cutPl 2 (by kernel_rfl),XU a8 (XU a9 j4),an⟩⟩
        ·
         rw [ds,XV] at an
         refine wp_exit ?_
         obtain rfl:=XZ an
         exact XY _ ⟨_,rfl,d0.kp,bt,XU a8 a9⟩
      ·
       rintro _ oz ⟨ep,c9,rfl,ij,cv,ax⟩
       replace o:=o.mono ax
       replace p:=p.mono ax
       replace q:=q.mono ax
       replace ae:=ae.mono ax
       replace af:=af.mono ax
       replace ag:=ag.mono ax
       replace aj:=aj.mono ax
       refine XT (XT ?_)
       obtain⟨fw,c5,ac⟩:=Aq ac
       refine Av (fun a' w'=>∃ (es:Array Value)(db:Ae),a' = ⟨es,[]⟩∧Kn 157 [(a,0),(e,0)] [tI 12 am,tI 11 x_v10,tI 10 x_v11,tI 9 x_v12,tS 8 b x65.length d,tI 6 x27.2,tI 5 x27.1,tI 4 x21.2,tP 3 1 0,tP 1 0 0,tB 93 fw] es∧Ah ⟨w,h,Aj⟩ db [(a,0),(e,0)] [⟨CU f r_ k g l i m,some 28⟩,⟨F8 s x21 y u z x aa,some 34⟩] [] w'∧Ae.le c9 db) ?_ ?_
       ·
        refine Aa (Rk 0 3 ((tB 89 (decide (x_v11<0)))::(tI 12 am)::(Fg x_v10 x_v11 x_v12 b x65 d x27 x21)) ij cv fun f3 e5=>?_)
        rcases Bool.eq_false_or_eq_true (decide (x_v11<0)) with cl | cl
        ·
         rw [cl,XW] at c5
         have ik:Kn 157 [(a,0),(e,0)] ((tB 89 true)::(tI 12 am)::(Fg x_v10 x_v11 x_v12 b x65 d x27 x21)) f3:=(e5.setB 89 true (by rfl) cl).kp
         refine Rk 3 4 ((tB 93 true)::(tI 12 am)::(Fg x_v10 x_v11 x_v12 b x65 d x27 x21)) ik cv fun m9 il=>?_
         refine wf ?_
         obtain rfl:=XZ c5
         exact XY _ ⟨_,rfl,il.kp,cv,Ae.le_refl _⟩
        ·
         rw [cl,XV] at c5
         have im:Kn 157 [(a,0),(e,0)] ((tB 89 false)::(tI 12 am)::(Fg x_v10 x_v11 x_v12 b x65 d x27 x21)) f3:=(e5.setB 89 false (by rfl) cl).kp
         refine Rk 3 4 ((tB 93 (decide (am<x_v11)))::(tI 12 am)::(Fg x_v10 x_v11 x_v12 b x65 d x27 x21)) im cv fun na io=>?_
         refine wf ?_
         obtain rfl:=XZ c5
         exact XY _ ⟨_,rfl,io.kp,cv,Ae.le_refl _⟩
       ·
        rintro _ o0 ⟨es,db,rfl,d2,eb,ay⟩
        replace o:=o.mono ay
        replace p:=p.mono ay
        replace q:=q.mono ay
        replace ae:=ae.mono ay
        replace af:=af.mono ay
        replace ag:=ag.mono ay
        replace aj:=aj.mono ay
        obtain⟨ad,c6,ac⟩:=Aq ac
        refine Av (fun a' w'=>∃ (et:Array Value)(bq:Ae),a' = ⟨et,[]⟩∧Kn 157 [(a,0),(e,0)] ((tI 12 am)::(G3 x_v10 ad x_v12 b x65 d x27 x21)) et∧Ah ⟨w,h,Aj⟩ bq [(a,0),(e,0)] [⟨CU f r_ k g l i m,some 28⟩,⟨F8 s x21 y u z x aa,some 34⟩] [] w'∧Ae.le db bq) ?_ ?_
        ·
         refine wC (fw) d2 (fun du=>?_) (fun du=>?_)
         ·
          rw [du,XW] at c6
          refine Aa (Rk 0 2 ((tI 10 am)::(tI 12 am)::(tI 11 x_v10)::(tI 9 x_v12)::(IQ b x65 d x27 x21)) d2 eb fun nb ip=>?_)
          refine wf ?_
          obtain rfl:=XZ c6
          exact XY _ ⟨_,rfl,ip.kp,eb,Ae.le_refl _⟩
         ·
          rw [du,XV] at c6
          refine wp_skip ?_
          obtain rfl:=XZ c6
          exact XY _ ⟨_,rfl,d2.kp,eb,Ae.le_refl _⟩
        ·
         rintro _ gb ⟨et,bq,rfl,iq,al,az⟩
         replace o:=o.mono az
         replace p:=p.mono az
         replace q:=q.mono az
         replace ae:=ae.mono az
         replace af:=af.mono az
         replace ag:=ag.mono az
         replace aj:=aj.mono az
         refine XT (An (by kernel_rfl) ?_)
         replace al:=al.drew
         refine Ao [] [(a,0),(e,0)] [⟨CU f r_ k g l i m,some 28⟩,⟨F8 s x21 y u z x aa,some 34⟩] ?_
         refine Dr [0,1,2,3,4] (dn 4) ((tB 99 (decide (am≤r_.gap)))::(G3 x_v10 ad x_v12 b x65 d x27 x21)) iq al fun f4 e6=>?_
         rcases Bool.eq_false_or_eq_true (decide (am≤r_.gap)) with cm | cm
         ·
          rw [cm,XW] at ac
          have ir:Kn 157 [(a,0),(e,0)] ((tB 99 true)::(G3 x_v10 ad x_v12 b x65 d x27 x21)) f4:=(e6.setB 99 true (by rfl) cm).kp
          refine Dr [5,6,7] (dn 7) ((tB 102 (decide (x_v12<0)))::(tB 99 true)::(G3 x_v10 ad x_v12 b x65 d x27 x21)) ir al fun f5 e7=>?_
          rcases Bool.eq_false_or_eq_true (decide (x_v12<0)) with cn | cn
          ·
           rw [cn,XW] at ac
           have iu:Kn 157 [(a,0),(e,0)] ((tB 102 true)::(tB 99 true)::(G3 x_v10 ad x_v12 b x65 d x27 x21)) f5:=(e7.setB 102 true (by rfl) cn).kp
           refine Dr [8,9,10,11,12,13,14,15,16,17,18] (dn 18) ((tB 113 true)::(G3 x_v10 ad x_v12 b x65 d x27 x21)) iu al fun nc e8=>?_
           refine Ay (by kernel_rfl) (wC true e8 (fun hb=>?_) (fun hb=>?_))
           rotate_left
           ·
            cases hb
           refine Aa (Rk 0 2 ((tI 9 x_v10)::(tI 11 x_v10)::(tI 10 ad)::(IQ b x65 d x27 x21)) e8 al fun nd iv=>?_)
           refine wf (Aa (Rk 0 3 ((tI 11 (IntKind.i64.wrap (x_v10+1)))::(tI 9 x_v10)::(tI 10 ad)::(IQ b x65 d x27 x21)) iv al fun nf iw=>?_))
           refine wf ?_
           exact XY bp ⟨Nat.lt_succ_self _,XY (IntKind.i64.wrap (x_v10+1)) ⟨ad,x_v10,_,_,rfl,iw.kp,al,XU ao (XU ax (XU ay az)),ac⟩⟩
          ·
           rw [cn,XV] at ac
           have ix:Kn 157 [(a,0),(e,0)] ((tB 102 false)::(tB 99 true)::(G3 x_v10 ad x_v12 b x65 d x27 x21)) f5:=(e7.setB 102 false (by rfl) cn).kp
           refine Dr [8,9] (dn 9) ((tI 104 x_v10)::(tS 103 b x65.length d)::(tB 102 false)::(tB 99 true)::(G3 x_v10 ad x_v12 b x65 d x27 x21)) ix al fun ng e9=>?_
           obtain⟨x105,ex105,ac⟩:=Aq ac
           obtain⟨ka,ke,k5⟩:=Ai ex105
           obtain⟨cf,cy,l5,gz,k1,g3⟩:=aj.get (by decide) k5
           obtain⟨_,_,rfl,⟨ap,au,rfl,km⟩,⟨_,_,rfl,⟨aq,av,rfl,kn⟩,⟨ar,aw,rfl,ko⟩⟩⟩:=k1
           have ec:Ah ⟨w,h,Aj⟩ bq [(a,0),(e,0),(cf,cy+(x_v10:Int).toNat*3)] [⟨CU f r_ k g l i m,some 28⟩,⟨F8 s x21 y u z x aa,some 34⟩,⟨Ql ap x105 au aq av ar aw,none⟩] [] (World.drew gb):=al.addPlc (cs:=(Ql ap x105 au aq av ar aw)) (fun j c hj=>g3 j _ (Al hj)) rfl (by kernel_rfl) (by kernel_rfl)
           refine Ax 10 (x_v10) (Ql ap x105 au aq av ar aw) (fun _ _ _ _ _ h=>h) rfl rfl (Ak e9 (by kernel_rfl)) rfl (by decide) (by kernel_rfl) (by kernel_rfl) e9 al.plOk (by rfl) (by rfl) (by rfl) gz (by rfl) ka ke (by kernel_rfl) fun ll (iy:Kn 157 [(a,0),(e,0),(cf,cy+(x_v10:Int).toNat*3)] ((tP 105 2 0)::(tI 104 x_v10)::(tS 103 b x65.length d)::(tB 102 false)::(tB 99 true)::(G3 x_v10 ad x_v12 b x65 d x27 x21)) ll)=>?_
           refine Dr [11,12,13] (dn 13) ((tI 108 x_v12)::(tS 107 b x65.length d)::(tA 106 (Ql ap x105 au aq av ar aw))::(tB 102 false)::(tB 99 true)::(G3 x_v10 ad x_v12 b x65 d x27 x21)) iy ec fun nh fa=>?_
           obtain⟨x109,ex109,ac⟩:=Aq ac
           obtain⟨kb,kf,k6⟩:=Ai ex109
           obtain⟨di,el,l6,g0,k2,g4⟩:=aj.get (by decide) k6
           obtain⟨_,_,rfl,⟨bg,bm,rfl,kq⟩,⟨_,_,rfl,⟨bh,bn,rfl,kr⟩,⟨bi,bo,rfl,ks⟩⟩⟩:=k2
           have ed:Ah ⟨w,h,Aj⟩ bq [(a,0),(e,0),(cf,cy+(x_v10:Int).toNat*3),(di,el+(x_v12:Int).toNat*3)] [⟨CU f r_ k g l i m,some 28⟩,⟨F8 s x21 y u z x aa,some 34⟩,⟨Ql ap x105 au aq av ar aw,none⟩,⟨Td bg x109 bm bh bn bi bo,none⟩] [] (World.drew gb):=ec.addPlc (cs:=(Td bg x109 bm bh bn bi bo)) (fun j c hj=>g4 j _ (Al hj)) rfl (by kernel_rfl) (by kernel_rfl)
           refine Ax 14 (x_v12) (Td bg x109 bm bh bn bi bo) (fun _ _ _ _ _ h=>h) rfl rfl (Ak fa (by kernel_rfl)) rfl (by decide) (by kernel_rfl) (by kernel_rfl) fa ec.plOk (by rfl) (by rfl) (by rfl) g0 (by rfl) kb kf (by kernel_rfl) fun ln (i0:Kn 157 [(a,0),(e,0),(cf,cy+(x_v10:Int).toNat*3),(di,el+(x_v12:Int).toNat*3)] ((tP 109 3 0)::(tI 108 x_v12)::(tS 107 b x65.length d)::(tA 106 (Ql ap x105 au aq av ar aw))::(tB 102 false)::(tB 99 true)::(G3 x_v10 ad x_v12 b x65 d x27 x21)) ln)=>?_
           refine Dr [15] (dn 15) ((tA 110 (Td bg x109 bm bh bn bi bo))::(tA 106 (Ql ap x105 au aq av ar aw))::(tB 102 false)::(tB 99 true)::(G3 x_v10 ad x_v12 b x65 d x27 x21)) i0 ed fun ni fb=>?_
           obtain⟨x111,ex111,ac⟩:=Aq ac
           refine F0 16 rfl (by kernel_rfl) (by decide) (Ak fb (by kernel_rfl)) fun K hK=>?_
           refine wc [.agg (Ql ap x105 au aq av ar aw),.agg (Td bg x109 bm bh bn bi bo)] fb ed (ON bp ed.has x105 ((Ab (Ad km) (Ab (Ad kn) (Ad ko))):rep bq x105 _) x109 ((Ab (Ad kq) (Ab (Ad kr) (Ad ks))):rep bq x109 _) ex111) fun og mb o2 gl fn bu=>?_
           obtain rfl:=gl
           refine⟨.one (.c (.bool x111)),rfl,fun lp (i1:Kn 157 [(a,0),(e,0),(cf,cy+(x_v10:Int).toNat*3),(di,el+(x_v12:Int).toNat*3)] ((tB 111 x111)::(tA 110 (Td bg x109 bm bh bn bi bo))::(tA 106 (Ql ap x105 au aq av ar aw))::(tB 102 false)::(tB 99 true)::(G3 x_v10 ad x_v12 b x65 d x27 x21)) lp)=>hK _ _ bu.plOk ?_⟩
           refine Dr [17,18] (dn 18) ((tB 113 x111)::(G3 x_v10 ad x_v12 b x65 d x27 x21)) i1 bu fun nk d3=>?_
           refine Ay (by kernel_rfl) (wC (x111) d3 (fun dv=>?_) (fun dv=>?_))
           ·
            rw [dv,XW] at ac
            refine Aa (Rk 0 2 ((tI 9 x_v10)::(tI 11 x_v10)::(tI 10 ad)::(IQ b x65 d x27 x21)) d3 bu fun nl i2=>?_)
            refine wf (Aa (Rk 0 3 ((tI 11 (IntKind.i64.wrap (x_v10+1)))::(tI 9 x_v10)::(tI 10 ad)::(IQ b x65 d x27 x21)) i2 bu fun nm i3=>?_))
            refine wf ?_
            exact XY bp ⟨Nat.lt_succ_self _,XY (IntKind.i64.wrap (x_v10+1)) ⟨ad,x_v10,_,_,rfl,(i3.keep [11,10,9,8,6,5,4,3,1] (by rfl)).cut 2 (by kernel_rfl),bu.cutPl 2 (by kernel_rfl),XU ao (XU ax (XU ay (XU az fn))),ac⟩⟩
           ·
            rw [dv,XV] at ac
            refine wp_skip (Aa (Rk 0 3 ((tI 11 (IntKind.i64.wrap (x_v10+1)))::(tI 10 ad)::(tI 9 x_v12)::(IQ b x65 d x27 x21)) d3 bu fun nn i5=>?_))
            refine wf ?_
            exact XY bp ⟨Nat.lt_succ_self _,XY (IntKind.i64.wrap (x_v10+1)) ⟨ad,x_v12,_,_,rfl,(i5.keep [11,10,9,8,6,5,4,3,1] (by rfl)).cut 2 (by kernel_rfl),bu.cutPl 2 (by kernel_rfl),XU ao (XU ax (XU ay (XU az fn))),ac⟩⟩
         ·
          rw [cm,XV] at ac
          have i6:Kn 157 [(a,0),(e,0)] ((tB 99 false)::(G3 x_v10 ad x_v12 b x65 d x27 x21)) f4:=(e6.setB 99 false (by rfl) cm).kp
          refine Dr [5,6,7,8,9,10,11,12,13,14,15,16,17,18] (dn 18) ((tB 113 false)::(G3 x_v10 ad x_v12 b x65 d x27 x21)) i6 al fun np fc=>?_
          refine Ay (by kernel_rfl) (wC false fc (fun hb=>?_) (fun hb=>?_))
          ·
           cases hb
          refine wp_skip (Aa (Rk 0 3 ((tI 11 (IntKind.i64.wrap (x_v10+1)))::(tI 10 ad)::(tI 9 x_v12)::(IQ b x65 d x27 x21)) fc al fun nq i7=>?_))
          refine wf ?_
          exact XY bp ⟨Nat.lt_succ_self _,XY (IntKind.i64.wrap (x_v10+1)) ⟨ad,x_v12,_,_,rfl,i7.kp,al,XU ao (XU ax (XU ay az)),ac⟩⟩
     ·
      rw [dr,XV] at ac
      refine wp_exit ?_
      obtain rfl:=XZ ac
      exact XY _ ⟨_,rfl,dz.kp,cu,ao⟩
   ·
    rintro _ o3 ⟨en,c8,rfl,i8,cw,br⟩
    replace o:=o.mono br
    replace p:=p.mono br
    replace q:=q.mono br
    replace ae:=ae.mono br
    replace af:=af.mono br
    replace ag:=ag.mono br
    replace aj:=aj.mono br
    refine XT (XT ?_)
    obtain⟨fx,c7,H⟩:=Aq H
    refine Av (fun a' w'=>∃ (eu:Array Value)(b8:Ae),a' = ⟨eu,[]⟩∧Kn 157 [(a,0),(e,0)] [tI 9 ab.2,tS 8 b x65.length d,tI 4 x21.2,tP 3 1 0,tB 121 fx] eu∧Ah ⟨w,h,Aj⟩ b8 [(a,0),(e,0)] [⟨CU f r_ k g l i m,some 28⟩,⟨F8 s x21 y u z x aa,some 34⟩] [] w'∧Ae.le c8 b8) ?_ ?_
    ·
     refine Aa (Rk 0 3 [tB 117 (x27.2 != 0),tI 10 ab.1,tI 9 ab.2,tS 8 b x65.length d,tI 5 x27.1,tI 4 x21.2,tP 3 1 0] i8 cw fun f6 fd=>?_)
     rcases Bool.eq_false_or_eq_true ((x27.2 != 0)) with co | co
     ·
      rw [co,XW] at c7
      have i9:Kn 157 [(a,0),(e,0)] [tB 117 true,tI 10 ab.1,tI 9 ab.2,tS 8 b x65.length d,tI 5 x27.1,tI 4 x21.2,tP 3 1 0] f6:=(fd.setB 117 true (by rfl) co).kp
      refine Rk 3 4 [tB 121 true,tI 9 ab.2,tS 8 b x65.length d,tI 4 x21.2,tP 3 1 0] i9 cw fun ns ja=>?_
      refine wf ?_
      obtain rfl:=XZ c7
      exact XY _ ⟨_,rfl,ja.kp,cw,Ae.le_refl _⟩
     ·
      rw [co,XV] at c7
      have jb:Kn 157 [(a,0),(e,0)] [tB 117 false,tI 10 ab.1,tI 9 ab.2,tS 8 b x65.length d,tI 5 x27.1,tI 4 x21.2,tP 3 1 0] f6:=(fd.setB 117 false (by rfl) co).kp
      refine Rk 3 4 [tB 121 (x27.1 != ab.1),tI 9 ab.2,tS 8 b x65.length d,tI 4 x21.2,tP 3 1 0] jb cw fun nt jd=>?_
      refine wf ?_
      obtain rfl:=XZ c7
      exact XY _ ⟨_,rfl,jd.kp,cw,Ae.le_refl _⟩
    ·
     rintro _ l1 ⟨eu,b8,rfl,d4,ai,bs⟩
     replace o:=o.mono bs
     replace p:=p.mono bs
     replace q:=q.mono bs
     replace ae:=ae.mono bs
     replace af:=af.mono bs
     replace ag:=ag.mono bs
     replace aj:=aj.mono bs
     refine wC (fx) d4 (fun dw=>?_) (fun dw=>?_)
     ·
      rw [dw,XW] at H
      refine XT (Aa (Rk 0 1 [tB 2 false] d4 ai fun nu je=>?_))
      refine wf (wp_ret ?_)
      obtain rfl:=XZ H
      exact rt (.one (.c (.bool false))) je ai rfl
     ·
      rw [dw,XV] at H
      refine wp_skip (XT (XT (Aa (Rk 0 2 [tB 123 (decide (ab.2<0)),tI 9 ab.2,tS 8 b x65.length d,tI 4 x21.2,tP 3 1 0] d4 ai fun nv d5=>?_))))
      refine wf (wC (decide (ab.2<0)) d5 (fun dx=>?_) (fun dx=>?_))
      ·
       rw [dx,XW] at H
       refine XT ?_
       obtain⟨fy,a7,H⟩:=Aq H
       refine Av (fun a' w'=>∃ (ev:Array Value)(dm:Ae),a' = ⟨ev,[]⟩∧Kn 157 [(a,0),(e,0)] [tB 2 fy] ev∧Ah ⟨w,h,Aj⟩ dm [(a,0),(e,0)] [⟨CU f r_ k g l i m,some 28⟩,⟨F8 s x21 y u z x aa,some 34⟩] [] w'∧Ae.le b8 dm) ?_ ?_
       ·
        refine Aa (Rk 0 3 [tB 126 (x21.2 == 9),tP 3 1 0] d5 ai fun f7 fe=>?_)
        rcases Bool.eq_false_or_eq_true ((x21.2 == 9)) with cp | cp
        ·
         rw [cp,XW] at a7
         have jf:Kn 157 [(a,0),(e,0)] [tB 126 true,tP 3 1 0] f7:=(fe.setB 126 true (by rfl) cp).kp
         refine Rk 3 14 [tB 140 ((IntKind.i64.wrap ((IntKind.i64.wrap (((x21.1.holds.length:Nat):Int)+((x21.1.turns.length:Nat):Int)))+((x21.1.spares.length:Nat):Int))) == 0)] jf ai fun f8 ff=>?_
         rcases Bool.eq_false_or_eq_true (((IntKind.i64.wrap ((IntKind.i64.wrap (((x21.1.holds.length:Nat):Int)+((x21.1.turns.length:Nat):Int)))+((x21.1.spares.length:Nat):Int))) == 0)) with cq | cq
         ·
          rw [cq,XW] at a7
          have fg:Kn 157 [(a,0),(e,0)] [tB 140 true] f8:=(ff.setB 140 true (by rfl) cq).kp
          obtain⟨x141,ex141,a7⟩:=Aq a7
          refine AS _ rfl (Ak fg (by kernel_rfl)) fun K hK=>?_
          refine wc [] fg ai (GE n ai.has  ex141) fun oi mc o4 gm j5 fq=>?_
          obtain rfl:=gm
          refine⟨.one (.c (.bool x141)),rfl,fun lq (jg:Kn 157 [(a,0),(e,0)] [tB 141 x141,tB 140 true] lq)=>hK _ _ ?_⟩
          refine Rk 18 2 [tB 2 x141] jg fq fun nw jh=>?_
          refine wf ?_
          obtain rfl:=XZ a7
          exact XY _ ⟨_,rfl,jh.kp,fq,j5⟩
         ·
          rw [cq,XV] at a7
          have ji:Kn 157 [(a,0),(e,0)] [tB 140 false] f8:=(ff.setB 140 false (by rfl) cq).kp
          refine Rk 17 3 [tB 2 false] ji ai fun nx jj=>?_
          refine wf ?_
          obtain rfl:=XZ a7
          exact XY _ ⟨_,rfl,jj.kp,ai,Ae.le_refl _⟩
        ·
         rw [cp,XV] at a7
         have jk:Kn 157 [(a,0),(e,0)] [tB 126 false,tP 3 1 0] f7:=(fe.setB 126 false (by rfl) cp).kp
         refine Rk 3 17 [tB 2 false] jk ai fun ny jl=>?_
         refine wf ?_
         obtain rfl:=XZ a7
         exact XY _ ⟨_,rfl,jl.kp,ai,Ae.le_refl _⟩
       ·
        rintro _ o6 ⟨ev,dm,rfl,jm,j7,mh⟩
        refine wp_ret ?_
        obtain rfl:=XZ H
        exact rt (.one (.c (.bool fy))) jm j7 rfl
      ·
       rw [dx,XV] at H
       refine wp_skip (XT (An (by kernel_rfl) ?_))
       replace ai:=ai.drew
       refine Ao [] [(a,0),(e,0)] [⟨CU f r_ k g l i m,some 28⟩,⟨F8 s x21 y u z x aa,some 34⟩] ?_
       refine Dr [0,1,2] [2,1,0] [tB 145 (x21.2 == 0),tI 9 ab.2,tS 8 b x65.length d,tP 3 1 0] d5 ai fun f9 fh=>?_
       rcases Bool.eq_false_or_eq_true ((x21.2 == 0)) with cr | cr
       ·
        rw [cr,XW] at H
        have jn:Kn 157 [(a,0),(e,0)] [tB 145 true,tI 9 ab.2,tS 8 b x65.length d,tP 3 1 0] f9:=(fh.setB 145 true (by rfl) cr).kp
        refine Dr [3,4,5] (dn 5) [tI 148 ab.2,tS 147 b x65.length d,tA 146 (F8 s x21 y u z x aa),tB 145 true] jn ai fun nz fi=>?_
        obtain⟨x149,ex149,H⟩:=Aq H
        obtain⟨kc,kg,k7⟩:=Ai ex149
        obtain⟨a3,bc,l7,g1,k3,g5⟩:=aj.get (by decide) k7
        obtain⟨_,_,rfl,⟨a0,a4,rfl,eh⟩,⟨_,_,rfl,⟨a1,a5,rfl,ei⟩,⟨a2,a6,rfl,ej⟩⟩⟩:=k3
        have ee:Ah ⟨w,h,Aj⟩ b8 (RZ a e a3 bc ab) [⟨CU f r_ k g l i m,some 28⟩,⟨F8 s x21 y u z x aa,some 34⟩,⟨Sa a0 x149 a4 a1 a5 a2 a6,none⟩] [] (World.drew l1):=ai.addPlc (cs:=(Sa a0 x149 a4 a1 a5 a2 a6)) (fun j c hj=>g5 j _ (Al hj)) rfl (by kernel_rfl) (by kernel_rfl)
        refine Ax 6 (ab.2) (Sa a0 x149 a4 a1 a5 a2 a6) (fun _ _ _ _ _ h=>h) rfl rfl (Ak fi (by kernel_rfl)) rfl (by decide) (by kernel_rfl) (by kernel_rfl) fi ai.plOk (by rfl) (by rfl) (by rfl) g1 (by rfl) kc kg (by kernel_rfl) fun lr (jo:Kn 157 (RZ a e a3 bc ab) [tP 149 2 0,tI 148 ab.2,tS 147 b x65.length d,tA 146 (F8 s x21 y u z x aa),tB 145 true] lr)=>?_
        refine Dr [7] (dn 7) [tA 150 (Sa a0 x149 a4 a1 a5 a2 a6),tA 146 (F8 s x21 y u z x aa),tB 145 true] jo ee fun n0 fj=>?_
        obtain⟨x151,ex151,H⟩:=Aq H
        refine F0 8 rfl (by kernel_rfl) (by decide) (Ak fj (by kernel_rfl)) fun K hK=>?_
        refine wc [.agg (Sa a0 x149 a4 a1 a5 a2 a6)] fj ee (Re n ee.has x149 ((Ab (Ad eh) (Ab (Ad ei) (Ad ej))):rep b8 x149 _) ex151) fun oj ez o7 go ba ef=>?_
        replace ae:=ae.mono ba
        replace af:=af.mono ba
        replace ag:=ag.mono ba
        obtain⟨_,rfl,⟨_,_,rfl,⟨cz,c2,rfl,kt⟩,⟨_,_,rfl,⟨c0,c3,rfl,ku⟩,⟨c1,c4,rfl,kv⟩⟩⟩⟩:=go
        refine⟨.one (.agg [.slice cz x151.holds.length c2,.slice c0 x151.turns.length c3,.slice c1 x151.spares.length c4]),rfl,fun ls (fk:Kn 157 (RZ a e a3 bc ab) [tA 151 [.slice cz x151.holds.length c2,.slice c0 x151.turns.length c3,.slice c1 x151.spares.length c4],tA 150 (Sa a0 x149 a4 a1 a5 a2 a6),tA 146 (F8 s x21 y u z x aa),tB 145 true] ls)=>hK _ _ ef.plOk ?_⟩
        obtain⟨x152,ex152,H⟩:=Aq H
        refine F0 9 rfl (by kernel_rfl) (by decide) (Ak fk (by kernel_rfl)) fun K hK=>?_
        refine wc [.agg (F8 s x21 y u z x aa),.agg [.slice cz x151.holds.length c2,.slice c0 x151.turns.length c3,.slice c1 x151.spares.length c4]] fk ef (MV n ef.has (Am.mk x21.1.holds x21.1.turns x21.1.spares) ((Ab (Ad ae) (Ab (Ad af) (Ad ag))):rep ez (Am.mk x21.1.holds x21.1.turns x21.1.spares) _) x151 ((Ab (Ad kt) (Ab (Ad ku) (Ad kv))):rep ez x151 _) ex152) fun ok md o8 gp bb ce=>?_
        replace o:=o.mono (XU ba bb)
        replace p:=p.mono (XU ba bb)
        replace q:=q.mono (XU ba bb)
        replace ae:=ae.mono bb
        replace af:=af.mono bb
        replace ag:=ag.mono bb
        replace eh:=eh.mono (XU ba bb)
        replace ei:=ei.mono (XU ba bb)
        replace ej:=ej.mono (XU ba bb)
        obtain rfl:=gp
        refine⟨.one (.c (.bool x152)),rfl,fun lu (jp:Kn 157 (RZ a e a3 bc ab) [tB 152 x152,tA 151 [.slice cz x151.holds.length c2,.slice c0 x151.turns.length c3,.slice c1 x151.spares.length c4],tA 150 (Sa a0 x149 a4 a1 a5 a2 a6),tA 146 (F8 s x21 y u z x aa),tB 145 true] lu)=>hK _ _ ce.plOk ?_⟩
        refine Dr [10,11] (dn 11) [tB 154 x152] jp ce fun ga fl=>?_
        rcases Bool.eq_false_or_eq_true (x152) with ct | ct
        ·
         rw [ct,XW] at H
         have fm:Kn 157 (RZ a e a3 bc ab) [tB 154 true] ga:=(fl.setB 154 true (by rfl) ct).kp
         obtain⟨x155,ex155,H⟩:=Aq H
         refine F0 12 rfl (by kernel_rfl) (by decide) (Ak fm (by kernel_rfl)) fun K hK=>?_
         refine wc [] fm ce (GE n ce.has  ex155) fun ol me o9 gq mi eg=>?_
         obtain rfl:=gq
         refine⟨.one (.c (.bool x155)),rfl,fun lv (jq:Kn 157 (RZ a e a3 bc ab) [tB 155 x155,tB 154 true] lv)=>hK _ _ eg.plOk ?_⟩
         refine Dr [13,14] (dn 14) [tB 2 x155] jq eg fun n1 jr=>?_
         refine Ay (by kernel_rfl) (wp_ret ?_)
         obtain rfl:=XZ H
         exact rt (.one (.c (.bool x155))) jr eg rfl
        ·
         rw [ct,XV] at H
         have js:Kn 157 (RZ a e a3 bc ab) [tB 154 false] ga:=(fl.setB 154 false (by rfl) ct).kp
         refine Dr [12,13,14] (dn 14) [tB 2 false] js ce fun n2 jt=>?_
         refine Ay (by kernel_rfl) (wp_ret ?_)
         obtain rfl:=XZ H
         exact rt (.one (.c (.bool false))) jt ce rfl
       ·
        rw [cr,XV] at H
        have ju:Kn 157 [(a,0),(e,0)] [tB 145 false,tI 9 ab.2,tS 8 b x65.length d,tP 3 1 0] f9:=(fh.setB 145 false (by rfl) cr).kp
        refine Dr [3,4,5,6,7,8,9,10,11,12,13,14] (dn 14) [tB 2 false] ju ai fun n3 jv=>?_
        refine Ay (by kernel_rfl) (wp_ret ?_)
        obtain rfl:=XZ H
        exact rt (.one (.c (.bool false))) jv ai rfl
end Go.Proofs.Ytokchpjijlebiaa
