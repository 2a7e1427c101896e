/- Each call computes its plain function. -/
import Derived.Test.YtokchpjijlebiaaProg
import Derived.Test.YtokchpjijlebiaaBGP0
import Derived.Test.YtokchpjijlebiaaBGWA
import Derived.Test.YtokchpjijlebiaaBGWB
set_option linter.all false
namespace Go.Proofs.Ytokchpjijlebiaa
open Go Go.RowKit
open Rep (rep)
open KRep (kv)
open VRep (rv)
abbrev C3 (d:Option Addr) (a:Am) (f:Nat) (e:Option Addr) (g:Nat) (s:Option Addr) (u:Nat):List SC:=[.slice d a.holds.length f,.slice e a.turns.length g,.slice s a.spares.length u]
abbrev C5 (i:Option Addr) (b:Am) (o:Nat) (k:Option Addr) (p:Nat) (l:Option Addr) (q:Nat):List SC:=[.slice i b.holds.length o,.slice k b.turns.length p,.slice l b.spares.length q]
abbrev Hr (d:Option Addr) (a:Am) (f:Nat) (e:Option Addr) (g:Nat) (s:Option Addr) (u:Nat) (i:Option Addr) (b:Am) (o:Nat) (k:Option Addr) (p:Nat) (l:Option Addr) (q:Nat):List CP:=[⟨C3 d a f e g s u,some 50⟩,⟨C5 i b o k p l q,some 50⟩]
abbrev Ck:TM:=[tP 3 1 0,tP 2 0 0]
set_option maxRecDepth 100000 in
set_option maxHeartbeats 4000000 in
theorem ON (n:Nat) {h:Ae} {w:World} (hh:Dn h w) (a:Am) {cs_a:List Value} (hx_a:rep h a cs_a) (b:Am) {cs_b:List Value} (hx_b:rep h b cs_b) {r:Bool} (H:GU n a b=some r) :
  Calls Try.prog 21 #[.agg cs_a.toArray,.agg cs_b.toArray] w (Dp (fun h v=>v=.bool r) h w):=by
 obtain⟨_,_,rfl,⟨d,f,rfl,ae⟩,⟨_,_,rfl,⟨e,g,rfl,af⟩,⟨s,u,rfl,ag⟩⟩⟩:=hx_a
 obtain⟨_,_,rfl,⟨i,o,rfl,y⟩,⟨_,_,rfl,⟨k,p,rfl,z⟩,⟨l,q,rfl,aa⟩⟩⟩:=hx_b
 refine enter 109 [.agg (C3 d a f e g s u),.agg (C5 i b o k p l q)] Try.func21 rfl rfl rfl rfl fun t hk=>?_
 have hm:=Ah.begin h w hh
 unfold GU at H
 refine XT (Aa (wl fun K hK=>?_))
 refine wb (.agg (C3 d a f e g s u)) hk hm fun m hq h5 (e0:Kn 109 [(m,0)] [tP 2 0 0,tA 0 (C3 d a f e g s u),tA 1 (C5 i b o k p l q)] hq) (f1:Ah ⟨w,h,Aj⟩ h [(m,0)] [⟨C3 d a f e g s u,some 50⟩] [] h5)=>hK _ _ ?_
 refine wl fun K hK=>?_
 refine wb (.agg (C5 i b o k p l q)) e0 f1 fun x ht h6 (e8:Kn 109 [(m,0),(x,0)] [tP 3 1 0,tP 2 0 0,tA 0 (C3 d a f e g s u),tA 1 (C5 i b o k p l q)] ht) (a8:Ah ⟨w,h,Aj⟩ h [(m,0),(x,0)] (Hr d a f e g s u i b o k p l q) [] h6)=>hK _ _ ?_
 refine Rk 2 1 Ck e8 a8 fun jc fe=>?_
 refine wf (XT (XT (An (by kernel_rfl) ?_)))
 replace a8:=a8.drew
 refine Ao [] [(m,0),(x,0)] (Hr d a f e g s u i b o k p l q) ?_
 refine Dr [0,2] [2,0] ((tA 10 (C5 i b o k p l q))::(tA 8 (C3 d a f e g s u))::Ck) fe a8 fun jf fh=>?_
 obtain⟨x9,ex9,H⟩:=Aq H
 refine Dl 1 fun K hK=>?_
 refine wc [.agg (C3 d a f e g s u)] fh a8 (FZ n a8.has a ((Ab (Ad ae) (Ab (Ad af) (Ad ag))):rep h a _) ex9) fun jt dr j3 di a4 cg=>?_
 replace y:=y.mono a4
 replace z:=z.mono a4
 replace aa:=aa.mono a4
 obtain rfl:=di
 refine⟨.one (.c (.int .i64 x9)),rfl,fun hz (fr:Kn 109 [(m,0),(x,0)] ((tI 9 x9)::(tA 10 (C5 i b o k p l q))::(tA 8 (C3 d a f e g s u))::Ck) hz)=>hK _ _ cg.plOk ?_⟩
 obtain⟨x11,ex11,H⟩:=Aq H
 refine Dl 3 fun K hK=>?_
 refine wc [.agg (C5 i b o k p l q)] fr cg (FZ n cg.has b ((Ab (Ad y) (Ab (Ad z) (Ad aa))):rep dr b _) ex11) fun ju c1 j5 dj a5 ah=>?_
 replace ae:=ae.mono (XU a4 a5)
 replace af:=af.mono (XU a4 a5)
 replace ag:=ag.mono (XU a4 a5)
 replace y:=y.mono a5
 replace z:=z.mono a5
 replace aa:=aa.mono a5
 obtain rfl:=dj
 refine⟨.one (.c (.int .i64 x11)),rfl,fun h0 (fs:Kn 109 [(m,0),(x,0)] ((tI 11 x11)::(tI 9 x9)::(tA 10 (C5 i b o k p l q))::(tA 8 (C3 d a f e g s u))::Ck) h0)=>hK _ _ ah.plOk ?_⟩
 refine Dr [4] [4,3,1,2,0] ((tB 12 (x9 != x11))::Ck) fs ah fun jm b5=>?_
 refine Ay (by kernel_rfl) (wC ((x9 != x11)) b5 (fun bw=>?_) (fun bw=>?_))
 ·
  rw [bw,XW] at H
  refine XT (An (by kernel_rfl) ?_)
  replace ah:=ah.drew
  refine Ao [] [(m,0),(x,0)] (Hr d a f e g s u i b o k p l q) ?_
  refine Dr [0,2] [2,0] [tA 15 (C5 i b o k p l q),tA 13 (C3 d a f e g s u)] b5 ah fun jn ft=>?_
  obtain⟨x14,ex14,H⟩:=Aq H
  refine Dl 1 fun K hK=>?_
  refine wc [.agg (C3 d a f e g s u)] ft ah (FZ n ah.has a ((Ab (Ad ae) (Ab (Ad af) (Ad ag))):rep c1 a _) ex14) fun jv ds j6 dk b7 ch=>?_
  replace y:=y.mono b7
  replace z:=z.mono b7
  replace aa:=aa.mono b7
  obtain rfl:=dk
  refine⟨.one (.c (.int .i64 x14)),rfl,fun h1 (fu:Kn 109 [(m,0),(x,0)] [tI 14 x14,tA 15 (C5 i b o k p l q),tA 13 (C3 d a f e g s u)] h1)=>hK _ _ ch.plOk ?_⟩
  obtain⟨x16,ex16,H⟩:=Aq H
  refine Dl 3 fun K hK=>?_
  refine wc [.agg (C5 i b o k p l q)] fu ch (FZ n ch.has b ((Ab (Ad y) (Ab (Ad z) (Ad aa))):rep ds b _) ex16) fun jw il j7 dl ip ci=>?_
  obtain rfl:=dl
  refine⟨.one (.c (.int .i64 x16)),rfl,fun h2 (fv:Kn 109 [(m,0),(x,0)] [tI 16 x16,tI 14 x14,tA 15 (C5 i b o k p l q),tA 13 (C3 d a f e g s u)] h2)=>hK _ _ ci.plOk ?_⟩
  refine Dr [4,5] [5,4,3,1,2,0] [tB 4 (decide (x14<x16))] fv ci fun jo fw=>?_
  refine Ay (by kernel_rfl) (wp_ret ?_)
  obtain rfl:=XZ H
  exact rt (.one (.c (.bool (decide (x14<x16))))) fw ci rfl
 ·
  rw [bw,XV] at H
  refine wp_skip (XT (XT (An (by kernel_rfl) ?_)))
  replace ah:=ah.drew
  refine Ao [] [(m,0),(x,0)] (Hr d a f e g s u i b o k p l q) ?_
  refine Dr [0,2] [2,0] ((tA 20 (C5 i b o k p l q))::(tA 18 (C3 d a f e g s u))::Ck) b5 ah fun jp fx=>?_
  obtain⟨x19,ex19,H⟩:=Aq H
  refine Dl 1 fun K hK=>?_
  refine wc [.agg (C3 d a f e g s u)] fx ah (I1 n ah.has a ((Ab (Ad ae) (Ab (Ad af) (Ad ag))):rep c1 a _) ex19) fun jx dt j8 dm a6 cj=>?_
  replace y:=y.mono a6
  replace z:=z.mono a6
  replace aa:=aa.mono a6
  obtain rfl:=dm
  refine⟨.one (.c (.int .i64 x19)),rfl,fun h3 (fy:Kn 109 [(m,0),(x,0)] ((tI 19 x19)::(tA 20 (C5 i b o k p l q))::(tA 18 (C3 d a f e g s u))::Ck) h3)=>hK _ _ cj.plOk ?_⟩
  obtain⟨x21,ex21,H⟩:=Aq H
  refine Dl 3 fun K hK=>?_
  refine wc [.agg (C5 i b o k p l q)] fy cj (I1 n cj.has b ((Ab (Ad y) (Ab (Ad z) (Ad aa))):rep dt b _) ex21) fun jy bp j9 dp a7 ak=>?_
  replace ae:=ae.mono (XU a6 a7)
  replace af:=af.mono (XU a6 a7)
  replace ag:=ag.mono (XU a6 a7)
  replace y:=y.mono a7
  replace z:=z.mono a7
  replace aa:=aa.mono a7
  obtain rfl:=dp
  refine⟨.one (.c (.int .i64 x21)),rfl,fun h4 (fz:Kn 109 [(m,0),(x,0)] ((tI 21 x21)::(tI 19 x19)::(tA 20 (C5 i b o k p l q))::(tA 18 (C3 d a f e g s u))::Ck) h4)=>hK _ _ ak.plOk ?_⟩
  refine Dr [4] [4,3,1,2,0] ((tB 22 (x19 != x21))::Ck) fz ak fun jq b6=>?_
  refine Ay (by kernel_rfl) (wC ((x19 != x21)) b6 (fun bx=>?_) (fun bx=>?_))
  ·
   rw [bx,XW] at H
   refine XT (An (by kernel_rfl) ?_)
   replace ak:=ak.drew
   refine Ao [] [(m,0),(x,0)] (Hr d a f e g s u i b o k p l q) ?_
   refine Dr [0,2] [2,0] [tA 25 (C5 i b o k p l q),tA 23 (C3 d a f e g s u)] b6 ak fun jr f0=>?_
   obtain⟨x24,ex24,H⟩:=Aq H
   refine Dl 1 fun K hK=>?_
   refine wc [.agg (C3 d a f e g s u)] f0 ak (I1 n ak.has a ((Ab (Ad ae) (Ab (Ad af) (Ad ag))):rep bp a _) ex24) fun jz du ka dq b8 b9=>?_
   replace y:=y.mono b8
   replace z:=z.mono b8
   replace aa:=aa.mono b8
   obtain rfl:=dq
   refine⟨.one (.c (.int .i64 x24)),rfl,fun hg (eh:Kn 109 [(m,0),(x,0)] [tI 24 x24,tA 25 (C5 i b o k p l q),tA 23 (C3 d a f e g s u)] hg)=>hK _ _ b9.plOk ?_⟩
   obtain⟨x26,ex26,H⟩:=Aq H
   refine Dl 3 fun K hK=>?_
   refine wc [.agg (C5 i b o k p l q)] eh b9 (I1 n b9.has b ((Ab (Ad y) (Ab (Ad z) (Ad aa))):rep du b _) ex26) fun js ik j0 dh im ca=>?_
   obtain rfl:=dh
   refine⟨.one (.c (.int .i64 x26)),rfl,fun hi (ei:Kn 109 [(m,0),(x,0)] [tI 26 x26,tI 24 x24,tA 25 (C5 i b o k p l q),tA 23 (C3 d a f e g s u)] hi)=>hK _ _ ca.plOk ?_⟩
   refine Dr [4,5] [5,4,3,1,2,0] [tB 4 (decide (x24<x26))] ei ca fun iq ej=>?_
   refine Ay (by kernel_rfl) (wp_ret ?_)
   obtain rfl:=XZ H
   exact rt (.one (.c (.bool (decide (x24<x26))))) ej ca rfl
  ·
   rw [bx,XV] at H
   refine wp_skip (XT (XT (Aa (Rk 0 1 ((tI 5 0)::Ck) b6 ak fun ir ek=>?_))))
   refine wf ?_
   obtain⟨c8,cy,H⟩:=Aq H
   refine Av (fun a' w'=>∃ (de:Unit)(cn:Array Value)(ba:Ae),a' = ⟨cn,[]⟩∧Kn 109 [(m,0),(x,0)] Ck cn∧Ah ⟨w,h,Aj⟩ ba [(m,0),(x,0)] (Hr d a f e g s u i b o k p l q) [] w'∧Ae.le bp ba∧c8=.go de) ?_ ?_
   ·
    refine wp_block ?_
    refine Ar (fun hd a' w'=>∃ (x_v10:Int)(co:Array Value)(ar:Ae),a' = ⟨co,[]⟩∧Kn 109 [(m,0),(x,0)] ((tI 5 x_v10)::Ck) co∧Ah ⟨w,h,Aj⟩ ar [(m,0),(x,0)] (Hr d a f e g s u i b o k p l q) [] w'∧Ae.le bp ar∧Dz hd a b x_v10=some c8) n ?_ ?_
    ·
     exact XY 0 ⟨_,_,rfl,ek.kp,ak,Ae.le_refl _,cy⟩
    ·
     rintro ck _ bm ⟨x_v10,co,ar,rfl,el,av,bg,ab⟩
     clear cy
     obtain _ | ck:=ck
     ·
      rw [Dz] at ab; cases ab
     rw [Dz] at ab
     replace ae:=ae.mono bg
     replace y:=y.mono bg
     refine XT (XT (Aa (Rk 0 5 ((tB 32 (decide (x_v10<((a.holds.length:Nat):Int))))::(tI 5 x_v10)::Ck) el av fun iu bz=>?_)))
     refine wf (wC (decide (x_v10<((a.holds.length:Nat):Int))) bz (fun bq=>?_) (fun bq=>?_))
     ·
      rw [bq,XW] at ab
      refine wp_skip (XT (wp_block (XT (An (by kernel_rfl) ?_))))
      replace av:=av.drew
      refine Ao [] [(m,0),(x,0)] (Hr d a f e g s u i b o k p l q) ?_
      refine Dr [0,1,2] [2,1,0] ((tI 37 x_v10)::(tS 36 d a.holds.length f)::(tI 5 x_v10)::Ck) bz av fun iv em=>?_
      obtain⟨x38,ex38,ab⟩:=Aq ab
      obtain⟨f2,gd,g2⟩:=Ai ex38
      obtain⟨ai,al,h7,dv,gq,d6⟩:=ae.get (by decide) g2
      obtain rfl:=gq
      have cb:Ah ⟨w,h,Aj⟩ ar [(m,0),(x,0),(ai,al+(x_v10:Int).toNat*1)] [⟨C3 d a f e g s u,some 50⟩,⟨C5 i b o k p l q,some 50⟩,⟨[.int .i64 x38],none⟩] [] (World.drew bm):=av.addPlc (cs:=[.int .i64 x38]) (fun j c hj=>d6 j _ (Al hj)) rfl (by kernel_rfl) (by kernel_rfl)
      refine Ax 3 (x_v10) [.int .i64 x38] (fun _ _ _ _ _ h=>h) rfl rfl (rfl) rfl (by decide) (by kernel_rfl) (by kernel_rfl) em av.plOk (by rfl) (by rfl) (by rfl) dv (by rfl) f2 gd (by kernel_rfl) fun hl (en:Kn 109 [(m,0),(x,0),(ai,al+(x_v10:Int).toNat*1)] ((tP 38 2 0)::(tI 37 x_v10)::(tS 36 d a.holds.length f)::(tI 5 x_v10)::Ck) hl)=>?_
      refine Dr [4,5,6,7] (dn 7) ((tI 42 x_v10)::(tS 41 i b.holds.length o)::(tI 39 x38)::(tI 5 x_v10)::Ck) en cb fun iw eo=>?_
      obtain⟨x43,ex43,ab⟩:=Aq ab
      obtain⟨f3,gf,g3⟩:=Ai ex43
      obtain⟨ap,ay,h8,dw,gr,d7⟩:=y.get (by decide) g3
      obtain rfl:=gr
      have an:Ah ⟨w,h,Aj⟩ ar [(m,0),(x,0),(ai,al+(x_v10:Int).toNat*1),(ap,ay+(x_v10:Int).toNat*1)] [⟨C3 d a f e g s u,some 50⟩,⟨C5 i b o k p l q,some 50⟩,⟨[.int .i64 x38],none⟩,⟨[.int .i64 x43],none⟩] [] (World.drew bm):=cb.addPlc (cs:=[.int .i64 x43]) (fun j c hj=>d7 j _ (Al hj)) rfl (by kernel_rfl) (by kernel_rfl)
      refine Ax 8 (x_v10) [.int .i64 x43] (fun _ _ _ _ _ h=>h) rfl rfl (rfl) rfl (by decide) (by kernel_rfl) (by kernel_rfl) eo cb.plOk (by rfl) (by rfl) (by rfl) dw (by rfl) f3 gf (by kernel_rfl) fun hn (ep:Kn 109 [(m,0),(x,0),(ai,al+(x_v10:Int).toNat*1),(ap,ay+(x_v10:Int).toNat*1)] ((tP 43 3 0)::(tI 42 x_v10)::(tS 41 i b.holds.length o)::(tI 39 x38)::(tI 5 x_v10)::Ck) hn)=>?_
      refine Dr [9,10] (dn 10) ((tB 45 (x38 != x43))::(tI 5 x_v10)::Ck) ep an fun ix b0=>?_
      refine Ay (by kernel_rfl) (wC ((x38 != x43)) b0 (fun br=>?_) (fun br=>?_))
      ·
       rw [br,XW] at ab
       refine XT (An (by kernel_rfl) ?_)
       replace an:=an.drew
       refine Ao [] [(m,0),(x,0),(ai,al+(x_v10:Int).toNat*1),(ap,ay+(x_v10:Int).toNat*1)] [⟨C3 d a f e g s u,some 50⟩,⟨C5 i b o k p l q,some 50⟩,⟨[.int .i64 x38],none⟩,⟨[.int .i64 x43],none⟩] ?_
       refine Dr [0,1,2] [2,1,0] [tI 48 x_v10,tS 47 d a.holds.length f,tI 5 x_v10,tP 3 1 0] b0 an fun iy er=>?_
       obtain⟨x49,ex49,ab⟩:=Aq ab
       obtain⟨f4,gg,g4⟩:=Ai ex49
       obtain⟨bd,bj,h9,dx,gs,d8⟩:=ae.get (by decide) g4
       obtain rfl:=gs
       have cc:Ah ⟨w,h,Aj⟩ ar [(m,0),(x,0),(ai,al+(x_v10:Int).toNat*1),(ap,ay+(x_v10:Int).toNat*1),(bd,bj+(x_v10:Int).toNat*1)] [⟨C3 d a f e g s u,some 50⟩,⟨C5 i b o k p l q,some 50⟩,⟨[.int .i64 x38],none⟩,⟨[.int .i64 x43],none⟩,⟨[.int .i64 x49],none⟩] [] (World.drew (World.drew bm)):=an.addPlc (cs:=[.int .i64 x49]) (fun j c hj=>d8 j _ (Al hj)) rfl (by kernel_rfl) (by kernel_rfl)
       refine Ax 3 (x_v10) [.int .i64 x49] (fun _ _ _ _ _ h=>h) rfl rfl (rfl) rfl (by decide) (by kernel_rfl) (by kernel_rfl) er an.plOk (by rfl) (by rfl) (by rfl) dx (by rfl) f4 gg (by kernel_rfl) fun ho (es:Kn 109 [(m,0),(x,0),(ai,al+(x_v10:Int).toNat*1),(ap,ay+(x_v10:Int).toNat*1),(bd,bj+(x_v10:Int).toNat*1)] [tP 49 4 0,tI 48 x_v10,tS 47 d a.holds.length f,tI 5 x_v10,tP 3 1 0] ho)=>?_
       refine Dr [4,5,6,7] (dn 7) [tI 53 x_v10,tS 52 i b.holds.length o,tI 50 x49] es cc fun iz et=>?_
       obtain⟨x54,ex54,ab⟩:=Aq ab
       obtain⟨f5,gh,g5⟩:=Ai ex54
       obtain⟨cv,c9,ia,dy,gu,d9⟩:=y.get (by decide) g5
       obtain rfl:=gu
       have c2:Ah ⟨w,h,Aj⟩ ar [(m,0),(x,0),(ai,al+(x_v10:Int).toNat*1),(ap,ay+(x_v10:Int).toNat*1),(bd,bj+(x_v10:Int).toNat*1),(cv,c9+(x_v10:Int).toNat*1)] [⟨C3 d a f e g s u,some 50⟩,⟨C5 i b o k p l q,some 50⟩,⟨[.int .i64 x38],none⟩,⟨[.int .i64 x43],none⟩,⟨[.int .i64 x49],none⟩,⟨[.int .i64 x54],none⟩] [] (World.drew (World.drew bm)):=cc.addPlc (cs:=[.int .i64 x54]) (fun j c hj=>d9 j _ (Al hj)) rfl (by kernel_rfl) (by kernel_rfl)
       refine Ax 8 (x_v10) [.int .i64 x54] (fun _ _ _ _ _ h=>h) rfl rfl (rfl) rfl (by decide) (by kernel_rfl) (by kernel_rfl) et cc.plOk (by rfl) (by rfl) (by rfl) dy (by rfl) f5 gh (by kernel_rfl) fun hp (eu:Kn 109 [(m,0),(x,0),(ai,al+(x_v10:Int).toNat*1),(ap,ay+(x_v10:Int).toNat*1),(bd,bj+(x_v10:Int).toNat*1),(cv,c9+(x_v10:Int).toNat*1)] [tP 54 5 0,tI 53 x_v10,tS 52 i b.holds.length o,tI 50 x49] hp)=>?_
       refine Dr [9,10,11] (dn 11) [tB 4 (decide (x49<x54))] eu c2 fun i0 ev=>?_
       refine Ay (by kernel_rfl) (wp_ret ?_)
       obtain rfl:=XZ ab
       obtain rfl:=XZ H
       exact rt (.one (.c (.bool (decide (x49<x54))))) ev c2 rfl
      ·
       rw [br,XV] at ab
       refine wp_skip (Aa (Rk 0 3 ((tI 5 (IntKind.i64.wrap (x_v10+1)))::Ck) b0 an fun i1 ew=>?_))
       refine wf ?_
       exact XY ck ⟨Nat.lt_succ_self _,XY (IntKind.i64.wrap (x_v10+1)) ⟨_,_,rfl,(ew.keep [5,3,2] (by rfl)).cut 2 (by kernel_rfl),an.cutPl 2 (by kernel_rfl),bg,ab⟩⟩
     ·
      rw [bq,XV] at ab
      refine wp_exit ?_
      obtain rfl:=XZ ab
      exact XY () ⟨_,_,rfl,bz.kp,av,bg,rfl⟩
   ·
    rintro _ j1 ⟨de,cn,ba,rfl,ex,c3,a2,rfl⟩
    rw [Ex.bind_go] at H
    replace ae:=ae.mono a2
    replace af:=af.mono a2
    replace ag:=ag.mono a2
    replace y:=y.mono a2
    replace z:=z.mono a2
    replace aa:=aa.mono a2
    refine XT (XT (Aa (Rk 0 1 ((tI 6 0)::Ck) ex c3 fun i2 ey=>?_)))
    refine wf ?_
    obtain⟨da,cz,H⟩:=Aq H
    refine Av (fun a' w'=>∃ (df:Unit)(cp:Array Value)(bb:Ae),a' = ⟨cp,[]⟩∧Kn 109 [(m,0),(x,0)] Ck cp∧Ah ⟨w,h,Aj⟩ bb [(m,0),(x,0)] (Hr d a f e g s u i b o k p l q) [] w'∧Ae.le ba bb∧da=.go df) ?_ ?_
    ·
     refine wp_block ?_
     refine Ar (fun he a' w'=>∃ (x_v20:Int)(cq:Array Value)(au:Ae),a' = ⟨cq,[]⟩∧Kn 109 [(m,0),(x,0)] ((tI 6 x_v20)::Ck) cq∧Ah ⟨w,h,Aj⟩ au [(m,0),(x,0)] (Hr d a f e g s u i b o k p l q) [] w'∧Ae.le ba au∧D0 he a b x_v20=some da) n ?_ ?_
     ·
      exact XY 0 ⟨_,_,rfl,ey.kp,c3,Ae.le_refl _,cz⟩
     ·
      rintro cl _ bn ⟨x_v20,cq,au,rfl,ez,aw,bh,ac⟩
      clear cz
      obtain _ | cl:=cl
      ·
       rw [D0] at ac; cases ac
      rw [D0] at ac
      replace af:=af.mono bh
      replace z:=z.mono bh
      refine XT (XT (Aa (Rk 0 5 ((tB 61 (decide (x_v20<((a.turns.length:Nat):Int))))::(tI 6 x_v20)::Ck) ez aw fun i3 b1=>?_)))
      refine wf (wC (decide (x_v20<((a.turns.length:Nat):Int))) b1 (fun bs=>?_) (fun bs=>?_))
      ·
       rw [bs,XW] at ac
       refine wp_skip (XT (wp_block (XT (An (by kernel_rfl) ?_))))
       replace aw:=aw.drew
       refine Ao [] [(m,0),(x,0)] (Hr d a f e g s u i b o k p l q) ?_
       refine Dr [0,1,2] [2,1,0] ((tI 66 x_v20)::(tS 65 e a.turns.length g)::(tI 6 x_v20)::Ck) b1 aw fun i4 e1=>?_
       obtain⟨x67,ex67,ac⟩:=Aq ac
       obtain⟨f6,gi,g6⟩:=Ai ex67
       obtain⟨aj,am,ib,dz,gv,ea⟩:=af.get (by decide) g6
       obtain rfl:=gv
       have cd:Ah ⟨w,h,Aj⟩ au [(m,0),(x,0),(aj,am+(x_v20:Int).toNat*1)] [⟨C3 d a f e g s u,some 50⟩,⟨C5 i b o k p l q,some 50⟩,⟨[.int .i64 x67],none⟩] [] (World.drew bn):=aw.addPlc (cs:=[.int .i64 x67]) (fun j c hj=>ea j _ (Al hj)) rfl (by kernel_rfl) (by kernel_rfl)
       refine Ax 3 (x_v20) [.int .i64 x67] (fun _ _ _ _ _ h=>h) rfl rfl (rfl) rfl (by decide) (by kernel_rfl) (by kernel_rfl) e1 aw.plOk (by rfl) (by rfl) (by rfl) dz (by rfl) f6 gi (by kernel_rfl) fun hr (e2:Kn 109 [(m,0),(x,0),(aj,am+(x_v20:Int).toNat*1)] ((tP 67 2 0)::(tI 66 x_v20)::(tS 65 e a.turns.length g)::(tI 6 x_v20)::Ck) hr)=>?_
       refine Dr [4,5,6,7] (dn 7) ((tI 71 x_v20)::(tS 70 k b.turns.length p)::(tI 68 x67)::(tI 6 x_v20)::Ck) e2 cd fun i5 e3=>?_
       obtain⟨x72,ex72,ac⟩:=Aq ac
       obtain⟨f7,gj,g7⟩:=Ai ex72
       obtain⟨aq,az,ic,d0,gw,eb⟩:=z.get (by decide) g7
       obtain rfl:=gw
       have ao:Ah ⟨w,h,Aj⟩ au [(m,0),(x,0),(aj,am+(x_v20:Int).toNat*1),(aq,az+(x_v20:Int).toNat*1)] [⟨C3 d a f e g s u,some 50⟩,⟨C5 i b o k p l q,some 50⟩,⟨[.int .i64 x67],none⟩,⟨[.int .i64 x72],none⟩] [] (World.drew bn):=cd.addPlc (cs:=[.int .i64 x72]) (fun j c hj=>eb j _ (Al hj)) rfl (by kernel_rfl) (by kernel_rfl)
       refine Ax 8 (x_v20) [.int .i64 x72] (fun _ _ _ _ _ h=>h) rfl rfl (rfl) rfl (by decide) (by kernel_rfl) (by kernel_rfl) e3 cd.plOk (by rfl) (by rfl) (by rfl) d0 (by rfl) f7 gj (by kernel_rfl) fun hs (e4:Kn 109 [(m,0),(x,0),(aj,am+(x_v20:Int).toNat*1),(aq,az+(x_v20:Int).toNat*1)] ((tP 72 3 0)::(tI 71 x_v20)::(tS 70 k b.turns.length p)::(tI 68 x67)::(tI 6 x_v20)::Ck) hs)=>?_
       refine Dr [9,10] (dn 10) ((tB 74 (x67 != x72))::(tI 6 x_v20)::Ck) e4 ao fun i6 b2=>?_
       refine Ay (by kernel_rfl) (wC ((x67 != x72)) b2 (fun bt=>?_) (fun bt=>?_))
       ·
        rw [bt,XW] at ac
        refine XT (An (by kernel_rfl) ?_)
        replace ao:=ao.drew
        refine Ao [] [(m,0),(x,0),(aj,am+(x_v20:Int).toNat*1),(aq,az+(x_v20:Int).toNat*1)] [⟨C3 d a f e g s u,some 50⟩,⟨C5 i b o k p l q,some 50⟩,⟨[.int .i64 x67],none⟩,⟨[.int .i64 x72],none⟩] ?_
        refine Dr [0,1,2] [2,1,0] [tI 77 x_v20,tS 76 e a.turns.length g,tI 6 x_v20,tP 3 1 0] b2 ao fun i7 e5=>?_
        obtain⟨x78,ex78,ac⟩:=Aq ac
        obtain⟨f8,gk,g8⟩:=Ai ex78
        obtain⟨be,bk,ie,d1,gx,ec⟩:=af.get (by decide) g8
        obtain rfl:=gx
        have ce:Ah ⟨w,h,Aj⟩ au [(m,0),(x,0),(aj,am+(x_v20:Int).toNat*1),(aq,az+(x_v20:Int).toNat*1),(be,bk+(x_v20:Int).toNat*1)] [⟨C3 d a f e g s u,some 50⟩,⟨C5 i b o k p l q,some 50⟩,⟨[.int .i64 x67],none⟩,⟨[.int .i64 x72],none⟩,⟨[.int .i64 x78],none⟩] [] (World.drew (World.drew bn)):=ao.addPlc (cs:=[.int .i64 x78]) (fun j c hj=>ec j _ (Al hj)) rfl (by kernel_rfl) (by kernel_rfl)
        refine Ax 3 (x_v20) [.int .i64 x78] (fun _ _ _ _ _ h=>h) rfl rfl (rfl) rfl (by decide) (by kernel_rfl) (by kernel_rfl) e5 ao.plOk (by rfl) (by rfl) (by rfl) d1 (by rfl) f8 gk (by kernel_rfl) fun hu (e6:Kn 109 [(m,0),(x,0),(aj,am+(x_v20:Int).toNat*1),(aq,az+(x_v20:Int).toNat*1),(be,bk+(x_v20:Int).toNat*1)] [tP 78 4 0,tI 77 x_v20,tS 76 e a.turns.length g,tI 6 x_v20,tP 3 1 0] hu)=>?_
        refine Dr [4,5,6,7] (dn 7) [tI 82 x_v20,tS 81 k b.turns.length p,tI 79 x78] e6 ce fun i8 e7=>?_
        obtain⟨x83,ex83,ac⟩:=Aq ac
        obtain⟨f9,gl,g9⟩:=Ai ex83
        obtain⟨cw,db,ig,d2,gy,ed⟩:=z.get (by decide) g9
        obtain rfl:=gy
        have c4:Ah ⟨w,h,Aj⟩ au [(m,0),(x,0),(aj,am+(x_v20:Int).toNat*1),(aq,az+(x_v20:Int).toNat*1),(be,bk+(x_v20:Int).toNat*1),(cw,db+(x_v20:Int).toNat*1)] [⟨C3 d a f e g s u,some 50⟩,⟨C5 i b o k p l q,some 50⟩,⟨[.int .i64 x67],none⟩,⟨[.int .i64 x72],none⟩,⟨[.int .i64 x78],none⟩,⟨[.int .i64 x83],none⟩] [] (World.drew (World.drew bn)):=ce.addPlc (cs:=[.int .i64 x83]) (fun j c hj=>ed j _ (Al hj)) rfl (by kernel_rfl) (by kernel_rfl)
        refine Ax 8 (x_v20) [.int .i64 x83] (fun _ _ _ _ _ h=>h) rfl rfl (rfl) rfl (by decide) (by kernel_rfl) (by kernel_rfl) e7 ce.plOk (by rfl) (by rfl) (by rfl) d2 (by rfl) f9 gl (by kernel_rfl) fun hv (e9:Kn 109 [(m,0),(x,0),(aj,am+(x_v20:Int).toNat*1),(aq,az+(x_v20:Int).toNat*1),(be,bk+(x_v20:Int).toNat*1),(cw,db+(x_v20:Int).toNat*1)] [tP 83 5 0,tI 82 x_v20,tS 81 k b.turns.length p,tI 79 x78] hv)=>?_
        refine Dr [9,10,11] (dn 11) [tB 4 (decide (x78<x83))] e9 c4 fun i9 fa=>?_
        refine Ay (by kernel_rfl) (wp_ret ?_)
        obtain rfl:=XZ ac
        obtain rfl:=XZ H
        exact rt (.one (.c (.bool (decide (x78<x83))))) fa c4 rfl
       ·
        rw [bt,XV] at ac
        refine wp_skip (Aa (Rk 0 3 ((tI 6 (IntKind.i64.wrap (x_v20+1)))::Ck) b2 ao fun ja fb=>?_))
        refine wf ?_
        exact XY cl ⟨Nat.lt_succ_self _,XY (IntKind.i64.wrap (x_v20+1)) ⟨_,_,rfl,(fb.keep [6,3,2] (by rfl)).cut 2 (by kernel_rfl),ao.cutPl 2 (by kernel_rfl),bh,ac⟩⟩
      ·
       rw [bs,XV] at ac
       refine wp_exit ?_
       obtain rfl:=XZ ac
       exact XY () ⟨_,_,rfl,b1.kp,aw,bh,rfl⟩
    ·
     rintro _ j2 ⟨df,cp,bb,rfl,fc,c5,a3,rfl⟩
     rw [Ex.bind_go] at H
     replace ae:=ae.mono a3
     replace af:=af.mono a3
     replace ag:=ag.mono a3
     replace y:=y.mono a3
     replace z:=z.mono a3
     replace aa:=aa.mono a3
     refine XT (XT (Aa (Rk 0 1 ((tI 7 0)::Ck) fc c5 fun jb fd=>?_)))
     refine wf ?_
     obtain⟨dc,c0,H⟩:=Aq H
     refine Av (fun a' w'=>∃ (dg:Unit)(cr:Array Value)(bo:Ae),a' = ⟨cr,[]⟩∧Kn 109 [(m,0),(x,0)] [] cr∧Ah ⟨w,h,Aj⟩ bo [(m,0),(x,0)] (Hr d a f e g s u i b o k p l q) [] w'∧Ae.le bb bo∧dc=.go dg) ?_ ?_
     ·
      refine wp_block ?_
      refine Ar (fun hf a' w'=>∃ (x_v30:Int)(ct:Array Value)(a1:Ae),a' = ⟨ct,[]⟩∧Kn 109 [(m,0),(x,0)] ((tI 7 x_v30)::Ck) ct∧Ah ⟨w,h,Aj⟩ a1 [(m,0),(x,0)] (Hr d a f e g s u i b o k p l q) [] w'∧Ae.le bb a1∧D1 hf a b x_v30=some dc) n ?_ ?_
      ·
       exact XY 0 ⟨_,_,rfl,fd.kp,c5,Ae.le_refl _,c0⟩
      ·
       rintro cm _ cu ⟨x_v30,ct,a1,rfl,ff,ax,bi,ad⟩
       clear c0
       obtain _ | cm:=cm
       ·
        rw [D1] at ad; cases ad
       rw [D1] at ad
       replace ag:=ag.mono bi
       replace aa:=aa.mono bi
       refine XT (XT (Aa (Rk 0 5 ((tB 90 (decide (x_v30<((a.spares.length:Nat):Int))))::(tI 7 x_v30)::Ck) ff ax fun jd b3=>?_)))
       refine wf (wC (decide (x_v30<((a.spares.length:Nat):Int))) b3 (fun bu=>?_) (fun bu=>?_))
       ·
        rw [bu,XW] at ad
        refine wp_skip (XT (wp_block (XT (An (by kernel_rfl) ?_))))
        replace ax:=ax.drew
        refine Ao [] [(m,0),(x,0)] (Hr d a f e g s u i b o k p l q) ?_
        refine Dr [0,1,2] [2,1,0] ((tI 95 x_v30)::(tS 94 s a.spares.length u)::(tI 7 x_v30)::Ck) b3 ax fun je fg=>?_
        obtain⟨x96,ex96,ad⟩:=Aq ad
        obtain⟨ga,gm,ha⟩:=Ai ex96
        obtain⟨a0,a9,ih,d3,gz,ee⟩:=ag.get (by decide) ha
        obtain rfl:=gz
        have cf:Ah ⟨w,h,Aj⟩ a1 [(m,0),(x,0),(a0,a9+(x_v30:Int).toNat*1)] [⟨C3 d a f e g s u,some 50⟩,⟨C5 i b o k p l q,some 50⟩,⟨[.bool x96],none⟩] [] (World.drew cu):=ax.addPlc (cs:=[.bool x96]) (fun j c hj=>ee j _ (Al hj)) rfl (by kernel_rfl) (by kernel_rfl)
        refine Ax 3 (x_v30) [.bool x96] (fun _ _ _ _ _ h=>h) rfl rfl (rfl) rfl (by decide) (by kernel_rfl) (by kernel_rfl) fg ax.plOk (by rfl) (by rfl) (by rfl) d3 (by rfl) ga gm (by kernel_rfl) fun hw (fi:Kn 109 [(m,0),(x,0),(a0,a9+(x_v30:Int).toNat*1)] ((tP 96 2 0)::(tI 95 x_v30)::(tS 94 s a.spares.length u)::(tI 7 x_v30)::Ck) hw)=>?_
        refine Dr [4,5,6,7] (dn 7) ((tI 100 x_v30)::(tS 99 l b.spares.length q)::(tB 97 x96)::(tI 7 x_v30)::Ck) fi cf fun jg fj=>?_
        obtain⟨x101,ex101,ad⟩:=Aq ad
        obtain⟨gb,gn,hb⟩:=Ai ex101
        obtain⟨bf,bl,ii,d4,g0,ef⟩:=aa.get (by decide) hb
        obtain rfl:=g0
        have bc:Ah ⟨w,h,Aj⟩ a1 [(m,0),(x,0),(a0,a9+(x_v30:Int).toNat*1),(bf,bl+(x_v30:Int).toNat*1)] [⟨C3 d a f e g s u,some 50⟩,⟨C5 i b o k p l q,some 50⟩,⟨[.bool x96],none⟩,⟨[.bool x101],none⟩] [] (World.drew cu):=cf.addPlc (cs:=[.bool x101]) (fun j c hj=>ef j _ (Al hj)) rfl (by kernel_rfl) (by kernel_rfl)
        refine Ax 8 (x_v30) [.bool x101] (fun _ _ _ _ _ h=>h) rfl rfl (rfl) rfl (by decide) (by kernel_rfl) (by kernel_rfl) fj cf.plOk (by rfl) (by rfl) (by rfl) d4 (by rfl) gb gn (by kernel_rfl) fun hx (fk:Kn 109 [(m,0),(x,0),(a0,a9+(x_v30:Int).toNat*1),(bf,bl+(x_v30:Int).toNat*1)] ((tP 101 3 0)::(tI 100 x_v30)::(tS 99 l b.spares.length q)::(tB 97 x96)::(tI 7 x_v30)::Ck) hx)=>?_
        refine Dr [9,10] (dn 10) ((tB 103 (!(x96 == x101)))::(tI 7 x_v30)::Ck) fk bc fun jh b4=>?_
        refine Ay (by kernel_rfl) (wC ((!(x96 == x101))) b4 (fun bv=>?_) (fun bv=>?_))
        ·
         rw [bv,XW] at ad
         refine XT (Aa (Rk 0 3 [tI 106 x_v30,tS 105 l b.spares.length q] b4 bc fun ji fl=>?_))
         obtain⟨x107,ex107,ad⟩:=Aq ad
         obtain⟨gc,gp,hc⟩:=Ai ex107
         obtain⟨cx,dd,ij,d5,g1,eg⟩:=aa.get (by decide) hc
         obtain rfl:=g1
         have c6:Ah ⟨w,h,Aj⟩ a1 [(m,0),(x,0),(a0,a9+(x_v30:Int).toNat*1),(bf,bl+(x_v30:Int).toNat*1),(cx,dd+(x_v30:Int).toNat*1)] [⟨C3 d a f e g s u,some 50⟩,⟨C5 i b o k p l q,some 50⟩,⟨[.bool x96],none⟩,⟨[.bool x101],none⟩,⟨[.bool x107],none⟩] [] (World.drew cu):=bc.addPlc (cs:=[.bool x107]) (fun j c hj=>eg j _ (Al hj)) rfl (by kernel_rfl) (by kernel_rfl)
         refine Bc 3 (x_v30) rfl rfl (rfl) rfl (by decide) fl (by rfl) (by rfl) (by rfl) d5 (by rfl) gc gp (by kernel_rfl) fun hy (fm:Kn 109 [(m,0),(x,0),(a0,a9+(x_v30:Int).toNat*1),(bf,bl+(x_v30:Int).toNat*1),(cx,dd+(x_v30:Int).toNat*1)] [tP 107 4 0,tI 106 x_v30,tS 105 l b.spares.length q] hy)=>?_
         refine Rk 4 2 [tB 4 x107] fm c6 fun jj fn=>?_
         refine wf (wp_ret ?_)
         obtain rfl:=XZ ad
         obtain rfl:=XZ H
         exact rt (.one (.c (.bool x107))) fn c6 rfl
        ·
         rw [bv,XV] at ad
         refine wp_skip (Aa (Rk 0 3 ((tI 7 (IntKind.i64.wrap (x_v30+1)))::Ck) b4 bc fun jk fo=>?_))
         refine wf ?_
         exact XY cm ⟨Nat.lt_succ_self _,XY (IntKind.i64.wrap (x_v30+1)) ⟨_,_,rfl,(fo.keep [7,3,2] (by rfl)).cut 2 (by kernel_rfl),bc.cutPl 2 (by kernel_rfl),bi,ad⟩⟩
       ·
        rw [bu,XV] at ad
        refine wp_exit ?_
        obtain rfl:=XZ ad
        exact XY () ⟨_,_,rfl,b3.kp,ax,bi,rfl⟩
     ·
      rintro _ j4 ⟨dg,cr,bo,rfl,fp,c7,io,rfl⟩
      rw [Ex.bind_go] at H
      refine XT (Aa (Rk 0 1 [tB 4 false] fp c7 fun jl fq=>?_))
      refine wf (wp_ret ?_)
      obtain rfl:=XZ H
      exact rt (.one (.c (.bool false))) fq c7 rfl
abbrev LN (q:Option Addr) (a:Am) (s:Nat) (m:Option Addr) (o:Nat) (u:Option Addr) (x:Nat):List SC:=[.slice q a.holds.length s,.slice m a.turns.length o,.slice u a.spares.length x]
abbrev Cu (e:Option Addr) (r_:Af) (g:Nat) (b:Option Addr) (d:Nat) (f:Option Addr) (k:Nat):List SC:=[.slice e r_.legs.length g,.int .i64 r_.turn.lo,.int .i64 r_.turn.hi,.slice b r_.buses.length d,.slice f r_.spares.length k,.int .i64 r_.unit,.int .i64 r_.gap,.int .i64 r_.fr,.int .i64 r_.to_]
abbrev Oq (x_v21:Int):List Fl:=[⟨14,55,3,1,1,[.int .i64 x_v21]⟩]
abbrev Ot (x_v31:Int):List Fl:=[⟨12,84,4,1,1,[.bool (x_v31 == 1)]⟩]
abbrev S8 (x_v21:Int):List Fl:=[⟨9,50,3,1,0,[]⟩,⟨14,55,3,1,1,[.int .i64 x_v21]⟩]
abbrev S9 (x_v11 x_v21:Int):List Fl:=[⟨7,48,3,1,1,[.int .i64 x_v11]⟩,⟨9,50,3,1,0,[]⟩,⟨14,55,3,1,1,[.int .i64 x_v21]⟩]
abbrev Bw (e:Option Addr) (r_:Af) (g:Nat) (b:Option Addr) (d:Nat) (f:Option Addr) (k:Nat) (q:Option Addr) (a:Am) (s:Nat) (m:Option Addr) (o:Nat) (u:Option Addr) (x:Nat):List CP:=[⟨Cu e r_ g b d f k,some 28⟩,⟨LN q a s m o u x,some 50⟩]
abbrev TO (x_v11 x_v21:Int):List Fl:=[⟨2,43,3,1,0,[]⟩,⟨7,48,3,1,1,[.int .i64 x_v11]⟩,⟨9,50,3,1,0,[]⟩,⟨14,55,3,1,1,[.int .i64 x_v21]⟩]
abbrev LO (e:Option Addr) (r_:Af) (g:Nat) (b:Option Addr) (d:Nat) (f:Option Addr) (k:Nat) (y:Option Addr) (x_v20:List Am) (z:Nat) (x_v21 x_v11:Int) (a:Am):TM:=[tA 42 (Cu e r_ g b d f k),tS 41 y x_v20.length z,tI 8 x_v21,tI 7 x_v11,tI 6 ((a.holds.length:Nat):Int),tP 3 1 0,tP 2 0 0]
abbrev Hc (x_v21 x_v11:Int) (a:Am) (y:Option Addr) (x_v20:List Am) (z:Nat):TM:=[tI 8 x_v21,tI 7 x_v11,tI 6 ((a.holds.length:Nat):Int),tS 5 y x_v20.length z,tP 3 1 0,tP 2 0 0]
set_option maxRecDepth 100000 in
set_option maxHeartbeats 4000000 in
theorem OO (n:Nat):∀ (h:Ae)(w:World)(hh:Dn h w)(r_:Af)(cs_r_:List Value)(hx_r_:rep h r_ cs_r_)(a:Am)(cs_a:List Value)(hx_a:rep h a cs_a)(r:List Am)(H:ref_Every n r_ a=some r),
  Calls Try.prog 18 #[.agg cs_r_.toArray,.agg cs_a.toArray] w (Dp (fun h v=>∃ a c,v=.slice a r.length c∧A6 h a c r) h w):=by
 induction n using Nat.strongRecOn with
 | _ n ih =>
  intro h w hh r_ cs_r_ hx_r_ a cs_a hx_a r H
  obtain _ | n:=n
  ·
   rw [ref_Every] at H; cases H
  obtain⟨_,_,rfl,⟨e,g,rfl,ai⟩,⟨_,_,rfl,⟨_,_,rfl,rfl,rfl⟩,⟨_,_,rfl,⟨b,d,rfl,ag⟩,⟨_,_,rfl,⟨f,k,rfl,aj⟩,⟨_,_,rfl,rfl,⟨_,_,rfl,rfl,⟨_,_,rfl,rfl,rfl⟩⟩⟩⟩⟩⟩⟩:=hx_r_
  obtain⟨_,_,rfl,⟨q,s,rfl,al⟩,⟨_,_,rfl,⟨m,o,rfl,am⟩,⟨u,x,rfl,av⟩⟩⟩:=hx_a
  refine enter 92 [.agg (Cu e r_ g b d f k),.agg (LN q a s m o u x)] Try.func18 rfl rfl rfl rfl fun t hk=>?_
  have hm:=Ah.begin h w hh
  rw [ref_Every] at H
  refine XT (Aa (wl fun K hK=>?_))
  refine wb (.agg (Cu e r_ g b d f k)) hk hm fun l mi m3 (jw:Kn 92 [(l,0)] [tP 2 0 0,tA 0 (Cu e r_ g b d f k),tA 1 (LN q a s m o u x)] mi) (lg:Ah ⟨w,h,Aj⟩ h [(l,0)] [⟨Cu e r_ g b d f k,some 28⟩] [] m3)=>hK _ _ ?_
  refine wl fun K hK=>?_
  refine wb (.agg (LN q a s m o u x)) jw lg fun p mo f7 (j0:Kn 92 [(l,0),(p,0)] [tP 3 1 0,tP 2 0 0,tA 0 (Cu e r_ g b d f k),tA 1 (LN q a s m o u x)] mo) (az:Ah ⟨w,h,Aj⟩ h [(l,0),(p,0)] (Bw e r_ g b d f k q a s m o u x) [] f7)=>hK _ _ ?_
  refine Rk 2 1 [tP 3 1 0,tP 2 0 0] j0 az fun oo j2=>?_
  refine wf (XT (Aa (Rk 0 1 [tS 5 none 0 0,tP 3 1 0,tP 2 0 0] j2 az fun op j4=>?_)))
  refine wf (XT (XT (Aa (Rk 0 4 [tI 6 ((a.holds.length:Nat):Int),tS 5 none 0 0,tP 3 1 0,tP 2 0 0] j4 az fun oq j5=>?_))))
  refine wf (XT (Aa (Rk 0 5 [tB 17 (decide (((a.holds.length:Nat):Int)<((r_.buses.length:Nat):Int))),tI 6 ((a.holds.length:Nat):Int),tS 5 none 0 0,tP 3 1 0,tP 2 0 0] j5 az fun os fc=>?_)))
  refine wf (wC (decide (((a.holds.length:Nat):Int)<((r_.buses.length:Nat):Int))) fc (fun ey=>?_) (fun ey=>?_))
  ·
   rw [ey,XW] at H
   refine XT (XT (Aa (Rk 0 1 [tI 7 0,tI 6 ((a.holds.length:Nat):Int),tS 5 none 0 0,tP 3 1 0,tP 2 0 0] fc az fun oy kd=>?_)))
   refine wf ?_
   have li:Ah ⟨w,h,Aj⟩ h [(l,0),(p,0)] (Bw e r_ g b d f k q a s m o u x) [⟨none,0,0,50,3,[],0⟩] f7:=az.nilRow 50 3
   have i8:Ag h ([]:List Am) []:=Ag.nil
   obtain⟨bt,gh,H⟩:=Aq H
   refine Av (fun a' w'=>∃ (b1:Option Addr)(b6:Nat)(dg:List Value)(f2:Array Value)(dy:Ae),a' = ⟨f2,[]⟩∧Kn 92 [(l,0),(p,0)] [tS 5 b1 bt.length b6] f2∧Ah ⟨w,h,Aj⟩ dy [(l,0),(p,0)] (Bw e r_ g b d f k q a s m o u x) [⟨b1,bt.length,b6,50,3,dg,0⟩] w'∧Ae.le h dy∧Ag dy bt dg) ?_ ?_
   ·
    refine wp_block ?_
    refine Ar (fun hr a' w'=>∃ (x_v10:List Am)(x_v11:Int)(b0:Option Addr)(b5:Nat)(df:List Value)(f3:Array Value)(cd:Ae),a' = ⟨f3,[]⟩∧Kn 92 [(l,0),(p,0)] [tI 7 x_v11,tI 6 ((a.holds.length:Nat):Int),tS 5 b0 x_v10.length b5,tP 3 1 0,tP 2 0 0] f3∧Ah ⟨w,h,Aj⟩ cd [(l,0),(p,0)] (Bw e r_ g b d f k q a s m o u x) [⟨b0,x_v10.length,b5,50,3,df,0⟩] w'∧Ae.le h cd∧Ag cd x_v10 df∧hr≤n∧Dk hr r_ a x_v10 x_v11=some bt) n ?_ ?_
    ·
     exact XY ([]:List Am) ⟨0,none,0,[],_,_,rfl,kd.kp,li,Ae.le_refl _,i8,Nat.le_refl _,gh⟩
    ·
     rintro db _ pf ⟨x_v10,x_v11,b0,b5,df,f3,cd,rfl,ku,ek,br,g1,n1,a9⟩
     clear gh
     obtain _ | db:=db
     ·
      rw [Dk] at a9; cases a9
     rw [Dk] at a9
     replace ai:=ai.mono br
     replace ag:=ag.mono br
     replace aj:=aj.mono br
     replace al:=al.mono br
     replace am:=am.mono br
     replace av:=av.mono br
     refine XT (XT (Aa (Rk 0 2 [tB 19 (decide (x_v11≤2)),tI 7 x_v11,tI 6 ((a.holds.length:Nat):Int),tS 5 b0 x_v10.length b5,tP 3 1 0,tP 2 0 0] ku ek fun o6 ff=>?_)))
     refine wf (wC (decide (x_v11≤2)) ff (fun e1=>?_) (fun e1=>?_))
     ·
      rw [e1,XW] at a9
      refine wp_skip (XT (wp_block (XT (Aa (Rk 0 1 [tI 8 (-1),tI 7 x_v11,tI 6 ((a.holds.length:Nat):Int),tS 5 b0 x_v10.length b5,tP 3 1 0,tP 2 0 0] ff ek fun o7 kv=>?_)))))
      refine wf ?_
      obtain⟨ch,gi,a9⟩:=Aq a9
      refine Av (fun a' w'=>∃ (ck:Option Addr)(cy:Nat)(eo:List Value)(f4:Array Value)(dz:Ae),a' = ⟨f4,[]⟩∧Kn 92 [(l,0),(p,0)] [tI 7 x_v11,tI 6 ((a.holds.length:Nat):Int),tS 5 ck ch.length cy,tP 3 1 0,tP 2 0 0] f4∧Ah ⟨w,h,Aj⟩ dz [(l,0),(p,0)] (Bw e r_ g b d f k q a s m o u x) [⟨ck,ch.length,cy,50,3,eo,0⟩] w'∧Ae.le cd dz∧Ag dz ch eo) ?_ ?_
      ·
       refine wp_block ?_
       refine Ar (fun hs a' w'=>∃ (x_v20:List Am)(x_v21:Int)(y:Option Addr)(z:Nat)(aa:List Value)(f5:Array Value)(c2:Ae),a' = ⟨f5,[]⟩∧Kn 92 [(l,0),(p,0)] (Hc x_v21 x_v11 a y x_v20 z) f5∧Ah ⟨w,h,Aj⟩ c2 [(l,0),(p,0)] (Bw e r_ g b d f k q a s m o u x) [⟨y,x_v20.length,z,50,3,aa,0⟩] w'∧Ae.le cd c2∧Ag c2 x_v20 aa∧hs≤db∧CC hs r_ a x_v11 x_v20 x_v21=some ch) db ?_ ?_
       ·
        exact XY x_v10 ⟨(-1),b0,b5,df,_,_,rfl,kv.kp,ek,Ae.le_refl _,g1,Nat.le_refl _,gi⟩
       ·
        rintro cg _ pg ⟨x_v20,x_v21,y,z,aa,f5,c2,rfl,kw,fo,bb,a8,n2,ad⟩
        clear gi
        obtain _ | cg:=cg
        ·
         rw [CC] at ad; cases ad
        rw [CC] at ad
        replace ai:=ai.mono bb
        replace ag:=ag.mono bb
        replace aj:=aj.mono bb
        refine XT (XT (Aa (Rk 0 2 ((tA 23 (Cu e r_ g b d f k))::(tI 22 x_v21)::(Hc x_v21 x_v11 a y x_v20 z)) kw fo fun o8 kx=>?_)))
        obtain⟨x24,ex24,ad⟩:=Aq ad
        refine wl fun K hK=>?_
        refine wc [.agg (Cu e r_ g b d f k)] kx fo (K3 cg fo.has r_ ((Ab (Ad ai) (Ab (Ab Ac Ac) (Ab (Ad ag) (Ab (Ad aj) (Ab Ac (Ab Ac (Ab Ac Ac))))))):rep c2 r_ _) ex24) fun pb g0 ni ii a3 ca=>?_
        replace ai:=ai.mono a3
        replace ag:=ag.mono a3
        replace aj:=aj.mono a3
        replace al:=al.mono (XU bb a3)
        replace am:=am.mono (XU bb a3)
        replace av:=av.mono (XU bb a3)
        replace a8:=a8.mono a3
        obtain rfl:=ii
        refine⟨.one (.c (.int .i64 x24)),rfl,fun m1 (jl:Kn 92 [(l,0),(p,0)] ((tI 24 x24)::(tA 23 (Cu e r_ g b d f k))::(tI 22 x_v21)::(Hc x_v21 x_v11 a y x_v20 z)) m1)=>hK _ _ ?_⟩
        refine Rk 3 2 ((tB 26 (decide (x_v21≤(IntKind.i64.wrap (x24-2)))))::(Hc x_v21 x_v11 a y x_v20 z)) jl ca fun og fa=>?_
        refine wf (wC (decide (x_v21≤(IntKind.i64.wrap (x24-2)))) fa (fun ew=>?_) (fun ew=>?_))
        ·
         rw [ew,XW] at ad
         refine wp_skip (XT (wp_block (XT ?_)))
         obtain⟨ht,cc,ad⟩:=Aq ad
         refine Av (fun a' w'=>∃ (fz:Array Value)(ay:Ae),a' = ⟨fz,[]⟩∧Kn 92 [(l,0),(p,0)] [tI 8 x_v21,tI 7 x_v11,tI 6 ((a.holds.length:Nat):Int),tS 5 y x_v20.length z,tP 3 1 0,tP 2 0 0,tB 40 ht] fz∧Ah ⟨w,h,Aj⟩ ay [(l,0),(p,0)] (Bw e r_ g b d f k q a s m o u x) [⟨y,x_v20.length,z,50,3,aa,0⟩] w'∧Ae.le g0 ay) ?_ ?_
         ·
          refine Aa (Rk 0 3 ((tB 31 (decide (x_v21<0)))::(Hc x_v21 x_v11 a y x_v20 z)) fa ca fun hv g2=>?_)
          rcases Bool.eq_false_or_eq_true (decide (x_v21<0)) with c3 | c3
          ·
           rw [c3,XW] at cc
           have jm:Kn 92 [(l,0),(p,0)] ((tB 31 true)::(Hc x_v21 x_v11 a y x_v20 z)) hv:=(g2.setB 31 true (by rfl) c3).kp
           refine Rk 3 9 ((tB 40 true)::(Hc x_v21 x_v11 a y x_v20 z)) jm ca fun oh jn=>?_
           refine wf ?_
           obtain rfl:=XZ cc
           exact XY _ ⟨_,rfl,jn.kp,ca,Ae.le_refl _⟩
          ·
           rw [c3,XV] at cc
           have jo:Kn 92 [(l,0),(p,0)] ((tB 31 false)::(Hc x_v21 x_v11 a y x_v20 z)) hv:=(g2.setB 31 false (by rfl) c3).kp
           refine Rk 3 4 ((tI 35 ((a.holds.length:Nat):Int))::(tS 34 b r_.buses.length d)::(tI 32 x_v21)::(tB 31 false)::(Hc x_v21 x_v11 a y x_v20 z)) jo ca fun oi g3=>?_
           obtain⟨x36,ex36,cc⟩:=Aq cc
           obtain⟨ll,lm,l8⟩:=Ai ex36
           obtain⟨f8,hu,nj,iu,l7,iv⟩:=ag.get (by decide) l8
           obtain⟨_,_,rfl,rfl,⟨_,_,rfl,rfl,rfl⟩⟩:=l7
           have g9:Ah ⟨w,h,Aj⟩ g0 [(l,0),(p,0),(f8,hu+(((a.holds.length:Nat):Int):Int).toNat*3)] [⟨Cu e r_ g b d f k,some 28⟩,⟨LN q a s m o u x,some 50⟩,⟨[.int .i64 x36.stop,.int .i64 x36.tm.lo,.int .i64 x36.tm.hi],none⟩] [⟨y,x_v20.length,z,50,3,aa,0⟩] ni:=ca.addPlc (cs:=[.int .i64 x36.stop,.int .i64 x36.tm.lo,.int .i64 x36.tm.hi]) (fun j c hj=>iv j _ (Al hj)) rfl (by kernel_rfl) (by kernel_rfl)
           refine Bc 7 (((a.holds.length:Nat):Int)) rfl rfl (Ak g3 (by kernel_rfl)) rfl (by decide) g3 (by rfl) (by rfl) (by rfl) iu (by rfl) ll lm (by kernel_rfl) fun mf (jp:Kn 92 [(l,0),(p,0),(f8,hu+(((a.holds.length:Nat):Int):Int).toNat*3)] ((tP 36 2 0)::(tI 35 ((a.holds.length:Nat):Int))::(tS 34 b r_.buses.length d)::(tI 32 x_v21)::(tB 31 false)::(Hc x_v21 x_v11 a y x_v20 z)) mf)=>?_
           refine Rk 8 4 ((tB 40 (decide (x_v21≥x36.stop)))::(Hc x_v21 x_v11 a y x_v20 z)) jp g9 fun oj jq=>?_
           refine wf ?_
           obtain rfl:=XZ cc
           exact XY _ ⟨_,rfl,(jq.keep [8,7,6,5,3,2,40] (by rfl)).cut 2 (by kernel_rfl),g9.cutPl 2 (by kernel_rfl),Ae.le_refl _⟩
         ·
          rintro _ ep ⟨fz,ay,rfl,fb,ce,ba⟩
          replace ai:=ai.mono ba
          replace ag:=ag.mono ba
          replace aj:=aj.mono ba
          replace al:=al.mono ba
          replace am:=am.mono ba
          replace av:=av.mono ba
          replace a8:=a8.mono ba
          refine wC (ht) fb (fun ex=>?_) (fun ex=>?_)
          ·
           rw [ex,XW] at ad
           refine An (by kernel_rfl) ?_
           replace ce:=ce.drew
           refine Ao [] [(l,0),(p,0)] (Bw e r_ g b d f k q a s m o u x) ?_
           refine Dr [0,1,3,4,6,10,11,13] [13,11,10,6,4,3,1,0] ((tI 54 x_v21)::(tS 52 m a.turns.length o)::(tI 47 x_v11)::(tS 45 q a.holds.length s)::(LO e r_ g b d f k y x_v20 z x_v21 x_v11 a)) fb ce fun ok jr=>?_
           obtain⟨x46,ex46,ad⟩:=Aq ad
           obtain⟨x49,ex49,ad⟩:=Aq ad
           obtain⟨x53,ex53,ad⟩:=Aq ad
           obtain⟨x56,ex56,ad⟩:=Aq ad
           obtain⟨x58,ex58,ad⟩:=Aq ad
           obtain⟨x59,ex59,ad⟩:=Aq ad
           have lb:Ah ⟨w,h,Aj⟩ ay [(l,0),(p,0)] (Bw e r_ g b d f k q a s m o u x) [⟨y,x_v20.length,z,50,3,aa,0⟩,⟨none,0,0,3,1,[],0⟩] (World.drew ep):=ce.nilRow 3 1
           have lc:Ah ⟨w,h,Aj⟩ ay [(l,0),(p,0)] (Bw e r_ g b d f k q a s m o u x) [⟨y,x_v20.length,z,50,3,aa,0⟩,⟨none,0,0,3,1,[],0⟩,⟨none,0,0,3,1,[],0⟩] (World.drew ep):=lb.nilRow 3 1
           have ld:Ah ⟨w,h,Aj⟩ ay [(l,0),(p,0)] (Bw e r_ g b d f k q a s m o u x) [⟨y,x_v20.length,z,50,3,aa,0⟩,⟨none,0,0,3,1,[],0⟩,⟨none,0,0,3,1,[],0⟩,⟨none,0,0,3,1,[],0⟩] (World.drew ep):=lc.nilRow 3 1
           have lf:Ah ⟨w,h,Aj⟩ ay [(l,0),(p,0)] (Bw e r_ g b d f k q a s m o u x) [⟨y,x_v20.length,z,50,3,aa,0⟩,⟨none,0,0,3,1,[],0⟩,⟨none,0,0,3,1,[],0⟩,⟨none,0,0,3,1,[],0⟩,⟨none,0,0,3,1,[],0⟩] (World.drew ep):=ld.nilRow 3 1
           refine Cl (UM 92 ⟨w,h,Aj⟩ [(l,0),(p,0)] (Bw e r_ g b d f k q a s m o u x) (Bw e r_ g b d f k q a s m o u x) [] (Oq x_v21) [12,9,8,7,5,2,13,11,10,6,4,3,1,0] (fun mm dr rw=>∃ (ae:Option Addr)(af:Nat)(aw:List Value)(be:Option Addr)(bn:Nat)(bd:List Value)(a4:Option Addr)(a6:Nat)(ax:List Value),mm=((tS 53 a4 x53.length a6)::(tS 49 ae x49.length af)::(tI 54 x_v21)::(LO e r_ g b d f k y x_v20 z x_v21 x_v11 a))∧rw=[⟨y,x_v20.length,z,50,3,aa,0⟩,⟨ae,x49.length,af,3,1,aw,0⟩,⟨be,1,bn,3,1,bd,0⟩,⟨a4,x53.length,a6,3,1,ax,0⟩]∧Ae.le ay dr∧Ag dr x49 aw∧Ag dr ([x_v11]:List Int) bd∧Ag dr x53 ax)) ?_ (fun l9=>?_)
           ·
            refine GK (Kk [(15,[true])] ?_ (fun _ _ _ hm=>hm.plOk) (by kernel_rfl) (by kernel_rfl) ⟨?_,trivial⟩)
            ·
             rintro _ _ _ ⟨ae,af,aw,be,bn,bd,a4,a6,ax,rfl,rfl,_,_,_,_⟩
             exact⟨⟨⟨_,_,_,rfl,rfl,rfl,rfl,rfl,by rfl,by rfl,by rfl,rfl,by kernel_rfl⟩,trivial⟩,by kernel_rfl⟩
            ·
             intro nk nr mg cz n3 n9 m2 ij h1 hf h7 c4 d7
             obtain⟨f9,rfl⟩:=Us ij
             obtain⟨aq,rfl⟩:=Us h1
             obtain rfl:f9=true:=by cases f9 <;> first | rfl | exact(Bool.false_ne_true hf).elim
             obtain⟨ae,af,aw,be,bn,bd,a4,a6,ax,rfl,rfl,da,e2,nx,iz⟩:=h7
             replace c4:=c4.req [true] (by kernel_rfl) hf rfl
             have e3:Ag cz ([x_v21]:List Int) ([.int .i64 x_v21]:List Value):=⟨_,_,rfl,(Ac:rep cz (x_v21:Int) _),rfl⟩
             replace c4:Kn 92 [(l,0),(p,0)] ([tS 53 a4 x53.length a6,tS 49 ae x49.length af,tI 54 x_v21,tA 42 (Cu e r_ g b d f k),tS 41 y x_v20.length z,tI 8 x_v21,tI 7 x_v11,tI 6 ((a.holds.length:Nat):Int),tP 3 1 0,tP 2 0 0,tS 55 aq 1 1]++EK (Oq x_v21) [true] [aq]) mg:=c4
             replace d7:Ah ⟨w,h,Aj⟩ cz [(l,0),(p,0)] (Bw e r_ g b d f k q a s m o u x) [⟨y,x_v20.length,z,50,3,aa,0⟩,⟨ae,x49.length,af,3,1,aw,0⟩,⟨be,1,bn,3,1,bd,0⟩,⟨a4,x53.length,a6,3,1,ax,0⟩,⟨aq,1,1,3,1,([.int .i64 x_v21]:List Value),0⟩] m2:=d7
             refine⟨_,rfl,rfl,fun K hK=>?_⟩
             obtain⟨fq,ky⟩:=A8 ex56
             refine A3 3 8 1 _ (x56.length) _ ([.int .i64 x_v21]:List Value) c4 d7 rfl rfl (by decide) rfl (by rfl) (by kernel_rfl) (by rfl) (by rfl) (Ag.len e3) (d7.rowCell (i:=4) rfl) e3.one (by rw [fq]; simp) (by rw [fq]; exact ky) (by decide) fun an ao gj mh f6 jd (js:Kn 92 [(l,0),(p,0)] ([tS 56 an x56.length ao,tS 53 a4 x53.length a6,tS 49 ae x49.length af,tI 54 x_v21,tA 42 (Cu e r_ g b d f k),tS 41 y x_v20.length z,tI 8 x_v21,tI 7 x_v11,tI 6 ((a.holds.length:Nat):Int),tP 3 1 0,tP 2 0 0,tS 55 aq 1 1]++EK (Oq x_v21) [true] [aq]) mh) (d8:Ah ⟨w,h,Aj⟩ cz [(l,0),(p,0)] (Bw e r_ g b d f k q a s m o u x) [⟨y,x_v20.length,z,50,3,aa,0⟩,⟨ae,x49.length,af,3,1,aw,0⟩,⟨be,1,bn,3,1,bd,0⟩,⟨an,x56.length,ao,3,1,ax++([.int .i64 x_v21]:List Value),gj⟩,⟨aq,1,1,3,1,([.int .i64 x_v21]:List Value),0⟩] f6)=>?_
             have e4:Ag cz x56 (ax++([.int .i64 x_v21]:List Value)):=by rw [fq]; exact Ag.append iz e3
             obtain rfl:gj=0:=Nat.le_zero.1 jd
             refine hK _ _ d8.plOk ?_
             refine TG [16] (16::15::(RT (Oq x_v21) [true]++[12,9,8,7,5,2,13,11,10,6,4,3,1,0])) ([tA 57 [.slice ae x49.length af,.slice an x56.length ao,.slice none 0 0],tS 56 an x56.length ao,tS 53 a4 x53.length a6,tS 49 ae x49.length af,tI 54 x_v21,tA 42 (Cu e r_ g b d f k),tS 41 y x_v20.length z,tI 8 x_v21,tI 7 x_v11,tI 6 ((a.holds.length:Nat):Int),tP 3 1 0,tP 2 0 0,tS 55 aq 1 1]++EK (Oq x_v21) [true] [aq]) (fun _ _ _ _ _ h=>h) js d8.plOk (by kernel_rfl) (by rfl) (by kernel_rfl) fun hw (jt:Kn 92 [(l,0),(p,0)] ([tA 57 [.slice ae x49.length af,.slice an x56.length ao,.slice none 0 0],tS 56 an x56.length ao,tS 53 a4 x53.length a6,tS 49 ae x49.length af,tI 54 x_v21,tA 42 (Cu e r_ g b d f k),tS 41 y x_v20.length z,tI 8 x_v21,tI 7 x_v11,tI 6 ((a.holds.length:Nat):Int),tP 3 1 0,tP 2 0 0,tS 55 aq 1 1]++EK (Oq x_v21) [true] [aq]) hw)=>?_
             have ju:Kn 92 [(l,0),(p,0)] ((tA 57 [.slice ae x49.length af,.slice an x56.length ao,.slice none 0 0])::(LO e r_ g b d f k y x_v20 z x_v21 x_v11 a)) hw:=jt.kp
             refine Dl 17 fun K hK=>?_
             obtain⟨gr,b7,lw,d9⟩:=d8.settle (i:=1) rfl
             replace e2:=e2.mono b7
             replace d9:Ah ⟨w,h,Aj⟩ gr [(l,0),(p,0)] (Bw e r_ g b d f k q a s m o u x) [⟨y,x_v20.length,z,50,3,aa,0⟩,⟨ae,x49.length,af,3,1,aw,(aw:List Value).length⟩,⟨be,1,bn,3,1,bd,0⟩,⟨an,x56.length,ao,3,1,ax++([.int .i64 x_v21]:List Value),0⟩,⟨aq,1,1,3,1,([.int .i64 x_v21]:List Value),0⟩] f6:=d9
             have fp:A6 gr ae af x49:=⟨_,e2,lw,d8.rowCap (i:=1) rfl⟩
             obtain⟨ds,b8,lx,ea⟩:=d9.settle (i:=3) rfl
             replace ai:=ai.mono (XU (XU da b7) b8)
             replace ag:=ag.mono (XU (XU da b7) b8)
             replace aj:=aj.mono (XU (XU da b7) b8)
             replace fp:=fp.mono b8
             replace e4:=e4.mono (XU b7 b8)
             replace ea:Ah ⟨w,h,Aj⟩ ds [(l,0),(p,0)] (Bw e r_ g b d f k q a s m o u x) [⟨y,x_v20.length,z,50,3,aa,0⟩,⟨ae,x49.length,af,3,1,aw,(aw:List Value).length⟩,⟨be,1,bn,3,1,bd,0⟩,⟨an,x56.length,ao,3,1,ax++([.int .i64 x_v21]:List Value),((ax++([.int .i64 x_v21]:List Value)):List Value).length⟩,⟨aq,1,1,3,1,([.int .i64 x_v21]:List Value),0⟩] f6:=ea
             have ln:A6 ds an ao x56:=⟨_,e4,lx,d9.rowCap (i:=3) rfl⟩
             refine wc [.agg (Cu e r_ g b d f k),.agg [.slice ae x49.length af,.slice an x56.length ao,.slice none 0 0]] ju ea (ih cg (by omega) _ _ ea.has r_ _ ((Ab (Ad ai) (Ab (Ab Ac Ac) (Ab (Ad ag) (Ab (Ad aj) (Ab Ac (Ab Ac (Ab Ac Ac))))))):rep ds r_ _) (Am.mk x49 x56 ([]:List Bool)) _ ((Ab (Ad fp) (Ab (Ad ln) (Ad A6.nil))):rep ds (Am.mk x49 x56 ([]:List Bool)) _) _ ex58) fun o9 gs pc ie g4 fg=>?_
             replace a8:=a8.mono (XU (XU (XU da b7) b8) g4)
             obtain⟨er,et,rfl,lp⟩:=ie
             refine⟨.one (.c (.slice er x58.length et)),rfl,fun mj (jv:Kn 92 [(l,0),(p,0)] ((tS 58 er x58.length et)::(tA 57 [.slice ae x49.length af,.slice an x56.length ao,.slice none 0 0])::(LO e r_ g b d f k y x_v20 z x_v21 x_v11 a)) mj)=>hK _ _ fg.plOk ?_⟩
             refine Dl 18 fun K hK=>?_
             obtain⟨em,d2,l2,_⟩:=id lp
             obtain⟨fs,kz⟩:=A8 ex59
             refine A3 0 72 x58.length _ (x59.length) _ em jv fg rfl rfl (by decide) rfl (by rfl) (by kernel_rfl) (by rfl) (by rfl) (Ag.len d2) (l2.cell fg.has d2.one) d2.one (by rw [fs]; simp) (by rw [fs]; exact kz) (by decide) fun ci cw gk ml m4 je (jx:Kn 92 [(l,0),(p,0)] ((tS 59 ci x59.length cw)::(tS 58 er x58.length et)::(tA 57 [.slice ae x49.length af,.slice an x56.length ao,.slice none 0 0])::(LO e r_ g b d f k y x_v20 z x_v21 x_v11 a)) ml) (eb:Ah ⟨w,h,Aj⟩ gs [(l,0),(p,0)] (Bw e r_ g b d f k q a s m o u x) [⟨ci,x59.length,cw,50,3,aa++em,gk⟩,⟨ae,x49.length,af,3,1,aw,(aw:List Value).length⟩,⟨be,1,bn,3,1,bd,0⟩,⟨an,x56.length,ao,3,1,ax++([.int .i64 x_v21]:List Value),((ax++([.int .i64 x_v21]:List Value)):List Value).length⟩,⟨aq,1,1,3,1,([.int .i64 x_v21]:List Value),0⟩] m4)=>?_
             have i0:Ag gs x59 (aa++em):=by rw [fs]; exact Ag.append a8 d2
             obtain rfl:gk=0:=Nat.le_zero.1 je
             refine hK _ _ eb.plOk ?_
             refine Dr [19] [19,18,17,16,15,14,12,9,8,7,5,2,13,11,10,6,4,3,1,0] [tS 5 ci x59.length cw,tI 8 x_v21,tI 7 x_v11,tI 6 ((a.holds.length:Nat):Int),tP 3 1 0,tP 2 0 0] jx eb fun ol jy=>?_
             refine Ay (by kernel_rfl) (Aa (Rk 0 3 [tI 8 (IntKind.i64.wrap (x_v21+1)),tS 5 ci x59.length cw,tI 7 x_v11,tI 6 ((a.holds.length:Nat):Int),tP 3 1 0,tP 2 0 0] jy eb fun om jz=>?_))
             refine wf ?_
             exact XY cg ⟨Nat.lt_succ_self _,XY x59 ⟨IntKind.i64.wrap (x_v21+1),ci,cw,aa++em,_,_,rfl,jz.kp,eb.cutRw 1,XU bb (XU a3 (XU ba (XU da (XU b7 (XU b8 g4))))),i0,(by omega),ad⟩⟩
           refine Cl (UM 92 ⟨w,h,Aj⟩ [(l,0),(p,0)] (Bw e r_ g b d f k q a s m o u x) (Bw e r_ g b d f k q a s m o u x) [] (S8 x_v21) [8,7,5,2,13,11,10,6,4,3,1,0] (fun mm ev rw=>∃ (a1:Option Addr)(a2:Nat)(bu:List Value)(bx:Option Addr)(b3:Nat)(bv:List Value),mm=((tS 49 a1 x49.length a2)::(tI 54 x_v21)::(tS 52 m a.turns.length o)::(LO e r_ g b d f k y x_v20 z x_v21 x_v11 a))∧rw=[⟨y,x_v20.length,z,50,3,aa,0⟩,⟨a1,x49.length,a2,3,1,bu,0⟩,⟨bx,1,b3,3,1,bv,0⟩]∧Ae.le ay ev∧Ag ev x49 bu∧Ag ev ([x_v11]:List Int) bv)) ?_ (fun ma=>?_)
           ·
            refine GK (Kk [(12,[true,false])] ?_ (fun _ _ _ hm=>hm.plOk) (by kernel_rfl) (by kernel_rfl) ⟨?_,trivial⟩)
            ·
             rintro _ _ _ ⟨a1,a2,bu,bx,b3,bv,rfl,rfl,_,_,_⟩
             exact⟨⟨⟨_,_,_,rfl,rfl,rfl,rfl,rfl,by rfl,by rfl,by rfl,rfl,by kernel_rfl⟩,⟨⟨_,_,_,rfl,rfl,rfl,rfl,rfl,by rfl,by rfl,by rfl,rfl,by kernel_rfl⟩,trivial⟩⟩,by kernel_rfl⟩
            ·
             intro nl ns mn dt n4 oa m5 ik h2 hg h8 c5 ec
             obtain⟨ga,bg,rfl⟩:=Ut ik
             obtain⟨cl,cm,rfl⟩:=Ut h2
             obtain rfl:ga=true:=by cases ga <;> first | rfl | exact(Bool.false_ne_true hg).elim
             obtain⟨a1,a2,bu,bx,b3,bv,rfl,rfl,g5,ix,iy⟩:=h8
             replace am:=am.mono g5
             replace c5:=c5.req [true,false] (by kernel_rfl) hg rfl
             have i1:Ag dt ([]:List Int) ([]:List Value):=Ag.nil
             replace c5:Kn 92 [(l,0),(p,0)] ([tS 49 a1 x49.length a2,tI 54 x_v21,tS 52 m a.turns.length o,tA 42 (Cu e r_ g b d f k),tS 41 y x_v20.length z,tI 8 x_v21,tI 7 x_v11,tI 6 ((a.holds.length:Nat):Int),tP 3 1 0,tP 2 0 0,tS 50 cl 0 0]++EK (S8 x_v21) [true,bg] [cl,cm]) mn:=c5
             replace ec:Ah ⟨w,h,Aj⟩ dt [(l,0),(p,0)] (Bw e r_ g b d f k q a s m o u x) [⟨y,x_v20.length,z,50,3,aa,0⟩,⟨a1,x49.length,a2,3,1,bu,0⟩,⟨bx,1,b3,3,1,bv,0⟩,⟨cl,0,0,3,1,([]:List Value),0⟩,QZ [(l,0),(p,0)] ⟨14,55,3,1,1,[.int .i64 x_v21]⟩ bg cm] m5:=ec
             refine⟨_,rfl,rfl,fun K hK=>?_⟩
             obtain⟨dc,d3,l3,_⟩:=id am
             obtain⟨ft,k0⟩:=A8 ex53
             refine A3 3 8 a.turns.length _ (x53.length) _ dc c5 ec rfl rfl (by decide) rfl (by rfl) (by kernel_rfl) (by rfl) (by rfl) (Ag.len d3) (l3.cell ec.has d3.one) d3.one (by rw [ft]; simp) (by rw [ft]; exact k0) (by decide) fun di dm gl mp m6 jf (j1:Kn 92 [(l,0),(p,0)] ([tS 53 di x53.length dm,tS 49 a1 x49.length a2,tI 54 x_v21,tS 52 m a.turns.length o,tA 42 (Cu e r_ g b d f k),tS 41 y x_v20.length z,tI 8 x_v21,tI 7 x_v11,tI 6 ((a.holds.length:Nat):Int),tP 3 1 0,tP 2 0 0,tS 50 cl 0 0]++EK (S8 x_v21) [true,bg] [cl,cm]) mp) (ha:Ah ⟨w,h,Aj⟩ dt [(l,0),(p,0)] (Bw e r_ g b d f k q a s m o u x) [⟨y,x_v20.length,z,50,3,aa,0⟩,⟨a1,x49.length,a2,3,1,bu,0⟩,⟨bx,1,b3,3,1,bv,0⟩,⟨di,x53.length,dm,3,1,([]:List Value)++dc,gl⟩,QZ [(l,0),(p,0)] ⟨14,55,3,1,1,[.int .i64 x_v21]⟩ bg cm] m6)=>?_
             have i2:Ag dt x53 (([]:List Value)++dc):=by rw [ft]; exact Ag.append i1 d3
             obtain rfl:gl=0:=Nat.le_zero.1 jf
             refine hK _ _ ha.plOk ?_
             refine Bq (RT (Oq x_v21) [bg]++[12,9,8,7,5,2,13,11,10,6,4,3,1,0]) (by cases bg <;> kernel_rfl) (by cases bg <;> rfl) (l9 [bg] _ _ ⟨[cm],_,_,_,[⟨y,x_v20.length,z,50,3,aa,0⟩,⟨a1,x49.length,a2,3,1,bu,0⟩,⟨bx,1,b3,3,1,bv,0⟩,⟨di,x53.length,dm,3,1,([]:List Value)++dc,0⟩],rfl,rfl,rfl,⟨a1,a2,bu,bx,b3,bv,di,dm,([]:List Value)++dc,rfl,rfl,g5,ix,iy,i2⟩,j1.next [false,true] _ (by kernel_rfl) (by rfl) (by kernel_rfl),ha.pickRows [0,1,2,3,4] (by kernel_rfl) (by kernel_rfl)⟩)
           refine Cl (UM 92 ⟨w,h,Aj⟩ [(l,0),(p,0)] (Bw e r_ g b d f k q a s m o u x) (Bw e r_ g b d f k q a s m o u x) [] (S9 x_v11 x_v21) [5,2,13,11,10,6,4,3,1,0] (fun mm gu rw=>∃ (bw:Option Addr)(b2:Nat)(bc:List Value),mm=((tS 46 bw x46.length b2)::(tI 54 x_v21)::(tS 52 m a.turns.length o)::(tI 47 x_v11)::(LO e r_ g b d f k y x_v20 z x_v21 x_v11 a))∧rw=[⟨y,x_v20.length,z,50,3,aa,0⟩,⟨bw,x46.length,b2,3,1,bc,0⟩]∧Ae.le ay gu∧Ag gu x46 bc)) ?_ (fun mb=>?_)
           ·
            refine GK (Kk [(8,[true,false,false])] ?_ (fun _ _ _ hm=>hm.plOk) (by kernel_rfl) (by kernel_rfl) ⟨?_,trivial⟩)
            ·
             rintro _ _ _ ⟨bw,b2,bc,rfl,rfl,_,_⟩
             exact⟨⟨⟨_,_,_,rfl,rfl,rfl,rfl,rfl,by rfl,by rfl,by rfl,rfl,by kernel_rfl⟩,⟨⟨_,_,_,rfl,rfl,rfl,rfl,rfl,by rfl,by rfl,by rfl,rfl,by kernel_rfl⟩,⟨⟨_,_,_,rfl,rfl,rfl,rfl,rfl,by rfl,by rfl,by rfl,rfl,by kernel_rfl⟩,trivial⟩⟩⟩,by kernel_rfl⟩
            ·
             intro nm nt mq c0 n5 ob m7 il h3 hl h9 c6 ed
             obtain⟨gb,bh,bi,rfl⟩:=UZ il
             obtain⟨bf,cn,co,rfl⟩:=UZ h3
             obtain rfl:gb=true:=by cases gb <;> first | rfl | exact(Bool.false_ne_true hl).elim
             obtain⟨bw,b2,bc,rfl,rfl,k6,iw⟩:=h9
             replace c6:=c6.req [true,false,false] (by kernel_rfl) hl rfl
             have d0:Ag c0 ([x_v11]:List Int) ([.int .i64 x_v11]:List Value):=⟨_,_,rfl,(Ac:rep c0 (x_v11:Int) _),rfl⟩
             replace c6:Kn 92 [(l,0),(p,0)] ([tS 46 bw x46.length b2,tI 54 x_v21,tS 52 m a.turns.length o,tI 47 x_v11,tA 42 (Cu e r_ g b d f k),tS 41 y x_v20.length z,tI 8 x_v21,tI 7 x_v11,tI 6 ((a.holds.length:Nat):Int),tP 3 1 0,tP 2 0 0,tS 48 bf 1 1]++EK (S9 x_v11 x_v21) [true,bh,bi] [bf,cn,co]) mq:=c6
             replace ed:Ah ⟨w,h,Aj⟩ c0 [(l,0),(p,0)] (Bw e r_ g b d f k q a s m o u x) [⟨y,x_v20.length,z,50,3,aa,0⟩,⟨bw,x46.length,b2,3,1,bc,0⟩,⟨bf,1,1,3,1,([.int .i64 x_v11]:List Value),0⟩,QZ [(l,0),(p,0)] ⟨9,50,3,1,0,[]⟩ bh cn,QZ [(l,0),(p,0)] ⟨14,55,3,1,1,[.int .i64 x_v21]⟩ bi co] m7:=ed
             refine⟨_,rfl,rfl,fun K hK=>?_⟩
             obtain⟨fu,k1⟩:=A8 ex49
             refine A3 1 8 1 _ (x49.length) _ ([.int .i64 x_v11]:List Value) c6 ed rfl rfl (by decide) rfl (by rfl) (by kernel_rfl) (by rfl) (by rfl) (Ag.len d0) (ed.rowCell (i:=2) rfl) d0.one (by rw [fu]; simp) (by rw [fu]; exact k1) (by decide) fun dj dn gm mr m8 jg (j3:Kn 92 [(l,0),(p,0)] ([tS 49 dj x49.length dn,tS 46 bw x46.length b2,tI 54 x_v21,tS 52 m a.turns.length o,tI 47 x_v11,tA 42 (Cu e r_ g b d f k),tS 41 y x_v20.length z,tI 8 x_v21,tI 7 x_v11,tI 6 ((a.holds.length:Nat):Int),tP 3 1 0,tP 2 0 0,tS 48 bf 1 1]++EK (S9 x_v11 x_v21) [true,bh,bi] [bf,cn,co]) mr) (hb:Ah ⟨w,h,Aj⟩ c0 [(l,0),(p,0)] (Bw e r_ g b d f k q a s m o u x) [⟨y,x_v20.length,z,50,3,aa,0⟩,⟨dj,x49.length,dn,3,1,bc++([.int .i64 x_v11]:List Value),gm⟩,⟨bf,1,1,3,1,([.int .i64 x_v11]:List Value),0⟩,QZ [(l,0),(p,0)] ⟨9,50,3,1,0,[]⟩ bh cn,QZ [(l,0),(p,0)] ⟨14,55,3,1,1,[.int .i64 x_v21]⟩ bi co] m8)=>?_
             have i3:Ag c0 x49 (bc++([.int .i64 x_v11]:List Value)):=by rw [fu]; exact Ag.append iw d0
             obtain rfl:gm=0:=Nat.le_zero.1 jg
             refine hK _ _ hb.plOk ?_
             refine Bq (RT (S8 x_v21) [bh,bi]++[8,7,5,2,13,11,10,6,4,3,1,0]) (by cases bh <;> cases bi <;> kernel_rfl) (by cases bh <;> cases bi <;> rfl) (ma [bh,bi] _ _ ⟨[cn,co],_,_,_,[⟨y,x_v20.length,z,50,3,aa,0⟩,⟨dj,x49.length,dn,3,1,bc++([.int .i64 x_v11]:List Value),0⟩,⟨bf,1,1,3,1,([.int .i64 x_v11]:List Value),0⟩],rfl,rfl,rfl,⟨dj,dn,bc++([.int .i64 x_v11]:List Value),bf,1,([.int .i64 x_v11]:List Value),rfl,rfl,k6,i3,d0⟩,j3.next [false,true,true] _ (by kernel_rfl) (by rfl) (by kernel_rfl),hb.pickRows [0,1,2,3,4] (by kernel_rfl) (by kernel_rfl)⟩)
           refine Cl (UM 92 ⟨w,h,Aj⟩ [(l,0),(p,0)] (Bw e r_ g b d f k q a s m o u x) (Bw e r_ g b d f k q a s m o u x) [] (TO x_v11 x_v21) [13,11,10,6,4,3,1,0] (fun mm iq rw=>mm=((tI 54 x_v21)::(tS 52 m a.turns.length o)::(tI 47 x_v11)::(tS 45 q a.holds.length s)::(LO e r_ g b d f k y x_v20 z x_v21 x_v11 a))∧rw=[⟨y,x_v20.length,z,50,3,aa,0⟩]∧Ae.le ay iq)) ?_ (fun mc=>?_)
           ·
            refine GK (Kk [(5,[true,false,false,false])] ?_ (fun _ _ _ hm=>hm.plOk) (by kernel_rfl) (by kernel_rfl) ⟨?_,trivial⟩)
            ·
             rintro _ _ _ ⟨rfl,rfl,_⟩
             exact⟨⟨⟨_,_,_,rfl,rfl,rfl,rfl,rfl,by rfl,by rfl,by rfl,rfl,by kernel_rfl⟩,⟨⟨_,_,_,rfl,rfl,rfl,rfl,rfl,by rfl,by rfl,by rfl,rfl,by kernel_rfl⟩,⟨⟨_,_,_,rfl,rfl,rfl,rfl,rfl,by rfl,by rfl,by rfl,rfl,by kernel_rfl⟩,⟨⟨_,_,_,rfl,rfl,rfl,rfl,rfl,by rfl,by rfl,by rfl,rfl,by kernel_rfl⟩,trivial⟩⟩⟩⟩,by kernel_rfl⟩
            ·
             intro nn nu ms du n6 oc m9 im h4 hn ia c7 ee
             obtain⟨gc,bj,bk,bl,rfl⟩:=Va im
             obtain⟨cp,cq,cr,ct,rfl⟩:=Va h4
             obtain rfl:gc=true:=by cases gc <;> first | rfl | exact(Bool.false_ne_true hn).elim
             obtain⟨rfl,rfl,g6⟩:=ia
             replace al:=al.mono g6
             replace c7:=c7.req [true,false,false,false] (by kernel_rfl) hn rfl
             have i4:Ag du ([]:List Int) ([]:List Value):=Ag.nil
             replace c7:Kn 92 [(l,0),(p,0)] ([tI 54 x_v21,tS 52 m a.turns.length o,tI 47 x_v11,tS 45 q a.holds.length s,tA 42 (Cu e r_ g b d f k),tS 41 y x_v20.length z,tI 8 x_v21,tI 7 x_v11,tI 6 ((a.holds.length:Nat):Int),tP 3 1 0,tP 2 0 0,tS 43 cp 0 0]++EK (TO x_v11 x_v21) [true,bj,bk,bl] [cp,cq,cr,ct]) ms:=c7
             replace ee:Ah ⟨w,h,Aj⟩ du [(l,0),(p,0)] (Bw e r_ g b d f k q a s m o u x) [⟨y,x_v20.length,z,50,3,aa,0⟩,⟨cp,0,0,3,1,([]:List Value),0⟩,QZ [(l,0),(p,0)] ⟨7,48,3,1,1,[.int .i64 x_v11]⟩ bj cq,QZ [(l,0),(p,0)] ⟨9,50,3,1,0,[]⟩ bk cr,QZ [(l,0),(p,0)] ⟨14,55,3,1,1,[.int .i64 x_v21]⟩ bl ct] m9:=ee
             refine⟨_,rfl,rfl,fun K hK=>?_⟩
             obtain⟨dd,d4,l4,_⟩:=id al
             obtain⟨fv,k2⟩:=A8 ex46
             refine A3 1 8 a.holds.length _ (x46.length) _ dd c7 ee rfl rfl (by decide) rfl (by rfl) (by kernel_rfl) (by rfl) (by rfl) (Ag.len d4) (l4.cell ee.has d4.one) d4.one (by rw [fv]; simp) (by rw [fv]; exact k2) (by decide) fun dk dp gn mt na jh (j6:Kn 92 [(l,0),(p,0)] ([tS 46 dk x46.length dp,tI 54 x_v21,tS 52 m a.turns.length o,tI 47 x_v11,tS 45 q a.holds.length s,tA 42 (Cu e r_ g b d f k),tS 41 y x_v20.length z,tI 8 x_v21,tI 7 x_v11,tI 6 ((a.holds.length:Nat):Int),tP 3 1 0,tP 2 0 0,tS 43 cp 0 0]++EK (TO x_v11 x_v21) [true,bj,bk,bl] [cp,cq,cr,ct]) mt) (hc:Ah ⟨w,h,Aj⟩ du [(l,0),(p,0)] (Bw e r_ g b d f k q a s m o u x) [⟨y,x_v20.length,z,50,3,aa,0⟩,⟨dk,x46.length,dp,3,1,([]:List Value)++dd,gn⟩,QZ [(l,0),(p,0)] ⟨7,48,3,1,1,[.int .i64 x_v11]⟩ bj cq,QZ [(l,0),(p,0)] ⟨9,50,3,1,0,[]⟩ bk cr,QZ [(l,0),(p,0)] ⟨14,55,3,1,1,[.int .i64 x_v21]⟩ bl ct] na)=>?_
             have i5:Ag du x46 (([]:List Value)++dd):=by rw [fv]; exact Ag.append i4 d4
             obtain rfl:gn=0:=Nat.le_zero.1 jh
             refine hK _ _ hc.plOk ?_
             refine Bq (RT (S9 x_v11 x_v21) [bj,bk,bl]++[5,2,13,11,10,6,4,3,1,0]) (by cases bj <;> cases bk <;> cases bl <;> kernel_rfl) (by cases bj <;> cases bk <;> cases bl <;> rfl) (mb [bj,bk,bl] _ _ ⟨[cq,cr,ct],_,_,_,[⟨y,x_v20.length,z,50,3,aa,0⟩,⟨dk,x46.length,dp,3,1,([]:List Value)++dd,0⟩],rfl,rfl,rfl,⟨dk,dp,([]:List Value)++dd,rfl,rfl,g6,i5⟩,j6.next [false,true,true,true] _ (by kernel_rfl) (by rfl) (by kernel_rfl),hc.pickRows [0,1,2,3,4] (by kernel_rfl) (by kernel_rfl)⟩)
           exact mc [false,false,false,false] _ _ ⟨[none,none,none,none],_,_,((tI 54 x_v21)::(tS 52 m a.turns.length o)::(tI 47 x_v11)::(tS 45 q a.holds.length s)::(LO e r_ g b d f k y x_v20 z x_v21 x_v11 a)),[⟨y,x_v20.length,z,50,3,aa,0⟩],rfl,rfl,rfl,⟨rfl,rfl,Ae.le_refl _⟩,jr.kp,lf⟩
          ·
           rw [ex,XV] at ad
           refine wp_skip (Aa (Rk 0 3 [tI 8 (IntKind.i64.wrap (x_v21+1)),tI 7 x_v11,tI 6 ((a.holds.length:Nat):Int),tS 5 y x_v20.length z,tP 3 1 0,tP 2 0 0] fb ce fun ot j7=>?_))
           refine wf ?_
           exact XY cg ⟨Nat.lt_succ_self _,XY x_v20 ⟨IntKind.i64.wrap (x_v21+1),y,z,aa,_,_,rfl,j7.kp,ce,XU bb (XU a3 ba),a8,(by omega),ad⟩⟩
        ·
         rw [ew,XV] at ad
         refine wp_exit ?_
         obtain rfl:=XZ ad
         exact XY y ⟨z,aa,_,_,rfl,fa.kp,ca,XU bb a3,a8⟩
      ·
       rintro _ pd ⟨ck,cy,eo,f4,dz,rfl,j8,hd,k7,jc⟩
       refine Aa (Rk 0 3 [tI 7 (IntKind.i64.wrap (x_v11+1)),tI 6 ((a.holds.length:Nat):Int),tS 5 ck ch.length cy,tP 3 1 0,tP 2 0 0] j8 hd fun ou j9=>?_)
       refine wf ?_
       exact XY db ⟨Nat.lt_succ_self _,XY ch ⟨IntKind.i64.wrap (x_v11+1),ck,cy,eo,_,_,rfl,j9.kp,hd,XU br k7,jc,(by omega),a9⟩⟩
     ·
      rw [e1,XV] at a9
      refine wp_exit ?_
      obtain rfl:=XZ a9
      exact XY b0 ⟨b5,df,_,_,rfl,ff.kp,ek,br,g1⟩
   ·
    rintro _ nb ⟨b1,b6,dg,f2,dy,rfl,ka,fh,ny,e8⟩
    refine XT (Aa (Rk 0 2 [tS 4 b1 bt.length b6] ka fh fun ov kb=>?_))
    refine wf (wp_ret ?_)
    obtain⟨gv,k8,ly,fi⟩:=fh.settle (i:=0) rfl
    replace e8:=e8.mono k8
    replace fi:Ah ⟨w,h,Aj⟩ gv [(l,0),(p,0)] (Bw e r_ g b d f k q a s m o u x) [⟨b1,bt.length,b6,50,3,dg,(dg:List Value).length⟩] nb:=fi
    have lq:A6 gv b1 b6 bt:=⟨_,e8,ly,fh.rowCap (i:=0) rfl⟩
    obtain rfl:=XZ H
    exact rt (.one (.c (.slice b1 bt.length b6))) kb fi ⟨_,_,rfl,lq⟩
  ·
   rw [ey,XV] at H
   refine wp_skip (XT (XT (Aa (Rk 0 7 [tB 67 (decide (((a.spares.length:Nat):Int)<((r_.spares.length:Nat):Int))),tS 5 none 0 0,tP 3 1 0,tP 2 0 0] fc az fun ow fd=>?_))))
   refine wf (wC (decide (((a.spares.length:Nat):Int)<((r_.spares.length:Nat):Int))) fd (fun ez=>?_) (fun ez=>?_))
   ·
    rw [ez,XW] at H
    refine XT (XT (Aa (Rk 0 1 [tI 9 0,tS 5 none 0 0,tP 3 1 0,tP 2 0 0] fd az fun ox kc=>?_)))
    refine wf ?_
    have lh:Ah ⟨w,h,Aj⟩ h [(l,0),(p,0)] (Bw e r_ g b d f k q a s m o u x) [⟨none,0,0,50,3,[],0⟩] f7:=az.nilRow 50 3
    have i6:Ag h ([]:List Am) []:=Ag.nil
    obtain⟨bs,gg,H⟩:=Aq H
    refine Av (fun a' w'=>∃ (bz:Option Addr)(b4:Nat)(de:List Value)(f0:Array Value)(dv:Ae),a' = ⟨f0,[]⟩∧Kn 92 [(l,0),(p,0)] [tS 5 bz bs.length b4] f0∧Ah ⟨w,h,Aj⟩ dv [(l,0),(p,0)] (Bw e r_ g b d f k q a s m o u x) [⟨bz,bs.length,b4,50,3,de,0⟩] w'∧Ae.le h dv∧Ag dv bs de) ?_ ?_
    ·
     refine wp_block ?_
     refine Ar (fun hq a' w'=>∃ (x_v30:List Am)(x_v31:Int)(ab:Option Addr)(ac:Nat)(ah:List Value)(f1:Array Value)(bo:Ae),a' = ⟨f1,[]⟩∧Kn 92 [(l,0),(p,0)] [tI 9 x_v31,tS 5 ab x_v30.length ac,tP 3 1 0,tP 2 0 0] f1∧Ah ⟨w,h,Aj⟩ bo [(l,0),(p,0)] (Bw e r_ g b d f k q a s m o u x) [⟨ab,x_v30.length,ac,50,3,ah,0⟩] w'∧Ae.le h bo∧Ag bo x_v30 ah∧hq≤n∧Dm hq r_ a x_v30 x_v31=some bs) n ?_ ?_
     ·
      exact XY ([]:List Am) ⟨0,none,0,[],_,_,rfl,kc.kp,lh,Ae.le_refl _,i6,Nat.le_refl _,gg⟩
     ·
      rintro el _ hy ⟨x_v30,x_v31,ab,ac,ah,f1,bo,rfl,ke,cf,bp,d1,n0,ak⟩
      clear gg
      obtain _ | el:=el
      ·
       rw [Dm] at ak; cases ak
      rw [Dm] at ak
      replace ai:=ai.mono bp
      replace ag:=ag.mono bp
      replace aj:=aj.mono bp
      replace al:=al.mono bp
      replace am:=am.mono bp
      replace av:=av.mono bp
      refine XT (XT (Aa (Rk 0 2 [tB 69 (decide (x_v31<2)),tI 9 x_v31,tS 5 ab x_v30.length ac,tP 3 1 0,tP 2 0 0] ke cf fun oz fe=>?_)))
      refine wf (wC (decide (x_v31<2)) fe (fun e0=>?_) (fun e0=>?_))
      ·
       rw [e0,XW] at ak
       refine wp_skip (XT (wp_block (An (by kernel_rfl) ?_)))
       replace cf:=cf.drew
       refine Ao [] [(l,0),(p,0)] (Bw e r_ g b d f k q a s m o u x) ?_
       refine Dr [0,1,2,3,4,5,7,8,10,11] [11,10,8,7,5,4,3,2,1,0] [tB 83 (x_v31 == 1),tS 80 u a.spares.length x,tS 77 m a.turns.length o,tS 75 q a.holds.length s,tA 73 (Cu e r_ g b d f k),tS 72 ab x_v30.length ac,tI 9 x_v31,tP 3 1 0,tP 2 0 0] fe cf fun o0 kf=>?_
       obtain⟨x81,ex81,ak⟩:=Aq ak
       obtain⟨x85,ex85,ak⟩:=Aq ak
       obtain⟨x87,ex87,ak⟩:=Aq ak
       obtain⟨x88,ex88,ak⟩:=Aq ak
       have lj:Ah ⟨w,h,Aj⟩ bo [(l,0),(p,0)] (Bw e r_ g b d f k q a s m o u x) [⟨ab,x_v30.length,ac,50,3,ah,0⟩,⟨none,0,0,4,1,[],0⟩] (World.drew hy):=cf.nilRow 4 1
       have lk:Ah ⟨w,h,Aj⟩ bo [(l,0),(p,0)] (Bw e r_ g b d f k q a s m o u x) [⟨ab,x_v30.length,ac,50,3,ah,0⟩,⟨none,0,0,4,1,[],0⟩,⟨none,0,0,4,1,[],0⟩] (World.drew hy):=lj.nilRow 4 1
       refine Cl (UM 92 ⟨w,h,Aj⟩ [(l,0),(p,0)] (Bw e r_ g b d f k q a s m o u x) (Bw e r_ g b d f k q a s m o u x) [] (Ot x_v31) [9,6,11,10,8,7,5,4,3,2,1,0] (fun mm gw rw=>∃ (a5:Option Addr)(a7:Nat)(a0:List Value),mm=[tS 81 a5 x81.length a7,tB 83 (x_v31 == 1),tS 77 m a.turns.length o,tS 75 q a.holds.length s,tA 73 (Cu e r_ g b d f k),tS 72 ab x_v30.length ac,tI 9 x_v31,tP 3 1 0,tP 2 0 0]∧rw=[⟨ab,x_v30.length,ac,50,3,ah,0⟩,⟨a5,x81.length,a7,4,1,a0,0⟩]∧Ae.le bo gw∧Ag gw x81 a0)) ?_ (fun md=>?_)
       ·
        refine GK (Kk [(13,[true])] ?_ (fun _ _ _ hm=>hm.plOk) (by kernel_rfl) (by kernel_rfl) ⟨?_,trivial⟩)
        ·
         rintro _ _ _ ⟨a5,a7,a0,rfl,rfl,_,_⟩
         exact⟨⟨⟨_,_,_,rfl,rfl,rfl,rfl,rfl,by rfl,by rfl,by rfl,rfl,by kernel_rfl⟩,trivial⟩,by kernel_rfl⟩
        ·
         intro np nv mu c1 n7 od nc io h5 ho ib c8 ef
         obtain⟨gd,rfl⟩:=Us io
         obtain⟨au,rfl⟩:=Us h5
         obtain rfl:gd=true:=by cases gd <;> first | rfl | exact(Bool.false_ne_true ho).elim
         obtain⟨a5,a7,a0,rfl,rfl,b9,i7⟩:=ib
         replace c8:=c8.req [true] (by kernel_rfl) ho rfl
         have e6:Ag c1 ([x_v31 == 1]:List Bool) ([.bool (x_v31 == 1)]:List Value):=⟨_,_,rfl,(Bo:rep c1 ((x_v31 == 1):Bool) _),rfl⟩
         replace c8:Kn 92 [(l,0),(p,0)] ([tS 81 a5 x81.length a7,tB 83 (x_v31 == 1),tS 77 m a.turns.length o,tS 75 q a.holds.length s,tA 73 (Cu e r_ g b d f k),tS 72 ab x_v30.length ac,tI 9 x_v31,tP 3 1 0,tP 2 0 0,tS 84 au 1 1]++EK (Ot x_v31) [true] [au]) mu:=c8
         replace ef:Ah ⟨w,h,Aj⟩ c1 [(l,0),(p,0)] (Bw e r_ g b d f k q a s m o u x) [⟨ab,x_v30.length,ac,50,3,ah,0⟩,⟨a5,x81.length,a7,4,1,a0,0⟩,⟨au,1,1,4,1,([.bool (x_v31 == 1)]:List Value),0⟩] nc:=ef
         refine⟨_,rfl,rfl,fun K hK=>?_⟩
         obtain⟨fw,k3⟩:=A8 ex85
         refine A3 1 1 1 _ (x85.length) _ ([.bool (x_v31 == 1)]:List Value) c8 ef rfl rfl (by decide) rfl (by rfl) (by kernel_rfl) (by rfl) (by rfl) (Ag.len e6) (ef.rowCell (i:=2) rfl) e6.one (by rw [fw]; simp) (by rw [fw]; exact k3) (by decide) fun ap ar go mv hz ji (kg:Kn 92 [(l,0),(p,0)] ([tS 85 ap x85.length ar,tS 81 a5 x81.length a7,tB 83 (x_v31 == 1),tS 77 m a.turns.length o,tS 75 q a.holds.length s,tA 73 (Cu e r_ g b d f k),tS 72 ab x_v30.length ac,tI 9 x_v31,tP 3 1 0,tP 2 0 0,tS 84 au 1 1]++EK (Ot x_v31) [true] [au]) mv) (eg:Ah ⟨w,h,Aj⟩ c1 [(l,0),(p,0)] (Bw e r_ g b d f k q a s m o u x) [⟨ab,x_v30.length,ac,50,3,ah,0⟩,⟨ap,x85.length,ar,4,1,a0++([.bool (x_v31 == 1)]:List Value),go⟩,⟨au,1,1,4,1,([.bool (x_v31 == 1)]:List Value),0⟩] hz)=>?_
         have e7:Ag c1 x85 (a0++([.bool (x_v31 == 1)]:List Value)):=by rw [fw]; exact Ag.append i7 e6
         obtain rfl:go=0:=Nat.le_zero.1 ji
         refine hK _ _ eg.plOk ?_
         refine TG [14] (14::13::(RT (Ot x_v31) [true]++[9,6,11,10,8,7,5,4,3,2,1,0])) ([tA 86 [.slice q a.holds.length s,.slice m a.turns.length o,.slice ap x85.length ar],tS 85 ap x85.length ar,tS 81 a5 x81.length a7,tB 83 (x_v31 == 1),tS 77 m a.turns.length o,tS 75 q a.holds.length s,tA 73 (Cu e r_ g b d f k),tS 72 ab x_v30.length ac,tI 9 x_v31,tP 3 1 0,tP 2 0 0,tS 84 au 1 1]++EK (Ot x_v31) [true] [au]) (fun _ _ _ _ _ h=>h) kg eg.plOk (by kernel_rfl) (by rfl) (by kernel_rfl) fun hx (kh:Kn 92 [(l,0),(p,0)] ([tA 86 [.slice q a.holds.length s,.slice m a.turns.length o,.slice ap x85.length ar],tS 85 ap x85.length ar,tS 81 a5 x81.length a7,tB 83 (x_v31 == 1),tS 77 m a.turns.length o,tS 75 q a.holds.length s,tA 73 (Cu e r_ g b d f k),tS 72 ab x_v30.length ac,tI 9 x_v31,tP 3 1 0,tP 2 0 0,tS 84 au 1 1]++EK (Ot x_v31) [true] [au]) hx)=>?_
         have ki:Kn 92 [(l,0),(p,0)] [tA 86 [.slice q a.holds.length s,.slice m a.turns.length o,.slice ap x85.length ar],tA 73 (Cu e r_ g b d f k),tS 72 ab x_v30.length ac,tI 9 x_v31,tP 3 1 0,tP 2 0 0] hx:=kh.kp
         refine Dl 15 fun K hK=>?_
         obtain⟨dw,bq,lz,eh⟩:=eg.settle (i:=1) rfl
         replace ai:=ai.mono (XU b9 bq)
         replace ag:=ag.mono (XU b9 bq)
         replace aj:=aj.mono (XU b9 bq)
         replace al:=al.mono (XU b9 bq)
         replace am:=am.mono (XU b9 bq)
         replace e7:=e7.mono bq
         replace eh:Ah ⟨w,h,Aj⟩ dw [(l,0),(p,0)] (Bw e r_ g b d f k q a s m o u x) [⟨ab,x_v30.length,ac,50,3,ah,0⟩,⟨ap,x85.length,ar,4,1,a0++([.bool (x_v31 == 1)]:List Value),((a0++([.bool (x_v31 == 1)]:List Value)):List Value).length⟩,⟨au,1,1,4,1,([.bool (x_v31 == 1)]:List Value),0⟩] hz:=eh
         have lr:A6 dw ap ar x85:=⟨_,e7,lz,eg.rowCap (i:=1) rfl⟩
         refine wc [.agg (Cu e r_ g b d f k),.agg [.slice q a.holds.length s,.slice m a.turns.length o,.slice ap x85.length ar]] ki eh (ih el (by omega) _ _ eh.has r_ _ ((Ab (Ad ai) (Ab (Ab Ac Ac) (Ab (Ad ag) (Ab (Ad aj) (Ab Ac (Ab Ac (Ab Ac Ac))))))):rep dw r_ _) (Am.mk a.holds a.turns x85) _ ((Ab (Ad al) (Ab (Ad am) (Ad lr))):rep dw (Am.mk a.holds a.turns x85) _) _ ex87) fun pa gx pe ig g7 fj=>?_
         replace d1:=d1.mono (XU (XU b9 bq) g7)
         obtain⟨es,eu,rfl,ls⟩:=ig
         refine⟨.one (.c (.slice es x87.length eu)),rfl,fun mw (kj:Kn 92 [(l,0),(p,0)] [tS 87 es x87.length eu,tA 86 [.slice q a.holds.length s,.slice m a.turns.length o,.slice ap x85.length ar],tA 73 (Cu e r_ g b d f k),tS 72 ab x_v30.length ac,tI 9 x_v31,tP 3 1 0,tP 2 0 0] mw)=>hK _ _ fj.plOk ?_⟩
         refine Dl 16 fun K hK=>?_
         obtain⟨en,d5,l5,_⟩:=id ls
         obtain⟨fx,k4⟩:=A8 ex88
         refine A3 0 72 x87.length _ (x88.length) _ en kj fj rfl rfl (by decide) rfl (by rfl) (by kernel_rfl) (by rfl) (by rfl) (Ag.len d5) (l5.cell fj.has d5.one) d5.one (by rw [fx]; simp) (by rw [fx]; exact k4) (by decide) fun cj cx gp mx nd jj (kk:Kn 92 [(l,0),(p,0)] [tS 88 cj x88.length cx,tS 87 es x87.length eu,tA 86 [.slice q a.holds.length s,.slice m a.turns.length o,.slice ap x85.length ar],tA 73 (Cu e r_ g b d f k),tS 72 ab x_v30.length ac,tI 9 x_v31,tP 3 1 0,tP 2 0 0] mx) (ei:Ah ⟨w,h,Aj⟩ gx [(l,0),(p,0)] (Bw e r_ g b d f k q a s m o u x) [⟨cj,x88.length,cx,50,3,ah++en,gp⟩,⟨ap,x85.length,ar,4,1,a0++([.bool (x_v31 == 1)]:List Value),((a0++([.bool (x_v31 == 1)]:List Value)):List Value).length⟩,⟨au,1,1,4,1,([.bool (x_v31 == 1)]:List Value),0⟩] nd)=>?_
         have i9:Ag gx x88 (ah++en):=by rw [fx]; exact Ag.append d1 d5
         obtain rfl:gp=0:=Nat.le_zero.1 jj
         refine hK _ _ ei.plOk ?_
         refine Dr [17] [17,16,15,14,13,12,9,6,11,10,8,7,5,4,3,2,1,0] [tS 5 cj x88.length cx,tI 9 x_v31,tP 3 1 0,tP 2 0 0] kk ei fun o1 kl=>?_
         refine Ay (by kernel_rfl) (Aa (Rk 0 3 [tI 9 (IntKind.i64.wrap (x_v31+1)),tS 5 cj x88.length cx,tP 3 1 0,tP 2 0 0] kl ei fun o2 km=>?_))
         refine wf ?_
         exact XY el ⟨Nat.lt_succ_self _,XY x88 ⟨IntKind.i64.wrap (x_v31+1),cj,cx,ah++en,_,_,rfl,km.kp,ei.cutRw 1,XU bp (XU b9 (XU bq g7)),i9,(by omega),ak⟩⟩
       refine Cl (UM 92 ⟨w,h,Aj⟩ [(l,0),(p,0)] (Bw e r_ g b d f k q a s m o u x) (Bw e r_ g b d f k q a s m o u x) [] [⟨6,78,4,1,0,[]⟩,⟨12,84,4,1,1,[.bool (x_v31 == 1)]⟩] [11,10,8,7,5,4,3,2,1,0] (fun mm ir rw=>mm=[tB 83 (x_v31 == 1),tS 80 u a.spares.length x,tS 77 m a.turns.length o,tS 75 q a.holds.length s,tA 73 (Cu e r_ g b d f k),tS 72 ab x_v30.length ac,tI 9 x_v31,tP 3 1 0,tP 2 0 0]∧rw=[⟨ab,x_v30.length,ac,50,3,ah,0⟩]∧Ae.le bo ir)) ?_ (fun me=>?_)
       ·
        refine GK (Kk [(9,[true,false])] ?_ (fun _ _ _ hm=>hm.plOk) (by kernel_rfl) (by kernel_rfl) ⟨?_,trivial⟩)
        ·
         rintro _ _ _ ⟨rfl,rfl,_⟩
         exact⟨⟨⟨_,_,_,rfl,rfl,rfl,rfl,rfl,by rfl,by rfl,by rfl,rfl,by kernel_rfl⟩,⟨⟨_,_,_,rfl,rfl,rfl,rfl,rfl,by rfl,by rfl,by rfl,rfl,by kernel_rfl⟩,trivial⟩⟩,by kernel_rfl⟩
        ·
         intro nq nw my dx n8 oe nf ip h6 hp ic c9 ej
         obtain⟨gf,bm,rfl⟩:=Ut ip
         obtain⟨cu,cv,rfl⟩:=Ut h6
         obtain rfl:gf=true:=by cases gf <;> first | rfl | exact(Bool.false_ne_true hp).elim
         obtain⟨rfl,rfl,g8⟩:=ic
         replace av:=av.mono g8
         replace c9:=c9.req [true,false] (by kernel_rfl) hp rfl
         have ja:Ag dx ([]:List Bool) ([]:List Value):=Ag.nil
         replace c9:Kn 92 [(l,0),(p,0)] ([tB 83 (x_v31 == 1),tS 80 u a.spares.length x,tS 77 m a.turns.length o,tS 75 q a.holds.length s,tA 73 (Cu e r_ g b d f k),tS 72 ab x_v30.length ac,tI 9 x_v31,tP 3 1 0,tP 2 0 0,tS 78 cu 0 0]++EK [⟨6,78,4,1,0,[]⟩,⟨12,84,4,1,1,[.bool (x_v31 == 1)]⟩] [true,bm] [cu,cv]) my:=c9
         replace ej:Ah ⟨w,h,Aj⟩ dx [(l,0),(p,0)] (Bw e r_ g b d f k q a s m o u x) [⟨ab,x_v30.length,ac,50,3,ah,0⟩,⟨cu,0,0,4,1,([]:List Value),0⟩,QZ [(l,0),(p,0)] ⟨12,84,4,1,1,[.bool (x_v31 == 1)]⟩ bm cv] nf:=ej
         refine⟨_,rfl,rfl,fun K hK=>?_⟩
         obtain⟨dh,d6,l6,_⟩:=id av
         obtain⟨fy,k5⟩:=A8 ex81
         refine A3 1 1 a.spares.length _ (x81.length) _ dh c9 ej rfl rfl (by decide) rfl (by rfl) (by kernel_rfl) (by rfl) (by rfl) (Ag.len d6) (l6.cell ej.has d6.one) d6.one (by rw [fy]; simp) (by rw [fy]; exact k5) (by decide) fun dl dq gq mz ng jk (kn:Kn 92 [(l,0),(p,0)] ([tS 81 dl x81.length dq,tB 83 (x_v31 == 1),tS 80 u a.spares.length x,tS 77 m a.turns.length o,tS 75 q a.holds.length s,tA 73 (Cu e r_ g b d f k),tS 72 ab x_v30.length ac,tI 9 x_v31,tP 3 1 0,tP 2 0 0,tS 78 cu 0 0]++EK [⟨6,78,4,1,0,[]⟩,⟨12,84,4,1,1,[.bool (x_v31 == 1)]⟩] [true,bm] [cu,cv]) mz) (he:Ah ⟨w,h,Aj⟩ dx [(l,0),(p,0)] (Bw e r_ g b d f k q a s m o u x) [⟨ab,x_v30.length,ac,50,3,ah,0⟩,⟨dl,x81.length,dq,4,1,([]:List Value)++dh,gq⟩,QZ [(l,0),(p,0)] ⟨12,84,4,1,1,[.bool (x_v31 == 1)]⟩ bm cv] ng)=>?_
         have jb:Ag dx x81 (([]:List Value)++dh):=by rw [fy]; exact Ag.append ja d6
         obtain rfl:gq=0:=Nat.le_zero.1 jk
         refine hK _ _ he.plOk ?_
         refine Bq (RT (Ot x_v31) [bm]++[9,6,11,10,8,7,5,4,3,2,1,0]) (by cases bm <;> kernel_rfl) (by cases bm <;> rfl) (md [bm] _ _ ⟨[cv],_,_,_,[⟨ab,x_v30.length,ac,50,3,ah,0⟩,⟨dl,x81.length,dq,4,1,([]:List Value)++dh,0⟩],rfl,rfl,rfl,⟨dl,dq,([]:List Value)++dh,rfl,rfl,g8,jb⟩,kn.next [false,true] _ (by kernel_rfl) (by rfl) (by kernel_rfl),he.pickRows [0,1,2] (by kernel_rfl) (by kernel_rfl)⟩)
       exact me [false,false] _ _ ⟨[none,none],_,_,[tB 83 (x_v31 == 1),tS 80 u a.spares.length x,tS 77 m a.turns.length o,tS 75 q a.holds.length s,tA 73 (Cu e r_ g b d f k),tS 72 ab x_v30.length ac,tI 9 x_v31,tP 3 1 0,tP 2 0 0],[⟨ab,x_v30.length,ac,50,3,ah,0⟩],rfl,rfl,rfl,⟨rfl,rfl,Ae.le_refl _⟩,kf.kp,lk⟩
      ·
       rw [e0,XV] at ak
       refine wp_exit ?_
       obtain rfl:=XZ ak
       exact XY ab ⟨ac,ah,_,_,rfl,fe.kp,cf,bp,d1⟩
    ·
     rintro _ nh ⟨bz,b4,de,f0,dv,rfl,ko,fk,nz,e5⟩
     refine XT (Aa (Rk 0 2 [tS 4 bz bs.length b4] ko fk fun o3 kq=>?_))
     refine wf (wp_ret ?_)
     obtain⟨gy,k9,l0,fl⟩:=fk.settle (i:=0) rfl
     replace e5:=e5.mono k9
     replace fl:Ah ⟨w,h,Aj⟩ gy [(l,0),(p,0)] (Bw e r_ g b d f k q a s m o u x) [⟨bz,bs.length,b4,50,3,de,(de:List Value).length⟩] nh:=fl
     have lu:A6 gy bz b4 bs:=⟨_,e5,l0,fk.rowCap (i:=0) rfl⟩
     obtain rfl:=XZ H
     exact rt (.one (.c (.slice bz bs.length b4))) kq fl ⟨_,_,rfl,lu⟩
   ·
    rw [ez,XV] at H
    refine wp_skip (XT (Aa (Rk 0 1 [tA 90 (LN q a s m o u x)] fd az fun o4 kr=>?_)))
    refine wl fun K hK=>?_
    refine wS 50 3 (LN q a s m o u x) kr az fun cb m0 h0 (ks:Kn 92 [(l,0),(p,0)] [tS 91 cb 1 1,tA 90 (LN q a s m o u x)] m0) (fm:Ah ⟨w,h,Aj⟩ h [(l,0),(p,0)] (Bw e r_ g b d f k q a s m o u x) [⟨cb,1,1,50,3,([.slice q a.holds.length s,.slice m a.turns.length o,.slice u a.spares.length x]:List Value),0⟩] h0)=>?_
    have e9:Ag h ([a]:List Am) ([.slice q a.holds.length s,.slice m a.turns.length o,.slice u a.spares.length x]:List Value):=⟨_,_,rfl,((Ab (Ad al) (Ab (Ad am) (Ad av))):rep h (a:Am) _),rfl⟩
    refine hK _ _ ?_
    refine Rk 2 1 [tS 4 cb 1 1] ks fm fun o5 kt=>?_
    refine wf (wp_ret ?_)
    obtain⟨gz,la,l1,fn⟩:=fm.settle (i:=0) rfl
    replace e9:=e9.mono la
    replace fn:Ah ⟨w,h,Aj⟩ gz [(l,0),(p,0)] (Bw e r_ g b d f k q a s m o u x) [⟨cb,1,1,50,3,([.slice q a.holds.length s,.slice m a.turns.length o,.slice u a.spares.length x]:List Value),(([.slice q a.holds.length s,.slice m a.turns.length o,.slice u a.spares.length x]:List Value):List Value).length⟩] h0:=fn
    have lv:A6 gz cb 1 ([a]:List Am):=⟨_,e9,l1,fm.rowCap (i:=0) rfl⟩
    obtain rfl:=XZ H
    exact rt (.one (.c (.slice cb 1 1))) kt fn ⟨_,_,rfl,lv⟩
theorem Qr (n:Nat) {h:Ae} {w:World} (hh:Dn h w) (r_:Af) {cs_r_:List Value} (hx_r_:rep h r_ cs_r_) (a:Am) {cs_a:List Value} (hx_a:rep h a cs_a) {r:List Am} (H:ref_Every n r_ a=some r) :
  Calls Try.prog 18 #[.agg cs_r_.toArray,.agg cs_a.toArray] w (Dp (fun h v=>∃ a c,v=.slice a r.length c∧A6 h a c r) h w):=OO n h w hh r_ cs_r_ hx_r_ a cs_a hx_a r H
end Go.Proofs.Ytokchpjijlebiaa
