/- Each call computes its plain function. -/
import Derived.Test.YtokchpjijlebiaaGreatProg
import Derived.Test.YtokchpjijlebiaaGreatMQP0
import Derived.Test.YtokchpjijlebiaaGreatMQWA
import Derived.Test.YtokchpjijlebiaaGreatMQWB
import Derived.Test.YtokchpjijlebiaaGreatMQWC
import Derived.Test.YtokchpjijlebiaaGreatMQWC1
import Derived.Test.YtokchpjijlebiaaGreatMQWD
import Derived.Test.YtokchpjijlebiaaGreatMQWE
import Derived.Test.YtokchpjijlebiaaGreatMQWJ1
import Derived.Test.YtokchpjijlebiaaGreatMQWM1
import Derived.Test.YtokchpjijlebiaaGreatMQWQ
set_option linter.all false
namespace Go.Proofs.YtokchpjijlebiaaGreat
open Go Go.RowKit
open Rep (rep)
open KRep (kv)
open VRep (rv)
abbrev Dh (ab:Option Addr) (t_:Au) (ah:Nat) (ac:Option Addr) (ai:Nat) (ad:Option Addr) (aj:Nat):List SC:=[.slice ab t_.tm.length ah,.slice ac t_.turns.length ai,.slice ad t_.legs.length aj]
abbrev Di (y:Option Addr) (a:Aw) (ae:Nat) (z:Option Addr) (af:Nat) (aa:Option Addr) (ag:Nat):List SC:=[.slice y a.holds.length ae,.slice z a.turns.length af,.slice aa a.spares.length ag]
abbrev RG (b5:Option Addr) (x31:Aw) (cb:Nat) (b6:Option Addr) (cc:Nat) (b7:Option Addr) (cd:Nat):List SC:=[.slice b5 x31.holds.length cb,.slice b6 x31.turns.length cc,.slice b7 x31.spares.length cd]
abbrev RH (b8:Option Addr) (x41:Aw) (ce:Nat) (b9:Option Addr) (cf:Nat) (ca:Option Addr) (cg:Nat):List SC:=[.slice b8 x41.holds.length ce,.slice b9 x41.turns.length cf,.slice ca x41.spares.length cg]
abbrev BY (m:Option Addr) (r_:Af) (s:Nat) (p:Option Addr) (u:Nat) (q:Option Addr) (x:Nat):List SC:=[.slice m r_.legs.length s,.int .i64 r_.turn.lo,.int .i64 r_.turn.hi,.slice p r_.buses.length u,.slice q r_.spares.length x,.int .i64 r_.unit,.int .i64 r_.gap,.int .i64 r_.fr,.int .i64 r_.to_]
abbrev Sm (cj:Option Addr) (x25:Af) (cn:Nat) (ck:Option Addr) (co:Nat) (cl:Option Addr) (cp:Nat):List SC:=[.slice cj x25.legs.length cn,.int .i64 x25.turn.lo,.int .i64 x25.turn.hi,.slice ck x25.buses.length co,.slice cl x25.spares.length cp,.int .i64 x25.unit,.int .i64 x25.gap,.int .i64 x25.fr,.int .i64 x25.to_]
abbrev QR (bo:Option Addr) (x29:Af) (bv:Nat) (bp:Option Addr) (bw:Nat) (bq:Option Addr) (bx:Nat):List SC:=[.slice bo x29.legs.length bv,.int .i64 x29.turn.lo,.int .i64 x29.turn.hi,.slice bp x29.buses.length bw,.slice bq x29.spares.length bx,.int .i64 x29.unit,.int .i64 x29.gap,.int .i64 x29.fr,.int .i64 x29.to_]
abbrev QS (br:Option Addr) (x39:Af) (bz:Nat) (bs:Option Addr) (b0:Nat) (bt:Option Addr) (b1:Nat):List SC:=[.slice br x39.legs.length bz,.int .i64 x39.turn.lo,.int .i64 x39.turn.hi,.slice bs x39.buses.length b0,.slice bt x39.spares.length b1,.int .i64 x39.unit,.int .i64 x39.gap,.int .i64 x39.fr,.int .i64 x39.to_]
abbrev Ed (f:Option Addr) (x44:(List Int)×Int) (g:Nat) (d:Option Addr) (x34:(List (List Int))×Int) (e:Nat):TM:=[tS 10 f x44.1.length g,tS 8 d x34.1.length e,tP 5 2 0,tP 4 1 0,tP 3 0 0]
abbrev Hb (x44:(List Int)×Int) (f:Option Addr) (g:Nat) (x34:(List (List Int))×Int) (d:Option Addr) (e:Nat):TM:=[tI 11 x44.2,tS 10 f x44.1.length g,tI 9 x34.2,tS 8 d x34.1.length e,tP 5 2 0,tP 4 1 0,tP 3 0 0]
set_option maxRecDepth 100000 in
set_option maxHeartbeats 4000000 in
theorem Jl (n:Nat) {h:Ae} {w:World} (hh:C9 h w) (r_:Af) {cs_r_:List Value} (hx_r_:rep h r_ cs_r_) (a:Aw) {cs_a:List Value} (hx_a:rep h a cs_a) (t_:Au) {cs_t_:List Value} (hx_t_:rep h t_ cs_t_) {r:Bool} (H:Ei n r_ a t_=some r) :
  Calls Tryz.prog 4 #[.agg cs_r_.toArray,.agg cs_a.toArray,.agg cs_t_.toArray] w (CA (fun h v=>v=.bool r) h w):=by
 obtain⟨_,_,rfl,⟨m,s,rfl,ak⟩,⟨_,_,rfl,⟨_,_,rfl,rfl,rfl⟩,⟨_,_,rfl,⟨p,u,rfl,al⟩,⟨_,_,rfl,⟨q,x,rfl,am⟩,⟨_,_,rfl,rfl,⟨_,_,rfl,rfl,⟨_,_,rfl,rfl,rfl⟩⟩⟩⟩⟩⟩⟩:=hx_r_
 obtain⟨_,_,rfl,⟨y,ae,rfl,an⟩,⟨_,_,rfl,⟨z,af,rfl,ao⟩,⟨aa,ag,rfl,ap⟩⟩⟩:=hx_a
 obtain⟨_,_,rfl,⟨ab,ah,rfl,aq⟩,⟨_,_,rfl,⟨ac,ai,rfl,ar⟩,⟨ad,aj,rfl,au⟩⟩⟩:=hx_t_
 refine enter 133 [.agg (BY m r_ s p u q x),.agg (Di y a ae z af aa ag),.agg (Dh ab t_ ah ac ai ad aj)] Tryz.func4 rfl rfl rfl rfl fun t hk=>?_
 have hm:=Ai.begin h w hh
 unfold Ei at H
 refine XT (Aa (wl fun K hK=>?_))
 refine wb (.agg (BY m r_ s p u q x)) hk hm fun i lh op (ip:Kn 133 [(i,0)] [tP 3 0 0,tA 0 (BY m r_ s p u q x),tA 1 (Di y a ae z af aa ag),tA 2 (Dh ab t_ ah ac ai ad aj)] lh) kh=>hK _ _ ?_
 refine wl fun K hK=>?_
 refine wb (.agg (Di y a ae z af aa ag)) ip kh fun k lj ou (i5:Kn 133 [(i,0),(k,0)] [tP 4 1 0,tP 3 0 0,tA 0 (BY m r_ s p u q x),tA 1 (Di y a ae z af aa ag),tA 2 (Dh ab t_ ah ac ai ad aj)] lj) kj=>hK _ _ ?_
 refine wl fun K hK=>?_
 refine wb (.agg (Dh ab t_ ah ac ai ad aj)) i5 kj fun l lm oy (jj:Kn 133 [(i,0),(k,0),(l,0)] [tP 5 2 0,tP 4 1 0,tP 3 0 0,tA 0 (BY m r_ s p u q x),tA 1 (Di y a ae z af aa ag),tA 2 (Dh ab t_ ah ac ai ad aj)] lm) dy=>hK _ _ ?_
 refine Rk 3 1 [tP 5 2 0,tP 4 1 0,tP 3 0 0] jj dy fun m5 jn=>?_
 refine wf (XT (XT ?_))
 obtain⟨e7,b2,H⟩:=Am H
 refine Ap (fun a' w'=>∃ (ff:Array Value)(dv:Ae),a' = ⟨ff,[]⟩∧Kn 133 [(i,0),(k,0),(l,0)] [tP 5 2 0,tP 4 1 0,tP 3 0 0,tB 22 e7] ff∧Ai ⟨w,h,A3⟩ dv [(i,0),(k,0),(l,0)] [⟨BY m r_ s p u q x,some 28⟩,⟨Di y a ae z af aa ag,some 32⟩,⟨Dh ab t_ ah ac ai ad aj,some 38⟩] [] w'∧Ae.le h dv) ?_ ?_
 ·
  refine Aa (Rk 0 1 [tA 14 (BY m r_ s p u q x),tP 5 2 0,tP 4 1 0,tP 3 0 0] jn dy fun nb jv=>?_)
  obtain⟨x15,ex15,b2⟩:=Am b2
  refine wl fun K hK=>?_
  refine wc [.agg (BY m r_ s p u q x)] jv dy (Pj n dy.has r_ ((Ab (Ad ak) (Ab (Ab Ac Ac) (Ab (Ad al) (Ab (Ad am) (Ab Ac (Ab Ac (Ab Ac Ac))))))):rep h r_ _) ex15) fun n6 fi o6 g9 be cy=>?_
  replace ak:=ak.mono be
  replace al:=al.mono be
  replace am:=am.mono be
  replace an:=an.mono be
  replace ao:=ao.mono be
  replace ap:=ap.mono be
  replace aq:=aq.mono be
  replace ar:=ar.mono be
  replace au:=au.mono be
  obtain rfl:=g9
  refine⟨.one (.c (.bool x15)),rfl,fun lw (j3:Kn 133 [(i,0),(k,0),(l,0)] [tB 15 x15,tA 14 (BY m r_ s p u q x),tP 5 2 0,tP 4 1 0,tP 3 0 0] lw)=>hK _ _ ?_⟩
  refine Rk 2 2 [tB 17 (!x15),tP 5 2 0,tP 4 1 0,tP 3 0 0] j3 cy fun gn fz=>?_
  rcases Bool.eq_false_or_eq_true ((!x15)) with c9 | c9
  ·
   rw [c9,XW] at b2
   have j4:Kn 133 [(i,0),(k,0),(l,0)] [tB 17 true,tP 5 2 0,tP 4 1 0,tP 3 0 0] gn:=(fz.setB 17 true (by rfl) c9).kp
   refine Rk 4 5 [tB 22 true,tP 5 2 0,tP 4 1 0,tP 3 0 0] j4 cy fun ni j5=>?_
   refine wf ?_
   obtain rfl:=XZ b2
   exact XY _ ⟨_,rfl,j5.kp,cy,be⟩
  ·
   rw [c9,XV] at b2
   have j6:Kn 133 [(i,0),(k,0),(l,0)] [tB 17 false,tP 5 2 0,tP 4 1 0,tP 3 0 0] gn:=(fz.setB 17 false (by rfl) c9).kp
   refine Rk 4 2 [tA 19 (Dh ab t_ ah ac ai ad aj),tA 18 (Di y a ae z af aa ag),tB 17 false,tP 5 2 0,tP 4 1 0,tP 3 0 0] j6 cy fun nj f0=>?_
   obtain⟨x20,ex20,b2⟩:=Am b2
   refine A9 _ rfl (Ak f0 (by kernel_rfl)) fun K hK=>?_
   refine wc [.agg (Di y a ae z af aa ag),.agg (Dh ab t_ ah ac ai ad aj)] f0 cy (Ow n cy.has a ((Ab (Ad an) (Ab (Ad ao) (Ad ap))):rep fi a _) t_ ((Ab (Ad aq) (Ab (Ad ar) (Ad au))):rep fi t_ _) ex20) fun n8 l7 o7 ha kg f6=>?_
   obtain rfl:=ha
   refine⟨.one (.c (.bool x20)),rfl,fun lx (j7:Kn 133 [(i,0),(k,0),(l,0)] [tB 20 x20,tA 19 (Dh ab t_ ah ac ai ad aj),tA 18 (Di y a ae z af aa ag),tB 17 false,tP 5 2 0,tP 4 1 0,tP 3 0 0] lx)=>hK _ _ ?_⟩
   refine Rk 7 2 [tB 22 (!x20),tP 5 2 0,tP 4 1 0,tP 3 0 0] j7 f6 fun nk j8=>?_
   refine wf ?_
   obtain rfl:=XZ b2
   exact XY _ ⟨_,rfl,j8.kp,f6,XU be kg⟩
 ·
  rintro _ o8 ⟨ff,dv,rfl,ej,db,bl⟩
  replace ak:=ak.mono bl
  replace al:=al.mono bl
  replace am:=am.mono bl
  replace an:=an.mono bl
  replace ao:=ao.mono bl
  replace ap:=ap.mono bl
  replace aq:=aq.mono bl
  replace ar:=ar.mono bl
  replace au:=au.mono bl
  refine wC (e7) ej (fun ec=>?_) (fun ec=>?_)
  ·
   rw [ec,XW] at H
   refine XT (Aa ?_)
   obtain⟨x23,ex23,H⟩:=Am H
   refine wl fun K hK=>?_
   refine wc [] ej db (Hy n db.has  ex23) fun n9 l8 o9 hc mc f7=>?_
   obtain rfl:=hc
   refine⟨.one (.c (.bool x23)),rfl,fun ly (j9:Kn 133 [(i,0),(k,0),(l,0)] [tB 23 x23,tP 5 2 0,tP 4 1 0,tP 3 0 0,tB 22 e7] ly)=>hK _ _ ?_⟩
   refine Rk 1 1 [tB 6 x23] j9 f7 fun nl ka=>?_
   refine wf (wp_ret ?_)
   obtain rfl:=XZ H
   exact rt (.one (.c (.bool x23))) ka f7 rfl
  ·
   rw [ec,XV] at H
   refine wp_skip (XT (Aa (Rk 0 1 [tA 24 (BY m r_ s p u q x),tP 5 2 0,tP 4 1 0,tP 3 0 0] ej db fun nm kb=>?_)))
   obtain⟨x25,ex25,H⟩:=Am H
   refine wl fun K hK=>?_
   refine wc [.agg (BY m r_ s p u q x)] kb db (Hx n db.has r_ ((Ab (Ad ak) (Ab (Ab Ac Ac) (Ab (Ad al) (Ab (Ad am) (Ab Ac (Ab Ac (Ab Ac Ac))))))):rep dv r_ _) ex25) fun oa hr pa hd bm f8=>?_
   obtain⟨_,rfl,⟨_,_,rfl,⟨cj,cn,rfl,ko⟩,⟨_,_,rfl,⟨_,_,rfl,rfl,rfl⟩,⟨_,_,rfl,⟨ck,co,rfl,kq⟩,⟨_,_,rfl,⟨cl,cp,rfl,kr⟩,⟨_,_,rfl,rfl,⟨_,_,rfl,rfl,⟨_,_,rfl,rfl,rfl⟩⟩⟩⟩⟩⟩⟩⟩:=hd
   refine⟨.one (.agg (Sm cj x25 cn ck co cl cp)),rfl,fun k4 (hw:Kn 133 [(i,0),(k,0),(l,0)] [tA 25 (Sm cj x25 cn ck co cl cp),tA 24 (BY m r_ s p u q x),tP 5 2 0,tP 4 1 0,tP 3 0 0] k4)=>hK _ _ ?_⟩
   obtain⟨x26,ex26,H⟩:=Am H
   refine wl fun K hK=>?_
   refine wc [.agg (Sm cj x25 cn ck co cl cp)] hw f8 (HR n f8.has x25 ((Ab (Ad ko) (Ab (Ab Ac Ac) (Ab (Ad kq) (Ab (Ad kr) (Ab Ac (Ab Ac (Ab Ac Ac))))))):rep hr x25 _) ex26) fun nn he ob gp bi cv=>?_
   replace ak:=ak.mono (XU bm bi)
   replace al:=al.mono (XU bm bi)
   replace am:=am.mono (XU bm bi)
   obtain rfl:=gp
   refine⟨.one (.c (.int .i64 x26)),rfl,fun k5 (hx:Kn 133 [(i,0),(k,0),(l,0)] [tI 26 x26,tA 25 (Sm cj x25 cn ck co cl cp),tA 24 (BY m r_ s p u q x),tP 5 2 0,tP 4 1 0,tP 3 0 0] k5)=>hK _ _ ?_⟩
   refine Rk 3 1 [tI 7 x26,tP 5 2 0,tP 4 1 0,tP 3 0 0] hx cv fun md hy=>?_
   refine wf (XT (Al (by kernel_rfl) ?_))
   replace cv:=cv.drew
   refine Ao [] [(i,0),(k,0),(l,0)] [⟨BY m r_ s p u q x,some 28⟩,⟨Di y a ae z af aa ag,some 32⟩,⟨Dh ab t_ ah ac ai ad aj,some 38⟩] ?_
   refine Dr [0,2,4] [4,2,0] [tA 32 (Dh ab t_ ah ac ai ad aj),tA 30 (Di y a ae z af aa ag),tA 28 (BY m r_ s p u q x),tI 7 x26,tP 5 2 0,tP 4 1 0,tP 3 0 0] hy cv fun me hz=>?_
   obtain⟨x29,ex29,H⟩:=Am H
   refine Dl 1 fun K hK=>?_
   refine wc [.agg (BY m r_ s p u q x)] hz cv (Hx n cv.has r_ ((Ab (Ad ak) (Ab (Ab Ac Ac) (Ab (Ad al) (Ab (Ad am) (Ab Ac (Ab Ac (Ab Ac Ac))))))):rep he r_ _) ex29) fun np hf oc gq bj ek=>?_
   replace an:=an.mono (XU (XU bm bi) bj)
   replace ao:=ao.mono (XU (XU bm bi) bj)
   replace ap:=ap.mono (XU (XU bm bi) bj)
   obtain⟨_,rfl,⟨_,_,rfl,⟨bo,bv,rfl,ev⟩,⟨_,_,rfl,⟨_,_,rfl,rfl,rfl⟩,⟨_,_,rfl,⟨bp,bw,rfl,ew⟩,⟨_,_,rfl,⟨bq,bx,rfl,ex⟩,⟨_,_,rfl,rfl,⟨_,_,rfl,rfl,⟨_,_,rfl,rfl,rfl⟩⟩⟩⟩⟩⟩⟩⟩:=gq
   refine⟨.one (.agg (QR bo x29 bv bp bw bq bx)),rfl,fun k6 (h0:Kn 133 [(i,0),(k,0),(l,0)] [tA 29 (QR bo x29 bv bp bw bq bx),tA 32 (Dh ab t_ ah ac ai ad aj),tA 30 (Di y a ae z af aa ag),tA 28 (BY m r_ s p u q x),tI 7 x26,tP 5 2 0,tP 4 1 0,tP 3 0 0] k6)=>hK _ _ ek.plOk ?_⟩
   obtain⟨x31,ex31,H⟩:=Am H
   refine Dl 3 fun K hK=>?_
   refine wc [.agg (Di y a ae z af aa ag)] h0 ek (Lp n ek.has a ((Ab (Ad an) (Ab (Ad ao) (Ad ap))):rep hf a _) ex31) fun nq hg od gr a8 el=>?_
   replace aq:=aq.mono (XU (XU (XU bm bi) bj) a8)
   replace ar:=ar.mono (XU (XU (XU bm bi) bj) a8)
   replace au:=au.mono (XU (XU (XU bm bi) bj) a8)
   obtain⟨_,rfl,⟨_,_,rfl,⟨b5,cb,rfl,ey⟩,⟨_,_,rfl,⟨b6,cc,rfl,ez⟩,⟨b7,cd,rfl,e0⟩⟩⟩⟩:=gr
   refine⟨.one (.agg (RG b5 x31 cb b6 cc b7 cd)),rfl,fun k7 (h1:Kn 133 [(i,0),(k,0),(l,0)] [tA 31 (RG b5 x31 cb b6 cc b7 cd),tA 29 (QR bo x29 bv bp bw bq bx),tA 32 (Dh ab t_ ah ac ai ad aj),tA 30 (Di y a ae z af aa ag),tA 28 (BY m r_ s p u q x),tI 7 x26,tP 5 2 0,tP 4 1 0,tP 3 0 0] k7)=>hK _ _ el.plOk ?_⟩
   obtain⟨x33,ex33,H⟩:=Am H
   refine Dl 5 fun K hK=>?_
   refine wc [.agg (Dh ab t_ ah ac ai ad aj)] h1 el (Kx n el.has t_ ((Ab (Ad aq) (Ab (Ad ar) (Ad au))):rep hg t_ _) ex33) fun nr d0 oe gs ay em=>?_
   replace ev:=ev.mono (XU a8 ay)
   replace ew:=ew.mono (XU a8 ay)
   replace ex:=ex.mono (XU a8 ay)
   replace ey:=ey.mono ay
   replace ez:=ez.mono ay
   replace e0:=e0.mono ay
   obtain⟨_,rfl,⟨_,_,rfl,⟨dd,dk,rfl,ks⟩,⟨_,_,rfl,⟨de,dl,rfl,kt⟩,⟨df,dm,rfl,ku⟩⟩⟩⟩:=gs
   refine⟨.one (.agg [.slice dd x33.tm.length dk,.slice de x33.turns.length dl,.slice df x33.legs.length dm]),rfl,fun k8 (h2:Kn 133 [(i,0),(k,0),(l,0)] [tA 33 [.slice dd x33.tm.length dk,.slice de x33.turns.length dl,.slice df x33.legs.length dm],tA 31 (RG b5 x31 cb b6 cc b7 cd),tA 29 (QR bo x29 bv bp bw bq bx),tA 32 (Dh ab t_ ah ac ai ad aj),tA 30 (Di y a ae z af aa ag),tA 28 (BY m r_ s p u q x),tI 7 x26,tP 5 2 0,tP 4 1 0,tP 3 0 0] k8)=>hK _ _ em.plOk ?_⟩
   obtain⟨x34,ex34,H⟩:=Am H
   refine Dl 6 fun K hK=>?_
   refine wc [.agg (QR bo x29 bv bp bw bq bx),.agg (RG b5 x31 cb b6 cc b7 cd),.agg [.slice dd x33.tm.length dk,.slice de x33.turns.length dl,.slice df x33.legs.length dm]] h2 em (GZ n em.has x29 ((Ab (Ad ev) (Ab (Ab Ac Ac) (Ab (Ad ew) (Ab (Ad ex) (Ab Ac (Ab Ac (Ab Ac Ac))))))):rep d0 x29 _) x31 ((Ab (Ad ey) (Ab (Ad ez) (Ad e0))):rep d0 x31 _) x33 ((Ab (Ad ks) (Ab (Ad kt) (Ad ku))):rep d0 x33 _) ex34) fun ns hl og gu bk ch=>?_
   replace ak:=ak.mono (XU (XU (XU bj a8) ay) bk)
   replace al:=al.mono (XU (XU (XU bj a8) ay) bk)
   replace am:=am.mono (XU (XU (XU bj a8) ay) bk)
   obtain⟨_,_,rfl,⟨d,e,rfl,az⟩,rfl⟩:=gu
   refine⟨.tup [.c (.slice d x34.1.length e),.c (.int .i64 x34.2)],rfl,fun k9 (h3:Kn 133 [(i,0),(k,0),(l,0)] [(34,.tup [.c (.slice d x34.1.length e),.c (.int .i64 x34.2)]),tA 33 [.slice dd x33.tm.length dk,.slice de x33.turns.length dl,.slice df x33.legs.length dm],tA 31 (RG b5 x31 cb b6 cc b7 cd),tA 29 (QR bo x29 bv bp bw bq bx),tA 32 (Dh ab t_ ah ac ai ad aj),tA 30 (Di y a ae z af aa ag),tA 28 (BY m r_ s p u q x),tI 7 x26,tP 5 2 0,tP 4 1 0,tP 3 0 0] k9)=>hK _ _ ch.plOk ?_⟩
   refine Dr [7,8,9,10,11] [11,10,9,8,7,6,5,3,1,4,2,0] [tI 9 x34.2,tS 8 d x34.1.length e,tI 7 x26,tP 5 2 0,tP 4 1 0,tP 3 0 0] h3 ch fun mf h4=>?_
   refine Ay (by kernel_rfl) (XT (Al (by kernel_rfl) ?_))
   replace ch:=ch.drew
   refine Ao [] [(i,0),(k,0),(l,0)] [⟨BY m r_ s p u q x,some 28⟩,⟨Di y a ae z af aa ag,some 32⟩,⟨Dh ab t_ ah ac ai ad aj,some 38⟩] ?_
   refine Dr [0,2,4] [4,2,0] [tA 42 (Dh ab t_ ah ac ai ad aj),tA 40 (Di y a ae z af aa ag),tA 38 (BY m r_ s p u q x),tI 9 x34.2,tS 8 d x34.1.length e,tI 7 x26,tP 5 2 0,tP 4 1 0,tP 3 0 0] h4 ch fun mg h5=>?_
   obtain⟨x39,ex39,H⟩:=Am H
   refine Dl 1 fun K hK=>?_
   refine wc [.agg (BY m r_ s p u q x)] h5 ch (Hx n ch.has r_ ((Ab (Ad ak) (Ab (Ab Ac Ac) (Ab (Ad al) (Ab (Ad am) (Ab Ac (Ab Ac (Ab Ac Ac))))))):rep hl r_ _) ex39) fun nt hn oh gv bg en=>?_
   replace an:=an.mono (XU (XU (XU a8 ay) bk) bg)
   replace ao:=ao.mono (XU (XU (XU a8 ay) bk) bg)
   replace ap:=ap.mono (XU (XU (XU a8 ay) bk) bg)
   obtain⟨_,rfl,⟨_,_,rfl,⟨br,bz,rfl,e1⟩,⟨_,_,rfl,⟨_,_,rfl,rfl,rfl⟩,⟨_,_,rfl,⟨bs,b0,rfl,e2⟩,⟨_,_,rfl,⟨bt,b1,rfl,e3⟩,⟨_,_,rfl,rfl,⟨_,_,rfl,rfl,⟨_,_,rfl,rfl,rfl⟩⟩⟩⟩⟩⟩⟩⟩:=gv
   refine⟨.one (.agg (QS br x39 bz bs b0 bt b1)),rfl,fun la (h6:Kn 133 [(i,0),(k,0),(l,0)] [tA 39 (QS br x39 bz bs b0 bt b1),tA 42 (Dh ab t_ ah ac ai ad aj),tA 40 (Di y a ae z af aa ag),tA 38 (BY m r_ s p u q x),tI 9 x34.2,tS 8 d x34.1.length e,tI 7 x26,tP 5 2 0,tP 4 1 0,tP 3 0 0] la)=>hK _ _ en.plOk ?_⟩
   obtain⟨x41,ex41,H⟩:=Am H
   refine Dl 3 fun K hK=>?_
   refine wc [.agg (Di y a ae z af aa ag)] h6 en (Lp n en.has a ((Ab (Ad an) (Ab (Ad ao) (Ad ap))):rep hn a _) ex41) fun nu ho oi gw a2 eo=>?_
   replace aq:=aq.mono (XU (XU (XU ay bk) bg) a2)
   replace ar:=ar.mono (XU (XU (XU ay bk) bg) a2)
   replace au:=au.mono (XU (XU (XU ay bk) bg) a2)
   obtain⟨_,rfl,⟨_,_,rfl,⟨b8,ce,rfl,e4⟩,⟨_,_,rfl,⟨b9,cf,rfl,e5⟩,⟨ca,cg,rfl,e6⟩⟩⟩⟩:=gw
   refine⟨.one (.agg (RH b8 x41 ce b9 cf ca cg)),rfl,fun lb (h7:Kn 133 [(i,0),(k,0),(l,0)] [tA 41 (RH b8 x41 ce b9 cf ca cg),tA 39 (QS br x39 bz bs b0 bt b1),tA 42 (Dh ab t_ ah ac ai ad aj),tA 40 (Di y a ae z af aa ag),tA 38 (BY m r_ s p u q x),tI 9 x34.2,tS 8 d x34.1.length e,tI 7 x26,tP 5 2 0,tP 4 1 0,tP 3 0 0] lb)=>hK _ _ eo.plOk ?_⟩
   obtain⟨x43,ex43,H⟩:=Am H
   refine Dl 5 fun K hK=>?_
   refine wc [.agg (Dh ab t_ ah ac ai ad aj)] h7 eo (Kx n eo.has t_ ((Ab (Ad aq) (Ab (Ad ar) (Ad au))):rep ho t_ _) ex43) fun nv d1 oj gx ax ep=>?_
   replace e1:=e1.mono (XU a2 ax)
   replace e2:=e2.mono (XU a2 ax)
   replace e3:=e3.mono (XU a2 ax)
   replace e4:=e4.mono ax
   replace e5:=e5.mono ax
   replace e6:=e6.mono ax
   obtain⟨_,rfl,⟨_,_,rfl,⟨dg,dp,rfl,kv⟩,⟨_,_,rfl,⟨dh,dq,rfl,kw⟩,⟨di,dr,rfl,kx⟩⟩⟩⟩:=gx
   refine⟨.one (.agg [.slice dg x43.tm.length dp,.slice dh x43.turns.length dq,.slice di x43.legs.length dr]),rfl,fun lc (h8:Kn 133 [(i,0),(k,0),(l,0)] [tA 43 [.slice dg x43.tm.length dp,.slice dh x43.turns.length dq,.slice di x43.legs.length dr],tA 41 (RH b8 x41 ce b9 cf ca cg),tA 39 (QS br x39 bz bs b0 bt b1),tA 42 (Dh ab t_ ah ac ai ad aj),tA 40 (Di y a ae z af aa ag),tA 38 (BY m r_ s p u q x),tI 9 x34.2,tS 8 d x34.1.length e,tI 7 x26,tP 5 2 0,tP 4 1 0,tP 3 0 0] lc)=>hK _ _ ep.plOk ?_⟩
   obtain⟨x44,ex44,H⟩:=Am H
   refine Dl 6 fun K hK=>?_
   refine wc [.agg (QS br x39 bz bs b0 bt b1),.agg (RH b8 x41 ce b9 cf ca cg),.agg [.slice dg x43.tm.length dp,.slice dh x43.turns.length dq,.slice di x43.legs.length dr]] h8 ep (LC n ep.has x39 ((Ab (Ad e1) (Ab (Ab Ac Ac) (Ab (Ad e2) (Ab (Ad e3) (Ab Ac (Ab Ac (Ab Ac Ac))))))):rep d1 x39 _) x41 ((Ab (Ad e4) (Ab (Ad e5) (Ad e6))):rep d1 x41 _) x43 ((Ab (Ad kv) (Ab (Ad kw) (Ad kx))):rep d1 x43 _) ex44) fun nw fh ok gy bh da=>?_
   replace ak:=ak.mono (XU (XU (XU bg a2) ax) bh)
   replace al:=al.mono (XU (XU (XU bg a2) ax) bh)
   replace am:=am.mono (XU (XU (XU bg a2) ax) bh)
   replace an:=an.mono (XU (XU a2 ax) bh)
   replace ao:=ao.mono (XU (XU a2 ax) bh)
   replace ap:=ap.mono (XU (XU a2 ax) bh)
   obtain⟨_,_,rfl,⟨f,g,rfl,a0⟩,rfl⟩:=gy
   refine⟨.tup [.c (.slice f x44.1.length g),.c (.int .i64 x44.2)],rfl,fun ld (h9:Kn 133 [(i,0),(k,0),(l,0)] [(44,.tup [.c (.slice f x44.1.length g),.c (.int .i64 x44.2)]),tA 43 [.slice dg x43.tm.length dp,.slice dh x43.turns.length dq,.slice di x43.legs.length dr],tA 41 (RH b8 x41 ce b9 cf ca cg),tA 39 (QS br x39 bz bs b0 bt b1),tA 42 (Dh ab t_ ah ac ai ad aj),tA 40 (Di y a ae z af aa ag),tA 38 (BY m r_ s p u q x),tI 9 x34.2,tS 8 d x34.1.length e,tI 7 x26,tP 5 2 0,tP 4 1 0,tP 3 0 0] ld)=>hK _ _ da.plOk ?_⟩
   refine Dr [7,8,9,10,11] [11,10,9,8,7,6,5,3,1,4,2,0] [tI 11 x44.2,tS 10 f x44.1.length g,tI 9 x34.2,tS 8 d x34.1.length e,tI 7 x26,tP 5 2 0,tP 4 1 0,tP 3 0 0] h9 da fun mh ia=>?_
   refine Ay (by kernel_rfl) (XT (Aa (Rk 0 2 [tA 48 (Di y a ae z af aa ag),tA 47 (BY m r_ s p u q x),tI 11 x44.2,tS 10 f x44.1.length g,tI 9 x34.2,tS 8 d x34.1.length e,tI 7 x26,tP 5 2 0,tP 4 1 0,tP 3 0 0] ia da fun mi ib=>?_)))
   obtain⟨x49,ex49,H⟩:=Am H
   refine wl fun K hK=>?_
   refine wc [.agg (BY m r_ s p u q x),.agg (Di y a ae z af aa ag)] ib da (Ox n da.has r_ ((Ab (Ad ak) (Ab (Ab Ac Ac) (Ab (Ad al) (Ab (Ad am) (Ab Ac (Ab Ac (Ab Ac Ac))))))):rep fh r_ _) a ((Ab (Ad an) (Ab (Ad ao) (Ad ap))):rep fh a _) ex49) fun nx hp ol gz a9 dw=>?_
   replace ak:=ak.mono a9
   replace al:=al.mono a9
   replace am:=am.mono a9
   obtain rfl:=gz
   refine⟨.one (.c (.int .i64 x49)),rfl,fun lf (ic:Kn 133 [(i,0),(k,0),(l,0)] [tI 49 x49,tA 48 (Di y a ae z af aa ag),tA 47 (BY m r_ s p u q x),tI 11 x44.2,tS 10 f x44.1.length g,tI 9 x34.2,tS 8 d x34.1.length e,tI 7 x26,tP 5 2 0,tP 4 1 0,tP 3 0 0] lf)=>hK _ _ ?_⟩
   refine Rk 3 1 [tI 12 x49,tI 11 x44.2,tS 10 f x44.1.length g,tI 9 x34.2,tS 8 d x34.1.length e,tI 7 x26,tP 5 2 0,tP 4 1 0,tP 3 0 0] ic dw fun mj ie=>?_
   refine wf (XT (XT (Aa (Rk 0 2 ((tA 51 (BY m r_ s p u q x))::(tI 50 x26)::(tI 12 x49)::(Hb x44 f g x34 d e)) ie dw fun mk ig=>?_))))
   obtain⟨x52,ex52,H⟩:=Am H
   refine wl fun K hK=>?_
   refine wc [.agg (BY m r_ s p u q x)] ig dw (Kv n dw.has r_ ((Ab (Ad ak) (Ab (Ab Ac Ac) (Ab (Ad al) (Ab (Ad am) (Ab Ac (Ab Ac (Ab Ac Ac))))))):rep hp r_ _) ex52) fun ny d2 om g0 ba bn=>?_
   replace ak:=ak.mono ba
   replace al:=al.mono ba
   replace am:=am.mono ba
   replace an:=an.mono (XU a9 ba)
   replace ao:=ao.mono (XU a9 ba)
   replace ap:=ap.mono (XU a9 ba)
   replace aq:=aq.mono (XU (XU (XU ax bh) a9) ba)
   replace ar:=ar.mono (XU (XU (XU ax bh) a9) ba)
   replace au:=au.mono (XU (XU (XU ax bh) a9) ba)
   replace az:=az.mono (XU (XU (XU (XU (XU bg a2) ax) bh) a9) ba)
   replace a0:=a0.mono (XU a9 ba)
   obtain rfl:=g0
   refine⟨.one (.c (.int .i64 x52)),rfl,fun lg (ih:Kn 133 [(i,0),(k,0),(l,0)] ((tI 52 x52)::(tA 51 (BY m r_ s p u q x))::(tI 50 x26)::(tI 12 x49)::(Hb x44 f g x34 d e)) lg)=>hK _ _ ?_⟩
   refine Rk 3 1 ((tB 53 (x26 != x52))::(tI 12 x49)::(Hb x44 f g x34 d e)) ih bn fun ml ed=>?_
   refine wf (wC ((x26 != x52)) ed (fun d6=>?_) (fun d6=>?_))
   ·
    rw [d6,XW] at H
    refine XT (Aa (Rk 0 1 [tB 6 false] ed bn fun mm ii=>?_))
    refine wf (wp_ret ?_)
    obtain rfl:=XZ H
    exact rt (.one (.c (.bool false))) ii bn rfl
   ·
    rw [d6,XV] at H
    refine wp_skip (XT (XT ?_))
    obtain⟨f9,cr,H⟩:=Am H
    refine Ap (fun a' w'=>∃ (e9:Array Value)(du:Ae),a' = ⟨e9,[]⟩∧Kn 133 [(i,0),(k,0),(l,0)] [tI 12 x49,tI 11 x44.2,tS 10 f x44.1.length g,tI 9 x34.2,tS 8 d x34.1.length e,tP 5 2 0,tP 4 1 0,tP 3 0 0,tB 61 f9] e9∧Ai ⟨w,h,A3⟩ du [(i,0),(k,0),(l,0)] [⟨BY m r_ s p u q x,some 28⟩,⟨Di y a ae z af aa ag,some 32⟩,⟨Dh ab t_ ah ac ai ad aj,some 38⟩] [] w'∧Ae.le d2 du) ?_ ?_
    ·
     refine Aa (Rk 0 3 ((tB 56 (x49 == 0))::(tI 12 x49)::(Hb x44 f g x34 d e)) ed bn fun gf fj=>?_)
     rcases Bool.eq_false_or_eq_true ((x49 == 0)) with c1 | c1
     ·
      rw [c1,XW] at cr
      have ij:Kn 133 [(i,0),(k,0),(l,0)] ((tB 56 true)::(tI 12 x49)::(Hb x44 f g x34 d e)) gf:=(fj.setB 56 true (by rfl) c1).kp
      refine Rk 3 2 ((tA 58 (Dh ab t_ ah ac ai ad aj))::(tA 57 (BY m r_ s p u q x))::(tB 56 true)::(tI 12 x49)::(Hb x44 f g x34 d e)) ij bn fun mn fk=>?_
      obtain⟨x59,ex59,cr⟩:=Am cr
      refine A9 _ rfl (Ak fk (by kernel_rfl)) fun K hK=>?_
      refine wc [.agg (BY m r_ s p u q x),.agg (Dh ab t_ ah ac ai ad aj)] fk bn (Ps n bn.has r_ ((Ab (Ad ak) (Ab (Ab Ac Ac) (Ab (Ad al) (Ab (Ad am) (Ab Ac (Ab Ac (Ab Ac Ac))))))):rep d2 r_ _) t_ ((Ab (Ad aq) (Ab (Ad ar) (Ad au))):rep d2 t_ _) ex59) fun nz l1 oo g1 kc f1=>?_
      obtain rfl:=g1
      refine⟨.one (.c (.bool x59)),rfl,fun li (ik:Kn 133 [(i,0),(k,0),(l,0)] ((tB 59 x59)::(tA 58 (Dh ab t_ ah ac ai ad aj))::(tA 57 (BY m r_ s p u q x))::(tB 56 true)::(tI 12 x49)::(Hb x44 f g x34 d e)) li)=>hK _ _ ?_⟩
      refine Rk 6 2 ((tB 61 (!x59))::(tI 12 x49)::(Hb x44 f g x34 d e)) ik f1 fun mo il=>?_
      refine wf ?_
      obtain rfl:=XZ cr
      exact XY _ ⟨_,rfl,il.kp,f1,kc⟩
     ·
      rw [c1,XV] at cr
      have im:Kn 133 [(i,0),(k,0),(l,0)] ((tB 56 false)::(tI 12 x49)::(Hb x44 f g x34 d e)) gf:=(fj.setB 56 false (by rfl) c1).kp
      refine Rk 3 5 ((tB 61 false)::(tI 12 x49)::(Hb x44 f g x34 d e)) im bn fun mp io=>?_
      refine wf ?_
      obtain rfl:=XZ cr
      exact XY _ ⟨_,rfl,io.kp,bn,Ae.le_refl _⟩
    ·
     rintro _ oq ⟨e9,du,rfl,ee,er,bb⟩
     replace ak:=ak.mono bb
     replace al:=al.mono bb
     replace am:=am.mono bb
     replace an:=an.mono bb
     replace ao:=ao.mono bb
     replace ap:=ap.mono bb
     replace aq:=aq.mono bb
     replace ar:=ar.mono bb
     replace au:=au.mono bb
     replace az:=az.mono bb
     replace a0:=a0.mono bb
     obtain⟨bf,dt,H⟩:=Am H
     refine Ap (fun a' w'=>∃ (fa:Array Value)(ct:Ae),a' = ⟨fa,[]⟩∧Kn 133 [(i,0),(k,0),(l,0)] ((tI 12 bf)::(Hb x44 f g x34 d e)) fa∧Ai ⟨w,h,A3⟩ ct [(i,0),(k,0),(l,0)] [⟨BY m r_ s p u q x,some 28⟩,⟨Di y a ae z af aa ag,some 32⟩,⟨Dh ab t_ ah ac ai ad aj,some 38⟩] [] w'∧Ae.le du ct) ?_ ?_
     ·
      refine wC (f9) ee (fun d7=>?_) (fun d7=>?_)
      ·
       rw [d7,XW] at dt
       refine Aa (Rk 0 1 ((tI 12 2)::(Hb x44 f g x34 d e)) ee er fun mq iq=>?_)
       refine wf ?_
       obtain rfl:=XZ dt
       exact XY _ ⟨_,rfl,iq.kp,er,Ae.le_refl _⟩
      ·
       rw [d7,XV] at dt
       refine wp_skip ?_
       obtain rfl:=XZ dt
       exact XY _ ⟨_,rfl,ee.kp,er,Ae.le_refl _⟩
     ·
      rintro _ os ⟨fa,ct,rfl,ir,aw,bc⟩
      replace ak:=ak.mono bc
      replace al:=al.mono bc
      replace am:=am.mono bc
      replace an:=an.mono bc
      replace ao:=ao.mono bc
      replace ap:=ap.mono bc
      replace aq:=aq.mono bc
      replace ar:=ar.mono bc
      replace au:=au.mono bc
      replace az:=az.mono bc
      replace a0:=a0.mono bc
      refine XT (XT (Aa (Rk 0 2 ((tB 63 (bf != 0))::(tI 12 bf)::(Hb x44 f g x34 d e)) ir aw fun mr ef=>?_)))
      refine wf (wC ((bf != 0)) ef (fun d8=>?_) (fun d8=>?_))
      ·
       rw [d8,XW] at H
       refine XT ?_
       obtain⟨ga,a7,H⟩:=Am H
       refine Ap (fun a' w'=>∃ (fb:Array Value)(d3:Ae),a' = ⟨fb,[]⟩∧Kn 133 [(i,0),(k,0),(l,0)] [tB 6 ga] fb∧Ai ⟨w,h,A3⟩ d3 [(i,0),(k,0),(l,0)] [⟨BY m r_ s p u q x,some 28⟩,⟨Di y a ae z af aa ag,some 32⟩,⟨Dh ab t_ ah ac ai ad aj,some 38⟩] [] w'∧Ae.le ct d3) ?_ ?_
       ·
        refine Aa (Rk 0 4 [tB 67 (x34.2 == bf),tI 12 bf,tI 11 x44.2,tS 10 f x44.1.length g,tS 8 d x34.1.length e] ef aw fun gg fl=>?_)
        rcases Bool.eq_false_or_eq_true ((x34.2 == bf)) with c2 | c2
        ·
         rw [c2,XW] at a7
         have iu:Kn 133 [(i,0),(k,0),(l,0)] [tB 67 true,tI 12 bf,tI 11 x44.2,tS 10 f x44.1.length g,tS 8 d x34.1.length e] gg:=(fl.setB 67 true (by rfl) c2).kp
         refine Rk 4 5 [tB 72 (x44.2 == bf),tS 10 f x44.1.length g,tS 8 d x34.1.length e] iu aw fun gh fm=>?_
         rcases Bool.eq_false_or_eq_true ((x44.2 == bf)) with c3 | c3
         ·
          rw [c3,XW] at a7
          have iv:Kn 133 [(i,0),(k,0),(l,0)] [tB 72 true,tS 10 f x44.1.length g,tS 8 d x34.1.length e] gh:=(fm.setB 72 true (by rfl) c3).kp
          refine Rk 9 8 [tB 80 ((IntKind.i64.wrap (((x34.1.length:Nat):Int)+((x44.1.length:Nat):Int))) == 0)] iv aw fun gi fn=>?_
          rcases Bool.eq_false_or_eq_true (((IntKind.i64.wrap (((x34.1.length:Nat):Int)+((x44.1.length:Nat):Int))) == 0)) with c4 | c4
          ·
           rw [c4,XW] at a7
           have fo:Kn 133 [(i,0),(k,0),(l,0)] [tB 80 true] gi:=(fn.setB 80 true (by rfl) c4).kp
           obtain⟨x81,ex81,a7⟩:=Am a7
           refine A9 _ rfl (Ak fo (by kernel_rfl)) fun K hK=>?_
           refine wc [] fo aw (Hy n aw.has  ex81) fun n0 l2 ot g2 kd f2=>?_
           obtain rfl:=g2
           refine⟨.one (.c (.bool x81)),rfl,fun lk (iw:Kn 133 [(i,0),(k,0),(l,0)] [tB 81 x81,tB 80 true] lk)=>hK _ _ ?_⟩
           refine Rk 18 2 [tB 6 x81] iw f2 fun ms ix=>?_
           refine wf ?_
           obtain rfl:=XZ a7
           exact XY _ ⟨_,rfl,ix.kp,f2,kd⟩
          ·
           rw [c4,XV] at a7
           have iy:Kn 133 [(i,0),(k,0),(l,0)] [tB 80 false] gi:=(fn.setB 80 false (by rfl) c4).kp
           refine Rk 17 3 [tB 6 false] iy aw fun mt iz=>?_
           refine wf ?_
           obtain rfl:=XZ a7
           exact XY _ ⟨_,rfl,iz.kp,aw,Ae.le_refl _⟩
         ·
          rw [c3,XV] at a7
          have i0:Kn 133 [(i,0),(k,0),(l,0)] [tB 72 false,tS 10 f x44.1.length g,tS 8 d x34.1.length e] gh:=(fm.setB 72 false (by rfl) c3).kp
          refine Rk 9 11 [tB 6 false] i0 aw fun mu i1=>?_
          refine wf ?_
          obtain rfl:=XZ a7
          exact XY _ ⟨_,rfl,i1.kp,aw,Ae.le_refl _⟩
        ·
         rw [c2,XV] at a7
         have i2:Kn 133 [(i,0),(k,0),(l,0)] [tB 67 false,tI 12 bf,tI 11 x44.2,tS 10 f x44.1.length g,tS 8 d x34.1.length e] gg:=(fl.setB 67 false (by rfl) c2).kp
         refine Rk 4 16 [tB 6 false] i2 aw fun mv i3=>?_
         refine wf ?_
         obtain rfl:=XZ a7
         exact XY _ ⟨_,rfl,i3.kp,aw,Ae.le_refl _⟩
       ·
        rintro _ ov ⟨fb,d3,rfl,i4,ki,l9⟩
        refine wp_ret ?_
        obtain rfl:=XZ H
        exact rt (.one (.c (.bool ga))) i4 ki rfl
      ·
       rw [d8,XV] at H
       refine wp_skip (XT (XT ?_))
       obtain⟨gb,a1,H⟩:=Am H
       refine Ap (fun a' w'=>∃ (fc:Array Value)(c0:Ae),a' = ⟨fc,[]⟩∧Kn 133 [(i,0),(k,0),(l,0)] [tS 10 f x44.1.length g,tS 8 d x34.1.length e,tP 5 2 0,tP 4 1 0,tP 3 0 0,tB 102 gb] fc∧Ai ⟨w,h,A3⟩ c0 [(i,0),(k,0),(l,0)] [⟨BY m r_ s p u q x,some 28⟩,⟨Di y a ae z af aa ag,some 32⟩,⟨Dh ab t_ ah ac ai ad aj,some 38⟩] [] w'∧Ae.le ct c0) ?_ ?_
       ·
        refine Aa (Rk 0 3 ((tB 85 (x34.2 != 0))::(tI 11 x44.2)::(Ed f x44 g d x34 e)) ef aw fun gj fp=>?_)
        rcases Bool.eq_false_or_eq_true ((x34.2 != 0)) with c5 | c5
        ·
         rw [c5,XW] at a1
         have i6:Kn 133 [(i,0),(k,0),(l,0)] ((tB 85 true)::(tI 11 x44.2)::(Ed f x44 g d x34 e)) gj:=(fp.setB 85 true (by rfl) c5).kp
         refine Rk 3 17 ((tB 102 true)::(Ed f x44 g d x34 e)) i6 aw fun mw i7=>?_
         refine wf ?_
         obtain rfl:=XZ a1
         exact XY _ ⟨_,rfl,i7.kp,aw,Ae.le_refl _⟩
        ·
         rw [c5,XV] at a1
         have i8:Kn 133 [(i,0),(k,0),(l,0)] ((tB 85 false)::(tI 11 x44.2)::(Ed f x44 g d x34 e)) gj:=(fp.setB 85 false (by rfl) c5).kp
         refine Rk 3 4 ((tB 89 (x44.2 != 0))::(Ed f x44 g d x34 e)) i8 aw fun gk fq=>?_
         rcases Bool.eq_false_or_eq_true ((x44.2 != 0)) with c6 | c6
         ·
          rw [c6,XW] at a1
          have i9:Kn 133 [(i,0),(k,0),(l,0)] ((tB 89 true)::(Ed f x44 g d x34 e)) gk:=(fq.setB 89 true (by rfl) c6).kp
          refine Rk 7 13 ((tB 102 true)::(Ed f x44 g d x34 e)) i9 aw fun mx ja=>?_
          refine wf ?_
          obtain rfl:=XZ a1
          exact XY _ ⟨_,rfl,ja.kp,aw,Ae.le_refl _⟩
         ·
          rw [c6,XV] at a1
          have jb:Kn 133 [(i,0),(k,0),(l,0)] ((tB 89 false)::(Ed f x44 g d x34 e)) gk:=(fq.setB 89 false (by rfl) c6).kp
          refine Rk 7 3 ((tA 92 (BY m r_ s p u q x))::(tI 91 ((x34.1.length:Nat):Int))::(tB 89 false)::(Ed f x44 g d x34 e)) jb aw fun my fs=>?_
          obtain⟨x93,ex93,a1⟩:=Am a1
          refine A9 _ rfl (Ak fs (by kernel_rfl)) fun K hK=>?_
          refine wc [.agg (BY m r_ s p u q x)] fs aw (ES n aw.has r_ ((Ab (Ad ak) (Ab (Ab Ac Ac) (Ab (Ad al) (Ab (Ad am) (Ab Ac (Ab Ac (Ab Ac Ac))))))):rep ct r_ _) ex93) fun n1 hq ow g3 a3 cw=>?_
          replace ak:=ak.mono a3
          replace al:=al.mono a3
          replace am:=am.mono a3
          replace an:=an.mono a3
          replace ao:=ao.mono a3
          replace ap:=ap.mono a3
          replace aq:=aq.mono a3
          replace ar:=ar.mono a3
          replace au:=au.mono a3
          replace az:=az.mono a3
          replace a0:=a0.mono a3
          obtain rfl:=g3
          refine⟨.one (.c (.int .i64 x93)),rfl,fun ll (jc:Kn 133 [(i,0),(k,0),(l,0)] ((tI 93 x93)::(tA 92 (BY m r_ s p u q x))::(tI 91 ((x34.1.length:Nat):Int))::(tB 89 false)::(Ed f x44 g d x34 e)) ll)=>hK _ _ ?_⟩
          refine Rk 11 3 ((tB 96 (((x34.1.length:Nat):Int) != x93))::(Ed f x44 g d x34 e)) jc cw fun gl ft=>?_
          rcases Bool.eq_false_or_eq_true ((((x34.1.length:Nat):Int) != x93)) with c7 | c7
          ·
           rw [c7,XW] at a1
           have jd:Kn 133 [(i,0),(k,0),(l,0)] ((tB 96 true)::(Ed f x44 g d x34 e)) gl:=(ft.setB 96 true (by rfl) c7).kp
           refine Rk 14 6 ((tB 102 true)::(Ed f x44 g d x34 e)) jd cw fun mz je=>?_
           refine wf ?_
           obtain rfl:=XZ a1
           exact XY _ ⟨_,rfl,je.kp,cw,a3⟩
          ·
           rw [c7,XV] at a1
           have jf:Kn 133 [(i,0),(k,0),(l,0)] ((tB 96 false)::(Ed f x44 g d x34 e)) gl:=(ft.setB 96 false (by rfl) c7).kp
           refine Rk 14 3 ((tA 99 (BY m r_ s p u q x))::(tI 98 ((x44.1.length:Nat):Int))::(tB 96 false)::(Ed f x44 g d x34 e)) jf cw fun m0 fu=>?_
           obtain⟨x100,ex100,a1⟩:=Am a1
           refine A9 _ rfl (Ak fu (by kernel_rfl)) fun K hK=>?_
           refine wc [.agg (BY m r_ s p u q x)] fu cw (ES n cw.has r_ ((Ab (Ad ak) (Ab (Ab Ac Ac) (Ab (Ad al) (Ab (Ad am) (Ab Ac (Ab Ac (Ab Ac Ac))))))):rep hq r_ _) ex100) fun n2 l3 ox g4 ke f3=>?_
           obtain rfl:=g4
           refine⟨.one (.c (.int .i64 x100)),rfl,fun ln (jg:Kn 133 [(i,0),(k,0),(l,0)] ((tI 100 x100)::(tA 99 (BY m r_ s p u q x))::(tI 98 ((x44.1.length:Nat):Int))::(tB 96 false)::(Ed f x44 g d x34 e)) ln)=>hK _ _ ?_⟩
           refine Rk 18 2 ((tB 102 (((x44.1.length:Nat):Int) != x100))::(Ed f x44 g d x34 e)) jg f3 fun m1 jh=>?_
           refine wf ?_
           obtain rfl:=XZ a1
           exact XY _ ⟨_,rfl,jh.kp,f3,XU a3 ke⟩
       ·
        rintro _ oz ⟨fc,c0,rfl,eg,dx,bd⟩
        replace ak:=ak.mono bd
        replace al:=al.mono bd
        replace am:=am.mono bd
        replace an:=an.mono bd
        replace ao:=ao.mono bd
        replace ap:=ap.mono bd
        replace aq:=aq.mono bd
        replace ar:=ar.mono bd
        replace au:=au.mono bd
        replace az:=az.mono bd
        replace a0:=a0.mono bd
        refine wC (gb) eg (fun d9=>?_) (fun d9=>?_)
        ·
         rw [d9,XW] at H
         refine XT (Aa (Rk 0 1 [tB 6 false] eg dx fun m2 ji=>?_))
         refine wf (wp_ret ?_)
         obtain rfl:=XZ H
         exact rt (.one (.c (.bool false))) ji dx rfl
        ·
         rw [d9,XV] at H
         refine wp_skip (XT (XT (Aa (Rk 0 1 ((tI 13 0)::(Ed f x44 g d x34 e)) eg dx fun m3 jk=>?_))))
         refine wf ?_
         obtain⟨gc,fg,H⟩:=Am H
         refine Ap (fun a' w'=>∃ (gd:Unit)(fd:Array Value)(d4:Ae),a' = ⟨fd,[]⟩∧Kn 133 [(i,0),(k,0),(l,0)] [] fd∧Ai ⟨w,h,A3⟩ d4 [(i,0),(k,0),(l,0)] [⟨BY m r_ s p u q x,some 28⟩,⟨Di y a ae z af aa ag,some 32⟩,⟨Dh ab t_ ah ac ai ad aj,some 38⟩] [] w'∧Ae.le c0 d4∧gc=.go gd) ?_ ?_
         ·
          refine wp_block ?_
          refine An (fun k3 a' w'=>∃ (x_v10:Int)(fe:Array Value)(cu:Ae),a' = ⟨fe,[]⟩∧Kn 133 [(i,0),(k,0),(l,0)] ((tI 13 x_v10)::(Ed f x44 g d x34 e)) fe∧Ai ⟨w,h,A3⟩ cu [(i,0),(k,0),(l,0)] [⟨BY m r_ s p u q x,some 28⟩,⟨Di y a ae z af aa ag,some 32⟩,⟨Dh ab t_ ah ac ai ad aj,some 38⟩] [] w'∧Ae.le c0 cu∧B0 k3 r_ a t_ x34 x44 x_v10=some gc) n ?_ ?_
          ·
           exact XY 0 ⟨_,_,rfl,jk.kp,dx,Ae.le_refl _,fg⟩
          ·
           rintro cz _ o0 ⟨x_v10,fe,cu,rfl,jl,ci,a4,av⟩
           clear fg
           obtain _ | cz:=cz
           ·
            rw [B0] at av; cases av
           rw [B0] at av
           replace ak:=ak.mono a4
           replace al:=al.mono a4
           replace am:=am.mono a4
           replace an:=an.mono a4
           replace ao:=ao.mono a4
           replace ap:=ap.mono a4
           replace aq:=aq.mono a4
           replace ar:=ar.mono a4
           replace au:=au.mono a4
           replace az:=az.mono a4
           replace a0:=a0.mono a4
           refine XT (XT (Aa (Rk 0 4 ((tB 106 (decide (x_v10<((x34.1.length:Nat):Int))))::(tI 13 x_v10)::(Ed f x44 g d x34 e)) jl ci fun m4 eh=>?_)))
           refine wf (wC (decide (x_v10<((x34.1.length:Nat):Int))) eh (fun ea=>?_) (fun ea=>?_))
           ·
            rw [ea,XW] at av
            refine wp_skip (XT (wp_block (XT (Al (by kernel_rfl) ?_))))
            replace ci:=ci.drew
            refine Ao [] [(i,0),(k,0),(l,0)] [⟨BY m r_ s p u q x,some 28⟩,⟨Di y a ae z af aa ag,some 32⟩,⟨Dh ab t_ ah ac ai ad aj,some 38⟩] ?_
            refine Dr [0,1] [1,0] ((tI 110 x_v10)::(tS 109 d x34.1.length e)::(tI 13 x_v10)::(Ed f x44 g d x34 e)) eh ci fun m6 jm=>?_
            obtain⟨x111,ex111,av⟩:=Am av
            obtain⟨kk,km,k1⟩:=Ah ex111
            obtain⟨bu,b4,lz,hs,kz,hu⟩:=az.get (by decide) k1
            obtain⟨cm,cq,rfl,dc⟩:=kz
            have es:=ci.addPlc (b:=bu) (o:=b4+(x_v10:Int).toNat*1) (cs:=[.slice cm x111.length cq]) (fun j c hj=>hu j _ (Aj hj)) rfl (by kernel_rfl) (by kernel_rfl)
            refine At 2 (x_v10) [.slice cm x111.length cq] (fun _ _ _ _ _ h=>h) rfl rfl (rfl) rfl (by decide) (by kernel_rfl) (by kernel_rfl) jm ci.plOk (by rfl) (by rfl) (by rfl) hs (by rfl) kk km (by kernel_rfl) fun lp (jo:Kn 133 [(i,0),(k,0),(l,0),(bu,b4+(x_v10:Int).toNat*1)] ((tP 111 3 0)::(tI 110 x_v10)::(tS 109 d x34.1.length e)::(tI 13 x_v10)::(Ed f x44 g d x34 e)) lp)=>?_
            refine Dr [3,4,5,6,7] (dn 7) ((tI 116 x_v10)::(tA 115 (Dh ab t_ ah ac ai ad aj))::(tA 114 (Di y a ae z af aa ag))::(tA 113 (BY m r_ s p u q x))::(tS 112 cm x111.length cq)::(tI 13 x_v10)::(Ed f x44 g d x34 e)) jo es fun m7 jp=>?_
            obtain⟨x117,ex117,av⟩:=Am av
            refine Dl 8 fun K hK=>?_
            refine wc [.agg (BY m r_ s p u q x),.agg (Di y a ae z af aa ag),.agg (Dh ab t_ ah ac ai ad aj),.c (.int .i64 x_v10)] jp es (Ky cz es.has r_ ((Ab (Ad ak) (Ab (Ab Ac Ac) (Ab (Ad al) (Ab (Ad am) (Ab Ac (Ab Ac (Ab Ac Ac))))))):rep cu r_ _) a ((Ab (Ad an) (Ab (Ad ao) (Ad ap))):rep cu a _) t_ ((Ab (Ad aq) (Ab (Ad ar) (Ad au))):rep cu t_ _) x_v10 ex117) fun n3 l4 o1 g5 a5 et=>?_
            replace dc:=dc.mono a5
            obtain⟨dj,ds,rfl,ky⟩:=g5
            refine⟨.one (.c (.slice dj x117.length ds)),rfl,fun lq (jq:Kn 133 [(i,0),(k,0),(l,0),(bu,b4+(x_v10:Int).toNat*1)] ((tS 117 dj x117.length ds)::(tI 116 x_v10)::(tA 115 (Dh ab t_ ah ac ai ad aj))::(tA 114 (Di y a ae z af aa ag))::(tA 113 (BY m r_ s p u q x))::(tS 112 cm x111.length cq)::(tI 13 x_v10)::(Ed f x44 g d x34 e)) lq)=>hK _ _ et.plOk ?_⟩
            obtain⟨x118,ex118,av⟩:=Am av
            refine Dl 9 fun K hK=>?_
            refine wc [.c (.slice cm x111.length cq),.c (.slice dj x117.length ds)] jq et (Gz cz et.has x111 dc x117 ky ex118) fun n4 d5 o2 g6 a6 b3=>?_
            replace ak:=ak.mono (XU a5 a6)
            replace al:=al.mono (XU a5 a6)
            replace am:=am.mono (XU a5 a6)
            replace an:=an.mono (XU a5 a6)
            replace ao:=ao.mono (XU a5 a6)
            replace ap:=ap.mono (XU a5 a6)
            replace aq:=aq.mono (XU a5 a6)
            replace ar:=ar.mono (XU a5 a6)
            replace au:=au.mono (XU a5 a6)
            replace az:=az.mono (XU a5 a6)
            replace a0:=a0.mono (XU a5 a6)
            replace dc:=dc.mono a6
            obtain rfl:=g6
            refine⟨.one (.c (.bool x118)),rfl,fun lr (jr:Kn 133 [(i,0),(k,0),(l,0),(bu,b4+(x_v10:Int).toNat*1)] ((tB 118 x118)::(tS 117 dj x117.length ds)::(tI 116 x_v10)::(tA 115 (Dh ab t_ ah ac ai ad aj))::(tA 114 (Di y a ae z af aa ag))::(tA 113 (BY m r_ s p u q x))::(tS 112 cm x111.length cq)::(tI 13 x_v10)::(Ed f x44 g d x34 e)) lr)=>hK _ _ b3.plOk ?_⟩
            refine Dr [10,11] (dn 11) ((tB 120 (!x118))::(tI 13 x_v10)::(Ed f x44 g d x34 e)) jr b3 fun gm fv=>?_
            rcases Bool.eq_false_or_eq_true ((!x118)) with c8 | c8
            ·
             rw [c8,XW] at av
             have js:Kn 133 [(i,0),(k,0),(l,0),(bu,b4+(x_v10:Int).toNat*1)] ((tB 120 true)::(tI 13 x_v10)::(Ed f x44 g d x34 e)) gm:=(fv.setB 120 true (by rfl) c8).kp
             refine Dr [12,13,14,15,16,17,18,19,20,21,22] (dn 22) ((tB 131 true)::(tI 13 x_v10)::(Ed f x44 g d x34 e)) js b3 fun m8 fw=>?_
             refine Ay (by kernel_rfl) (wC true fw (fun hb=>?_) (fun hb=>?_))
             rotate_left
             ·
              cases hb
             refine XT (Aa (Rk 0 1 [tB 6 false] fw b3 fun m9 jt=>?_))
             refine wf (wp_ret ?_)
             obtain rfl:=XZ av
             obtain rfl:=XZ H
             exact rt (.one (.c (.bool false))) jt b3 rfl
            ·
             rw [c8,XV] at av
             have ju:Kn 133 [(i,0),(k,0),(l,0),(bu,b4+(x_v10:Int).toNat*1)] ((tB 120 false)::(tI 13 x_v10)::(Ed f x44 g d x34 e)) gm:=(fv.setB 120 false (by rfl) c8).kp
             refine Dr [12,13] (dn 13) ((tI 122 x_v10)::(tS 121 f x44.1.length g)::(tB 120 false)::(tI 13 x_v10)::(Ed f x44 g d x34 e)) ju b3 fun na fx=>?_
             obtain⟨x123,ex123,av⟩:=Am av
             obtain⟨kl,kn,k2⟩:=Ah ex123
             obtain⟨dz,e8,l0,ht,k0,hv⟩:=a0.get (by decide) k2
             obtain rfl:=k0
             have eu:=b3.addPlc (b:=dz) (o:=e8+(x_v10:Int).toNat*1) (cs:=[.int .i64 x123]) (fun j c hj=>hv j _ (Aj hj)) rfl (by kernel_rfl) (by kernel_rfl)
             refine At 14 (x_v10) [.int .i64 x123] (fun _ _ _ _ _ h=>h) rfl rfl (Ak fx (by kernel_rfl)) rfl (by decide) (by kernel_rfl) (by kernel_rfl) fx b3.plOk (by rfl) (by rfl) (by rfl) ht (by rfl) kl kn (by kernel_rfl) fun ls (jw:Kn 133 [(i,0),(k,0),(l,0),(bu,b4+(x_v10:Int).toNat*1),(dz,e8+(x_v10:Int).toNat*1)] ((tP 123 4 0)::(tI 122 x_v10)::(tS 121 f x44.1.length g)::(tB 120 false)::(tI 13 x_v10)::(Ed f x44 g d x34 e)) ls)=>?_
             refine Dr [15,16,17,18,19] (dn 19) ((tI 128 x_v10)::(tA 127 (Dh ab t_ ah ac ai ad aj))::(tA 126 (Di y a ae z af aa ag))::(tA 125 (BY m r_ s p u q x))::(tI 124 x123)::(tB 120 false)::(tI 13 x_v10)::(Ed f x44 g d x34 e)) jw eu fun nc fy=>?_
             obtain⟨x129,ex129,av⟩:=Am av
             refine E7 20 rfl (by kernel_rfl) (by decide) (Ak fy (by kernel_rfl)) fun K hK=>?_
             refine wc [.agg (BY m r_ s p u q x),.agg (Di y a ae z af aa ag),.agg (Dh ab t_ ah ac ai ad aj),.c (.int .i64 x_v10)] fy eu (Qb cz eu.has r_ ((Ab (Ad ak) (Ab (Ab Ac Ac) (Ab (Ad al) (Ab (Ad am) (Ab Ac (Ab Ac (Ab Ac Ac))))))):rep d5 r_ _) a ((Ab (Ad an) (Ab (Ad ao) (Ad ap))):rep d5 a _) t_ ((Ab (Ad aq) (Ab (Ad ar) (Ad au))):rep d5 t_ _) x_v10 ex129) fun n5 l5 o3 g7 kf cx=>?_
             obtain rfl:=g7
             refine⟨.one (.c (.int .i64 x129)),rfl,fun lu (jx:Kn 133 [(i,0),(k,0),(l,0),(bu,b4+(x_v10:Int).toNat*1),(dz,e8+(x_v10:Int).toNat*1)] ((tI 129 x129)::(tI 128 x_v10)::(tA 127 (Dh ab t_ ah ac ai ad aj))::(tA 126 (Di y a ae z af aa ag))::(tA 125 (BY m r_ s p u q x))::(tI 124 x123)::(tB 120 false)::(tI 13 x_v10)::(Ed f x44 g d x34 e)) lu)=>hK _ _ cx.plOk ?_⟩
             refine Dr [21,22] (dn 22) ((tB 131 (x123 != x129))::(tI 13 x_v10)::(Ed f x44 g d x34 e)) jx cx fun nd ei=>?_
             refine Ay (by kernel_rfl) (wC ((x123 != x129)) ei (fun eb=>?_) (fun eb=>?_))
             ·
              rw [eb,XW] at av
              refine XT (Aa (Rk 0 1 [tB 6 false] ei cx fun nf jy=>?_))
              refine wf (wp_ret ?_)
              obtain rfl:=XZ av
              obtain rfl:=XZ H
              exact rt (.one (.c (.bool false))) jy cx rfl
             ·
              rw [eb,XV] at av
              refine wp_skip (Aa (Rk 0 3 ((tI 13 (IntKind.i64.wrap (x_v10+1)))::(Ed f x44 g d x34 e)) ei cx fun ng jz=>?_))
              refine wf ?_
              exact XY cz ⟨Nat.lt_succ_self _,XY (IntKind.i64.wrap (x_v10+1)) ⟨_,_,rfl,(jz.keep [13,10,8,5,4,3] (by rfl)).cut 3 (by kernel_rfl),cx.cutPl 3 (by kernel_rfl),XU a4 (XU a5 (XU a6 kf)),av⟩⟩
           ·
            rw [ea,XV] at av
            refine wp_exit ?_
            obtain rfl:=XZ av
            exact XY () ⟨_,_,rfl,eh.kp,ci,a4,rfl⟩
         ·
          rintro _ o4 ⟨gd,fd,d4,rfl,j0,f4,ma,rfl⟩
          rw [Ex.bind_go] at H
          refine XT (Aa ?_)
          obtain⟨x132,ex132,H⟩:=Am H
          refine wl fun K hK=>?_
          refine wc [] j0 f4 (Hy n f4.has  ex132) fun n7 l6 o5 g8 mb f5=>?_
          obtain rfl:=g8
          refine⟨.one (.c (.bool x132)),rfl,fun lv (j1:Kn 133 [(i,0),(k,0),(l,0)] [tB 132 x132] lv)=>hK _ _ ?_⟩
          refine Rk 1 1 [tB 6 x132] j1 f5 fun nh j2=>?_
          refine wf (wp_ret ?_)
          obtain rfl:=XZ H
          exact rt (.one (.c (.bool x132))) j2 f5 rfl
end Go.Proofs.YtokchpjijlebiaaGreat
