/- Each call computes its plain function. -/
import Derived.Test.YtokchpjijlebiaaGreatProg
import Derived.Test.YtokchpjijlebiaaGreatSQP0
import Derived.Test.YtokchpjijlebiaaGreatSQWB
import Derived.Test.YtokchpjijlebiaaGreatSQWB1
import Derived.Test.YtokchpjijlebiaaGreatSQWC
import Derived.Test.YtokchpjijlebiaaGreatSQWC1
import Derived.Test.YtokchpjijlebiaaGreatSQWD
import Derived.Test.YtokchpjijlebiaaGreatSQWE
import Derived.Test.YtokchpjijlebiaaGreatSQWM1
set_option linter.all false
namespace Go.Proofs.YtokchpjijlebiaaGreat
open Go Go.RowKit
open Rep (rep)
open KRep (kv)
open VRep (rv)
abbrev Db (i k z ac:Nat):Bf:=[(i,0),(k,0),(z,0),(ac,0)]
abbrev E2 (ad:Option Addr) (a:Av) (ag:Nat) (ae:Option Addr) (ah:Nat) (af:Option Addr) (ai:Nat):List SC:=[.slice ad a.holds.length ag,.slice ae a.turns.length ah,.slice af a.spares.length ai]
abbrev H6 (aj:Option Addr) (x48:Aw) (am:Nat) (ak:Option Addr) (an:Nat) (al:Option Addr) (ao:Nat):List SC:=[.slice aj x48.tm.length am,.slice ak x48.turns.length an,.slice al x48.legs.length ao]
abbrev R1 (bu:Option Addr) (x53:Av) (b8:Nat) (bv:Option Addr) (b9:Nat) (bw:Option Addr) (ca:Nat):List SC:=[.slice bu x53.holds.length b8,.slice bv x53.turns.length b9,.slice bw x53.spares.length ca]
abbrev R2 (bx:Option Addr) (x63:Av) (cb:Nat) (bz:Option Addr) (cc:Nat) (b0:Option Addr) (cd:Nat):List SC:=[.slice bx x63.holds.length cb,.slice bz x63.turns.length cc,.slice b0 x63.spares.length cd]
abbrev Fk (p:Option Addr) (r_:Af) (u:Nat) (q:Option Addr) (x:Nat) (s:Option Addr) (y:Nat):List SC:=[.slice p r_.legs.length u,.int .i64 r_.turn.lo,.int .i64 r_.turn.hi,.slice q r_.buses.length x,.slice s r_.spares.length y,.int .i64 r_.unit,.int .i64 r_.gap,.int .i64 r_.fr,.int .i64 r_.to_]
abbrev Q8 (bi:Option Addr) (x51:Af) (bo:Nat) (bj:Option Addr) (bp:Nat) (bk:Option Addr) (bq:Nat):List SC:=[.slice bi x51.legs.length bo,.int .i64 x51.turn.lo,.int .i64 x51.turn.hi,.slice bj x51.buses.length bp,.slice bk x51.spares.length bq,.int .i64 x51.unit,.int .i64 x51.gap,.int .i64 x51.fr,.int .i64 x51.to_]
abbrev Q9 (bl:Option Addr) (x61:Af) (br:Nat) (bm:Option Addr) (bs:Nat) (bn:Option Addr) (bt:Nat):List SC:=[.slice bl x61.legs.length br,.int .i64 x61.turn.lo,.int .i64 x61.turn.hi,.slice bm x61.buses.length bs,.slice bn x61.spares.length bt,.int .i64 x61.unit,.int .i64 x61.gap,.int .i64 x61.fr,.int .i64 x61.to_]
abbrev R3 (b1:Option Addr) (x71:Af) (ce:Nat) (b2:Option Addr) (cf:Nat) (b3:Option Addr) (cg:Nat):List SC:=[.slice b1 x71.legs.length ce,.int .i64 x71.turn.lo,.int .i64 x71.turn.hi,.slice b2 x71.buses.length cf,.slice b3 x71.spares.length cg,.int .i64 x71.unit,.int .i64 x71.gap,.int .i64 x71.fr,.int .i64 x71.to_]
abbrev Pd (b4:Option Addr) (x79:Af) (ch:Nat) (b5:Option Addr) (ci:Nat) (b6:Option Addr) (cj:Nat):List SC:=[.slice b4 x79.legs.length ch,.int .i64 x79.turn.lo,.int .i64 x79.turn.hi,.slice b5 x79.buses.length ci,.slice b6 x79.spares.length cj,.int .i64 x79.unit,.int .i64 x79.gap,.int .i64 x79.fr,.int .i64 x79.to_]
abbrev GO (p:Option Addr) (r_:Af) (u:Nat) (q:Option Addr) (x:Nat) (s:Option Addr) (y:Nat) (from_ end_:IK .u8):List SC:=[.slice p r_.legs.length u,.int .i64 r_.turn.lo,.int .i64 r_.turn.hi,.slice q r_.buses.length x,.slice s r_.spares.length y,.int .i64 r_.unit,.int .i64 r_.gap,.int .i64 (if (IntKind.i64.wrap (r_.fr+(IntKind.i64.wrap from_.n)))<r_.to_ then(IntKind.i64.wrap (r_.fr+(IntKind.i64.wrap from_.n))) else r_.to_),.int .i64 (if (IntKind.i64.wrap (r_.to_-(IntKind.i64.wrap end_.n)))>(if (IntKind.i64.wrap (r_.fr+(IntKind.i64.wrap from_.n)))<r_.to_ then(IntKind.i64.wrap (r_.fr+(IntKind.i64.wrap from_.n))) else r_.to_) then(IntKind.i64.wrap (r_.to_-(IntKind.i64.wrap end_.n))) else(if (IntKind.i64.wrap (r_.fr+(IntKind.i64.wrap from_.n)))<r_.to_ then(IntKind.i64.wrap (r_.fr+(IntKind.i64.wrap from_.n))) else r_.to_))]
abbrev KY (p:Option Addr) (r_:Af) (u:Nat) (q:Option Addr) (x:Nat) (s:Option Addr) (y:Nat) (ad:Option Addr) (a:Av) (ag:Nat) (ae:Option Addr) (ah:Nat) (af:Option Addr) (ai:Nat) (from_ end_:IK .u8) (aj:Option Addr) (x48:Aw) (am:Nat) (ak:Option Addr) (an:Nat) (al:Option Addr) (ao:Nat):List CE:=[⟨Fk p r_ u q x s y,some 28⟩,⟨E2 ad a ag ae ah af ai,some 32⟩,⟨GO p r_ u q x s y from_ end_,some 28⟩,⟨H6 aj x48 am ak an al ao,some 38⟩]
abbrev Cb (aa:Option Addr) (x82:(List Int)×Int) (ab:Nat) (l:Option Addr) (x74:(List Int)×Int) (m:Nat) (f:Option Addr) (x66:(List Int)×Int) (g:Nat) (d:Option Addr) (x56:(List Int)×Int) (e:Nat):TM:=[tS 19 aa x82.1.length ab,tS 17 l x74.1.length m,tS 15 f x66.1.length g,tS 13 d x56.1.length e]
set_option maxRecDepth 100000 in
set_option maxHeartbeats 4000000 in
theorem H7 (n:Nat) {h:Ae} {w:World} (hh:CG h w) (r_:Af) {cs_r_:List Value} (hx_r_:rep h r_ cs_r_) (a:Av) {cs_a:List Value} (hx_a:rep h a cs_a) (words:List (IK .u16)) {a_words:Option Addr} {c_words:Nat} (hr_words:Az h a_words c_words words) (from_:IK .u8) (end_:IK .u8) {r:Bool} (H:Dt n r_ a words from_ end_=some r) :
  Calls Tryz.prog 3 #[.agg cs_r_.toArray,.agg cs_a.toArray,.slice a_words words.length c_words,.int .u8 from_.n,.int .u8 end_.n] w (CH (fun h v=>v=.bool r) h w):=by
 obtain⟨_,_,rfl,⟨p,u,rfl,ar⟩,⟨_,_,rfl,⟨_,_,rfl,rfl,rfl⟩,⟨_,_,rfl,⟨q,x,rfl,au⟩,⟨_,_,rfl,⟨s,y,rfl,av⟩,⟨_,_,rfl,rfl,⟨_,_,rfl,rfl,⟨_,_,rfl,rfl,rfl⟩⟩⟩⟩⟩⟩⟩:=hx_r_
 obtain⟨_,_,rfl,⟨ad,ag,rfl,ax⟩,⟨_,_,rfl,⟨ae,ah,rfl,ay⟩,⟨af,ai,rfl,az⟩⟩⟩:=hx_a
 refine enter 147 [.agg (Fk p r_ u q x s y),.agg (E2 ad a ag ae ah af ai),.c (.slice a_words words.length c_words),.c (.int .u8 from_.n),.c (.int .u8 end_.n)] Tryz.func3 rfl rfl rfl rfl fun t hk=>?_
 have hm:=Ah.begin h w hh
 unfold Dt at H
 refine XT (Aa (wl fun K hK=>?_))
 refine wb (.agg (Fk p r_ u q x s y)) hk hm fun i k5 nt (h0:Kn 147 [(i,0)] [tP 5 0 0,tA 0 (Fk p r_ u q x s y),tA 1 (E2 ad a ag ae ah af ai),tS 2 a_words words.length c_words,(3,.one (.c (.int .u8 from_.n))),(4,.one (.c (.int .u8 end_.n)))] k5) j3=>hK _ _ ?_
 refine wl fun K hK=>?_
 refine wb (.agg (E2 ad a ag ae ah af ai)) h0 j3 fun k k9 nx (h6:Kn 147 [(i,0),(k,0)] [tP 6 1 0,tP 5 0 0,tA 0 (Fk p r_ u q x s y),tA 1 (E2 ad a ag ae ah af ai),tS 2 a_words words.length c_words,(3,.one (.c (.int .u8 from_.n))),(4,.one (.c (.int .u8 end_.n)))] k9) d1=>hK _ _ ?_
 refine Rk 2 1 [tP 6 1 0,tP 5 0 0,tS 2 a_words words.length c_words,(3,.one (.c (.int .u8 from_.n))),(4,.one (.c (.int .u8 end_.n)))] h6 d1 fun l9 ib=>?_
 refine wf (XT (XT (Aa (Rk 0 2 [tA 23 (E2 ad a ag ae ah af ai),tA 22 (Fk p r_ u q x s y),tP 6 1 0,tP 5 0 0,tS 2 a_words words.length c_words,(3,.one (.c (.int .u8 from_.n))),(4,.one (.c (.int .u8 end_.n)))] ib d1 fun ma ie=>?_))))
 obtain⟨x24,ex24,H⟩:=Ap H
 refine wl fun K hK=>?_
 refine wc [.agg (Fk p r_ u q x s y),.agg (E2 ad a ag ae ah af ai)] ie d1 (NV n d1.has r_ ((Ab (Ad ar) (Ab (Ab Ac Ac) (Ab (Ad au) (Ab (Ad av) (Ab Ac (Ab Ac (Ab Ac Ac))))))):rep h r_ _) a ((Ab (Ad ax) (Ab (Ad ay) (Ad az))):rep h a _) ex24) fun ng g9 n2 gv ck c8=>?_
 replace ar:=ar.mono ck
 replace au:=au.mono ck
 replace av:=av.mono ck
 replace ax:=ax.mono ck
 replace ay:=ay.mono ck
 replace az:=az.mono ck
 replace hr_words:=hr_words.mono ck
 obtain rfl:=gv
 refine⟨.one (.c (.bool x24)),rfl,fun lh (i7:Kn 147 [(i,0),(k,0)] [tB 24 x24,tA 23 (E2 ad a ag ae ah af ai),tA 22 (Fk p r_ u q x s y),tP 6 1 0,tP 5 0 0,tS 2 a_words words.length c_words,(3,.one (.c (.int .u8 from_.n))),(4,.one (.c (.int .u8 end_.n)))] lh)=>hK _ _ ?_⟩
 refine Rk 3 1 [tB 25 (!x24),tP 6 1 0,tP 5 0 0,tS 2 a_words words.length c_words,(3,.one (.c (.int .u8 from_.n))),(4,.one (.c (.int .u8 end_.n)))] i7 c8 fun mo ee=>?_
 refine wf (wC ((!x24)) ee (fun ea=>?_) (fun ea=>?_))
 ·
  rw [ea,XW] at H
  refine XT (Aa ?_)
  obtain⟨x26,ex26,H⟩:=Ap H
  refine wl fun K hK=>?_
  refine wc [] ee c8 (JS n c8.has  ex26) fun nh lx n5 gw lz fx=>?_
  obtain rfl:=gw
  refine⟨.one (.c (.bool x26)),rfl,fun ln (jn:Kn 147 [(i,0),(k,0)] [tB 26 x26,tB 25 (!x24),tP 6 1 0,tP 5 0 0,tS 2 a_words words.length c_words,(3,.one (.c (.int .u8 from_.n))),(4,.one (.c (.int .u8 end_.n)))] ln)=>hK _ _ ?_⟩
  refine Rk 1 1 [tB 10 x26] jn fx fun my jo=>?_
  refine wf (wp_ret ?_)
  obtain rfl:=XZ H
  exact rt (.one (.c (.bool x26))) jo fx rfl
 ·
  rw [ea,XV] at H
  refine wp_skip (XT (Aa (Rk 0 1 [tA 27 (Fk p r_ u q x s y),tP 6 1 0,tP 5 0 0,tS 2 a_words words.length c_words,(3,.one (.c (.int .u8 from_.n))),(4,.one (.c (.int .u8 end_.n)))] ee c8 fun mz jp=>?_)))
  refine wl fun K hK=>?_
  refine wa [.slice none 0 0,.int .i64 0,.int .i64 0,.slice none 0 0,.slice none 0 0,.int .i64 0,.int .i64 0,.int .i64 0,.int .i64 0] jp c8 fun z gc n8 (jq:Kn 147 [(i,0),(k,0),(z,0)] [tP 11 2 0,tA 27 (Fk p r_ u q x s y),tP 6 1 0,tP 5 0 0,tS 2 a_words words.length c_words,(3,.one (.c (.int .u8 from_.n))),(4,.one (.c (.int .u8 end_.n)))] gc) j4=>hK _ _ ?_
  refine wl fun K hK=>?_
  refine E3 2 0 (.agg (Fk p r_ u q x s y)) (Fk p r_ u q x s y) jq j4 fun n9 jr fz=>hK _ _ ?_
  have js:Kn 147 [(i,0),(k,0),(z,0)] [tP 11 2 0,tP 6 1 0,tP 5 0 0,tS 2 a_words words.length c_words,(3,.one (.c (.int .u8 from_.n))),(4,.one (.c (.int .u8 end_.n)))] gc:=jr.kp
  refine wf (XT (Aa (Rk 0 9 [tP 36 2 7,tI 35 (if (IntKind.i64.wrap (r_.fr+(IntKind.i64.wrap from_.n)))<r_.to_ then(IntKind.i64.wrap (r_.fr+(IntKind.i64.wrap from_.n))) else r_.to_),tP 11 2 0,tP 6 1 0,tP 5 0 0,tS 2 a_words words.length c_words,(4,.one (.c (.int .u8 end_.n)))] js fz fun lp jt=>?_)))
  refine wl fun K hK=>?_
  refine E3 2 7 (.c (.int .i64 (if (IntKind.i64.wrap (r_.fr+(IntKind.i64.wrap from_.n)))<r_.to_ then(IntKind.i64.wrap (r_.fr+(IntKind.i64.wrap from_.n))) else r_.to_))) [.slice p r_.legs.length u,.int .i64 r_.turn.lo,.int .i64 r_.turn.hi,.slice q r_.buses.length x,.slice s r_.spares.length y,.int .i64 r_.unit,.int .i64 r_.gap,.int .i64 (if (IntKind.i64.wrap (r_.fr+(IntKind.i64.wrap from_.n)))<r_.to_ then(IntKind.i64.wrap (r_.fr+(IntKind.i64.wrap from_.n))) else r_.to_),.int .i64 r_.to_] jt fz fun oa ju f0=>hK _ _ ?_
  have jv:Kn 147 [(i,0),(k,0),(z,0)] [tP 11 2 0,tP 6 1 0,tP 5 0 0,tS 2 a_words words.length c_words,(4,.one (.c (.int .u8 end_.n)))] lp:=ju.kp
  refine wf (XT (Aa (Rk 0 9 [tP 45 2 8,tI 44 (if (IntKind.i64.wrap (r_.to_-(IntKind.i64.wrap end_.n)))>(if (IntKind.i64.wrap (r_.fr+(IntKind.i64.wrap from_.n)))<r_.to_ then(IntKind.i64.wrap (r_.fr+(IntKind.i64.wrap from_.n))) else r_.to_) then(IntKind.i64.wrap (r_.to_-(IntKind.i64.wrap end_.n))) else(if (IntKind.i64.wrap (r_.fr+(IntKind.i64.wrap from_.n)))<r_.to_ then(IntKind.i64.wrap (r_.fr+(IntKind.i64.wrap from_.n))) else r_.to_)),tP 11 2 0,tP 6 1 0,tP 5 0 0,tS 2 a_words words.length c_words] jv f0 fun lq jw=>?_)))
  refine wl fun K hK=>?_
  refine E3 2 8 (.c (.int .i64 (if (IntKind.i64.wrap (r_.to_-(IntKind.i64.wrap end_.n)))>(if (IntKind.i64.wrap (r_.fr+(IntKind.i64.wrap from_.n)))<r_.to_ then(IntKind.i64.wrap (r_.fr+(IntKind.i64.wrap from_.n))) else r_.to_) then(IntKind.i64.wrap (r_.to_-(IntKind.i64.wrap end_.n))) else(if (IntKind.i64.wrap (r_.fr+(IntKind.i64.wrap from_.n)))<r_.to_ then(IntKind.i64.wrap (r_.fr+(IntKind.i64.wrap from_.n))) else r_.to_)))) (GO p r_ u q x s y from_ end_) jw f0 fun ob jx et=>hK _ _ ?_
  have jy:Kn 147 [(i,0),(k,0),(z,0)] [tP 11 2 0,tP 6 1 0,tP 5 0 0,tS 2 a_words words.length c_words] lq:=jx.kp
  refine wf (XT (Aa (Rk 0 2 [tS 47 a_words words.length c_words,tA 46 (Fk p r_ u q x s y),tP 11 2 0,tP 6 1 0,tP 5 0 0] jy et fun m0 jz=>?_)))
  obtain⟨x48,ex48,H⟩:=Ap H
  refine wl fun K hK=>?_
  refine wc [.agg (Fk p r_ u q x s y),.c (.slice a_words words.length c_words)] jz et (MI n et.has r_ ((Ab (Ad ar) (Ab (Ab Ac Ac) (Ab (Ad au) (Ab (Ad av) (Ab Ac (Ab Ac (Ab Ac Ac))))))):rep g9 r_ _) words hr_words ex48) fun nj ha oc gy cx j5=>?_
  replace ar:=ar.mono cx
  replace au:=au.mono cx
  replace av:=av.mono cx
  obtain⟨_,rfl,⟨_,_,rfl,⟨aj,am,rfl,bd⟩,⟨_,_,rfl,⟨ak,an,rfl,be⟩,⟨al,ao,rfl,bf⟩⟩⟩⟩:=gy
  refine⟨.one (.agg (H6 aj x48 am ak an al ao)),rfl,fun lr (j0:Kn 147 [(i,0),(k,0),(z,0)] [tA 48 (H6 aj x48 am ak an al ao),tS 47 a_words words.length c_words,tA 46 (Fk p r_ u q x s y),tP 11 2 0,tP 6 1 0,tP 5 0 0] lr)=>hK _ _ ?_⟩
  refine wl fun K hK=>?_
  refine wa [.slice none 0 0,.slice none 0 0,.slice none 0 0] j0 j5 fun ac gd od (j1:Kn 147 (Db i k z ac) [tP 12 3 0,tA 48 (H6 aj x48 am ak an al ao),tS 47 a_words words.length c_words,tA 46 (Fk p r_ u q x s y),tP 11 2 0,tP 6 1 0,tP 5 0 0] gd) j2=>hK _ _ ?_
  refine wl fun K hK=>?_
  refine E3 3 0 (.agg (H6 aj x48 am ak an al ao)) (H6 aj x48 am ak an al ao) j1 j2 fun nk hp c7=>hK _ _ ?_
  have hq:Kn 147 (Db i k z ac) [tP 12 3 0,tP 11 2 0,tP 6 1 0,tP 5 0 0] gd:=hp.kp
  refine wf (XT (Al (by kernel_rfl) ?_))
  replace c7:=c7.drew
  refine Aq [] (Db i k z ac) (KY p r_ u q x s y ad a ag ae ah af ai from_ end_ aj x48 am ak an al ao) ?_
  refine Dr [0,2,4] [4,2,0] [tA 54 (H6 aj x48 am ak an al ao),tA 52 (E2 ad a ag ae ah af ai),tA 50 (Fk p r_ u q x s y),tP 12 3 0,tP 11 2 0,tP 6 1 0,tP 5 0 0] hq c7 fun l2 hr=>?_
  obtain⟨x51,ex51,H⟩:=Ap H
  refine Dl 1 fun K hK=>?_
  refine wc [.agg (Fk p r_ u q x s y)] hr c7 (FM n c7.has r_ ((Ab (Ad ar) (Ab (Ab Ac Ac) (Ab (Ad au) (Ab (Ad av) (Ab Ac (Ab Ac (Ab Ac Ac))))))):rep ha r_ _) ex51) fun m1 gz nl gf bg eg=>?_
  replace ax:=ax.mono (XU cx bg)
  replace ay:=ay.mono (XU cx bg)
  replace az:=az.mono (XU cx bg)
  obtain⟨_,rfl,⟨_,_,rfl,⟨bi,bo,rfl,eu⟩,⟨_,_,rfl,⟨_,_,rfl,rfl,rfl⟩,⟨_,_,rfl,⟨bj,bp,rfl,ev⟩,⟨_,_,rfl,⟨bk,bq,rfl,ew⟩,⟨_,_,rfl,rfl,⟨_,_,rfl,rfl,⟨_,_,rfl,rfl,rfl⟩⟩⟩⟩⟩⟩⟩⟩:=gf
  refine⟨.one (.agg (Q8 bi x51 bo bj bp bk bq)),rfl,fun k0 (hs:Kn 147 (Db i k z ac) [tA 51 (Q8 bi x51 bo bj bp bk bq),tA 54 (H6 aj x48 am ak an al ao),tA 52 (E2 ad a ag ae ah af ai),tA 50 (Fk p r_ u q x s y),tP 12 3 0,tP 11 2 0,tP 6 1 0,tP 5 0 0] k0)=>hK _ _ eg.plOk ?_⟩
  obtain⟨x53,ex53,H⟩:=Ap H
  refine Dl 3 fun K hK=>?_
  refine wc [.agg (E2 ad a ag ae ah af ai)] hs eg (Gs n eg.has a ((Ab (Ad ax) (Ab (Ad ay) (Ad az))):rep gz a _) ex53) fun m2 g0 nm gg a6 eh=>?_
  replace bd:=bd.mono (XU bg a6)
  replace be:=be.mono (XU bg a6)
  replace bf:=bf.mono (XU bg a6)
  obtain⟨_,rfl,⟨_,_,rfl,⟨bu,b8,rfl,ex⟩,⟨_,_,rfl,⟨bv,b9,rfl,ey⟩,⟨bw,ca,rfl,ez⟩⟩⟩⟩:=gg
  refine⟨.one (.agg (R1 bu x53 b8 bv b9 bw ca)),rfl,fun k1 (ht:Kn 147 (Db i k z ac) [tA 53 (R1 bu x53 b8 bv b9 bw ca),tA 51 (Q8 bi x51 bo bj bp bk bq),tA 54 (H6 aj x48 am ak an al ao),tA 52 (E2 ad a ag ae ah af ai),tA 50 (Fk p r_ u q x s y),tP 12 3 0,tP 11 2 0,tP 6 1 0,tP 5 0 0] k1)=>hK _ _ eh.plOk ?_⟩
  obtain⟨x55,ex55,H⟩:=Ap H
  refine Dl 5 fun K hK=>?_
  refine wc [.agg (H6 aj x48 am ak an al ao)] ht eh (JR n eh.has x48 ((Ab (Ad bd) (Ab (Ad be) (Ad bf))):rep g0 x48 _) ex55) fun m3 d4 nn gh a1 ei=>?_
  replace eu:=eu.mono (XU a6 a1)
  replace ev:=ev.mono (XU a6 a1)
  replace ew:=ew.mono (XU a6 a1)
  replace ex:=ex.mono a1
  replace ey:=ey.mono a1
  replace ez:=ez.mono a1
  obtain⟨_,rfl,⟨_,_,rfl,⟨db,dp,rfl,ke⟩,⟨_,_,rfl,⟨dc,dq,rfl,kf⟩,⟨dd,dr,rfl,kg⟩⟩⟩⟩:=gh
  refine⟨.one (.agg [.slice db x55.tm.length dp,.slice dc x55.turns.length dq,.slice dd x55.legs.length dr]),rfl,fun k2 (hu:Kn 147 (Db i k z ac) [tA 55 [.slice db x55.tm.length dp,.slice dc x55.turns.length dq,.slice dd x55.legs.length dr],tA 53 (R1 bu x53 b8 bv b9 bw ca),tA 51 (Q8 bi x51 bo bj bp bk bq),tA 54 (H6 aj x48 am ak an al ao),tA 52 (E2 ad a ag ae ah af ai),tA 50 (Fk p r_ u q x s y),tP 12 3 0,tP 11 2 0,tP 6 1 0,tP 5 0 0] k2)=>hK _ _ ei.plOk ?_⟩
  obtain⟨x56,ex56,H⟩:=Ap H
  refine Dl 6 fun K hK=>?_
  refine wc [.agg (Q8 bi x51 bo bj bp bk bq),.agg (R1 bu x53 b8 bv b9 bw ca),.agg [.slice db x55.tm.length dp,.slice dc x55.turns.length dq,.slice dd x55.legs.length dr]] hu ei (Hw n ei.has x51 ((Ab (Ad eu) (Ab (Ab Ac Ac) (Ab (Ad ev) (Ab (Ad ew) (Ab Ac (Ab Ac (Ab Ac Ac))))))):rep d4 x51 _) x53 ((Ab (Ad ex) (Ab (Ad ey) (Ad ez))):rep d4 x53 _) x55 ((Ab (Ad ke) (Ab (Ad kf) (Ad kg))):rep d4 x55 _) ex56) fun m4 g1 np gi bh cl=>?_
  replace ar:=ar.mono (XU (XU (XU bg a6) a1) bh)
  replace au:=au.mono (XU (XU (XU bg a6) a1) bh)
  replace av:=av.mono (XU (XU (XU bg a6) a1) bh)
  obtain⟨_,_,rfl,⟨d,e,rfl,cq⟩,rfl⟩:=gi
  refine⟨.tup [.c (.slice d x56.1.length e),.c (.int .i64 x56.2)],rfl,fun k3 (hv:Kn 147 (Db i k z ac) [(56,.tup [.c (.slice d x56.1.length e),.c (.int .i64 x56.2)]),tA 55 [.slice db x55.tm.length dp,.slice dc x55.turns.length dq,.slice dd x55.legs.length dr],tA 53 (R1 bu x53 b8 bv b9 bw ca),tA 51 (Q8 bi x51 bo bj bp bk bq),tA 54 (H6 aj x48 am ak an al ao),tA 52 (E2 ad a ag ae ah af ai),tA 50 (Fk p r_ u q x s y),tP 12 3 0,tP 11 2 0,tP 6 1 0,tP 5 0 0] k3)=>hK _ _ cl.plOk ?_⟩
  refine Dr [7,8,9,10,11] [11,10,9,8,7,6,5,3,1,4,2,0] [tI 14 x56.2,tS 13 d x56.1.length e,tP 12 3 0,tP 11 2 0,tP 6 1 0,tP 5 0 0] hv cl fun l3 hw=>?_
  refine A0 (by kernel_rfl) (XT (Al (by kernel_rfl) ?_))
  replace cl:=cl.drew
  refine Aq [] (Db i k z ac) (KY p r_ u q x s y ad a ag ae ah af ai from_ end_ aj x48 am ak an al ao) ?_
  refine Dr [0,2,4] [4,2,0] [tA 64 (H6 aj x48 am ak an al ao),tA 62 (E2 ad a ag ae ah af ai),tA 60 (GO p r_ u q x s y from_ end_),tI 14 x56.2,tS 13 d x56.1.length e,tP 11 2 0,tP 6 1 0,tP 5 0 0] hw cl fun l4 hx=>?_
  obtain⟨x61,ex61,H⟩:=Ap H
  refine Dl 1 fun K hK=>?_
  refine wc [.agg (GO p r_ u q x s y from_ end_)] hx cl (FM n cl.has (Af.mk r_.legs r_.turn r_.buses r_.spares r_.unit r_.gap (if (IntKind.i64.wrap (r_.fr+(IntKind.i64.wrap from_.n)))<r_.to_ then(IntKind.i64.wrap (r_.fr+(IntKind.i64.wrap from_.n))) else r_.to_) (if (IntKind.i64.wrap (r_.to_-(IntKind.i64.wrap end_.n)))>(if (IntKind.i64.wrap (r_.fr+(IntKind.i64.wrap from_.n)))<r_.to_ then(IntKind.i64.wrap (r_.fr+(IntKind.i64.wrap from_.n))) else r_.to_) then(IntKind.i64.wrap (r_.to_-(IntKind.i64.wrap end_.n))) else(if (IntKind.i64.wrap (r_.fr+(IntKind.i64.wrap from_.n)))<r_.to_ then(IntKind.i64.wrap (r_.fr+(IntKind.i64.wrap from_.n))) else r_.to_))) ((Ab (Ad ar) (Ab (Ab Ac Ac) (Ab (Ad au) (Ab (Ad av) (Ab Ac (Ab Ac (Ab Ac Ac))))))):rep g1 (Af.mk r_.legs r_.turn r_.buses r_.spares r_.unit r_.gap (if (IntKind.i64.wrap (r_.fr+(IntKind.i64.wrap from_.n)))<r_.to_ then(IntKind.i64.wrap (r_.fr+(IntKind.i64.wrap from_.n))) else r_.to_) (if (IntKind.i64.wrap (r_.to_-(IntKind.i64.wrap end_.n)))>(if (IntKind.i64.wrap (r_.fr+(IntKind.i64.wrap from_.n)))<r_.to_ then(IntKind.i64.wrap (r_.fr+(IntKind.i64.wrap from_.n))) else r_.to_) then(IntKind.i64.wrap (r_.to_-(IntKind.i64.wrap end_.n))) else(if (IntKind.i64.wrap (r_.fr+(IntKind.i64.wrap from_.n)))<r_.to_ then(IntKind.i64.wrap (r_.fr+(IntKind.i64.wrap from_.n))) else r_.to_))) _) ex61) fun m5 g2 nq gj bb ej=>?_
  replace ax:=ax.mono (XU (XU (XU a6 a1) bh) bb)
  replace ay:=ay.mono (XU (XU (XU a6 a1) bh) bb)
  replace az:=az.mono (XU (XU (XU a6 a1) bh) bb)
  obtain⟨_,rfl,⟨_,_,rfl,⟨bl,br,rfl,e0⟩,⟨_,_,rfl,⟨_,_,rfl,rfl,rfl⟩,⟨_,_,rfl,⟨bm,bs,rfl,e1⟩,⟨_,_,rfl,⟨bn,bt,rfl,e2⟩,⟨_,_,rfl,rfl,⟨_,_,rfl,rfl,⟨_,_,rfl,rfl,rfl⟩⟩⟩⟩⟩⟩⟩⟩:=gj
  refine⟨.one (.agg (Q9 bl x61 br bm bs bn bt)),rfl,fun k4 (hy:Kn 147 (Db i k z ac) [tA 61 (Q9 bl x61 br bm bs bn bt),tA 64 (H6 aj x48 am ak an al ao),tA 62 (E2 ad a ag ae ah af ai),tA 60 (GO p r_ u q x s y from_ end_),tI 14 x56.2,tS 13 d x56.1.length e,tP 11 2 0,tP 6 1 0,tP 5 0 0] k4)=>hK _ _ ej.plOk ?_⟩
  obtain⟨x63,ex63,H⟩:=Ap H
  refine Dl 3 fun K hK=>?_
  refine wc [.agg (E2 ad a ag ae ah af ai)] hy ej (Gs n ej.has a ((Ab (Ad ax) (Ab (Ad ay) (Ad az))):rep g2 a _) ex63) fun m6 g3 nr gk a4 ek=>?_
  replace bd:=bd.mono (XU (XU (XU a1 bh) bb) a4)
  replace be:=be.mono (XU (XU (XU a1 bh) bb) a4)
  replace bf:=bf.mono (XU (XU (XU a1 bh) bb) a4)
  obtain⟨_,rfl,⟨_,_,rfl,⟨bx,cb,rfl,e3⟩,⟨_,_,rfl,⟨bz,cc,rfl,e4⟩,⟨b0,cd,rfl,e5⟩⟩⟩⟩:=gk
  refine⟨.one (.agg (R2 bx x63 cb bz cc b0 cd)),rfl,fun k6 (hz:Kn 147 (Db i k z ac) [tA 63 (R2 bx x63 cb bz cc b0 cd),tA 61 (Q9 bl x61 br bm bs bn bt),tA 64 (H6 aj x48 am ak an al ao),tA 62 (E2 ad a ag ae ah af ai),tA 60 (GO p r_ u q x s y from_ end_),tI 14 x56.2,tS 13 d x56.1.length e,tP 11 2 0,tP 6 1 0,tP 5 0 0] k6)=>hK _ _ ek.plOk ?_⟩
  obtain⟨x65,ex65,H⟩:=Ap H
  refine Dl 5 fun K hK=>?_
  refine wc [.agg (H6 aj x48 am ak an al ao)] hz ek (JR n ek.has x48 ((Ab (Ad bd) (Ab (Ad be) (Ad bf))):rep g3 x48 _) ex65) fun m7 d5 ns gl a0 el=>?_
  replace e0:=e0.mono (XU a4 a0)
  replace e1:=e1.mono (XU a4 a0)
  replace e2:=e2.mono (XU a4 a0)
  replace e3:=e3.mono a0
  replace e4:=e4.mono a0
  replace e5:=e5.mono a0
  obtain⟨_,rfl,⟨_,_,rfl,⟨de,ds,rfl,kh⟩,⟨_,_,rfl,⟨df,dt,rfl,ki⟩,⟨dg,du,rfl,kj⟩⟩⟩⟩:=gl
  refine⟨.one (.agg [.slice de x65.tm.length ds,.slice df x65.turns.length dt,.slice dg x65.legs.length du]),rfl,fun k7 (h1:Kn 147 (Db i k z ac) [tA 65 [.slice de x65.tm.length ds,.slice df x65.turns.length dt,.slice dg x65.legs.length du],tA 63 (R2 bx x63 cb bz cc b0 cd),tA 61 (Q9 bl x61 br bm bs bn bt),tA 64 (H6 aj x48 am ak an al ao),tA 62 (E2 ad a ag ae ah af ai),tA 60 (GO p r_ u q x s y from_ end_),tI 14 x56.2,tS 13 d x56.1.length e,tP 11 2 0,tP 6 1 0,tP 5 0 0] k7)=>hK _ _ el.plOk ?_⟩
  obtain⟨x66,ex66,H⟩:=Ap H
  refine Dl 6 fun K hK=>?_
  refine wc [.agg (Q9 bl x61 br bm bs bn bt),.agg (R2 bx x63 cb bz cc b0 cd),.agg [.slice de x65.tm.length ds,.slice df x65.turns.length dt,.slice dg x65.legs.length du]] h1 el (Hw n el.has x61 ((Ab (Ad e0) (Ab (Ab Ac Ac) (Ab (Ad e1) (Ab (Ad e2) (Ab Ac (Ab Ac (Ab Ac Ac))))))):rep d5 x61 _) x63 ((Ab (Ad e3) (Ab (Ad e4) (Ad e5))):rep d5 x63 _) x65 ((Ab (Ad kh) (Ab (Ad ki) (Ad kj))):rep d5 x65 _) ex66) fun m8 g4 nu gm bc cm=>?_
  replace ar:=ar.mono (XU (XU (XU bb a4) a0) bc)
  replace au:=au.mono (XU (XU (XU bb a4) a0) bc)
  replace av:=av.mono (XU (XU (XU bb a4) a0) bc)
  obtain⟨_,_,rfl,⟨f,g,rfl,cr⟩,rfl⟩:=gm
  refine⟨.tup [.c (.slice f x66.1.length g),.c (.int .i64 x66.2)],rfl,fun k8 (h2:Kn 147 (Db i k z ac) [(66,.tup [.c (.slice f x66.1.length g),.c (.int .i64 x66.2)]),tA 65 [.slice de x65.tm.length ds,.slice df x65.turns.length dt,.slice dg x65.legs.length du],tA 63 (R2 bx x63 cb bz cc b0 cd),tA 61 (Q9 bl x61 br bm bs bn bt),tA 64 (H6 aj x48 am ak an al ao),tA 62 (E2 ad a ag ae ah af ai),tA 60 (GO p r_ u q x s y from_ end_),tI 14 x56.2,tS 13 d x56.1.length e,tP 11 2 0,tP 6 1 0,tP 5 0 0] k8)=>hK _ _ cm.plOk ?_⟩
  refine Dr [7,8,9,10,11] [11,10,9,8,7,6,5,3,1,4,2,0] [tI 16 x66.2,tS 15 f x66.1.length g,tI 14 x56.2,tS 13 d x56.1.length e,tP 11 2 0,tP 6 1 0,tP 5 0 0] h2 cm fun l5 h3=>?_
  refine A0 (by kernel_rfl) (XT (Al (by kernel_rfl) ?_))
  replace cm:=cm.drew
  refine Aq [] (Db i k z ac) (KY p r_ u q x s y ad a ag ae ah af ai from_ end_ aj x48 am ak an al ao) ?_
  refine Dr [0,2] [2,0] [tA 72 (E2 ad a ag ae ah af ai),tA 70 (Fk p r_ u q x s y),tI 16 x66.2,tS 15 f x66.1.length g,tI 14 x56.2,tS 13 d x56.1.length e,tP 11 2 0,tP 6 1 0] h3 cm fun l6 h4=>?_
  obtain⟨x71,ex71,H⟩:=Ap H
  refine Dl 1 fun K hK=>?_
  refine wc [.agg (Fk p r_ u q x s y)] h4 cm (FM n cm.has r_ ((Ab (Ad ar) (Ab (Ab Ac Ac) (Ab (Ad au) (Ab (Ad av) (Ab Ac (Ab Ac (Ab Ac Ac))))))):rep g4 r_ _) ex71) fun m9 g5 nv gn a9 em=>?_
  replace ax:=ax.mono (XU (XU (XU a4 a0) bc) a9)
  replace ay:=ay.mono (XU (XU (XU a4 a0) bc) a9)
  replace az:=az.mono (XU (XU (XU a4 a0) bc) a9)
  obtain⟨_,rfl,⟨_,_,rfl,⟨b1,ce,rfl,e6⟩,⟨_,_,rfl,⟨_,_,rfl,rfl,rfl⟩,⟨_,_,rfl,⟨b2,cf,rfl,e7⟩,⟨_,_,rfl,⟨b3,cg,rfl,e8⟩,⟨_,_,rfl,rfl,⟨_,_,rfl,rfl,⟨_,_,rfl,rfl,rfl⟩⟩⟩⟩⟩⟩⟩⟩:=gn
  refine⟨.one (.agg (R3 b1 x71 ce b2 cf b3 cg)),rfl,fun la (h5:Kn 147 (Db i k z ac) [tA 71 (R3 b1 x71 ce b2 cf b3 cg),tA 72 (E2 ad a ag ae ah af ai),tA 70 (Fk p r_ u q x s y),tI 16 x66.2,tS 15 f x66.1.length g,tI 14 x56.2,tS 13 d x56.1.length e,tP 11 2 0,tP 6 1 0] la)=>hK _ _ em.plOk ?_⟩
  obtain⟨x73,ex73,H⟩:=Ap H
  refine Dl 3 fun K hK=>?_
  refine wc [.agg (E2 ad a ag ae ah af ai)] h5 em (Gs n em.has a ((Ab (Ad ax) (Ab (Ad ay) (Ad az))):rep g5 a _) ex73) fun na fj nw gp a3 en=>?_
  replace e6:=e6.mono a3
  replace e7:=e7.mono a3
  replace e8:=e8.mono a3
  obtain⟨_,rfl,⟨_,_,rfl,⟨dh,dv,rfl,kk⟩,⟨_,_,rfl,⟨di,dw,rfl,kl⟩,⟨dj,dx,rfl,km⟩⟩⟩⟩:=gp
  refine⟨.one (.agg [.slice dh x73.holds.length dv,.slice di x73.turns.length dw,.slice dj x73.spares.length dx]),rfl,fun lb (h7:Kn 147 (Db i k z ac) [tA 73 [.slice dh x73.holds.length dv,.slice di x73.turns.length dw,.slice dj x73.spares.length dx],tA 71 (R3 b1 x71 ce b2 cf b3 cg),tA 72 (E2 ad a ag ae ah af ai),tA 70 (Fk p r_ u q x s y),tI 16 x66.2,tS 15 f x66.1.length g,tI 14 x56.2,tS 13 d x56.1.length e,tP 11 2 0,tP 6 1 0] lb)=>hK _ _ en.plOk ?_⟩
  obtain⟨x74,ex74,H⟩:=Ap H
  refine Dl 4 fun K hK=>?_
  refine wc [.agg (R3 b1 x71 ce b2 cf b3 cg),.agg [.slice dh x73.holds.length dv,.slice di x73.turns.length dw,.slice dj x73.spares.length dx]] h7 en (Fe n en.has x71 ((Ab (Ad e6) (Ab (Ab Ac Ac) (Ab (Ad e7) (Ab (Ad e8) (Ab Ac (Ab Ac (Ab Ac Ac))))))):rep fj x71 _) x73 ((Ab (Ad kk) (Ab (Ad kl) (Ad km))):rep fj x73 _) ex74) fun nb g6 ny gq ba cn=>?_
  replace ar:=ar.mono (XU (XU a9 a3) ba)
  replace au:=au.mono (XU (XU a9 a3) ba)
  replace av:=av.mono (XU (XU a9 a3) ba)
  obtain⟨_,_,rfl,⟨l,m,rfl,ct⟩,rfl⟩:=gq
  refine⟨.tup [.c (.slice l x74.1.length m),.c (.int .i64 x74.2)],rfl,fun lc (h8:Kn 147 (Db i k z ac) [(74,.tup [.c (.slice l x74.1.length m),.c (.int .i64 x74.2)]),tA 73 [.slice dh x73.holds.length dv,.slice di x73.turns.length dw,.slice dj x73.spares.length dx],tA 71 (R3 b1 x71 ce b2 cf b3 cg),tA 72 (E2 ad a ag ae ah af ai),tA 70 (Fk p r_ u q x s y),tI 16 x66.2,tS 15 f x66.1.length g,tI 14 x56.2,tS 13 d x56.1.length e,tP 11 2 0,tP 6 1 0] lc)=>hK _ _ cn.plOk ?_⟩
  refine Dr [5,6,7,8,9] [9,8,7,6,5,4,3,1,2,0] [tI 18 x74.2,tS 17 l x74.1.length m,tI 16 x66.2,tS 15 f x66.1.length g,tI 14 x56.2,tS 13 d x56.1.length e,tP 11 2 0,tP 6 1 0] h8 cn fun l7 h9=>?_
  refine A0 (by kernel_rfl) (XT (Al (by kernel_rfl) ?_))
  replace cn:=cn.drew
  refine Aq [] (Db i k z ac) (KY p r_ u q x s y ad a ag ae ah af ai from_ end_ aj x48 am ak an al ao) ?_
  refine Dr [0,2] [2,0] [tA 80 (E2 ad a ag ae ah af ai),tA 78 (GO p r_ u q x s y from_ end_),tI 18 x74.2,tS 17 l x74.1.length m,tI 16 x66.2,tS 15 f x66.1.length g,tI 14 x56.2,tS 13 d x56.1.length e] h9 cn fun l8 ia=>?_
  obtain⟨x79,ex79,H⟩:=Ap H
  refine Dl 1 fun K hK=>?_
  refine wc [.agg (GO p r_ u q x s y from_ end_)] ia cn (FM n cn.has (Af.mk r_.legs r_.turn r_.buses r_.spares r_.unit r_.gap (if (IntKind.i64.wrap (r_.fr+(IntKind.i64.wrap from_.n)))<r_.to_ then(IntKind.i64.wrap (r_.fr+(IntKind.i64.wrap from_.n))) else r_.to_) (if (IntKind.i64.wrap (r_.to_-(IntKind.i64.wrap end_.n)))>(if (IntKind.i64.wrap (r_.fr+(IntKind.i64.wrap from_.n)))<r_.to_ then(IntKind.i64.wrap (r_.fr+(IntKind.i64.wrap from_.n))) else r_.to_) then(IntKind.i64.wrap (r_.to_-(IntKind.i64.wrap end_.n))) else(if (IntKind.i64.wrap (r_.fr+(IntKind.i64.wrap from_.n)))<r_.to_ then(IntKind.i64.wrap (r_.fr+(IntKind.i64.wrap from_.n))) else r_.to_))) ((Ab (Ad ar) (Ab (Ab Ac Ac) (Ab (Ad au) (Ab (Ad av) (Ab Ac (Ab Ac (Ab Ac Ac))))))):rep g6 (Af.mk r_.legs r_.turn r_.buses r_.spares r_.unit r_.gap (if (IntKind.i64.wrap (r_.fr+(IntKind.i64.wrap from_.n)))<r_.to_ then(IntKind.i64.wrap (r_.fr+(IntKind.i64.wrap from_.n))) else r_.to_) (if (IntKind.i64.wrap (r_.to_-(IntKind.i64.wrap end_.n)))>(if (IntKind.i64.wrap (r_.fr+(IntKind.i64.wrap from_.n)))<r_.to_ then(IntKind.i64.wrap (r_.fr+(IntKind.i64.wrap from_.n))) else r_.to_) then(IntKind.i64.wrap (r_.to_-(IntKind.i64.wrap end_.n))) else(if (IntKind.i64.wrap (r_.fr+(IntKind.i64.wrap from_.n)))<r_.to_ then(IntKind.i64.wrap (r_.fr+(IntKind.i64.wrap from_.n))) else r_.to_))) _) ex79) fun nc g7 nz gr a7 eo=>?_
  replace ax:=ax.mono (XU (XU a3 ba) a7)
  replace ay:=ay.mono (XU (XU a3 ba) a7)
  replace az:=az.mono (XU (XU a3 ba) a7)
  obtain⟨_,rfl,⟨_,_,rfl,⟨b4,ch,rfl,e9⟩,⟨_,_,rfl,⟨_,_,rfl,rfl,rfl⟩,⟨_,_,rfl,⟨b5,ci,rfl,fa⟩,⟨_,_,rfl,⟨b6,cj,rfl,fb⟩,⟨_,_,rfl,rfl,⟨_,_,rfl,rfl,⟨_,_,rfl,rfl,rfl⟩⟩⟩⟩⟩⟩⟩⟩:=gr
  refine⟨.one (.agg (Pd b4 x79 ch b5 ci b6 cj)),rfl,fun ld (ic:Kn 147 (Db i k z ac) [tA 79 (Pd b4 x79 ch b5 ci b6 cj),tA 80 (E2 ad a ag ae ah af ai),tA 78 (GO p r_ u q x s y from_ end_),tI 18 x74.2,tS 17 l x74.1.length m,tI 16 x66.2,tS 15 f x66.1.length g,tI 14 x56.2,tS 13 d x56.1.length e] ld)=>hK _ _ eo.plOk ?_⟩
  obtain⟨x81,ex81,H⟩:=Ap H
  refine Dl 3 fun K hK=>?_
  refine wc [.agg (E2 ad a ag ae ah af ai)] ic eo (Gs n eo.has a ((Ab (Ad ax) (Ab (Ad ay) (Ad az))):rep g7 a _) ex81) fun nd fk n0 gs a2 ep=>?_
  replace e9:=e9.mono a2
  replace fa:=fa.mono a2
  replace fb:=fb.mono a2
  obtain⟨_,rfl,⟨_,_,rfl,⟨dk,dy,rfl,kn⟩,⟨_,_,rfl,⟨dl,dz,rfl,ko⟩,⟨dm,d0,rfl,kq⟩⟩⟩⟩:=gs
  refine⟨.one (.agg [.slice dk x81.holds.length dy,.slice dl x81.turns.length dz,.slice dm x81.spares.length d0]),rfl,fun lf (ig:Kn 147 (Db i k z ac) [tA 81 [.slice dk x81.holds.length dy,.slice dl x81.turns.length dz,.slice dm x81.spares.length d0],tA 79 (Pd b4 x79 ch b5 ci b6 cj),tA 80 (E2 ad a ag ae ah af ai),tA 78 (GO p r_ u q x s y from_ end_),tI 18 x74.2,tS 17 l x74.1.length m,tI 16 x66.2,tS 15 f x66.1.length g,tI 14 x56.2,tS 13 d x56.1.length e] lf)=>hK _ _ ep.plOk ?_⟩
  obtain⟨x82,ex82,H⟩:=Ap H
  refine Dl 4 fun K hK=>?_
  refine wc [.agg (Pd b4 x79 ch b5 ci b6 cj),.agg [.slice dk x81.holds.length dy,.slice dl x81.turns.length dz,.slice dm x81.spares.length d0]] ig ep (Fe n ep.has x79 ((Ab (Ad e9) (Ab (Ab Ac Ac) (Ab (Ad fa) (Ab (Ad fb) (Ab Ac (Ab Ac (Ab Ac Ac))))))):rep fk x79 _) x81 ((Ab (Ad kn) (Ab (Ad ko) (Ad kq))):rep fk x81 _) ex82) fun nf g8 n1 gu a8 ap=>?_
  replace ar:=ar.mono (XU (XU a7 a2) a8)
  replace au:=au.mono (XU (XU a7 a2) a8)
  replace av:=av.mono (XU (XU a7 a2) a8)
  replace ax:=ax.mono (XU a2 a8)
  replace ay:=ay.mono (XU a2 a8)
  replace az:=az.mono (XU a2 a8)
  replace bd:=bd.mono (XU (XU (XU (XU (XU (XU (XU a0 bc) a9) a3) ba) a7) a2) a8)
  replace be:=be.mono (XU (XU (XU (XU (XU (XU (XU a0 bc) a9) a3) ba) a7) a2) a8)
  replace bf:=bf.mono (XU (XU (XU (XU (XU (XU (XU a0 bc) a9) a3) ba) a7) a2) a8)
  replace cq:=cq.mono (XU (XU (XU (XU (XU (XU (XU (XU (XU bb a4) a0) bc) a9) a3) ba) a7) a2) a8)
  replace cr:=cr.mono (XU (XU (XU (XU (XU a9 a3) ba) a7) a2) a8)
  replace ct:=ct.mono (XU (XU a7 a2) a8)
  obtain⟨_,_,rfl,⟨aa,ab,rfl,da⟩,rfl⟩:=gu
  refine⟨.tup [.c (.slice aa x82.1.length ab),.c (.int .i64 x82.2)],rfl,fun lg (ih:Kn 147 (Db i k z ac) [(82,.tup [.c (.slice aa x82.1.length ab),.c (.int .i64 x82.2)]),tA 81 [.slice dk x81.holds.length dy,.slice dl x81.turns.length dz,.slice dm x81.spares.length d0],tA 79 (Pd b4 x79 ch b5 ci b6 cj),tA 80 (E2 ad a ag ae ah af ai),tA 78 (GO p r_ u q x s y from_ end_),tI 18 x74.2,tS 17 l x74.1.length m,tI 16 x66.2,tS 15 f x66.1.length g,tI 14 x56.2,tS 13 d x56.1.length e] lg)=>hK _ _ ap.plOk ?_⟩
  refine Dr [5,6,7,8,9] [9,8,7,6,5,4,3,1,2,0] [tI 20 x82.2,tS 19 aa x82.1.length ab,tI 18 x74.2,tS 17 l x74.1.length m,tI 16 x66.2,tS 15 f x66.1.length g,tI 14 x56.2,tS 13 d x56.1.length e] ih ap fun mb ii=>?_
  refine A0 (by kernel_rfl) (XT (XT ?_))
  obtain⟨f1,aw,H⟩:=Ap H
  refine At (fun a' w'=>∃ (fe:Array Value)(cz:Ae),a' = ⟨fe,[]⟩∧Kn 147 (Db i k z ac) [tS 19 aa x82.1.length ab,tS 17 l x74.1.length m,tS 15 f x66.1.length g,tS 13 d x56.1.length e,tB 119 f1] fe∧Ah ⟨w,h,AB⟩ cz (Db i k z ac) (KY p r_ u q x s y ad a ag ae ah af ai from_ end_ aj x48 am ak an al ao) [] w'∧Ae.le g8 cz) ?_ ?_
  ·
   refine Aa (Rk 0 3 [tB 87 (x56.2 != 0),tI 20 x82.2,tS 19 aa x82.1.length ab,tI 18 x74.2,tS 17 l x74.1.length m,tI 16 x66.2,tS 15 f x66.1.length g,tS 13 d x56.1.length e] ii ap fun f5 fl=>?_)
   rcases Bool.eq_false_or_eq_true ((x56.2 != 0)) with c0 | c0
   ·
    rw [c0,XW] at aw
    have ij:Kn 147 (Db i k z ac) [tB 87 true,tI 20 x82.2,tS 19 aa x82.1.length ab,tI 18 x74.2,tS 17 l x74.1.length m,tI 16 x66.2,tS 15 f x66.1.length g,tS 13 d x56.1.length e] f5:=(fl.setB 87 true (by rfl) c0).kp
    refine Rk 3 32 ((tB 119 true)::(Cb aa x82 ab l x74 m f x66 g d x56 e)) ij ap fun mc ik=>?_
    refine wf ?_
    obtain rfl:=XZ aw
    exact XY _ ⟨_,rfl,ik.kp,ap,Ae.le_refl _⟩
   ·
    rw [c0,XV] at aw
    have il:Kn 147 (Db i k z ac) [tB 87 false,tI 20 x82.2,tS 19 aa x82.1.length ab,tI 18 x74.2,tS 17 l x74.1.length m,tI 16 x66.2,tS 15 f x66.1.length g,tS 13 d x56.1.length e] f5:=(fl.setB 87 false (by rfl) c0).kp
    refine Rk 3 4 [tB 91 (x66.2 != 0),tI 20 x82.2,tS 19 aa x82.1.length ab,tI 18 x74.2,tS 17 l x74.1.length m,tS 15 f x66.1.length g,tS 13 d x56.1.length e] il ap fun f6 fm=>?_
    rcases Bool.eq_false_or_eq_true ((x66.2 != 0)) with c1 | c1
    ·
     rw [c1,XW] at aw
     have im:Kn 147 (Db i k z ac) [tB 91 true,tI 20 x82.2,tS 19 aa x82.1.length ab,tI 18 x74.2,tS 17 l x74.1.length m,tS 15 f x66.1.length g,tS 13 d x56.1.length e] f6:=(fm.setB 91 true (by rfl) c1).kp
     refine Rk 7 28 ((tB 119 true)::(Cb aa x82 ab l x74 m f x66 g d x56 e)) im ap fun md io=>?_
     refine wf ?_
     obtain rfl:=XZ aw
     exact XY _ ⟨_,rfl,io.kp,ap,Ae.le_refl _⟩
    ·
     rw [c1,XV] at aw
     have ip:Kn 147 (Db i k z ac) [tB 91 false,tI 20 x82.2,tS 19 aa x82.1.length ab,tI 18 x74.2,tS 17 l x74.1.length m,tS 15 f x66.1.length g,tS 13 d x56.1.length e] f6:=(fm.setB 91 false (by rfl) c1).kp
     refine Rk 7 4 ((tB 95 (x74.2 != 0))::(tI 20 x82.2)::(Cb aa x82 ab l x74 m f x66 g d x56 e)) ip ap fun f7 fn=>?_
     rcases Bool.eq_false_or_eq_true ((x74.2 != 0)) with c2 | c2
     ·
      rw [c2,XW] at aw
      have iq:Kn 147 (Db i k z ac) ((tB 95 true)::(tI 20 x82.2)::(Cb aa x82 ab l x74 m f x66 g d x56 e)) f7:=(fn.setB 95 true (by rfl) c2).kp
      refine Rk 11 24 ((tB 119 true)::(Cb aa x82 ab l x74 m f x66 g d x56 e)) iq ap fun me ir=>?_
      refine wf ?_
      obtain rfl:=XZ aw
      exact XY _ ⟨_,rfl,ir.kp,ap,Ae.le_refl _⟩
     ·
      rw [c2,XV] at aw
      have iu:Kn 147 (Db i k z ac) ((tB 95 false)::(tI 20 x82.2)::(Cb aa x82 ab l x74 m f x66 g d x56 e)) f7:=(fn.setB 95 false (by rfl) c2).kp
      refine Rk 11 4 ((tB 99 (x82.2 != 0))::(Cb aa x82 ab l x74 m f x66 g d x56 e)) iu ap fun f8 fo=>?_
      rcases Bool.eq_false_or_eq_true ((x82.2 != 0)) with c3 | c3
      ·
       rw [c3,XW] at aw
       have iv:Kn 147 (Db i k z ac) ((tB 99 true)::(Cb aa x82 ab l x74 m f x66 g d x56 e)) f8:=(fo.setB 99 true (by rfl) c3).kp
       refine Rk 15 20 ((tB 119 true)::(Cb aa x82 ab l x74 m f x66 g d x56 e)) iv ap fun mf iw=>?_
       refine wf ?_
       obtain rfl:=XZ aw
       exact XY _ ⟨_,rfl,iw.kp,ap,Ae.le_refl _⟩
      ·
       rw [c3,XV] at aw
       have ix:Kn 147 (Db i k z ac) ((tB 99 false)::(Cb aa x82 ab l x74 m f x66 g d x56 e)) f8:=(fo.setB 99 false (by rfl) c3).kp
       refine Rk 15 7 ((tB 106 (((x56.1.length:Nat):Int) != ((x66.1.length:Nat):Int)))::(Cb aa x82 ab l x74 m f x66 g d x56 e)) ix ap fun f9 fp=>?_
       rcases Bool.eq_false_or_eq_true ((((x56.1.length:Nat):Int) != ((x66.1.length:Nat):Int))) with c4 | c4
       ·
        rw [c4,XW] at aw
        have iy:Kn 147 (Db i k z ac) ((tB 106 true)::(Cb aa x82 ab l x74 m f x66 g d x56 e)) f9:=(fp.setB 106 true (by rfl) c4).kp
        refine Rk 22 13 ((tB 119 true)::(Cb aa x82 ab l x74 m f x66 g d x56 e)) iy ap fun mg iz=>?_
        refine wf ?_
        obtain rfl:=XZ aw
        exact XY _ ⟨_,rfl,iz.kp,ap,Ae.le_refl _⟩
       ·
        rw [c4,XV] at aw
        have i0:Kn 147 (Db i k z ac) ((tB 106 false)::(Cb aa x82 ab l x74 m f x66 g d x56 e)) f9:=(fp.setB 106 false (by rfl) c4).kp
        refine Rk 22 7 ((tB 113 (((x74.1.length:Nat):Int) != ((x82.1.length:Nat):Int)))::(Cb aa x82 ab l x74 m f x66 g d x56 e)) i0 ap fun ga fq=>?_
        rcases Bool.eq_false_or_eq_true ((((x74.1.length:Nat):Int) != ((x82.1.length:Nat):Int))) with c5 | c5
        ·
         rw [c5,XW] at aw
         have i1:Kn 147 (Db i k z ac) ((tB 113 true)::(Cb aa x82 ab l x74 m f x66 g d x56 e)) ga:=(fq.setB 113 true (by rfl) c5).kp
         refine Rk 29 6 ((tB 119 true)::(Cb aa x82 ab l x74 m f x66 g d x56 e)) i1 ap fun mh i2=>?_
         refine wf ?_
         obtain rfl:=XZ aw
         exact XY _ ⟨_,rfl,i2.kp,ap,Ae.le_refl _⟩
        ·
         rw [c5,XV] at aw
         have i3:Kn 147 (Db i k z ac) ((tB 113 false)::(Cb aa x82 ab l x74 m f x66 g d x56 e)) ga:=(fq.setB 113 false (by rfl) c5).kp
         refine Rk 29 6 ((tB 119 (((x56.1.length:Nat):Int) != ((x74.1.length:Nat):Int)))::(Cb aa x82 ab l x74 m f x66 g d x56 e)) i3 ap fun mi i4=>?_
         refine wf ?_
         obtain rfl:=XZ aw
         exact XY _ ⟨_,rfl,i4.kp,ap,Ae.le_refl _⟩
  ·
   rintro _ n3 ⟨fe,cz,rfl,ec,d2,a5⟩
   replace ar:=ar.mono a5
   replace au:=au.mono a5
   replace av:=av.mono a5
   replace ax:=ax.mono a5
   replace ay:=ay.mono a5
   replace az:=az.mono a5
   replace bd:=bd.mono a5
   replace be:=be.mono a5
   replace bf:=bf.mono a5
   replace cq:=cq.mono a5
   replace cr:=cr.mono a5
   replace ct:=ct.mono a5
   replace da:=da.mono a5
   refine wC (f1) ec (fun d8=>?_) (fun d8=>?_)
   ·
    rw [d8,XW] at H
    refine XT (Aa (Rk 0 1 [tB 10 false] ec d2 fun mj i5=>?_))
    refine wf (wp_ret ?_)
    obtain rfl:=XZ H
    exact rt (.one (.c (.bool false))) i5 d2 rfl
   ·
    rw [d8,XV] at H
    refine wp_skip (XT (XT (Aa (Rk 0 1 ((tI 21 0)::(Cb aa x82 ab l x74 m f x66 g d x56 e)) ec d2 fun ml i6=>?_))))
    refine wf ?_
    obtain⟨f2,fi,H⟩:=Ap H
    refine At (fun a' w'=>∃ (f4:Unit)(ff:Array Value)(d6:Ae),a' = ⟨ff,[]⟩∧Kn 147 (Db i k z ac) [] ff∧Ah ⟨w,h,AB⟩ d6 (Db i k z ac) (KY p r_ u q x s y ad a ag ae ah af ai from_ end_ aj x48 am ak an al ao) [] w'∧Ae.le cz d6∧f2=.go f4) ?_ ?_
    ·
     refine wp_block ?_
     refine As (fun kz a' w'=>∃ (x_v10:Int)(fg:Array Value)(d7:Ae),a' = ⟨fg,[]⟩∧Kn 147 (Db i k z ac) ((tI 21 x_v10)::(Cb aa x82 ab l x74 m f x66 g d x56 e)) fg∧Ah ⟨w,h,AB⟩ d7 (Db i k z ac) (KY p r_ u q x s y ad a ag ae ah af ai from_ end_ aj x48 am ak an al ao) [] w'∧Ae.le cz d7∧By kz x56 x66 x74 x82 x_v10=some f2) n ?_ ?_
     ·
      exact XY 0 ⟨_,_,rfl,i6.kp,d2,Ae.le_refl _,fi⟩
     ·
      rintro fc _ n4 ⟨x_v10,fg,d7,rfl,i8,co,cw,aq⟩
      clear fi
      obtain _ | fc:=fc
      ·
       rw [By] at aq; cases aq
      rw [By] at aq
      replace cq:=cq.mono cw
      replace cr:=cr.mono cw
      replace ct:=ct.mono cw
      replace da:=da.mono cw
      refine XT (XT (Aa (Rk 0 4 ((tB 123 (decide (x_v10<((x56.1.length:Nat):Int))))::(tI 21 x_v10)::(Cb aa x82 ab l x74 m f x66 g d x56 e)) i8 co fun mm ed=>?_)))
      refine wf (wC (decide (x_v10<((x56.1.length:Nat):Int))) ed (fun d9=>?_) (fun d9=>?_))
      ·
       rw [d9,XW] at aq
       refine wp_skip (XT (wp_block (XT (Al (by kernel_rfl) ?_))))
       replace co:=co.drew
       refine Aq [] (Db i k z ac) (KY p r_ u q x s y ad a ag ae ah af ai from_ end_ aj x48 am ak an al ao) ?_
       refine Dr [0,1] [1,0] ((tI 127 x_v10)::(tS 126 f x66.1.length g)::(tI 21 x_v10)::(Cb aa x82 ab l x74 m f x66 g d x56 e)) ed co fun mn i9=>?_
       obtain⟨x128,ex128,aq⟩:=Ap aq
       obtain⟨j6,ka,kv⟩:=Ak ex128
       obtain⟨b7,cu,ls,hc,kr,hg⟩:=cr.get (by decide) kv
       obtain rfl:=kr
       have er:=co.addPlc (b:=b7) (o:=cu+(x_v10:Int).toNat*1) (cs:=[.int .i64 x128]) (fun j c hj=>hg j _ (Aj hj)) rfl (by kernel_rfl) (by kernel_rfl)
       refine A5 2 (x_v10) [.int .i64 x128] (fun _ _ _ _ _ h=>h) rfl rfl (rfl) rfl (by decide) (by kernel_rfl) (by kernel_rfl) i9 co.plOk (by rfl) (by rfl) (by rfl) hc (by rfl) j6 ka (by kernel_rfl) fun li (ja:Kn 147 [(i,0),(k,0),(z,0),(ac,0),(b7,cu+(x_v10:Int).toNat*1)] ((tP 128 4 0)::(tI 127 x_v10)::(tS 126 f x66.1.length g)::(tI 21 x_v10)::(Cb aa x82 ab l x74 m f x66 g d x56 e)) li)=>?_
       refine Dr [3,4,5] (dn 5) ((tI 131 x_v10)::(tS 130 d x56.1.length e)::(tI 129 x128)::(tI 21 x_v10)::(Cb aa x82 ab l x74 m f x66 g d x56 e)) ja er fun mp jb=>?_
       obtain⟨x132,ex132,aq⟩:=Ap aq
       obtain⟨j7,kb,kw⟩:=Ak ex132
       obtain⟨cv,cy,lu,hd,ks,hl⟩:=cq.get (by decide) kw
       obtain rfl:=ks
       have cp:=er.addPlc (b:=cv) (o:=cy+(x_v10:Int).toNat*1) (cs:=[.int .i64 x132]) (fun j c hj=>hl j _ (Aj hj)) rfl (by kernel_rfl) (by kernel_rfl)
       refine A5 6 (x_v10) [.int .i64 x132] (fun _ _ _ _ _ h=>h) rfl rfl (rfl) rfl (by decide) (by kernel_rfl) (by kernel_rfl) jb er.plOk (by rfl) (by rfl) (by rfl) hd (by rfl) j7 kb (by kernel_rfl) fun lj (jc:Kn 147 [(i,0),(k,0),(z,0),(ac,0),(b7,cu+(x_v10:Int).toNat*1),(cv,cy+(x_v10:Int).toNat*1)] ((tP 132 5 0)::(tI 131 x_v10)::(tS 130 d x56.1.length e)::(tI 129 x128)::(tI 21 x_v10)::(Cb aa x82 ab l x74 m f x66 g d x56 e)) lj)=>?_
       refine Dr [7,8,9] (dn 9) ((tB 135 (decide (x128>x132)))::(tI 21 x_v10)::(Cb aa x82 ab l x74 m f x66 g d x56 e)) jc cp fun gb fs=>?_
       rcases Bool.eq_false_or_eq_true (decide (x128>x132)) with c6 | c6
       ·
        rw [c6,XW] at aq
        have jd:Kn 147 [(i,0),(k,0),(z,0),(ac,0),(b7,cu+(x_v10:Int).toNat*1),(cv,cy+(x_v10:Int).toNat*1)] ((tB 135 true)::(tI 21 x_v10)::(Cb aa x82 ab l x74 m f x66 g d x56 e)) gb:=(fs.setB 135 true (by rfl) c6).kp
        refine Dr [10,11,12,13,14,15,16,17,18,19] (dn 19) ((tB 145 true)::(tI 21 x_v10)::(Cb aa x82 ab l x74 m f x66 g d x56 e)) jd cp fun mq ft=>?_
        refine A0 (by kernel_rfl) (wC true ft (fun hb=>?_) (fun hb=>?_))
        rotate_left
        ·
         cases hb
        refine XT (Aa (Rk 0 1 [tB 10 false] ft cp fun mr je=>?_))
        refine wf (wp_ret ?_)
        obtain rfl:=XZ aq
        obtain rfl:=XZ H
        exact rt (.one (.c (.bool false))) je cp rfl
       ·
        rw [c6,XV] at aq
        have jf:Kn 147 [(i,0),(k,0),(z,0),(ac,0),(b7,cu+(x_v10:Int).toNat*1),(cv,cy+(x_v10:Int).toNat*1)] ((tB 135 false)::(tI 21 x_v10)::(Cb aa x82 ab l x74 m f x66 g d x56 e)) gb:=(fs.setB 135 false (by rfl) c6).kp
        refine Dr [10,11] (dn 11) ((tI 137 x_v10)::(tS 136 aa x82.1.length ab)::(tB 135 false)::(tI 21 x_v10)::(Cb aa x82 ab l x74 m f x66 g d x56 e)) jf cp fun ms fu=>?_
        obtain⟨x138,ex138,aq⟩:=Ap aq
        obtain⟨j8,kc,kx⟩:=Ak ex138
        obtain⟨d3,fd,lv,he,kt,hn⟩:=da.get (by decide) kx
        obtain rfl:=kt
        have es:=cp.addPlc (b:=d3) (o:=fd+(x_v10:Int).toNat*1) (cs:=[.int .i64 x138]) (fun j c hj=>hn j _ (Aj hj)) rfl (by kernel_rfl) (by kernel_rfl)
        refine A5 12 (x_v10) [.int .i64 x138] (fun _ _ _ _ _ h=>h) rfl rfl (Ai fu (by kernel_rfl)) rfl (by decide) (by kernel_rfl) (by kernel_rfl) fu cp.plOk (by rfl) (by rfl) (by rfl) he (by rfl) j8 kc (by kernel_rfl) fun lk (jg:Kn 147 [(i,0),(k,0),(z,0),(ac,0),(b7,cu+(x_v10:Int).toNat*1),(cv,cy+(x_v10:Int).toNat*1),(d3,fd+(x_v10:Int).toNat*1)] ((tP 138 6 0)::(tI 137 x_v10)::(tS 136 aa x82.1.length ab)::(tB 135 false)::(tI 21 x_v10)::(Cb aa x82 ab l x74 m f x66 g d x56 e)) lk)=>?_
        refine Dr [13,14,15] (dn 15) ((tI 141 x_v10)::(tS 140 l x74.1.length m)::(tI 139 x138)::(tB 135 false)::(tI 21 x_v10)::(Cb aa x82 ab l x74 m f x66 g d x56 e)) jg es fun mt fv=>?_
        obtain⟨x142,ex142,aq⟩:=Ap aq
        obtain⟨j9,kd,ky⟩:=Ak ex142
        obtain⟨fh,f3,lw,hf,ku,ho⟩:=ct.get (by decide) ky
        obtain rfl:=ku
        have c9:=es.addPlc (b:=fh) (o:=f3+(x_v10:Int).toNat*1) (cs:=[.int .i64 x142]) (fun j c hj=>ho j _ (Aj hj)) rfl (by kernel_rfl) (by kernel_rfl)
        refine A5 16 (x_v10) [.int .i64 x142] (fun _ _ _ _ _ h=>h) rfl rfl (Ai fv (by kernel_rfl)) rfl (by decide) (by kernel_rfl) (by kernel_rfl) fv es.plOk (by rfl) (by rfl) (by rfl) hf (by rfl) j9 kd (by kernel_rfl) fun ll (jh:Kn 147 [(i,0),(k,0),(z,0),(ac,0),(b7,cu+(x_v10:Int).toNat*1),(cv,cy+(x_v10:Int).toNat*1),(d3,fd+(x_v10:Int).toNat*1),(fh,f3+(x_v10:Int).toNat*1)] ((tP 142 7 0)::(tI 141 x_v10)::(tS 140 l x74.1.length m)::(tI 139 x138)::(tB 135 false)::(tI 21 x_v10)::(Cb aa x82 ab l x74 m f x66 g d x56 e)) ll)=>?_
        refine Dr [17,18,19] (dn 19) ((tB 145 (decide (x138>x142)))::(tI 21 x_v10)::(Cb aa x82 ab l x74 m f x66 g d x56 e)) jh c9 fun mu ef=>?_
        refine A0 (by kernel_rfl) (wC (decide (x138>x142)) ef (fun eb=>?_) (fun eb=>?_))
        ·
         rw [eb,XW] at aq
         refine XT (Aa (Rk 0 1 [tB 10 false] ef c9 fun mv ji=>?_))
         refine wf (wp_ret ?_)
         obtain rfl:=XZ aq
         obtain rfl:=XZ H
         exact rt (.one (.c (.bool false))) ji c9 rfl
        ·
         rw [eb,XV] at aq
         refine wp_skip (Aa (Rk 0 3 ((tI 21 (IntKind.i64.wrap (x_v10+1)))::(Cb aa x82 ab l x74 m f x66 g d x56 e)) ef c9 fun mw jj=>?_))
         refine wf ?_
         exact XY fc ⟨Nat.lt_succ_self _,XY (IntKind.i64.wrap (x_v10+1)) ⟨_,_,rfl,(jj.keep [21,19,17,15,13] (by rfl)).cut 4 (by kernel_rfl),c9.cutPl 4 (by kernel_rfl),cw,aq⟩⟩
      ·
       rw [d9,XV] at aq
       refine wp_exit ?_
       obtain rfl:=XZ aq
       exact XY () ⟨_,_,rfl,ed.kp,co,cw,rfl⟩
    ·
     rintro _ n6 ⟨f4,ff,d6,rfl,jk,fw,l0,rfl⟩
     rw [Ex.bind_go] at H
     refine XT (Aa ?_)
     obtain⟨x146,ex146,H⟩:=Ap H
     refine wl fun K hK=>?_
     refine wc [] jk fw (JS n fw.has  ex146) fun ni ly n7 gx l1 fy=>?_
     obtain rfl:=gx
     refine⟨.one (.c (.bool x146)),rfl,fun lm (jl:Kn 147 (Db i k z ac) [tB 146 x146] lm)=>hK _ _ ?_⟩
     refine Rk 1 1 [tB 10 x146] jl fy fun mx jm=>?_
     refine wf (wp_ret ?_)
     obtain rfl:=XZ H
     exact rt (.one (.c (.bool x146))) jm fy rfl
end Go.Proofs.YtokchpjijlebiaaGreat
