/- Each call computes its plain function. -/
import Derived.Test.YtokchpjijlebiaaProg
import Derived.Test.YtokchpjijlebiaaLQP0
import Derived.Test.YtokchpjijlebiaaLQWA
import Derived.Test.YtokchpjijlebiaaLQWB
import Derived.Test.YtokchpjijlebiaaLQWB1
import Derived.Test.YtokchpjijlebiaaLQWC
import Derived.Test.YtokchpjijlebiaaLQWC1
import Derived.Test.YtokchpjijlebiaaLQWD
import Derived.Test.YtokchpjijlebiaaLQWE
import Derived.Test.YtokchpjijlebiaaLQWM1
import Derived.Test.YtokchpjijlebiaaLQWZ
set_option linter.all false
namespace Go.Proofs.Ytokchpjijlebiaa
open Go Go.RowKit
open Rep (rep)
open KRep (kv)
open VRep (rv)
abbrev Sp:List SC:=[.slice none 0 0,.slice none 0 0,.slice none 0 0]
abbrev Cb (d f g y z:Nat):Be:=[(d,0),(f,0),(g,0),(y,0),(z,0)]
abbrev DN (d f g y z a5 ba:Nat):Be:=[(d,0),(f,0),(g,0),(y,0),(z,0),(a5,0),(ba,0)]
abbrev BI (ae:Option Addr) (a:As) (ah:Nat) (af:Option Addr) (ai:Nat) (ag:Option Addr) (aj:Nat):List SC:=[.slice ae a.holds.length ah,.slice af a.turns.length ai,.slice ag a.spares.length aj]
abbrev DW (al:Option Addr) (x59:Av) (ao:Nat) (am:Option Addr) (ap:Nat) (an:Option Addr) (aq:Nat):List SC:=[.slice al x59.tm.length ao,.slice am x59.turns.length ap,.slice an x59.legs.length aq]
abbrev Gm (a1:Option Addr) (x:((List Ce)×(List Int))) (a2:Nat) (ar:Option Addr) (x62:Av) (aw:Nat) (au:Option Addr) (ax:Nat):List SC:=[.slice a1 x.2.length a2,.slice ar x62.turns.length aw,.slice au x62.legs.length ax]
abbrev QV (e5:Option Addr) (x127:As) (fm:Nat) (e6:Option Addr) (fn:Nat) (e7:Option Addr) (fo:Nat):List SC:=[.slice e5 x127.holds.length fm,.slice e6 x127.turns.length fn,.slice e7 x127.spares.length fo]
abbrev QW (e8:Option Addr) (x137:As) (fp:Nat) (e9:Option Addr) (fq:Nat) (fa:Option Addr) (fs:Nat):List SC:=[.slice e8 x137.holds.length fp,.slice e9 x137.turns.length fq,.slice fa x137.spares.length fs]
abbrev Gn (cn:Option Addr) (x162:As×Int) (cv:Nat) (co:Option Addr) (cw:Nat) (cp:Option Addr) (cx:Nat):List SC:=[.slice cn x162.1.holds.length cv,.slice co x162.1.turns.length cw,.slice cp x162.1.spares.length cx]
abbrev E6 (cq:Option Addr) (x168:As×Int) (cy:Nat) (cr:Option Addr) (cz:Nat) (ct:Option Addr) (c0:Nat):List SC:=[.slice cq x168.1.holds.length cy,.slice cr x168.1.turns.length cz,.slice ct x168.1.spares.length c0]
abbrev PP (x76:Ce) (by_:IK .u8) (x85:Ce):List SC:=[.int .i64 (IntKind.i64.wrap (x76.tm.lo+(IntKind.i64.wrap by_.n))),.int .i64 (IntKind.i64.wrap (x85.tm.hi+(IntKind.i64.wrap by_.n)))]
abbrev NY (d f g y z a5 ba db dg:Nat) (x_v30:Int) (dh dj:Nat):Be:=[(d,0),(f,0),(g,0),(y,0),(z,0),(a5,0),(ba,0),(db,dg+(x_v30:Int).toNat*1),(dh,dj+(x_v30:Int).toNat*1)]
abbrev AG (l:Option Addr) (r_:Af) (m:Nat) (p:Option Addr) (q:Nat) (s:Option Addr) (u:Nat):List SC:=[.slice l r_.legs.length m,.int .i64 r_.turn.lo,.int .i64 r_.turn.hi,.slice p r_.buses.length q,.slice s r_.spares.length u,.int .i64 r_.unit,.int .i64 r_.gap,.int .i64 r_.fr,.int .i64 r_.to_]
abbrev LG (eo:Option Addr) (x125:Af) (ev:Nat) (ep:Option Addr) (ew:Nat) (er:Option Addr) (ex:Nat):List SC:=[.slice eo x125.legs.length ev,.int .i64 x125.turn.lo,.int .i64 x125.turn.hi,.slice ep x125.buses.length ew,.slice er x125.spares.length ex,.int .i64 x125.unit,.int .i64 x125.gap,.int .i64 x125.fr,.int .i64 x125.to_]
abbrev LH (es:Option Addr) (x135:Af) (ey:Nat) (et:Option Addr) (ez:Nat) (eu:Option Addr) (e0:Nat):List SC:=[.slice es x135.legs.length ey,.int .i64 x135.turn.lo,.int .i64 x135.turn.hi,.slice et x135.buses.length ez,.slice eu x135.spares.length e0,.int .i64 x135.unit,.int .i64 x135.gap,.int .i64 x135.fr,.int .i64 x135.to_]
abbrev NZ (fb:Option Addr) (x145:Af) (ft:Nat) (fc:Option Addr) (fu:Nat) (fd:Option Addr) (fv:Nat):List SC:=[.slice fb x145.legs.length ft,.int .i64 x145.turn.lo,.int .i64 x145.turn.hi,.slice fc x145.buses.length fu,.slice fd x145.spares.length fv,.int .i64 x145.unit,.int .i64 x145.gap,.int .i64 x145.fr,.int .i64 x145.to_]
abbrev Oa (fe:Option Addr) (x153:Af) (fw:Nat) (ff:Option Addr) (fx:Nat) (fg:Option Addr) (fy:Nat):List SC:=[.slice fe x153.legs.length fw,.int .i64 x153.turn.lo,.int .i64 x153.turn.hi,.slice ff x153.buses.length fx,.slice fg x153.spares.length fy,.int .i64 x153.unit,.int .i64 x153.gap,.int .i64 x153.fr,.int .i64 x153.to_]
abbrev PQ (gj:Option Addr) (x161:Af) (gv:Nat) (gk:Option Addr) (gw:Nat) (gl:Option Addr) (gx:Nat):List SC:=[.slice gj x161.legs.length gv,.int .i64 x161.turn.lo,.int .i64 x161.turn.hi,.slice gk x161.buses.length gw,.slice gl x161.spares.length gx,.int .i64 x161.unit,.int .i64 x161.gap,.int .i64 x161.fr,.int .i64 x161.to_]
abbrev PR (gm:Option Addr) (x167:Af) (gy:Nat) (gn:Option Addr) (gz:Nat) (gp:Option Addr) (g0:Nat):List SC:=[.slice gm x167.legs.length gy,.int .i64 x167.turn.lo,.int .i64 x167.turn.hi,.slice gn x167.buses.length gz,.slice gp x167.spares.length g0,.int .i64 x167.unit,.int .i64 x167.gap,.int .i64 x167.fr,.int .i64 x167.to_]
abbrev RO (l:Option Addr) (r_:Af) (m:Nat) (p:Option Addr) (q:Nat) (s:Option Addr) (u:Nat) (by_:IK .u8):List SC:=[.slice l r_.legs.length m,.int .i64 r_.turn.lo,.int .i64 r_.turn.hi,.slice p r_.buses.length q,.slice s r_.spares.length u,.int .i64 r_.unit,.int .i64 r_.gap,.int .i64 (IntKind.i64.wrap (r_.fr+(IntKind.i64.wrap by_.n))),.int .i64 r_.to_]
abbrev RP (l:Option Addr) (r_:Af) (m:Nat) (cu:Option Addr) (x50:List Ce) (c1:Nat) (ce:Option Addr) (x54:List Az) (cf:Nat) (by_:IK .u8):List SC:=[.slice l r_.legs.length m,.int .i64 r_.turn.lo,.int .i64 r_.turn.hi,.slice cu x50.length c1,.slice ce x54.length cf,.int .i64 r_.unit,.int .i64 r_.gap,.int .i64 (IntKind.i64.wrap (r_.fr+(IntKind.i64.wrap by_.n))),.int .i64 (IntKind.i64.wrap (r_.to_+(IntKind.i64.wrap by_.n)))]
abbrev TE (l:Option Addr) (r_:Af) (m:Nat) (p:Option Addr) (q:Nat) (s:Option Addr) (u:Nat) (by_:IK .u8):List SC:=[.slice l r_.legs.length m,.int .i64 r_.turn.lo,.int .i64 r_.turn.hi,.slice p r_.buses.length q,.slice s r_.spares.length u,.int .i64 r_.unit,.int .i64 r_.gap,.int .i64 (IntKind.i64.wrap (r_.fr+(IntKind.i64.wrap by_.n))),.int .i64 (IntKind.i64.wrap (r_.to_+(IntKind.i64.wrap by_.n)))]
abbrev C9 (l:Option Addr) (r_:Af) (m:Nat) (av:Option Addr) (x:((List Ce)×(List Int))) (ay:Nat) (az:Option Addr) (ak:List Az) (a0:Nat) (by_:IK .u8):List SC:=[.slice l r_.legs.length m,.int .i64 r_.turn.lo,.int .i64 r_.turn.hi,.slice av x.1.length ay,.slice az ak.length a0,.int .i64 r_.unit,.int .i64 r_.gap,.int .i64 (IntKind.i64.wrap (r_.fr+(IntKind.i64.wrap by_.n))),.int .i64 (IntKind.i64.wrap (r_.to_+(IntKind.i64.wrap by_.n)))]
abbrev EP:List Fl:=[⟨0,47,63,3,0,[]⟩,⟨4,51,61,2,0,[]⟩]
abbrev GJ (l:Option Addr) (r_:Af) (m:Nat) (p:Option Addr) (q:Nat) (s:Option Addr) (u:Nat) (ae:Option Addr) (a:As) (ah:Nat) (af:Option Addr) (ai:Nat) (ag:Option Addr) (aj:Nat):List CI:=[⟨AG l r_ m p q s u,some 28⟩,⟨BI ae a ah af ai ag aj,some 50⟩,⟨[],some 28⟩]
abbrev GK (l:Option Addr) (r_:Af) (m:Nat) (p:Option Addr) (q:Nat) (s:Option Addr) (u:Nat) (ae:Option Addr) (a:As) (ah:Nat) (af:Option Addr) (ai:Nat) (ag:Option Addr) (aj:Nat) (by_:IK .u8):List CI:=[⟨AG l r_ m p q s u,some 28⟩,⟨BI ae a ah af ai ag aj,some 50⟩,⟨TE l r_ m p q s u by_,some 28⟩]
abbrev FF (l:Option Addr) (r_:Af) (m:Nat) (p:Option Addr) (q:Nat) (s:Option Addr) (u:Nat) (ae:Option Addr) (a:As) (ah:Nat) (af:Option Addr) (ai:Nat) (ag:Option Addr) (aj:Nat) (av:Option Addr) (x:((List Ce)×(List Int))) (ay:Nat) (az:Option Addr) (ak:List Az) (a0:Nat) (by_:IK .u8) (al:Option Addr) (x59:Av) (ao:Nat) (am:Option Addr) (ap:Nat) (an:Option Addr) (aq:Nat) (a1:Option Addr) (a2:Nat) (ar:Option Addr) (x62:Av) (aw:Nat) (au:Option Addr) (ax:Nat):List CI:=[⟨AG l r_ m p q s u,some 28⟩,⟨BI ae a ah af ai ag aj,some 50⟩,⟨C9 l r_ m av x ay az ak a0 by_,some 28⟩,⟨DW al x59 ao am ap an aq,some 75⟩,⟨Gm a1 x a2 ar x62 aw au ax,some 75⟩]
abbrev LI (av:Option Addr) (x:((List Ce)×(List Int))) (ay:Nat) (bn:List Value) (az:Option Addr) (ak:List Az) (a0:Nat) (b3:List Value) (al:Option Addr) (x59:Av) (ao:Nat) (bi:List Value) (am:Option Addr) (ap:Nat) (bm:List Value) (an:Option Addr) (aq:Nat) (bq:List Value) (a1:Option Addr) (a2:Nat) (b8:List Value) (ar:Option Addr) (x62:Av) (aw:Nat) (b2:List Value) (au:Option Addr) (ax:Nat) (b7:List Value):List C0:=[⟨av,x.1.length,ay,63,3,bn,(bn:List Value).length⟩,⟨az,ak.length,a0,61,2,b3,(b3:List Value).length⟩,⟨al,x59.tm.length,ao,3,1,bi,(bi:List Value).length⟩,⟨am,x59.turns.length,ap,3,1,bm,(bm:List Value).length⟩,⟨an,x59.legs.length,aq,31,1,bq,(bq:List Value).length⟩,⟨a1,x.2.length,a2,3,1,b8,(b8:List Value).length⟩,⟨ar,x62.turns.length,aw,3,1,b2,(b2:List Value).length⟩,⟨au,x62.legs.length,ax,31,1,b7,(b7:List Value).length⟩]
abbrev A3 (ac:Option Addr) (x140:(List (List Int))×Int) (ad:Nat) (aa:Option Addr) (x130:(List (List Int))×Int) (ab:Nat) (by_:IK .u8):TM:=[tS 17 ac x140.1.length ad,tS 15 aa x130.1.length ab,tI 9 (IntKind.i64.wrap by_.n)]
abbrev AC (by_:IK .u8):TM:=[tP 10 2 0,tI 9 (IntKind.i64.wrap by_.n),tP 5 1 0,tP 4 0 0]
abbrev Cz (by_:IK .u8) (a_words:Option Addr) (words:List (IK .u16)) (c_words:Nat):TM:=[tP 10 2 0,tI 9 (IntKind.i64.wrap by_.n),tP 5 1 0,tP 4 0 0,tS 2 a_words words.length c_words]
abbrev LJ (x162:As×Int) (x156:(List Int)×Int) (a7:Option Addr) (a8:Nat) (x148:(List Int)×Int) (a3:Option Addr) (a4:Nat) (x140:(List (List Int))×Int) (ac:Option Addr) (ad:Nat) (x130:(List (List Int))×Int) (aa:Option Addr) (ab:Nat) (by_:IK .u8):TM:=[tI 24 x162.2,tP 23 5 0,tI 22 x156.2,tS 21 a7 x156.1.length a8,tI 20 x148.2,tS 19 a3 x148.1.length a4,tI 18 x140.2,tS 17 ac x140.1.length ad,tI 16 x130.2,tS 15 aa x130.1.length ab,tI 9 (IntKind.i64.wrap by_.n)]
abbrev LK (x156:(List Int)×Int) (a7:Option Addr) (a8:Nat) (x148:(List Int)×Int) (a3:Option Addr) (a4:Nat) (x140:(List (List Int))×Int) (ac:Option Addr) (ad:Nat) (x130:(List (List Int))×Int) (aa:Option Addr) (ab:Nat) (by_:IK .u8):TM:=[tI 22 x156.2,tS 21 a7 x156.1.length a8,tI 20 x148.2,tS 19 a3 x148.1.length a4,tI 18 x140.2,tS 17 ac x140.1.length ad,tI 16 x130.2,tS 15 aa x130.1.length ab,tP 10 2 0,tI 9 (IntKind.i64.wrap by_.n)]
set_option maxRecDepth 100000 in
set_option maxHeartbeats 4000000 in
theorem JH (n:Nat) {h:Ad} {w:World} (hh:Dk h w) (r_:Af) {cs_r_:List Value} (hx_r_:rep h r_ cs_r_) (a:As) {cs_a:List Value} (hx_a:rep h a cs_a) (words:List (IK .u16)) {a_words:Option Addr} {c_words:Nat} (hr_words:A0 h a_words c_words words) (by_:IK .u8) {r:Bool} (H:Es n r_ a words by_=some r) :
  Calls Try.prog 10 #[.agg cs_r_.toArray,.agg cs_a.toArray,.slice a_words words.length c_words,.int .u8 by_.n] w (Dq (fun h v=>v=.bool r) h w):=by
 obtain⟨_,_,rfl,⟨l,m,rfl,a6⟩,⟨_,_,rfl,⟨_,_,rfl,rfl,rfl⟩,⟨_,_,rfl,⟨p,q,rfl,a9⟩,⟨_,_,rfl,⟨s,u,rfl,bc⟩,⟨_,_,rfl,rfl,⟨_,_,rfl,rfl,⟨_,_,rfl,rfl,rfl⟩⟩⟩⟩⟩⟩⟩:=hx_r_
 obtain⟨_,_,rfl,⟨ae,ah,rfl,be⟩,⟨_,_,rfl,⟨af,ai,rfl,bf⟩,⟨ag,aj,rfl,bg⟩⟩⟩:=hx_a
 refine enter 253 [.agg (AG l r_ m p q s u),.agg (BI ae a ah af ai ag aj),.c (.slice a_words words.length c_words),.c (.int .u8 by_.n)] Try.func10 rfl rfl rfl rfl fun t hk=>?_
 have hm:=Ah.begin h w hh
 unfold Es at H
 refine XT (Aa (wl fun K hK=>?_))
 refine wb (.agg (AG l r_ m p q s u)) hk hm fun d abf ahl (t5:Kn 253 [(d,0)] [tP 4 0 0,tA 0 (AG l r_ m p q s u),tA 1 (BI ae a ah af ai ag aj),tS 2 a_words words.length c_words,(3,.one (.c (.int .u8 by_.n)))] abf) x5=>hK _ _ ?_
 refine wl fun K hK=>?_
 refine wb (.agg (BI ae a ah af ai ag aj)) t5 x5 fun f abh ahn (uc:Kn 253 [(d,0),(f,0)] [tP 5 1 0,tP 4 0 0,tA 0 (AG l r_ m p q s u),tA 1 (BI ae a ah af ai ag aj),tS 2 a_words words.length c_words,(3,.one (.c (.int .u8 by_.n)))] abh) jn=>hK _ _ ?_
 refine Rk 2 1 [tP 5 1 0,tP 4 0 0,tS 2 a_words words.length c_words,(3,.one (.c (.int .u8 by_.n)))] uc jn fun aex uj=>?_
 refine wf (XT (XT (Aa (Rk 0 2 [tA 30 (BI ae a ah af ai ag aj),tA 29 (AG l r_ m p q s u),tP 5 1 0,tP 4 0 0,tS 2 a_words words.length c_words,(3,.one (.c (.int .u8 by_.n)))] uj jn fun ae0 um=>?_))))
 obtain⟨x31,ex31,H⟩:=Ao H
 refine wl fun K hK=>?_
 refine wc [.agg (AG l r_ m p q s u),.agg (BI ae a ah af ai ag aj)] um jn (PO n jn.has r_ ((Ab (Ae a6) (Ab (Ab Ac Ac) (Ab (Ae a9) (Ab (Ae bc) (Ab Ac (Ab Ac (Ab Ac Ac))))))):rep h r_ _) a ((Ab (Ae be) (Ab (Ae bf) (Ae bg))):rep h a _) ex31) fun agj re ahp qh f3 g1=>?_
 replace a6:=a6.mono f3
 replace a9:=a9.mono f3
 replace bc:=bc.mono f3
 replace be:=be.mono f3
 replace bf:=bf.mono f3
 replace bg:=bg.mono f3
 replace hr_words:=hr_words.mono f3
 obtain rfl:=qh
 refine⟨.one (.c (.bool x31)),rfl,fun abn (u2:Kn 253 [(d,0),(f,0)] [tB 31 x31,tA 30 (BI ae a ah af ai ag aj),tA 29 (AG l r_ m p q s u),tP 5 1 0,tP 4 0 0,tS 2 a_words words.length c_words,(3,.one (.c (.int .u8 by_.n)))] abn)=>hK _ _ ?_⟩
 refine Rk 3 1 [tB 32 (!x31),tP 5 1 0,tP 4 0 0,tS 2 a_words words.length c_words,(3,.one (.c (.int .u8 by_.n)))] u2 g1 fun ae6 k2=>?_
 refine wf (wC ((!x31)) k2 (fun ks=>?_) (fun ks=>?_))
 ·
  rw [ks,XW] at H
  refine XT (Aa ?_)
  obtain⟨x33,ex33,H⟩:=Ao H
  refine wl fun K hK=>?_
  refine wc [] k2 g1 (HT n g1.has  ex33) fun agl adk ahu ql adt oo=>?_
  obtain rfl:=ql
  refine⟨.one (.c (.bool x33)),rfl,fun abu (vg:Kn 253 [(d,0),(f,0)] [tB 33 x33,tB 32 (!x31),tP 5 1 0,tP 4 0 0,tS 2 a_words words.length c_words,(3,.one (.c (.int .u8 by_.n)))] abu)=>hK _ _ ?_⟩
  refine Rk 1 1 [tB 8 x33] vg oo fun afc vj=>?_
  refine wf (wp_ret ?_)
  obtain rfl:=XZ H
  exact rt (.one (.c (.bool x33))) vj oo rfl
 ·
  rw [ks,XV] at H
  refine wp_skip (XT (Aa (Rk 0 3 [tI 9 (IntKind.i64.wrap by_.n),tP 5 1 0,tP 4 0 0,tS 2 a_words words.length c_words] k2 g1 fun aff vn=>?_)))
  refine wf (XT (Aa (Rk 0 1 [tA 36 (AG l r_ m p q s u),tI 9 (IntKind.i64.wrap by_.n),tP 5 1 0,tP 4 0 0,tS 2 a_words words.length c_words] vn g1 fun afg vp=>?_)))
  refine wl fun K hK=>?_
  refine wa [.slice none 0 0,.int .i64 0,.int .i64 0,.slice none 0 0,.slice none 0 0,.int .i64 0,.int .i64 0,.int .i64 0,.int .i64 0] vp g1 fun g pn ahz (vs:Kn 253 [(d,0),(f,0),(g,0)] [tP 10 2 0,tA 36 (AG l r_ m p q s u),tI 9 (IntKind.i64.wrap by_.n),tP 5 1 0,tP 4 0 0,tS 2 a_words words.length c_words] pn) ya=>hK _ _ ?_
  refine wl fun K hK=>?_
  refine EA 2 0 (.agg (AG l r_ m p q s u)) (AG l r_ m p q s u) vs ya fun ah2 vw e2=>hK _ _ ?_
  have vz:Kn 253 [(d,0),(f,0),(g,0)] (Cz by_ a_words words c_words) pn:=vw.kp
  refine wf (XT (Al (by kernel_rfl) ?_))
  replace e2:=e2.drew
  refine Am [5] [(d,0),(f,0),(g,0)] (GJ l r_ m p q s u ae a ah af ai ag aj) ?_
  refine GC [0,1,2,3,4,6,8] [8,6,4,3,2,1,0] [45,43,41,40,10,9,5,4,2] ((tP 45 2 7)::(tI 43 (IntKind.i64.wrap by_.n))::(tP 41 0 8)::(tI 40 (IntKind.i64.wrap (r_.fr+(IntKind.i64.wrap by_.n))))::(Cz by_ a_words words c_words)) (fun _ _ _ _ _ h=>h) vz (A6.forget [2] e2.plOk) (by kernel_rfl) (by rfl) (by kernel_rfl) fun afl nx=>?_
  refine Ck (fun W=>∀ a' w',(∃ (j5:Array Value)(eg:Ad),a' = ⟨j5,[]⟩∧Kn 253 [(d,0),(f,0),(g,0)] ((tP 46 2 8)::(tI 44 (IntKind.i64.wrap (r_.to_+(IntKind.i64.wrap by_.n))))::(Cz by_ a_words words c_words)) j5∧Ah ⟨w,h,A5⟩ eg [(d,0),(f,0),(g,0)] [⟨AG l r_ m p q s u,some 28⟩,⟨BI ae a ah af ai ag aj,some 50⟩,⟨RO l r_ m p q s u by_,some 28⟩] [] w'∧Ad.le re eg)→W [(d,0),(f,0),(g,0)] (GJ l r_ m p q s u ae a ah af ai ag aj) [10,7,5,9,8,6,4,3,2,1,0] a' w') ?_ (fun pc=>?_)
  ·
   rintro _ ah9 ⟨j5,eg,rfl,v8,yb,f4⟩
   replace a6:=a6.mono f4
   replace a9:=a9.mono f4
   replace bc:=bc.mono f4
   replace be:=be.mono f4
   replace bf:=bf.mono f4
   replace bg:=bg.mono f4
   replace hr_words:=hr_words.mono f4
   refine Cx 11 rfl (by kernel_rfl) (by decide) (rfl) (by kernel_rfl) fun K hK=>?_
   refine EA 2 8 (.c (.int .i64 (IntKind.i64.wrap (r_.to_+(IntKind.i64.wrap by_.n))))) (TE l r_ m p q s u by_) v8 yb fun px wj j0=>hK _ _ ?_
   refine Am [5] [(d,0),(f,0),(g,0)] (GJ l r_ m p q s u ae a ah af ai ag aj) ?_
   have wm:Kn 253 [(d,0),(f,0),(g,0)] (Cz by_ a_words words c_words) j5:=wj.kp
   refine A1 (by kernel_rfl) (XT (Al (by kernel_rfl) ?_))
   replace j0:=j0.drew
   refine Am [6] [(d,0),(f,0),(g,0)] (GJ l r_ m p q s u ae a ah af ai ag aj) ?_
   refine GC [1,2,5] [5,2,1] [52,49,10,9,5,4,2] ((tP 52 0 4)::(tS 49 p r_.buses.length q)::(Cz by_ a_words words c_words)) (fun _ _ _ _ _ h=>h) wm (A6.forget [2] j0.plOk) (by kernel_rfl) (by rfl) (by kernel_rfl) fun afs ws=>?_
   obtain⟨x50,ex50,H⟩:=Ao H
   obtain⟨x54,ex54,H⟩:=Ao H
   have ye:Ah ⟨w,h,A5⟩ eg [(d,0),(f,0),(g,0)] (GK l r_ m p q s u ae a ah af ai ag aj by_) [⟨none,0,0,63,3,[],0⟩] (World.drew px):=j0.nilRow 63 3
   have yf:Ah ⟨w,h,A5⟩ eg [(d,0),(f,0),(g,0)] (GK l r_ m p q s u ae a ah af ai ag aj by_) [⟨none,0,0,63,3,[],0⟩,⟨none,0,0,61,2,[],0⟩] (World.drew px):=ye.nilRow 61 2
   refine Ck (Vk 253 ⟨w,h,A5⟩ [(d,0),(f,0),(g,0)] (GK l r_ m p q s u ae a ah af ai ag aj by_) (GJ l r_ m p q s u ae a ah af ai ag aj) [] [⟨4,51,61,2,0,[]⟩] [6,8,3,0,5,2,1] (fun mm nr rw=>∃ (cu:Option Addr)(c1:Nat)(e3:List Value),mm=((tP 55 2 3)::(tS 50 cu x50.length c1)::(tS 53 s r_.spares.length u)::(Cz by_ a_words words c_words))∧rw=[⟨cu,x50.length,c1,63,3,e3,0⟩]∧Ad.le eg nr∧Ag nr x50 e3)) ?_ (fun pd=>?_)
   ·
    refine JA (MF [(7,[true])] ?_ (fun _ _ _ hm=>A6.forget [2] hm.plOk) (by kernel_rfl) (by kernel_rfl) ⟨?_,trivial⟩)
    ·
     rintro _ _ _ ⟨cu,c1,e3,rfl,rfl,_,_⟩
     exact⟨⟨⟨_,_,_,rfl,rfl,rfl,rfl,rfl,by rfl,by rfl,by rfl,rfl,by kernel_rfl⟩,trivial⟩,by kernel_rfl⟩
    ·
     intro ac8 add ach jf ad3 ad8 act q5 p4 o1 p9 h0 j2
     obtain⟨m8,rfl⟩:=Uq q5
     obtain⟨g8,rfl⟩:=Uq p4
     obtain rfl:m8=true:=by cases m8 <;> first | rfl | exact(Bool.false_ne_true o1).elim
     obtain⟨cu,c1,e3,rfl,rfl,f5,ky⟩:=p9
     replace a6:=a6.mono f5
     replace a9:=a9.mono f5
     replace bc:=bc.mono f5
     replace hr_words:=hr_words.mono f5
     replace h0:=h0.req [true] (by kernel_rfl) o1 rfl
     have r5:Ag jf ([]:List Az) ([]:List Value):=Ag.nil
     replace h0:Kn 253 [(d,0),(f,0),(g,0)] ([tP 55 2 3,tS 50 cu x50.length c1,tS 53 s r_.spares.length u,tP 10 2 0,tI 9 (IntKind.i64.wrap by_.n),tP 5 1 0,tP 4 0 0,tS 2 a_words words.length c_words,tS 51 g8 0 0]++EB [⟨4,51,61,2,0,[]⟩] [true] [g8]) ach:=h0
     replace j2:Ah ⟨w,h,A5⟩ jf [(d,0),(f,0),(g,0)] (GK l r_ m p q s u ae a ah af ai ag aj by_) [⟨cu,x50.length,c1,63,3,e3,0⟩,⟨g8,0,0,61,2,([]:List Value),0⟩] act:=j2
     refine⟨_,rfl,rfl,fun K hK=>?_⟩
     obtain⟨en,jh,zv,_⟩:=id bc
     obtain⟨mo,xw⟩:=AV ex54
     refine AA 1 16 r_.spares.length _ (x54.length) _ en h0 j2 rfl rfl (by decide) rfl (by rfl) (by kernel_rfl) (by rfl) (by rfl) (Ag.len jh) (zv.cell j2.has jh.one) jh.one (by rw [mo]; simp <;> omega) (by rw [mo]; exact xw) (by decide) fun ce cf p3 pk ahe su (tn:Kn 253 [(d,0),(f,0),(g,0)] ([tS 54 ce x54.length cf,tP 55 2 3,tS 50 cu x50.length c1,tS 53 s r_.spares.length u,tP 10 2 0,tI 9 (IntKind.i64.wrap by_.n),tP 5 1 0,tP 4 0 0,tS 2 a_words words.length c_words,tS 51 g8 0 0]++EB [⟨4,51,61,2,0,[]⟩] [true] [g8]) pk) og=>?_
     have hu:Ag jf x54 (([]:List Value)++en):=by rw [mo]; exact Ag.append r5 jh
     obtain rfl:p3=0:=Nat.le_zero.1 su
     refine hK _ _ (A6.forget [2] og.plOk) ?_
     have tp:Kn 253 [(d,0),(f,0),(g,0)] ((tS 54 ce x54.length cf)::(tP 55 2 3)::(tS 50 cu x50.length c1)::(Cz by_ a_words words c_words)) pk:=tn.kp
     refine Cx 9 rfl (by kernel_rfl) (by decide) (rfl) (by kernel_rfl) fun K hK=>?_
     refine EA 2 3 (.c (.slice cu x50.length c1)) [.slice l r_.legs.length m,.int .i64 r_.turn.lo,.int .i64 r_.turn.hi,.slice cu x50.length c1,.slice s r_.spares.length u,.int .i64 r_.unit,.int .i64 r_.gap,.int .i64 (IntKind.i64.wrap (r_.fr+(IntKind.i64.wrap by_.n))),.int .i64 (IntKind.i64.wrap (r_.to_+(IntKind.i64.wrap by_.n)))] tp og fun ahf tq oh=>hK _ _ ?_
     refine Am [6] [(d,0),(f,0),(g,0)] (GJ l r_ m p q s u ae a ah af ai ag aj) ?_
     refine GC [10] [10,9,7,4,6,8,3,0,5,2,1] [56,54,10,9,5,4,2] ((tP 56 2 4)::(tS 54 ce x54.length cf)::(Cz by_ a_words words c_words)) (fun _ _ _ _ _ h=>h) tq (A6.forget [2] oh.plOk) (by kernel_rfl) (by rfl) (by kernel_rfl) fun abc tr=>?_
     refine Cx 11 rfl (by kernel_rfl) (by decide) (rfl) (by kernel_rfl) fun K hK=>?_
     refine EA 2 4 (.c (.slice ce x54.length cf)) (RP l r_ m cu x50 c1 ce x54 cf by_) tr oh fun ahg ts lh=>hK _ _ ?_
     refine Am [6] [(d,0),(f,0),(g,0)] (GJ l r_ m p q s u ae a ah af ai ag aj) ?_
     have tt:Kn 253 [(d,0),(f,0),(g,0)] (Cz by_ a_words words c_words) abc:=ts.kp
     refine A1 (by kernel_rfl) (XT (Aa (Rk 0 2 ((tS 58 a_words words.length c_words)::(tA 57 (AG l r_ m p q s u))::(Cz by_ a_words words c_words)) tt lh fun aeq tu=>?_)))
     obtain⟨x59,ex59,H⟩:=Ao H
     refine wl fun K hK=>?_
     refine QF [.agg (AG l r_ m p q s u),.c (.slice a_words words.length c_words)] _ tu lh rfl rfl (by decide) (by rfl) rfl (fun _ _=>by kernel_rfl) (Ji n lh.has r_ ((Ab (Ae a6) (Ab (Ab Ac Ac) (Ab (Ae a9) (Ab (Ae bc) (Ab Ac (Ab Ac (Ab Ac Ac))))))):rep jf r_ _) words hr_words ex59) fun agh ni aco aed qf eh li=>?_
     replace a6:=a6.mono eh
     replace a9:=a9.mono eh
     replace bc:=bc.mono eh
     replace hr_words:=hr_words.mono eh
     obtain⟨al,ao,bi,am,ap,bm,an,aq,bq,rfl,rfl,c3,c4,c5⟩:=qf
     replace li:Ah ⟨w,h,A5⟩ ni [(d,0),(f,0),(g,0)] [⟨AG l r_ m p q s u,some 28⟩,⟨BI ae a ah af ai ag aj,some 50⟩,⟨RP l r_ m cu x50 c1 ce x54 cf by_,some 28⟩] [⟨cu,x50.length,c1,63,3,e3,0⟩,⟨ce,x54.length,cf,61,2,([]:List Value)++en,0⟩,⟨al,x59.tm.length,ao,3,1,bi,0⟩,⟨am,x59.turns.length,ap,3,1,bm,0⟩,⟨an,x59.legs.length,aq,31,1,bq,0⟩] aco:=li
     refine⟨.one (.agg (DW al x59 ao am ap an aq)),rfl,fun abd (tv:Kn 253 [(d,0),(f,0),(g,0)] ((tA 59 (DW al x59 ao am ap an aq))::(tS 58 a_words words.length c_words)::(tA 57 (AG l r_ m p q s u))::(Cz by_ a_words words c_words)) abd)=>hK _ _ ?_⟩
     refine wl fun K hK=>?_
     refine wa Sp tv li fun y pl ahh (tw:Kn 253 [(d,0),(f,0),(g,0),(y,0)] ((tP 11 3 0)::(tA 59 (DW al x59 ao am ap an aq))::(tS 58 a_words words.length c_words)::(tA 57 (AG l r_ m p q s u))::(Cz by_ a_words words c_words)) pl) x3=>hK _ _ ?_
     refine wl fun K hK=>?_
     refine EA 3 0 (.agg (DW al x59 ao am ap an aq)) (DW al x59 ao am ap an aq) tw x3 fun ahi tx lj=>hK _ _ ?_
     have ty:Kn 253 [(d,0),(f,0),(g,0),(y,0)] ((tP 11 3 0)::(Cz by_ a_words words c_words)) pl:=tx.kp
     refine wf (XT (Aa (Rk 0 2 ((tS 61 a_words words.length c_words)::(tA 60 (AG l r_ m p q s u))::(tP 11 3 0)::(AC by_)) ty lj fun aer tz=>?_)))
     obtain⟨x62,ex62,H⟩:=Ao H
     refine wl fun K hK=>?_
     refine QF [.agg (AG l r_ m p q s u),.c (.slice a_words words.length c_words)] _ tz lj rfl rfl (by decide) (by rfl) rfl (fun _ _=>by kernel_rfl) (Ji n lj.has r_ ((Ab (Ae a6) (Ab (Ab Ac Ac) (Ab (Ae a9) (Ab (Ae bc) (Ab Ac (Ab Ac (Ab Ac Ac))))))):rep ni r_ _) words hr_words ex62) fun agi kb acp aee qg d5 lk=>?_
     replace a6:=a6.mono d5
     replace a9:=a9.mono d5
     replace bc:=bc.mono d5
     replace be:=be.mono (XU (XU f5 eh) d5)
     replace bf:=bf.mono (XU (XU f5 eh) d5)
     replace bg:=bg.mono (XU (XU f5 eh) d5)
     replace ky:=ky.mono (XU eh d5)
     replace hu:=hu.mono (XU eh d5)
     replace c3:=c3.mono d5
     replace c4:=c4.mono d5
     replace c5:=c5.mono d5
     obtain⟨e4,fl,pv,ar,aw,b2,au,ax,b7,rfl,rfl,sa,dd,de⟩:=qg
     replace lk:Ah ⟨w,h,A5⟩ kb [(d,0),(f,0),(g,0),(y,0)] [⟨AG l r_ m p q s u,some 28⟩,⟨BI ae a ah af ai ag aj,some 50⟩,⟨RP l r_ m cu x50 c1 ce x54 cf by_,some 28⟩,⟨DW al x59 ao am ap an aq,some 75⟩] [⟨cu,x50.length,c1,63,3,e3,0⟩,⟨ce,x54.length,cf,61,2,([]:List Value)++en,0⟩,⟨al,x59.tm.length,ao,3,1,bi,0⟩,⟨am,x59.turns.length,ap,3,1,bm,0⟩,⟨an,x59.legs.length,aq,31,1,bq,0⟩,⟨e4,x62.tm.length,fl,3,1,pv,0⟩,⟨ar,x62.turns.length,aw,3,1,b2,0⟩,⟨au,x62.legs.length,ax,31,1,b7,0⟩] acp:=lk
     refine⟨.one (.agg [.slice e4 x62.tm.length fl,.slice ar x62.turns.length aw,.slice au x62.legs.length ax]),rfl,fun abe (t0:Kn 253 [(d,0),(f,0),(g,0),(y,0)] ((tA 62 [.slice e4 x62.tm.length fl,.slice ar x62.turns.length aw,.slice au x62.legs.length ax])::(tS 61 a_words words.length c_words)::(tA 60 (AG l r_ m p q s u))::(tP 11 3 0)::(AC by_)) abe)=>hK _ _ ?_⟩
     refine wl fun K hK=>?_
     refine wa Sp t0 lk fun z pm ahj (t1:Kn 253 (Cb d f g y z) ((tP 12 4 0)::(tA 62 [.slice e4 x62.tm.length fl,.slice ar x62.turns.length aw,.slice au x62.legs.length ax])::(tS 61 a_words words.length c_words)::(tA 60 (AG l r_ m p q s u))::(tP 11 3 0)::(AC by_)) pm) x4=>hK _ _ ?_
     refine wl fun K hK=>?_
     refine EA 4 0 (.agg [.slice e4 x62.tm.length fl,.slice ar x62.turns.length aw,.slice au x62.legs.length ax]) [.slice e4 x62.tm.length fl,.slice ar x62.turns.length aw,.slice au x62.legs.length ax] t1 x4 fun ahk t2 oi=>hK _ _ ?_
     have t3:Kn 253 (Cb d f g y z) ((tP 12 4 0)::(tP 11 3 0)::(AC by_)) pm:=t2.kp
     refine wf (XT (XT (Aa (Rk 0 1 ((tI 13 0)::(tP 12 4 0)::(tP 11 3 0)::(AC by_)) t3 oi fun aes t4=>?_))))
     refine wf ?_
     obtain⟨x,nc,H⟩:=Ao H
     refine Aw (fun a' w'=>∃ (av:Option Addr)(ay:Nat)(bn:List Value)(a1:Option Addr)(a2:Nat)(b8:List Value)(mu:Array Value)(fz:Ad),a' = ⟨mu,[]⟩∧Kn 253 (Cb d f g y z) ((tP 12 4 0)::(tP 11 3 0)::(AC by_)) mu∧Ah ⟨w,h,A5⟩ fz (Cb d f g y z) [⟨AG l r_ m p q s u,some 28⟩,⟨BI ae a ah af ai ag aj,some 50⟩,⟨[.slice l r_.legs.length m,.int .i64 r_.turn.lo,.int .i64 r_.turn.hi,.slice av x.1.length ay,.slice ce x54.length cf,.int .i64 r_.unit,.int .i64 r_.gap,.int .i64 (IntKind.i64.wrap (r_.fr+(IntKind.i64.wrap by_.n))),.int .i64 (IntKind.i64.wrap (r_.to_+(IntKind.i64.wrap by_.n)))],some 28⟩,⟨DW al x59 ao am ap an aq,some 75⟩,⟨Gm a1 x a2 ar x62 aw au ax,some 75⟩] [⟨av,x.1.length,ay,63,3,bn,0⟩,⟨ce,x54.length,cf,61,2,([]:List Value)++en,0⟩,⟨al,x59.tm.length,ao,3,1,bi,0⟩,⟨am,x59.turns.length,ap,3,1,bm,0⟩,⟨an,x59.legs.length,aq,31,1,bq,0⟩,⟨a1,x.2.length,a2,3,1,b8,0⟩,⟨ar,x62.turns.length,aw,3,1,b2,0⟩,⟨au,x62.legs.length,ax,31,1,b7,0⟩] w'∧Ad.le kb fz∧Ag fz x.1 bn∧Ag fz x.2 b8) ?_ ?_
     ·
      refine wp_block ?_
      refine Au (fun aas a' w'=>∃ (x_v10:List Ce)(x_v11:List Int)(x_v12:Int)(c6:Option Addr)(c7:Nat)(ds:List Value)(da:Option Addr)(dc:Nat)(dt:List Value)(mv:Array Value)(d4:Ad),a' = ⟨mv,[]⟩∧Kn 253 (Cb d f g y z) ((tI 13 x_v12)::(tP 12 4 0)::(tP 11 3 0)::(AC by_)) mv∧Ah ⟨w,h,A5⟩ d4 (Cb d f g y z) [⟨AG l r_ m p q s u,some 28⟩,⟨BI ae a ah af ai ag aj,some 50⟩,⟨[.slice l r_.legs.length m,.int .i64 r_.turn.lo,.int .i64 r_.turn.hi,.slice c6 x_v10.length c7,.slice ce x54.length cf,.int .i64 r_.unit,.int .i64 r_.gap,.int .i64 (IntKind.i64.wrap (r_.fr+(IntKind.i64.wrap by_.n))),.int .i64 (IntKind.i64.wrap (r_.to_+(IntKind.i64.wrap by_.n)))],some 28⟩,⟨DW al x59 ao am ap an aq,some 75⟩,⟨[.slice da x_v11.length dc,.slice ar x62.turns.length aw,.slice au x62.legs.length ax],some 75⟩] [⟨c6,x_v10.length,c7,63,3,ds,0⟩,⟨ce,x54.length,cf,61,2,([]:List Value)++en,0⟩,⟨al,x59.tm.length,ao,3,1,bi,0⟩,⟨am,x59.turns.length,ap,3,1,bm,0⟩,⟨an,x59.legs.length,aq,31,1,bq,0⟩,⟨da,x_v11.length,dc,3,1,dt,0⟩,⟨ar,x62.turns.length,aw,3,1,b2,0⟩,⟨au,x62.legs.length,ax,31,1,b7,0⟩] w'∧Ad.le kb d4∧Ag d4 x_v10 ds∧Ag d4 x_v11 dt∧B1 aas r_ by_ x_v10 x_v11 x_v12=some x) n ?_ ?_
      ·
       exact XY x50 ⟨x62.tm,0,cu,c1,e3,e4,fl,pv,_,_,rfl,t4.kp,oi,Ad.le_refl _,ky,sa,nc⟩
      ·
       rintro mq _ ahm ⟨x_v10,x_v11,x_v12,c6,c7,ds,da,dc,dt,mv,d4,rfl,t6,f6,lb,hv,f1,cg⟩
       clear nc
       obtain _ | mq:=mq
       ·
        rw [B1] at cg; cases cg
       rw [B1] at cg
       replace a9:=a9.mono lb
       refine XT (XT (Aa (Rk 0 5 ((tB 67 (decide (x_v12<((x_v10.length:Nat):Int))))::(tI 13 x_v12)::(tP 12 4 0)::(tP 11 3 0)::(AC by_)) t6 f6 fun aet k0=>?_)))
       refine wf (wC (decide (x_v12<((x_v10.length:Nat):Int))) k0 (fun kq=>?_) (fun kq=>?_))
       ·
        rw [kq,XW] at cg
        refine wp_skip (XT (wp_block (XT (Al (by kernel_rfl) ?_))))
        replace f6:=f6.drew
        refine Am [] (Cb d f g y z) [⟨AG l r_ m p q s u,some 28⟩,⟨BI ae a ah af ai ag aj,some 50⟩,⟨[.slice l r_.legs.length m,.int .i64 r_.turn.lo,.int .i64 r_.turn.hi,.slice c6 x_v10.length c7,.slice ce x54.length cf,.int .i64 r_.unit,.int .i64 r_.gap,.int .i64 (IntKind.i64.wrap (r_.fr+(IntKind.i64.wrap by_.n))),.int .i64 (IntKind.i64.wrap (r_.to_+(IntKind.i64.wrap by_.n)))],some 28⟩,⟨DW al x59 ao am ap an aq,some 75⟩,⟨[.slice da x_v11.length dc,.slice ar x62.turns.length aw,.slice au x62.legs.length ax],some 75⟩] ?_
        refine Dr [0,1,2,3,4,5] (dn 5) ((tI 75 x_v12)::(tS 74 p r_.buses.length q)::(tI 72 x_v12)::(tS 71 c6 x_v10.length c7)::(tI 13 x_v12)::(tP 12 4 0)::(tP 11 3 0)::(AC by_)) k0 f6 fun aeu t7=>?_
        obtain⟨x76,ex76,cg⟩:=Ao cg
        obtain⟨yl,yw,aae⟩:=Ai ex76
        obtain⟨du,dx,acx,rv,z0,sb⟩:=a9.get (by decide) aae
        obtain⟨_,_,rfl,rfl,⟨_,_,rfl,rfl,rfl⟩⟩:=z0
        have ll:=f6.addPlc (b:=du) (o:=dx+(x_v12:Int).toNat*3) (cs:=[.int .i64 x76.stop,.int .i64 x76.tm.lo,.int .i64 x76.tm.hi]) (fun j c hj=>sb j _ (Aj hj)) rfl (by kernel_rfl) (by kernel_rfl)
        refine A2 6 (x_v12) [.int .i64 x76.stop,.int .i64 x76.tm.lo,.int .i64 x76.tm.hi] (fun _ _ _ _ _ h=>h) rfl rfl (rfl) rfl (by decide) (by kernel_rfl) (by kernel_rfl) t7 f6.plOk (by rfl) (by rfl) (by rfl) rv (by rfl) yl yw (by kernel_rfl) fun abg (t8:Kn 253 [(d,0),(f,0),(g,0),(y,0),(z,0),(du,dx+(x_v12:Int).toNat*3)] ((tP 76 5 0)::(tI 75 x_v12)::(tS 74 p r_.buses.length q)::(tI 72 x_v12)::(tS 71 c6 x_v10.length c7)::(tI 13 x_v12)::(tP 12 4 0)::(tP 11 3 0)::(AC by_)) abg)=>?_
        refine Dr [7,8,9,10,11,12,13,14] (dn 14) ((tI 84 x_v12)::(tS 83 p r_.buses.length q)::(tI 81 (IntKind.i64.wrap (x76.tm.lo+(IntKind.i64.wrap by_.n))))::(tI 72 x_v12)::(tS 71 c6 x_v10.length c7)::(tI 13 x_v12)::(tP 12 4 0)::(tP 11 3 0)::(AC by_)) t8 ll fun aev t9=>?_
        obtain⟨x85,ex85,cg⟩:=Ao cg
        obtain⟨ym,yx,aaf⟩:=Ai ex85
        obtain⟨d0,ea,acy,rx,z1,sc⟩:=a9.get (by decide) aaf
        obtain⟨_,_,rfl,rfl,⟨_,_,rfl,rfl,rfl⟩⟩:=z1
        have jm:=ll.addPlc (b:=d0) (o:=ea+(x_v12:Int).toNat*3) (cs:=[.int .i64 x85.stop,.int .i64 x85.tm.lo,.int .i64 x85.tm.hi]) (fun j c hj=>sc j _ (Aj hj)) rfl (by kernel_rfl) (by kernel_rfl)
        refine A2 15 (x_v12) [.int .i64 x85.stop,.int .i64 x85.tm.lo,.int .i64 x85.tm.hi] (fun _ _ _ _ _ h=>h) rfl rfl (rfl) rfl (by decide) (by kernel_rfl) (by kernel_rfl) t9 ll.plOk (by rfl) (by rfl) (by rfl) rx (by rfl) ym yx (by kernel_rfl) fun abi (ua:Kn 253 [(d,0),(f,0),(g,0),(y,0),(z,0),(du,dx+(x_v12:Int).toNat*3),(d0,ea+(x_v12:Int).toNat*3)] ((tP 85 6 0)::(tI 84 x_v12)::(tS 83 p r_.buses.length q)::(tI 81 (IntKind.i64.wrap (x76.tm.lo+(IntKind.i64.wrap by_.n))))::(tI 72 x_v12)::(tS 71 c6 x_v10.length c7)::(tI 13 x_v12)::(tP 12 4 0)::(tP 11 3 0)::(AC by_)) abi)=>?_
        refine Dr [16,17,18,19,20,21] (dn 21) ((tA 91 (PP x76 by_ x85))::(tI 72 x_v12)::(tS 71 c6 x_v10.length c7)::(tI 13 x_v12)::(tP 12 4 0)::(tP 11 3 0)::(AC by_)) ua jm fun aew ub=>?_
        obtain⟨x92,ex92,cg⟩:=Ao cg
        obtain⟨ow,o4,aag⟩:=Ai ex92
        have k8:=Cy ow o4
        obtain⟨acz,z2,sd⟩:=Hz (sz:=3) rfl hv aag
        obtain⟨_,_,rfl,rfl,⟨_,_,rfl,rfl,rfl⟩⟩:=z2
        obtain⟨eb,kl⟩:=CO jm (i:=0) rfl (b0:=0+(x_v12:Int).toNat*3) (Nat.lt_of_lt_of_le (Nat.lt_add_of_pos_right (by decide)) (FC (sz:=3) rfl hv k8))
        have lm:=jm.addPlc (b:=eb) (o:=0+(x_v12:Int).toNat*3) (cs:=[]) (fun j c hj=>by simp at hj) rfl (by kernel_rfl) (by kernel_rfl)
        have nu:∀ (e:Be) k c,([.int .i64 x92.stop,.int .i64 x92.tm.lo,.int .i64 x92.tm.hi]:List SC)[k]? = some c→(ds)[0+(x_v12:Int).toNat*3+k]? = some (c.den e):=fun e k c hk=>sd k _ (Aj hk)
        refine A2 22 (x_v12) [.int .i64 x92.stop,.int .i64 x92.tm.lo,.int .i64 x92.tm.hi] (fun _ _ _ _ _ h=>h) rfl rfl (rfl) rfl (by decide) (by kernel_rfl) (by kernel_rfl) ub jm.plOk (by rfl) (by rfl) (by rfl) kl (by rfl) ow o4 (by kernel_rfl) fun abj (ud:Kn 253 [(d,0),(f,0),(g,0),(y,0),(z,0),(du,dx+(x_v12:Int).toNat*3),(d0,ea+(x_v12:Int).toNat*3),(eb,0+(x_v12:Int).toNat*3)] ((tP 92 7 0)::(tA 91 (PP x76 by_ x85))::(tI 72 x_v12)::(tS 71 c6 x_v10.length c7)::(tI 13 x_v12)::(tP 12 4 0)::(tP 11 3 0)::(AC by_)) abj)=>?_
        refine GC [23] [23,22,21,20,19,18,17,16,15,14,13,12,11,10,9,8,7,6,5,4,3,2,1,0] [93,91,13,12,11,10,9,5,4] ((tP 93 7 1)::(tA 91 (PP x76 by_ x85))::(tI 13 x_v12)::(tP 12 4 0)::(tP 11 3 0)::(AC by_)) (fun _ _ _ _ _ h=>h) ud (A6.peek lm.plOk lm 0 7 rfl rfl kl [.int .i64 x92.stop,.int .i64 x92.tm.lo,.int .i64 x92.tm.hi] (nu _)) (by kernel_rfl) (by rfl) (by kernel_rfl) fun abk ue=>?_
        obtain⟨gh,py,cg⟩:=Ao cg
        obtain⟨adu,adx,o9⟩:=DK py
        refine Cx 24 rfl (by kernel_rfl) (by decide) (rfl) (by kernel_rfl) fun K hK=>?_
        refine Ej 0 7 1 (0+(x_v12:Int).toNat*3) (.agg (PP x76 by_ x85)) ue lm rfl rfl (by rfl) (by rfl) rfl rfl kl rfl (by kernel_rfl) (N5 (sz:=3) 1 2 rfl hv k8 (Nat.le_of_ble_eq_true rfl)) fun acq uf x6=>?_
        have se:Ag d4 gh (ds.take (0+(x_v12:Int).toNat*3+1)++([.int .i64 (IntKind.i64.wrap (x76.tm.lo+(IntKind.i64.wrap by_.n))),.int .i64 (IntKind.i64.wrap (x85.tm.hi+(IntKind.i64.wrap by_.n)))]:List Value)++ds.drop (0+(x_v12:Int).toNat*3+1+2)):=by rw [o9]; exact JP (sz:=3) (cs:=[.int .i64 x92.stop,.int .i64 x92.tm.lo,.int .i64 x92.tm.hi]) [(d,0),(f,0),(g,0),(y,0),(z,0),(du,dx+(x_v12:Int).toNat*3),(d0,ea+(x_v12:Int).toNat*3),(eb,0+(x_v12:Int).toNat*3)] 1 rfl hv k8 (nu _) rfl (Nat.le_of_ble_eq_true rfl) ((Ab Ac (Ab Ac Ac)):rep d4 ((Ce.mk x92.stop (Rg.mk (IntKind.i64.wrap (x76.tm.lo+(IntKind.i64.wrap by_.n))) (IntKind.i64.wrap (x85.tm.hi+(IntKind.i64.wrap by_.n))))):Ce) _)
        have yg:x_v10.length=gh.length:=by rw [o9]; simp
        have ug:=uf
        have ln:Ah ⟨w,h,A5⟩ d4 [(d,0),(f,0),(g,0),(y,0),(z,0),(du,dx+(x_v12:Int).toNat*3),(d0,ea+(x_v12:Int).toNat*3),(eb,0+(x_v12:Int).toNat*3)] [⟨[.slice l r_.legs.length m,.int .i64 r_.turn.lo,.int .i64 r_.turn.hi,.slice p r_.buses.length q,.slice s r_.spares.length u,.int .i64 r_.unit,.int .i64 r_.gap,.int .i64 r_.fr,.int .i64 r_.to_],some 28⟩,⟨[.slice ae a.holds.length ah,.slice af a.turns.length ai,.slice ag a.spares.length aj],some 50⟩,⟨[.slice l r_.legs.length m,.int .i64 r_.turn.lo,.int .i64 r_.turn.hi,.slice c6 gh.length c7,.slice ce x54.length cf,.int .i64 r_.unit,.int .i64 r_.gap,.int .i64 (IntKind.i64.wrap (r_.fr+(IntKind.i64.wrap by_.n))),.int .i64 (IntKind.i64.wrap (r_.to_+(IntKind.i64.wrap by_.n)))],some 28⟩,⟨[.slice al x59.tm.length ao,.slice am x59.turns.length ap,.slice an x59.legs.length aq],some 75⟩,⟨[.slice da x_v11.length dc,.slice ar x62.turns.length aw,.slice au x62.legs.length ax],some 75⟩,⟨[.int .i64 x76.stop,.int .i64 x76.tm.lo,.int .i64 x76.tm.hi],none⟩,⟨[.int .i64 x85.stop,.int .i64 x85.tm.lo,.int .i64 x85.tm.hi],none⟩,⟨[],none⟩] [⟨c6,gh.length,c7,63,3,ds.take (0+(x_v12:Int).toNat*3+1)++([.int .i64 (IntKind.i64.wrap (x76.tm.lo+(IntKind.i64.wrap by_.n))),.int .i64 (IntKind.i64.wrap (x85.tm.hi+(IntKind.i64.wrap by_.n)))]:List Value)++ds.drop (0+(x_v12:Int).toNat*3+1+2),0⟩,⟨ce,x54.length,cf,61,2,([]:List Value)++en,0⟩,⟨al,x59.tm.length,ao,3,1,bi,0⟩,⟨am,x59.turns.length,ap,3,1,bm,0⟩,⟨an,x59.legs.length,aq,31,1,bq,0⟩,⟨da,x_v11.length,dc,3,1,dt,0⟩,⟨ar,x62.turns.length,aw,3,1,b2,0⟩,⟨au,x62.legs.length,ax,31,1,b7,0⟩] acq:=by rw [← yg]; exact x6
        refine hK _ _ ?_
        have uh:Kn 253 [(d,0),(f,0),(g,0),(y,0),(z,0),(du,dx+(x_v12:Int).toNat*3),(d0,ea+(x_v12:Int).toNat*3),(eb,0+(x_v12:Int).toNat*3)] ((tI 13 x_v12)::(tP 12 4 0)::(tP 11 3 0)::(AC by_)) abk:=ug.kp
        refine EH (by kernel_rfl) (Aa (Rk 0 3 ((tI 96 x_v12)::(tS 95 da x_v11.length dc)::(tI 13 x_v12)::(tP 12 4 0)::(tP 11 3 0)::(AC by_)) uh ln fun aey ui=>?_))
        obtain⟨x97,ex97,cg⟩:=Ao cg
        obtain⟨ox,o5,aah⟩:=Ai ex97
        have xy:=Cy ox o5
        obtain⟨ac0,z3,sf⟩:=Hz (sz:=1) rfl f1 aah
        obtain rfl:=z3
        obtain⟨gs,ns⟩:=CO ln (i:=5) rfl (b0:=0+(x_v12:Int).toNat*1) (Nat.lt_of_lt_of_le (Nat.lt_add_of_pos_right (by decide)) (FC (sz:=1) rfl f1 xy))
        have jo:=ln.addPlc (b:=gs) (o:=0+(x_v12:Int).toNat*1) (cs:=[]) (fun j c hj=>by simp at hj) rfl (by kernel_rfl) (by kernel_rfl)
        have sg:∀ (e:Be) k c,([.int .i64 x97]:List SC)[k]? = some c→(dt)[0+(x_v12:Int).toNat*1+k]? = some (c.den e):=fun e k c hk=>sf k _ (Aj hk)
        refine Bb 3 (x_v12) rfl rfl (rfl) rfl (by decide) ui (by rfl) (by rfl) (by rfl) ns (by rfl) ox o5 (by kernel_rfl) fun abl (uk:Kn 253 [(d,0),(f,0),(g,0),(y,0),(z,0),(du,dx+(x_v12:Int).toNat*3),(d0,ea+(x_v12:Int).toNat*3),(eb,0+(x_v12:Int).toNat*3),(gs,0+(x_v12:Int).toNat*1)] ((tP 97 8 0)::(tI 96 x_v12)::(tS 95 da x_v11.length dc)::(tI 13 x_v12)::(tP 12 4 0)::(tP 11 3 0)::(AC by_)) abl)=>?_
        refine Kf 4 3 [100,96,95,13,12,11,10,9,5,4] ((tI 100 (IntKind.i64.wrap (x97+(IntKind.i64.wrap by_.n))))::(tI 96 x_v12)::(tS 95 da x_v11.length dc)::(tI 13 x_v12)::(tP 12 4 0)::(tP 11 3 0)::(AC by_)) uk (A6.peek jo.plOk jo 5 8 rfl rfl ns [.int .i64 x97] (sg _)) (by kernel_rfl) fun aez ul=>?_
        obtain⟨x101,ex101,cg⟩:=Ao cg
        obtain⟨oy,o6,aai⟩:=Ai ex101
        have k9:=Cy oy o6
        obtain⟨ac1,z4,sh⟩:=Hz (sz:=1) rfl f1 aai
        obtain rfl:=z4
        obtain⟨g9,nt⟩:=CO jo (i:=5) rfl (b0:=0+(x_v12:Int).toNat*1) (Nat.lt_of_lt_of_le (Nat.lt_add_of_pos_right (by decide)) (FC (sz:=1) rfl f1 k9))
        have x7:=jo.addPlc (b:=g9) (o:=0+(x_v12:Int).toNat*1) (cs:=[]) (fun j c hj=>by simp at hj) rfl (by kernel_rfl) (by kernel_rfl)
        have adp:∀ (e:Be) k c,([.int .i64 x101]:List SC)[k]? = some c→(dt)[0+(x_v12:Int).toNat*1+k]? = some (c.den e):=fun e k c hk=>sh k _ (Aj hk)
        refine Bb 7 (x_v12) rfl rfl (rfl) rfl (by decide) ul (by rfl) (by rfl) (by rfl) nt (by rfl) oy o6 (by kernel_rfl) fun mw (un:Kn 253 [(d,0),(f,0),(g,0),(y,0),(z,0),(du,dx+(x_v12:Int).toNat*3),(d0,ea+(x_v12:Int).toNat*3),(eb,0+(x_v12:Int).toNat*3),(gs,0+(x_v12:Int).toNat*1),(g9,0+(x_v12:Int).toNat*1)] ((tP 101 9 0)::(tI 100 (IntKind.i64.wrap (x97+(IntKind.i64.wrap by_.n))))::(tI 96 x_v12)::(tS 95 da x_v11.length dc)::(tI 13 x_v12)::(tP 12 4 0)::(tP 11 3 0)::(AC by_)) mw)=>?_
        obtain⟨g3,pz,cg⟩:=Ao cg
        obtain⟨adv,ady,pa⟩:=DK pz
        refine wl fun K hK=>?_
        refine Ej 5 9 0 (0+(x_v12:Int).toNat*1) (.c (.int .i64 (IntKind.i64.wrap (x97+(IntKind.i64.wrap by_.n))))) un x7 rfl rfl (by rfl) (by rfl) rfl rfl nt rfl (by kernel_rfl) (FC (sz:=1) rfl f1 k9) fun acr uo x8=>?_
        have si:Ag d4 g3 (dt.take (0+(x_v12:Int).toNat*1+0)++([.int .i64 (IntKind.i64.wrap (x97+(IntKind.i64.wrap by_.n)))]:List Value)++dt.drop (0+(x_v12:Int).toNat*1+0+1)):=by rw [pa]; exact OV (sz:=1) rfl f1 k9 (Ac:rep d4 (IntKind.i64.wrap (x97+(IntKind.i64.wrap by_.n)):Int) _)
        have ov:x_v11.length=g3.length:=by rw [pa]; simp
        have uq:Kn 253 [(d,0),(f,0),(g,0),(y,0),(z,0),(du,dx+(x_v12:Int).toNat*3),(d0,ea+(x_v12:Int).toNat*3),(eb,0+(x_v12:Int).toNat*3),(gs,0+(x_v12:Int).toNat*1),(g9,0+(x_v12:Int).toNat*1)] [(101,.one (.c (.ptr 9 0))),(100,.one (.c (.int .i64 (IntKind.i64.wrap (x97+(IntKind.i64.wrap by_.n)))))),(96,.one (.c (.int .i64 x_v12))),(95,.one (.c (.slice da g3.length dc))),(13,.one (.c (.int .i64 x_v12))),(12,.one (.c (.ptr 4 0))),(11,.one (.c (.ptr 3 0))),(10,.one (.c (.ptr 2 0))),(9,.one (.c (.int .i64 (IntKind.i64.wrap by_.n)))),(5,.one (.c (.ptr 1 0))),(4,.one (.c (.ptr 0 0)))] mw:=by rw [← ov]; exact uo
        have oj:Ah ⟨w,h,A5⟩ d4 [(d,0),(f,0),(g,0),(y,0),(z,0),(du,dx+(x_v12:Int).toNat*3),(d0,ea+(x_v12:Int).toNat*3),(eb,0+(x_v12:Int).toNat*3),(gs,0+(x_v12:Int).toNat*1),(g9,0+(x_v12:Int).toNat*1)] [⟨[.slice l r_.legs.length m,.int .i64 r_.turn.lo,.int .i64 r_.turn.hi,.slice p r_.buses.length q,.slice s r_.spares.length u,.int .i64 r_.unit,.int .i64 r_.gap,.int .i64 r_.fr,.int .i64 r_.to_],some 28⟩,⟨[.slice ae a.holds.length ah,.slice af a.turns.length ai,.slice ag a.spares.length aj],some 50⟩,⟨[.slice l r_.legs.length m,.int .i64 r_.turn.lo,.int .i64 r_.turn.hi,.slice c6 gh.length c7,.slice ce x54.length cf,.int .i64 r_.unit,.int .i64 r_.gap,.int .i64 (IntKind.i64.wrap (r_.fr+(IntKind.i64.wrap by_.n))),.int .i64 (IntKind.i64.wrap (r_.to_+(IntKind.i64.wrap by_.n)))],some 28⟩,⟨[.slice al x59.tm.length ao,.slice am x59.turns.length ap,.slice an x59.legs.length aq],some 75⟩,⟨[.slice da g3.length dc,.slice ar x62.turns.length aw,.slice au x62.legs.length ax],some 75⟩,⟨[.int .i64 x76.stop,.int .i64 x76.tm.lo,.int .i64 x76.tm.hi],none⟩,⟨[.int .i64 x85.stop,.int .i64 x85.tm.lo,.int .i64 x85.tm.hi],none⟩,⟨[],none⟩,⟨[],none⟩,⟨[],none⟩] [⟨c6,gh.length,c7,63,3,ds.take (0+(x_v12:Int).toNat*3+1)++([.int .i64 (IntKind.i64.wrap (x76.tm.lo+(IntKind.i64.wrap by_.n))),.int .i64 (IntKind.i64.wrap (x85.tm.hi+(IntKind.i64.wrap by_.n)))]:List Value)++ds.drop (0+(x_v12:Int).toNat*3+1+2),0⟩,⟨ce,x54.length,cf,61,2,([]:List Value)++en,0⟩,⟨al,x59.tm.length,ao,3,1,bi,0⟩,⟨am,x59.turns.length,ap,3,1,bm,0⟩,⟨an,x59.legs.length,aq,31,1,bq,0⟩,⟨da,g3.length,dc,3,1,dt.take (0+(x_v12:Int).toNat*1+0)++([.int .i64 (IntKind.i64.wrap (x97+(IntKind.i64.wrap by_.n)))]:List Value)++dt.drop (0+(x_v12:Int).toNat*1+0+1),0⟩,⟨ar,x62.turns.length,aw,3,1,b2,0⟩,⟨au,x62.legs.length,ax,31,1,b7,0⟩] acr:=by rw [← ov]; exact x8
        refine hK _ _ ?_
        have ur:Kn 253 [(d,0),(f,0),(g,0),(y,0),(z,0),(du,dx+(x_v12:Int).toNat*3),(d0,ea+(x_v12:Int).toNat*3),(eb,0+(x_v12:Int).toNat*3),(gs,0+(x_v12:Int).toNat*1),(g9,0+(x_v12:Int).toNat*1)] ((tI 13 x_v12)::(tP 12 4 0)::(tP 11 3 0)::(AC by_)) mw:=uq.kp
        refine wf (Aa (Rk 0 3 ((tI 13 (IntKind.i64.wrap (x_v12+1)))::(tP 12 4 0)::(tP 11 3 0)::(AC by_)) ur oj fun ae1 ut=>?_))
        refine wf ?_
        exact XY mq ⟨Nat.lt_succ_self _,XY gh ⟨g3,IntKind.i64.wrap (x_v12+1),c6,c7,ds.take (0+(x_v12:Int).toNat*3+1)++([.int .i64 (IntKind.i64.wrap (x76.tm.lo+(IntKind.i64.wrap by_.n))),.int .i64 (IntKind.i64.wrap (x85.tm.hi+(IntKind.i64.wrap by_.n)))]:List Value)++ds.drop (0+(x_v12:Int).toNat*3+1+2),da,dc,dt.take (0+(x_v12:Int).toNat*1+0)++([.int .i64 (IntKind.i64.wrap (x97+(IntKind.i64.wrap by_.n)))]:List Value)++dt.drop (0+(x_v12:Int).toNat*1+0+1),_,_,rfl,(ut.keep [13,12,11,10,9,5,4] (by rfl)).cut 5 (by kernel_rfl),oj.cutPl 5 (by kernel_rfl),lb,se,si,cg⟩⟩
       ·
        rw [kq,XV] at cg
        refine wp_exit ?_
        obtain rfl:=XZ cg
        exact XY c6 ⟨c7,ds,da,dc,dt,_,_,rfl,k0.kp,f6,lb,hv,f1⟩
     ·
      rintro _ aho ⟨av,ay,bn,a1,a2,b8,mu,fz,rfl,uu,ok,dv,dk,dl⟩
      replace a6:=a6.mono dv
      replace a9:=a9.mono dv
      replace bc:=bc.mono dv
      replace be:=be.mono dv
      replace bf:=bf.mono dv
      replace bg:=bg.mono dv
      replace hu:=hu.mono dv
      replace c3:=c3.mono dv
      replace c4:=c4.mono dv
      replace c5:=c5.mono dv
      replace dd:=dd.mono dv
      replace de:=de.mono dv
      refine XT (XT (Aa (Rk 0 1 ((tI 14 0)::(tP 12 4 0)::(tP 11 3 0)::(AC by_)) uu ok fun ae2 uv=>?_)))
      refine wf ?_
      obtain⟨ak,nd,H⟩:=Ao H
      refine Aw (fun a' w'=>∃ (az:Option Addr)(a0:Nat)(b3:List Value)(mx:Array Value)(je:Ad),a' = ⟨mx,[]⟩∧Kn 253 (Cb d f g y z) ((tP 12 4 0)::(tP 11 3 0)::(AC by_)) mx∧Ah ⟨w,h,A5⟩ je (Cb d f g y z) (FF l r_ m p q s u ae a ah af ai ag aj av x ay az ak a0 by_ al x59 ao am ap an aq a1 a2 ar x62 aw au ax) [⟨av,x.1.length,ay,63,3,bn,0⟩,⟨az,ak.length,a0,61,2,b3,0⟩,⟨al,x59.tm.length,ao,3,1,bi,0⟩,⟨am,x59.turns.length,ap,3,1,bm,0⟩,⟨an,x59.legs.length,aq,31,1,bq,0⟩,⟨a1,x.2.length,a2,3,1,b8,0⟩,⟨ar,x62.turns.length,aw,3,1,b2,0⟩,⟨au,x62.legs.length,ax,31,1,b7,0⟩] w'∧Ad.le fz je∧Ag je ak b3) ?_ ?_
      ·
       refine wp_block ?_
       refine Au (fun aat a' w'=>∃ (x_v20:List Az)(x_v21:Int)(dz:Option Addr)(d3:Nat)(dy:List Value)(my:Array Value)(f0:Ad),a' = ⟨my,[]⟩∧Kn 253 (Cb d f g y z) ((tI 14 x_v21)::(tP 12 4 0)::(tP 11 3 0)::(AC by_)) my∧Ah ⟨w,h,A5⟩ f0 (Cb d f g y z) [⟨AG l r_ m p q s u,some 28⟩,⟨BI ae a ah af ai ag aj,some 50⟩,⟨[.slice l r_.legs.length m,.int .i64 r_.turn.lo,.int .i64 r_.turn.hi,.slice av x.1.length ay,.slice dz x_v20.length d3,.int .i64 r_.unit,.int .i64 r_.gap,.int .i64 (IntKind.i64.wrap (r_.fr+(IntKind.i64.wrap by_.n))),.int .i64 (IntKind.i64.wrap (r_.to_+(IntKind.i64.wrap by_.n)))],some 28⟩,⟨DW al x59 ao am ap an aq,some 75⟩,⟨Gm a1 x a2 ar x62 aw au ax,some 75⟩] [⟨av,x.1.length,ay,63,3,bn,0⟩,⟨dz,x_v20.length,d3,61,2,dy,0⟩,⟨al,x59.tm.length,ao,3,1,bi,0⟩,⟨am,x59.turns.length,ap,3,1,bm,0⟩,⟨an,x59.legs.length,aq,31,1,bq,0⟩,⟨a1,x.2.length,a2,3,1,b8,0⟩,⟨ar,x62.turns.length,aw,3,1,b2,0⟩,⟨au,x62.legs.length,ax,31,1,b7,0⟩] w'∧Ad.le fz f0∧Ag f0 x_v20 dy∧B2 aat by_ x_v20 x_v21=some ak) n ?_ ?_
       ·
        exact XY x54 ⟨0,ce,cf,([]:List Value)++en,_,_,rfl,uv.kp,ok,Ad.le_refl _,hu,nd⟩
       ·
        rintro mr _ ahq ⟨x_v20,x_v21,dz,d3,dy,my,f0,rfl,uw,h5,n9,f2,dp⟩
        clear nd
        obtain _ | mr:=mr
        ·
         rw [B2] at dp; cases dp
        rw [B2] at dp
        refine XT (XT (Aa (Rk 0 5 ((tB 106 (decide (x_v21<((x_v20.length:Nat):Int))))::(tI 14 x_v21)::(tP 12 4 0)::(tP 11 3 0)::(AC by_)) uw h5 fun ae3 k1=>?_)))
        refine wf (wC (decide (x_v21<((x_v20.length:Nat):Int))) k1 (fun kr=>?_) (fun kr=>?_))
        ·
         rw [kr,XW] at dp
         refine wp_skip (XT (wp_block (Aa (Rk 0 3 ((tI 111 x_v21)::(tS 110 dz x_v20.length d3)::(tI 14 x_v21)::(tP 12 4 0)::(tP 11 3 0)::(AC by_)) k1 h5 fun ae4 ux=>?_))))
         obtain⟨x112,ex112,dp⟩:=Ao dp
         obtain⟨oz,o7,aaj⟩:=Ai ex112
         have xz:=Cy oz o7
         obtain⟨ac2,z5,sj⟩:=Hz (sz:=2) rfl f2 aaj
         obtain⟨_,_,rfl,rfl,rfl⟩:=z5
         obtain⟨gu,km⟩:=CO h5 (i:=1) rfl (b0:=0+(x_v21:Int).toNat*2) (Nat.lt_of_lt_of_le (Nat.lt_add_of_pos_right (by decide)) (FC (sz:=2) rfl f2 xz))
         have jp:=h5.addPlc (b:=gu) (o:=0+(x_v21:Int).toNat*2) (cs:=[]) (fun j c hj=>by simp at hj) rfl (by kernel_rfl) (by kernel_rfl)
         have nv:∀ (e:Be) k c,([.int .i64 x112.stop,.int .i64 x112.tm]:List SC)[k]? = some c→(dy)[0+(x_v21:Int).toNat*2+k]? = some (c.den e):=fun e k c hk=>sj k _ (Aj hk)
         refine Bb 3 (x_v21) rfl rfl (rfl) rfl (by decide) ux (by rfl) (by rfl) (by rfl) km (by rfl) oz o7 (by kernel_rfl) fun abm (uy:Kn 253 [(d,0),(f,0),(g,0),(y,0),(z,0),(gu,0+(x_v21:Int).toNat*2)] ((tP 112 5 0)::(tI 111 x_v21)::(tS 110 dz x_v20.length d3)::(tI 14 x_v21)::(tP 12 4 0)::(tP 11 3 0)::(AC by_)) abm)=>?_
         refine Kf 4 4 [116,111,110,14,12,11,10,9,5,4] ((tI 116 (IntKind.i64.wrap (x112.tm+(IntKind.i64.wrap by_.n))))::(tI 111 x_v21)::(tS 110 dz x_v20.length d3)::(tI 14 x_v21)::(tP 12 4 0)::(tP 11 3 0)::(AC by_)) uy (A6.peek jp.plOk jp 1 5 rfl rfl km [.int .i64 x112.stop,.int .i64 x112.tm] (nv _)) (by kernel_rfl) fun ae5 uz=>?_
         obtain⟨x117,ex117,dp⟩:=Ao dp
         obtain⟨o0,o8,aak⟩:=Ai ex117
         have la:=Cy o0 o8
         obtain⟨ac3,z6,sk⟩:=Hz (sz:=2) rfl f2 aak
         obtain⟨_,_,rfl,rfl,rfl⟩:=z6
         obtain⟨ha,kn⟩:=CO jp (i:=1) rfl (b0:=0+(x_v21:Int).toNat*2) (Nat.lt_of_lt_of_le (Nat.lt_add_of_pos_right (by decide)) (FC (sz:=2) rfl f2 la))
         have jq:=jp.addPlc (b:=ha) (o:=0+(x_v21:Int).toNat*2) (cs:=[]) (fun j c hj=>by simp at hj) rfl (by kernel_rfl) (by kernel_rfl)
         have nw:∀ (e:Be) k c,([.int .i64 x117.stop,.int .i64 x117.tm]:List SC)[k]? = some c→(dy)[0+(x_v21:Int).toNat*2+k]? = some (c.den e):=fun e k c hk=>sk k _ (Aj hk)
         refine Bb 8 (x_v21) rfl rfl (rfl) rfl (by decide) uz (by rfl) (by rfl) (by rfl) kn (by rfl) o0 o8 (by kernel_rfl) fun abo (u0:Kn 253 [(d,0),(f,0),(g,0),(y,0),(z,0),(gu,0+(x_v21:Int).toNat*2),(ha,0+(x_v21:Int).toNat*2)] ((tP 117 6 0)::(tI 116 (IntKind.i64.wrap (x112.tm+(IntKind.i64.wrap by_.n))))::(tI 111 x_v21)::(tS 110 dz x_v20.length d3)::(tI 14 x_v21)::(tP 12 4 0)::(tP 11 3 0)::(AC by_)) abo)=>?_
         refine Kf 9 1 [118,116,14,12,11,10,9,5,4] ((tP 118 6 1)::(tI 116 (IntKind.i64.wrap (x112.tm+(IntKind.i64.wrap by_.n))))::(tI 14 x_v21)::(tP 12 4 0)::(tP 11 3 0)::(AC by_)) u0 (A6.peek (A6.peek jq.plOk jq 1 5 rfl rfl km [.int .i64 x112.stop,.int .i64 x112.tm] (nv _)) jq 1 6 rfl rfl kn [.int .i64 x117.stop,.int .i64 x117.tm] (nw _)) (by kernel_rfl) fun abp u1=>?_
         obtain⟨ic,p0,dp⟩:=Ao dp
         obtain⟨adw,adz,pb⟩:=DK p0
         refine wl fun K hK=>?_
         refine Ej 1 6 1 (0+(x_v21:Int).toNat*2) (.c (.int .i64 (IntKind.i64.wrap (x112.tm+(IntKind.i64.wrap by_.n))))) u1 jq rfl rfl (by rfl) (by rfl) rfl rfl kn rfl (by kernel_rfl) (N5 (sz:=2) 1 1 rfl f2 la (Nat.le_of_ble_eq_true rfl)) fun acs u3 x9=>?_
         have sl:Ag f0 ic (dy.take (0+(x_v21:Int).toNat*2+1)++([.int .i64 (IntKind.i64.wrap (x112.tm+(IntKind.i64.wrap by_.n)))]:List Value)++dy.drop (0+(x_v21:Int).toNat*2+1+1)):=by rw [pb]; exact JP (sz:=2) (cs:=[.int .i64 x117.stop,.int .i64 x117.tm]) [(d,0),(f,0),(g,0),(y,0),(z,0),(gu,0+(x_v21:Int).toNat*2),(ha,0+(x_v21:Int).toNat*2)] 1 rfl f2 la (nw _) rfl (Nat.le_of_ble_eq_true rfl) ((Ab Ac Ac):rep f0 ((Az.mk x117.stop (IntKind.i64.wrap (x112.tm+(IntKind.i64.wrap by_.n)))):Az) _)
         have yh:x_v20.length=ic.length:=by rw [pb]; simp
         have u4:=u3
         have ol:Ah ⟨w,h,A5⟩ f0 [(d,0),(f,0),(g,0),(y,0),(z,0),(gu,0+(x_v21:Int).toNat*2),(ha,0+(x_v21:Int).toNat*2)] [⟨[.slice l r_.legs.length m,.int .i64 r_.turn.lo,.int .i64 r_.turn.hi,.slice p r_.buses.length q,.slice s r_.spares.length u,.int .i64 r_.unit,.int .i64 r_.gap,.int .i64 r_.fr,.int .i64 r_.to_],some 28⟩,⟨[.slice ae a.holds.length ah,.slice af a.turns.length ai,.slice ag a.spares.length aj],some 50⟩,⟨[.slice l r_.legs.length m,.int .i64 r_.turn.lo,.int .i64 r_.turn.hi,.slice av x.1.length ay,.slice dz ic.length d3,.int .i64 r_.unit,.int .i64 r_.gap,.int .i64 (IntKind.i64.wrap (r_.fr+(IntKind.i64.wrap by_.n))),.int .i64 (IntKind.i64.wrap (r_.to_+(IntKind.i64.wrap by_.n)))],some 28⟩,⟨[.slice al x59.tm.length ao,.slice am x59.turns.length ap,.slice an x59.legs.length aq],some 75⟩,⟨[.slice a1 x.2.length a2,.slice ar x62.turns.length aw,.slice au x62.legs.length ax],some 75⟩,⟨[],none⟩,⟨[],none⟩] [⟨av,x.1.length,ay,63,3,bn,0⟩,⟨dz,ic.length,d3,61,2,dy.take (0+(x_v21:Int).toNat*2+1)++([.int .i64 (IntKind.i64.wrap (x112.tm+(IntKind.i64.wrap by_.n)))]:List Value)++dy.drop (0+(x_v21:Int).toNat*2+1+1),0⟩,⟨al,x59.tm.length,ao,3,1,bi,0⟩,⟨am,x59.turns.length,ap,3,1,bm,0⟩,⟨an,x59.legs.length,aq,31,1,bq,0⟩,⟨a1,x.2.length,a2,3,1,b8,0⟩,⟨ar,x62.turns.length,aw,3,1,b2,0⟩,⟨au,x62.legs.length,ax,31,1,b7,0⟩] acs:=by rw [← yh]; exact x9
         refine hK _ _ ?_
         have u5:Kn 253 [(d,0),(f,0),(g,0),(y,0),(z,0),(gu,0+(x_v21:Int).toNat*2),(ha,0+(x_v21:Int).toNat*2)] ((tI 14 x_v21)::(tP 12 4 0)::(tP 11 3 0)::(AC by_)) abp:=u4.kp
         refine wf (Aa (Rk 0 3 ((tI 14 (IntKind.i64.wrap (x_v21+1)))::(tP 12 4 0)::(tP 11 3 0)::(AC by_)) u5 ol fun ae7 u6=>?_))
         refine wf ?_
         exact XY mr ⟨Nat.lt_succ_self _,XY ic ⟨IntKind.i64.wrap (x_v21+1),dz,d3,dy.take (0+(x_v21:Int).toNat*2+1)++([.int .i64 (IntKind.i64.wrap (x112.tm+(IntKind.i64.wrap by_.n)))]:List Value)++dy.drop (0+(x_v21:Int).toNat*2+1+1),_,_,rfl,(u6.keep [14,12,11,10,9,5,4] (by rfl)).cut 5 (by kernel_rfl),ol.cutPl 5 (by kernel_rfl),n9,sl,dp⟩⟩
        ·
         rw [kr,XV] at dp
         refine wp_exit ?_
         obtain rfl:=XZ dp
         exact XY dz ⟨d3,dy,_,_,rfl,k1.kp,h5,n9,f2⟩
      ·
       rintro _ pw ⟨az,a0,b3,mx,je,rfl,u7,lp,dq,dm⟩
       refine XT (XT (Aa (Rk 0 1 ((tA 119 (C9 l r_ m av x ay az ak a0 by_))::(tP 12 4 0)::(tP 11 3 0)::(AC by_)) u7 lp fun ae8 u9=>?_)))
       obtain⟨nj,di,zm,jr⟩:=lp.settle (i:=0) rfl
       replace dk:=dk.mono (XU dq di)
       replace jr:Ah ⟨w,h,A5⟩ nj (Cb d f g y z) (FF l r_ m p q s u ae a ah af ai ag aj av x ay az ak a0 by_ al x59 ao am ap an aq a1 a2 ar x62 aw au ax) [⟨av,x.1.length,ay,63,3,bn,(bn:List Value).length⟩,⟨az,ak.length,a0,61,2,b3,0⟩,⟨al,x59.tm.length,ao,3,1,bi,0⟩,⟨am,x59.turns.length,ap,3,1,bm,0⟩,⟨an,x59.legs.length,aq,31,1,bq,0⟩,⟨a1,x.2.length,a2,3,1,b8,0⟩,⟨ar,x62.turns.length,aw,3,1,b2,0⟩,⟨au,x62.legs.length,ax,31,1,b7,0⟩] pw:=jr
       have cd:A0 nj av ay x.1:=⟨_,dk,zm,lp.rowCap (i:=0) rfl⟩
       obtain⟨kc,df,zn,js⟩:=jr.settle (i:=1) rfl
       replace a6:=a6.mono (XU (XU dq di) df)
       replace cd:=cd.mono df
       replace dm:=dm.mono (XU di df)
       replace js:Ah ⟨w,h,A5⟩ kc (Cb d f g y z) (FF l r_ m p q s u ae a ah af ai ag aj av x ay az ak a0 by_ al x59 ao am ap an aq a1 a2 ar x62 aw au ax) [⟨av,x.1.length,ay,63,3,bn,(bn:List Value).length⟩,⟨az,ak.length,a0,61,2,b3,(b3:List Value).length⟩,⟨al,x59.tm.length,ao,3,1,bi,0⟩,⟨am,x59.turns.length,ap,3,1,bm,0⟩,⟨an,x59.legs.length,aq,31,1,bq,0⟩,⟨a1,x.2.length,a2,3,1,b8,0⟩,⟨ar,x62.turns.length,aw,3,1,b2,0⟩,⟨au,x62.legs.length,ax,31,1,b7,0⟩] pw:=js
       have cj:A0 kc az a0 ak:=⟨_,dm,zn,jr.rowCap (i:=1) rfl⟩
       obtain⟨x120,ex120,H⟩:=Ao H
       refine wl fun K hK=>?_
       refine wc [.agg (C9 l r_ m av x ay az ak a0 by_)] u9 js (Ld n js.has (Af.mk r_.legs r_.turn x.1 ak r_.unit r_.gap (IntKind.i64.wrap (r_.fr+(IntKind.i64.wrap by_.n))) (IntKind.i64.wrap (r_.to_+(IntKind.i64.wrap by_.n)))) ((Ab (Ae a6) (Ab (Ab Ac Ac) (Ab (Ae cd) (Ab (Ae cj) (Ab Ac (Ab Ac (Ab Ac Ac))))))):rep kc (Af.mk r_.legs r_.turn x.1 ak r_.unit r_.gap (IntKind.i64.wrap (r_.fr+(IntKind.i64.wrap by_.n))) (IntKind.i64.wrap (r_.to_+(IntKind.i64.wrap by_.n)))) _) ex120) fun agk rf ahr qi c8 e1=>?_
       replace a6:=a6.mono c8
       replace a9:=a9.mono (XU (XU (XU dq di) df) c8)
       replace bc:=bc.mono (XU (XU (XU dq di) df) c8)
       replace be:=be.mono (XU (XU (XU dq di) df) c8)
       replace bf:=bf.mono (XU (XU (XU dq di) df) c8)
       replace bg:=bg.mono (XU (XU (XU dq di) df) c8)
       replace cd:=cd.mono c8
       replace cj:=cj.mono c8
       replace dk:=dk.mono (XU df c8)
       replace dm:=dm.mono c8
       replace c3:=c3.mono (XU (XU (XU dq di) df) c8)
       replace c4:=c4.mono (XU (XU (XU dq di) df) c8)
       replace c5:=c5.mono (XU (XU (XU dq di) df) c8)
       replace dl:=dl.mono (XU (XU (XU dq di) df) c8)
       replace dd:=dd.mono (XU (XU (XU dq di) df) c8)
       replace de:=de.mono (XU (XU (XU dq di) df) c8)
       obtain rfl:=qi
       refine⟨.one (.c (.int .i64 x120)),rfl,fun abq (va:Kn 253 (Cb d f g y z) ((tI 120 x120)::(tA 119 (C9 l r_ m av x ay az ak a0 by_))::(tP 12 4 0)::(tP 11 3 0)::(AC by_)) abq)=>hK _ _ ?_⟩
       refine Rk 2 1 ((tB 121 (x120 != 0))::(tP 12 4 0)::(tP 11 3 0)::(AC by_)) va e1 fun ae9 k3=>?_
       refine wf (wC ((x120 != 0)) k3 (fun kt=>?_) (fun kt=>?_))
       ·
        rw [kt,XW] at H
        refine XT (Aa ?_)
        obtain⟨x122,ex122,H⟩:=Ao H
        refine wl fun K hK=>?_
        refine wc [] k3 e1 (HT n e1.has  ex122) fun agm adj ahs qj ads om=>?_
        obtain rfl:=qj
        refine⟨.one (.c (.bool x122)),rfl,fun abr (vb:Kn 253 (Cb d f g y z) ((tB 122 x122)::(tB 121 (x120 != 0))::(tP 12 4 0)::(tP 11 3 0)::(AC by_)) abr)=>hK _ _ ?_⟩
        refine Rk 1 1 [tB 8 x122] vb om fun afa vc=>?_
        refine wf (wp_ret ?_)
        obtain rfl:=XZ H
        exact rt (.one (.c (.bool x122))) vc om rfl
       ·
        rw [kt,XV] at H
        refine wp_skip (XT (Al (by kernel_rfl) ?_))
        replace e1:=e1.drew
        refine Am [] (Cb d f g y z) (FF l r_ m p q s u ae a ah af ai ag aj av x ay az ak a0 by_ al x59 ao am ap an aq a1 a2 ar x62 aw au ax) ?_
        refine Dr [0,2,4] [4,2,0] ((tA 128 (DW al x59 ao am ap an aq))::(tA 126 (BI ae a ah af ai ag aj))::(tA 124 (AG l r_ m p q s u))::(tP 12 4 0)::(AC by_)) k3 e1 fun afb vd=>?_
        obtain⟨x125,ex125,H⟩:=Ao H
        refine Dl 1 fun K hK=>?_
        refine wc [.agg (AG l r_ m p q s u)] vd e1 (Ey n e1.has r_ ((Ab (Ae a6) (Ab (Ab Ac Ac) (Ab (Ae a9) (Ab (Ae bc) (Ab Ac (Ab Ac (Ab Ac Ac))))))):rep rf r_ _) ex125) fun agn rg aht qk c9 lq=>?_
        replace be:=be.mono c9
        replace bf:=bf.mono c9
        replace bg:=bg.mono c9
        obtain⟨_,rfl,⟨_,_,rfl,⟨eo,ev,rfl,l3⟩,⟨_,_,rfl,⟨_,_,rfl,rfl,rfl⟩,⟨_,_,rfl,⟨ep,ew,rfl,l4⟩,⟨_,_,rfl,⟨er,ex,rfl,l5⟩,⟨_,_,rfl,rfl,⟨_,_,rfl,rfl,⟨_,_,rfl,rfl,rfl⟩⟩⟩⟩⟩⟩⟩⟩:=qk
        refine⟨.one (.agg (LG eo x125 ev ep ew er ex)),rfl,fun abs (ve:Kn 253 (Cb d f g y z) ((tA 125 (LG eo x125 ev ep ew er ex))::(tA 128 (DW al x59 ao am ap an aq))::(tA 126 (BI ae a ah af ai ag aj))::(tA 124 (AG l r_ m p q s u))::(tP 12 4 0)::(AC by_)) abs)=>hK _ _ lq.plOk ?_⟩
        obtain⟨x127,ex127,H⟩:=Ao H
        refine Dl 3 fun K hK=>?_
        refine wc [.agg (BI ae a ah af ai ag aj)] ve lq (GW n lq.has a ((Ab (Ae be) (Ab (Ae bf) (Ae bg))):rep rg a _) ex127) fun ago adl m4 qm ck lr=>?_
        obtain⟨_,rfl,⟨_,_,rfl,⟨e5,fm,rfl,l6⟩,⟨_,_,rfl,⟨e6,fn,rfl,l7⟩,⟨e7,fo,rfl,l8⟩⟩⟩⟩:=qm
        refine⟨.one (.agg (QV e5 x127 fm e6 fn e7 fo)),rfl,fun abt (vf:Kn 253 (Cb d f g y z) ((tA 127 (QV e5 x127 fm e6 fn e7 fo))::(tA 125 (LG eo x125 ev ep ew er ex))::(tA 128 (DW al x59 ao am ap an aq))::(tA 126 (BI ae a ah af ai ag aj))::(tA 124 (AG l r_ m p q s u))::(tP 12 4 0)::(AC by_)) abt)=>hK _ _ lr.plOk ?_⟩
        obtain⟨nk,cc,zo,jt⟩:=lr.settle (i:=2) rfl
        replace c3:=c3.mono (XU (XU c9 ck) cc)
        replace jt:Ah ⟨w,h,A5⟩ nk (Cb d f g y z) (FF l r_ m p q s u ae a ah af ai ag aj av x ay az ak a0 by_ al x59 ao am ap an aq a1 a2 ar x62 aw au ax) [⟨av,x.1.length,ay,63,3,bn,(bn:List Value).length⟩,⟨az,ak.length,a0,61,2,b3,(b3:List Value).length⟩,⟨al,x59.tm.length,ao,3,1,bi,(bi:List Value).length⟩,⟨am,x59.turns.length,ap,3,1,bm,0⟩,⟨an,x59.legs.length,aq,31,1,bq,0⟩,⟨a1,x.2.length,a2,3,1,b8,0⟩,⟨ar,x62.turns.length,aw,3,1,b2,0⟩,⟨au,x62.legs.length,ax,31,1,b7,0⟩] m4:=jt
        have d6:A0 nk al ao x59.tm:=⟨_,c3,zo,lr.rowCap (i:=2) rfl⟩
        obtain⟨nl,b9,zp,ju⟩:=jt.settle (i:=3) rfl
        replace c4:=c4.mono (XU (XU (XU c9 ck) cc) b9)
        replace ju:Ah ⟨w,h,A5⟩ nl (Cb d f g y z) (FF l r_ m p q s u ae a ah af ai ag aj av x ay az ak a0 by_ al x59 ao am ap an aq a1 a2 ar x62 aw au ax) [⟨av,x.1.length,ay,63,3,bn,(bn:List Value).length⟩,⟨az,ak.length,a0,61,2,b3,(b3:List Value).length⟩,⟨al,x59.tm.length,ao,3,1,bi,(bi:List Value).length⟩,⟨am,x59.turns.length,ap,3,1,bm,(bm:List Value).length⟩,⟨an,x59.legs.length,aq,31,1,bq,0⟩,⟨a1,x.2.length,a2,3,1,b8,0⟩,⟨ar,x62.turns.length,aw,3,1,b2,0⟩,⟨au,x62.legs.length,ax,31,1,b7,0⟩] m4:=ju
        have d7:A0 nl am ap x59.turns:=⟨_,c4,zp,jt.rowCap (i:=3) rfl⟩
        obtain⟨kd,b4,zq,jv⟩:=ju.settle (i:=4) rfl
        replace d6:=d6.mono (XU b9 b4)
        replace d7:=d7.mono b4
        replace c5:=c5.mono (XU (XU (XU (XU c9 ck) cc) b9) b4)
        replace jv:Ah ⟨w,h,A5⟩ kd (Cb d f g y z) (FF l r_ m p q s u ae a ah af ai ag aj av x ay az ak a0 by_ al x59 ao am ap an aq a1 a2 ar x62 aw au ax) [⟨av,x.1.length,ay,63,3,bn,(bn:List Value).length⟩,⟨az,ak.length,a0,61,2,b3,(b3:List Value).length⟩,⟨al,x59.tm.length,ao,3,1,bi,(bi:List Value).length⟩,⟨am,x59.turns.length,ap,3,1,bm,(bm:List Value).length⟩,⟨an,x59.legs.length,aq,31,1,bq,(bq:List Value).length⟩,⟨a1,x.2.length,a2,3,1,b8,0⟩,⟨ar,x62.turns.length,aw,3,1,b2,0⟩,⟨au,x62.legs.length,ax,31,1,b7,0⟩] m4:=jv
        have ei:A0 kd an aq x59.legs:=⟨_,c5,zq,ju.rowCap (i:=4) rfl⟩
        obtain⟨x129,ex129,H⟩:=Ao H
        refine Dl 5 fun K hK=>?_
        refine wc [.agg (DW al x59 ao am ap an aq)] vf jv (Lf n jv.has x59 ((Ab (Ae d6) (Ab (Ae d7) (Ae ei))):rep kd x59 _) ex129) fun agp ke ahv qn bx ls=>?_
        replace l3:=l3.mono (XU (XU (XU (XU ck cc) b9) b4) bx)
        replace l4:=l4.mono (XU (XU (XU (XU ck cc) b9) b4) bx)
        replace l5:=l5.mono (XU (XU (XU (XU ck cc) b9) b4) bx)
        replace l6:=l6.mono (XU (XU (XU cc b9) b4) bx)
        replace l7:=l7.mono (XU (XU (XU cc b9) b4) bx)
        replace l8:=l8.mono (XU (XU (XU cc b9) b4) bx)
        obtain⟨_,rfl,⟨_,_,rfl,⟨ig,i1,rfl,y3⟩,⟨_,_,rfl,⟨ih,i2,rfl,y4⟩,⟨ii,i3,rfl,y5⟩⟩⟩⟩:=qn
        refine⟨.one (.agg [.slice ig x129.tm.length i1,.slice ih x129.turns.length i2,.slice ii x129.legs.length i3]),rfl,fun abv (vh:Kn 253 (Cb d f g y z) ((tA 129 [.slice ig x129.tm.length i1,.slice ih x129.turns.length i2,.slice ii x129.legs.length i3])::(tA 127 (QV e5 x127 fm e6 fn e7 fo))::(tA 125 (LG eo x125 ev ep ew er ex))::(tA 128 (DW al x59 ao am ap an aq))::(tA 126 (BI ae a ah af ai ag aj))::(tA 124 (AG l r_ m p q s u))::(tP 12 4 0)::(AC by_)) abv)=>hK _ _ ls.plOk ?_⟩
        obtain⟨x130,ex130,H⟩:=Ao H
        refine Dl 6 fun K hK=>?_
        refine wc [.agg (LG eo x125 ev ep ew er ex),.agg (QV e5 x127 fm e6 fn e7 fo),.agg [.slice ig x129.tm.length i1,.slice ih x129.turns.length i2,.slice ii x129.legs.length i3]] vh ls (H8 n ls.has x125 ((Ab (Ae l3) (Ab (Ab Ac Ac) (Ab (Ae l4) (Ab (Ae l5) (Ab Ac (Ab Ac (Ab Ac Ac))))))):rep ke x125 _) x127 ((Ab (Ae l6) (Ab (Ae l7) (Ae l8))):rep ke x127 _) x129 ((Ab (Ae y3) (Ab (Ae y4) (Ae y5))):rep ke x129 _) ex130) fun agq rh ahw qo cl f7=>?_
        replace a6:=a6.mono (XU (XU (XU (XU (XU (XU c9 ck) cc) b9) b4) bx) cl)
        replace cd:=cd.mono (XU (XU (XU (XU (XU (XU c9 ck) cc) b9) b4) bx) cl)
        replace cj:=cj.mono (XU (XU (XU (XU (XU (XU c9 ck) cc) b9) b4) bx) cl)
        obtain⟨_,_,rfl,⟨aa,ab,rfl,dr⟩,rfl⟩:=qo
        refine⟨.tup [.c (.slice aa x130.1.length ab),.c (.int .i64 x130.2)],rfl,fun abw (vi:Kn 253 (Cb d f g y z) ((130,.tup [.c (.slice aa x130.1.length ab),.c (.int .i64 x130.2)])::(tA 129 [.slice ig x129.tm.length i1,.slice ih x129.turns.length i2,.slice ii x129.legs.length i3])::(tA 127 (QV e5 x127 fm e6 fn e7 fo))::(tA 125 (LG eo x125 ev ep ew er ex))::(tA 128 (DW al x59 ao am ap an aq))::(tA 126 (BI ae a ah af ai ag aj))::(tA 124 (AG l r_ m p q s u))::(tP 12 4 0)::(AC by_)) abw)=>hK _ _ f7.plOk ?_⟩
        refine Dr [7,8,9,10,11] [11,10,9,8,7,6,5,3,1,4,2,0] ((tI 16 x130.2)::(tS 15 aa x130.1.length ab)::(tP 12 4 0)::(AC by_)) vi f7 fun afd vk=>?_
        refine A1 (by kernel_rfl) (XT (Al (by kernel_rfl) ?_))
        replace f7:=f7.drew
        refine Am [] (Cb d f g y z) (FF l r_ m p q s u ae a ah af ai ag aj av x ay az ak a0 by_ al x59 ao am ap an aq a1 a2 ar x62 aw au ax) ?_
        refine Dr [0,2,4] [4,2,0] ((tA 138 (Gm a1 x a2 ar x62 aw au ax))::(tA 136 (BI ae a ah af ai ag aj))::(tA 134 (C9 l r_ m av x ay az ak a0 by_))::(tI 16 x130.2)::(tS 15 aa x130.1.length ab)::(AC by_)) vk f7 fun afe vl=>?_
        obtain⟨x135,ex135,H⟩:=Ao H
        refine Dl 1 fun K hK=>?_
        refine wc [.agg (C9 l r_ m av x ay az ak a0 by_)] vl f7 (Ey n f7.has (Af.mk r_.legs r_.turn x.1 ak r_.unit r_.gap (IntKind.i64.wrap (r_.fr+(IntKind.i64.wrap by_.n))) (IntKind.i64.wrap (r_.to_+(IntKind.i64.wrap by_.n)))) ((Ab (Ae a6) (Ab (Ab Ac Ac) (Ab (Ae cd) (Ab (Ae cj) (Ab Ac (Ab Ac (Ab Ac Ac))))))):rep rh (Af.mk r_.legs r_.turn x.1 ak r_.unit r_.gap (IntKind.i64.wrap (r_.fr+(IntKind.i64.wrap by_.n))) (IntKind.i64.wrap (r_.to_+(IntKind.i64.wrap by_.n)))) _) ex135) fun agr ri ahx qp ci lu=>?_
        replace be:=be.mono (XU (XU (XU (XU (XU (XU ck cc) b9) b4) bx) cl) ci)
        replace bf:=bf.mono (XU (XU (XU (XU (XU (XU ck cc) b9) b4) bx) cl) ci)
        replace bg:=bg.mono (XU (XU (XU (XU (XU (XU ck cc) b9) b4) bx) cl) ci)
        obtain⟨_,rfl,⟨_,_,rfl,⟨es,ey,rfl,l9⟩,⟨_,_,rfl,⟨_,_,rfl,rfl,rfl⟩,⟨_,_,rfl,⟨et,ez,rfl,ma⟩,⟨_,_,rfl,⟨eu,e0,rfl,mb⟩,⟨_,_,rfl,rfl,⟨_,_,rfl,rfl,⟨_,_,rfl,rfl,rfl⟩⟩⟩⟩⟩⟩⟩⟩:=qp
        refine⟨.one (.agg (LH es x135 ey et ez eu e0)),rfl,fun abx (vm:Kn 253 (Cb d f g y z) ((tA 135 (LH es x135 ey et ez eu e0))::(tA 138 (Gm a1 x a2 ar x62 aw au ax))::(tA 136 (BI ae a ah af ai ag aj))::(tA 134 (C9 l r_ m av x ay az ak a0 by_))::(tI 16 x130.2)::(tS 15 aa x130.1.length ab)::(AC by_)) abx)=>hK _ _ lu.plOk ?_⟩
        obtain⟨x137,ex137,H⟩:=Ao H
        refine Dl 3 fun K hK=>?_
        refine wc [.agg (BI ae a ah af ai ag aj)] vm lu (GW n lu.has a ((Ab (Ae be) (Ab (Ae bf) (Ae bg))):rep ri a _) ex137) fun ags adm m5 qq ca lv=>?_
        obtain⟨_,rfl,⟨_,_,rfl,⟨e8,fp,rfl,mc⟩,⟨_,_,rfl,⟨e9,fq,rfl,md⟩,⟨fa,fs,rfl,me⟩⟩⟩⟩:=qq
        refine⟨.one (.agg (QW e8 x137 fp e9 fq fa fs)),rfl,fun aby (vo:Kn 253 (Cb d f g y z) ((tA 137 (QW e8 x137 fp e9 fq fa fs))::(tA 135 (LH es x135 ey et ez eu e0))::(tA 138 (Gm a1 x a2 ar x62 aw au ax))::(tA 136 (BI ae a ah af ai ag aj))::(tA 134 (C9 l r_ m av x ay az ak a0 by_))::(tI 16 x130.2)::(tS 15 aa x130.1.length ab)::(AC by_)) aby)=>hK _ _ lv.plOk ?_⟩
        obtain⟨nm,bu,zr,jw⟩:=lv.settle (i:=5) rfl
        replace dl:=dl.mono (XU (XU (XU (XU (XU (XU (XU (XU (XU c9 ck) cc) b9) b4) bx) cl) ci) ca) bu)
        replace jw:Ah ⟨w,h,A5⟩ nm (Cb d f g y z) (FF l r_ m p q s u ae a ah af ai ag aj av x ay az ak a0 by_ al x59 ao am ap an aq a1 a2 ar x62 aw au ax) [⟨av,x.1.length,ay,63,3,bn,(bn:List Value).length⟩,⟨az,ak.length,a0,61,2,b3,(b3:List Value).length⟩,⟨al,x59.tm.length,ao,3,1,bi,(bi:List Value).length⟩,⟨am,x59.turns.length,ap,3,1,bm,(bm:List Value).length⟩,⟨an,x59.legs.length,aq,31,1,bq,(bq:List Value).length⟩,⟨a1,x.2.length,a2,3,1,b8,(b8:List Value).length⟩,⟨ar,x62.turns.length,aw,3,1,b2,0⟩,⟨au,x62.legs.length,ax,31,1,b7,0⟩] m5:=jw
        have d8:A0 nm a1 a2 x.2:=⟨_,dl,zr,lv.rowCap (i:=5) rfl⟩
        obtain⟨nn,br,zs,jx⟩:=jw.settle (i:=6) rfl
        replace dd:=dd.mono (XU (XU (XU (XU (XU (XU (XU (XU (XU (XU c9 ck) cc) b9) b4) bx) cl) ci) ca) bu) br)
        replace jx:Ah ⟨w,h,A5⟩ nn (Cb d f g y z) (FF l r_ m p q s u ae a ah af ai ag aj av x ay az ak a0 by_ al x59 ao am ap an aq a1 a2 ar x62 aw au ax) [⟨av,x.1.length,ay,63,3,bn,(bn:List Value).length⟩,⟨az,ak.length,a0,61,2,b3,(b3:List Value).length⟩,⟨al,x59.tm.length,ao,3,1,bi,(bi:List Value).length⟩,⟨am,x59.turns.length,ap,3,1,bm,(bm:List Value).length⟩,⟨an,x59.legs.length,aq,31,1,bq,(bq:List Value).length⟩,⟨a1,x.2.length,a2,3,1,b8,(b8:List Value).length⟩,⟨ar,x62.turns.length,aw,3,1,b2,(b2:List Value).length⟩,⟨au,x62.legs.length,ax,31,1,b7,0⟩] m5:=jx
        have d9:A0 nn ar aw x62.turns:=⟨_,dd,zs,jw.rowCap (i:=6) rfl⟩
        obtain⟨kf,bo,zt,jy⟩:=jx.settle (i:=7) rfl
        replace d8:=d8.mono (XU br bo)
        replace d9:=d9.mono bo
        replace de:=de.mono (XU (XU (XU (XU (XU (XU (XU (XU (XU (XU (XU c9 ck) cc) b9) b4) bx) cl) ci) ca) bu) br) bo)
        replace jy:Ah ⟨w,h,A5⟩ kf (Cb d f g y z) (FF l r_ m p q s u ae a ah af ai ag aj av x ay az ak a0 by_ al x59 ao am ap an aq a1 a2 ar x62 aw au ax) (LI av x ay bn az ak a0 b3 al x59 ao bi am ap bm an aq bq a1 a2 b8 ar x62 aw b2 au ax b7) m5:=jy
        have ej:A0 kf au ax x62.legs:=⟨_,de,zt,jx.rowCap (i:=7) rfl⟩
        obtain⟨x139,ex139,H⟩:=Ao H
        refine Dl 5 fun K hK=>?_
        refine wc [.agg (Gm a1 x a2 ar x62 aw au ax)] vo jy (Lf n jy.has (Av.mk x.2 x62.turns x62.legs) ((Ab (Ae d8) (Ab (Ae d9) (Ae ej))):rep kf (Av.mk x.2 x62.turns x62.legs) _) ex139) fun agt kg ahy qr bj lw=>?_
        replace l9:=l9.mono (XU (XU (XU (XU ca bu) br) bo) bj)
        replace ma:=ma.mono (XU (XU (XU (XU ca bu) br) bo) bj)
        replace mb:=mb.mono (XU (XU (XU (XU ca bu) br) bo) bj)
        replace mc:=mc.mono (XU (XU (XU bu br) bo) bj)
        replace md:=md.mono (XU (XU (XU bu br) bo) bj)
        replace me:=me.mono (XU (XU (XU bu br) bo) bj)
        obtain⟨_,rfl,⟨_,_,rfl,⟨ij,i4,rfl,y6⟩,⟨_,_,rfl,⟨ik,i5,rfl,y7⟩,⟨il,i6,rfl,y8⟩⟩⟩⟩:=qr
        refine⟨.one (.agg [.slice ij x139.tm.length i4,.slice ik x139.turns.length i5,.slice il x139.legs.length i6]),rfl,fun abz (vq:Kn 253 (Cb d f g y z) ((tA 139 [.slice ij x139.tm.length i4,.slice ik x139.turns.length i5,.slice il x139.legs.length i6])::(tA 137 (QW e8 x137 fp e9 fq fa fs))::(tA 135 (LH es x135 ey et ez eu e0))::(tA 138 (Gm a1 x a2 ar x62 aw au ax))::(tA 136 (BI ae a ah af ai ag aj))::(tA 134 (C9 l r_ m av x ay az ak a0 by_))::(tI 16 x130.2)::(tS 15 aa x130.1.length ab)::(AC by_)) abz)=>hK _ _ lw.plOk ?_⟩
        obtain⟨x140,ex140,H⟩:=Ao H
        refine Dl 6 fun K hK=>?_
        refine wc [.agg (LH es x135 ey et ez eu e0),.agg (QW e8 x137 fp e9 fq fa fs),.agg [.slice ij x139.tm.length i4,.slice ik x139.turns.length i5,.slice il x139.legs.length i6]] vq lw (H8 n lw.has x135 ((Ab (Ae l9) (Ab (Ab Ac Ac) (Ab (Ae ma) (Ab (Ae mb) (Ab Ac (Ab Ac (Ab Ac Ac))))))):rep kg x135 _) x137 ((Ab (Ae mc) (Ab (Ae md) (Ae me))):rep kg x137 _) x139 ((Ab (Ae y6) (Ab (Ae y7) (Ae y8))):rep kg x139 _) ex140) fun agu rj ah0 qs cb f8=>?_
        replace a6:=a6.mono (XU (XU (XU (XU (XU (XU ci ca) bu) br) bo) bj) cb)
        replace a9:=a9.mono (XU (XU (XU (XU (XU (XU (XU (XU (XU (XU (XU (XU (XU c9 ck) cc) b9) b4) bx) cl) ci) ca) bu) br) bo) bj) cb)
        replace bc:=bc.mono (XU (XU (XU (XU (XU (XU (XU (XU (XU (XU (XU (XU (XU c9 ck) cc) b9) b4) bx) cl) ci) ca) bu) br) bo) bj) cb)
        obtain⟨_,_,rfl,⟨ac,ad,rfl,dw⟩,rfl⟩:=qs
        refine⟨.tup [.c (.slice ac x140.1.length ad),.c (.int .i64 x140.2)],rfl,fun ab0 (vr:Kn 253 (Cb d f g y z) ((140,.tup [.c (.slice ac x140.1.length ad),.c (.int .i64 x140.2)])::(tA 139 [.slice ij x139.tm.length i4,.slice ik x139.turns.length i5,.slice il x139.legs.length i6])::(tA 137 (QW e8 x137 fp e9 fq fa fs))::(tA 135 (LH es x135 ey et ez eu e0))::(tA 138 (Gm a1 x a2 ar x62 aw au ax))::(tA 136 (BI ae a ah af ai ag aj))::(tA 134 (C9 l r_ m av x ay az ak a0 by_))::(tI 16 x130.2)::(tS 15 aa x130.1.length ab)::(AC by_)) ab0)=>hK _ _ f8.plOk ?_⟩
        refine Dr [7,8,9,10,11] [11,10,9,8,7,6,5,3,1,4,2,0] ((tI 18 x140.2)::(tS 17 ac x140.1.length ad)::(tI 16 x130.2)::(tS 15 aa x130.1.length ab)::(AC by_)) vr f8 fun afh vt=>?_
        refine A1 (by kernel_rfl) (XT (Al (by kernel_rfl) ?_))
        replace f8:=f8.drew
        refine Am [] (Cb d f g y z) (FF l r_ m p q s u ae a ah af ai ag aj av x ay az ak a0 by_ al x59 ao am ap an aq a1 a2 ar x62 aw au ax) ?_
        refine Dr [0,2] [2,0] ((tA 146 (BI ae a ah af ai ag aj))::(tA 144 (AG l r_ m p q s u))::(tI 18 x140.2)::(tS 17 ac x140.1.length ad)::(tI 16 x130.2)::(tS 15 aa x130.1.length ab)::(AC by_)) vt f8 fun afi vu=>?_
        obtain⟨x145,ex145,H⟩:=Ao H
        refine Dl 1 fun K hK=>?_
        refine wc [.agg (AG l r_ m p q s u)] vu f8 (Ey n f8.has r_ ((Ab (Ae a6) (Ab (Ab Ac Ac) (Ab (Ae a9) (Ab (Ae bc) (Ab Ac (Ab Ac (Ab Ac Ac))))))):rep rj r_ _) ex145) fun agv rk ah1 qt b5 lx=>?_
        replace be:=be.mono (XU (XU (XU (XU (XU (XU ca bu) br) bo) bj) cb) b5)
        replace bf:=bf.mono (XU (XU (XU (XU (XU (XU ca bu) br) bo) bj) cb) b5)
        replace bg:=bg.mono (XU (XU (XU (XU (XU (XU ca bu) br) bo) bj) cb) b5)
        obtain⟨_,rfl,⟨_,_,rfl,⟨fb,ft,rfl,mf⟩,⟨_,_,rfl,⟨_,_,rfl,rfl,rfl⟩,⟨_,_,rfl,⟨fc,fu,rfl,mg⟩,⟨_,_,rfl,⟨fd,fv,rfl,mh⟩,⟨_,_,rfl,rfl,⟨_,_,rfl,rfl,⟨_,_,rfl,rfl,rfl⟩⟩⟩⟩⟩⟩⟩⟩:=qt
        refine⟨.one (.agg (NZ fb x145 ft fc fu fd fv)),rfl,fun ab1 (vv:Kn 253 (Cb d f g y z) ((tA 145 (NZ fb x145 ft fc fu fd fv))::(tA 146 (BI ae a ah af ai ag aj))::(tA 144 (AG l r_ m p q s u))::(tI 18 x140.2)::(tS 17 ac x140.1.length ad)::(tI 16 x130.2)::(tS 15 aa x130.1.length ab)::(AC by_)) ab1)=>hK _ _ lx.plOk ?_⟩
        obtain⟨x147,ex147,H⟩:=Ao H
        refine Dl 3 fun K hK=>?_
        refine wc [.agg (BI ae a ah af ai ag aj)] vv lx (GW n lx.has a ((Ab (Ae be) (Ab (Ae bf) (Ae bg))):rep rk a _) ex147) fun agw np ah3 qu bs ly=>?_
        replace mf:=mf.mono bs
        replace mg:=mg.mono bs
        replace mh:=mh.mono bs
        obtain⟨_,rfl,⟨_,_,rfl,⟨im,i7,rfl,y9⟩,⟨_,_,rfl,⟨io,i8,rfl,za⟩,⟨ip,i9,rfl,zb⟩⟩⟩⟩:=qu
        refine⟨.one (.agg [.slice im x147.holds.length i7,.slice io x147.turns.length i8,.slice ip x147.spares.length i9]),rfl,fun ab2 (vx:Kn 253 (Cb d f g y z) ((tA 147 [.slice im x147.holds.length i7,.slice io x147.turns.length i8,.slice ip x147.spares.length i9])::(tA 145 (NZ fb x145 ft fc fu fd fv))::(tA 146 (BI ae a ah af ai ag aj))::(tA 144 (AG l r_ m p q s u))::(tI 18 x140.2)::(tS 17 ac x140.1.length ad)::(tI 16 x130.2)::(tS 15 aa x130.1.length ab)::(AC by_)) ab2)=>hK _ _ ly.plOk ?_⟩
        obtain⟨x148,ex148,H⟩:=Ao H
        refine Dl 4 fun K hK=>?_
        refine wc [.agg (NZ fb x145 ft fc fu fd fv),.agg [.slice im x147.holds.length i7,.slice io x147.turns.length i8,.slice ip x147.spares.length i9]] vx ly (FD n ly.has x145 ((Ab (Ae mf) (Ab (Ab Ac Ac) (Ab (Ae mg) (Ab (Ae mh) (Ab Ac (Ab Ac (Ab Ac Ac))))))):rep np x145 _) x147 ((Ab (Ae y9) (Ab (Ae za) (Ae zb))):rep np x147 _) ex148) fun agx rl ah4 qv b6 f9=>?_
        replace a6:=a6.mono (XU (XU b5 bs) b6)
        replace cd:=cd.mono (XU (XU (XU (XU (XU (XU (XU (XU (XU ci ca) bu) br) bo) bj) cb) b5) bs) b6)
        replace cj:=cj.mono (XU (XU (XU (XU (XU (XU (XU (XU (XU ci ca) bu) br) bo) bj) cb) b5) bs) b6)
        obtain⟨_,_,rfl,⟨a3,a4,rfl,h9⟩,rfl⟩:=qv
        refine⟨.tup [.c (.slice a3 x148.1.length a4),.c (.int .i64 x148.2)],rfl,fun ab3 (vy:Kn 253 (Cb d f g y z) ((148,.tup [.c (.slice a3 x148.1.length a4),.c (.int .i64 x148.2)])::(tA 147 [.slice im x147.holds.length i7,.slice io x147.turns.length i8,.slice ip x147.spares.length i9])::(tA 145 (NZ fb x145 ft fc fu fd fv))::(tA 146 (BI ae a ah af ai ag aj))::(tA 144 (AG l r_ m p q s u))::(tI 18 x140.2)::(tS 17 ac x140.1.length ad)::(tI 16 x130.2)::(tS 15 aa x130.1.length ab)::(AC by_)) ab3)=>hK _ _ f9.plOk ?_⟩
        refine Dr [5,6,7,8,9] [9,8,7,6,5,4,3,1,2,0] ((tI 20 x148.2)::(tS 19 a3 x148.1.length a4)::(tI 18 x140.2)::(tS 17 ac x140.1.length ad)::(tI 16 x130.2)::(tS 15 aa x130.1.length ab)::(AC by_)) vy f9 fun afj v0=>?_
        refine A1 (by kernel_rfl) (XT (Al (by kernel_rfl) ?_))
        replace f9:=f9.drew
        refine Am [] (Cb d f g y z) (FF l r_ m p q s u ae a ah af ai ag aj av x ay az ak a0 by_ al x59 ao am ap an aq a1 a2 ar x62 aw au ax) ?_
        refine Dr [0,2] [2,0] [tA 154 (BI ae a ah af ai ag aj),tA 152 (C9 l r_ m av x ay az ak a0 by_),tI 20 x148.2,tS 19 a3 x148.1.length a4,tI 18 x140.2,tS 17 ac x140.1.length ad,tI 16 x130.2,tS 15 aa x130.1.length ab,tP 10 2 0,tI 9 (IntKind.i64.wrap by_.n),tP 4 0 0] v0 f9 fun afk v1=>?_
        obtain⟨x153,ex153,H⟩:=Ao H
        refine Dl 1 fun K hK=>?_
        refine wc [.agg (C9 l r_ m av x ay az ak a0 by_)] v1 f9 (Ey n f9.has (Af.mk r_.legs r_.turn x.1 ak r_.unit r_.gap (IntKind.i64.wrap (r_.fr+(IntKind.i64.wrap by_.n))) (IntKind.i64.wrap (r_.to_+(IntKind.i64.wrap by_.n)))) ((Ab (Ae a6) (Ab (Ab Ac Ac) (Ab (Ae cd) (Ab (Ae cj) (Ab Ac (Ab Ac (Ab Ac Ac))))))):rep rl (Af.mk r_.legs r_.turn x.1 ak r_.unit r_.gap (IntKind.i64.wrap (r_.fr+(IntKind.i64.wrap by_.n))) (IntKind.i64.wrap (r_.to_+(IntKind.i64.wrap by_.n)))) _) ex153) fun agy rm ah5 qw bz lz=>?_
        replace be:=be.mono (XU (XU bs b6) bz)
        replace bf:=bf.mono (XU (XU bs b6) bz)
        replace bg:=bg.mono (XU (XU bs b6) bz)
        obtain⟨_,rfl,⟨_,_,rfl,⟨fe,fw,rfl,mi⟩,⟨_,_,rfl,⟨_,_,rfl,rfl,rfl⟩,⟨_,_,rfl,⟨ff,fx,rfl,mj⟩,⟨_,_,rfl,⟨fg,fy,rfl,ml⟩,⟨_,_,rfl,rfl,⟨_,_,rfl,rfl,⟨_,_,rfl,rfl,rfl⟩⟩⟩⟩⟩⟩⟩⟩:=qw
        refine⟨.one (.agg (Oa fe x153 fw ff fx fg fy)),rfl,fun ab4 (v2:Kn 253 (Cb d f g y z) [tA 153 (Oa fe x153 fw ff fx fg fy),tA 154 (BI ae a ah af ai ag aj),tA 152 (C9 l r_ m av x ay az ak a0 by_),tI 20 x148.2,tS 19 a3 x148.1.length a4,tI 18 x140.2,tS 17 ac x140.1.length ad,tI 16 x130.2,tS 15 aa x130.1.length ab,tP 10 2 0,tI 9 (IntKind.i64.wrap by_.n),tP 4 0 0] ab4)=>hK _ _ lz.plOk ?_⟩
        obtain⟨x155,ex155,H⟩:=Ao H
        refine Dl 3 fun K hK=>?_
        refine wc [.agg (BI ae a ah af ai ag aj)] v2 lz (GW n lz.has a ((Ab (Ae be) (Ab (Ae bf) (Ae bg))):rep rm a _) ex155) fun agz nq ah6 qx bp l0=>?_
        replace mi:=mi.mono bp
        replace mj:=mj.mono bp
        replace ml:=ml.mono bp
        obtain⟨_,rfl,⟨_,_,rfl,⟨iq,ja,rfl,zc⟩,⟨_,_,rfl,⟨ir,jb,rfl,zd⟩,⟨iu,jc,rfl,ze⟩⟩⟩⟩:=qx
        refine⟨.one (.agg [.slice iq x155.holds.length ja,.slice ir x155.turns.length jb,.slice iu x155.spares.length jc]),rfl,fun ab5 (v3:Kn 253 (Cb d f g y z) [tA 155 [.slice iq x155.holds.length ja,.slice ir x155.turns.length jb,.slice iu x155.spares.length jc],tA 153 (Oa fe x153 fw ff fx fg fy),tA 154 (BI ae a ah af ai ag aj),tA 152 (C9 l r_ m av x ay az ak a0 by_),tI 20 x148.2,tS 19 a3 x148.1.length a4,tI 18 x140.2,tS 17 ac x140.1.length ad,tI 16 x130.2,tS 15 aa x130.1.length ab,tP 10 2 0,tI 9 (IntKind.i64.wrap by_.n),tP 4 0 0] ab5)=>hK _ _ l0.plOk ?_⟩
        obtain⟨x156,ex156,H⟩:=Ao H
        refine Dl 4 fun K hK=>?_
        refine wc [.agg (Oa fe x153 fw ff fx fg fy),.agg [.slice iq x155.holds.length ja,.slice ir x155.turns.length jb,.slice iu x155.spares.length jc]] v3 l0 (FD n l0.has x153 ((Ab (Ae mi) (Ab (Ab Ac Ac) (Ab (Ae mj) (Ab (Ae ml) (Ab Ac (Ab Ac (Ab Ac Ac))))))):rep nq x153 _) x155 ((Ab (Ae zc) (Ab (Ae zd) (Ae ze))):rep nq x155 _) ex156) fun ag0 rn ah7 qy b1 h6=>?_
        replace a6:=a6.mono (XU (XU bz bp) b1)
        replace a9:=a9.mono (XU (XU (XU (XU (XU b5 bs) b6) bz) bp) b1)
        replace bc:=bc.mono (XU (XU (XU (XU (XU b5 bs) b6) bz) bp) b1)
        obtain⟨_,_,rfl,⟨a7,a8,rfl,ia⟩,rfl⟩:=qy
        refine⟨.tup [.c (.slice a7 x156.1.length a8),.c (.int .i64 x156.2)],rfl,fun ab6 (v4:Kn 253 (Cb d f g y z) [(156,.tup [.c (.slice a7 x156.1.length a8),.c (.int .i64 x156.2)]),tA 155 [.slice iq x155.holds.length ja,.slice ir x155.turns.length jb,.slice iu x155.spares.length jc],tA 153 (Oa fe x153 fw ff fx fg fy),tA 154 (BI ae a ah af ai ag aj),tA 152 (C9 l r_ m av x ay az ak a0 by_),tI 20 x148.2,tS 19 a3 x148.1.length a4,tI 18 x140.2,tS 17 ac x140.1.length ad,tI 16 x130.2,tS 15 aa x130.1.length ab,tP 10 2 0,tI 9 (IntKind.i64.wrap by_.n),tP 4 0 0] ab6)=>hK _ _ h6.plOk ?_⟩
        refine Dr [5,6,7,8,9] [9,8,7,6,5,4,3,1,2,0] [tI 22 x156.2,tS 21 a7 x156.1.length a8,tI 20 x148.2,tS 19 a3 x148.1.length a4,tI 18 x140.2,tS 17 ac x140.1.length ad,tI 16 x130.2,tS 15 aa x130.1.length ab,tP 10 2 0,tI 9 (IntKind.i64.wrap by_.n),tP 4 0 0] v4 h6 fun afm v5=>?_
        refine A1 (by kernel_rfl) (XT (Aa (Rk 0 1 ((tA 160 (AG l r_ m p q s u))::(LK x156 a7 a8 x148 a3 a4 x140 ac ad x130 aa ab by_)) v5 h6 fun afn v6=>?_)))
        obtain⟨x161,ex161,H⟩:=Ao H
        refine wl fun K hK=>?_
        refine wc [.agg (AG l r_ m p q s u)] v6 h6 (Ey n h6.has r_ ((Ab (Ae a6) (Ab (Ab Ac Ac) (Ab (Ae a9) (Ab (Ae bc) (Ab Ac (Ab Ac (Ab Ac Ac))))))):rep rn r_ _) ex161) fun ag1 ro ah8 qz bv op=>?_
        obtain⟨_,rfl,⟨_,_,rfl,⟨gj,gv,rfl,zf⟩,⟨_,_,rfl,⟨_,_,rfl,rfl,rfl⟩,⟨_,_,rfl,⟨gk,gw,rfl,zg⟩,⟨_,_,rfl,⟨gl,gx,rfl,zh⟩,⟨_,_,rfl,rfl,⟨_,_,rfl,rfl,⟨_,_,rfl,rfl,rfl⟩⟩⟩⟩⟩⟩⟩⟩:=qz
        refine⟨.one (.agg (PQ gj x161 gv gk gw gl gx)),rfl,fun ab7 (v7:Kn 253 (Cb d f g y z) ((tA 161 (PQ gj x161 gv gk gw gl gx))::(tA 160 (AG l r_ m p q s u))::(LK x156 a7 a8 x148 a3 a4 x140 ac ad x130 aa ab by_)) ab7)=>hK _ _ ?_⟩
        obtain⟨x162,ex162,H⟩:=Ao H
        refine wl fun K hK=>?_
        refine wc [.agg (PQ gj x161 gv gk gw gl gx)] v7 op (Gj n op.has x161 ((Ab (Ae zf) (Ab (Ab Ac Ac) (Ab (Ae zg) (Ab (Ae zh) (Ab Ac (Ab Ac (Ab Ac Ac))))))):rep ro x161 _) ex162) fun ag2 rp aia q0 bw oq=>?_
        replace a6:=a6.mono (XU bv bw)
        replace cd:=cd.mono (XU (XU (XU (XU bz bp) b1) bv) bw)
        replace cj:=cj.mono (XU (XU (XU (XU bz bp) b1) bv) bw)
        obtain⟨_,_,rfl,⟨_,rfl,⟨_,_,rfl,⟨cn,cv,rfl,ek⟩,⟨_,_,rfl,⟨co,cw,rfl,el⟩,⟨cp,cx,rfl,em⟩⟩⟩⟩,rfl⟩:=q0
        refine⟨.tup [.agg (Gn cn x162 cv co cw cp cx),.c (.int .i64 x162.2)],rfl,fun ab8 (v9:Kn 253 (Cb d f g y z) ((162,.tup [.agg (Gn cn x162 cv co cw cp cx),.c (.int .i64 x162.2)])::(tA 161 (PQ gj x161 gv gk gw gl gx))::(tA 160 (AG l r_ m p q s u))::(LK x156 a7 a8 x148 a3 a4 x140 ac ad x130 aa ab by_)) ab8)=>hK _ _ ?_⟩
        refine Rk 3 3 ((tI 164 x162.2)::(tA 163 (Gn cn x162 cv co cw cp cx))::(LK x156 a7 a8 x148 a3 a4 x140 ac ad x130 aa ab by_)) v9 oq fun afo wd=>?_
        refine wl fun K hK=>?_
        refine wa Sp wd oq fun a5 ab9 aib (we:Kn 253 [(d,0),(f,0),(g,0),(y,0),(z,0),(a5,0)] ((tP 23 5 0)::(tI 164 x162.2)::(tA 163 (Gn cn x162 cv co cw cp cx))::(LK x156 a7 a8 x148 a3 a4 x140 ac ad x130 aa ab by_)) ab9) yc=>hK _ _ ?_
        refine wl fun K hK=>?_
        refine EA 5 0 (.agg (Gn cn x162 cv co cw cp cx)) (Gn cn x162 cv co cw cp cx) we yc fun aic wg jz=>hK _ _ ?_
        refine Rk 8 1 ((tI 24 x162.2)::(tP 23 5 0)::(LK x156 a7 a8 x148 a3 a4 x140 ac ad x130 aa ab by_)) wg jz fun afp wh=>?_
        refine wf (XT (Aa (Rk 0 1 ((tA 166 (C9 l r_ m av x ay az ak a0 by_))::(LJ x162 x156 a7 a8 x148 a3 a4 x140 ac ad x130 aa ab by_)) wh jz fun afq wi=>?_)))
        obtain⟨x167,ex167,H⟩:=Ao H
        refine wl fun K hK=>?_
        refine wc [.agg (C9 l r_ m av x ay az ak a0 by_)] wi jz (Ey n jz.has (Af.mk r_.legs r_.turn x.1 ak r_.unit r_.gap (IntKind.i64.wrap (r_.fr+(IntKind.i64.wrap by_.n))) (IntKind.i64.wrap (r_.to_+(IntKind.i64.wrap by_.n)))) ((Ab (Ae a6) (Ab (Ab Ac Ac) (Ab (Ae cd) (Ab (Ae cj) (Ab Ac (Ab Ac (Ab Ac Ac))))))):rep rp (Af.mk r_.legs r_.turn x.1 ak r_.unit r_.gap (IntKind.i64.wrap (r_.fr+(IntKind.i64.wrap by_.n))) (IntKind.i64.wrap (r_.to_+(IntKind.i64.wrap by_.n)))) _) ex167) fun ag3 rq aid q1 bk os=>?_
        obtain⟨_,rfl,⟨_,_,rfl,⟨gm,gy,rfl,zi⟩,⟨_,_,rfl,⟨_,_,rfl,rfl,rfl⟩,⟨_,_,rfl,⟨gn,gz,rfl,zj⟩,⟨_,_,rfl,⟨gp,g0,rfl,zk⟩,⟨_,_,rfl,rfl,⟨_,_,rfl,rfl,⟨_,_,rfl,rfl,rfl⟩⟩⟩⟩⟩⟩⟩⟩:=q1
        refine⟨.one (.agg (PR gm x167 gy gn gz gp g0)),rfl,fun aca (wk:Kn 253 [(d,0),(f,0),(g,0),(y,0),(z,0),(a5,0)] ((tA 167 (PR gm x167 gy gn gz gp g0))::(tA 166 (C9 l r_ m av x ay az ak a0 by_))::(LJ x162 x156 a7 a8 x148 a3 a4 x140 ac ad x130 aa ab by_)) aca)=>hK _ _ ?_⟩
        obtain⟨x168,ex168,H⟩:=Ao H
        refine wl fun K hK=>?_
        refine wc [.agg (PR gm x167 gy gn gz gp g0)] wk os (Gj n os.has x167 ((Ab (Ae zi) (Ab (Ab Ac Ac) (Ab (Ae zj) (Ab (Ae zk) (Ab Ac (Ab Ac (Ab Ac Ac))))))):rep rq x167 _) ex168) fun ag4 kh aie q2 bl ot=>?_
        replace a6:=a6.mono (XU bk bl)
        replace a9:=a9.mono (XU (XU (XU bv bw) bk) bl)
        replace bc:=bc.mono (XU (XU (XU bv bw) bk) bl)
        replace be:=be.mono (XU (XU (XU (XU (XU bp b1) bv) bw) bk) bl)
        replace bf:=bf.mono (XU (XU (XU (XU (XU bp b1) bv) bw) bk) bl)
        replace bg:=bg.mono (XU (XU (XU (XU (XU bp b1) bv) bw) bk) bl)
        replace cd:=cd.mono (XU bk bl)
        replace cj:=cj.mono (XU bk bl)
        replace d6:=d6.mono (XU (XU (XU (XU (XU (XU (XU (XU (XU (XU (XU (XU (XU (XU (XU (XU (XU (XU bx cl) ci) ca) bu) br) bo) bj) cb) b5) bs) b6) bz) bp) b1) bv) bw) bk) bl)
        replace d7:=d7.mono (XU (XU (XU (XU (XU (XU (XU (XU (XU (XU (XU (XU (XU (XU (XU (XU (XU (XU bx cl) ci) ca) bu) br) bo) bj) cb) b5) bs) b6) bz) bp) b1) bv) bw) bk) bl)
        replace ei:=ei.mono (XU (XU (XU (XU (XU (XU (XU (XU (XU (XU (XU (XU (XU (XU (XU (XU (XU (XU bx cl) ci) ca) bu) br) bo) bj) cb) b5) bs) b6) bz) bp) b1) bv) bw) bk) bl)
        replace dr:=dr.mono (XU (XU (XU (XU (XU (XU (XU (XU (XU (XU (XU (XU (XU (XU (XU (XU ci ca) bu) br) bo) bj) cb) b5) bs) b6) bz) bp) b1) bv) bw) bk) bl)
        replace d8:=d8.mono (XU (XU (XU (XU (XU (XU (XU (XU (XU (XU (XU bj cb) b5) bs) b6) bz) bp) b1) bv) bw) bk) bl)
        replace d9:=d9.mono (XU (XU (XU (XU (XU (XU (XU (XU (XU (XU (XU bj cb) b5) bs) b6) bz) bp) b1) bv) bw) bk) bl)
        replace ej:=ej.mono (XU (XU (XU (XU (XU (XU (XU (XU (XU (XU (XU bj cb) b5) bs) b6) bz) bp) b1) bv) bw) bk) bl)
        replace dw:=dw.mono (XU (XU (XU (XU (XU (XU (XU (XU (XU b5 bs) b6) bz) bp) b1) bv) bw) bk) bl)
        replace h9:=h9.mono (XU (XU (XU (XU (XU (XU bz bp) b1) bv) bw) bk) bl)
        replace ia:=ia.mono (XU (XU (XU bv bw) bk) bl)
        replace ek:=ek.mono (XU bk bl)
        replace el:=el.mono (XU bk bl)
        replace em:=em.mono (XU bk bl)
        replace dk:=dk.mono (XU (XU (XU (XU (XU (XU (XU (XU (XU (XU (XU (XU (XU (XU (XU (XU (XU (XU (XU (XU (XU (XU (XU c9 ck) cc) b9) b4) bx) cl) ci) ca) bu) br) bo) bj) cb) b5) bs) b6) bz) bp) b1) bv) bw) bk) bl)
        replace dm:=dm.mono (XU (XU (XU (XU (XU (XU (XU (XU (XU (XU (XU (XU (XU (XU (XU (XU (XU (XU (XU (XU (XU (XU (XU c9 ck) cc) b9) b4) bx) cl) ci) ca) bu) br) bo) bj) cb) b5) bs) b6) bz) bp) b1) bv) bw) bk) bl)
        replace c3:=c3.mono (XU (XU (XU (XU (XU (XU (XU (XU (XU (XU (XU (XU (XU (XU (XU (XU (XU (XU (XU (XU b9 b4) bx) cl) ci) ca) bu) br) bo) bj) cb) b5) bs) b6) bz) bp) b1) bv) bw) bk) bl)
        replace c4:=c4.mono (XU (XU (XU (XU (XU (XU (XU (XU (XU (XU (XU (XU (XU (XU (XU (XU (XU (XU (XU b4 bx) cl) ci) ca) bu) br) bo) bj) cb) b5) bs) b6) bz) bp) b1) bv) bw) bk) bl)
        replace c5:=c5.mono (XU (XU (XU (XU (XU (XU (XU (XU (XU (XU (XU (XU (XU (XU (XU (XU (XU (XU bx cl) ci) ca) bu) br) bo) bj) cb) b5) bs) b6) bz) bp) b1) bv) bw) bk) bl)
        replace dl:=dl.mono (XU (XU (XU (XU (XU (XU (XU (XU (XU (XU (XU (XU (XU br bo) bj) cb) b5) bs) b6) bz) bp) b1) bv) bw) bk) bl)
        replace dd:=dd.mono (XU (XU (XU (XU (XU (XU (XU (XU (XU (XU (XU (XU bo bj) cb) b5) bs) b6) bz) bp) b1) bv) bw) bk) bl)
        replace de:=de.mono (XU (XU (XU (XU (XU (XU (XU (XU (XU (XU (XU bj cb) b5) bs) b6) bz) bp) b1) bv) bw) bk) bl)
        obtain⟨_,_,rfl,⟨_,rfl,⟨_,_,rfl,⟨cq,cy,rfl,gc⟩,⟨_,_,rfl,⟨cr,cz,rfl,gd⟩,⟨ct,c0,rfl,gf⟩⟩⟩⟩,rfl⟩:=q2
        refine⟨.tup [.agg (E6 cq x168 cy cr cz ct c0),.c (.int .i64 x168.2)],rfl,fun acb (wn:Kn 253 [(d,0),(f,0),(g,0),(y,0),(z,0),(a5,0)] ((168,.tup [.agg (E6 cq x168 cy cr cz ct c0),.c (.int .i64 x168.2)])::(tA 167 (PR gm x167 gy gn gz gp g0))::(tA 166 (C9 l r_ m av x ay az ak a0 by_))::(LJ x162 x156 a7 a8 x148 a3 a4 x140 ac ad x130 aa ab by_)) acb)=>hK _ _ ?_⟩
        refine Rk 3 3 ((tI 170 x168.2)::(tA 169 (E6 cq x168 cy cr cz ct c0))::(LJ x162 x156 a7 a8 x148 a3 a4 x140 ac ad x130 aa ab by_)) wn ot fun afr wo=>?_
        refine wl fun K hK=>?_
        refine wa Sp wo ot fun ba acc aif (wp:Kn 253 (DN d f g y z a5 ba) ((tP 25 6 0)::(tI 170 x168.2)::(tA 169 (E6 cq x168 cy cr cz ct c0))::(LJ x162 x156 a7 a8 x148 a3 a4 x140 ac ad x130 aa ab by_)) acc) yd=>hK _ _ ?_
        refine wl fun K hK=>?_
        refine EA 6 0 (.agg (E6 cq x168 cy cr cz ct c0)) (E6 cq x168 cy cr cz ct c0) wp yd fun aig wq cm=>hK _ _ ?_
        refine Rk 8 1 ((tI 26 x168.2)::(tP 25 6 0)::(LJ x162 x156 a7 a8 x148 a3 a4 x140 ac ad x130 aa ab by_)) wq cm fun aft wr=>?_
        refine wf (XT (XT ?_))
        obtain⟨pf,bt,H⟩:=Ao H
        refine Aw (fun a' w'=>∃ (mz:Array Value)(hg:Ad),a' = ⟨mz,[]⟩∧Kn 253 (DN d f g y z a5 ba) [tS 17 ac x140.1.length ad,tS 15 aa x130.1.length ab,tI 9 (IntKind.i64.wrap by_.n),tB 208 pf] mz∧Ah ⟨w,h,A5⟩ hg (DN d f g y z a5 ba) [⟨AG l r_ m p q s u,some 28⟩,⟨BI ae a ah af ai ag aj,some 50⟩,⟨C9 l r_ m av x ay az ak a0 by_,some 28⟩,⟨DW al x59 ao am ap an aq,some 75⟩,⟨Gm a1 x a2 ar x62 aw au ax,some 75⟩,⟨Gn cn x162 cv co cw cp cx,some 34⟩,⟨E6 cq x168 cy cr cz ct c0,some 34⟩] (LI av x ay bn az ak a0 b3 al x59 ao bi am ap bm an aq bq a1 a2 b8 ar x62 aw b2 au ax b7) w'∧Ad.le kh hg) ?_ ?_
        ·
         refine Aa (Rk 0 3 ((tB 173 (x130.2 != 0))::(tI 26 x168.2)::(tP 25 6 0)::(tI 24 x162.2)::(tP 23 5 0)::(tI 22 x156.2)::(tS 21 a7 x156.1.length a8)::(tI 20 x148.2)::(tS 19 a3 x148.1.length a4)::(tI 18 x140.2)::(A3 ac x140 ad aa x130 ab by_)) wr cm fun po ny=>?_)
         rcases Bool.eq_false_or_eq_true ((x130.2 != 0)) with hn | hn
         ·
          rw [hn,XW] at bt
          have wt:Kn 253 (DN d f g y z a5 ba) ((tB 173 true)::(tI 26 x168.2)::(tP 25 6 0)::(tI 24 x162.2)::(tP 23 5 0)::(tI 22 x156.2)::(tS 21 a7 x156.1.length a8)::(tI 20 x148.2)::(tS 19 a3 x148.1.length a4)::(tI 18 x140.2)::(A3 ac x140 ad aa x130 ab by_)) po:=(ny.setB 173 true (by rfl) hn).kp
          refine Rk 3 35 ((tB 208 true)::(A3 ac x140 ad aa x130 ab by_)) wt cm fun afu wu=>?_
          refine wf ?_
          obtain rfl:=XZ bt
          exact XY _ ⟨_,rfl,wu.kp,cm,Ad.le_refl _⟩
         ·
          rw [hn,XV] at bt
          have wv:Kn 253 (DN d f g y z a5 ba) ((tB 173 false)::(tI 26 x168.2)::(tP 25 6 0)::(tI 24 x162.2)::(tP 23 5 0)::(tI 22 x156.2)::(tS 21 a7 x156.1.length a8)::(tI 20 x148.2)::(tS 19 a3 x148.1.length a4)::(tI 18 x140.2)::(A3 ac x140 ad aa x130 ab by_)) po:=(ny.setB 173 false (by rfl) hn).kp
          refine Rk 3 4 ((tB 177 (x140.2 != 0))::(tI 26 x168.2)::(tP 25 6 0)::(tI 24 x162.2)::(tP 23 5 0)::(tI 22 x156.2)::(tS 21 a7 x156.1.length a8)::(tI 20 x148.2)::(tS 19 a3 x148.1.length a4)::(A3 ac x140 ad aa x130 ab by_)) wv cm fun pp nz=>?_
          rcases Bool.eq_false_or_eq_true ((x140.2 != 0)) with ho | ho
          ·
           rw [ho,XW] at bt
           have ww:Kn 253 (DN d f g y z a5 ba) ((tB 177 true)::(tI 26 x168.2)::(tP 25 6 0)::(tI 24 x162.2)::(tP 23 5 0)::(tI 22 x156.2)::(tS 21 a7 x156.1.length a8)::(tI 20 x148.2)::(tS 19 a3 x148.1.length a4)::(A3 ac x140 ad aa x130 ab by_)) pp:=(nz.setB 177 true (by rfl) ho).kp
           refine Rk 7 31 ((tB 208 true)::(A3 ac x140 ad aa x130 ab by_)) ww cm fun afv wx=>?_
           refine wf ?_
           obtain rfl:=XZ bt
           exact XY _ ⟨_,rfl,wx.kp,cm,Ad.le_refl _⟩
          ·
           rw [ho,XV] at bt
           have wy:Kn 253 (DN d f g y z a5 ba) ((tB 177 false)::(tI 26 x168.2)::(tP 25 6 0)::(tI 24 x162.2)::(tP 23 5 0)::(tI 22 x156.2)::(tS 21 a7 x156.1.length a8)::(tI 20 x148.2)::(tS 19 a3 x148.1.length a4)::(A3 ac x140 ad aa x130 ab by_)) pp:=(nz.setB 177 false (by rfl) ho).kp
           refine Rk 7 4 ((tB 181 (x148.2 != 0))::(tI 26 x168.2)::(tP 25 6 0)::(tI 24 x162.2)::(tP 23 5 0)::(tI 22 x156.2)::(tS 21 a7 x156.1.length a8)::(tS 19 a3 x148.1.length a4)::(A3 ac x140 ad aa x130 ab by_)) wy cm fun pq n0=>?_
           rcases Bool.eq_false_or_eq_true ((x148.2 != 0)) with hp | hp
           ·
            rw [hp,XW] at bt
            have wz:Kn 253 (DN d f g y z a5 ba) ((tB 181 true)::(tI 26 x168.2)::(tP 25 6 0)::(tI 24 x162.2)::(tP 23 5 0)::(tI 22 x156.2)::(tS 21 a7 x156.1.length a8)::(tS 19 a3 x148.1.length a4)::(A3 ac x140 ad aa x130 ab by_)) pq:=(n0.setB 181 true (by rfl) hp).kp
            refine Rk 11 27 ((tB 208 true)::(A3 ac x140 ad aa x130 ab by_)) wz cm fun afw w0=>?_
            refine wf ?_
            obtain rfl:=XZ bt
            exact XY _ ⟨_,rfl,w0.kp,cm,Ad.le_refl _⟩
           ·
            rw [hp,XV] at bt
            have w1:Kn 253 (DN d f g y z a5 ba) ((tB 181 false)::(tI 26 x168.2)::(tP 25 6 0)::(tI 24 x162.2)::(tP 23 5 0)::(tI 22 x156.2)::(tS 21 a7 x156.1.length a8)::(tS 19 a3 x148.1.length a4)::(A3 ac x140 ad aa x130 ab by_)) pq:=(n0.setB 181 false (by rfl) hp).kp
            refine Rk 11 4 ((tB 185 (x156.2 != 0))::(tI 26 x168.2)::(tP 25 6 0)::(tI 24 x162.2)::(tP 23 5 0)::(tS 21 a7 x156.1.length a8)::(tS 19 a3 x148.1.length a4)::(A3 ac x140 ad aa x130 ab by_)) w1 cm fun pr n1=>?_
            rcases Bool.eq_false_or_eq_true ((x156.2 != 0)) with hq | hq
            ·
             rw [hq,XW] at bt
             have w2:Kn 253 (DN d f g y z a5 ba) ((tB 185 true)::(tI 26 x168.2)::(tP 25 6 0)::(tI 24 x162.2)::(tP 23 5 0)::(tS 21 a7 x156.1.length a8)::(tS 19 a3 x148.1.length a4)::(A3 ac x140 ad aa x130 ab by_)) pr:=(n1.setB 185 true (by rfl) hq).kp
             refine Rk 15 23 ((tB 208 true)::(A3 ac x140 ad aa x130 ab by_)) w2 cm fun afx w3=>?_
             refine wf ?_
             obtain rfl:=XZ bt
             exact XY _ ⟨_,rfl,w3.kp,cm,Ad.le_refl _⟩
            ·
             rw [hq,XV] at bt
             have w4:Kn 253 (DN d f g y z a5 ba) ((tB 185 false)::(tI 26 x168.2)::(tP 25 6 0)::(tI 24 x162.2)::(tP 23 5 0)::(tS 21 a7 x156.1.length a8)::(tS 19 a3 x148.1.length a4)::(A3 ac x140 ad aa x130 ab by_)) pr:=(n1.setB 185 false (by rfl) hq).kp
             refine Rk 15 5 ((tB 190 (x162.2 != x168.2))::(tP 25 6 0)::(tP 23 5 0)::(tS 21 a7 x156.1.length a8)::(tS 19 a3 x148.1.length a4)::(A3 ac x140 ad aa x130 ab by_)) w4 cm fun ps n2=>?_
             rcases Bool.eq_false_or_eq_true ((x162.2 != x168.2)) with hr | hr
             ·
              rw [hr,XW] at bt
              have w5:Kn 253 (DN d f g y z a5 ba) ((tB 190 true)::(tP 25 6 0)::(tP 23 5 0)::(tS 21 a7 x156.1.length a8)::(tS 19 a3 x148.1.length a4)::(A3 ac x140 ad aa x130 ab by_)) ps:=(n2.setB 190 true (by rfl) hr).kp
              refine Rk 20 18 ((tB 208 true)::(A3 ac x140 ad aa x130 ab by_)) w5 cm fun afy w6=>?_
              refine wf ?_
              obtain rfl:=XZ bt
              exact XY _ ⟨_,rfl,w6.kp,cm,Ad.le_refl _⟩
             ·
              rw [hr,XV] at bt
              have w7:Kn 253 (DN d f g y z a5 ba) ((tB 190 false)::(tP 25 6 0)::(tP 23 5 0)::(tS 21 a7 x156.1.length a8)::(tS 19 a3 x148.1.length a4)::(A3 ac x140 ad aa x130 ab by_)) ps:=(n2.setB 190 false (by rfl) hr).kp
              refine Rk 20 2 ((tA 192 (E6 cq x168 cy cr cz ct c0))::(tA 191 (Gn cn x162 cv co cw cp cx))::(tB 190 false)::(tS 21 a7 x156.1.length a8)::(tS 19 a3 x148.1.length a4)::(A3 ac x140 ad aa x130 ab by_)) w7 cm fun afz n3=>?_
              obtain⟨x193,ex193,bt⟩:=Ao bt
              refine AI _ rfl (Ak n3 (by kernel_rfl)) fun K hK=>?_
              refine wc [.agg (Gn cn x162 cv co cw cp cx),.agg (E6 cq x168 cy cr cz ct c0)] n3 cm (Ms n cm.has x162.1 ((Ab (Ae ek) (Ab (Ae el) (Ae em))):rep kh x162.1 _) x168.1 ((Ab (Ae gc) (Ab (Ae gd) (Ae gf))):rep kh x168.1 _) ex193) fun ag5 adn aih q3 bb g2=>?_
              replace a6:=a6.mono bb
              replace a9:=a9.mono bb
              replace bc:=bc.mono bb
              replace be:=be.mono bb
              replace bf:=bf.mono bb
              replace bg:=bg.mono bb
              replace cd:=cd.mono bb
              replace cj:=cj.mono bb
              replace d6:=d6.mono bb
              replace d7:=d7.mono bb
              replace ei:=ei.mono bb
              replace dr:=dr.mono bb
              replace d8:=d8.mono bb
              replace d9:=d9.mono bb
              replace ej:=ej.mono bb
              replace dw:=dw.mono bb
              replace h9:=h9.mono bb
              replace ia:=ia.mono bb
              replace ek:=ek.mono bb
              replace el:=el.mono bb
              replace em:=em.mono bb
              replace gc:=gc.mono bb
              replace gd:=gd.mono bb
              replace gf:=gf.mono bb
              replace dk:=dk.mono bb
              replace dm:=dm.mono bb
              replace c3:=c3.mono bb
              replace c4:=c4.mono bb
              replace c5:=c5.mono bb
              replace dl:=dl.mono bb
              replace dd:=dd.mono bb
              replace de:=de.mono bb
              obtain rfl:=q3
              refine⟨.one (.c (.bool x193)),rfl,fun acd (w8:Kn 253 (DN d f g y z a5 ba) ((tB 193 x193)::(tA 192 (E6 cq x168 cy cr cz ct c0))::(tA 191 (Gn cn x162 cv co cw cp cx))::(tB 190 false)::(tS 21 a7 x156.1.length a8)::(tS 19 a3 x148.1.length a4)::(A3 ac x140 ad aa x130 ab by_)) acd)=>hK _ _ ?_⟩
              refine Rk 23 3 ((tB 196 (!x193))::(tS 21 a7 x156.1.length a8)::(tS 19 a3 x148.1.length a4)::(A3 ac x140 ad aa x130 ab by_)) w8 g2 fun pt n4=>?_
              rcases Bool.eq_false_or_eq_true ((!x193)) with hs | hs
              ·
               rw [hs,XW] at bt
               have w9:Kn 253 (DN d f g y z a5 ba) ((tB 196 true)::(tS 21 a7 x156.1.length a8)::(tS 19 a3 x148.1.length a4)::(A3 ac x140 ad aa x130 ab by_)) pt:=(n4.setB 196 true (by rfl) hs).kp
               refine Rk 26 12 ((tB 208 true)::(A3 ac x140 ad aa x130 ab by_)) w9 g2 fun af0 xa=>?_
               refine wf ?_
               obtain rfl:=XZ bt
               exact XY _ ⟨_,rfl,xa.kp,g2,bb⟩
              ·
               rw [hs,XV] at bt
               have xb:Kn 253 (DN d f g y z a5 ba) ((tB 196 false)::(tS 21 a7 x156.1.length a8)::(tS 19 a3 x148.1.length a4)::(A3 ac x140 ad aa x130 ab by_)) pt:=(n4.setB 196 false (by rfl) hs).kp
               refine Rk 26 2 ((tS 198 a7 x156.1.length a8)::(tS 197 a3 x148.1.length a4)::(tB 196 false)::(A3 ac x140 ad aa x130 ab by_)) xb g2 fun af1 n5=>?_
               obtain⟨x199,ex199,bt⟩:=Ao bt
               refine AI _ rfl (Ak n5 (by kernel_rfl)) fun K hK=>?_
               refine wc [.c (.slice a3 x148.1.length a4),.c (.slice a7 x156.1.length a8)] n5 g2 (GU n g2.has x148.1 h9 x156.1 ia ex199) fun ag6 ado aii q4 oa h7=>?_
               obtain rfl:=q4
               refine⟨.one (.c (.bool x199)),rfl,fun ace (xc:Kn 253 (DN d f g y z a5 ba) ((tB 199 x199)::(tS 198 a7 x156.1.length a8)::(tS 197 a3 x148.1.length a4)::(tB 196 false)::(A3 ac x140 ad aa x130 ab by_)) ace)=>hK _ _ ?_⟩
               refine Rk 29 3 ((tB 202 (!x199))::(A3 ac x140 ad aa x130 ab by_)) xc h7 fun pu n6=>?_
               rcases Bool.eq_false_or_eq_true ((!x199)) with ht | ht
               ·
                rw [ht,XW] at bt
                have xd:Kn 253 (DN d f g y z a5 ba) ((tB 202 true)::(A3 ac x140 ad aa x130 ab by_)) pu:=(n6.setB 202 true (by rfl) ht).kp
                refine Rk 32 6 ((tB 208 true)::(A3 ac x140 ad aa x130 ab by_)) xd h7 fun af2 xe=>?_
                refine wf ?_
                obtain rfl:=XZ bt
                exact XY _ ⟨_,rfl,xe.kp,h7,XU bb oa⟩
               ·
                rw [ht,XV] at bt
                have xf:Kn 253 (DN d f g y z a5 ba) ((tB 202 false)::(A3 ac x140 ad aa x130 ab by_)) pu:=(n6.setB 202 false (by rfl) ht).kp
                refine Rk 32 6 ((tB 208 (((x130.1.length:Nat):Int) != ((x140.1.length:Nat):Int)))::(A3 ac x140 ad aa x130 ab by_)) xf h7 fun af3 xg=>?_
                refine wf ?_
                obtain rfl:=XZ bt
                exact XY _ ⟨_,rfl,xg.kp,h7,XU bb oa⟩
        ·
         rintro _ aij ⟨mz,hg,rfl,k4,j1,bh⟩
         replace a6:=a6.mono bh
         replace a9:=a9.mono bh
         replace bc:=bc.mono bh
         replace be:=be.mono bh
         replace bf:=bf.mono bh
         replace bg:=bg.mono bh
         replace cd:=cd.mono bh
         replace cj:=cj.mono bh
         replace d6:=d6.mono bh
         replace d7:=d7.mono bh
         replace ei:=ei.mono bh
         replace dr:=dr.mono bh
         replace d8:=d8.mono bh
         replace d9:=d9.mono bh
         replace ej:=ej.mono bh
         replace dw:=dw.mono bh
         replace ek:=ek.mono bh
         replace el:=el.mono bh
         replace em:=em.mono bh
         replace gc:=gc.mono bh
         replace gd:=gd.mono bh
         replace gf:=gf.mono bh
         replace dk:=dk.mono bh
         replace dm:=dm.mono bh
         replace c3:=c3.mono bh
         replace c4:=c4.mono bh
         replace c5:=c5.mono bh
         replace dl:=dl.mono bh
         replace dd:=dd.mono bh
         replace de:=de.mono bh
         refine wC (pf) k4 (fun ku=>?_) (fun ku=>?_)
         ·
          rw [ku,XW] at H
          refine XT (Aa (Rk 0 1 [tB 8 false] k4 j1 fun af4 xh=>?_))
          refine wf (wp_ret ?_)
          obtain rfl:=XZ H
          exact rt (.one (.c (.bool false))) xh j1 rfl
         ·
          rw [ku,XV] at H
          refine wp_skip (XT (XT (Aa (Rk 0 1 ((tI 27 0)::(A3 ac x140 ad aa x130 ab by_)) k4 j1 fun af5 xi=>?_))))
          refine wf ?_
          obtain⟨pg,nf,H⟩:=Ao H
          refine Aw (fun a' w'=>∃ (pi:Unit)(m0:Array Value)(ki:Ad),a' = ⟨m0,[]⟩∧Kn 253 (DN d f g y z a5 ba) [] m0∧Ah ⟨w,h,A5⟩ ki (DN d f g y z a5 ba) [⟨AG l r_ m p q s u,some 28⟩,⟨BI ae a ah af ai ag aj,some 50⟩,⟨C9 l r_ m av x ay az ak a0 by_,some 28⟩,⟨DW al x59 ao am ap an aq,some 75⟩,⟨Gm a1 x a2 ar x62 aw au ax,some 75⟩,⟨Gn cn x162 cv co cw cp cx,some 34⟩,⟨E6 cq x168 cy cr cz ct c0,some 34⟩] (LI av x ay bn az ak a0 b3 al x59 ao bi am ap bm an aq bq a1 a2 b8 ar x62 aw b2 au ax b7) w'∧Ad.le hg ki∧pg=.go pi) ?_ ?_
          ·
           refine wp_block ?_
           refine Au (fun aau a' w'=>∃ (x_v30:Int)(m1:Array Value)(hl:Ad),a' = ⟨m1,[]⟩∧Kn 253 (DN d f g y z a5 ba) ((tI 27 x_v30)::(A3 ac x140 ad aa x130 ab by_)) m1∧Ah ⟨w,h,A5⟩ hl (DN d f g y z a5 ba) [⟨AG l r_ m p q s u,some 28⟩,⟨BI ae a ah af ai ag aj,some 50⟩,⟨C9 l r_ m av x ay az ak a0 by_,some 28⟩,⟨DW al x59 ao am ap an aq,some 75⟩,⟨Gm a1 x a2 ar x62 aw au ax,some 75⟩,⟨Gn cn x162 cv co cw cp cx,some 34⟩,⟨E6 cq x168 cy cr cz ct c0,some 34⟩] (LI av x ay bn az ak a0 b3 al x59 ao bi am ap bm an aq bq a1 a2 b8 ar x62 aw b2 au ax b7) w'∧Ad.le hg hl∧B3 aau by_ x130 x140 x_v30=some pg) n ?_ ?_
           ·
            exact XY 0 ⟨_,_,rfl,xi.kp,j1,Ad.le_refl _,nf⟩
           ·
            rintro j3 _ aik ⟨x_v30,m1,hl,rfl,xj,ga,bd,c2⟩
            clear nf
            obtain _ | j3:=j3
            ·
             rw [B3] at c2; cases c2
            rw [B3] at c2
            replace a6:=a6.mono bd
            replace a9:=a9.mono bd
            replace bc:=bc.mono bd
            replace be:=be.mono bd
            replace bf:=bf.mono bd
            replace bg:=bg.mono bd
            replace cd:=cd.mono bd
            replace cj:=cj.mono bd
            replace d6:=d6.mono bd
            replace d7:=d7.mono bd
            replace ei:=ei.mono bd
            replace dr:=dr.mono bd
            replace d8:=d8.mono bd
            replace d9:=d9.mono bd
            replace ej:=ej.mono bd
            replace dw:=dw.mono bd
            replace ek:=ek.mono bd
            replace el:=el.mono bd
            replace em:=em.mono bd
            replace gc:=gc.mono bd
            replace gd:=gd.mono bd
            replace gf:=gf.mono bd
            replace dk:=dk.mono bd
            replace dm:=dm.mono bd
            replace c3:=c3.mono bd
            replace c4:=c4.mono bd
            replace c5:=c5.mono bd
            replace dl:=dl.mono bd
            replace dd:=dd.mono bd
            replace de:=de.mono bd
            refine XT (XT (Aa (Rk 0 4 ((tB 212 (decide (x_v30<((x130.1.length:Nat):Int))))::(tI 27 x_v30)::(A3 ac x140 ad aa x130 ab by_)) xj ga fun af6 k5=>?_)))
            refine wf (wC (decide (x_v30<((x130.1.length:Nat):Int))) k5 (fun kv=>?_) (fun kv=>?_))
            ·
             rw [kv,XW] at c2
             refine wp_skip (XT (wp_block (XT (XT (Al (by kernel_rfl) ?_)))))
             replace ga:=ga.drew
             refine Am [] (DN d f g y z a5 ba) [⟨AG l r_ m p q s u,some 28⟩,⟨BI ae a ah af ai ag aj,some 50⟩,⟨C9 l r_ m av x ay az ak a0 by_,some 28⟩,⟨DW al x59 ao am ap an aq,some 75⟩,⟨Gm a1 x a2 ar x62 aw au ax,some 75⟩,⟨Gn cn x162 cv co cw cp cx,some 34⟩,⟨E6 cq x168 cy cr cz ct c0,some 34⟩] ?_
             refine Dr [0,1] [1,0] ((tI 216 x_v30)::(tS 215 aa x130.1.length ab)::(tI 27 x_v30)::(A3 ac x140 ad aa x130 ab by_)) k5 ga fun af7 xk=>?_
             obtain⟨x217,ex217,c2⟩:=Ao c2
             obtain⟨yn,yy,aal⟩:=Ai ex217
             obtain⟨db,dg,ac4,ry,z7,sn⟩:=dr.get (by decide) aal
             obtain⟨g6,he,rfl,ad0⟩:=z7
             have l1:=ga.addPlc (b:=db) (o:=dg+(x_v30:Int).toNat*1) (cs:=[.slice g6 x217.length he]) (fun j c hj=>sn j _ (Aj hj)) rfl (by kernel_rfl) (by kernel_rfl)
             refine A2 2 (x_v30) [.slice g6 x217.length he] (fun _ _ _ _ _ h=>h) rfl rfl (rfl) rfl (by decide) (by kernel_rfl) (by kernel_rfl) xk ga.plOk (by rfl) (by rfl) (by rfl) ry (by rfl) yn yy (by kernel_rfl) fun acf (xl:Kn 253 [(d,0),(f,0),(g,0),(y,0),(z,0),(a5,0),(ba,0),(db,dg+(x_v30:Int).toNat*1)] ((tP 217 7 0)::(tI 216 x_v30)::(tS 215 aa x130.1.length ab)::(tI 27 x_v30)::(A3 ac x140 ad aa x130 ab by_)) acf)=>?_
             refine Dr [3,4,5,6] (dn 6) ((tI 221 x_v30)::(tS 220 ac x140.1.length ad)::(tI 219 ((x217.length:Nat):Int))::(tI 27 x_v30)::(A3 ac x140 ad aa x130 ab by_)) xl l1 fun af8 xm=>?_
             obtain⟨x222,ex222,c2⟩:=Ao c2
             obtain⟨yo,yz,aam⟩:=Ai ex222
             obtain⟨dh,dj,ac5,rz,z8,sp⟩:=dw.get (by decide) aam
             obtain⟨g7,hf,rfl,ad1⟩:=z8
             have h8:=l1.addPlc (b:=dh) (o:=dj+(x_v30:Int).toNat*1) (cs:=[.slice g7 x222.length hf]) (fun j c hj=>sp j _ (Aj hj)) rfl (by kernel_rfl) (by kernel_rfl)
             refine A2 7 (x_v30) [.slice g7 x222.length hf] (fun _ _ _ _ _ h=>h) rfl rfl (rfl) rfl (by decide) (by kernel_rfl) (by kernel_rfl) xm l1.plOk (by rfl) (by rfl) (by rfl) rz (by rfl) yo yz (by kernel_rfl) fun acg (xn:Kn 253 (NY d f g y z a5 ba db dg x_v30 dh dj) ((tP 222 8 0)::(tI 221 x_v30)::(tS 220 ac x140.1.length ad)::(tI 219 ((x217.length:Nat):Int))::(tI 27 x_v30)::(A3 ac x140 ad aa x130 ab by_)) acg)=>?_
             refine Dr [8,9,10] (dn 10) ((tB 225 (((x217.length:Nat):Int) != ((x222.length:Nat):Int)))::(tI 27 x_v30)::(A3 ac x140 ad aa x130 ab by_)) xn h8 fun af9 k6=>?_
             refine A1 (by kernel_rfl) (wC ((((x217.length:Nat):Int) != ((x222.length:Nat):Int))) k6 (fun kw=>?_) (fun kw=>?_))
             ·
              rw [kw,XW] at c2
              refine XT (Aa (Rk 0 1 [tB 8 false] k6 h8 fun aga xo=>?_))
              refine wf (wp_ret ?_)
              obtain rfl:=XZ c2
              obtain rfl:=XZ H
              exact rt (.one (.c (.bool false))) xo h8 rfl
             ·
              rw [kw,XV] at c2
              refine wp_skip (XT (Aa (Rk 0 1 ((tI 28 0)::(tI 27 x_v30)::(A3 ac x140 ad aa x130 ab by_)) k6 h8 fun agb xp=>?_)))
              refine wf ?_
              obtain⟨ph,ng,c2⟩:=Ao c2
              refine Aw (fun a' w'=>∃ (pj:Unit)(m2:Array Value)(kj:Ad),a' = ⟨m2,[]⟩∧Kn 253 (NY d f g y z a5 ba db dg x_v30 dh dj) ((tI 27 x_v30)::(A3 ac x140 ad aa x130 ab by_)) m2∧Ah ⟨w,h,A5⟩ kj (NY d f g y z a5 ba db dg x_v30 dh dj) [⟨AG l r_ m p q s u,some 28⟩,⟨BI ae a ah af ai ag aj,some 50⟩,⟨C9 l r_ m av x ay az ak a0 by_,some 28⟩,⟨DW al x59 ao am ap an aq,some 75⟩,⟨Gm a1 x a2 ar x62 aw au ax,some 75⟩,⟨Gn cn x162 cv co cw cp cx,some 34⟩,⟨E6 cq x168 cy cr cz ct c0,some 34⟩,⟨[.slice g6 x217.length he],none⟩,⟨[.slice g7 x222.length hf],none⟩] (LI av x ay bn az ak a0 b3 al x59 ao bi am ap bm an aq bq a1 a2 b8 ar x62 aw b2 au ax b7) w'∧Ad.le hl kj∧ph=.go pj) ?_ ?_
              ·
               refine wp_block ?_
               refine Au (fun aav a' w'=>∃ (x_v40:Int)(m3:Array Value)(kk:Ad),a' = ⟨m3,[]⟩∧Kn 253 (NY d f g y z a5 ba db dg x_v30 dh dj) ((tI 28 x_v40)::(tI 27 x_v30)::(A3 ac x140 ad aa x130 ab by_)) m3∧Ah ⟨w,h,A5⟩ kk (NY d f g y z a5 ba db dg x_v30 dh dj) [⟨AG l r_ m p q s u,some 28⟩,⟨BI ae a ah af ai ag aj,some 50⟩,⟨C9 l r_ m av x ay az ak a0 by_,some 28⟩,⟨DW al x59 ao am ap an aq,some 75⟩,⟨Gm a1 x a2 ar x62 aw au ax,some 75⟩,⟨Gn cn x162 cv co cw cp cx,some 34⟩,⟨E6 cq x168 cy cr cz ct c0,some 34⟩,⟨[.slice g6 x217.length he],none⟩,⟨[.slice g7 x222.length hf],none⟩] (LI av x ay bn az ak a0 b3 al x59 ao bi am ap bm an aq bq a1 a2 b8 ar x62 aw b2 au ax b7) w'∧Ad.le hl kk∧BN aav by_ x130 x140 x_v30 x_v40=some ph) j3 ?_ ?_
               ·
                exact XY 0 ⟨_,_,rfl,xp.kp,h8,Ad.le_refl _,ng⟩
               ·
                rintro ms _ ail ⟨x_v40,m3,kk,rfl,xq,ou,jj,ch⟩
                clear ng
                obtain _ | ms:=ms
                ·
                 rw [BN] at ch; cases ch
                rw [BN] at ch
                replace dr:=dr.mono jj
                replace dw:=dw.mono jj
                refine XT (XT (Aa (Rk 0 3 ((tI 228 x_v30)::(tS 227 aa x130.1.length ab)::(tI 226 x_v40)::(tI 28 x_v40)::(tI 27 x_v30)::(A3 ac x140 ad aa x130 ab by_)) xq ou fun agc xr=>?_)))
                obtain⟨x229,ex229,ch⟩:=Ao ch
                obtain⟨yp,y0,aan⟩:=Ai ex229
                obtain⟨fh,gg,ac6,r0,z9,sq⟩:=dr.get (by decide) aan
                obtain⟨m6,nb,rfl,ad2⟩:=z9
                have gb:=ou.addPlc (b:=fh) (o:=gg+(x_v30:Int).toNat*1) (cs:=[.slice m6 x229.length nb]) (fun j c hj=>sq j _ (Aj hj)) rfl (by kernel_rfl) (by kernel_rfl)
                refine Bb 3 (x_v30) rfl rfl (rfl) rfl (by decide) xr (by rfl) (by rfl) (by rfl) r0 (by rfl) yp y0 (by kernel_rfl) fun aci (xs:Kn 253 [(d,0),(f,0),(g,0),(y,0),(z,0),(a5,0),(ba,0),(db,dg+(x_v30:Int).toNat*1),(dh,dj+(x_v30:Int).toNat*1),(fh,gg+(x_v30:Int).toNat*1)] ((tP 229 9 0)::(tI 228 x_v30)::(tS 227 aa x130.1.length ab)::(tI 226 x_v40)::(tI 28 x_v40)::(tI 27 x_v30)::(A3 ac x140 ad aa x130 ab by_)) aci)=>?_
                refine Rk 4 3 ((tB 232 (decide (x_v40<((x229.length:Nat):Int))))::(tI 28 x_v40)::(tI 27 x_v30)::(A3 ac x140 ad aa x130 ab by_)) xs gb fun agd k7=>?_
                refine wf (wC (decide (x_v40<((x229.length:Nat):Int))) k7 (fun kx=>?_) (fun kx=>?_))
                ·
                 rw [kx,XW] at ch
                 refine wp_skip (XT (wp_block (XT (Al (by kernel_rfl) ?_))))
                 replace gb:=gb.drew
                 refine Am [] [(d,0),(f,0),(g,0),(y,0),(z,0),(a5,0),(ba,0),(db,dg+(x_v30:Int).toNat*1),(dh,dj+(x_v30:Int).toNat*1),(fh,gg+(x_v30:Int).toNat*1)] [⟨AG l r_ m p q s u,some 28⟩,⟨BI ae a ah af ai ag aj,some 50⟩,⟨C9 l r_ m av x ay az ak a0 by_,some 28⟩,⟨DW al x59 ao am ap an aq,some 75⟩,⟨Gm a1 x a2 ar x62 aw au ax,some 75⟩,⟨Gn cn x162 cv co cw cp cx,some 34⟩,⟨E6 cq x168 cy cr cz ct c0,some 34⟩,⟨[.slice g6 x217.length he],none⟩,⟨[.slice g7 x222.length hf],none⟩,⟨[.slice m6 x229.length nb],none⟩] ?_
                 refine Dr [0,1] [1,0] ((tI 236 x_v30)::(tS 235 ac x140.1.length ad)::(tI 28 x_v40)::(tI 27 x_v30)::(A3 ac x140 ad aa x130 ab by_)) k7 gb fun age xt=>?_
                 obtain⟨x237,ex237,ch⟩:=Ao ch
                 obtain⟨yq,y1,aao⟩:=Ai ex237
                 obtain⟨hb,ib,ac7,r1,aaa,sr⟩:=dw.get (by decide) aao
                 obtain⟨iv,jd,rfl,zl⟩:=aaa
                 have l2:=gb.addPlc (b:=hb) (o:=ib+(x_v30:Int).toNat*1) (cs:=[.slice iv x237.length jd]) (fun j c hj=>sr j _ (Aj hj)) rfl (by kernel_rfl) (by kernel_rfl)
                 refine A2 2 (x_v30) [.slice iv x237.length jd] (fun _ _ _ _ _ h=>h) rfl rfl (rfl) rfl (by decide) (by kernel_rfl) (by kernel_rfl) xt gb.plOk (by rfl) (by rfl) (by rfl) r1 (by rfl) yq y1 (by kernel_rfl) fun acj (xu:Kn 253 [(d,0),(f,0),(g,0),(y,0),(z,0),(a5,0),(ba,0),(db,dg+(x_v30:Int).toNat*1),(dh,dj+(x_v30:Int).toNat*1),(fh,gg+(x_v30:Int).toNat*1),(hb,ib+(x_v30:Int).toNat*1)] ((tP 237 10 0)::(tI 236 x_v30)::(tS 235 ac x140.1.length ad)::(tI 28 x_v40)::(tI 27 x_v30)::(A3 ac x140 ad aa x130 ab by_)) acj)=>?_
                 refine Dr [3,4] (dn 4) ((tI 239 x_v40)::(tS 238 iv x237.length jd)::(tI 28 x_v40)::(tI 27 x_v30)::(A3 ac x140 ad aa x130 ab by_)) xu l2 fun aef sv=>?_
                 obtain⟨x240,ex240,ch⟩:=Ao ch
                 obtain⟨yi,yr,aab⟩:=Ai ex240
                 obtain⟨iz,j4,acu,rr,zx,r2⟩:=zl.get (by decide) aab
                 obtain rfl:=zx
                 have lc:=l2.addPlc (b:=iz) (o:=j4+(x_v40:Int).toNat*1) (cs:=[.int .i64 x240]) (fun j c hj=>r2 j _ (Aj hj)) rfl (by kernel_rfl) (by kernel_rfl)
                 refine A2 5 (x_v40) [.int .i64 x240] (fun _ _ _ _ _ h=>h) rfl rfl (rfl) rfl (by decide) (by kernel_rfl) (by kernel_rfl) sv l2.plOk (by rfl) (by rfl) (by rfl) rr (by rfl) yi yr (by kernel_rfl) fun aaw (sw:Kn 253 [(d,0),(f,0),(g,0),(y,0),(z,0),(a5,0),(ba,0),(db,dg+(x_v30:Int).toNat*1),(dh,dj+(x_v30:Int).toNat*1),(fh,gg+(x_v30:Int).toNat*1),(hb,ib+(x_v30:Int).toNat*1),(iz,j4+(x_v40:Int).toNat*1)] ((tP 240 11 0)::(tI 239 x_v40)::(tS 238 iv x237.length jd)::(tI 28 x_v40)::(tI 27 x_v30)::(A3 ac x140 ad aa x130 ab by_)) aaw)=>?_
                 refine Dr [6,7,8] (dn 8) ((tI 243 x_v30)::(tS 242 aa x130.1.length ab)::(tI 241 x240)::(tI 28 x_v40)::(tI 27 x_v30)::(A3 ac x140 ad aa x130 ab by_)) sw lc fun aeg sx=>?_
                 obtain⟨x244,ex244,ch⟩:=Ao ch
                 obtain⟨yj,ys,aac⟩:=Ai ex244
                 obtain⟨j8,mt,acv,rs,zy,r3⟩:=dr.get (by decide) aac
                 obtain⟨ie,i0,rfl,y2⟩:=zy
                 have ld:=lc.addPlc (b:=j8) (o:=mt+(x_v30:Int).toNat*1) (cs:=[.slice ie x244.length i0]) (fun j c hj=>r3 j _ (Aj hj)) rfl (by kernel_rfl) (by kernel_rfl)
                 refine A2 9 (x_v30) [.slice ie x244.length i0] (fun _ _ _ _ _ h=>h) rfl rfl (rfl) rfl (by decide) (by kernel_rfl) (by kernel_rfl) sx lc.plOk (by rfl) (by rfl) (by rfl) rs (by rfl) yj ys (by kernel_rfl) fun aax (sy:Kn 253 [(d,0),(f,0),(g,0),(y,0),(z,0),(a5,0),(ba,0),(db,dg+(x_v30:Int).toNat*1),(dh,dj+(x_v30:Int).toNat*1),(fh,gg+(x_v30:Int).toNat*1),(hb,ib+(x_v30:Int).toNat*1),(iz,j4+(x_v40:Int).toNat*1),(j8,mt+(x_v30:Int).toNat*1)] ((tP 244 12 0)::(tI 243 x_v30)::(tS 242 aa x130.1.length ab)::(tI 241 x240)::(tI 28 x_v40)::(tI 27 x_v30)::(A3 ac x140 ad aa x130 ab by_)) aax)=>?_
                 refine Dr [10,11] (dn 11) ((tI 246 x_v40)::(tS 245 ie x244.length i0)::(tI 241 x240)::(tI 28 x_v40)::(tI 27 x_v30)::(A3 ac x140 ad aa x130 ab by_)) sy ld fun aeh s0=>?_
                 obtain⟨x247,ex247,ch⟩:=Ao ch
                 obtain⟨yk,yt,aad⟩:=Ai ex247
                 obtain⟨m7,pe,acw,ru,zz,r4⟩:=y2.get (by decide) aad
                 obtain rfl:=zz
                 have h1:=ld.addPlc (b:=m7) (o:=pe+(x_v40:Int).toNat*1) (cs:=[.int .i64 x247]) (fun j c hj=>r4 j _ (Aj hj)) rfl (by kernel_rfl) (by kernel_rfl)
                 refine A2 12 (x_v40) [.int .i64 x247] (fun _ _ _ _ _ h=>h) rfl rfl (rfl) rfl (by decide) (by kernel_rfl) (by kernel_rfl) s0 ld.plOk (by rfl) (by rfl) (by rfl) ru (by rfl) yk yt (by kernel_rfl) fun aay (s1:Kn 253 [(d,0),(f,0),(g,0),(y,0),(z,0),(a5,0),(ba,0),(db,dg+(x_v30:Int).toNat*1),(dh,dj+(x_v30:Int).toNat*1),(fh,gg+(x_v30:Int).toNat*1),(hb,ib+(x_v30:Int).toNat*1),(iz,j4+(x_v40:Int).toNat*1),(j8,mt+(x_v30:Int).toNat*1),(m7,pe+(x_v40:Int).toNat*1)] ((tP 247 13 0)::(tI 246 x_v40)::(tS 245 ie x244.length i0)::(tI 241 x240)::(tI 28 x_v40)::(tI 27 x_v30)::(A3 ac x140 ad aa x130 ab by_)) aay)=>?_
                 refine Dr [13,14,15,16] (dn 16) ((tB 251 (x240 != (IntKind.i64.wrap (x247+(IntKind.i64.wrap by_.n)))))::(tI 28 x_v40)::(tI 27 x_v30)::(A3 ac x140 ad aa x130 ab by_)) s1 h1 fun aei kz=>?_
                 refine A1 (by kernel_rfl) (wC ((x240 != (IntKind.i64.wrap (x247+(IntKind.i64.wrap by_.n))))) kz (fun ko=>?_) (fun ko=>?_))
                 ·
                  rw [ko,XW] at ch
                  refine XT (Aa (Rk 0 1 [tB 8 false] kz h1 fun aej s2=>?_))
                  refine wf (wp_ret ?_)
                  obtain rfl:=XZ ch
                  obtain rfl:=XZ c2
                  obtain rfl:=XZ H
                  exact rt (.one (.c (.bool false))) s2 h1 rfl
                 ·
                  rw [ko,XV] at ch
                  refine wp_skip (Aa (Rk 0 3 ((tI 28 (IntKind.i64.wrap (x_v40+1)))::(tI 27 x_v30)::(A3 ac x140 ad aa x130 ab by_)) kz h1 fun aek s3=>?_))
                  refine wf ?_
                  exact XY ms ⟨Nat.lt_succ_self _,XY (IntKind.i64.wrap (x_v40+1)) ⟨_,_,rfl,(s3.keep [28,27,17,15,9] (by rfl)).cut 9 (by kernel_rfl),h1.cutPl 9 (by kernel_rfl),jj,ch⟩⟩
                ·
                 rw [kx,XV] at ch
                 refine wp_exit ?_
                 obtain rfl:=XZ ch
                 exact XY () ⟨_,_,rfl,(k7.keep [27,17,15,9] (by rfl)).cut 9 (by kernel_rfl),gb.cutPl 9 (by kernel_rfl),jj,rfl⟩
              ·
               rintro _ ag7 ⟨pj,m2,kj,rfl,s4,ob,x0,rfl⟩
               rw [Ex.bind_go] at c2
               refine Aa (Rk 0 3 ((tI 27 (IntKind.i64.wrap (x_v30+1)))::(A3 ac x140 ad aa x130 ab by_)) s4 ob fun ael s5=>?_)
               refine wf ?_
               exact XY j3 ⟨Nat.lt_succ_self _,XY (IntKind.i64.wrap (x_v30+1)) ⟨_,_,rfl,(s5.keep [27,17,15,9] (by rfl)).cut 7 (by kernel_rfl),ob.cutPl 7 (by kernel_rfl),XU bd x0,c2⟩⟩
            ·
             rw [kv,XV] at c2
             refine wp_exit ?_
             obtain rfl:=XZ c2
             exact XY () ⟨_,_,rfl,k5.kp,ga,bd,rfl⟩
          ·
           rintro _ ag8 ⟨pi,m0,ki,rfl,s6,oc,adq,rfl⟩
           rw [Ex.bind_go] at H
           refine XT (Aa ?_)
           obtain⟨x252,ex252,H⟩:=Ao H
           refine wl fun K hK=>?_
           refine wc [] s6 oc (HT n oc.has  ex252) fun agf adi ag9 qe adr od=>?_
           obtain rfl:=qe
           refine⟨.one (.c (.bool x252)),rfl,fun aaz (s7:Kn 253 (DN d f g y z a5 ba) [tB 252 x252] aaz)=>hK _ _ ?_⟩
           refine Rk 1 1 [tB 8 x252] s7 od fun aem s8=>?_
           refine wf (wp_ret ?_)
           obtain rfl:=XZ H
           exact rt (.one (.c (.bool x252))) s8 od rfl
   refine Ck (Vk 253 ⟨w,h,A5⟩ [(d,0),(f,0),(g,0)] (GK l r_ m p q s u ae a ah af ai ag aj by_) (GJ l r_ m p q s u ae a ah af ai ag aj) [] [⟨4,51,61,2,0,[]⟩] [8,3,0,5,2,1] (fun mm nh rw=>∃ (ec:Option Addr)(ef:Nat)(gi:List Value),mm=((tP 55 2 3)::(tS 50 ec x50.length ef)::(tP 52 0 4)::(Cz by_ a_words words c_words))∧rw=[⟨ec,x50.length,ef,63,3,gi,0⟩]∧Ad.le eg nh∧Ag nh x50 gi)) ?_ (fun aap=>?_)
   ·
    refine JA (MF [(6,[false])] ?_ (fun _ _ _ hm=>A6.forget [2] hm.plOk) (by kernel_rfl) (by kernel_rfl) ⟨?_,trivial⟩)
    ·
     rintro _ _ _ ⟨ec,ef,gi,rfl,rfl,_,_⟩
     exact⟨⟨⟨_,_,_,rfl,rfl,rfl,rfl,rfl,by rfl,by rfl,by rfl,rfl,by kernel_rfl⟩,trivial⟩,by kernel_rfl⟩
    ·
     intro ac9 ade aa0 ra ad4 ad9 ack q6 p5 yu qa hw h2
     obtain⟨fi,rfl⟩:=Uq q6
     obtain⟨iw,rfl⟩:=Uq p5
     obtain⟨ec,ef,gi,rfl,rfl,x1,sm⟩:=qa
     replace hw:=hw.req [false] (by kernel_rfl) yu rfl
     replace hw:Kn 253 [(d,0),(f,0),(g,0)] (((tP 55 2 3)::(tS 50 ec x50.length ef)::(tP 52 0 4)::(Cz by_ a_words words c_words))++EB [⟨4,51,61,2,0,[]⟩] [fi] [iw]) aa0:=hw
     replace h2:Ah ⟨w,h,A5⟩ ra [(d,0),(f,0),(g,0)] (GK l r_ m p q s u ae a ah af ai ag aj by_) [⟨ec,x50.length,ef,63,3,gi,0⟩,Uy [(d,0),(f,0),(g,0)] ⟨4,51,61,2,0,[]⟩ fi iw] ack:=h2
     refine⟨_,rfl,rfl,fun K hK=>?_⟩
     refine Br hw (A6.forget [2] h2.plOk) rfl (by decide) (by kernel_rfl) fun aa1 (s9:Kn 253 [(d,0),(f,0),(g,0)] (((tS 53 s r_.spares.length u)::(tP 55 2 3)::(tS 50 ec x50.length ef)::(tP 52 0 4)::(Cz by_ a_words words c_words))++EB [⟨4,51,61,2,0,[]⟩] [fi] [iw]) aa1)=>hK _ _ (A6.forget [2] h2.plOk) ?_
     refine Ba (RF [⟨4,51,61,2,0,[]⟩] [fi]++[6,8,3,0,5,2,1]) (by cases fi <;> kernel_rfl) (by cases fi <;> rfl) (pd [fi] _ _ ⟨[iw],_,_,_,[⟨ec,x50.length,ef,63,3,gi,0⟩],rfl,rfl,rfl,⟨ec,ef,gi,rfl,rfl,x1,sm⟩,s9.next [true] _ (by kernel_rfl) (by rfl) (by kernel_rfl),h2.pickRows [0,1] (by kernel_rfl) (by kernel_rfl)⟩)
   refine Ck (Vk 253 ⟨w,h,A5⟩ [(d,0),(f,0),(g,0)] (GK l r_ m p q s u ae a ah af ai ag aj by_) (GJ l r_ m p q s u ae a ah af ai ag aj) [] EP [6,5,2,1] (fun mm rb rw=>mm=((tS 53 s r_.spares.length u)::(tS 49 p r_.buses.length q)::(Cz by_ a_words words c_words))∧rw=[]∧Ad.le eg rb)) ?_ (fun aaq=>?_)
   ·
    refine JA (MF [(3,[true,false])] ?_ (fun _ _ _ hm=>A6.forget [2] hm.plOk) (by kernel_rfl) (by kernel_rfl) ⟨?_,trivial⟩)
    ·
     rintro _ _ _ ⟨rfl,rfl,_⟩
     exact⟨⟨⟨_,_,_,rfl,rfl,rfl,rfl,rfl,by rfl,by rfl,by rfl,rfl,by kernel_rfl⟩,⟨⟨_,_,_,rfl,rfl,rfl,rfl,rfl,by rfl,by rfl,by rfl,rfl,by kernel_rfl⟩,trivial⟩⟩,by kernel_rfl⟩
    ·
     intro ada adf aa2 j9 ad5 aea acl q7 p6 o2 qb hx jk
     obtain⟨m9,d1,rfl⟩:=SJ q7
     obtain⟨ed,gq,rfl⟩:=SJ p6
     obtain rfl:m9=true:=by cases m9 <;> first | rfl | exact(Bool.false_ne_true o2).elim
     obtain⟨rfl,rfl,n7⟩:=qb
     replace a9:=a9.mono n7
     replace hx:=hx.req [true,false] (by kernel_rfl) o2 rfl
     have r6:Ag j9 ([]:List Ce) ([]:List Value):=Ag.nil
     replace hx:Kn 253 [(d,0),(f,0),(g,0)] ([tS 53 s r_.spares.length u,tS 49 p r_.buses.length q,tP 10 2 0,tI 9 (IntKind.i64.wrap by_.n),tP 5 1 0,tP 4 0 0,tS 2 a_words words.length c_words,tS 47 ed 0 0]++EB EP [true,d1] [ed,gq]) aa2:=hx
     replace jk:Ah ⟨w,h,A5⟩ j9 [(d,0),(f,0),(g,0)] (GK l r_ m p q s u ae a ah af ai ag aj by_) [⟨ed,0,0,63,3,([]:List Value),0⟩,Uy [(d,0),(f,0),(g,0)] ⟨4,51,61,2,0,[]⟩ d1 gq] acl:=jk
     refine⟨_,rfl,rfl,fun K hK=>?_⟩
     obtain⟨j6,jg,zu,_⟩:=id a9
     obtain⟨mn,xv⟩:=AV ex50
     refine AA 0 24 r_.buses.length _ (x50.length) _ j6 hx jk rfl rfl (by decide) rfl (by rfl) (by kernel_rfl) (by rfl) (by rfl) (Ag.len jg) (zu.cell jk.has jg.one) jg.one (by rw [mn]; simp <;> omega) (by rw [mn]; exact xv) (by decide) fun g4 hc p1 aa3 aha ss (ta:Kn 253 [(d,0),(f,0),(g,0)] ([tS 50 g4 x50.length hc,tS 53 s r_.spares.length u,tS 49 p r_.buses.length q,tP 10 2 0,tI 9 (IntKind.i64.wrap by_.n),tP 5 1 0,tP 4 0 0,tS 2 a_words words.length c_words,tS 47 ed 0 0]++EB EP [true,d1] [ed,gq]) aa3) lf=>?_
     have r7:Ag j9 x50 (([]:List Value)++j6):=by rw [mn]; exact Ag.append r6 jg
     obtain rfl:p1=0:=Nat.le_zero.1 ss
     refine hK _ _ (A6.forget [2] lf.plOk) ?_
     refine T2 [8] (8::3::(RF EP [true,d1]++[6,5,2,1])) ([tP 55 2 3,tS 50 g4 x50.length hc,tS 53 s r_.spares.length u,tS 49 p r_.buses.length q,tP 10 2 0,tI 9 (IntKind.i64.wrap by_.n),tP 5 1 0,tP 4 0 0,tS 2 a_words words.length c_words,tS 47 ed 0 0]++EB EP [true,d1] [ed,gq]) (fun _ _ _ _ _ h=>h) ta (A6.forget [2] lf.plOk) (by kernel_rfl) (by rfl) (by cases d1 <;> kernel_rfl) fun aa4 (tb:Kn 253 [(d,0),(f,0),(g,0)] ([tP 55 2 3,tS 50 g4 x50.length hc,tS 53 s r_.spares.length u,tS 49 p r_.buses.length q,tP 10 2 0,tI 9 (IntKind.i64.wrap by_.n),tP 5 1 0,tP 4 0 0,tS 2 a_words words.length c_words,tS 47 ed 0 0]++EB EP [true,d1] [ed,gq]) aa4)=>?_
     refine Ba (RF [⟨4,51,61,2,0,[]⟩] [d1]++[6,8,3,0,5,2,1]) (by cases d1 <;> kernel_rfl) (by cases d1 <;> rfl) (pd [d1] _ _ ⟨[gq],_,_,_,[⟨g4,x50.length,hc,63,3,([]:List Value)++j6,0⟩],rfl,rfl,rfl,⟨g4,hc,([]:List Value)++j6,rfl,rfl,n7,r7⟩,tb.next [false,true] _ (by kernel_rfl) (by rfl) (by kernel_rfl),lf.pickRows [0,1] (by kernel_rfl) (by kernel_rfl)⟩)
   refine Ck (Vk 253 ⟨w,h,A5⟩ [(d,0),(f,0),(g,0)] (GK l r_ m p q s u ae a ah af ai ag aj by_) (GJ l r_ m p q s u ae a ah af ai ag aj) [] EP [5,2,1] (fun mm rc rw=>mm=((tP 52 0 4)::(tS 49 p r_.buses.length q)::(Cz by_ a_words words c_words))∧rw=[]∧Ad.le eg rc)) ?_ (fun aar=>?_)
   ·
    refine JA (MF [(3,[true,false]),(6,[false,false])] ?_ (fun _ _ _ hm=>A6.forget [2] hm.plOk) (by kernel_rfl) (by kernel_rfl) ⟨?_,?_,trivial⟩)
    ·
     rintro _ _ _ ⟨rfl,rfl,_⟩
     exact⟨⟨⟨_,_,_,rfl,rfl,rfl,rfl,rfl,by rfl,by rfl,by rfl,rfl,by kernel_rfl⟩,⟨⟨_,_,_,rfl,rfl,rfl,rfl,rfl,by rfl,by rfl,by rfl,rfl,by kernel_rfl⟩,trivial⟩⟩,by kernel_rfl⟩
    ·
     intro adb adg aa5 ka ad6 aeb acm q8 p7 o3 qc hy jl
     obtain⟨na,d2,rfl⟩:=SJ q8
     obtain⟨ee,gr,rfl⟩:=SJ p7
     obtain rfl:na=true:=by cases na <;> first | rfl | exact(Bool.false_ne_true o3).elim
     obtain⟨rfl,rfl,n8⟩:=qc
     replace a9:=a9.mono n8
     replace hy:=hy.req [true,false] (by kernel_rfl) o3 rfl
     have r8:Ag ka ([]:List Ce) ([]:List Value):=Ag.nil
     replace hy:Kn 253 [(d,0),(f,0),(g,0)] ([tP 52 0 4,tS 49 p r_.buses.length q,tP 10 2 0,tI 9 (IntKind.i64.wrap by_.n),tP 5 1 0,tP 4 0 0,tS 2 a_words words.length c_words,tS 47 ee 0 0]++EB EP [true,d2] [ee,gr]) aa5:=hy
     replace jl:Ah ⟨w,h,A5⟩ ka [(d,0),(f,0),(g,0)] (GK l r_ m p q s u ae a ah af ai ag aj by_) [⟨ee,0,0,63,3,([]:List Value),0⟩,Uy [(d,0),(f,0),(g,0)] ⟨4,51,61,2,0,[]⟩ d2 gr] acm:=jl
     refine⟨_,rfl,rfl,fun K hK=>?_⟩
     obtain⟨j7,ji,zw,_⟩:=id a9
     obtain⟨mp,xx⟩:=AV ex50
     refine AA 0 24 r_.buses.length _ (x50.length) _ j7 hy jl rfl rfl (by decide) rfl (by rfl) (by kernel_rfl) (by rfl) (by rfl) (Ag.len ji) (zw.cell jl.has ji.one) ji.one (by rw [mp]; simp <;> omega) (by rw [mp]; exact xx) (by decide) fun g5 hd p2 aa6 ahb st (tc:Kn 253 [(d,0),(f,0),(g,0)] ([tS 50 g5 x50.length hd,tP 52 0 4,tS 49 p r_.buses.length q,tP 10 2 0,tI 9 (IntKind.i64.wrap by_.n),tP 5 1 0,tP 4 0 0,tS 2 a_words words.length c_words,tS 47 ee 0 0]++EB EP [true,d2] [ee,gr]) aa6) lg=>?_
     have r9:Ag ka x50 (([]:List Value)++j7):=by rw [mp]; exact Ag.append r8 ji
     obtain rfl:p2=0:=Nat.le_zero.1 st
     refine hK _ _ (A6.forget [2] lg.plOk) ?_
     refine T2 [8] (8::3::(RF EP [true,d2]++[5,2,1])) ([tP 55 2 3,tS 50 g5 x50.length hd,tP 52 0 4,tS 49 p r_.buses.length q,tP 10 2 0,tI 9 (IntKind.i64.wrap by_.n),tP 5 1 0,tP 4 0 0,tS 2 a_words words.length c_words,tS 47 ee 0 0]++EB EP [true,d2] [ee,gr]) (fun _ _ _ _ _ h=>h) tc (A6.forget [2] lg.plOk) (by kernel_rfl) (by rfl) (by cases d2 <;> kernel_rfl) fun aa7 (td:Kn 253 [(d,0),(f,0),(g,0)] ([tP 55 2 3,tS 50 g5 x50.length hd,tP 52 0 4,tS 49 p r_.buses.length q,tP 10 2 0,tI 9 (IntKind.i64.wrap by_.n),tP 5 1 0,tP 4 0 0,tS 2 a_words words.length c_words,tS 47 ee 0 0]++EB EP [true,d2] [ee,gr]) aa7)=>?_
     refine Ba (RF [⟨4,51,61,2,0,[]⟩] [d2]++[8,3,0,5,2,1]) (by cases d2 <;> kernel_rfl) (by cases d2 <;> rfl) (aap [d2] _ _ ⟨[gr],_,_,_,[⟨g5,x50.length,hd,63,3,([]:List Value)++j7,0⟩],rfl,rfl,rfl,⟨g5,hd,([]:List Value)++j7,rfl,rfl,n8,r9⟩,td.next [false,true] _ (by kernel_rfl) (by rfl) (by kernel_rfl),lg.pickRows [0,1] (by kernel_rfl) (by kernel_rfl)⟩)
    ·
     intro adc adh aa8 rd ad7 aec acn q9 p8 yv qd hz h3
     obtain⟨fj,fk,rfl⟩:=SJ q9
     obtain⟨ix,iy,rfl⟩:=SJ p8
     obtain⟨rfl,rfl,x2⟩:=qd
     replace hz:=hz.req [false,false] (by kernel_rfl) yv rfl
     replace hz:Kn 253 [(d,0),(f,0),(g,0)] (((tP 52 0 4)::(tS 49 p r_.buses.length q)::(Cz by_ a_words words c_words))++EB EP [fj,fk] [ix,iy]) aa8:=hz
     replace h3:Ah ⟨w,h,A5⟩ rd [(d,0),(f,0),(g,0)] (GK l r_ m p q s u ae a ah af ai ag aj by_) [Uy [(d,0),(f,0),(g,0)] ⟨0,47,63,3,0,[]⟩ fj ix,Uy [(d,0),(f,0),(g,0)] ⟨4,51,61,2,0,[]⟩ fk iy] acn:=h3
     refine⟨_,rfl,rfl,fun K hK=>?_⟩
     refine Br hz (A6.forget [2] h3.plOk) rfl (by decide) (by kernel_rfl) fun aa9 (te:Kn 253 [(d,0),(f,0),(g,0)] (((tS 53 s r_.spares.length u)::(tP 52 0 4)::(tS 49 p r_.buses.length q)::(Cz by_ a_words words c_words))++EB EP [fj,fk] [ix,iy]) aa9)=>hK _ _ (A6.forget [2] h3.plOk) ?_
     refine Ba (RF EP [fj,fk]++[6,5,2,1]) (by cases fj <;> cases fk <;> kernel_rfl) (by cases fj <;> cases fk <;> rfl) (aaq [fj,fk] _ _ ⟨[ix,iy],_,_,((tS 53 s r_.spares.length u)::(tS 49 p r_.buses.length q)::(Cz by_ a_words words c_words)),[],rfl,rfl,rfl,⟨rfl,rfl,x2⟩,te.next [true,true] _ (by kernel_rfl) (by rfl) (by kernel_rfl),h3.pickRows [0,1] (by kernel_rfl) (by kernel_rfl)⟩)
   exact aar [false,false] _ _ ⟨[none,none],_,_,((tP 52 0 4)::(tS 49 p r_.buses.length q)::(Cz by_ a_words words c_words)),[],rfl,rfl,rfl,⟨rfl,rfl,Ad.le_refl _⟩,ws.kp,yf⟩
  refine Gk 5 9 rfl rfl (by kernel_rfl) (by decide) (rfl) (rfl) (fun K hK=>?_) (fun K hK=>?_)
  ·
   refine Br nx (A6.forget [2] e2.plOk) rfl (by decide) (by kernel_rfl) fun aba (tf:Kn 253 [(d,0),(f,0),(g,0)] ((tI 42 r_.to_)::(tP 45 2 7)::(tI 43 (IntKind.i64.wrap by_.n))::(tP 41 0 8)::(tI 40 (IntKind.i64.wrap (r_.fr+(IntKind.i64.wrap by_.n))))::(Cz by_ a_words words c_words)) aba)=>hK _ _ (A6.forget [2] e2.plOk) ?_
   refine GC [7] [7,5,8,6,4,3,2,1,0] [44,45,40,10,9,5,4,2] ((tI 44 (IntKind.i64.wrap (r_.to_+(IntKind.i64.wrap by_.n))))::(tP 45 2 7)::(tI 40 (IntKind.i64.wrap (r_.fr+(IntKind.i64.wrap by_.n))))::(Cz by_ a_words words c_words)) (fun _ _ _ _ _ h=>h) tf (A6.forget [2] e2.plOk) (by kernel_rfl) (by rfl) (by kernel_rfl) fun aen tg=>?_
   refine Cx 9 rfl (by kernel_rfl) (by decide) (rfl) (by kernel_rfl) fun K hK=>?_
   refine EA 2 7 (.c (.int .i64 (IntKind.i64.wrap (r_.fr+(IntKind.i64.wrap by_.n))))) (RO l r_ m p q s u by_) tg e2 fun ahc th oe=>hK _ _ ?_
   refine Am [5] [(d,0),(f,0),(g,0)] (GJ l r_ m p q s u ae a ah af ai ag aj) ?_
   refine GC [10] [10,9,7,5,8,6,4,3,2,1,0] [46,44,10,9,5,4,2] ((tP 46 2 8)::(tI 44 (IntKind.i64.wrap (r_.to_+(IntKind.i64.wrap by_.n))))::(Cz by_ a_words words c_words)) (fun _ _ _ _ _ h=>h) th (A6.forget [2] oe.plOk) (by kernel_rfl) (by rfl) (by kernel_rfl) fun aeo ti=>?_
   refine Ba [10,7,5,9,8,6,4,3,2,1,0] (by kernel_rfl) (by rfl) (pc _ _ ?_)
   exact XY _ ⟨_,rfl,ti.kp,oe,Ad.le_refl _⟩
  ·
   refine EA 2 7 (.c (.int .i64 (IntKind.i64.wrap (r_.fr+(IntKind.i64.wrap by_.n))))) (RO l r_ m p q s u by_) nx e2 fun ahd tj h4=>hK _ _ (A6.forget [2] h4.plOk) ?_
   refine Dl 5 fun K hK=>?_
   refine Br tj (A6.forget [2] h4.plOk) rfl (by decide) (by kernel_rfl) fun abb (tk:Kn 253 [(d,0),(f,0),(g,0)] ((tI 42 r_.to_)::(tP 45 2 7)::(tI 43 (IntKind.i64.wrap by_.n))::(tP 41 0 8)::(tI 40 (IntKind.i64.wrap (r_.fr+(IntKind.i64.wrap by_.n))))::(Cz by_ a_words words c_words)) abb)=>hK _ _ (A6.forget [2] h4.plOk) ?_
   refine GC [7,10] [10,7,5,9,8,6,4,3,2,1,0] [46,44,10,9,5,4,2] ((tP 46 2 8)::(tI 44 (IntKind.i64.wrap (r_.to_+(IntKind.i64.wrap by_.n))))::(Cz by_ a_words words c_words)) (fun _ _ _ _ _ h=>h) tk (A6.forget [2] h4.plOk) (by kernel_rfl) (by rfl) (by kernel_rfl) fun aep tl=>?_
   refine Ba [10,7,5,9,8,6,4,3,2,1,0] (by kernel_rfl) (by rfl) (pc _ _ ?_)
   exact XY _ ⟨_,rfl,tl.kp,h4,Ad.le_refl _⟩
end Go.Proofs.Ytokchpjijlebiaa
