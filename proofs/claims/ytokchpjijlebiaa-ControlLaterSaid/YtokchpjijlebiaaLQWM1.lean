/- Each call computes its plain function. -/
import Derived.Test.YtokchpjijlebiaaProg
import Derived.Test.YtokchpjijlebiaaLQP0
import Derived.Test.YtokchpjijlebiaaLQS6
import Derived.Test.YtokchpjijlebiaaLQS8
import Derived.Test.YtokchpjijlebiaaLQWP
import Derived.Test.YtokchpjijlebiaaLQWQ
import Derived.Test.YtokchpjijlebiaaLQWU
set_option linter.all false
namespace Go.Proofs.Ytokchpjijlebiaa
open Go Go.RowKit
open Rep (rep)
open KRep (kv)
open VRep (rv)
abbrev Fk (y z aa ab:Nat):Be:=[(y,0),(z,0),(aa,0),(ab,0)]
abbrev Jj (bh:Option Addr) (x56:Ax) (bi:Nat):List SC:=[.slice bh x56.legs.length bi,.int .i64 x56.turn]
abbrev DM (x49:AX):List SC:=[.int .i64 x49.stop,.int .i64 x49.tm,.int .i64 x49.turned]
abbrev QU (y z aa ab bb:Nat) (x_v31:Int):Be:=[(y,0),(z,0),(aa,0),(ab,0),(bb,0+(x_v31:Int).toNat*1)]
abbrev D5 (af:Option Addr) (t_:Av) (al:Nat) (ag:Option Addr) (am:Nat) (ah:Option Addr) (an:Nat):List SC:=[.slice af t_.tm.length al,.slice ag t_.turns.length am,.slice ah t_.legs.length an]
abbrev Jk (y z aa ab aq ar:Nat) (x_v21:Int) (ax ay az:Nat):Be:=[(y,0),(z,0),(aa,0),(ab,0),(aq,ar+(x_v21:Int).toNat*3),(ax,0),(ay,az+(x_v21:Int).toNat*2)]
abbrev So (y z aa ab aq ar:Nat) (x_v21:Int) (ax ay az b1:Nat) (x59:Int):Be:=[(y,0),(z,0),(aa,0),(ab,0),(aq,ar+(x_v21:Int).toNat*3),(ax,0),(ay,az+(x_v21:Int).toNat*2),(b1,0+(x59:Int).toNat*1)]
abbrev Ip (d:Option Addr) (w_:AL) (p:Nat) (l:Option Addr) (q:Nat) (m:Option Addr) (u:Nat):List SC:=[.slice d w_.route.legs.length p,.int .i64 w_.route.turn.lo,.int .i64 w_.route.turn.hi,.slice l w_.route.buses.length q,.slice m w_.route.spares.length u,.int .i64 w_.route.unit,.int .i64 w_.route.gap,.int .i64 w_.route.fr,.int .i64 w_.route.to_]
abbrev Fm (d:Option Addr) (w_:AL) (p:Nat) (l:Option Addr) (q:Nat) (m:Option Addr) (u:Nat):List SC:=[.func (.func 95) #[.agg #[.slice d w_.route.legs.length p,.int .i64 w_.route.turn.lo,.int .i64 w_.route.turn.hi,.slice l w_.route.buses.length q,.slice m w_.route.spares.length u,.int .i64 w_.route.unit,.int .i64 w_.route.gap,.int .i64 w_.route.fr,.int .i64 w_.route.to_]] #[]]
abbrev C8 (d:Option Addr) (w_:AL) (p:Nat) (l:Option Addr) (q:Nat) (m:Option Addr) (u:Nat) (ac:Option Addr) (ai:Nat) (ad:Option Addr) (aj:Nat) (ae:Option Addr) (ak:Nat):List SC:=[.slice d w_.route.legs.length p,.int .i64 w_.route.turn.lo,.int .i64 w_.route.turn.hi,.slice l w_.route.buses.length q,.slice m w_.route.spares.length u,.int .i64 w_.route.unit,.int .i64 w_.route.gap,.int .i64 w_.route.fr,.int .i64 w_.route.to_,.slice ac w_.acts.holds.length ai,.slice ad w_.acts.turns.length aj,.slice ae w_.acts.spares.length ak]
abbrev EO (x41:(List AX)×(List Ax)) (a5:Option Addr) (a6:Nat) (a1:Option Addr) (a2:Nat):TM:=[tI 45 ((x41.1.length:Nat):Int),tS 44 a5 x41.1.length a6,tS 9 a1 x41.2.length a2,tP 6 3 0,tP 5 2 0,tP 2 0 0]
abbrev FE (x_v31:Int) (aw:List (List Int)):TM:=[tI 77 x_v31,tI 76 ((aw.length:Nat):Int),tP 5 2 0]
abbrev HU (x18:List (List Int)):TM:=[tI 23 ((x18.length:Nat):Int),tP 6 3 0,tP 5 2 0,tP 3 1 0,tP 2 0 0]
set_option maxRecDepth 100000 in
set_option maxHeartbeats 4000000 in
theorem H7 (n:Nat) {h:Ad} {w:World} (hh:Dk h w) (w_:AL) {cs_w_:List Value} (hx_w_:rep h w_ cs_w_) (t_:Av) {cs_t_:List Value} (hx_t_:rep h t_ cs_t_) {r:List (List Int)} (H:C6 n w_ t_=some r) :
  Calls Try.prog 73 #[.agg cs_w_.toArray,.agg cs_t_.toArray] w (Dq (fun h v=>∃ a c,v=.slice a r.length c∧A0 h a c r) h w):=by
 obtain⟨_,_,rfl,⟨_,_,rfl,⟨d,p,rfl,bd⟩,⟨_,_,rfl,⟨_,_,rfl,rfl,rfl⟩,⟨_,_,rfl,⟨l,q,rfl,be⟩,⟨_,_,rfl,⟨m,u,rfl,bf⟩,⟨_,_,rfl,rfl,⟨_,_,rfl,rfl,⟨_,_,rfl,rfl,rfl⟩⟩⟩⟩⟩⟩⟩,⟨_,_,rfl,⟨ac,ai,rfl,bq⟩,⟨_,_,rfl,⟨ad,aj,rfl,br⟩,⟨ae,ak,rfl,bt⟩⟩⟩⟩:=hx_w_
 obtain⟨_,_,rfl,⟨af,al,rfl,bu⟩,⟨_,_,rfl,⟨ag,am,rfl,bv⟩,⟨ah,an,rfl,bw⟩⟩⟩:=hx_t_
 refine Se (e:=[]) 95 [.agg (C8 d w_ p l q m u ac ai ad aj ae ak),.agg (D5 af t_ al ag am ah an)] Try.func73 rfl rfl rfl rfl fun t hk=>?_
 have hm:=Ah.begin h w hh
 unfold C6 at H
 refine XT (Aa (wl fun K hK=>?_))
 refine wb (.agg (C8 d w_ p l q m u ac ai ad aj ae ak)) hk hm fun y nz qs (kt:Kn 95 [(y,0)] [tP 2 0 0,tA 0 (C8 d w_ p l q m u ac ai ad aj ae ak),tA 1 (D5 af t_ al ag am ah an)] nz) mn=>hK _ _ ?_
 refine wl fun K hK=>?_
 refine wb (.agg (D5 af t_ al ag am ah an)) kt mn fun z n1 qu (k1:Kn 95 [(y,0),(z,0)] [tP 3 1 0,tP 2 0 0,tA 0 (C8 d w_ p l q m u ac ai ad aj ae ak),tA 1 (D5 af t_ al ag am ah an)] n1) ef=>hK _ _ ?_
 refine Rk 2 1 [tP 3 1 0,tP 2 0 0] k1 ef fun py k5=>?_
 refine wf (XT (Aa (Rk 0 2 [tA 16 (Ip d w_ p l q m u),tP 3 1 0,tP 2 0 0] k5 ef fun pz k6=>?_)))
 obtain⟨x17,ex17,H⟩:=Ao H
 refine wl fun K hK=>?_
 refine wc [.agg (Ip d w_ p l q m u)] k6 ef (Cm n ef.has w_.route ((Ab (Ae bd) (Ab (Ab Ac Ac) (Ab (Ae be) (Ab (Ae bf) (Ab Ac (Ab Ac (Ab Ac Ac))))))):rep h w_.route _) ex17) fun qf d4 qx i4 cj mu=>?_
 replace bd:=bd.mono cj
 replace be:=be.mono cj
 replace bf:=bf.mono cj
 replace bq:=bq.mono cj
 replace br:=br.mono cj
 replace bt:=bt.mono cj
 replace bu:=bu.mono cj
 replace bv:=bv.mono cj
 replace bw:=bw.mono cj
 obtain rfl:=i4
 refine⟨.one (.c (.int .i64 x17)),rfl,fun n5 (lh:Kn 95 [(y,0),(z,0)] [tI 17 x17,tA 16 (Ip d w_ p l q m u),tP 3 1 0,tP 2 0 0] n5)=>hK _ _ ?_⟩
 obtain⟨x18,ex18,H⟩:=Ao H
 obtain⟨m8,nb,h4⟩:=Sa ex18
 refine wl fun K hK=>?_
 refine KM 31 1 24 [.slice none 0 0] (x17) lh mu rfl rfl (by decide) (by rfl) (by kernel_rfl) (by kernel_rfl) (by rfl) m8 nb (by decide) fun cr n8 ih (gz:Kn 95 [(y,0),(z,0)] [(18,.one (.c (.slice cr ((x17:Int).toNat) ((x17:Int).toNat)))),(17,.one (.c (.int .i64 x17))),(16,.one (.agg [.slice d w_.route.legs.length p,.int .i64 w_.route.turn.lo,.int .i64 w_.route.turn.hi,.slice l w_.route.buses.length q,.slice m w_.route.spares.length u,.int .i64 w_.route.unit,.int .i64 w_.route.gap,.int .i64 w_.route.fr,.int .i64 w_.route.to_])),(3,.one (.c (.ptr 1 0))),(2,.one (.c (.ptr 0 0)))] n8) (m0:Ah ⟨w,h,A5⟩ d4 [(y,0),(z,0)] [⟨[.slice d w_.route.legs.length p,.int .i64 w_.route.turn.lo,.int .i64 w_.route.turn.hi,.slice l w_.route.buses.length q,.slice m w_.route.spares.length u,.int .i64 w_.route.unit,.int .i64 w_.route.gap,.int .i64 w_.route.fr,.int .i64 w_.route.to_,.slice ac w_.acts.holds.length ai,.slice ad w_.acts.turns.length aj,.slice ae w_.acts.spares.length ak],some 115⟩,⟨[.slice af t_.tm.length al,.slice ag t_.turns.length am,.slice ah t_.legs.length an],some 76⟩] [⟨cr,(x17:Int).toNat,(x17:Int).toNat,31,1,List.flatten (List.replicate (x17:Int).toNat ([.slice none 0 0]:List Value)),0⟩] ih)=>?_
 have mb:(x17:Int).toNat=x18.length:=by rw [h4]; simp
 obtain⟨er,jt,fh⟩:=EN.make (g:=Fg) (pr:=Sk) (rw:=[]) (x:=(([]:List Int):List Int)) 3 1 rfl rfl h4 m0
 rw [mb] at gz
 replace fh:Ah ⟨w,h,A5⟩ d4 [(y,0),(z,0)] [⟨C8 d w_ p l q m u ac ai ad aj ae ak,some 115⟩,⟨D5 af t_ al ag am ah an,some 76⟩] (⟨cr,x18.length,x18.length,31,1,Bz Fg er x18,0⟩::er) ih:=fh
 refine hK _ _ ?_
 refine wl fun K hK=>?_
 refine wa [.slice none 0 0] gz fh fun aa h9 qz (lw:Kn 95 [(y,0),(z,0),(aa,0)] [tP 5 2 0,tS 18 cr x18.length x18.length,tI 17 x17,tA 16 (Ip d w_ p l q m u),tP 3 1 0,tP 2 0 0] h9) m1=>hK _ _ ?_
 refine wl fun K hK=>?_
 refine EA 2 0 (.c (.slice cr x18.length x18.length)) [.slice cr x18.length x18.length] lw m1 fun q0 lx hd=>hK _ _ ?_
 have ly:Kn 95 [(y,0),(z,0),(aa,0)] [tP 5 2 0,tP 3 1 0,tP 2 0 0] h9:=lx.kp
 refine wf (XT (Aa (Rk 0 2 [tA 20 (Ip d w_ p l q m u),tP 5 2 0,tP 3 1 0,tP 2 0 0] ly hd fun qa lz=>?_)))
 refine GF 2 #[.agg #[.slice d w_.route.legs.length p,.int .i64 w_.route.turn.lo,.int .i64 w_.route.turn.hi,.slice l w_.route.buses.length q,.slice m w_.route.spares.length u,.int .i64 w_.route.unit,.int .i64 w_.route.gap,.int .i64 w_.route.fr,.int .i64 w_.route.to_]] #[] lz rfl rfl (rfl) rfl (by decide) (by rfl) (by rfl) (by rfl) (by rfl) fun n9 (l0:Kn 95 [(y,0),(z,0),(aa,0)] [(21,.one (.c (.func (.func 95) #[.agg #[.slice d w_.route.legs.length p,.int .i64 w_.route.turn.lo,.int .i64 w_.route.turn.hi,.slice l w_.route.buses.length q,.slice m w_.route.spares.length u,.int .i64 w_.route.unit,.int .i64 w_.route.gap,.int .i64 w_.route.fr,.int .i64 w_.route.to_]] #[]))),tA 20 (Ip d w_ p l q m u),tP 5 2 0,tP 3 1 0,tP 2 0 0] n9)=>?_
 refine wl fun K hK=>?_
 refine wa [.nilfunc] l0 hd fun ab ia q1 (l1:Kn 95 (Fk y z aa ab) [tP 6 3 0,(21,.one (.c (.func (.func 95) #[.agg #[.slice d w_.route.legs.length p,.int .i64 w_.route.turn.lo,.int .i64 w_.route.turn.hi,.slice l w_.route.buses.length q,.slice m w_.route.spares.length u,.int .i64 w_.route.unit,.int .i64 w_.route.gap,.int .i64 w_.route.fr,.int .i64 w_.route.to_]] #[]))),tA 20 (Ip d w_ p l q m u),tP 5 2 0,tP 3 1 0,tP 2 0 0] ia) m2=>hK _ _ ?_
 refine wl fun K hK=>?_
 refine EA 3 0 (.c (.func (.func 95) #[.agg #[.slice d w_.route.legs.length p,.int .i64 w_.route.turn.lo,.int .i64 w_.route.turn.hi,.slice l w_.route.buses.length q,.slice m w_.route.spares.length u,.int .i64 w_.route.unit,.int .i64 w_.route.gap,.int .i64 w_.route.fr,.int .i64 w_.route.to_]] #[])) (Fm d w_ p l q m u) l1 m2 fun q2 l2 he=>hK _ _ ?_
 have l3:Kn 95 (Fk y z aa ab) [tP 6 3 0,tP 5 2 0,tP 3 1 0,tP 2 0 0] ia:=l2.kp
 refine wf (XT (XT (Aa (Rk 0 3 ((tI 24 0)::(HU x18)) l3 he fun qb l4=>?_))))
 refine wf ?_
 obtain⟨db,gj,H⟩:=Ao H
 refine Aw (fun a' w'=>∃ (dv:Option Addr)(d0:Nat)(df:List C0)(f3:Array Value)(c5:Ad),a' = ⟨f3,List.map KR ([]:List Nat)⟩∧Kn 95 (Fk y z aa ab) [tP 6 3 0,tP 5 2 0,tP 3 1 0,tP 2 0 0] f3∧Ah ⟨w,h,A5⟩ c5 (Fk y z aa ab) [⟨C8 d w_ p l q m u ac ai ad aj ae ak,some 115⟩,⟨D5 af t_ al ag am ah an,some 76⟩,⟨[.slice dv db.length d0],some 73⟩,⟨Fm d w_ p l q m u,some 121⟩] (⟨dv,db.length,d0,31,1,Bz Fg df db,0⟩::df) w'∧Ad.le d4 c5∧EN Sk 3 1 c5 df db) ?_ ?_
 ·
  refine wp_block ?_
  refine Au (fun ns a' w'=>∃ (x_v10:List (List Int))(x_v11:Int)(a8:Option Addr)(ba:Nat)(bc:List C0)(f4:Array Value)(b3:Ad),a' = ⟨f4,List.map KR ([]:List Nat)⟩∧Kn 95 (Fk y z aa ab) ((tI 24 x_v11)::(HU x18)) f4∧Ah ⟨w,h,A5⟩ b3 (Fk y z aa ab) [⟨C8 d w_ p l q m u ac ai ad aj ae ak,some 115⟩,⟨D5 af t_ al ag am ah an,some 76⟩,⟨[.slice a8 x_v10.length ba],some 73⟩,⟨Fm d w_ p l q m u,some 121⟩] (⟨a8,x_v10.length,ba,31,1,Bz Fg bc x_v10,0⟩::bc) w'∧Ad.le d4 b3∧EN Sk 3 1 b3 bc x_v10∧Bm ns w_ x18 x_v10 x_v11=some db) n ?_ ?_
  ·
   exact XY x18 ⟨0,cr,x18.length,er,_,_,rfl,l4.kp,he,Ad.le_refl _,jt,gj⟩
  ·
   rintro fu _ qm ⟨x_v10,x_v11,a8,ba,bc,f4,b3,rfl,jz,dk,g0,c7,ca⟩
   clear gj
   obtain _ | fu:=fu
   ·
    rw [Bm] at ca; cases ca
   rw [Bm] at ca
   refine XT (Aa (Rk 0 1 ((tB 25 (decide (x_v11<((x18.length:Nat):Int))))::(tI 24 x_v11)::(HU x18)) jz dk fun pg e3=>?_))
   refine wf (XT (wC (decide (x_v11<((x18.length:Nat):Int))) e3 (fun eu=>?_) (fun eu=>?_)))
   ·
    rw [eu,XW] at ca
    refine wp_skip (XT (wp_block (XT (Aa (Rk 0 2 ((tI 7 x_v11)::(tI 24 x_v11)::(HU x18)) e3 dk fun ph j0=>?_)))))
    refine wf (Aa (Rk 0 8 ((tI 34 w_.route.to_)::(tI 31 w_.route.fr)::(tI 28 x_v11)::(tS 27 a8 x_v10.length ba)::(tI 24 x_v11)::(HU x18)) j0 dk fun pi j1=>?_))
    refine wl fun K hK=>?_
    refine wS 3 1 [.int .i64 w_.route.fr,.int .i64 w_.route.to_] j1 dk fun bx nt od (j2:Kn 95 (Fk y z aa ab) ((tS 35 bx 2 2)::(tI 34 w_.route.to_)::(tI 31 w_.route.fr)::(tI 28 x_v11)::(tS 27 a8 x_v10.length ba)::(tI 24 x_v11)::(HU x18)) nt) mh=>?_
    have g4:Ah ⟨w,h,A5⟩ b3 (Fk y z aa ab) [⟨C8 d w_ p l q m u ac ai ad aj ae ak,some 115⟩,⟨D5 af t_ al ag am ah an,some 76⟩,⟨[.slice a8 x_v10.length ba],some 73⟩,⟨Fm d w_ p l q m u,some 121⟩] (⟨a8,x_v10.length,ba,31,1,Bz Fg bc x_v10,0⟩::⟨bx,2,2,3,1,([.int .i64 w_.route.fr,.int .i64 w_.route.to_]:List Value),0⟩::bc) od:=Ah.famIn [⟨a8,x_v10.length,ba,31,1,Bz Fg bc x_v10,0⟩] mh
    have je:Ag b3 ([w_.route.fr,w_.route.to_]:List Int) ([.int .i64 w_.route.fr,.int .i64 w_.route.to_]:List Value):=⟨_,_,rfl,(Ac:rep b3 (w_.route.fr:Int) _),⟨_,_,rfl,(Ac:rep b3 (w_.route.to_:Int) _),rfl⟩⟩
    refine hK _ _ ?_
    obtain⟨x36,ex36,ca⟩:=Ao ca
    obtain⟨hl,ht,fo⟩:=Ai ex36
    have dh:=Cy hl ht
    obtain⟨ct,es⟩:=CO g4 (i:=0) rfl (b0:=0+(x_v11:Int).toNat*1) (JC C3 (by decide) c7.len dh)
    have mi:=g4.addPlc (b:=ct) (o:=0+(x_v11:Int).toNat*1) (cs:=[]) (fun j c hj=>by simp at hj) rfl (by kernel_rfl) (by kernel_rfl)
    obtain⟨im,ip,qg,gr,ot⟩:=c7.get fo
    have ou:∀ (e:Be) k c,([.slice im x36.length ip]:List SC)[k]? = some c→((Bz Fg bc x_v10))[0+(x_v11:Int).toNat*1+k]? = some (c.den e):=fun e k c hk=>ED C3 gr fo k _ (Aj hk)
    refine Bb 9 (x_v11) rfl rfl (rfl) rfl (by decide) j2 (by rfl) (by rfl) (by rfl) es (by rfl) hl ht (by kernel_rfl) fun fw (j3:Kn 95 [(y,0),(z,0),(aa,0),(ab,0),(ct,0+(x_v11:Int).toNat*1)] ((tP 36 4 0)::(tS 35 bx 2 2)::(tI 34 w_.route.to_)::(tI 31 w_.route.fr)::(tI 28 x_v11)::(tS 27 a8 x_v10.length ba)::(tI 24 x_v11)::(HU x18)) fw)=>?_
    obtain⟨b5,iu,ca⟩:=Ao ca
    obtain⟨o9,pc,ei⟩:=DK iu
    refine wl fun K hK=>?_
    refine Ej 0 4 0 (0+(x_v11:Int).toNat*1) (.c (.slice bx 2 2)) j3 mi rfl rfl (by rfl) (by rfl) rfl rfl es rfl (by kernel_rfl) (NI C3 c7.len dh (Nat.le_of_ble_eq_true rfl)) fun f5 j4 mj=>?_
    have nf:((Bz Fg bc x_v10).take (0+(x_v11:Int).toNat*1+0)++([.slice bx 2 2]:List Value)++(Bz Fg bc x_v10).drop (0+(x_v11:Int).toNat*1+0+1))=(Bz Fg (List.set bc (x_v11:Int).toNat ⟨bx,2,2,3,1,([.int .i64 w_.route.fr,.int .i64 w_.route.to_]:List Value),0⟩) b5):=by rw [ei]; exact Lb (r':=⟨bx,2,2,3,1,([.int .i64 w_.route.fr,.int .i64 w_.route.to_]:List Value),0⟩) C3 gr fo rfl (Nat.le_of_ble_eq_true rfl)
    have mk:Ah ⟨w,h,A5⟩ b3 [(y,0),(z,0),(aa,0),(ab,0),(ct,0+(x_v11:Int).toNat*1)] [⟨[.slice d w_.route.legs.length p,.int .i64 w_.route.turn.lo,.int .i64 w_.route.turn.hi,.slice l w_.route.buses.length q,.slice m w_.route.spares.length u,.int .i64 w_.route.unit,.int .i64 w_.route.gap,.int .i64 w_.route.fr,.int .i64 w_.route.to_,.slice ac w_.acts.holds.length ai,.slice ad w_.acts.turns.length aj,.slice ae w_.acts.spares.length ak],some 115⟩,⟨[.slice af t_.tm.length al,.slice ag t_.turns.length am,.slice ah t_.legs.length an],some 76⟩,⟨[.slice a8 x_v10.length ba],some 73⟩,⟨[.func (.func 95) #[.agg #[.slice d w_.route.legs.length p,.int .i64 w_.route.turn.lo,.int .i64 w_.route.turn.hi,.slice l w_.route.buses.length q,.slice m w_.route.spares.length u,.int .i64 w_.route.unit,.int .i64 w_.route.gap,.int .i64 w_.route.fr,.int .i64 w_.route.to_]] #[]],some 121⟩,⟨[],none⟩] (⟨a8,x_v10.length,ba,31,1,(Bz Fg bc x_v10).take (0+(x_v11:Int).toNat*1+0)++([.slice bx 2 2]:List Value)++(Bz Fg bc x_v10).drop (0+(x_v11:Int).toNat*1+0+1),0⟩::(List.set bc (x_v11:Int).toNat ⟨bx,2,2,3,1,([.int .i64 w_.route.fr,.int .i64 w_.route.to_]:List Value),0⟩)) f5:=Ah.famPut [⟨a8,x_v10.length,ba,31,1,(Bz Fg bc x_v10).take (0+(x_v11:Int).toNat*1+0)++([.slice bx 2 2]:List Value)++(Bz Fg bc x_v10).drop (0+(x_v11:Int).toNat*1+0+1),0⟩] mj (by rw [c7.len]; exact dh)
    have fi:x_v10.length=b5.length:=by rw [ei]; simp
    obtain⟨d1,go,ml⟩:∃ f,EN Sk 3 1 b3 f b5∧Ah ⟨w,h,A5⟩ b3 [(y,0),(z,0),(aa,0),(ab,0),(ct,0+(x_v11:Int).toNat*1)] [⟨[.slice d w_.route.legs.length p,.int .i64 w_.route.turn.lo,.int .i64 w_.route.turn.hi,.slice l w_.route.buses.length q,.slice m w_.route.spares.length u,.int .i64 w_.route.unit,.int .i64 w_.route.gap,.int .i64 w_.route.fr,.int .i64 w_.route.to_,.slice ac w_.acts.holds.length ai,.slice ad w_.acts.turns.length aj,.slice ae w_.acts.spares.length ak],some 115⟩,⟨[.slice af t_.tm.length al,.slice ag t_.turns.length am,.slice ah t_.legs.length an],some 76⟩,⟨[.slice a8 x_v10.length ba],some 73⟩,⟨[.func (.func 95) #[.agg #[.slice d w_.route.legs.length p,.int .i64 w_.route.turn.lo,.int .i64 w_.route.turn.hi,.slice l w_.route.buses.length q,.slice m w_.route.spares.length u,.int .i64 w_.route.unit,.int .i64 w_.route.gap,.int .i64 w_.route.fr,.int .i64 w_.route.to_]] #[]],some 121⟩,⟨[],none⟩] (⟨a8,x_v10.length,ba,31,1,Bz Fg f b5,0⟩::f) f5:=⟨List.set bc (x_v11:Int).toNat ⟨bx,2,2,3,1,([.int .i64 w_.route.fr,.int .i64 w_.route.to_]:List Value),0⟩,(by rw [ei]; exact c7.set ⟨rfl,rfl,rfl,rfl,je⟩),by rw [← nf]; exact mk⟩
    have j5:Kn 95 [(y,0),(z,0),(aa,0),(ab,0),(ct,0+(x_v11:Int).toNat*1)] [(36,.one (.c (.ptr 4 0))),(35,.one (.c (.slice bx 2 2))),(34,.one (.c (.int .i64 w_.route.to_))),(31,.one (.c (.int .i64 w_.route.fr))),(28,.one (.c (.int .i64 x_v11))),(27,.one (.c (.slice a8 b5.length ba))),(24,.one (.c (.int .i64 x_v11))),(23,.one (.c (.int .i64 ((x18.length:Nat):Int)))),(6,.one (.c (.ptr 3 0))),(5,.one (.c (.ptr 2 0))),(3,.one (.c (.ptr 1 0))),(2,.one (.c (.ptr 0 0)))] fw:=by rw [← fi]; exact j4
    have e8:Ah ⟨w,h,A5⟩ b3 [(y,0),(z,0),(aa,0),(ab,0),(ct,0+(x_v11:Int).toNat*1)] [⟨[.slice d w_.route.legs.length p,.int .i64 w_.route.turn.lo,.int .i64 w_.route.turn.hi,.slice l w_.route.buses.length q,.slice m w_.route.spares.length u,.int .i64 w_.route.unit,.int .i64 w_.route.gap,.int .i64 w_.route.fr,.int .i64 w_.route.to_,.slice ac w_.acts.holds.length ai,.slice ad w_.acts.turns.length aj,.slice ae w_.acts.spares.length ak],some 115⟩,⟨[.slice af t_.tm.length al,.slice ag t_.turns.length am,.slice ah t_.legs.length an],some 76⟩,⟨[.slice a8 b5.length ba],some 73⟩,⟨[.func (.func 95) #[.agg #[.slice d w_.route.legs.length p,.int .i64 w_.route.turn.lo,.int .i64 w_.route.turn.hi,.slice l w_.route.buses.length q,.slice m w_.route.spares.length u,.int .i64 w_.route.unit,.int .i64 w_.route.gap,.int .i64 w_.route.fr,.int .i64 w_.route.to_]] #[]],some 121⟩,⟨[],none⟩] (⟨a8,b5.length,ba,31,1,Bz Fg d1 b5,0⟩::d1) f5:=by rw [← fi]; exact ml
    have o4:(x_v11:Int).toNat<b5.length:=by rw [← fi]; exact dh
    have hz:b5[(x_v11:Int).toNat]? = some ([w_.route.fr,w_.route.to_]:List Int):=by rw [ei]; exact List.getElem?_set_self dh
    obtain⟨f8,gc,qh,ju,ov⟩:=go.get hz
    have jf:∀ (e:Be) k c,([.slice f8 (([w_.route.fr,w_.route.to_]:List Int).length) gc]:List SC)[k]? = some c→((Bz Fg d1 b5))[0+(x_v11:Int).toNat*1+k]? = some (c.den e):=fun e k c hk=>ED C3 ju hz k _ (Aj hk)
    refine hK _ _ ?_
    have j6:Kn 95 [(y,0),(z,0),(aa,0),(ab,0),(ct,0+(x_v11:Int).toNat*1)] ((tI 24 x_v11)::(HU x18)) fw:=j5.kp
    refine wf (Aa (Kf 0 2 [24,23,6,5,3,2] ((tI 24 (IntKind.i64.wrap (x_v11+1)))::(HU x18)) j6 (A6.peek e8.plOk e8 0 4 rfl rfl es [.slice f8 (([w_.route.fr,w_.route.to_]:List Int).length) gc] (jf _)) (by kernel_rfl) fun pj j7=>?_))
    refine wf ?_
    exact XY fu ⟨Nat.lt_succ_self _,XY b5 ⟨IntKind.i64.wrap (x_v11+1),a8,ba,d1,_,_,rfl,(j7.keep [24,23,6,5,3,2] (by rfl)).cut 4 (by kernel_rfl),e8.cutPl 4 (by kernel_rfl),g0,go,ca⟩⟩
   ·
    rw [eu,XV] at ca
    refine wp_exit ?_
    obtain rfl:=XZ ca
    exact XY a8 ⟨ba,bc,_,_,rfl,e3.kp,dk,g0,c7⟩
 ·
  rintro _ qn ⟨dv,d0,df,f3,c5,rfl,j8,e9,ch,e1⟩
  replace bd:=bd.mono ch
  replace be:=be.mono ch
  replace bf:=bf.mono ch
  replace bq:=bq.mono ch
  replace br:=br.mono ch
  replace bt:=bt.mono ch
  replace bu:=bu.mono ch
  replace bv:=bv.mono ch
  replace bw:=bw.mono ch
  refine XT (Aa (Rk 0 2 [tA 40 (D5 af t_ al ag am ah an),tA 39 (C8 d w_ p l q m u ac ai ad aj ae ak),tP 6 3 0,tP 5 2 0,tP 2 0 0] j8 e9 fun pk j9=>?_))
  obtain⟨x41,ex41,H⟩:=Ao H
  refine wl fun K hK=>?_
  refine wc [.agg (C8 d w_ p l q m u ac ai ad aj ae ak),.agg (D5 af t_ al ag am ah an)] j9 e9 (D1 n e9.has w_ ((Ab (Ab (Ae bd) (Ab (Ab Ac Ac) (Ab (Ae be) (Ab (Ae bf) (Ab Ac (Ab Ac (Ab Ac Ac))))))) (Ab (Ae bq) (Ab (Ae br) (Ae bt)))):rep c5 w_ _) t_ ((Ab (Ae bu) (Ab (Ae bv) (Ae bw))):rep c5 t_ _) ex41) fun qc gk qo i1 cc fa=>?_
  replace bd:=bd.mono cc
  replace be:=be.mono cc
  replace bf:=bf.mono cc
  replace bq:=bq.mono cc
  replace br:=br.mono cc
  replace bt:=bt.mono cc
  replace bu:=bu.mono cc
  replace bv:=bv.mono cc
  replace bw:=bw.mono cc
  replace e1:=e1.mono cc
  obtain⟨_,_,rfl,⟨a5,a6,rfl,dp⟩,⟨a1,a2,rfl,dq⟩⟩:=i1
  refine⟨.tup [.c (.slice a5 x41.1.length a6),.c (.slice a1 x41.2.length a2)],rfl,fun nu (ka:Kn 95 (Fk y z aa ab) [(41,.tup [.c (.slice a5 x41.1.length a6),.c (.slice a1 x41.2.length a2)]),tA 40 (D5 af t_ al ag am ah an),tA 39 (C8 d w_ p l q m u ac ai ad aj ae ak),tP 6 3 0,tP 5 2 0,tP 2 0 0] nu)=>hK _ _ ?_⟩
  refine Rk 3 5 [tS 9 a1 x41.2.length a2,tS 8 a5 x41.1.length a6,tP 6 3 0,tP 5 2 0,tP 2 0 0] ka fa fun pl kb=>?_
  refine wf (XT (XT (Aa (Rk 0 3 ((tI 46 0)::(EO x41 a5 a6 a1 a2)) kb fa fun pm kc=>?_))))
  refine wf ?_
  obtain⟨aw,gh,H⟩:=Ao H
  refine Aw (fun a' w'=>∃ (du:Option Addr)(dz:Nat)(dd:List C0)(bl:Fr)(c1:List Nat)(fx:Array Value)(c4:Ad),a' = ⟨fx,List.map KR c1⟩∧Kn 95 (Fk y z aa ab) [tP 5 2 0] fx∧Ah bl c4 (Fk y z aa ab) [⟨C8 d w_ p l q m u ac ai ad aj ae ak,some 115⟩,⟨D5 af t_ al ag am ah an,some 76⟩,⟨[.slice du aw.length dz],some 73⟩,⟨Fm d w_ p l q m u,some 121⟩] (⟨du,aw.length,dz,31,1,Bz Fg dd aw,0⟩::dd) w'∧Ad.le gk c4∧EN Sk 3 1 c4 dd aw∧Fr.Of w h bl∧Ez bl c1) ?_ ?_
  ·
   refine wp_block ?_
   refine Au (fun nq a' w'=>∃ (x_v20:List (List Int))(x_v21:Int)(cx:Option Addr)(c2:Nat)(c3:List C0)(dc:Fr)(c0:List Nat)(fy:Array Value)(cu:Ad),a' = ⟨fy,List.map KR c0⟩∧Kn 95 (Fk y z aa ab) ((tI 46 x_v21)::(EO x41 a5 a6 a1 a2)) fy∧Ah dc cu (Fk y z aa ab) [⟨C8 d w_ p l q m u ac ai ad aj ae ak,some 115⟩,⟨D5 af t_ al ag am ah an,some 76⟩,⟨[.slice cx x_v20.length c2],some 73⟩,⟨Fm d w_ p l q m u,some 121⟩] (⟨cx,x_v20.length,c2,31,1,Bz Fg c3 x_v20,0⟩::c3) w'∧Ad.le gk cu∧EN Sk 3 1 cu c3 x_v20∧Fr.Of w h dc∧Ez dc c0∧Bn nq w_ x41 x_v20 x_v21=some aw) n ?_ ?_
   ·
    exact XY db ⟨0,dv,d0,df,⟨w,h,A5⟩,([]:List Nat),_,_,rfl,kc.kp,fa,Ad.le_refl _,e1,⟨rfl,rfl⟩,Ez.nil _,gh⟩
   ·
    rintro cp _ qp ⟨x_v20,x_v21,cx,c2,c3,dc,c0,fy,cu,rfl,kd,ed,bp,d8,hg,hf,bj⟩
    clear gh
    obtain _ | cp:=cp
    ·
     rw [Bn] at bj; cases bj
    rw [Bn] at bj
    replace bd:=bd.mono bp
    replace be:=be.mono bp
    replace bf:=bf.mono bp
    replace bq:=bq.mono bp
    replace br:=br.mono bp
    replace bt:=bt.mono bp
    replace bu:=bu.mono bp
    replace bv:=bv.mono bp
    replace bw:=bw.mono bp
    replace dp:=dp.mono bp
    replace dq:=dq.mono bp
    refine XT (Aa (Rk 0 1 ((tB 47 (decide (x_v21<((x41.1.length:Nat):Int))))::(tI 46 x_v21)::(EO x41 a5 a6 a1 a2)) kd ed fun pn e4=>?_))
    refine wf (XT (wC (decide (x_v21<((x41.1.length:Nat):Int))) e4 (fun ev=>?_) (fun ev=>?_)))
    ·
     rw [ev,XW] at bj
     refine wp_skip (XT (wp_block (XT (Aa (Rk 0 1 ((tI 48 x_v21)::(tI 46 x_v21)::(EO x41 a5 a6 a1 a2)) e4 ed fun po ke=>?_)))))
     obtain⟨x49,ex49,bj⟩:=Ao bj
     obtain⟨m6,m9,nl⟩:=Ai ex49
     obtain⟨aq,ar,ok,i9,ng,jg⟩:=dp.get (by decide) nl
     obtain⟨_,_,rfl,rfl,⟨_,_,rfl,rfl,rfl⟩⟩:=ng
     have g5:=ed.addPlc (b:=aq) (o:=ar+(x_v21:Int).toNat*3) (cs:=(DM x49)) (fun j c hj=>jg j _ (Aj hj)) rfl (by kernel_rfl) (by kernel_rfl)
     refine Bb 1 (x_v21) rfl rfl (rfl) rfl (by decide) ke (by rfl) (by rfl) (by rfl) i9 (by rfl) m6 m9 (by kernel_rfl) fun nv (kf:Kn 95 [(y,0),(z,0),(aa,0),(ab,0),(aq,ar+(x_v21:Int).toNat*3)] ((tP 49 4 0)::(tI 48 x_v21)::(tI 46 x_v21)::(EO x41 a5 a6 a1 a2)) nv)=>?_
     refine Rk 2 1 ((tA 50 (DM x49))::(tI 48 x_v21)::(tI 46 x_v21)::(EO x41 a5 a6 a1 a2)) kf g5 fun pp kg=>?_
     refine wl fun K hK=>?_
     refine wa [.int .i64 0,.int .i64 0,.int .i64 0] kg g5 fun ax nw qq (kh:Kn 95 [(y,0),(z,0),(aa,0),(ab,0),(aq,ar+(x_v21:Int).toNat*3),(ax,0)] ((tP 11 5 0)::(tA 50 (DM x49))::(tI 48 x_v21)::(tI 46 x_v21)::(EO x41 a5 a6 a1 a2)) nw) g6=>hK _ _ ?_
     refine Rk 4 1 ((tI 10 x_v21)::(tP 11 5 0)::(tA 50 (DM x49))::(tI 46 x_v21)::(EO x41 a5 a6 a1 a2)) kh g6 fun nx ki=>?_
     refine wl fun K hK=>?_
     refine EA 5 0 (.agg (DM x49)) (DM x49) ki g6 fun qr kj dl=>hK _ _ ?_
     have kk:Kn 95 [(y,0),(z,0),(aa,0),(ab,0),(aq,ar+(x_v21:Int).toNat*3),(ax,0)] ((tI 10 x_v21)::(tP 11 5 0)::(tI 46 x_v21)::(EO x41 a5 a6 a1 a2)) nx:=kj.kp
     refine wf (XT (Al (by kernel_rfl) ?_))
     replace dl:=dl.drew
     refine Am [] [(y,0),(z,0),(aa,0),(ab,0),(aq,ar+(x_v21:Int).toNat*3),(ax,0)] [⟨C8 d w_ p l q m u ac ai ad aj ae ak,some 115⟩,⟨D5 af t_ al ag am ah an,some 76⟩,⟨[.slice cx x_v20.length c2],some 73⟩,⟨Fm d w_ p l q m u,some 121⟩,⟨DM x49,none⟩,⟨DM x49,some 153⟩] ?_
     refine Dr [0,1,2,3,4] (dn 4) ((tI 55 x_v21)::(tS 54 a1 x41.2.length a2)::(tA 53 (DM x49))::(tA 52 (Ip d w_ p l q m u))::(tI 46 x_v21)::(EO x41 a5 a6 a1 a2)) kk dl fun pq kl=>?_
     obtain⟨x56,ex56,bj⟩:=Ao bj
     obtain⟨m7,na,nm⟩:=Ai ex56
     obtain⟨ay,az,ol,ja,nh,jh⟩:=dq.get (by decide) nm
     obtain⟨_,_,rfl,⟨bh,bi,rfl,fl⟩,rfl⟩:=nh
     have fb:=dl.addPlc (b:=ay) (o:=az+(x_v21:Int).toNat*2) (cs:=(Jj bh x56 bi)) (fun j c hj=>jh j _ (Aj hj)) rfl (by kernel_rfl) (by kernel_rfl)
     refine A2 5 (x_v21) (Jj bh x56 bi) (fun _ _ _ _ _ h=>h) rfl rfl (rfl) rfl (by decide) (by kernel_rfl) (by kernel_rfl) kl dl.plOk (by rfl) (by rfl) (by rfl) ja (by rfl) m7 na (by kernel_rfl) fun ny (km:Kn 95 (Jk y z aa ab aq ar x_v21 ax ay az) ((tP 56 6 0)::(tI 55 x_v21)::(tS 54 a1 x41.2.length a2)::(tA 53 (DM x49))::(tA 52 (Ip d w_ p l q m u))::(tI 46 x_v21)::(EO x41 a5 a6 a1 a2)) ny)=>?_
     refine Dr [6] (dn 6) ((tA 57 (Jj bh x56 bi))::(tA 53 (DM x49))::(tA 52 (Ip d w_ p l q m u))::(tI 46 x_v21)::(EO x41 a5 a6 a1 a2)) km fb fun ps kn=>?_
     obtain⟨x58,ex58,bj⟩:=Ao bj
     refine Dl 7 fun K hK=>?_
     refine wc [.agg (Ip d w_ p l q m u),.agg (DM x49),.agg (Jj bh x56 bi)] kn fb (D2 cp fb.has w_.route ((Ab (Ae bd) (Ab (Ab Ac Ac) (Ab (Ae be) (Ab (Ae bf) (Ab Ac (Ab Ac (Ab Ac Ac))))))):rep cu w_.route _) x49 ((Ab Ac (Ab Ac Ac)):rep cu x49 _) x56 ((Ab (Ae fl) Ac):rep cu x56 _) ex58) fun qd i6 ds i2 bn g7=>?_
     replace bd:=bd.mono bn
     replace be:=be.mono bn
     replace bf:=bf.mono bn
     replace bq:=bq.mono bn
     replace br:=br.mono bn
     replace bt:=bt.mono bn
     replace bu:=bu.mono bn
     replace bv:=bv.mono bn
     replace bw:=bw.mono bn
     replace dp:=dp.mono bn
     replace dq:=dq.mono bn
     replace fl:=fl.mono bn
     replace d8:=d8.mono bn
     obtain⟨dw,dx,dy,rfl,jb,jc,jd⟩:=i2
     refine⟨.one (.c (.func (.func 106) #[] #[.pointer (some ⟨dw,0,none⟩),.pointer (some ⟨dx,0,none⟩),.pointer (some ⟨dy,0,none⟩)])),rfl,fun h6 (ko:Kn 95 (Jk y z aa ab aq ar x_v21 ax ay az) ((58,.one (.c (.func (.func 106) #[] #[.pointer (some ⟨dw,0,none⟩),.pointer (some ⟨dx,0,none⟩),.pointer (some ⟨dy,0,none⟩)])))::(tA 57 (Jj bh x56 bi))::(tA 53 (DM x49))::(tA 52 (Ip d w_ p l q m u))::(tI 46 x_v21)::(EO x41 a5 a6 a1 a2)) h6)=>hK _ _ g7.plOk ?_⟩
     have e5:Kn 95 (Jk y z aa ab aq ar x_v21 ax ay az) ((58,.one (.c (.func (.func 106) #[] #[.pointer (some ⟨dw,0,none⟩),.pointer (some ⟨dx,0,none⟩),.pointer (some ⟨dy,0,none⟩)])))::(tI 46 x_v21)::(EO x41 a5 a6 a1 a2)) h6:=ko.kp
     refine A1 (by kernel_rfl) (wp_block ?_)
     obtain⟨el,ir,bj⟩:=Ao bj
     refine LC (.func (.func 106) #[] #[.pointer (some ⟨dw,0,none⟩),.pointer (some ⟨dx,0,none⟩),.pointer (some ⟨dy,0,none⟩)]) e5 (by rfl) rfl (fun _ _=>by kernel_rfl) fun cq fm=>?_
     obtain⟨ii,me,om,mm⟩:=Ah.loopBegin g7 hf hg cq
     have i0:Vf (fun(s:List (List Int))(h':Ad)(w':World)=>∃ (Fj:Fr)(ao:Option Addr)(ap:Nat)(a3:List C0),GI w h Fj ((ds).heap.size+1) cq ((ds).heap.size::c0)∧Ah Fj h' (Jk y z aa ab aq ar x_v21 ax ay az) [⟨C8 d w_ p l q m u ac ai ad aj ae ak,some 115⟩,⟨D5 af t_ al ag am ah an,some 76⟩,⟨[.slice ao s.length ap],some 73⟩,⟨Fm d w_ p l q m u,some 121⟩,⟨DM x49,none⟩,⟨DM x49,some 153⟩,⟨Jj bh x56 bi,none⟩] (⟨ao,s.length,ap,31,1,Bz Fg a3 s,0⟩::a3) w'∧EN Sk 3 1 h' a3 s∧Ad.le i6 h'):=⟨fun s h' w' hj=>by obtain⟨_,ao,ap,a3,_,hm,b4,_⟩:=hj; exact hm.has,fun s h' h'' w' w'' hj hb hle hn=>by obtain⟨Fj,ao,ap,a3,hlf,hm,b4,hle0⟩:=hj; exact⟨Fj,ao,ap,a3,hlf,hm.call hb hle hn,b4.mono hle,XU hle0 hle⟩⟩
     refine⟨_,CX cp i0 (fun(s:List (List Int))(x59:Int)(x60:Int)=>(((((fun(y0:Int)=>A4 cp w_.route y0) x60).bind fun x63 =>
        (bif x63 then
        ((Cr s x59).bind fun x68 =>
        ((IU x68 ([x60]:List Int)).bind fun x72 =>
        ((Cr s x59).bind fun x73 =>
        ((upd s x59 x72).bind fun bk =>
        some bk))))
        else
        some s)):Option (List (List Int))).bind fun s1=>some (s1,true))) ?_ x_v20 ⟨ii,cx,c2,c3,me,mm,d8,Ad.le_refl _⟩ x58.1 jb x58.2.1 jc x58.2.2 jd ir,?_⟩
     ·
      intro s x59 x60 s' oj d3 ib jx  em
      obtain⟨ij,ao,ap,a3,e7,cv,b4,di⟩:=jx
      obtain⟨pf,bm,em⟩:=Ao em
      cases em
      replace bd:=bd.mono di
      replace be:=be.mono di
      replace bf:=bf.mono di
      replace cv:Ah ij d3 (Jk y z aa ab aq ar x_v21 ax ay az) [⟨C8 d w_ p l q m u ac ai ad aj ae ak,some 115⟩,⟨D5 af t_ al ag am ah an,some 76⟩,⟨[.slice ao s.length ap],some 73⟩,⟨Fm d w_ p l q m u,some 121⟩,⟨DM x49,none⟩,⟨DM x49,some 153⟩,⟨Jj bh x56 bi,none⟩] (⟨ao,s.length,ap,31,1,Bz Fg a3 s,0⟩::a3) ib:=cv
      refine PI fm (cv.ext e7.loop) ?_
      have kq:Kn 95 (Jk y z aa ab aq ar x_v21 ax ay az) [tI 60 x60,tI 59 x59,tP 6 3 0,tP 5 2 0] _:=((e5.kp.put (k:=59) (by decide) (.one (.c (.int .i64 x59)))).put (k:=60) (by decide) (.one (.c (.int .i64 x60))))
      refine PH (CP (by kernel_rfl) (Rk 0 1 [tI 12 x59,tI 60 x60,tP 6 3 0,tP 5 2 0] kq cv fun pt kr=>?_))
      refine wf (CP (by kernel_rfl) (Rk 0 1 [tI 13 x60,tI 12 x59,tP 6 3 0,tP 5 2 0] kr cv fun pu ks=>?_))
      refine wf ?_
      refine⟨cv.ext e7.loop,?_⟩
      obtain⟨dt,ec,oo,dm⟩:=Ah.loopStep cv e7 { cq with state:=.busy }
      replace dm:Ah dt d3 (Jk y z aa ab aq ar x_v21 ax ay az) [⟨C8 d w_ p l q m u ac ai ad aj ae ak,some 115⟩,⟨D5 af t_ al ag am ah an,some 76⟩,⟨[.slice ao s.length ap],some 73⟩,⟨Fm d w_ p l q m u,some 121⟩,⟨DM x49,none⟩,⟨DM x49,some 153⟩,⟨Jj bh x56 bi,none⟩] (⟨ao,s.length,ap,31,1,Bz Fg a3 s,0⟩::a3) (World.putObj ib ((ds).heap.size+1) (.loop { cq with state:=.busy })):=dm
      refine NC (PH (CP (by kernel_rfl) (Rk 0 2 [tI 62 x60,(61,.one (.c (.func (.func 95) #[.agg #[.slice d w_.route.legs.length p,.int .i64 w_.route.turn.lo,.int .i64 w_.route.turn.hi,.slice l w_.route.buses.length q,.slice m w_.route.spares.length u,.int .i64 w_.route.unit,.int .i64 w_.route.gap,.int .i64 w_.route.fr,.int .i64 w_.route.to_]] #[]))),tI 13 x60,tI 12 x59,tP 5 2 0] ks dm fun pv ku=>?_)))
      obtain⟨x63,ex63,bm⟩:=Ao bm
      refine wl fun K hK=>?_
      refine Dd (.func (.func 95) #[.agg #[.slice d w_.route.legs.length p,.int .i64 w_.route.turn.lo,.int .i64 w_.route.turn.hi,.slice l w_.route.buses.length q,.slice m w_.route.spares.length u,.int .i64 w_.route.unit,.int .i64 w_.route.gap,.int .i64 w_.route.fr,.int .i64 w_.route.to_]] #[]) [.c (.int .i64 x60)] _ ku dm rfl rfl (by decide) (by rfl) (by rfl) rfl ((show UT d3 (.func (.func 95) #[.agg #[.slice d w_.route.legs.length p,.int .i64 w_.route.turn.lo,.int .i64 w_.route.turn.hi,.slice l w_.route.buses.length q,.slice m w_.route.spares.length u,.int .i64 w_.route.unit,.int .i64 w_.route.gap,.int .i64 w_.route.fr,.int .i64 w_.route.to_]] #[]) (fun(y0:Int)=>A4 cp w_.route y0) from fun h2 w2 hle hh y0 r H=>⟨95,_,_,rfl,fun _ _=>by kernel_rfl,EV cp hh w_.route (Rep.mono hle ((Ab (Ae bd) (Ab (Ab Ac Ac) (Ab (Ae be) (Ab (Ae bf) (Ab Ac (Ab Ac (Ab Ac Ac))))))):rep d3 w_.route _)) y0 H⟩) _ _ (Ad.le_refl _) dm.has x60 _ ex63) fun qe cg qt i3 dj co=>?_
      replace b4:=b4.mono dj
      obtain rfl:=i3
      refine⟨.one (.c (.bool x63)),rfl,fun h7 (kv:Kn 95 (Jk y z aa ab aq ar x_v21 ax ay az) [tB 63 x63,tI 62 x60,(61,.one (.c (.func (.func 95) #[.agg #[.slice d w_.route.legs.length p,.int .i64 w_.route.turn.lo,.int .i64 w_.route.turn.hi,.slice l w_.route.buses.length q,.slice m w_.route.spares.length u,.int .i64 w_.route.unit,.int .i64 w_.route.gap,.int .i64 w_.route.fr,.int .i64 w_.route.to_]] #[]))),tI 13 x60,tI 12 x59,tP 5 2 0] h7)=>hK _ _ ?_⟩
      have gx:Kn 95 (Jk y z aa ab aq ar x_v21 ax ay az) [tB 63 x63,tI 13 x60,tI 12 x59,tP 5 2 0] h7:=kv.kp
      refine wf (RD (x63) gx (by kernel_rfl) (fun ew=>?_) (fun ew=>?_))
      ·
       rw [ew,XW] at bm
       refine IY (by kernel_rfl) (by kernel_rfl) ?_
       replace co:=co.drew
       refine Am [] (Jk y z aa ab aq ar x_v21 ax ay az) [⟨C8 d w_ p l q m u ac ai ad aj ae ak,some 115⟩,⟨D5 af t_ al ag am ah an,some 76⟩,⟨[.slice ao s.length ap],some 73⟩,⟨Fm d w_ p l q m u,some 121⟩,⟨DM x49,none⟩,⟨DM x49,some 153⟩,⟨Jj bh x56 bi,none⟩] ?_
       refine Dr [0,1,2,3] (dn 3) [tI 67 x59,tS 66 ao s.length ap,tI 65 x59,tS 64 ao s.length ap,tI 13 x60] gx co fun pw kw=>?_
       obtain⟨x68,ex68,bm⟩:=Ao bm
       obtain⟨ho,hu,h0⟩:=Ai ex68
       have l5:=Cy ho hu
       obtain⟨b1,dg⟩:=CO co (i:=0) rfl (b0:=0+(x59:Int).toNat*1) (JC C3 (by decide) b4.len l5)
       have fc:=co.addPlc (b:=b1) (o:=0+(x59:Int).toNat*1) (cs:=[]) (fun j c hj=>by simp at hj) rfl (by kernel_rfl) (by kernel_rfl)
       obtain⟨bz,b2,dr,gs,ji⟩:=b4.get h0
       have d7:∀ (e:Be) k c,([.slice bz x68.length b2]:List SC)[k]? = some c→((Bz Fg a3 s))[0+(x59:Int).toNat*1+k]? = some (c.den e):=fun e k c hk=>ED C3 gs h0 k _ (Aj hk)
       refine A2 4 (x59) [.slice bz x68.length b2] (fun _ _ _ _ _ h=>h) rfl rfl (rfl) rfl (by decide) (by kernel_rfl) (by kernel_rfl) kw co.plOk (by rfl) (by rfl) (by rfl) dg (by rfl) ho hu (by kernel_rfl) fun n0 (kx:Kn 95 (So y z aa ab aq ar x_v21 ax ay az b1 x59) [tP 68 7 0,tI 67 x59,tS 66 ao s.length ap,tI 65 x59,tS 64 ao s.length ap,tI 13 x60] n0)=>?_
       refine GC [5,6] [6,5,4,3,2,1,0] [70,69,65,64] [tI 70 x60,tS 69 bz x68.length b2,tI 65 x59,tS 64 ao s.length ap] (fun _ _ _ _ _ h=>h) kx (A6.peek fc.plOk fc 0 7 rfl rfl dg [.slice bz x68.length b2] (d7 _)) (by kernel_rfl) (by rfl) (by kernel_rfl) fun px ky=>?_
       refine Dl 7 fun K hK=>?_
       refine wS 3 1 [.int .i64 x60] ky fc fun ck n2 oe (kz:Kn 95 (So y z aa ab aq ar x_v21 ax ay az b1 x59) [tS 71 ck 1 1,tI 70 x60,tS 69 bz x68.length b2,tI 65 x59,tS 64 ao s.length ap] n2) mo=>?_
       have ee:Ah dt cg (So y z aa ab aq ar x_v21 ax ay az b1 x59) [⟨C8 d w_ p l q m u ac ai ad aj ae ak,some 115⟩,⟨D5 af t_ al ag am ah an,some 76⟩,⟨[.slice ao s.length ap],some 73⟩,⟨Fm d w_ p l q m u,some 121⟩,⟨DM x49,none⟩,⟨DM x49,some 153⟩,⟨Jj bh x56 bi,none⟩,⟨[],none⟩] (⟨ao,s.length,ap,31,1,Bz Fg a3 s,0⟩::⟨ck,1,1,3,1,([.int .i64 x60]:List Value),0⟩::a3) oe:=Ah.famIn [⟨ao,s.length,ap,31,1,Bz Fg a3 s,0⟩] mo
       have ey:Ag cg ([x60]:List Int) ([.int .i64 x60]:List Value):=⟨_,_,rfl,(Ac:rep cg (x60:Int) _),rfl⟩
       refine hK _ _ (A6.peek ee.plOk ee 0 7 rfl rfl dg [.slice bz x68.length b2] (d7 _)) ?_
       obtain⟨x72,ex72,bm⟩:=Ao bm
       obtain⟨fn,l6⟩:=AV ex72
       refine Dl 8 fun K hK=>?_
       refine AA (r:=⟨bz,x68.length,b2,3,1,dr,0⟩) ((x59:Int).toNat+2) 8 1 _ (x72.length) _ ([.int .i64 x60]:List Value) kz ee rfl rfl (by decide) (by exact gs) (by rfl) (by kernel_rfl) (by rfl) (by rfl) (Ag.len ey) (ee.rowCell (i:=1) rfl) ey.one (by rw [fn]; simp <;> omega) (by rw [fn]; exact l6) (by decide) fun cl cm iz n3 qv jq (k0:Kn 95 (So y z aa ab aq ar x_v21 ax ay az b1 x59) [tS 72 cl x72.length cm,tS 71 ck 1 1,tI 70 x60,tS 69 bz x68.length b2,tI 65 x59,tS 64 ao s.length ap] n3) c8=>?_
       have jj:Ag cg x72 (dr++([.int .i64 x60]:List Value)):=by rw [fn]; exact Ag.append ji ey
       obtain rfl:iz=0:=Nat.le_zero.1 jq
       refine hK _ _ (A6.peek c8.plOk c8 0 7 rfl rfl dg [.slice bz x68.length b2] (d7 _)) ?_
       obtain⟨x73,ex73,bm⟩:=Ao bm
       obtain⟨hp,hv,fp⟩:=Ai ex73
       have ea:=Cy hp hv
       obtain⟨cy,gm⟩:=CO c8 (i:=0) rfl (b0:=0+(x59:Int).toNat*1) (JC C3 (by decide) b4.len ea)
       have mp:=c8.addPlc (b:=cy) (o:=0+(x59:Int).toNat*1) (cs:=[]) (fun j c hj=>by simp at hj) rfl (by kernel_rfl) (by kernel_rfl)
       obtain⟨f9,gd,qi,gu,ow⟩:=b4.get fp
       have ox:∀ (e:Be) k c,([.slice f9 x73.length gd]:List SC)[k]? = some c→((Bz Fg a3 s))[0+(x59:Int).toNat*1+k]? = some (c.den e):=fun e k c hk=>ED C3 gu fp k _ (Aj hk)
       refine A2 9 (x59) [.slice f9 x73.length gd] (fun _ _ _ _ _ h=>h) rfl rfl (rfl) rfl (by decide) (by kernel_rfl) (by kernel_rfl) k0 (A6.peek c8.plOk c8 0 7 rfl rfl dg [.slice bz x68.length b2] (d7 _)) (by rfl) (by rfl) (by rfl) gm (by rfl) hp hv (by kernel_rfl) fun fz (k2:Kn 95 [(y,0),(z,0),(aa,0),(ab,0),(aq,ar+(x_v21:Int).toNat*3),(ax,0),(ay,az+(x_v21:Int).toNat*2),(b1,0+(x59:Int).toNat*1),(cy,0+(x59:Int).toNat*1)] [tP 73 8 0,tS 72 cl x72.length cm,tS 71 ck 1 1,tI 70 x60,tS 69 bz x68.length b2,tI 65 x59,tS 64 ao s.length ap] fz)=>?_
       obtain⟨bk,iv,bm⟩:=Ao bm
       obtain⟨pa,pd,ej⟩:=DK iv
       refine Cx 10 rfl (by kernel_rfl) (by decide) (rfl) (by kernel_rfl) fun K hK=>?_
       refine Ej 0 8 0 (0+(x59:Int).toNat*1) (.c (.slice cl x72.length cm)) k2 mp rfl rfl (by rfl) (by rfl) rfl rfl gm rfl (by kernel_rfl) (NI C3 b4.len ea (Nat.le_of_ble_eq_true rfl)) fun ic k3 mq=>?_
       have ni:((Bz Fg a3 s).take (0+(x59:Int).toNat*1+0)++([.slice cl x72.length cm]:List Value)++(Bz Fg a3 s).drop (0+(x59:Int).toNat*1+0+1))=(Bz Fg (List.set a3 (x59:Int).toNat ⟨cl,x72.length,cm,3,1,dr++([.int .i64 x60]:List Value),0⟩) bk):=by rw [ej]; exact Lb (r':=⟨cl,x72.length,cm,3,1,dr++([.int .i64 x60]:List Value),0⟩) C3 gu fp rfl (Nat.le_of_ble_eq_true rfl)
       have fj:s.length=bk.length:=by rw [ej]; simp
       obtain⟨de,gp,mr⟩:∃ f,EN Sk 3 1 cg f bk∧Ah dt cg [(y,0),(z,0),(aa,0),(ab,0),(aq,ar+(x_v21:Int).toNat*3),(ax,0),(ay,az+(x_v21:Int).toNat*2),(b1,0+(x59:Int).toNat*1),(cy,0+(x59:Int).toNat*1)] [⟨[.slice d w_.route.legs.length p,.int .i64 w_.route.turn.lo,.int .i64 w_.route.turn.hi,.slice l w_.route.buses.length q,.slice m w_.route.spares.length u,.int .i64 w_.route.unit,.int .i64 w_.route.gap,.int .i64 w_.route.fr,.int .i64 w_.route.to_,.slice ac w_.acts.holds.length ai,.slice ad w_.acts.turns.length aj,.slice ae w_.acts.spares.length ak],some 115⟩,⟨[.slice af t_.tm.length al,.slice ag t_.turns.length am,.slice ah t_.legs.length an],some 76⟩,⟨[.slice ao s.length ap],some 73⟩,⟨[.func (.func 95) #[.agg #[.slice d w_.route.legs.length p,.int .i64 w_.route.turn.lo,.int .i64 w_.route.turn.hi,.slice l w_.route.buses.length q,.slice m w_.route.spares.length u,.int .i64 w_.route.unit,.int .i64 w_.route.gap,.int .i64 w_.route.fr,.int .i64 w_.route.to_]] #[]],some 121⟩,⟨[.int .i64 x49.stop,.int .i64 x49.tm,.int .i64 x49.turned],none⟩,⟨[.int .i64 x49.stop,.int .i64 x49.tm,.int .i64 x49.turned],some 153⟩,⟨[.slice bh x56.legs.length bi,.int .i64 x56.turn],none⟩,⟨[],none⟩,⟨[],none⟩] (⟨ao,s.length,ap,31,1,Bz Fg f bk,0⟩::⟨ck,1,1,3,1,([.int .i64 x60]:List Value),0⟩::f) ic:=⟨List.set a3 (x59:Int).toNat ⟨cl,x72.length,cm,3,1,dr++([.int .i64 x60]:List Value),0⟩,(by rw [ej]; exact b4.set ⟨rfl,rfl,rfl,rfl,jj⟩),by rw [← ni]; exact mq⟩
       have k4:Kn 95 [(y,0),(z,0),(aa,0),(ab,0),(aq,ar+(x_v21:Int).toNat*3),(ax,0),(ay,az+(x_v21:Int).toNat*2),(b1,0+(x59:Int).toNat*1),(cy,0+(x59:Int).toNat*1)] [(73,.one (.c (.ptr 8 0))),(72,.one (.c (.slice cl x72.length cm))),(71,.one (.c (.slice ck 1 1))),(70,.one (.c (.int .i64 x60))),(69,.one (.c (.slice bz x68.length b2))),(65,.one (.c (.int .i64 x59))),(64,.one (.c (.slice ao bk.length ap)))] fz:=by rw [← fj]; exact k3
       have g8:Ah dt cg [(y,0),(z,0),(aa,0),(ab,0),(aq,ar+(x_v21:Int).toNat*3),(ax,0),(ay,az+(x_v21:Int).toNat*2),(b1,0+(x59:Int).toNat*1),(cy,0+(x59:Int).toNat*1)] [⟨[.slice d w_.route.legs.length p,.int .i64 w_.route.turn.lo,.int .i64 w_.route.turn.hi,.slice l w_.route.buses.length q,.slice m w_.route.spares.length u,.int .i64 w_.route.unit,.int .i64 w_.route.gap,.int .i64 w_.route.fr,.int .i64 w_.route.to_,.slice ac w_.acts.holds.length ai,.slice ad w_.acts.turns.length aj,.slice ae w_.acts.spares.length ak],some 115⟩,⟨[.slice af t_.tm.length al,.slice ag t_.turns.length am,.slice ah t_.legs.length an],some 76⟩,⟨[.slice ao bk.length ap],some 73⟩,⟨[.func (.func 95) #[.agg #[.slice d w_.route.legs.length p,.int .i64 w_.route.turn.lo,.int .i64 w_.route.turn.hi,.slice l w_.route.buses.length q,.slice m w_.route.spares.length u,.int .i64 w_.route.unit,.int .i64 w_.route.gap,.int .i64 w_.route.fr,.int .i64 w_.route.to_]] #[]],some 121⟩,⟨[.int .i64 x49.stop,.int .i64 x49.tm,.int .i64 x49.turned],none⟩,⟨[.int .i64 x49.stop,.int .i64 x49.tm,.int .i64 x49.turned],some 153⟩,⟨[.slice bh x56.legs.length bi,.int .i64 x56.turn],none⟩,⟨[],none⟩,⟨[],none⟩] (⟨ao,bk.length,ap,31,1,Bz Fg de bk,0⟩::⟨ck,1,1,3,1,([.int .i64 x60]:List Value),0⟩::de) ic:=by rw [← fj]; exact mr
       have o5:(x59:Int).toNat<bk.length:=by rw [← fj]; exact ea
       have h1:bk[(x59:Int).toNat]? = some x72:=by rw [ej]; exact List.getElem?_set_self ea
       obtain⟨io,iq,qj,jv,oy⟩:=gp.get h1
       have oz:∀ (e:Be) k c,([.slice io x72.length iq]:List SC)[k]? = some c→((Bz Fg de bk))[0+(x59:Int).toNat*1+k]? = some (c.den e):=fun e k c hk=>ED C3 jv h1 k _ (Aj hk)
       refine hK _ _ ?_
       have o3:Kn 95 [(y,0),(z,0),(aa,0),(ab,0),(aq,ar+(x_v21:Int).toNat*3),(ax,0),(ay,az+(x_v21:Int).toNat*2),(b1,0+(x59:Int).toNat*1),(cy,0+(x59:Int).toNat*1)] [] fz:=k4.kp
       refine EH (by kernel_rfl) ?_
       obtain rfl:=XZ bm
       refine⟨g8.ext ec.loop,?_⟩
       rw [fm.eq]
       obtain⟨ik,mf,op,ms⟩:=Ah.loopStep g8 ec cq
       exact⟨rfl,cg,dj,ik,ao,ap,de,mf,(Ah.famCut [⟨ao,bk.length,ap,31,1,Bz Fg de bk,0⟩] [⟨ck,1,1,3,1,([.int .i64 x60]:List Value),0⟩] (ms)).cutPl 7 (by kernel_rfl),gp,XU di dj⟩
      ·
       rw [ew,XV] at bm
       refine Um ?_
       obtain rfl:=XZ bm
       refine⟨co.ext ec.loop,?_⟩
       rw [fm.eq]
       obtain⟨il,mg,oq,mt⟩:=Ah.loopStep co ec cq
       exact⟨rfl,cg,dj,il,ao,ap,a3,mg,mt,b4,XU di dj⟩
     ·
      intro og i5
      obtain⟨i7,_,jy⟩:=i5
      obtain⟨oi,en,eo,ep,g2,g9,jr,mc⟩:=jy
      refine⟨g9.ext g2.loop,?_⟩
      obtain⟨f7,g3,os,eg⟩:=Ah.loopStep g9 g2 { cq with state:=.exhausted }
      replace eg:Ah f7 i7 (Jk y z aa ab aq ar x_v21 ax ay az) [⟨C8 d w_ p l q m u ac ai ad aj ae ak,some 115⟩,⟨D5 af t_ al ag am ah an,some 76⟩,⟨[.slice en el.length eo],some 73⟩,⟨Fm d w_ p l q m u,some 121⟩,⟨DM x49,none⟩,⟨DM x49,some 153⟩,⟨Jj bh x56 bi,none⟩] (⟨en,el.length,eo,31,1,Bz Fg ep el,0⟩::ep) (World.putObj og ((ds).heap.size+1) (.loop { cq with state:=.exhausted })):=eg
      refine Aa (Rk 0 2 ((tI 46 (IntKind.i64.wrap (x_v21+1)))::(EO x41 a5 a6 a1 a2)) e5 eg fun p0 k7=>?_)
      refine wf ?_
      exact XY cp ⟨Nat.lt_succ_self _,XY el ⟨IntKind.i64.wrap (x_v21+1),en,eo,ep,f7,((ds).heap.size::c0),_,_,rfl,(k7.keep [46,45,44,9,6,5,2] (by rfl)).cut 4 (by kernel_rfl),eg.cutPl 4 (by kernel_rfl),XU bp (XU bn mc),jr,g3.of,g3.marks,bj⟩⟩
    ·
     rw [ev,XV] at bj
     refine wp_exit ?_
     obtain rfl:=XZ bj
     exact XY cx ⟨c2,c3,dc,c0,_,_,rfl,e4.kp,ed,bp,d8,hg,hf⟩
  ·
   rintro _ qw ⟨du,dz,dd,bl,c1,fx,c4,rfl,k8,ha,ci,jp,m5,m3⟩
   replace bd:=bd.mono ci
   replace be:=be.mono ci
   replace bf:=bf.mono ci
   replace bq:=bq.mono ci
   replace br:=br.mono ci
   replace bt:=bt.mono ci
   replace bu:=bu.mono ci
   replace bv:=bv.mono ci
   replace bw:=bw.mono ci
   refine XT (XT (Aa (Rk 0 3 [tI 77 0,tI 76 ((aw.length:Nat):Int),tP 5 2 0] k8 ha fun p1 k9=>?_)))
   refine wf ?_
   obtain⟨bg,gi,H⟩:=Ao H
   refine Aw (fun a' w'=>∃ (b7:Option Addr)(b8:Nat)(cn:List C0)(f0:Array Value)(d5:Ad),a' = ⟨f0,List.map KR c1⟩∧Kn 95 (Fk y z aa ab) [tP 5 2 0] f0∧Ah bl d5 (Fk y z aa ab) [⟨C8 d w_ p l q m u ac ai ad aj ae ak,some 115⟩,⟨D5 af t_ al ag am ah an,some 76⟩,⟨[.slice b7 bg.length b8],some 73⟩,⟨Fm d w_ p l q m u,some 121⟩] (⟨b7,bg.length,b8,31,1,Bz Fg cn bg,0⟩::cn) w'∧Ad.le c4 d5∧EN Sk 3 1 d5 cn bg) ?_ ?_
   ·
    refine wp_block ?_
    refine Au (fun nr a' w'=>∃ (x_v30:List (List Int))(x_v31:Int)(au:Option Addr)(av:Nat)(b9:List C0)(f1:Array Value)(bo:Ad),a' = ⟨f1,List.map KR c1⟩∧Kn 95 (Fk y z aa ab) (FE x_v31 aw) f1∧Ah bl bo (Fk y z aa ab) [⟨C8 d w_ p l q m u ac ai ad aj ae ak,some 115⟩,⟨D5 af t_ al ag am ah an,some 76⟩,⟨[.slice au x_v30.length av],some 73⟩,⟨Fm d w_ p l q m u,some 121⟩] (⟨au,x_v30.length,av,31,1,Bz Fg b9 x_v30,0⟩::b9) w'∧Ad.le c4 bo∧EN Sk 3 1 bo b9 x_v30∧Bo nr aw x_v30 x_v31=some bg) n ?_ ?_
    ·
     exact XY aw ⟨0,du,dz,dd,_,_,rfl,k9.kp,ha,Ad.le_refl _,jp,gi⟩
    ·
     rintro fv _ qy ⟨x_v30,x_v31,au,av,b9,f1,bo,rfl,la,c9,g1,d9,a4⟩
     clear gi
     obtain _ | fv:=fv
     ·
      rw [Bo] at a4; cases a4
     rw [Bo] at a4
     refine XT (Aa (Rk 0 1 ((tB 78 (decide (x_v31<((aw.length:Nat):Int))))::(FE x_v31 aw)) la c9 fun p2 e6=>?_))
     refine wf (XT (wC (decide (x_v31<((aw.length:Nat):Int))) e6 (fun ex=>?_) (fun ex=>?_)))
     ·
      rw [ex,XW] at a4
      refine wp_skip (XT (wp_block (XT (Aa (Rk 0 2 ((tI 14 x_v31)::(FE x_v31 aw)) e6 c9 fun p3 lb=>?_)))))
      refine wf (XT (Aa (Rk 0 2 ((tI 81 x_v31)::(tS 80 au x_v30.length av)::(tI 14 x_v31)::(FE x_v31 aw)) lb c9 fun p4 lc=>?_)))
      obtain⟨x82,ex82,a4⟩:=Ao a4
      obtain⟨hq,hw,fq⟩:=Ai ex82
      have l7:=Cy hq hw
      obtain⟨bb,gn⟩:=CO c9 (i:=0) rfl (b0:=0+(x_v31:Int).toNat*1) (JC C3 (by decide) d9.len l7)
      have fd:=c9.addPlc (b:=bb) (o:=0+(x_v31:Int).toNat*1) (cs:=[]) (fun j c hj=>by simp at hj) rfl (by kernel_rfl) (by kernel_rfl)
      obtain⟨cd,cf,ob,e2,jk⟩:=d9.get fq
      have jl:∀ (e:Be) k c,([.slice cd x82.length cf]:List SC)[k]? = some c→((Bz Fg b9 x_v30))[0+(x_v31:Int).toNat*1+k]? = some (c.den e):=fun e k c hk=>ED C3 e2 fq k _ (Aj hk)
      refine Bb 2 (x_v31) rfl rfl (rfl) rfl (by decide) lc (by rfl) (by rfl) (by rfl) gn (by rfl) hq hw (by kernel_rfl) fun n4 (ld:Kn 95 (QU y z aa ab bb x_v31) ((tP 82 4 0)::(tI 81 x_v31)::(tS 80 au x_v30.length av)::(tI 14 x_v31)::(FE x_v31 aw)) n4)=>?_
      refine Kf 3 1 [83,14,77,76,5] ((tS 83 cd x82.length cf)::(tI 14 x_v31)::(FE x_v31 aw)) ld (A6.peek fd.plOk fd 0 4 rfl rfl gn [.slice cd x82.length cf] (jl _)) (by kernel_rfl) fun p5 lf=>?_
      obtain⟨oa,iw,a4⟩:=Ao a4
      obtain⟨a0,ix,a4⟩:=Ao a4
      obtain⟨l8,nn⟩:=RI iw
      obtain⟨_,_,fs⟩:=DK ix
      refine wl fun K hK=>?_
      refine Ur (r:=⟨cd,x82.length,cf,3,1,ob,0⟩) Try.sorts ((x_v31:Int).toNat+1) lf fd rfl rfl (by decide) (by rfl) (fun _ _=>by kernel_rfl) (by exact e2) rfl rfl rfl jk l8 fun h8 f6 (lg:Kn 95 (QU y z aa ab bb x_v31) ((84,.tup [])::(tS 83 cd x82.length cf)::(tI 14 x_v31)::(FE x_v31 aw)) h8) (mv:Ah bl bo (QU y z aa ab bb x_v31) [⟨C8 d w_ p l q m u ac ai ad aj ae ak,some 115⟩,⟨D5 af t_ al ag am ah an,some 76⟩,⟨[.slice au x_v30.length av],some 73⟩,⟨Fm d w_ p l q m u,some 121⟩,⟨[],none⟩] (⟨au,x_v30.length,av,31,1,Bz Fg b9 x_v30,0⟩::(List.set b9 (x_v31:Int).toNat ⟨cd,x82.length,cf,3,1,List.map (Value.int .i64) (DL x82),0⟩)) f6)=>?_
      have nj:(Bz Fg b9 x_v30)=(Bz Fg (List.set b9 (x_v31:Int).toNat ⟨cd,x82.length,cf,3,1,List.map (Value.int .i64) (DL x82),0⟩) a0):=by rw [fs]; exact(Pb (g:=Fg) (r':=⟨cd,x82.length,cf,3,1,List.map (Value.int .i64) (DL x82),0⟩) (x':=oa) e2 fq rfl).symm
      have m4:x_v30.length=a0.length:=by rw [fs]; simp
      obtain⟨cb,c6,mw⟩:∃ f,EN Sk 3 1 bo f a0∧Ah bl bo [(y,0),(z,0),(aa,0),(ab,0),(bb,0+(x_v31:Int).toNat*1)] [⟨[.slice d w_.route.legs.length p,.int .i64 w_.route.turn.lo,.int .i64 w_.route.turn.hi,.slice l w_.route.buses.length q,.slice m w_.route.spares.length u,.int .i64 w_.route.unit,.int .i64 w_.route.gap,.int .i64 w_.route.fr,.int .i64 w_.route.to_,.slice ac w_.acts.holds.length ai,.slice ad w_.acts.turns.length aj,.slice ae w_.acts.spares.length ak],some 115⟩,⟨[.slice af t_.tm.length al,.slice ag t_.turns.length am,.slice ah t_.legs.length an],some 76⟩,⟨[.slice au x_v30.length av],some 73⟩,⟨[.func (.func 95) #[.agg #[.slice d w_.route.legs.length p,.int .i64 w_.route.turn.lo,.int .i64 w_.route.turn.hi,.slice l w_.route.buses.length q,.slice m w_.route.spares.length u,.int .i64 w_.route.unit,.int .i64 w_.route.gap,.int .i64 w_.route.fr,.int .i64 w_.route.to_]] #[]],some 121⟩,⟨[],none⟩] (⟨au,x_v30.length,av,31,1,Bz Fg f a0,0⟩::f) f6:=⟨List.set b9 (x_v31:Int).toNat ⟨cd,x82.length,cf,3,1,List.map (Value.int .i64) (DL x82),0⟩,(by rw [fs,nn]; exact d9.set ⟨rfl,rfl,rfl,(JB _).symm,HS _ _⟩),by rw [← nj]; exact mv⟩
      have li:=lg
      have da:Ah bl bo [(y,0),(z,0),(aa,0),(ab,0),(bb,0+(x_v31:Int).toNat*1)] [⟨[.slice d w_.route.legs.length p,.int .i64 w_.route.turn.lo,.int .i64 w_.route.turn.hi,.slice l w_.route.buses.length q,.slice m w_.route.spares.length u,.int .i64 w_.route.unit,.int .i64 w_.route.gap,.int .i64 w_.route.fr,.int .i64 w_.route.to_,.slice ac w_.acts.holds.length ai,.slice ad w_.acts.turns.length aj,.slice ae w_.acts.spares.length ak],some 115⟩,⟨[.slice af t_.tm.length al,.slice ag t_.turns.length am,.slice ah t_.legs.length an],some 76⟩,⟨[.slice au a0.length av],some 73⟩,⟨[.func (.func 95) #[.agg #[.slice d w_.route.legs.length p,.int .i64 w_.route.turn.lo,.int .i64 w_.route.turn.hi,.slice l w_.route.buses.length q,.slice m w_.route.spares.length u,.int .i64 w_.route.unit,.int .i64 w_.route.gap,.int .i64 w_.route.fr,.int .i64 w_.route.to_]] #[]],some 121⟩,⟨[],none⟩] (⟨au,a0.length,av,31,1,Bz Fg cb a0,0⟩::cb) f6:=by rw [← m4]; exact mw
      refine hK _ _ ?_
      have lj:Kn 95 (QU y z aa ab bb x_v31) ((tI 14 x_v31)::(FE x_v31 aw)) h8:=li.kp
      refine wf (Al (by kernel_rfl) ?_)
      replace da:=da.drew
      refine Am [] (QU y z aa ab bb x_v31) [⟨C8 d w_ p l q m u ac ai ad aj ae ak,some 115⟩,⟨D5 af t_ al ag am ah an,some 76⟩,⟨[.slice au a0.length av],some 73⟩,⟨Fm d w_ p l q m u,some 121⟩,⟨[],none⟩] ?_
      refine Dr [0,1,2,3] (dn 3) ((tI 88 x_v31)::(tS 87 au a0.length av)::(tI 86 x_v31)::(tS 85 au a0.length av)::(FE x_v31 aw)) lj da fun p6 lk=>?_
      obtain⟨x89,ex89,a4⟩:=Ao a4
      obtain⟨hr,hx,h3⟩:=Ai ex89
      have l9:=Cy hr hx
      obtain⟨ce,d6⟩:=CO da (i:=0) rfl (b0:=0+(x_v31:Int).toNat*1) (JC C3 (by decide) c6.len l9)
      have fe:=da.addPlc (b:=ce) (o:=0+(x_v31:Int).toNat*1) (cs:=[]) (fun j c hj=>by simp at hj) rfl (by kernel_rfl) (by kernel_rfl)
      obtain⟨a7,a9,oc,gv,jm⟩:=c6.get h3
      have ez:∀ (e:Be) k c,([.slice a7 x89.length a9]:List SC)[k]? = some c→((Bz Fg cb a0))[0+(x_v31:Int).toNat*1+k]? = some (c.den e):=fun e k c hk=>ED C3 gv h3 k _ (Aj hk)
      refine A2 4 (x_v31) [.slice a7 x89.length a9] (fun _ _ _ _ _ h=>h) rfl rfl (rfl) rfl (by decide) (by kernel_rfl) (by kernel_rfl) lk da.plOk (by rfl) (by rfl) (by rfl) d6 (by rfl) hr hx (by kernel_rfl) fun n6 (ll:Kn 95 [(y,0),(z,0),(aa,0),(ab,0),(bb,0+(x_v31:Int).toNat*1),(ce,0+(x_v31:Int).toNat*1)] ((tP 89 5 0)::(tI 88 x_v31)::(tS 87 au a0.length av)::(tI 86 x_v31)::(tS 85 au a0.length av)::(FE x_v31 aw)) n6)=>?_
      refine GC [5] [5,4,3,2,1,0] [90,86,85,77,76,5] ((tS 90 a7 x89.length a9)::(tI 86 x_v31)::(tS 85 au a0.length av)::(FE x_v31 aw)) (fun _ _ _ _ _ h=>h) ll (A6.peek fe.plOk fe 0 5 rfl rfl d6 [.slice a7 x89.length a9] (ez _)) (by kernel_rfl) (by rfl) (by kernel_rfl) fun p7 lm=>?_
      obtain⟨x91,ex91,a4⟩:=Ao a4
      obtain⟨ma,np⟩:=RJ ex91
      refine Dl 6 fun K hK=>?_
      refine RK (r:=⟨a7,x89.length,a9,3,1,oc,0⟩) Try.compacts ((x_v31:Int).toNat+1) lm fe rfl rfl (by decide) (by rfl) (fun _ _=>by kernel_rfl) (by exact gv) rfl rfl rfl jm ma fun n7 oh (gy:Kn 95 [(y,0),(z,0),(aa,0),(ab,0),(bb,0+(x_v31:Int).toNat*1),(ce,0+(x_v31:Int).toNat*1)] [(91,.one (.c (.slice a7 ((Lib.compact x89).length) a9))),(90,.one (.c (.slice a7 x89.length a9))),(86,.one (.c (.int .i64 x_v31))),(85,.one (.c (.slice au a0.length av))),(77,.one (.c (.int .i64 x_v31))),(76,.one (.c (.int .i64 ((aw.length:Nat):Int)))),(5,.one (.c (.ptr 2 0)))] n7) (cw:Ah bl bo [(y,0),(z,0),(aa,0),(ab,0),(bb,0+(x_v31:Int).toNat*1),(ce,0+(x_v31:Int).toNat*1)] [⟨[.slice d w_.route.legs.length p,.int .i64 w_.route.turn.lo,.int .i64 w_.route.turn.hi,.slice l w_.route.buses.length q,.slice m w_.route.spares.length u,.int .i64 w_.route.unit,.int .i64 w_.route.gap,.int .i64 w_.route.fr,.int .i64 w_.route.to_,.slice ac w_.acts.holds.length ai,.slice ad w_.acts.turns.length aj,.slice ae w_.acts.spares.length ak],some 115⟩,⟨[.slice af t_.tm.length al,.slice ag t_.turns.length am,.slice ah t_.legs.length an],some 76⟩,⟨[.slice au a0.length av],some 73⟩,⟨[.func (.func 95) #[.agg #[.slice d w_.route.legs.length p,.int .i64 w_.route.turn.lo,.int .i64 w_.route.turn.hi,.slice l w_.route.buses.length q,.slice m w_.route.spares.length u,.int .i64 w_.route.unit,.int .i64 w_.route.gap,.int .i64 w_.route.fr,.int .i64 w_.route.to_]] #[]],some 121⟩,⟨[],none⟩,⟨[],none⟩] (⟨au,a0.length,av,31,1,Bz Fg cb a0,0⟩::(List.set cb (x_v31:Int).toNat ⟨a7,(Lib.compact x89).length,a9,3,1,List.map (Value.int .i64) (Lib.compact x89),0⟩)) oh)=>?_
      rw [← np] at gy cw
      have jn:Ag bo x91 (List.map (Value.int .i64) x91):=HS _ _
      refine hK _ _ (A6.peek cw.plOk cw 0 5 rfl rfl d6 [.slice a7 x89.length a9] (ez _)) ?_
      obtain⟨x92,ex92,a4⟩:=Ao a4
      obtain⟨hs,hy,ft⟩:=Ai ex92
      have eb:=Cy hs hy
      obtain⟨cz,et⟩:=CO cw (i:=0) rfl (b0:=0+(x_v31:Int).toNat*1) (JC C3 (by decide) c6.len eb)
      have mx:=cw.addPlc (b:=cz) (o:=0+(x_v31:Int).toNat*1) (cs:=[]) (fun j c hj=>by simp at hj) rfl (by kernel_rfl) (by kernel_rfl)
      obtain⟨ga,gf,qk,gw,o0⟩:=c6.get ft
      have o1:∀ (e:Be) k c,([.slice ga x92.length gf]:List SC)[k]? = some c→((Bz Fg cb a0))[0+(x_v31:Int).toNat*1+k]? = some (c.den e):=fun e k c hk=>ED C3 gw ft k _ (Aj hk)
      refine A2 7 (x_v31) [.slice ga x92.length gf] (fun _ _ _ _ _ h=>h) rfl rfl (rfl) rfl (by decide) (by kernel_rfl) (by kernel_rfl) gy (A6.peek cw.plOk cw 0 5 rfl rfl d6 [.slice a7 x89.length a9] (ez _)) (by rfl) (by rfl) (by rfl) et (by rfl) hs hy (by kernel_rfl) fun f2 (ln:Kn 95 [(y,0),(z,0),(aa,0),(ab,0),(bb,0+(x_v31:Int).toNat*1),(ce,0+(x_v31:Int).toNat*1),(cz,0+(x_v31:Int).toNat*1)] ((tP 92 6 0)::(tS 91 a7 x91.length a9)::(tS 90 a7 x89.length a9)::(tI 86 x_v31)::(tS 85 au a0.length av)::(FE x_v31 aw)) f2)=>?_
      obtain⟨b6,iy,a4⟩:=Ao a4
      obtain⟨pb,pe,ek⟩:=DK iy
      refine Cx 8 rfl (by kernel_rfl) (by decide) (rfl) (by kernel_rfl) fun K hK=>?_
      refine Ej 0 6 0 (0+(x_v31:Int).toNat*1) (.c (.slice a7 x91.length a9)) ln mx rfl rfl (by rfl) (by rfl) rfl rfl et rfl (by kernel_rfl) (NI C3 c6.len eb (Nat.le_of_ble_eq_true rfl)) fun ie lp my=>?_
      have nk:((Bz Fg cb a0).take (0+(x_v31:Int).toNat*1+0)++([.slice a7 x91.length a9]:List Value)++(Bz Fg cb a0).drop (0+(x_v31:Int).toNat*1+0+1))=(Bz Fg (List.set cb (x_v31:Int).toNat ⟨a7,x91.length,a9,3,1,List.map (Value.int .i64) x91,0⟩) b6):=by rw [ek]; exact Lb (r':=⟨a7,x91.length,a9,3,1,List.map (Value.int .i64) x91,0⟩) C3 gw ft rfl (Nat.le_of_ble_eq_true rfl)
      have fk:a0.length=b6.length:=by rw [ek]; simp
      obtain⟨d2,gq,mz⟩:∃ f,EN Sk 3 1 bo f b6∧Ah bl bo [(y,0),(z,0),(aa,0),(ab,0),(bb,0+(x_v31:Int).toNat*1),(ce,0+(x_v31:Int).toNat*1),(cz,0+(x_v31:Int).toNat*1)] [⟨[.slice d w_.route.legs.length p,.int .i64 w_.route.turn.lo,.int .i64 w_.route.turn.hi,.slice l w_.route.buses.length q,.slice m w_.route.spares.length u,.int .i64 w_.route.unit,.int .i64 w_.route.gap,.int .i64 w_.route.fr,.int .i64 w_.route.to_,.slice ac w_.acts.holds.length ai,.slice ad w_.acts.turns.length aj,.slice ae w_.acts.spares.length ak],some 115⟩,⟨[.slice af t_.tm.length al,.slice ag t_.turns.length am,.slice ah t_.legs.length an],some 76⟩,⟨[.slice au a0.length av],some 73⟩,⟨[.func (.func 95) #[.agg #[.slice d w_.route.legs.length p,.int .i64 w_.route.turn.lo,.int .i64 w_.route.turn.hi,.slice l w_.route.buses.length q,.slice m w_.route.spares.length u,.int .i64 w_.route.unit,.int .i64 w_.route.gap,.int .i64 w_.route.fr,.int .i64 w_.route.to_]] #[]],some 121⟩,⟨[],none⟩,⟨[],none⟩,⟨[],none⟩] (⟨au,a0.length,av,31,1,Bz Fg f b6,0⟩::f) ie:=⟨List.set cb (x_v31:Int).toNat ⟨a7,x91.length,a9,3,1,List.map (Value.int .i64) x91,0⟩,(by rw [ek]; exact c6.set ⟨rfl,rfl,rfl,rfl,jn⟩),by rw [← nk]; exact my⟩
      have lq:Kn 95 [(y,0),(z,0),(aa,0),(ab,0),(bb,0+(x_v31:Int).toNat*1),(ce,0+(x_v31:Int).toNat*1),(cz,0+(x_v31:Int).toNat*1)] [(92,.one (.c (.ptr 6 0))),(91,.one (.c (.slice a7 x91.length a9))),(90,.one (.c (.slice a7 x89.length a9))),(86,.one (.c (.int .i64 x_v31))),(85,.one (.c (.slice au b6.length av))),(77,.one (.c (.int .i64 x_v31))),(76,.one (.c (.int .i64 ((aw.length:Nat):Int)))),(5,.one (.c (.ptr 2 0)))] f2:=by rw [← fk]; exact lp
      have ff:Ah bl bo [(y,0),(z,0),(aa,0),(ab,0),(bb,0+(x_v31:Int).toNat*1),(ce,0+(x_v31:Int).toNat*1),(cz,0+(x_v31:Int).toNat*1)] [⟨[.slice d w_.route.legs.length p,.int .i64 w_.route.turn.lo,.int .i64 w_.route.turn.hi,.slice l w_.route.buses.length q,.slice m w_.route.spares.length u,.int .i64 w_.route.unit,.int .i64 w_.route.gap,.int .i64 w_.route.fr,.int .i64 w_.route.to_,.slice ac w_.acts.holds.length ai,.slice ad w_.acts.turns.length aj,.slice ae w_.acts.spares.length ak],some 115⟩,⟨[.slice af t_.tm.length al,.slice ag t_.turns.length am,.slice ah t_.legs.length an],some 76⟩,⟨[.slice au b6.length av],some 73⟩,⟨[.func (.func 95) #[.agg #[.slice d w_.route.legs.length p,.int .i64 w_.route.turn.lo,.int .i64 w_.route.turn.hi,.slice l w_.route.buses.length q,.slice m w_.route.spares.length u,.int .i64 w_.route.unit,.int .i64 w_.route.gap,.int .i64 w_.route.fr,.int .i64 w_.route.to_]] #[]],some 121⟩,⟨[],none⟩,⟨[],none⟩,⟨[],none⟩] (⟨au,b6.length,av,31,1,Bz Fg d2 b6,0⟩::d2) ie:=by rw [← fk]; exact mz
      have o6:(x_v31:Int).toNat<b6.length:=by rw [← fk]; exact eb
      have h5:b6[(x_v31:Int).toNat]? = some x91:=by rw [ek]; exact List.getElem?_set_self eb
      obtain⟨gb,gg,ql,jw,o2⟩:=gq.get h5
      have jo:∀ (e:Be) k c,([.slice gb x91.length gg]:List SC)[k]? = some c→((Bz Fg d2 b6))[0+(x_v31:Int).toNat*1+k]? = some (c.den e):=fun e k c hk=>ED C3 jw h5 k _ (Aj hk)
      refine hK _ _ ?_
      have lr:Kn 95 [(y,0),(z,0),(aa,0),(ab,0),(bb,0+(x_v31:Int).toNat*1),(ce,0+(x_v31:Int).toNat*1),(cz,0+(x_v31:Int).toNat*1)] (FE x_v31 aw) f2:=lq.kp
      refine EH (by kernel_rfl) (Aa (Kf 0 2 [77,76,5] [tI 77 (IntKind.i64.wrap (x_v31+1)),tI 76 ((aw.length:Nat):Int),tP 5 2 0] lr (A6.peek ff.plOk ff 0 6 rfl rfl et [.slice gb x91.length gg] (jo _)) (by kernel_rfl) fun p8 ls=>?_))
      refine wf ?_
      exact XY fv ⟨Nat.lt_succ_self _,XY b6 ⟨IntKind.i64.wrap (x_v31+1),au,av,d2,_,_,rfl,(ls.keep [77,76,5] (by rfl)).cut 4 (by kernel_rfl),ff.cutPl 4 (by kernel_rfl),g1,gq,a4⟩⟩
     ·
      rw [ex,XV] at a4
      refine wp_exit ?_
      obtain rfl:=XZ a4
      exact XY au ⟨av,b9,_,_,rfl,e6.kp,c9,g1,d9⟩
   ·
    rintro _ ig ⟨b7,b8,cn,f0,d5,rfl,lu,hc,o7,js⟩
    refine XT (Aa (Rk 0 2 [tS 4 b7 bg.length b8] lu hc fun p9 lv=>?_))
    refine wf (wp_ret ?_)
    obtain⟨i8,o8,eh,e0⟩:=EN.settleAll [⟨b7,bg.length,b8,31,1,Bz Fg cn bg,0⟩] js Us hc
    replace eh:Ah bl i8 (Fk y z aa ab) [⟨C8 d w_ p l q m u ac ai ad aj ae ak,some 115⟩,⟨D5 af t_ al ag am ah an,some 76⟩,⟨[.slice b7 bg.length b8],some 73⟩,⟨Fm d w_ p l q m u,some 121⟩] [⟨b7,bg.length,b8,31,1,Bz Fg cn bg,0⟩] ig:=eh
    obtain⟨gl,md,nd,fg⟩:=eh.settle (i:=0) rfl
    replace e0:=e0.mono md
    replace fg:Ah bl gl (Fk y z aa ab) [⟨C8 d w_ p l q m u ac ai ad aj ae ak,some 115⟩,⟨D5 af t_ al ag am ah an,some 76⟩,⟨[.slice b7 bg.length b8],some 73⟩,⟨Fm d w_ p l q m u,some 121⟩] [⟨b7,bg.length,b8,31,1,Bz Fg cn bg,((Bz Fg cn bg):List Value).length⟩] ig:=fg
    have nc:A0 gl b7 b8 bg:=⟨_,e0,nd,eh.rowCap (i:=0) rfl⟩
    obtain rfl:=XZ H
    exact QE (bs:=c1) (.one (.c (.slice b7 bg.length b8))) lv fg m3 m5 (by kernel_rfl) ⟨_,_,rfl,nc⟩
abbrev Jl (q:Option Addr) (t_:Av) (x:Nat) (s:Option Addr) (y:Nat) (u:Option Addr) (z:Nat):List SC:=[.slice q t_.tm.length x,.slice s t_.turns.length y,.slice u t_.legs.length z]
abbrev Mv (j:Option Addr) (a:As) (m:Nat) (k:Option Addr) (o:Nat) (l:Option Addr) (p:Nat):List SC:=[.slice j a.holds.length m,.slice k a.turns.length o,.slice l a.spares.length p]
abbrev Jm (b:Option Addr) (r_:Af) (f:Nat) (d:Option Addr) (g:Nat) (e:Option Addr) (i:Nat):List SC:=[.slice b r_.legs.length f,.int .i64 r_.turn.lo,.int .i64 r_.turn.hi,.slice d r_.buses.length g,.slice e r_.spares.length i,.int .i64 r_.unit,.int .i64 r_.gap,.int .i64 r_.fr,.int .i64 r_.to_]
abbrev TD (b:Option Addr) (r_:Af) (f:Nat) (d:Option Addr) (g:Nat) (e:Option Addr) (i:Nat) (j:Option Addr) (a:As) (m:Nat) (k:Option Addr) (o:Nat) (l:Option Addr) (p:Nat):List SC:=[.slice b r_.legs.length f,.int .i64 r_.turn.lo,.int .i64 r_.turn.hi,.slice d r_.buses.length g,.slice e r_.spares.length i,.int .i64 r_.unit,.int .i64 r_.gap,.int .i64 r_.fr,.int .i64 r_.to_,.slice j a.holds.length m,.slice k a.turns.length o,.slice l a.spares.length p]
set_option maxRecDepth 100000 in
set_option maxHeartbeats 4000000 in
theorem H8 (n:Nat) {h:Ad} {w:World} (hh:Dk h w) (r_:Af) {cs_r_:List Value} (hx_r_:rep h r_ cs_r_) (a:As) {cs_a:List Value} (hx_a:rep h a cs_a) (t_:Av) {cs_t_:List Value} (hx_t_:rep h t_ cs_t_) {r:(List (List Int))×Int} (H:Dj n r_ a t_=some r) :
  Calls Try.prog 42 #[.agg cs_r_.toArray,.agg cs_a.toArray,.agg cs_t_.toArray] w (Dq (fun h v=>∃ v0 v1,v=.tuple #[v0,v1]∧(∃ a c,v0=.slice a r.1.length c∧A0 h a c r.1)∧(v1=.int .i64 r.2)) h w):=by
 obtain⟨_,_,rfl,⟨b,f,rfl,ad⟩,⟨_,_,rfl,⟨_,_,rfl,rfl,rfl⟩,⟨_,_,rfl,⟨d,g,rfl,ae⟩,⟨_,_,rfl,⟨e,i,rfl,af⟩,⟨_,_,rfl,rfl,⟨_,_,rfl,rfl,⟨_,_,rfl,rfl,rfl⟩⟩⟩⟩⟩⟩⟩:=hx_r_
 obtain⟨_,_,rfl,⟨j,m,rfl,ai⟩,⟨_,_,rfl,⟨k,o,rfl,aj⟩,⟨l,p,rfl,ak⟩⟩⟩:=hx_a
 obtain⟨_,_,rfl,⟨q,x,rfl,al⟩,⟨_,_,rfl,⟨s,y,rfl,am⟩,⟨u,z,rfl,an⟩⟩⟩:=hx_t_
 refine enter 24 [.agg (Jm b r_ f d g e i),.agg (Mv j a m k o l p),.agg (Jl q t_ x s y u z)] Try.func42 rfl rfl rfl rfl fun t hk=>?_
 have hm:=Ah.begin h w hh
 unfold Dj at H
 refine XT (Aa (wl fun K hK=>?_))
 refine wb (.agg (Jm b r_ f d g e i)) hk hm fun ag bm b8 (a5:Kn 24 [(ag,0)] [tP 3 0 0,tA 0 (Jm b r_ f d g e i),tA 1 (Mv j a m k o l p),tA 2 (Jl q t_ x s y u z)] bm) bj=>hK _ _ ?_
 refine wl fun K hK=>?_
 refine wb (.agg (Mv j a m k o l p)) a5 bj fun ao bn b9 (a6:Kn 24 [(ag,0),(ao,0)] [tP 4 1 0,tP 3 0 0,tA 0 (Jm b r_ f d g e i),tA 1 (Mv j a m k o l p),tA 2 (Jl q t_ x s y u z)] bn) bk=>hK _ _ ?_
 refine wl fun K hK=>?_
 refine wb (.agg (Jl q t_ x s y u z)) a6 bk fun aq bo ca (a7:Kn 24 [(ag,0),(ao,0),(aq,0)] [tP 5 2 0,tP 4 1 0,tP 3 0 0,tA 0 (Jm b r_ f d g e i),tA 1 (Mv j a m k o l p),tA 2 (Jl q t_ x s y u z)] bo) au=>hK _ _ ?_
 refine Rk 3 2 [tP 5 2 0,tP 4 1 0,tP 3 0 0] a7 au fun bu a8=>?_
 refine wf (XT (XT (Aa (Rk 0 2 [tA 10 (Mv j a m k o l p),tA 9 (Jm b r_ f d g e i),tP 5 2 0,tP 4 1 0,tP 3 0 0] a8 au fun bv a9=>?_))))
 obtain⟨x11,ex11,H⟩:=Ao H
 refine wl fun K hK=>?_
 refine wc [.agg (Jm b r_ f d g e i),.agg (Mv j a m k o l p)] a9 au (Fx n au.has r_ ((Ab (Ae ad) (Ab (Ab Ac Ac) (Ab (Ae ae) (Ab (Ae af) (Ab Ac (Ab Ac (Ab Ac Ac))))))):rep h r_ _) a ((Ab (Ae ai) (Ab (Ae aj) (Ae ak))):rep h a _) ex11) fun b5 az cb a2 aa ac=>?_
 replace ad:=ad.mono aa
 replace ae:=ae.mono aa
 replace af:=af.mono aa
 replace ai:=ai.mono aa
 replace aj:=aj.mono aa
 replace ak:=ak.mono aa
 replace al:=al.mono aa
 replace am:=am.mono aa
 replace an:=an.mono aa
 obtain rfl:=a2
 refine⟨.one (.c (.int .i64 x11)),rfl,fun bp (ba:Kn 24 [(ag,0),(ao,0),(aq,0)] [tI 11 x11,tA 10 (Mv j a m k o l p),tA 9 (Jm b r_ f d g e i),tP 5 2 0,tP 4 1 0,tP 3 0 0] bp)=>hK _ _ ?_⟩
 refine Rk 3 1 [tI 8 x11,tP 5 2 0,tP 4 1 0,tP 3 0 0] ba ac fun bw bb=>?_
 refine wf (XT (Aa (Rk 0 2 [tB 13 (x11 != 0),tI 8 x11,tP 5 2 0,tP 4 1 0,tP 3 0 0] bb ac fun bx ax=>?_)))
 refine wf (wC ((x11 != 0)) ax (fun av=>?_) (fun av=>?_))
 ·
  rw [av,XW] at H
  refine XT (Aa (Rk 0 3 [tI 7 x11,tS 6 none 0 0] ax ac fun bz bc=>?_))
  refine wf (wp_ret ?_)
  obtain rfl:=XZ H
  exact rt (.tup [.c (.slice none 0 0),.c (.int .i64 x11)]) bc ac ⟨_,_,rfl,⟨_,_,rfl,A0.nil⟩,rfl⟩
 ·
  rw [av,XV] at H
  refine wp_skip (XT (XT (Aa (Rk 0 2 [tA 16 (Jl q t_ x s y u z),tA 15 (Jm b r_ f d g e i),tP 5 2 0,tP 4 1 0,tP 3 0 0] ax ac fun b0 bd=>?_))))
  obtain⟨x17,ex17,H⟩:=Ao H
  refine wl fun K hK=>?_
  refine wc [.agg (Jm b r_ f d g e i),.agg (Jl q t_ x s y u z)] bd ac (HV n ac.has r_ ((Ab (Ae ad) (Ab (Ab Ac Ac) (Ab (Ae ae) (Ab (Ae af) (Ab Ac (Ab Ac (Ab Ac Ac))))))):rep az r_ _) t_ ((Ab (Ae al) (Ab (Ae am) (Ae an))):rep az t_ _) ex17) fun b6 a0 cc a3 ab ah=>?_
  replace ad:=ad.mono ab
  replace ae:=ae.mono ab
  replace af:=af.mono ab
  replace ai:=ai.mono ab
  replace aj:=aj.mono ab
  replace ak:=ak.mono ab
  replace al:=al.mono ab
  replace am:=am.mono ab
  replace an:=an.mono ab
  obtain rfl:=a3
  refine⟨.one (.c (.bool x17)),rfl,fun bq (be:Kn 24 [(ag,0),(ao,0),(aq,0)] [tB 17 x17,tA 16 (Jl q t_ x s y u z),tA 15 (Jm b r_ f d g e i),tP 5 2 0,tP 4 1 0,tP 3 0 0] bq)=>hK _ _ ?_⟩
  refine Rk 3 1 [tB 18 (!x17),tP 5 2 0,tP 4 1 0,tP 3 0 0] be ah fun b1 ay=>?_
  refine wf (wC ((!x17)) ay (fun aw=>?_) (fun aw=>?_))
  ·
   rw [aw,XW] at H
   refine XT (Aa (Rk 0 2 [tI 7 2,tS 6 none 0 0] ay ah fun b2 bf=>?_))
   refine wf (wp_ret ?_)
   obtain rfl:=XZ H
   exact rt (.tup [.c (.slice none 0 0),.c (.int .i64 2)]) bf ah ⟨_,_,rfl,⟨_,_,rfl,A0.nil⟩,rfl⟩
  ·
   rw [aw,XV] at H
   refine wp_skip (XT (Aa (Rk 0 4 [tA 22 (Jl q t_ x s y u z),tA 21 (TD b r_ f d g e i j a m k o l p)] ay ah fun b3 bg=>?_)))
   obtain⟨x23,ex23,H⟩:=Ao H
   refine wl fun K hK=>?_
   refine wc [.agg (TD b r_ f d g e i j a m k o l p),.agg (Jl q t_ x s y u z)] bg ah (H7 n ah.has (AL.mk r_ a) ((Ab (Ab (Ae ad) (Ab (Ab Ac Ac) (Ab (Ae ae) (Ab (Ae af) (Ab Ac (Ab Ac (Ab Ac Ac))))))) (Ab (Ae ai) (Ab (Ae aj) (Ae ak)))):rep a0 (AL.mk r_ a) _) t_ ((Ab (Ae al) (Ab (Ae am) (Ae an))):rep a0 t_ _) ex23) fun b7 bs cd a4 bt a1=>?_
   obtain⟨ap,ar,rfl,bl⟩:=a4
   refine⟨.one (.c (.slice ap x23.length ar)),rfl,fun br (bh:Kn 24 [(ag,0),(ao,0),(aq,0)] [tS 23 ap x23.length ar,tA 22 (Jl q t_ x s y u z),tA 21 (TD b r_ f d g e i j a m k o l p)] br)=>hK _ _ ?_⟩
   refine Rk 5 2 [tI 7 0,tS 6 ap x23.length ar] bh a1 fun b4 bi=>?_
   refine wf (wp_ret ?_)
   obtain rfl:=XZ H
   exact rt (.tup [.c (.slice ap x23.length ar),.c (.int .i64 0)]) bi a1 ⟨_,_,rfl,⟨_,_,rfl,bl⟩,rfl⟩
end Go.Proofs.Ytokchpjijlebiaa
