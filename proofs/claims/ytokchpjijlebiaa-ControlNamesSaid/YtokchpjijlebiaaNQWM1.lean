/- Each call computes its plain function. -/
import Derived.Test.YtokchpjijlebiaaProg
import Derived.Test.YtokchpjijlebiaaNQP0
import Derived.Test.YtokchpjijlebiaaNQS6
import Derived.Test.YtokchpjijlebiaaNQS8
import Derived.Test.YtokchpjijlebiaaNQWP
import Derived.Test.YtokchpjijlebiaaNQWQ
import Derived.Test.YtokchpjijlebiaaNQWR
import Derived.Test.YtokchpjijlebiaaNQWU
set_option linter.all false
namespace Go.Proofs.Ytokchpjijlebiaa
open Go Go.RowKit
open Rep (rep)
open KRep (kv)
open VRep (rv)
abbrev E3 (y z aa ab:Nat):AG:=[(y,0),(z,0),(aa,0),(ab,0)]
abbrev Hn (bh:Option Addr) (x56:A9) (bi:Nat):List SC:=[.slice bh x56.legs.length bi,.int .i64 x56.turn]
abbrev D0 (x49:Bm):List SC:=[.int .i64 x49.stop,.int .i64 x49.tm,.int .i64 x49.turned]
abbrev MR (y z aa ab bb:Nat) (x_v31:Int):AG:=[(y,0),(z,0),(aa,0),(ab,0),(bb,0+(x_v31:Int).toNat*1)]
abbrev Dm (af:Option Addr) (t_:AB) (al:Nat) (ag:Option Addr) (am:Nat) (ah:Option Addr) (an:Nat):List SC:=[.slice af t_.tm.length al,.slice ag t_.turns.length am,.slice ah t_.legs.length an]
abbrev Ho (y z aa ab aq ar:Nat) (x_v21:Int) (ax ay az:Nat):AG:=[(y,0),(z,0),(aa,0),(ab,0),(aq,ar+(x_v21:Int).toNat*3),(ax,0),(ay,az+(x_v21:Int).toNat*2)]
abbrev NM (y z aa ab aq ar:Nat) (x_v21:Int) (ax ay az b1:Nat) (x59:Int):AG:=[(y,0),(z,0),(aa,0),(ab,0),(aq,ar+(x_v21:Int).toNat*3),(ax,0),(ay,az+(x_v21:Int).toNat*2),(b1,0+(x59:Int).toNat*1)]
abbrev GD (d:Option Addr) (w_:AC) (p:Nat) (l:Option Addr) (q:Nat) (m:Option Addr) (u:Nat):List SC:=[.slice d w_.route.legs.length p,.int .i64 w_.route.turn.lo,.int .i64 w_.route.turn.hi,.slice l w_.route.buses.length q,.slice m w_.route.spares.length u,.int .i64 w_.route.unit,.int .i64 w_.route.gap,.int .i64 w_.route.fr,.int .i64 w_.route.to_]
abbrev E4 (d:Option Addr) (w_:AC) (p:Nat) (l:Option Addr) (q:Nat) (m:Option Addr) (u:Nat):List SC:=[.func (.func 95) #[.agg #[.slice d w_.route.legs.length p,.int .i64 w_.route.turn.lo,.int .i64 w_.route.turn.hi,.slice l w_.route.buses.length q,.slice m w_.route.spares.length u,.int .i64 w_.route.unit,.int .i64 w_.route.gap,.int .i64 w_.route.fr,.int .i64 w_.route.to_]] #[]]
abbrev Cn (d:Option Addr) (w_:AC) (p:Nat) (l:Option Addr) (q:Nat) (m:Option Addr) (u:Nat) (ac:Option Addr) (ai:Nat) (ad:Option Addr) (aj:Nat) (ae:Option Addr) (ak:Nat):List SC:=[.slice d w_.route.legs.length p,.int .i64 w_.route.turn.lo,.int .i64 w_.route.turn.hi,.slice l w_.route.buses.length q,.slice m w_.route.spares.length u,.int .i64 w_.route.unit,.int .i64 w_.route.gap,.int .i64 w_.route.fr,.int .i64 w_.route.to_,.slice ac w_.acts.holds.length ai,.slice ad w_.acts.turns.length aj,.slice ae w_.acts.spares.length ak]
abbrev Ej (x41:(List Bm)×(List A9)) (a5:Option Addr) (a6:Nat) (a1:Option Addr) (a2:Nat):TM:=[tI 45 ((x41.1.length:Nat):Int),tS 44 a5 x41.1.length a6,tS 9 a1 x41.2.length a2,tP 6 3 0,tP 5 2 0,tP 2 0 0]
abbrev EO (x_v31:Int) (aw:List (List Int)):TM:=[tI 77 x_v31,tI 76 ((aw.length:Nat):Int),tP 5 2 0]
abbrev Gy (x18:List (List Int)):TM:=[tI 23 ((x18.length:Nat):Int),tP 6 3 0,tP 5 2 0,tP 3 1 0,tP 2 0 0]
set_option maxRecDepth 100000 in
set_option maxHeartbeats 4000000 in
theorem Ge (n:Nat) {h:Ad} {w:World} (hh:Dv h w) (w_:AC) {cs_w_:List Value} (hx_w_:rep h w_ cs_w_) (t_:AB) {cs_t_:List Value} (hx_t_:rep h t_ cs_t_) {r:List (List Int)} (H:Cl n w_ t_=some r) :
  Calls Try.prog 73 #[.agg cs_w_.toArray,.agg cs_t_.toArray] w (D6 (fun h v=>∃ a c,v=.slice a r.length c∧Ar h a c r) h w):=by
 obtain⟨_,_,rfl,⟨_,_,rfl,⟨d,p,rfl,bd⟩,⟨_,_,rfl,⟨_,_,rfl,rfl,rfl⟩,⟨_,_,rfl,⟨l,q,rfl,be⟩,⟨_,_,rfl,⟨m,u,rfl,bf⟩,⟨_,_,rfl,rfl,⟨_,_,rfl,rfl,⟨_,_,rfl,rfl,rfl⟩⟩⟩⟩⟩⟩⟩,⟨_,_,rfl,⟨ac,ai,rfl,bq⟩,⟨_,_,rfl,⟨ad,aj,rfl,br⟩,⟨ae,ak,rfl,bt⟩⟩⟩⟩:=hx_w_
 obtain⟨_,_,rfl,⟨af,al,rfl,bu⟩,⟨_,_,rfl,⟨ag,am,rfl,bv⟩,⟨ah,an,rfl,bw⟩⟩⟩:=hx_t_
 refine NG (e:=[]) 95 [.agg (Cn d w_ p l q m u ac ai ad aj ae ak),.agg (Dm af t_ al ag am ah an)] Try.func73 rfl rfl rfl rfl fun t hk=>?_
 have hm:=Ah.begin h w hh
 unfold Cl at H
 refine QT (Ab (wl fun K hK=>?_))
 refine wb (.agg (Cn d w_ p l q m u ac ai ad aj ae ak)) hk hm fun y nz qs (kt:Kn 95 [(y,0)] [tP 2 0 0,tA 0 (Cn d w_ p l q m u ac ai ad aj ae ak),tA 1 (Dm af t_ al ag am ah an)] nz) mn=>hK _ _ ?_
 refine wl fun K hK=>?_
 refine wb (.agg (Dm af t_ al ag am ah an)) kt mn fun z n1 qu (k1:Kn 95 [(y,0),(z,0)] [tP 3 1 0,tP 2 0 0,tA 0 (Cn d w_ p l q m u ac ai ad aj ae ak),tA 1 (Dm af t_ al ag am ah an)] n1) ef=>hK _ _ ?_
 refine Rk 2 1 [tP 3 1 0,tP 2 0 0] k1 ef fun py k5=>?_
 refine wf (QT (Ab (Rk 0 2 [tA 16 (GD d w_ p l q m u),tP 3 1 0,tP 2 0 0] k5 ef fun pz k6=>?_)))
 obtain⟨x17,ex17,H⟩:=A3 H
 refine wl fun K hK=>?_
 refine wc [.agg (GD d w_ p l q m u)] k6 ef (BJ n ef.has w_.route ((Aa (Ae bd) (Aa (Aa Ac Ac) (Aa (Ae be) (Aa (Ae bf) (Aa Ac (Aa Ac (Aa Ac Ac))))))):rep h w_.route _) ex17) fun qf d4 qx i4 cj mu=>?_
 replace bd:=bd.mono cj
 replace be:=be.mono cj
 replace bf:=bf.mono cj
 replace bq:=bq.mono cj
 replace br:=br.mono cj
 replace bt:=bt.mono cj
 replace bu:=bu.mono cj
 replace bv:=bv.mono cj
 replace bw:=bw.mono cj
 obtain rfl:=i4
 refine⟨.one (.c (.int .i64 x17)),rfl,fun n5 (lh:Kn 95 [(y,0),(z,0)] [tI 17 x17,tA 16 (GD d w_ p l q m u),tP 3 1 0,tP 2 0 0] n5)=>hK _ _ ?_⟩
 obtain⟨x18,ex18,H⟩:=A3 H
 obtain⟨m8,nb,h4⟩:=LO ex18
 refine wl fun K hK=>?_
 refine Gs 31 1 24 [.slice none 0 0] (x17) lh mu rfl rfl (by decide) (by rfl) (by kernel_rfl) (by kernel_rfl) (by rfl) m8 nb (by decide) fun cr n8 ih (gz:Kn 95 [(y,0),(z,0)] [(18,.one (.c (.slice cr ((x17:Int).toNat) ((x17:Int).toNat)))),(17,.one (.c (.int .i64 x17))),(16,.one (.agg [.slice d w_.route.legs.length p,.int .i64 w_.route.turn.lo,.int .i64 w_.route.turn.hi,.slice l w_.route.buses.length q,.slice m w_.route.spares.length u,.int .i64 w_.route.unit,.int .i64 w_.route.gap,.int .i64 w_.route.fr,.int .i64 w_.route.to_])),(3,.one (.c (.ptr 1 0))),(2,.one (.c (.ptr 0 0)))] n8) (m0:Ah ⟨w,h,Az⟩ d4 [(y,0),(z,0)] [⟨[.slice d w_.route.legs.length p,.int .i64 w_.route.turn.lo,.int .i64 w_.route.turn.hi,.slice l w_.route.buses.length q,.slice m w_.route.spares.length u,.int .i64 w_.route.unit,.int .i64 w_.route.gap,.int .i64 w_.route.fr,.int .i64 w_.route.to_,.slice ac w_.acts.holds.length ai,.slice ad w_.acts.turns.length aj,.slice ae w_.acts.spares.length ak],some 115⟩,⟨[.slice af t_.tm.length al,.slice ag t_.turns.length am,.slice ah t_.legs.length an],some 76⟩] [⟨cr,(x17:Int).toNat,(x17:Int).toNat,31,1,List.flatten (List.replicate (x17:Int).toNat ([.slice none 0 0]:List Value)),0⟩] ih)=>?_
 have mb:(x17:Int).toNat=x18.length:=by rw [h4]; simp
 obtain⟨er,jt,fh⟩:=Ei.make (g:=E2) (pr:=NI) (rw:=[]) (x:=(([]:List Int):List Int)) 3 1 rfl rfl h4 m0
 rw [mb] at gz
 replace fh:Ah ⟨w,h,Az⟩ d4 [(y,0),(z,0)] [⟨Cn d w_ p l q m u ac ai ad aj ae ak,some 115⟩,⟨Dm af t_ al ag am ah an,some 76⟩] (⟨cr,x18.length,x18.length,31,1,Ba E2 er x18,0⟩::er) ih:=fh
 refine hK _ _ ?_
 refine wl fun K hK=>?_
 refine wa [.slice none 0 0] gz fh fun aa h9 qz (lw:Kn 95 [(y,0),(z,0),(aa,0)] [tP 5 2 0,tS 18 cr x18.length x18.length,tI 17 x17,tA 16 (GD d w_ p l q m u),tP 3 1 0,tP 2 0 0] h9) m1=>hK _ _ ?_
 refine wl fun K hK=>?_
 refine Ea 2 0 (.c (.slice cr x18.length x18.length)) [.slice cr x18.length x18.length] lw m1 fun q0 lx hd=>hK _ _ ?_
 have ly:Kn 95 [(y,0),(z,0),(aa,0)] [tP 5 2 0,tP 3 1 0,tP 2 0 0] h9:=lx.kp
 refine wf (QT (Ab (Rk 0 2 [tA 20 (GD d w_ p l q m u),tP 5 2 0,tP 3 1 0,tP 2 0 0] ly hd fun qa lz=>?_)))
 refine Fw 2 #[.agg #[.slice d w_.route.legs.length p,.int .i64 w_.route.turn.lo,.int .i64 w_.route.turn.hi,.slice l w_.route.buses.length q,.slice m w_.route.spares.length u,.int .i64 w_.route.unit,.int .i64 w_.route.gap,.int .i64 w_.route.fr,.int .i64 w_.route.to_]] #[] lz rfl rfl (rfl) rfl (by decide) (by rfl) (by rfl) (by rfl) (by rfl) fun n9 (l0:Kn 95 [(y,0),(z,0),(aa,0)] [(21,.one (.c (.func (.func 95) #[.agg #[.slice d w_.route.legs.length p,.int .i64 w_.route.turn.lo,.int .i64 w_.route.turn.hi,.slice l w_.route.buses.length q,.slice m w_.route.spares.length u,.int .i64 w_.route.unit,.int .i64 w_.route.gap,.int .i64 w_.route.fr,.int .i64 w_.route.to_]] #[]))),tA 20 (GD d w_ p l q m u),tP 5 2 0,tP 3 1 0,tP 2 0 0] n9)=>?_
 refine wl fun K hK=>?_
 refine wa [.nilfunc] l0 hd fun ab ia q1 (l1:Kn 95 (E3 y z aa ab) [tP 6 3 0,(21,.one (.c (.func (.func 95) #[.agg #[.slice d w_.route.legs.length p,.int .i64 w_.route.turn.lo,.int .i64 w_.route.turn.hi,.slice l w_.route.buses.length q,.slice m w_.route.spares.length u,.int .i64 w_.route.unit,.int .i64 w_.route.gap,.int .i64 w_.route.fr,.int .i64 w_.route.to_]] #[]))),tA 20 (GD d w_ p l q m u),tP 5 2 0,tP 3 1 0,tP 2 0 0] ia) m2=>hK _ _ ?_
 refine wl fun K hK=>?_
 refine Ea 3 0 (.c (.func (.func 95) #[.agg #[.slice d w_.route.legs.length p,.int .i64 w_.route.turn.lo,.int .i64 w_.route.turn.hi,.slice l w_.route.buses.length q,.slice m w_.route.spares.length u,.int .i64 w_.route.unit,.int .i64 w_.route.gap,.int .i64 w_.route.fr,.int .i64 w_.route.to_]] #[])) (E4 d w_ p l q m u) l1 m2 fun q2 l2 he=>hK _ _ ?_
 have l3:Kn 95 (E3 y z aa ab) [tP 6 3 0,tP 5 2 0,tP 3 1 0,tP 2 0 0] ia:=l2.kp
 refine wf (QT (QT (Ab (Rk 0 3 ((tI 24 0)::(Gy x18)) l3 he fun qb l4=>?_))))
 refine wf ?_
 obtain⟨db,gj,H⟩:=A3 H
 refine A7 (fun a' w'=>∃ (dv:Option Addr)(d0:Nat)(df:List Cf)(f3:Array Value)(c5:Ad),a' = ⟨f3,List.map I7 ([]:List Nat)⟩∧Kn 95 (E3 y z aa ab) [tP 6 3 0,tP 5 2 0,tP 3 1 0,tP 2 0 0] f3∧Ah ⟨w,h,Az⟩ c5 (E3 y z aa ab) [⟨Cn d w_ p l q m u ac ai ad aj ae ak,some 115⟩,⟨Dm af t_ al ag am ah an,some 76⟩,⟨[.slice dv db.length d0],some 73⟩,⟨E4 d w_ p l q m u,some 121⟩] (⟨dv,db.length,d0,31,1,Ba E2 df db,0⟩::df) w'∧Ad.le d4 c5∧Ei NI 3 1 c5 df db) ?_ ?_
 ·
  refine wp_block ?_
  refine A5 (fun ns a' w'=>∃ (x_v10:List (List Int))(x_v11:Int)(a8:Option Addr)(ba:Nat)(bc:List Cf)(f4:Array Value)(b3:Ad),a' = ⟨f4,List.map I7 ([]:List Nat)⟩∧Kn 95 (E3 y z aa ab) ((tI 24 x_v11)::(Gy x18)) f4∧Ah ⟨w,h,Az⟩ b3 (E3 y z aa ab) [⟨Cn d w_ p l q m u ac ai ad aj ae ak,some 115⟩,⟨Dm af t_ al ag am ah an,some 76⟩,⟨[.slice a8 x_v10.length ba],some 73⟩,⟨E4 d w_ p l q m u,some 121⟩] (⟨a8,x_v10.length,ba,31,1,Ba E2 bc x_v10,0⟩::bc) w'∧Ad.le d4 b3∧Ei NI 3 1 b3 bc x_v10∧B4 ns w_ x18 x_v10 x_v11=some db) n ?_ ?_
  ·
   exact QY x18 ⟨0,cr,x18.length,er,_,_,rfl,l4.kp,he,Ad.le_refl _,jt,gj⟩
  ·
   rintro fu _ qm ⟨x_v10,x_v11,a8,ba,bc,f4,b3,rfl,jz,dk,g0,c7,ca⟩
   clear gj
   obtain _ | fu:=fu
   ·
    rw [B4] at ca; cases ca
   rw [B4] at ca
   refine QT (Ab (Rk 0 1 ((tB 25 (decide (x_v11<((x18.length:Nat):Int))))::(tI 24 x_v11)::(Gy x18)) jz dk fun pg e3=>?_))
   refine wf (QT (wC (decide (x_v11<((x18.length:Nat):Int))) e3 (fun eu=>?_) (fun eu=>?_)))
   ·
    rw [eu,QW] at ca
    refine wp_skip (QT (wp_block (QT (Ab (Rk 0 2 ((tI 7 x_v11)::(tI 24 x_v11)::(Gy x18)) e3 dk fun ph j0=>?_)))))
    refine wf (Ab (Rk 0 8 ((tI 34 w_.route.to_)::(tI 31 w_.route.fr)::(tI 28 x_v11)::(tS 27 a8 x_v10.length ba)::(tI 24 x_v11)::(Gy x18)) j0 dk fun pi j1=>?_))
    refine wl fun K hK=>?_
    refine wS 3 1 [.int .i64 w_.route.fr,.int .i64 w_.route.to_] j1 dk fun bx nt od (j2:Kn 95 (E3 y z aa ab) ((tS 35 bx 2 2)::(tI 34 w_.route.to_)::(tI 31 w_.route.fr)::(tI 28 x_v11)::(tS 27 a8 x_v10.length ba)::(tI 24 x_v11)::(Gy x18)) nt) mh=>?_
    have g4:Ah ⟨w,h,Az⟩ b3 (E3 y z aa ab) [⟨Cn d w_ p l q m u ac ai ad aj ae ak,some 115⟩,⟨Dm af t_ al ag am ah an,some 76⟩,⟨[.slice a8 x_v10.length ba],some 73⟩,⟨E4 d w_ p l q m u,some 121⟩] (⟨a8,x_v10.length,ba,31,1,Ba E2 bc x_v10,0⟩::⟨bx,2,2,3,1,([.int .i64 w_.route.fr,.int .i64 w_.route.to_]:List Value),0⟩::bc) od:=Ah.famIn [⟨a8,x_v10.length,ba,31,1,Ba E2 bc x_v10,0⟩] mh
    have je:Af b3 ([w_.route.fr,w_.route.to_]:List Int) ([.int .i64 w_.route.fr,.int .i64 w_.route.to_]:List Value):=⟨_,_,rfl,(Ac:rep b3 (w_.route.fr:Int) _),⟨_,_,rfl,(Ac:rep b3 (w_.route.to_:Int) _),rfl⟩⟩
    refine hK _ _ ?_
    obtain⟨x36,ex36,ca⟩:=A3 ca
    obtain⟨hl,ht,fo⟩:=Ak ex36
    have dh:=AX hl ht
    obtain⟨ct,es⟩:=Bo g4 (i:=0) rfl (b0:=0+(x_v11:Int).toNat*1) (HC Ce (by decide) c7.len dh)
    have mi:=g4.addPlc (b:=ct) (o:=0+(x_v11:Int).toNat*1) (cs:=[]) (fun j c hj=>by simp at hj) rfl (by kernel_rfl) (by kernel_rfl)
    obtain⟨im,ip,qg,gr,ot⟩:=c7.get fo
    have ou:∀ (e:AG) k c,([.slice im x36.length ip]:List SC)[k]? = some c→((Ba E2 bc x_v10))[0+(x_v11:Int).toNat*1+k]? = some (c.den e):=fun e k c hk=>Eb Ce gr fo k _ (Al hk)
    refine A6 9 (x_v11) rfl rfl (rfl) rfl (by decide) j2 (by rfl) (by rfl) (by rfl) es (by rfl) hl ht (by kernel_rfl) fun fw (j3:Kn 95 [(y,0),(z,0),(aa,0),(ab,0),(ct,0+(x_v11:Int).toNat*1)] ((tP 36 4 0)::(tS 35 bx 2 2)::(tI 34 w_.route.to_)::(tI 31 w_.route.fr)::(tI 28 x_v11)::(tS 27 a8 x_v10.length ba)::(tI 24 x_v11)::(Gy x18)) fw)=>?_
    obtain⟨b5,iu,ca⟩:=A3 ca
    obtain⟨o9,pc,ei⟩:=Cm iu
    refine wl fun K hK=>?_
    refine BO 0 4 0 (0+(x_v11:Int).toNat*1) (.c (.slice bx 2 2)) j3 mi rfl rfl (by rfl) (by rfl) rfl rfl es rfl (by kernel_rfl) (K2 Ce c7.len dh (Nat.le_of_ble_eq_true rfl)) fun f5 j4 mj=>?_
    have nf:((Ba E2 bc x_v10).take (0+(x_v11:Int).toNat*1+0)++([.slice bx 2 2]:List Value)++(Ba E2 bc x_v10).drop (0+(x_v11:Int).toNat*1+0+1))=(Ba E2 (List.set bc (x_v11:Int).toNat ⟨bx,2,2,3,1,([.int .i64 w_.route.fr,.int .i64 w_.route.to_]:List Value),0⟩) b5):=by rw [ei]; exact IH (r':=⟨bx,2,2,3,1,([.int .i64 w_.route.fr,.int .i64 w_.route.to_]:List Value),0⟩) Ce gr fo rfl (Nat.le_of_ble_eq_true rfl)
    have mk:Ah ⟨w,h,Az⟩ b3 [(y,0),(z,0),(aa,0),(ab,0),(ct,0+(x_v11:Int).toNat*1)] [⟨[.slice d w_.route.legs.length p,.int .i64 w_.route.turn.lo,.int .i64 w_.route.turn.hi,.slice l w_.route.buses.length q,.slice m w_.route.spares.length u,.int .i64 w_.route.unit,.int .i64 w_.route.gap,.int .i64 w_.route.fr,.int .i64 w_.route.to_,.slice ac w_.acts.holds.length ai,.slice ad w_.acts.turns.length aj,.slice ae w_.acts.spares.length ak],some 115⟩,⟨[.slice af t_.tm.length al,.slice ag t_.turns.length am,.slice ah t_.legs.length an],some 76⟩,⟨[.slice a8 x_v10.length ba],some 73⟩,⟨[.func (.func 95) #[.agg #[.slice d w_.route.legs.length p,.int .i64 w_.route.turn.lo,.int .i64 w_.route.turn.hi,.slice l w_.route.buses.length q,.slice m w_.route.spares.length u,.int .i64 w_.route.unit,.int .i64 w_.route.gap,.int .i64 w_.route.fr,.int .i64 w_.route.to_]] #[]],some 121⟩,⟨[],none⟩] (⟨a8,x_v10.length,ba,31,1,(Ba E2 bc x_v10).take (0+(x_v11:Int).toNat*1+0)++([.slice bx 2 2]:List Value)++(Ba E2 bc x_v10).drop (0+(x_v11:Int).toNat*1+0+1),0⟩::(List.set bc (x_v11:Int).toNat ⟨bx,2,2,3,1,([.int .i64 w_.route.fr,.int .i64 w_.route.to_]:List Value),0⟩)) f5:=Ah.famPut [⟨a8,x_v10.length,ba,31,1,(Ba E2 bc x_v10).take (0+(x_v11:Int).toNat*1+0)++([.slice bx 2 2]:List Value)++(Ba E2 bc x_v10).drop (0+(x_v11:Int).toNat*1+0+1),0⟩] mj (by rw [c7.len]; exact dh)
    have fi:x_v10.length=b5.length:=by rw [ei]; simp
    obtain⟨d1,go,ml⟩:∃ f,Ei NI 3 1 b3 f b5∧Ah ⟨w,h,Az⟩ b3 [(y,0),(z,0),(aa,0),(ab,0),(ct,0+(x_v11:Int).toNat*1)] [⟨[.slice d w_.route.legs.length p,.int .i64 w_.route.turn.lo,.int .i64 w_.route.turn.hi,.slice l w_.route.buses.length q,.slice m w_.route.spares.length u,.int .i64 w_.route.unit,.int .i64 w_.route.gap,.int .i64 w_.route.fr,.int .i64 w_.route.to_,.slice ac w_.acts.holds.length ai,.slice ad w_.acts.turns.length aj,.slice ae w_.acts.spares.length ak],some 115⟩,⟨[.slice af t_.tm.length al,.slice ag t_.turns.length am,.slice ah t_.legs.length an],some 76⟩,⟨[.slice a8 x_v10.length ba],some 73⟩,⟨[.func (.func 95) #[.agg #[.slice d w_.route.legs.length p,.int .i64 w_.route.turn.lo,.int .i64 w_.route.turn.hi,.slice l w_.route.buses.length q,.slice m w_.route.spares.length u,.int .i64 w_.route.unit,.int .i64 w_.route.gap,.int .i64 w_.route.fr,.int .i64 w_.route.to_]] #[]],some 121⟩,⟨[],none⟩] (⟨a8,x_v10.length,ba,31,1,Ba E2 f b5,0⟩::f) f5:=⟨List.set bc (x_v11:Int).toNat ⟨bx,2,2,3,1,([.int .i64 w_.route.fr,.int .i64 w_.route.to_]:List Value),0⟩,(by rw [ei]; exact c7.set ⟨rfl,rfl,rfl,rfl,je⟩),by rw [← nf]; exact mk⟩
    have j5:Kn 95 [(y,0),(z,0),(aa,0),(ab,0),(ct,0+(x_v11:Int).toNat*1)] [(36,.one (.c (.ptr 4 0))),(35,.one (.c (.slice bx 2 2))),(34,.one (.c (.int .i64 w_.route.to_))),(31,.one (.c (.int .i64 w_.route.fr))),(28,.one (.c (.int .i64 x_v11))),(27,.one (.c (.slice a8 b5.length ba))),(24,.one (.c (.int .i64 x_v11))),(23,.one (.c (.int .i64 ((x18.length:Nat):Int)))),(6,.one (.c (.ptr 3 0))),(5,.one (.c (.ptr 2 0))),(3,.one (.c (.ptr 1 0))),(2,.one (.c (.ptr 0 0)))] fw:=by rw [← fi]; exact j4
    have e8:Ah ⟨w,h,Az⟩ b3 [(y,0),(z,0),(aa,0),(ab,0),(ct,0+(x_v11:Int).toNat*1)] [⟨[.slice d w_.route.legs.length p,.int .i64 w_.route.turn.lo,.int .i64 w_.route.turn.hi,.slice l w_.route.buses.length q,.slice m w_.route.spares.length u,.int .i64 w_.route.unit,.int .i64 w_.route.gap,.int .i64 w_.route.fr,.int .i64 w_.route.to_,.slice ac w_.acts.holds.length ai,.slice ad w_.acts.turns.length aj,.slice ae w_.acts.spares.length ak],some 115⟩,⟨[.slice af t_.tm.length al,.slice ag t_.turns.length am,.slice ah t_.legs.length an],some 76⟩,⟨[.slice a8 b5.length ba],some 73⟩,⟨[.func (.func 95) #[.agg #[.slice d w_.route.legs.length p,.int .i64 w_.route.turn.lo,.int .i64 w_.route.turn.hi,.slice l w_.route.buses.length q,.slice m w_.route.spares.length u,.int .i64 w_.route.unit,.int .i64 w_.route.gap,.int .i64 w_.route.fr,.int .i64 w_.route.to_]] #[]],some 121⟩,⟨[],none⟩] (⟨a8,b5.length,ba,31,1,Ba E2 d1 b5,0⟩::d1) f5:=by rw [← fi]; exact ml
    have o4:(x_v11:Int).toNat<b5.length:=by rw [← fi]; exact dh
    have hz:b5[(x_v11:Int).toNat]? = some ([w_.route.fr,w_.route.to_]:List Int):=by rw [ei]; exact List.getElem?_set_self dh
    obtain⟨f8,gc,qh,ju,ov⟩:=go.get hz
    have jf:∀ (e:AG) k c,([.slice f8 (([w_.route.fr,w_.route.to_]:List Int).length) gc]:List SC)[k]? = some c→((Ba E2 d1 b5))[0+(x_v11:Int).toNat*1+k]? = some (c.den e):=fun e k c hk=>Eb Ce ju hz k _ (Al hk)
    refine hK _ _ ?_
    have j6:Kn 95 [(y,0),(z,0),(aa,0),(ab,0),(ct,0+(x_v11:Int).toNat*1)] ((tI 24 x_v11)::(Gy x18)) fw:=j5.kp
    refine wf (Ab (AA 0 2 [24,23,6,5,3,2] ((tI 24 (IntKind.i64.wrap (x_v11+1)))::(Gy x18)) j6 (Am.peek e8.plOk e8 0 4 rfl rfl es [.slice f8 (([w_.route.fr,w_.route.to_]:List Int).length) gc] (jf _)) (by kernel_rfl) fun pj j7=>?_))
    refine wf ?_
    exact QY fu ⟨Nat.lt_succ_self _,QY b5 ⟨IntKind.i64.wrap (x_v11+1),a8,ba,d1,_,_,rfl,(j7.keep [24,23,6,5,3,2] (by rfl)).cut 4 (by kernel_rfl),e8.cutPl 4 (by kernel_rfl),g0,go,ca⟩⟩
   ·
    rw [eu,QV] at ca
    refine wp_exit ?_
    obtain rfl:=QZ ca
    exact QY a8 ⟨ba,bc,_,_,rfl,e3.kp,dk,g0,c7⟩
 ·
  rintro _ qn ⟨dv,d0,df,f3,c5,rfl,j8,e9,ch,e1⟩
  replace bd:=bd.mono ch
  replace be:=be.mono ch
  replace bf:=bf.mono ch
  replace bq:=bq.mono ch
  replace br:=br.mono ch
  replace bt:=bt.mono ch
  replace bu:=bu.mono ch
  replace bv:=bv.mono ch
  replace bw:=bw.mono ch
  refine QT (Ab (Rk 0 2 [tA 40 (Dm af t_ al ag am ah an),tA 39 (Cn d w_ p l q m u ac ai ad aj ae ak),tP 6 3 0,tP 5 2 0,tP 2 0 0] j8 e9 fun pk j9=>?_))
  obtain⟨x41,ex41,H⟩:=A3 H
  refine wl fun K hK=>?_
  refine wc [.agg (Cn d w_ p l q m u ac ai ad aj ae ak),.agg (Dm af t_ al ag am ah an)] j9 e9 (Df n e9.has w_ ((Aa (Aa (Ae bd) (Aa (Aa Ac Ac) (Aa (Ae be) (Aa (Ae bf) (Aa Ac (Aa Ac (Aa Ac Ac))))))) (Aa (Ae bq) (Aa (Ae br) (Ae bt)))):rep c5 w_ _) t_ ((Aa (Ae bu) (Aa (Ae bv) (Ae bw))):rep c5 t_ _) ex41) fun qc gk qo i1 cc fa=>?_
  replace bd:=bd.mono cc
  replace be:=be.mono cc
  replace bf:=bf.mono cc
  replace bq:=bq.mono cc
  replace br:=br.mono cc
  replace bt:=bt.mono cc
  replace bu:=bu.mono cc
  replace bv:=bv.mono cc
  replace bw:=bw.mono cc
  replace e1:=e1.mono cc
  obtain⟨_,_,rfl,⟨a5,a6,rfl,dp⟩,⟨a1,a2,rfl,dq⟩⟩:=i1
  refine⟨.tup [.c (.slice a5 x41.1.length a6),.c (.slice a1 x41.2.length a2)],rfl,fun nu (ka:Kn 95 (E3 y z aa ab) [(41,.tup [.c (.slice a5 x41.1.length a6),.c (.slice a1 x41.2.length a2)]),tA 40 (Dm af t_ al ag am ah an),tA 39 (Cn d w_ p l q m u ac ai ad aj ae ak),tP 6 3 0,tP 5 2 0,tP 2 0 0] nu)=>hK _ _ ?_⟩
  refine Rk 3 5 [tS 9 a1 x41.2.length a2,tS 8 a5 x41.1.length a6,tP 6 3 0,tP 5 2 0,tP 2 0 0] ka fa fun pl kb=>?_
  refine wf (QT (QT (Ab (Rk 0 3 ((tI 46 0)::(Ej x41 a5 a6 a1 a2)) kb fa fun pm kc=>?_))))
  refine wf ?_
  obtain⟨aw,gh,H⟩:=A3 H
  refine A7 (fun a' w'=>∃ (du:Option Addr)(dz:Nat)(dd:List Cf)(bl:Fr)(c1:List Nat)(fx:Array Value)(c4:Ad),a' = ⟨fx,List.map I7 c1⟩∧Kn 95 (E3 y z aa ab) [tP 5 2 0] fx∧Ah bl c4 (E3 y z aa ab) [⟨Cn d w_ p l q m u ac ai ad aj ae ak,some 115⟩,⟨Dm af t_ al ag am ah an,some 76⟩,⟨[.slice du aw.length dz],some 73⟩,⟨E4 d w_ p l q m u,some 121⟩] (⟨du,aw.length,dz,31,1,Ba E2 dd aw,0⟩::dd) w'∧Ad.le gk c4∧Ei NI 3 1 c4 dd aw∧Fr.Of w h bl∧DQ bl c1) ?_ ?_
  ·
   refine wp_block ?_
   refine A5 (fun nq a' w'=>∃ (x_v20:List (List Int))(x_v21:Int)(cx:Option Addr)(c2:Nat)(c3:List Cf)(dc:Fr)(c0:List Nat)(fy:Array Value)(cu:Ad),a' = ⟨fy,List.map I7 c0⟩∧Kn 95 (E3 y z aa ab) ((tI 46 x_v21)::(Ej x41 a5 a6 a1 a2)) fy∧Ah dc cu (E3 y z aa ab) [⟨Cn d w_ p l q m u ac ai ad aj ae ak,some 115⟩,⟨Dm af t_ al ag am ah an,some 76⟩,⟨[.slice cx x_v20.length c2],some 73⟩,⟨E4 d w_ p l q m u,some 121⟩] (⟨cx,x_v20.length,c2,31,1,Ba E2 c3 x_v20,0⟩::c3) w'∧Ad.le gk cu∧Ei NI 3 1 cu c3 x_v20∧Fr.Of w h dc∧DQ dc c0∧B5 nq w_ x41 x_v20 x_v21=some aw) n ?_ ?_
   ·
    exact QY db ⟨0,dv,d0,df,⟨w,h,Az⟩,([]:List Nat),_,_,rfl,kc.kp,fa,Ad.le_refl _,e1,⟨rfl,rfl⟩,DQ.nil _,gh⟩
   ·
    rintro cp _ qp ⟨x_v20,x_v21,cx,c2,c3,dc,c0,fy,cu,rfl,kd,ed,bp,d8,hg,hf,bj⟩
    clear gh
    obtain _ | cp:=cp
    ·
     rw [B5] at bj; cases bj
    rw [B5] at bj
    replace bd:=bd.mono bp
    replace be:=be.mono bp
    replace bf:=bf.mono bp
    replace bq:=bq.mono bp
    replace br:=br.mono bp
    replace bt:=bt.mono bp
    replace bu:=bu.mono bp
    replace bv:=bv.mono bp
    replace bw:=bw.mono bp
    replace dp:=dp.mono bp
    replace dq:=dq.mono bp
    refine QT (Ab (Rk 0 1 ((tB 47 (decide (x_v21<((x41.1.length:Nat):Int))))::(tI 46 x_v21)::(Ej x41 a5 a6 a1 a2)) kd ed fun pn e4=>?_))
    refine wf (QT (wC (decide (x_v21<((x41.1.length:Nat):Int))) e4 (fun ev=>?_) (fun ev=>?_)))
    ·
     rw [ev,QW] at bj
     refine wp_skip (QT (wp_block (QT (Ab (Rk 0 1 ((tI 48 x_v21)::(tI 46 x_v21)::(Ej x41 a5 a6 a1 a2)) e4 ed fun po ke=>?_)))))
     obtain⟨x49,ex49,bj⟩:=A3 bj
     obtain⟨m6,m9,nl⟩:=Ak ex49
     obtain⟨aq,ar,ok,i9,ng,jg⟩:=dp.get (by decide) nl
     obtain⟨_,_,rfl,rfl,⟨_,_,rfl,rfl,rfl⟩⟩:=ng
     have g5:=ed.addPlc (b:=aq) (o:=ar+(x_v21:Int).toNat*3) (cs:=(D0 x49)) (fun j c hj=>jg j _ (Al hj)) rfl (by kernel_rfl) (by kernel_rfl)
     refine A6 1 (x_v21) rfl rfl (rfl) rfl (by decide) ke (by rfl) (by rfl) (by rfl) i9 (by rfl) m6 m9 (by kernel_rfl) fun nv (kf:Kn 95 [(y,0),(z,0),(aa,0),(ab,0),(aq,ar+(x_v21:Int).toNat*3)] ((tP 49 4 0)::(tI 48 x_v21)::(tI 46 x_v21)::(Ej x41 a5 a6 a1 a2)) nv)=>?_
     refine Rk 2 1 ((tA 50 (D0 x49))::(tI 48 x_v21)::(tI 46 x_v21)::(Ej x41 a5 a6 a1 a2)) kf g5 fun pp kg=>?_
     refine wl fun K hK=>?_
     refine wa [.int .i64 0,.int .i64 0,.int .i64 0] kg g5 fun ax nw qq (kh:Kn 95 [(y,0),(z,0),(aa,0),(ab,0),(aq,ar+(x_v21:Int).toNat*3),(ax,0)] ((tP 11 5 0)::(tA 50 (D0 x49))::(tI 48 x_v21)::(tI 46 x_v21)::(Ej x41 a5 a6 a1 a2)) nw) g6=>hK _ _ ?_
     refine Rk 4 1 ((tI 10 x_v21)::(tP 11 5 0)::(tA 50 (D0 x49))::(tI 46 x_v21)::(Ej x41 a5 a6 a1 a2)) kh g6 fun nx ki=>?_
     refine wl fun K hK=>?_
     refine Ea 5 0 (.agg (D0 x49)) (D0 x49) ki g6 fun qr kj dl=>hK _ _ ?_
     have kk:Kn 95 [(y,0),(z,0),(aa,0),(ab,0),(aq,ar+(x_v21:Int).toNat*3),(ax,0)] ((tI 10 x_v21)::(tP 11 5 0)::(tI 46 x_v21)::(Ej x41 a5 a6 a1 a2)) nx:=kj.kp
     refine wf (QT (Ao (by kernel_rfl) ?_))
     replace dl:=dl.drew
     refine At [] [(y,0),(z,0),(aa,0),(ab,0),(aq,ar+(x_v21:Int).toNat*3),(ax,0)] [⟨Cn d w_ p l q m u ac ai ad aj ae ak,some 115⟩,⟨Dm af t_ al ag am ah an,some 76⟩,⟨[.slice cx x_v20.length c2],some 73⟩,⟨E4 d w_ p l q m u,some 121⟩,⟨D0 x49,none⟩,⟨D0 x49,some 153⟩] ?_
     refine Dr [0,1,2,3,4] (dn 4) ((tI 55 x_v21)::(tS 54 a1 x41.2.length a2)::(tA 53 (D0 x49))::(tA 52 (GD d w_ p l q m u))::(tI 46 x_v21)::(Ej x41 a5 a6 a1 a2)) kk dl fun pq kl=>?_
     obtain⟨x56,ex56,bj⟩:=A3 bj
     obtain⟨m7,na,nm⟩:=Ak ex56
     obtain⟨ay,az,ol,ja,nh,jh⟩:=dq.get (by decide) nm
     obtain⟨_,_,rfl,⟨bh,bi,rfl,fl⟩,rfl⟩:=nh
     have fb:=dl.addPlc (b:=ay) (o:=az+(x_v21:Int).toNat*2) (cs:=(Hn bh x56 bi)) (fun j c hj=>jh j _ (Al hj)) rfl (by kernel_rfl) (by kernel_rfl)
     refine AY 5 (x_v21) (Hn bh x56 bi) (fun _ _ _ _ _ h=>h) rfl rfl (rfl) rfl (by decide) (by kernel_rfl) (by kernel_rfl) kl dl.plOk (by rfl) (by rfl) (by rfl) ja (by rfl) m7 na (by kernel_rfl) fun ny (km:Kn 95 (Ho y z aa ab aq ar x_v21 ax ay az) ((tP 56 6 0)::(tI 55 x_v21)::(tS 54 a1 x41.2.length a2)::(tA 53 (D0 x49))::(tA 52 (GD d w_ p l q m u))::(tI 46 x_v21)::(Ej x41 a5 a6 a1 a2)) ny)=>?_
     refine Dr [6] (dn 6) ((tA 57 (Hn bh x56 bi))::(tA 53 (D0 x49))::(tA 52 (GD d w_ p l q m u))::(tI 46 x_v21)::(Ej x41 a5 a6 a1 a2)) km fb fun ps kn=>?_
     obtain⟨x58,ex58,bj⟩:=A3 bj
     refine Dl 7 fun K hK=>?_
     refine wc [.agg (GD d w_ p l q m u),.agg (D0 x49),.agg (Hn bh x56 bi)] kn fb (Dg cp fb.has w_.route ((Aa (Ae bd) (Aa (Aa Ac Ac) (Aa (Ae be) (Aa (Ae bf) (Aa Ac (Aa Ac (Aa Ac Ac))))))):rep cu w_.route _) x49 ((Aa Ac (Aa Ac Ac)):rep cu x49 _) x56 ((Aa (Ae fl) Ac):rep cu x56 _) ex58) fun qd i6 ds i2 bn g7=>?_
     replace bd:=bd.mono bn
     replace be:=be.mono bn
     replace bf:=bf.mono bn
     replace bq:=bq.mono bn
     replace br:=br.mono bn
     replace bt:=bt.mono bn
     replace bu:=bu.mono bn
     replace bv:=bv.mono bn
     replace bw:=bw.mono bn
     replace dp:=dp.mono bn
     replace dq:=dq.mono bn
     replace fl:=fl.mono bn
     replace d8:=d8.mono bn
     obtain⟨dw,dx,dy,rfl,jb,jc,jd⟩:=i2
     refine⟨.one (.c (.func (.func 106) #[] #[.pointer (some ⟨dw,0,none⟩),.pointer (some ⟨dx,0,none⟩),.pointer (some ⟨dy,0,none⟩)])),rfl,fun h6 (ko:Kn 95 (Ho y z aa ab aq ar x_v21 ax ay az) ((58,.one (.c (.func (.func 106) #[] #[.pointer (some ⟨dw,0,none⟩),.pointer (some ⟨dx,0,none⟩),.pointer (some ⟨dy,0,none⟩)])))::(tA 57 (Hn bh x56 bi))::(tA 53 (D0 x49))::(tA 52 (GD d w_ p l q m u))::(tI 46 x_v21)::(Ej x41 a5 a6 a1 a2)) h6)=>hK _ _ g7.plOk ?_⟩
     have e5:Kn 95 (Ho y z aa ab aq ar x_v21 ax ay az) ((58,.one (.c (.func (.func 106) #[] #[.pointer (some ⟨dw,0,none⟩),.pointer (some ⟨dx,0,none⟩),.pointer (some ⟨dy,0,none⟩)])))::(tI 46 x_v21)::(Ej x41 a5 a6 a1 a2)) h6:=ko.kp
     refine AH (by kernel_rfl) (wp_block ?_)
     obtain⟨el,ir,bj⟩:=A3 bj
     refine Jp (.func (.func 106) #[] #[.pointer (some ⟨dw,0,none⟩),.pointer (some ⟨dx,0,none⟩),.pointer (some ⟨dy,0,none⟩)]) e5 (by rfl) rfl (fun _ _=>by kernel_rfl) fun cq fm=>?_
     obtain⟨ii,me,om,mm⟩:=Ah.loopBegin g7 hf hg cq
     have i0:PO (fun(s:List (List Int))(h':Ad)(w':World)=>∃ (Fj:Fr)(ao:Option Addr)(ap:Nat)(a3:List Cf),Fz w h Fj ((ds).heap.size+1) cq ((ds).heap.size::c0)∧Ah Fj h' (Ho y z aa ab aq ar x_v21 ax ay az) [⟨Cn d w_ p l q m u ac ai ad aj ae ak,some 115⟩,⟨Dm af t_ al ag am ah an,some 76⟩,⟨[.slice ao s.length ap],some 73⟩,⟨E4 d w_ p l q m u,some 121⟩,⟨D0 x49,none⟩,⟨D0 x49,some 153⟩,⟨Hn bh x56 bi,none⟩] (⟨ao,s.length,ap,31,1,Ba E2 a3 s,0⟩::a3) w'∧Ei NI 3 1 h' a3 s∧Ad.le i6 h'):=⟨fun s h' w' hj=>by obtain⟨_,ao,ap,a3,_,hm,b4,_⟩:=hj; exact hm.has,fun s h' h'' w' w'' hj hb hle hn=>by obtain⟨Fj,ao,ap,a3,hlf,hm,b4,hle0⟩:=hj; exact⟨Fj,ao,ap,a3,hlf,hm.call hb hle hn,b4.mono hle,QU hle0 hle⟩⟩
     refine⟨_,CG cp i0 (fun(s:List (List Int))(x59:Int)(x60:Int)=>(((((fun(y0:Int)=>AL cp w_.route y0) x60).bind fun x63 =>
        (bif x63 then
        ((CF s x59).bind fun x68 =>
        ((KY x68 ([x60]:List Int)).bind fun x72 =>
        ((CF s x59).bind fun x73 =>
        ((upd s x59 x72).bind fun bk =>
        some bk))))
        else
        some s)):Option (List (List Int))).bind fun s1=>some (s1,true))) ?_ x_v20 ⟨ii,cx,c2,c3,me,mm,d8,Ad.le_refl _⟩ x58.1 jb x58.2.1 jc x58.2.2 jd ir,?_⟩
     ·
      intro s x59 x60 s' oj d3 ib jx  em
      obtain⟨ij,ao,ap,a3,e7,cv,b4,di⟩:=jx
      obtain⟨pf,bm,em⟩:=A3 em
      cases em
      replace bd:=bd.mono di
      replace be:=be.mono di
      replace bf:=bf.mono di
      replace cv:Ah ij d3 (Ho y z aa ab aq ar x_v21 ax ay az) [⟨Cn d w_ p l q m u ac ai ad aj ae ak,some 115⟩,⟨Dm af t_ al ag am ah an,some 76⟩,⟨[.slice ao s.length ap],some 73⟩,⟨E4 d w_ p l q m u,some 121⟩,⟨D0 x49,none⟩,⟨D0 x49,some 153⟩,⟨Hn bh x56 bi,none⟩] (⟨ao,s.length,ap,31,1,Ba E2 a3 s,0⟩::a3) ib:=cv
      refine LY fm (cv.ext e7.loop) ?_
      have kq:Kn 95 (Ho y z aa ab aq ar x_v21 ax ay az) [tI 60 x60,tI 59 x59,tP 6 3 0,tP 5 2 0] _:=((e5.kp.put (k:=59) (by decide) (.one (.c (.int .i64 x59)))).put (k:=60) (by decide) (.one (.c (.int .i64 x60))))
      refine LX (C3 (by kernel_rfl) (Rk 0 1 [tI 12 x59,tI 60 x60,tP 6 3 0,tP 5 2 0] kq cv fun pt kr=>?_))
      refine wf (C3 (by kernel_rfl) (Rk 0 1 [tI 13 x60,tI 12 x59,tP 6 3 0,tP 5 2 0] kr cv fun pu ks=>?_))
      refine wf ?_
      refine⟨cv.ext e7.loop,?_⟩
      obtain⟨dt,ec,oo,dm⟩:=Ah.loopStep cv e7 { cq with state:=.busy }
      replace dm:Ah dt d3 (Ho y z aa ab aq ar x_v21 ax ay az) [⟨Cn d w_ p l q m u ac ai ad aj ae ak,some 115⟩,⟨Dm af t_ al ag am ah an,some 76⟩,⟨[.slice ao s.length ap],some 73⟩,⟨E4 d w_ p l q m u,some 121⟩,⟨D0 x49,none⟩,⟨D0 x49,some 153⟩,⟨Hn bh x56 bi,none⟩] (⟨ao,s.length,ap,31,1,Ba E2 a3 s,0⟩::a3) (World.putObj ib ((ds).heap.size+1) (.loop { cq with state:=.busy })):=dm
      refine Ky (LX (C3 (by kernel_rfl) (Rk 0 2 [tI 62 x60,(61,.one (.c (.func (.func 95) #[.agg #[.slice d w_.route.legs.length p,.int .i64 w_.route.turn.lo,.int .i64 w_.route.turn.hi,.slice l w_.route.buses.length q,.slice m w_.route.spares.length u,.int .i64 w_.route.unit,.int .i64 w_.route.gap,.int .i64 w_.route.fr,.int .i64 w_.route.to_]] #[]))),tI 13 x60,tI 12 x59,tP 5 2 0] ks dm fun pv ku=>?_)))
      obtain⟨x63,ex63,bm⟩:=A3 bm
      refine wl fun K hK=>?_
      refine CN (.func (.func 95) #[.agg #[.slice d w_.route.legs.length p,.int .i64 w_.route.turn.lo,.int .i64 w_.route.turn.hi,.slice l w_.route.buses.length q,.slice m w_.route.spares.length u,.int .i64 w_.route.unit,.int .i64 w_.route.gap,.int .i64 w_.route.fr,.int .i64 w_.route.to_]] #[]) [.c (.int .i64 x60)] _ ku dm rfl rfl (by decide) (by rfl) (by rfl) rfl ((show PG d3 (.func (.func 95) #[.agg #[.slice d w_.route.legs.length p,.int .i64 w_.route.turn.lo,.int .i64 w_.route.turn.hi,.slice l w_.route.buses.length q,.slice m w_.route.spares.length u,.int .i64 w_.route.unit,.int .i64 w_.route.gap,.int .i64 w_.route.fr,.int .i64 w_.route.to_]] #[]) (fun(y0:Int)=>AL cp w_.route y0) from fun h2 w2 hle hh y0 r H=>⟨95,_,_,rfl,fun _ _=>by kernel_rfl,Ep cp hh w_.route (Rep.mono hle ((Aa (Ae bd) (Aa (Aa Ac Ac) (Aa (Ae be) (Aa (Ae bf) (Aa Ac (Aa Ac (Aa Ac Ac))))))):rep d3 w_.route _)) y0 H⟩) _ _ (Ad.le_refl _) dm.has x60 _ ex63) fun qe cg qt i3 dj co=>?_
      replace b4:=b4.mono dj
      obtain rfl:=i3
      refine⟨.one (.c (.bool x63)),rfl,fun h7 (kv:Kn 95 (Ho y z aa ab aq ar x_v21 ax ay az) [tB 63 x63,tI 62 x60,(61,.one (.c (.func (.func 95) #[.agg #[.slice d w_.route.legs.length p,.int .i64 w_.route.turn.lo,.int .i64 w_.route.turn.hi,.slice l w_.route.buses.length q,.slice m w_.route.spares.length u,.int .i64 w_.route.unit,.int .i64 w_.route.gap,.int .i64 w_.route.fr,.int .i64 w_.route.to_]] #[]))),tI 13 x60,tI 12 x59,tP 5 2 0] h7)=>hK _ _ ?_⟩
      have gx:Kn 95 (Ho y z aa ab aq ar x_v21 ax ay az) [tB 63 x63,tI 13 x60,tI 12 x59,tP 5 2 0] h7:=kv.kp
      refine wf (N0 (x63) gx (by kernel_rfl) (fun ew=>?_) (fun ew=>?_))
      ·
       rw [ew,QW] at bm
       refine Hj (by kernel_rfl) (by kernel_rfl) ?_
       replace co:=co.drew
       refine At [] (Ho y z aa ab aq ar x_v21 ax ay az) [⟨Cn d w_ p l q m u ac ai ad aj ae ak,some 115⟩,⟨Dm af t_ al ag am ah an,some 76⟩,⟨[.slice ao s.length ap],some 73⟩,⟨E4 d w_ p l q m u,some 121⟩,⟨D0 x49,none⟩,⟨D0 x49,some 153⟩,⟨Hn bh x56 bi,none⟩] ?_
       refine Dr [0,1,2,3] (dn 3) [tI 67 x59,tS 66 ao s.length ap,tI 65 x59,tS 64 ao s.length ap,tI 13 x60] gx co fun pw kw=>?_
       obtain⟨x68,ex68,bm⟩:=A3 bm
       obtain⟨ho,hu,h0⟩:=Ak ex68
       have l5:=AX ho hu
       obtain⟨b1,dg⟩:=Bo co (i:=0) rfl (b0:=0+(x59:Int).toNat*1) (HC Ce (by decide) b4.len l5)
       have fc:=co.addPlc (b:=b1) (o:=0+(x59:Int).toNat*1) (cs:=[]) (fun j c hj=>by simp at hj) rfl (by kernel_rfl) (by kernel_rfl)
       obtain⟨bz,b2,dr,gs,ji⟩:=b4.get h0
       have d7:∀ (e:AG) k c,([.slice bz x68.length b2]:List SC)[k]? = some c→((Ba E2 a3 s))[0+(x59:Int).toNat*1+k]? = some (c.den e):=fun e k c hk=>Eb Ce gs h0 k _ (Al hk)
       refine AY 4 (x59) [.slice bz x68.length b2] (fun _ _ _ _ _ h=>h) rfl rfl (rfl) rfl (by decide) (by kernel_rfl) (by kernel_rfl) kw co.plOk (by rfl) (by rfl) (by rfl) dg (by rfl) ho hu (by kernel_rfl) fun n0 (kx:Kn 95 (NM y z aa ab aq ar x_v21 ax ay az b1 x59) [tP 68 7 0,tI 67 x59,tS 66 ao s.length ap,tI 65 x59,tS 64 ao s.length ap,tI 13 x60] n0)=>?_
       refine FB [5,6] [6,5,4,3,2,1,0] [70,69,65,64] [tI 70 x60,tS 69 bz x68.length b2,tI 65 x59,tS 64 ao s.length ap] (fun _ _ _ _ _ h=>h) kx (Am.peek fc.plOk fc 0 7 rfl rfl dg [.slice bz x68.length b2] (d7 _)) (by kernel_rfl) (by rfl) (by kernel_rfl) fun px ky=>?_
       refine Dl 7 fun K hK=>?_
       refine wS 3 1 [.int .i64 x60] ky fc fun ck n2 oe (kz:Kn 95 (NM y z aa ab aq ar x_v21 ax ay az b1 x59) [tS 71 ck 1 1,tI 70 x60,tS 69 bz x68.length b2,tI 65 x59,tS 64 ao s.length ap] n2) mo=>?_
       have ee:Ah dt cg (NM y z aa ab aq ar x_v21 ax ay az b1 x59) [⟨Cn d w_ p l q m u ac ai ad aj ae ak,some 115⟩,⟨Dm af t_ al ag am ah an,some 76⟩,⟨[.slice ao s.length ap],some 73⟩,⟨E4 d w_ p l q m u,some 121⟩,⟨D0 x49,none⟩,⟨D0 x49,some 153⟩,⟨Hn bh x56 bi,none⟩,⟨[],none⟩] (⟨ao,s.length,ap,31,1,Ba E2 a3 s,0⟩::⟨ck,1,1,3,1,([.int .i64 x60]:List Value),0⟩::a3) oe:=Ah.famIn [⟨ao,s.length,ap,31,1,Ba E2 a3 s,0⟩] mo
       have ey:Af cg ([x60]:List Int) ([.int .i64 x60]:List Value):=⟨_,_,rfl,(Ac:rep cg (x60:Int) _),rfl⟩
       refine hK _ _ (Am.peek ee.plOk ee 0 7 rfl rfl dg [.slice bz x68.length b2] (d7 _)) ?_
       obtain⟨x72,ex72,bm⟩:=A3 bm
       obtain⟨fn,l6⟩:=BZ ex72
       refine Dl 8 fun K hK=>?_
       refine Bs (r:=⟨bz,x68.length,b2,3,1,dr,0⟩) ((x59:Int).toNat+2) 8 1 _ (x72.length) _ ([.int .i64 x60]:List Value) kz ee rfl rfl (by decide) (by exact gs) (by rfl) (by kernel_rfl) (by rfl) (by rfl) (Af.len ey) (ee.rowCell (i:=1) rfl) ey.one (by rw [fn]; simp <;> omega) (by rw [fn]; exact l6) (by decide) fun cl cm iz n3 qv jq (k0:Kn 95 (NM y z aa ab aq ar x_v21 ax ay az b1 x59) [tS 72 cl x72.length cm,tS 71 ck 1 1,tI 70 x60,tS 69 bz x68.length b2,tI 65 x59,tS 64 ao s.length ap] n3) c8=>?_
       have jj:Af cg x72 (dr++([.int .i64 x60]:List Value)):=by rw [fn]; exact Af.append ji ey
       obtain rfl:iz=0:=Nat.le_zero.1 jq
       refine hK _ _ (Am.peek c8.plOk c8 0 7 rfl rfl dg [.slice bz x68.length b2] (d7 _)) ?_
       obtain⟨x73,ex73,bm⟩:=A3 bm
       obtain⟨hp,hv,fp⟩:=Ak ex73
       have ea:=AX hp hv
       obtain⟨cy,gm⟩:=Bo c8 (i:=0) rfl (b0:=0+(x59:Int).toNat*1) (HC Ce (by decide) b4.len ea)
       have mp:=c8.addPlc (b:=cy) (o:=0+(x59:Int).toNat*1) (cs:=[]) (fun j c hj=>by simp at hj) rfl (by kernel_rfl) (by kernel_rfl)
       obtain⟨f9,gd,qi,gu,ow⟩:=b4.get fp
       have ox:∀ (e:AG) k c,([.slice f9 x73.length gd]:List SC)[k]? = some c→((Ba E2 a3 s))[0+(x59:Int).toNat*1+k]? = some (c.den e):=fun e k c hk=>Eb Ce gu fp k _ (Al hk)
       refine AY 9 (x59) [.slice f9 x73.length gd] (fun _ _ _ _ _ h=>h) rfl rfl (rfl) rfl (by decide) (by kernel_rfl) (by kernel_rfl) k0 (Am.peek c8.plOk c8 0 7 rfl rfl dg [.slice bz x68.length b2] (d7 _)) (by rfl) (by rfl) (by rfl) gm (by rfl) hp hv (by kernel_rfl) fun fz (k2:Kn 95 [(y,0),(z,0),(aa,0),(ab,0),(aq,ar+(x_v21:Int).toNat*3),(ax,0),(ay,az+(x_v21:Int).toNat*2),(b1,0+(x59:Int).toNat*1),(cy,0+(x59:Int).toNat*1)] [tP 73 8 0,tS 72 cl x72.length cm,tS 71 ck 1 1,tI 70 x60,tS 69 bz x68.length b2,tI 65 x59,tS 64 ao s.length ap] fz)=>?_
       obtain⟨bk,iv,bm⟩:=A3 bm
       obtain⟨pa,pd,ej⟩:=Cm iv
       refine DG 10 rfl (by kernel_rfl) (by decide) (rfl) (by kernel_rfl) fun K hK=>?_
       refine BO 0 8 0 (0+(x59:Int).toNat*1) (.c (.slice cl x72.length cm)) k2 mp rfl rfl (by rfl) (by rfl) rfl rfl gm rfl (by kernel_rfl) (K2 Ce b4.len ea (Nat.le_of_ble_eq_true rfl)) fun ic k3 mq=>?_
       have ni:((Ba E2 a3 s).take (0+(x59:Int).toNat*1+0)++([.slice cl x72.length cm]:List Value)++(Ba E2 a3 s).drop (0+(x59:Int).toNat*1+0+1))=(Ba E2 (List.set a3 (x59:Int).toNat ⟨cl,x72.length,cm,3,1,dr++([.int .i64 x60]:List Value),0⟩) bk):=by rw [ej]; exact IH (r':=⟨cl,x72.length,cm,3,1,dr++([.int .i64 x60]:List Value),0⟩) Ce gu fp rfl (Nat.le_of_ble_eq_true rfl)
       have fj:s.length=bk.length:=by rw [ej]; simp
       obtain⟨de,gp,mr⟩:∃ f,Ei NI 3 1 cg f bk∧Ah dt cg [(y,0),(z,0),(aa,0),(ab,0),(aq,ar+(x_v21:Int).toNat*3),(ax,0),(ay,az+(x_v21:Int).toNat*2),(b1,0+(x59:Int).toNat*1),(cy,0+(x59:Int).toNat*1)] [⟨[.slice d w_.route.legs.length p,.int .i64 w_.route.turn.lo,.int .i64 w_.route.turn.hi,.slice l w_.route.buses.length q,.slice m w_.route.spares.length u,.int .i64 w_.route.unit,.int .i64 w_.route.gap,.int .i64 w_.route.fr,.int .i64 w_.route.to_,.slice ac w_.acts.holds.length ai,.slice ad w_.acts.turns.length aj,.slice ae w_.acts.spares.length ak],some 115⟩,⟨[.slice af t_.tm.length al,.slice ag t_.turns.length am,.slice ah t_.legs.length an],some 76⟩,⟨[.slice ao s.length ap],some 73⟩,⟨[.func (.func 95) #[.agg #[.slice d w_.route.legs.length p,.int .i64 w_.route.turn.lo,.int .i64 w_.route.turn.hi,.slice l w_.route.buses.length q,.slice m w_.route.spares.length u,.int .i64 w_.route.unit,.int .i64 w_.route.gap,.int .i64 w_.route.fr,.int .i64 w_.route.to_]] #[]],some 121⟩,⟨[.int .i64 x49.stop,.int .i64 x49.tm,.int .i64 x49.turned],none⟩,⟨[.int .i64 x49.stop,.int .i64 x49.tm,.int .i64 x49.turned],some 153⟩,⟨[.slice bh x56.legs.length bi,.int .i64 x56.turn],none⟩,⟨[],none⟩,⟨[],none⟩] (⟨ao,s.length,ap,31,1,Ba E2 f bk,0⟩::⟨ck,1,1,3,1,([.int .i64 x60]:List Value),0⟩::f) ic:=⟨List.set a3 (x59:Int).toNat ⟨cl,x72.length,cm,3,1,dr++([.int .i64 x60]:List Value),0⟩,(by rw [ej]; exact b4.set ⟨rfl,rfl,rfl,rfl,jj⟩),by rw [← ni]; exact mq⟩
       have k4:Kn 95 [(y,0),(z,0),(aa,0),(ab,0),(aq,ar+(x_v21:Int).toNat*3),(ax,0),(ay,az+(x_v21:Int).toNat*2),(b1,0+(x59:Int).toNat*1),(cy,0+(x59:Int).toNat*1)] [(73,.one (.c (.ptr 8 0))),(72,.one (.c (.slice cl x72.length cm))),(71,.one (.c (.slice ck 1 1))),(70,.one (.c (.int .i64 x60))),(69,.one (.c (.slice bz x68.length b2))),(65,.one (.c (.int .i64 x59))),(64,.one (.c (.slice ao bk.length ap)))] fz:=by rw [← fj]; exact k3
       have g8:Ah dt cg [(y,0),(z,0),(aa,0),(ab,0),(aq,ar+(x_v21:Int).toNat*3),(ax,0),(ay,az+(x_v21:Int).toNat*2),(b1,0+(x59:Int).toNat*1),(cy,0+(x59:Int).toNat*1)] [⟨[.slice d w_.route.legs.length p,.int .i64 w_.route.turn.lo,.int .i64 w_.route.turn.hi,.slice l w_.route.buses.length q,.slice m w_.route.spares.length u,.int .i64 w_.route.unit,.int .i64 w_.route.gap,.int .i64 w_.route.fr,.int .i64 w_.route.to_,.slice ac w_.acts.holds.length ai,.slice ad w_.acts.turns.length aj,.slice ae w_.acts.spares.length ak],some 115⟩,⟨[.slice af t_.tm.length al,.slice ag t_.turns.length am,.slice ah t_.legs.length an],some 76⟩,⟨[.slice ao bk.length ap],some 73⟩,⟨[.func (.func 95) #[.agg #[.slice d w_.route.legs.length p,.int .i64 w_.route.turn.lo,.int .i64 w_.route.turn.hi,.slice l w_.route.buses.length q,.slice m w_.route.spares.length u,.int .i64 w_.route.unit,.int .i64 w_.route.gap,.int .i64 w_.route.fr,.int .i64 w_.route.to_]] #[]],some 121⟩,⟨[.int .i64 x49.stop,.int .i64 x49.tm,.int .i64 x49.turned],none⟩,⟨[.int .i64 x49.stop,.int .i64 x49.tm,.int .i64 x49.turned],some 153⟩,⟨[.slice bh x56.legs.length bi,.int .i64 x56.turn],none⟩,⟨[],none⟩,⟨[],none⟩] (⟨ao,bk.length,ap,31,1,Ba E2 de bk,0⟩::⟨ck,1,1,3,1,([.int .i64 x60]:List Value),0⟩::de) ic:=by rw [← fj]; exact mr
       have o5:(x59:Int).toNat<bk.length:=by rw [← fj]; exact ea
       have h1:bk[(x59:Int).toNat]? = some x72:=by rw [ej]; exact List.getElem?_set_self ea
       obtain⟨io,iq,qj,jv,oy⟩:=gp.get h1
       have oz:∀ (e:AG) k c,([.slice io x72.length iq]:List SC)[k]? = some c→((Ba E2 de bk))[0+(x59:Int).toNat*1+k]? = some (c.den e):=fun e k c hk=>Eb Ce jv h1 k _ (Al hk)
       refine hK _ _ ?_
       have o3:Kn 95 [(y,0),(z,0),(aa,0),(ab,0),(aq,ar+(x_v21:Int).toNat*3),(ax,0),(ay,az+(x_v21:Int).toNat*2),(b1,0+(x59:Int).toNat*1),(cy,0+(x59:Int).toNat*1)] [] fz:=k4.kp
       refine FA (by kernel_rfl) ?_
       obtain rfl:=QZ bm
       refine⟨g8.ext ec.loop,?_⟩
       rw [fm.eq]
       obtain⟨ik,mf,op,ms⟩:=Ah.loopStep g8 ec cq
       exact⟨rfl,cg,dj,ik,ao,ap,de,mf,(Ah.famCut [⟨ao,bk.length,ap,31,1,Ba E2 de bk,0⟩] [⟨ck,1,1,3,1,([.int .i64 x60]:List Value),0⟩] (ms)).cutPl 7 (by kernel_rfl),gp,QU di dj⟩
      ·
       rw [ew,QV] at bm
       refine Pp ?_
       obtain rfl:=QZ bm
       refine⟨co.ext ec.loop,?_⟩
       rw [fm.eq]
       obtain⟨il,mg,oq,mt⟩:=Ah.loopStep co ec cq
       exact⟨rfl,cg,dj,il,ao,ap,a3,mg,mt,b4,QU di dj⟩
     ·
      intro og i5
      obtain⟨i7,_,jy⟩:=i5
      obtain⟨oi,en,eo,ep,g2,g9,jr,mc⟩:=jy
      refine⟨g9.ext g2.loop,?_⟩
      obtain⟨f7,g3,os,eg⟩:=Ah.loopStep g9 g2 { cq with state:=.exhausted }
      replace eg:Ah f7 i7 (Ho y z aa ab aq ar x_v21 ax ay az) [⟨Cn d w_ p l q m u ac ai ad aj ae ak,some 115⟩,⟨Dm af t_ al ag am ah an,some 76⟩,⟨[.slice en el.length eo],some 73⟩,⟨E4 d w_ p l q m u,some 121⟩,⟨D0 x49,none⟩,⟨D0 x49,some 153⟩,⟨Hn bh x56 bi,none⟩] (⟨en,el.length,eo,31,1,Ba E2 ep el,0⟩::ep) (World.putObj og ((ds).heap.size+1) (.loop { cq with state:=.exhausted })):=eg
      refine Ab (Rk 0 2 ((tI 46 (IntKind.i64.wrap (x_v21+1)))::(Ej x41 a5 a6 a1 a2)) e5 eg fun p0 k7=>?_)
      refine wf ?_
      exact QY cp ⟨Nat.lt_succ_self _,QY el ⟨IntKind.i64.wrap (x_v21+1),en,eo,ep,f7,((ds).heap.size::c0),_,_,rfl,(k7.keep [46,45,44,9,6,5,2] (by rfl)).cut 4 (by kernel_rfl),eg.cutPl 4 (by kernel_rfl),QU bp (QU bn mc),jr,g3.of,g3.marks,bj⟩⟩
    ·
     rw [ev,QV] at bj
     refine wp_exit ?_
     obtain rfl:=QZ bj
     exact QY cx ⟨c2,c3,dc,c0,_,_,rfl,e4.kp,ed,bp,d8,hg,hf⟩
  ·
   rintro _ qw ⟨du,dz,dd,bl,c1,fx,c4,rfl,k8,ha,ci,jp,m5,m3⟩
   replace bd:=bd.mono ci
   replace be:=be.mono ci
   replace bf:=bf.mono ci
   replace bq:=bq.mono ci
   replace br:=br.mono ci
   replace bt:=bt.mono ci
   replace bu:=bu.mono ci
   replace bv:=bv.mono ci
   replace bw:=bw.mono ci
   refine QT (QT (Ab (Rk 0 3 [tI 77 0,tI 76 ((aw.length:Nat):Int),tP 5 2 0] k8 ha fun p1 k9=>?_)))
   refine wf ?_
   obtain⟨bg,gi,H⟩:=A3 H
   refine A7 (fun a' w'=>∃ (b7:Option Addr)(b8:Nat)(cn:List Cf)(f0:Array Value)(d5:Ad),a' = ⟨f0,List.map I7 c1⟩∧Kn 95 (E3 y z aa ab) [tP 5 2 0] f0∧Ah bl d5 (E3 y z aa ab) [⟨Cn d w_ p l q m u ac ai ad aj ae ak,some 115⟩,⟨Dm af t_ al ag am ah an,some 76⟩,⟨[.slice b7 bg.length b8],some 73⟩,⟨E4 d w_ p l q m u,some 121⟩] (⟨b7,bg.length,b8,31,1,Ba E2 cn bg,0⟩::cn) w'∧Ad.le c4 d5∧Ei NI 3 1 d5 cn bg) ?_ ?_
   ·
    refine wp_block ?_
    refine A5 (fun nr a' w'=>∃ (x_v30:List (List Int))(x_v31:Int)(au:Option Addr)(av:Nat)(b9:List Cf)(f1:Array Value)(bo:Ad),a' = ⟨f1,List.map I7 c1⟩∧Kn 95 (E3 y z aa ab) (EO x_v31 aw) f1∧Ah bl bo (E3 y z aa ab) [⟨Cn d w_ p l q m u ac ai ad aj ae ak,some 115⟩,⟨Dm af t_ al ag am ah an,some 76⟩,⟨[.slice au x_v30.length av],some 73⟩,⟨E4 d w_ p l q m u,some 121⟩] (⟨au,x_v30.length,av,31,1,Ba E2 b9 x_v30,0⟩::b9) w'∧Ad.le c4 bo∧Ei NI 3 1 bo b9 x_v30∧AK nr aw x_v30 x_v31=some bg) n ?_ ?_
    ·
     exact QY aw ⟨0,du,dz,dd,_,_,rfl,k9.kp,ha,Ad.le_refl _,jp,gi⟩
    ·
     rintro fv _ qy ⟨x_v30,x_v31,au,av,b9,f1,bo,rfl,la,c9,g1,d9,a4⟩
     clear gi
     obtain _ | fv:=fv
     ·
      rw [AK] at a4; cases a4
     rw [AK] at a4
     refine QT (Ab (Rk 0 1 ((tB 78 (decide (x_v31<((aw.length:Nat):Int))))::(EO x_v31 aw)) la c9 fun p2 e6=>?_))
     refine wf (QT (wC (decide (x_v31<((aw.length:Nat):Int))) e6 (fun ex=>?_) (fun ex=>?_)))
     ·
      rw [ex,QW] at a4
      refine wp_skip (QT (wp_block (QT (Ab (Rk 0 2 ((tI 14 x_v31)::(EO x_v31 aw)) e6 c9 fun p3 lb=>?_)))))
      refine wf (QT (Ab (Rk 0 2 ((tI 81 x_v31)::(tS 80 au x_v30.length av)::(tI 14 x_v31)::(EO x_v31 aw)) lb c9 fun p4 lc=>?_)))
      obtain⟨x82,ex82,a4⟩:=A3 a4
      obtain⟨hq,hw,fq⟩:=Ak ex82
      have l7:=AX hq hw
      obtain⟨bb,gn⟩:=Bo c9 (i:=0) rfl (b0:=0+(x_v31:Int).toNat*1) (HC Ce (by decide) d9.len l7)
      have fd:=c9.addPlc (b:=bb) (o:=0+(x_v31:Int).toNat*1) (cs:=[]) (fun j c hj=>by simp at hj) rfl (by kernel_rfl) (by kernel_rfl)
      obtain⟨cd,cf,ob,e2,jk⟩:=d9.get fq
      have jl:∀ (e:AG) k c,([.slice cd x82.length cf]:List SC)[k]? = some c→((Ba E2 b9 x_v30))[0+(x_v31:Int).toNat*1+k]? = some (c.den e):=fun e k c hk=>Eb Ce e2 fq k _ (Al hk)
      refine A6 2 (x_v31) rfl rfl (rfl) rfl (by decide) lc (by rfl) (by rfl) (by rfl) gn (by rfl) hq hw (by kernel_rfl) fun n4 (ld:Kn 95 (MR y z aa ab bb x_v31) ((tP 82 4 0)::(tI 81 x_v31)::(tS 80 au x_v30.length av)::(tI 14 x_v31)::(EO x_v31 aw)) n4)=>?_
      refine AA 3 1 [83,14,77,76,5] ((tS 83 cd x82.length cf)::(tI 14 x_v31)::(EO x_v31 aw)) ld (Am.peek fd.plOk fd 0 4 rfl rfl gn [.slice cd x82.length cf] (jl _)) (by kernel_rfl) fun p5 lf=>?_
      obtain⟨oa,iw,a4⟩:=A3 a4
      obtain⟨a0,ix,a4⟩:=A3 a4
      obtain⟨l8,nn⟩:=N3 iw
      obtain⟨_,_,fs⟩:=Cm ix
      refine wl fun K hK=>?_
      refine Ps (r:=⟨cd,x82.length,cf,3,1,ob,0⟩) Try.sorts ((x_v31:Int).toNat+1) lf fd rfl rfl (by decide) (by rfl) (fun _ _=>by kernel_rfl) (by exact e2) rfl rfl rfl jk l8 fun h8 f6 (lg:Kn 95 (MR y z aa ab bb x_v31) ((84,.tup [])::(tS 83 cd x82.length cf)::(tI 14 x_v31)::(EO x_v31 aw)) h8) (mv:Ah bl bo (MR y z aa ab bb x_v31) [⟨Cn d w_ p l q m u ac ai ad aj ae ak,some 115⟩,⟨Dm af t_ al ag am ah an,some 76⟩,⟨[.slice au x_v30.length av],some 73⟩,⟨E4 d w_ p l q m u,some 121⟩,⟨[],none⟩] (⟨au,x_v30.length,av,31,1,Ba E2 b9 x_v30,0⟩::(List.set b9 (x_v31:Int).toNat ⟨cd,x82.length,cf,3,1,List.map (Value.int .i64) (CO x82),0⟩)) f6)=>?_
      have nj:(Ba E2 b9 x_v30)=(Ba E2 (List.set b9 (x_v31:Int).toNat ⟨cd,x82.length,cf,3,1,List.map (Value.int .i64) (CO x82),0⟩) a0):=by rw [fs]; exact(Ls (g:=E2) (r':=⟨cd,x82.length,cf,3,1,List.map (Value.int .i64) (CO x82),0⟩) (x':=oa) e2 fq rfl).symm
      have m4:x_v30.length=a0.length:=by rw [fs]; simp
      obtain⟨cb,c6,mw⟩:∃ f,Ei NI 3 1 bo f a0∧Ah bl bo [(y,0),(z,0),(aa,0),(ab,0),(bb,0+(x_v31:Int).toNat*1)] [⟨[.slice d w_.route.legs.length p,.int .i64 w_.route.turn.lo,.int .i64 w_.route.turn.hi,.slice l w_.route.buses.length q,.slice m w_.route.spares.length u,.int .i64 w_.route.unit,.int .i64 w_.route.gap,.int .i64 w_.route.fr,.int .i64 w_.route.to_,.slice ac w_.acts.holds.length ai,.slice ad w_.acts.turns.length aj,.slice ae w_.acts.spares.length ak],some 115⟩,⟨[.slice af t_.tm.length al,.slice ag t_.turns.length am,.slice ah t_.legs.length an],some 76⟩,⟨[.slice au x_v30.length av],some 73⟩,⟨[.func (.func 95) #[.agg #[.slice d w_.route.legs.length p,.int .i64 w_.route.turn.lo,.int .i64 w_.route.turn.hi,.slice l w_.route.buses.length q,.slice m w_.route.spares.length u,.int .i64 w_.route.unit,.int .i64 w_.route.gap,.int .i64 w_.route.fr,.int .i64 w_.route.to_]] #[]],some 121⟩,⟨[],none⟩] (⟨au,x_v30.length,av,31,1,Ba E2 f a0,0⟩::f) f6:=⟨List.set b9 (x_v31:Int).toNat ⟨cd,x82.length,cf,3,1,List.map (Value.int .i64) (CO x82),0⟩,(by rw [fs,nn]; exact d9.set ⟨rfl,rfl,rfl,(Js _).symm,Gw _ _⟩),by rw [← nj]; exact mv⟩
      have li:=lg
      have da:Ah bl bo [(y,0),(z,0),(aa,0),(ab,0),(bb,0+(x_v31:Int).toNat*1)] [⟨[.slice d w_.route.legs.length p,.int .i64 w_.route.turn.lo,.int .i64 w_.route.turn.hi,.slice l w_.route.buses.length q,.slice m w_.route.spares.length u,.int .i64 w_.route.unit,.int .i64 w_.route.gap,.int .i64 w_.route.fr,.int .i64 w_.route.to_,.slice ac w_.acts.holds.length ai,.slice ad w_.acts.turns.length aj,.slice ae w_.acts.spares.length ak],some 115⟩,⟨[.slice af t_.tm.length al,.slice ag t_.turns.length am,.slice ah t_.legs.length an],some 76⟩,⟨[.slice au a0.length av],some 73⟩,⟨[.func (.func 95) #[.agg #[.slice d w_.route.legs.length p,.int .i64 w_.route.turn.lo,.int .i64 w_.route.turn.hi,.slice l w_.route.buses.length q,.slice m w_.route.spares.length u,.int .i64 w_.route.unit,.int .i64 w_.route.gap,.int .i64 w_.route.fr,.int .i64 w_.route.to_]] #[]],some 121⟩,⟨[],none⟩] (⟨au,a0.length,av,31,1,Ba E2 cb a0,0⟩::cb) f6:=by rw [← m4]; exact mw
      refine hK _ _ ?_
      have lj:Kn 95 (MR y z aa ab bb x_v31) ((tI 14 x_v31)::(EO x_v31 aw)) h8:=li.kp
      refine wf (Ao (by kernel_rfl) ?_)
      replace da:=da.drew
      refine At [] (MR y z aa ab bb x_v31) [⟨Cn d w_ p l q m u ac ai ad aj ae ak,some 115⟩,⟨Dm af t_ al ag am ah an,some 76⟩,⟨[.slice au a0.length av],some 73⟩,⟨E4 d w_ p l q m u,some 121⟩,⟨[],none⟩] ?_
      refine Dr [0,1,2,3] (dn 3) ((tI 88 x_v31)::(tS 87 au a0.length av)::(tI 86 x_v31)::(tS 85 au a0.length av)::(EO x_v31 aw)) lj da fun p6 lk=>?_
      obtain⟨x89,ex89,a4⟩:=A3 a4
      obtain⟨hr,hx,h3⟩:=Ak ex89
      have l9:=AX hr hx
      obtain⟨ce,d6⟩:=Bo da (i:=0) rfl (b0:=0+(x_v31:Int).toNat*1) (HC Ce (by decide) c6.len l9)
      have fe:=da.addPlc (b:=ce) (o:=0+(x_v31:Int).toNat*1) (cs:=[]) (fun j c hj=>by simp at hj) rfl (by kernel_rfl) (by kernel_rfl)
      obtain⟨a7,a9,oc,gv,jm⟩:=c6.get h3
      have ez:∀ (e:AG) k c,([.slice a7 x89.length a9]:List SC)[k]? = some c→((Ba E2 cb a0))[0+(x_v31:Int).toNat*1+k]? = some (c.den e):=fun e k c hk=>Eb Ce gv h3 k _ (Al hk)
      refine AY 4 (x_v31) [.slice a7 x89.length a9] (fun _ _ _ _ _ h=>h) rfl rfl (rfl) rfl (by decide) (by kernel_rfl) (by kernel_rfl) lk da.plOk (by rfl) (by rfl) (by rfl) d6 (by rfl) hr hx (by kernel_rfl) fun n6 (ll:Kn 95 [(y,0),(z,0),(aa,0),(ab,0),(bb,0+(x_v31:Int).toNat*1),(ce,0+(x_v31:Int).toNat*1)] ((tP 89 5 0)::(tI 88 x_v31)::(tS 87 au a0.length av)::(tI 86 x_v31)::(tS 85 au a0.length av)::(EO x_v31 aw)) n6)=>?_
      refine FB [5] [5,4,3,2,1,0] [90,86,85,77,76,5] ((tS 90 a7 x89.length a9)::(tI 86 x_v31)::(tS 85 au a0.length av)::(EO x_v31 aw)) (fun _ _ _ _ _ h=>h) ll (Am.peek fe.plOk fe 0 5 rfl rfl d6 [.slice a7 x89.length a9] (ez _)) (by kernel_rfl) (by rfl) (by kernel_rfl) fun p7 lm=>?_
      obtain⟨x91,ex91,a4⟩:=A3 a4
      obtain⟨ma,np⟩:=N6 ex91
      refine Dl 6 fun K hK=>?_
      refine N7 (r:=⟨a7,x89.length,a9,3,1,oc,0⟩) Try.compacts ((x_v31:Int).toNat+1) lm fe rfl rfl (by decide) (by rfl) (fun _ _=>by kernel_rfl) (by exact gv) rfl rfl rfl jm ma fun n7 oh (gy:Kn 95 [(y,0),(z,0),(aa,0),(ab,0),(bb,0+(x_v31:Int).toNat*1),(ce,0+(x_v31:Int).toNat*1)] [(91,.one (.c (.slice a7 ((Lib.compact x89).length) a9))),(90,.one (.c (.slice a7 x89.length a9))),(86,.one (.c (.int .i64 x_v31))),(85,.one (.c (.slice au a0.length av))),(77,.one (.c (.int .i64 x_v31))),(76,.one (.c (.int .i64 ((aw.length:Nat):Int)))),(5,.one (.c (.ptr 2 0)))] n7) (cw:Ah bl bo [(y,0),(z,0),(aa,0),(ab,0),(bb,0+(x_v31:Int).toNat*1),(ce,0+(x_v31:Int).toNat*1)] [⟨[.slice d w_.route.legs.length p,.int .i64 w_.route.turn.lo,.int .i64 w_.route.turn.hi,.slice l w_.route.buses.length q,.slice m w_.route.spares.length u,.int .i64 w_.route.unit,.int .i64 w_.route.gap,.int .i64 w_.route.fr,.int .i64 w_.route.to_,.slice ac w_.acts.holds.length ai,.slice ad w_.acts.turns.length aj,.slice ae w_.acts.spares.length ak],some 115⟩,⟨[.slice af t_.tm.length al,.slice ag t_.turns.length am,.slice ah t_.legs.length an],some 76⟩,⟨[.slice au a0.length av],some 73⟩,⟨[.func (.func 95) #[.agg #[.slice d w_.route.legs.length p,.int .i64 w_.route.turn.lo,.int .i64 w_.route.turn.hi,.slice l w_.route.buses.length q,.slice m w_.route.spares.length u,.int .i64 w_.route.unit,.int .i64 w_.route.gap,.int .i64 w_.route.fr,.int .i64 w_.route.to_]] #[]],some 121⟩,⟨[],none⟩,⟨[],none⟩] (⟨au,a0.length,av,31,1,Ba E2 cb a0,0⟩::(List.set cb (x_v31:Int).toNat ⟨a7,(Lib.compact x89).length,a9,3,1,List.map (Value.int .i64) (Lib.compact x89),0⟩)) oh)=>?_
      rw [← np] at gy cw
      have jn:Af bo x91 (List.map (Value.int .i64) x91):=Gw _ _
      refine hK _ _ (Am.peek cw.plOk cw 0 5 rfl rfl d6 [.slice a7 x89.length a9] (ez _)) ?_
      obtain⟨x92,ex92,a4⟩:=A3 a4
      obtain⟨hs,hy,ft⟩:=Ak ex92
      have eb:=AX hs hy
      obtain⟨cz,et⟩:=Bo cw (i:=0) rfl (b0:=0+(x_v31:Int).toNat*1) (HC Ce (by decide) c6.len eb)
      have mx:=cw.addPlc (b:=cz) (o:=0+(x_v31:Int).toNat*1) (cs:=[]) (fun j c hj=>by simp at hj) rfl (by kernel_rfl) (by kernel_rfl)
      obtain⟨ga,gf,qk,gw,o0⟩:=c6.get ft
      have o1:∀ (e:AG) k c,([.slice ga x92.length gf]:List SC)[k]? = some c→((Ba E2 cb a0))[0+(x_v31:Int).toNat*1+k]? = some (c.den e):=fun e k c hk=>Eb Ce gw ft k _ (Al hk)
      refine AY 7 (x_v31) [.slice ga x92.length gf] (fun _ _ _ _ _ h=>h) rfl rfl (rfl) rfl (by decide) (by kernel_rfl) (by kernel_rfl) gy (Am.peek cw.plOk cw 0 5 rfl rfl d6 [.slice a7 x89.length a9] (ez _)) (by rfl) (by rfl) (by rfl) et (by rfl) hs hy (by kernel_rfl) fun f2 (ln:Kn 95 [(y,0),(z,0),(aa,0),(ab,0),(bb,0+(x_v31:Int).toNat*1),(ce,0+(x_v31:Int).toNat*1),(cz,0+(x_v31:Int).toNat*1)] ((tP 92 6 0)::(tS 91 a7 x91.length a9)::(tS 90 a7 x89.length a9)::(tI 86 x_v31)::(tS 85 au a0.length av)::(EO x_v31 aw)) f2)=>?_
      obtain⟨b6,iy,a4⟩:=A3 a4
      obtain⟨pb,pe,ek⟩:=Cm iy
      refine DG 8 rfl (by kernel_rfl) (by decide) (rfl) (by kernel_rfl) fun K hK=>?_
      refine BO 0 6 0 (0+(x_v31:Int).toNat*1) (.c (.slice a7 x91.length a9)) ln mx rfl rfl (by rfl) (by rfl) rfl rfl et rfl (by kernel_rfl) (K2 Ce c6.len eb (Nat.le_of_ble_eq_true rfl)) fun ie lp my=>?_
      have nk:((Ba E2 cb a0).take (0+(x_v31:Int).toNat*1+0)++([.slice a7 x91.length a9]:List Value)++(Ba E2 cb a0).drop (0+(x_v31:Int).toNat*1+0+1))=(Ba E2 (List.set cb (x_v31:Int).toNat ⟨a7,x91.length,a9,3,1,List.map (Value.int .i64) x91,0⟩) b6):=by rw [ek]; exact IH (r':=⟨a7,x91.length,a9,3,1,List.map (Value.int .i64) x91,0⟩) Ce gw ft rfl (Nat.le_of_ble_eq_true rfl)
      have fk:a0.length=b6.length:=by rw [ek]; simp
      obtain⟨d2,gq,mz⟩:∃ f,Ei NI 3 1 bo f b6∧Ah bl bo [(y,0),(z,0),(aa,0),(ab,0),(bb,0+(x_v31:Int).toNat*1),(ce,0+(x_v31:Int).toNat*1),(cz,0+(x_v31:Int).toNat*1)] [⟨[.slice d w_.route.legs.length p,.int .i64 w_.route.turn.lo,.int .i64 w_.route.turn.hi,.slice l w_.route.buses.length q,.slice m w_.route.spares.length u,.int .i64 w_.route.unit,.int .i64 w_.route.gap,.int .i64 w_.route.fr,.int .i64 w_.route.to_,.slice ac w_.acts.holds.length ai,.slice ad w_.acts.turns.length aj,.slice ae w_.acts.spares.length ak],some 115⟩,⟨[.slice af t_.tm.length al,.slice ag t_.turns.length am,.slice ah t_.legs.length an],some 76⟩,⟨[.slice au a0.length av],some 73⟩,⟨[.func (.func 95) #[.agg #[.slice d w_.route.legs.length p,.int .i64 w_.route.turn.lo,.int .i64 w_.route.turn.hi,.slice l w_.route.buses.length q,.slice m w_.route.spares.length u,.int .i64 w_.route.unit,.int .i64 w_.route.gap,.int .i64 w_.route.fr,.int .i64 w_.route.to_]] #[]],some 121⟩,⟨[],none⟩,⟨[],none⟩,⟨[],none⟩] (⟨au,a0.length,av,31,1,Ba E2 f b6,0⟩::f) ie:=⟨List.set cb (x_v31:Int).toNat ⟨a7,x91.length,a9,3,1,List.map (Value.int .i64) x91,0⟩,(by rw [ek]; exact c6.set ⟨rfl,rfl,rfl,rfl,jn⟩),by rw [← nk]; exact my⟩
      have lq:Kn 95 [(y,0),(z,0),(aa,0),(ab,0),(bb,0+(x_v31:Int).toNat*1),(ce,0+(x_v31:Int).toNat*1),(cz,0+(x_v31:Int).toNat*1)] [(92,.one (.c (.ptr 6 0))),(91,.one (.c (.slice a7 x91.length a9))),(90,.one (.c (.slice a7 x89.length a9))),(86,.one (.c (.int .i64 x_v31))),(85,.one (.c (.slice au b6.length av))),(77,.one (.c (.int .i64 x_v31))),(76,.one (.c (.int .i64 ((aw.length:Nat):Int)))),(5,.one (.c (.ptr 2 0)))] f2:=by rw [← fk]; exact lp
      have ff:Ah bl bo [(y,0),(z,0),(aa,0),(ab,0),(bb,0+(x_v31:Int).toNat*1),(ce,0+(x_v31:Int).toNat*1),(cz,0+(x_v31:Int).toNat*1)] [⟨[.slice d w_.route.legs.length p,.int .i64 w_.route.turn.lo,.int .i64 w_.route.turn.hi,.slice l w_.route.buses.length q,.slice m w_.route.spares.length u,.int .i64 w_.route.unit,.int .i64 w_.route.gap,.int .i64 w_.route.fr,.int .i64 w_.route.to_,.slice ac w_.acts.holds.length ai,.slice ad w_.acts.turns.length aj,.slice ae w_.acts.spares.length ak],some 115⟩,⟨[.slice af t_.tm.length al,.slice ag t_.turns.length am,.slice ah t_.legs.length an],some 76⟩,⟨[.slice au b6.length av],some 73⟩,⟨[.func (.func 95) #[.agg #[.slice d w_.route.legs.length p,.int .i64 w_.route.turn.lo,.int .i64 w_.route.turn.hi,.slice l w_.route.buses.length q,.slice m w_.route.spares.length u,.int .i64 w_.route.unit,.int .i64 w_.route.gap,.int .i64 w_.route.fr,.int .i64 w_.route.to_]] #[]],some 121⟩,⟨[],none⟩,⟨[],none⟩,⟨[],none⟩] (⟨au,b6.length,av,31,1,Ba E2 d2 b6,0⟩::d2) ie:=by rw [← fk]; exact mz
      have o6:(x_v31:Int).toNat<b6.length:=by rw [← fk]; exact eb
      have h5:b6[(x_v31:Int).toNat]? = some x91:=by rw [ek]; exact List.getElem?_set_self eb
      obtain⟨gb,gg,ql,jw,o2⟩:=gq.get h5
      have jo:∀ (e:AG) k c,([.slice gb x91.length gg]:List SC)[k]? = some c→((Ba E2 d2 b6))[0+(x_v31:Int).toNat*1+k]? = some (c.den e):=fun e k c hk=>Eb Ce jw h5 k _ (Al hk)
      refine hK _ _ ?_
      have lr:Kn 95 [(y,0),(z,0),(aa,0),(ab,0),(bb,0+(x_v31:Int).toNat*1),(ce,0+(x_v31:Int).toNat*1),(cz,0+(x_v31:Int).toNat*1)] (EO x_v31 aw) f2:=lq.kp
      refine FA (by kernel_rfl) (Ab (AA 0 2 [77,76,5] [tI 77 (IntKind.i64.wrap (x_v31+1)),tI 76 ((aw.length:Nat):Int),tP 5 2 0] lr (Am.peek ff.plOk ff 0 6 rfl rfl et [.slice gb x91.length gg] (jo _)) (by kernel_rfl) fun p8 ls=>?_))
      refine wf ?_
      exact QY fv ⟨Nat.lt_succ_self _,QY b6 ⟨IntKind.i64.wrap (x_v31+1),au,av,d2,_,_,rfl,(ls.keep [77,76,5] (by rfl)).cut 4 (by kernel_rfl),ff.cutPl 4 (by kernel_rfl),g1,gq,a4⟩⟩
     ·
      rw [ex,QV] at a4
      refine wp_exit ?_
      obtain rfl:=QZ a4
      exact QY au ⟨av,b9,_,_,rfl,e6.kp,c9,g1,d9⟩
   ·
    rintro _ ig ⟨b7,b8,cn,f0,d5,rfl,lu,hc,o7,js⟩
    refine QT (Ab (Rk 0 2 [tS 4 b7 bg.length b8] lu hc fun p9 lv=>?_))
    refine wf (wp_ret ?_)
    obtain⟨i8,o8,eh,e0⟩:=Ei.settleAll [⟨b7,bg.length,b8,31,1,Ba E2 cn bg,0⟩] js Pt hc
    replace eh:Ah bl i8 (E3 y z aa ab) [⟨Cn d w_ p l q m u ac ai ad aj ae ak,some 115⟩,⟨Dm af t_ al ag am ah an,some 76⟩,⟨[.slice b7 bg.length b8],some 73⟩,⟨E4 d w_ p l q m u,some 121⟩] [⟨b7,bg.length,b8,31,1,Ba E2 cn bg,0⟩] ig:=eh
    obtain⟨gl,md,nd,fg⟩:=eh.settle (i:=0) rfl
    replace e0:=e0.mono md
    replace fg:Ah bl gl (E3 y z aa ab) [⟨Cn d w_ p l q m u ac ai ad aj ae ak,some 115⟩,⟨Dm af t_ al ag am ah an,some 76⟩,⟨[.slice b7 bg.length b8],some 73⟩,⟨E4 d w_ p l q m u,some 121⟩] [⟨b7,bg.length,b8,31,1,Ba E2 cn bg,((Ba E2 cn bg):List Value).length⟩] ig:=fg
    have nc:Ar gl b7 b8 bg:=⟨_,e0,nd,eh.rowCap (i:=0) rfl⟩
    obtain rfl:=QZ H
    exact MB (bs:=c1) (.one (.c (.slice b7 bg.length b8))) lv fg m3 m5 (by kernel_rfl) ⟨_,_,rfl,nc⟩
abbrev Hp (q:Option Addr) (t_:AB) (x:Nat) (s:Option Addr) (y:Nat) (u:Option Addr) (z:Nat):List SC:=[.slice q t_.tm.length x,.slice s t_.turns.length y,.slice u t_.legs.length z]
abbrev JG (j:Option Addr) (a:A0) (m:Nat) (k:Option Addr) (o:Nat) (l:Option Addr) (p:Nat):List SC:=[.slice j a.holds.length m,.slice k a.turns.length o,.slice l a.spares.length p]
abbrev Hq (b:Option Addr) (r_:Ag) (f:Nat) (d:Option Addr) (g:Nat) (e:Option Addr) (i:Nat):List SC:=[.slice b r_.legs.length f,.int .i64 r_.turn.lo,.int .i64 r_.turn.hi,.slice d r_.buses.length g,.slice e r_.spares.length i,.int .i64 r_.unit,.int .i64 r_.gap,.int .i64 r_.fr,.int .i64 r_.to_]
abbrev OL (b:Option Addr) (r_:Ag) (f:Nat) (d:Option Addr) (g:Nat) (e:Option Addr) (i:Nat) (j:Option Addr) (a:A0) (m:Nat) (k:Option Addr) (o:Nat) (l:Option Addr) (p:Nat):List SC:=[.slice b r_.legs.length f,.int .i64 r_.turn.lo,.int .i64 r_.turn.hi,.slice d r_.buses.length g,.slice e r_.spares.length i,.int .i64 r_.unit,.int .i64 r_.gap,.int .i64 r_.fr,.int .i64 r_.to_,.slice j a.holds.length m,.slice k a.turns.length o,.slice l a.spares.length p]
set_option maxRecDepth 100000 in
set_option maxHeartbeats 4000000 in
theorem Gf (n:Nat) {h:Ad} {w:World} (hh:Dv h w) (r_:Ag) {cs_r_:List Value} (hx_r_:rep h r_ cs_r_) (a:A0) {cs_a:List Value} (hx_a:rep h a cs_a) (t_:AB) {cs_t_:List Value} (hx_t_:rep h t_ cs_t_) {r:(List (List Int))×Int} (H:D1 n r_ a t_=some r) :
  Calls Try.prog 42 #[.agg cs_r_.toArray,.agg cs_a.toArray,.agg cs_t_.toArray] w (D6 (fun h v=>∃ v0 v1,v=.tuple #[v0,v1]∧(∃ a c,v0=.slice a r.1.length c∧Ar h a c r.1)∧(v1=.int .i64 r.2)) h w):=by
 obtain⟨_,_,rfl,⟨b,f,rfl,ad⟩,⟨_,_,rfl,⟨_,_,rfl,rfl,rfl⟩,⟨_,_,rfl,⟨d,g,rfl,ae⟩,⟨_,_,rfl,⟨e,i,rfl,af⟩,⟨_,_,rfl,rfl,⟨_,_,rfl,rfl,⟨_,_,rfl,rfl,rfl⟩⟩⟩⟩⟩⟩⟩:=hx_r_
 obtain⟨_,_,rfl,⟨j,m,rfl,ai⟩,⟨_,_,rfl,⟨k,o,rfl,aj⟩,⟨l,p,rfl,ak⟩⟩⟩:=hx_a
 obtain⟨_,_,rfl,⟨q,x,rfl,al⟩,⟨_,_,rfl,⟨s,y,rfl,am⟩,⟨u,z,rfl,an⟩⟩⟩:=hx_t_
 refine enter 24 [.agg (Hq b r_ f d g e i),.agg (JG j a m k o l p),.agg (Hp q t_ x s y u z)] Try.func42 rfl rfl rfl rfl fun t hk=>?_
 have hm:=Ah.begin h w hh
 unfold D1 at H
 refine QT (Ab (wl fun K hK=>?_))
 refine wb (.agg (Hq b r_ f d g e i)) hk hm fun ag bm b8 (a5:Kn 24 [(ag,0)] [tP 3 0 0,tA 0 (Hq b r_ f d g e i),tA 1 (JG j a m k o l p),tA 2 (Hp q t_ x s y u z)] bm) bj=>hK _ _ ?_
 refine wl fun K hK=>?_
 refine wb (.agg (JG j a m k o l p)) a5 bj fun ao bn b9 (a6:Kn 24 [(ag,0),(ao,0)] [tP 4 1 0,tP 3 0 0,tA 0 (Hq b r_ f d g e i),tA 1 (JG j a m k o l p),tA 2 (Hp q t_ x s y u z)] bn) bk=>hK _ _ ?_
 refine wl fun K hK=>?_
 refine wb (.agg (Hp q t_ x s y u z)) a6 bk fun aq bo ca (a7:Kn 24 [(ag,0),(ao,0),(aq,0)] [tP 5 2 0,tP 4 1 0,tP 3 0 0,tA 0 (Hq b r_ f d g e i),tA 1 (JG j a m k o l p),tA 2 (Hp q t_ x s y u z)] bo) au=>hK _ _ ?_
 refine Rk 3 2 [tP 5 2 0,tP 4 1 0,tP 3 0 0] a7 au fun bu a8=>?_
 refine wf (QT (QT (Ab (Rk 0 2 [tA 10 (JG j a m k o l p),tA 9 (Hq b r_ f d g e i),tP 5 2 0,tP 4 1 0,tP 3 0 0] a8 au fun bv a9=>?_))))
 obtain⟨x11,ex11,H⟩:=A3 H
 refine wl fun K hK=>?_
 refine wc [.agg (Hq b r_ f d g e i),.agg (JG j a m k o l p)] a9 au (D4 n au.has r_ ((Aa (Ae ad) (Aa (Aa Ac Ac) (Aa (Ae ae) (Aa (Ae af) (Aa Ac (Aa Ac (Aa Ac Ac))))))):rep h r_ _) a ((Aa (Ae ai) (Aa (Ae aj) (Ae ak))):rep h a _) ex11) fun b5 az cb a2 aa ac=>?_
 replace ad:=ad.mono aa
 replace ae:=ae.mono aa
 replace af:=af.mono aa
 replace ai:=ai.mono aa
 replace aj:=aj.mono aa
 replace ak:=ak.mono aa
 replace al:=al.mono aa
 replace am:=am.mono aa
 replace an:=an.mono aa
 obtain rfl:=a2
 refine⟨.one (.c (.int .i64 x11)),rfl,fun bp (ba:Kn 24 [(ag,0),(ao,0),(aq,0)] [tI 11 x11,tA 10 (JG j a m k o l p),tA 9 (Hq b r_ f d g e i),tP 5 2 0,tP 4 1 0,tP 3 0 0] bp)=>hK _ _ ?_⟩
 refine Rk 3 1 [tI 8 x11,tP 5 2 0,tP 4 1 0,tP 3 0 0] ba ac fun bw bb=>?_
 refine wf (QT (Ab (Rk 0 2 [tB 13 (x11 != 0),tI 8 x11,tP 5 2 0,tP 4 1 0,tP 3 0 0] bb ac fun bx ax=>?_)))
 refine wf (wC ((x11 != 0)) ax (fun av=>?_) (fun av=>?_))
 ·
  rw [av,QW] at H
  refine QT (Ab (Rk 0 3 [tI 7 x11,tS 6 none 0 0] ax ac fun bz bc=>?_))
  refine wf (wp_ret ?_)
  obtain rfl:=QZ H
  exact rt (.tup [.c (.slice none 0 0),.c (.int .i64 x11)]) bc ac ⟨_,_,rfl,⟨_,_,rfl,Ar.nil⟩,rfl⟩
 ·
  rw [av,QV] at H
  refine wp_skip (QT (QT (Ab (Rk 0 2 [tA 16 (Hp q t_ x s y u z),tA 15 (Hq b r_ f d g e i),tP 5 2 0,tP 4 1 0,tP 3 0 0] ax ac fun b0 bd=>?_))))
  obtain⟨x17,ex17,H⟩:=A3 H
  refine wl fun K hK=>?_
  refine wc [.agg (Hq b r_ f d g e i),.agg (Hp q t_ x s y u z)] bd ac (G2 n ac.has r_ ((Aa (Ae ad) (Aa (Aa Ac Ac) (Aa (Ae ae) (Aa (Ae af) (Aa Ac (Aa Ac (Aa Ac Ac))))))):rep az r_ _) t_ ((Aa (Ae al) (Aa (Ae am) (Ae an))):rep az t_ _) ex17) fun b6 a0 cc a3 ab ah=>?_
  replace ad:=ad.mono ab
  replace ae:=ae.mono ab
  replace af:=af.mono ab
  replace ai:=ai.mono ab
  replace aj:=aj.mono ab
  replace ak:=ak.mono ab
  replace al:=al.mono ab
  replace am:=am.mono ab
  replace an:=an.mono ab
  obtain rfl:=a3
  refine⟨.one (.c (.bool x17)),rfl,fun bq (be:Kn 24 [(ag,0),(ao,0),(aq,0)] [tB 17 x17,tA 16 (Hp q t_ x s y u z),tA 15 (Hq b r_ f d g e i),tP 5 2 0,tP 4 1 0,tP 3 0 0] bq)=>hK _ _ ?_⟩
  refine Rk 3 1 [tB 18 (!x17),tP 5 2 0,tP 4 1 0,tP 3 0 0] be ah fun b1 ay=>?_
  refine wf (wC ((!x17)) ay (fun aw=>?_) (fun aw=>?_))
  ·
   rw [aw,QW] at H
   refine QT (Ab (Rk 0 2 [tI 7 2,tS 6 none 0 0] ay ah fun b2 bf=>?_))
   refine wf (wp_ret ?_)
   obtain rfl:=QZ H
   exact rt (.tup [.c (.slice none 0 0),.c (.int .i64 2)]) bf ah ⟨_,_,rfl,⟨_,_,rfl,Ar.nil⟩,rfl⟩
  ·
   rw [aw,QV] at H
   refine wp_skip (QT (Ab (Rk 0 4 [tA 22 (Hp q t_ x s y u z),tA 21 (OL b r_ f d g e i j a m k o l p)] ay ah fun b3 bg=>?_)))
   obtain⟨x23,ex23,H⟩:=A3 H
   refine wl fun K hK=>?_
   refine wc [.agg (OL b r_ f d g e i j a m k o l p),.agg (Hp q t_ x s y u z)] bg ah (Ge n ah.has (AC.mk r_ a) ((Aa (Aa (Ae ad) (Aa (Aa Ac Ac) (Aa (Ae ae) (Aa (Ae af) (Aa Ac (Aa Ac (Aa Ac Ac))))))) (Aa (Ae ai) (Aa (Ae aj) (Ae ak)))):rep a0 (AC.mk r_ a) _) t_ ((Aa (Ae al) (Aa (Ae am) (Ae an))):rep a0 t_ _) ex23) fun b7 bs cd a4 bt a1=>?_
   obtain⟨ap,ar,rfl,bl⟩:=a4
   refine⟨.one (.c (.slice ap x23.length ar)),rfl,fun br (bh:Kn 24 [(ag,0),(ao,0),(aq,0)] [tS 23 ap x23.length ar,tA 22 (Hp q t_ x s y u z),tA 21 (OL b r_ f d g e i j a m k o l p)] br)=>hK _ _ ?_⟩
   refine Rk 5 2 [tI 7 0,tS 6 ap x23.length ar] bh a1 fun b4 bi=>?_
   refine wf (wp_ret ?_)
   obtain rfl:=QZ H
   exact rt (.tup [.c (.slice ap x23.length ar),.c (.int .i64 0)]) bi a1 ⟨_,_,rfl,⟨_,_,rfl,bl⟩,rfl⟩
abbrev GE (m:Option Addr) (t_:AB) (ac:Nat) (p:Option Addr) (ad:Nat) (q:Option Addr) (ae:Nat):List SC:=[.slice m t_.tm.length ac,.slice p t_.turns.length ad,.slice q t_.legs.length ae]
abbrev GF (g:Option Addr) (a:A0) (y:Nat) (k:Option Addr) (z:Nat) (l:Option Addr) (aa:Nat):List SC:=[.slice g a.holds.length y,.slice k a.turns.length z,.slice l a.spares.length aa]
abbrev GG (f:Option Addr) (r_:Ag) (ab:Nat) (s:Option Addr) (af:Nat) (u:Option Addr) (ag:Nat):List SC:=[.slice f r_.legs.length ab,.int .i64 r_.turn.lo,.int .i64 r_.turn.hi,.slice s r_.buses.length af,.slice u r_.spares.length ag,.int .i64 r_.unit,.int .i64 r_.gap,.int .i64 r_.fr,.int .i64 r_.to_]
set_option maxRecDepth 100000 in
set_option maxHeartbeats 4000000 in
theorem GH (n:Nat) {h:Ad} {w:World} (hh:Dv h w) (r_:Ag) {cs_r_:List Value} (hx_r_:rep h r_ cs_r_) (a:A0) {cs_a:List Value} (hx_a:rep h a cs_a) (t_:AB) {cs_t_:List Value} (hx_t_:rep h t_ cs_t_) {r:(List Int)×Int} (H:DM n r_ a t_=some r) :
  Calls Try.prog 47 #[.agg cs_r_.toArray,.agg cs_a.toArray,.agg cs_t_.toArray] w (D6 (fun h v=>∃ v0 v1,v=.tuple #[v0,v1]∧(∃ a c,v0=.slice a r.1.length c∧Ar h a c r.1)∧(v1=.int .i64 r.2)) h w):=by
 obtain⟨_,_,rfl,⟨f,ab,rfl,a4⟩,⟨_,_,rfl,⟨_,_,rfl,rfl,rfl⟩,⟨_,_,rfl,⟨s,af,rfl,a5⟩,⟨_,_,rfl,⟨u,ag,rfl,a6⟩,⟨_,_,rfl,rfl,⟨_,_,rfl,rfl,⟨_,_,rfl,rfl,rfl⟩⟩⟩⟩⟩⟩⟩:=hx_r_
 obtain⟨_,_,rfl,⟨g,y,rfl,ay⟩,⟨_,_,rfl,⟨k,z,rfl,az⟩,⟨l,aa,rfl,a0⟩⟩⟩:=hx_a
 obtain⟨_,_,rfl,⟨m,ac,rfl,a1⟩,⟨_,_,rfl,⟨p,ad,rfl,a2⟩,⟨q,ae,rfl,a3⟩⟩⟩:=hx_t_
 refine enter 36 [.agg (GG f r_ ab s af u ag),.agg (GF g a y k z l aa),.agg (GE m t_ ac p ad q ae)] Try.func47 rfl rfl rfl rfl fun t hk=>?_
 have hm:=Ah.begin h w hh
 unfold DM at H
 refine QT (Ab (wl fun K hK=>?_))
 refine wb (.agg (GG f r_ ab s af u ag)) hk hm fun x df d6 (cl:Kn 36 [(x,0)] [tP 3 0 0,tA 0 (GG f r_ ab s af u ag),tA 1 (GF g a y k z l aa),tA 2 (GE m t_ ac p ad q ae)] df) c0=>hK _ _ ?_
 refine wl fun K hK=>?_
 refine wb (.agg (GF g a y k z l aa)) cl c0 fun ah dg d7 (cm:Kn 36 [(x,0),(ah,0)] [tP 4 1 0,tP 3 0 0,tA 0 (GG f r_ ab s af u ag),tA 1 (GF g a y k z l aa),tA 2 (GE m t_ ac p ad q ae)] dg) c1=>hK _ _ ?_
 refine wl fun K hK=>?_
 refine wb (.agg (GE m t_ ac p ad q ae)) cm c1 fun aj dh d8 (cn:Kn 36 [(x,0),(ah,0),(aj,0)] [tP 5 2 0,tP 4 1 0,tP 3 0 0,tA 0 (GG f r_ ab s af u ag),tA 1 (GF g a y k z l aa),tA 2 (GE m t_ ac p ad q ae)] dh) bg=>hK _ _ ?_
 refine Rk 3 2 [tP 5 2 0,tP 4 1 0,tP 3 0 0] cn bg fun dt co=>?_
 refine wf (QT (Ab (Rk 0 3 [tA 16 (GE m t_ ac p ad q ae),tA 15 (GF g a y k z l aa),tA 14 (GG f r_ ab s af u ag)] co bg fun du cp=>?_)))
 obtain⟨x17,ex17,H⟩:=A3 H
 refine wl fun K hK=>?_
 refine wc [.agg (GG f r_ ab s af u ag),.agg (GF g a y k z l aa),.agg (GE m t_ ac p ad q ae)] cp bg (Gf n bg.has r_ ((Aa (Ae a4) (Aa (Aa Ac Ac) (Aa (Ae a5) (Aa (Ae a6) (Aa Ac (Aa Ac (Aa Ac Ac))))))):rep h r_ _) a ((Aa (Ae ay) (Aa (Ae az) (Ae a0))):rep h a _) t_ ((Aa (Ae a1) (Aa (Ae a2) (Ae a3))):rep h t_ _) ex17) fun d2 bb dk b5 an av=>?_
 replace a4:=a4.mono an
 replace a5:=a5.mono an
 replace a6:=a6.mono an
 replace ay:=ay.mono an
 replace az:=az.mono an
 replace a0:=a0.mono an
 replace a1:=a1.mono an
 replace a2:=a2.mono an
 replace a3:=a3.mono an
 obtain⟨_,_,rfl,⟨d,e,rfl,bt⟩,rfl⟩:=b5
 refine⟨.tup [.c (.slice d x17.1.length e),.c (.int .i64 x17.2)],rfl,fun di (cq:Kn 36 [(x,0),(ah,0),(aj,0)] [(17,.tup [.c (.slice d x17.1.length e),.c (.int .i64 x17.2)]),tA 16 (GE m t_ ac p ad q ae),tA 15 (GF g a y k z l aa),tA 14 (GG f r_ ab s af u ag)] di)=>hK _ _ ?_⟩
 refine Rk 4 5 [tI 9 x17.2,tS 8 d x17.1.length e] cq av fun dv cr=>?_
 refine wf (QT (QT (Ab (Rk 0 2 [tB 21 (x17.2 != 0),tI 9 x17.2,tS 8 d x17.1.length e] cr av fun dw bn=>?_))))
 refine wf (wC ((x17.2 != 0)) bn (fun bj=>?_) (fun bj=>?_))
 ·
  rw [bj,QW] at H
  refine QT (Ab (Rk 0 3 [tI 7 x17.2,tS 6 none 0 0] bn av fun dx ct=>?_))
  refine wf (wp_ret ?_)
  obtain rfl:=QZ H
  exact rt (.tup [.c (.slice none 0 0),.c (.int .i64 x17.2)]) ct av ⟨_,_,rfl,⟨_,_,rfl,Ar.nil⟩,rfl⟩
 ·
  rw [bj,QV] at H
  refine wp_skip (QT (Ab (Rk 0 1 [tS 10 none 0 0,tS 8 d x17.1.length e] bn av fun dy cu=>?_)))
  refine wf (QT (QT (Ab (Rk 0 3 [tI 25 0,tI 24 ((x17.1.length:Nat):Int),tS 23 d x17.1.length e,tS 10 none 0 0] cu av fun dz cv=>?_))))
  refine wf ?_
  have c2:Ah ⟨w,h,Az⟩ bb [(x,0),(ah,0),(aj,0)] [⟨GG f r_ ab s af u ag,some 43⟩,⟨GF g a y k z l aa,some 34⟩,⟨GE m t_ ac p ad q ae,some 76⟩] [⟨none,0,0,3,1,[],0⟩] dk:=av.nilRow 3 1
  have b9:Af bb ([]:List Int) []:=Af.nil
  obtain⟨ao,bz,H⟩:=A3 H
  refine A7 (fun a' w'=>∃ (aq:Option Addr)(au:Nat)(a8:List Value)(bv:Array Value)(bc:Ad),a' = ⟨bv,[]⟩∧Kn 36 [(x,0),(ah,0),(aj,0)] [tS 10 aq ao.length au] bv∧Ah ⟨w,h,Az⟩ bc [(x,0),(ah,0),(aj,0)] [⟨GG f r_ ab s af u ag,some 43⟩,⟨GF g a y k z l aa,some 34⟩,⟨GE m t_ ac p ad q ae,some 76⟩] [⟨aq,ao.length,au,3,1,a8,0⟩] w'∧Ad.le bb bc∧Af bc ao a8) ?_ ?_
  ·
   refine wp_block ?_
   refine A5 (fun da a' w'=>∃ (x_v10:List Int)(x_v11:Int)(al:Option Addr)(am:Nat)(aw:List Value)(bw:Array Value)(bd:Ad),a' = ⟨bw,[]⟩∧Kn 36 [(x,0),(ah,0),(aj,0)] [tI 25 x_v11,tI 24 ((x17.1.length:Nat):Int),tS 23 d x17.1.length e,tS 10 al x_v10.length am] bw∧Ah ⟨w,h,Az⟩ bd [(x,0),(ah,0),(aj,0)] [⟨GG f r_ ab s af u ag,some 43⟩,⟨GF g a y k z l aa,some 34⟩,⟨GE m t_ ac p ad q ae,some 76⟩] [⟨al,x_v10.length,am,3,1,aw,0⟩] w'∧Ad.le bb bd∧Af bd x_v10 aw∧Dz da x17 x_v10 x_v11=some ao) n ?_ ?_
   ·
    exact QY ([]:List Int) ⟨0,none,0,[],_,_,rfl,cv.kp,c2,Ad.le_refl _,b9,bz⟩
   ·
    rintro bh _ d9 ⟨x_v10,x_v11,al,am,aw,bw,bd,rfl,cw,bs,ak,be,ai⟩
    clear bz
    obtain _ | bh:=bh
    ·
     rw [Dz] at ai; cases ai
    rw [Dz] at ai
    replace a4:=a4.mono ak
    replace a5:=a5.mono ak
    replace a6:=a6.mono ak
    replace ay:=ay.mono ak
    replace az:=az.mono ak
    replace a0:=a0.mono ak
    replace a1:=a1.mono ak
    replace a2:=a2.mono ak
    replace a3:=a3.mono ak
    replace bt:=bt.mono ak
    refine QT (Ab (Rk 0 1 [tB 26 (decide (x_v11<((x17.1.length:Nat):Int))),tI 25 x_v11,tI 24 ((x17.1.length:Nat):Int),tS 23 d x17.1.length e,tS 10 al x_v10.length am] cw bs fun d0 bo=>?_))
    refine wf (QT (wC (decide (x_v11<((x17.1.length:Nat):Int))) bo (fun bk=>?_) (fun bk=>?_)))
    ·
     rw [bk,QW] at ai
     refine wp_skip (QT (wp_block (QT (Ab ?_))))
     obtain⟨x27,ex27,ai⟩:=A3 ai
     obtain⟨c3,c4,c9⟩:=Ak ex27
     obtain⟨ax,a7,dl,b6,c8,b7⟩:=bt.get (by decide) c9
     obtain⟨ap,ar,rfl,c5⟩:=c8
     have bf:=bs.addPlc (b:=ax) (o:=a7+(x_v11:Int).toNat*1) (cs:=[.slice ap x27.length ar]) (fun j c hj=>b7 j _ (Al hj)) rfl (by kernel_rfl) (by kernel_rfl)
     refine A6 0 (x_v11) rfl rfl (rfl) rfl (by decide) bo (by rfl) (by rfl) (by rfl) b6 (by rfl) c3 c4 (by kernel_rfl) fun db (cb:Kn 36 [(x,0),(ah,0),(aj,0),(ax,a7+(x_v11:Int).toNat*1)] [tP 27 3 0,tB 26 (decide (x_v11<((x17.1.length:Nat):Int))),tI 25 x_v11,tI 24 ((x17.1.length:Nat):Int),tS 23 d x17.1.length e,tS 10 al x_v10.length am] db)=>?_
     refine Rk 1 2 [tS 12 ap x27.length ar,tI 25 x_v11,tI 24 ((x17.1.length:Nat):Int),tS 23 d x17.1.length e,tS 10 al x_v10.length am] cb bf fun dn cc=>?_
     refine wf (Ab (Rk 0 2 [tS 30 ap x27.length ar,tS 29 al x_v10.length am,tI 25 x_v11,tI 24 ((x17.1.length:Nat):Int),tS 23 d x17.1.length e] cc bf fun dp cd=>?_))
     obtain⟨x31,ex31,ai⟩:=A3 ai
     refine wl fun K hK=>?_
     refine wc [.c (.slice ap x27.length ar)] cd bf (KP bh bf.has x27 c5 ex31) fun d1 bi d3 b4 b1 cz=>?_
     replace be:=be.mono b1
     obtain rfl:=b4
     refine⟨.one (.c (.int .i64 x31)),rfl,fun dc (ce:Kn 36 [(x,0),(ah,0),(aj,0),(ax,a7+(x_v11:Int).toNat*1)] [tI 31 x31,tS 30 ap x27.length ar,tS 29 al x_v10.length am,tI 25 x_v11,tI 24 ((x17.1.length:Nat):Int),tS 23 d x17.1.length e] dc)=>hK _ _ ?_⟩
     refine wl fun K hK=>?_
     refine wS 3 1 [.int .i64 x31] ce cz fun bx dd d4 (cf:Kn 36 [(x,0),(ah,0),(aj,0),(ax,a7+(x_v11:Int).toNat*1)] [tS 32 bx 1 1,tI 31 x31,tS 30 ap x27.length ar,tS 29 al x_v10.length am,tI 25 x_v11,tI 24 ((x17.1.length:Nat):Int),tS 23 d x17.1.length e] dd) b2=>?_
     have bl:Af bi ([x31]:List Int) ([.int .i64 x31]:List Value):=⟨_,_,rfl,(Ac:rep bi (x31:Int) _),rfl⟩
     refine hK _ _ ?_
     obtain⟨x33,ex33,ai⟩:=A3 ai
     obtain⟨bu,cx⟩:=BZ ex33
     refine wl fun K hK=>?_
     refine Bs 0 8 1 _ (x33.length) _ ([.int .i64 x31]:List Value) cf b2 rfl rfl (by decide) rfl (by rfl) (by kernel_rfl) (by rfl) (by rfl) (Af.len bl) (b2.rowCell (i:=1) rfl) bl.one (by rw [bu]; simp <;> omega) (by rw [bu]; exact cx) (by decide) fun a9 ba b3 de d5 ca (cg:Kn 36 [(x,0),(ah,0),(aj,0),(ax,a7+(x_v11:Int).toNat*1)] [tS 33 a9 x33.length ba,tS 32 bx 1 1,tI 31 x31,tS 30 ap x27.length ar,tS 29 al x_v10.length am,tI 25 x_v11,tI 24 ((x17.1.length:Nat):Int),tS 23 d x17.1.length e] de) bp=>?_
     have b8:Af bi x33 (aw++([.int .i64 x31]:List Value)):=by rw [bu]; exact Af.append be bl
     obtain rfl:b3=0:=Nat.le_zero.1 ca
     refine hK _ _ ?_
     refine Rk 5 1 [tS 10 a9 x33.length ba,tI 25 x_v11,tI 24 ((x17.1.length:Nat):Int),tS 23 d x17.1.length e] cg bp fun dq ch=>?_
     refine wf (Ab (Rk 0 2 [tI 25 (IntKind.i64.wrap (x_v11+1)),tS 10 a9 x33.length ba,tI 24 ((x17.1.length:Nat):Int),tS 23 d x17.1.length e] ch bp fun dr ci=>?_))
     refine wf ?_
     exact QY bh ⟨Nat.lt_succ_self _,QY x33 ⟨IntKind.i64.wrap (x_v11+1),a9,ba,aw++([.int .i64 x31]:List Value),_,_,rfl,(ci.keep [25,24,23,10] (by rfl)).cut 3 (by kernel_rfl),(bp.cutRw 1).cutPl 3 (by kernel_rfl),QU ak b1,b8,ai⟩⟩
    ·
     rw [bk,QV] at ai
     refine wp_exit ?_
     obtain rfl:=QZ ai
     exact QY al ⟨am,aw,_,_,rfl,bo.kp,bs,ak,be⟩
  ·
   rintro _ dj ⟨aq,au,a8,bv,bc,rfl,cj,bq,dm,bm⟩
   refine QT (Ab (Rk 0 3 [tI 7 0,tS 6 aq ao.length au] cj bq fun ds ck=>?_))
   refine wf (wp_ret ?_)
   obtain⟨b0,cy,c7,br⟩:=bq.settle (i:=0) rfl
   replace bm:=bm.mono cy
   replace br:Ah ⟨w,h,Az⟩ b0 [(x,0),(ah,0),(aj,0)] [⟨GG f r_ ab s af u ag,some 43⟩,⟨GF g a y k z l aa,some 34⟩,⟨GE m t_ ac p ad q ae,some 76⟩] [⟨aq,ao.length,au,3,1,a8,(a8:List Value).length⟩] dj:=br
   have c6:Ar b0 aq au ao:=⟨_,bm,c7,bq.rowCap (i:=0) rfl⟩
   obtain rfl:=QZ H
   exact rt (.tup [.c (.slice aq ao.length au),.c (.int .i64 0)]) ck br ⟨_,_,rfl,⟨_,_,rfl,c6⟩,rfl⟩
end Go.Proofs.Ytokchpjijlebiaa
