/- Each call computes its plain function. -/
import Derived.Test.YtokchpjijlebiaaProg
import Derived.Test.YtokchpjijlebiaaNQP0
import Derived.Test.YtokchpjijlebiaaNQWP
set_option linter.all false
namespace Go.Proofs.Ytokchpjijlebiaa
open Go Go.RowKit
open Rep (rep)
open KRep (kv)
open VRep (rv)
abbrev Im (p:Option Addr) (q2:A9) (q:Nat):List SC:=[.slice p q2.legs.length q,.int .i64 q2.turn]
abbrev Io (q0:Bm):List SC:=[.int .i64 q0.stop,.int .i64 q0.tm,.int .i64 q0.turned]
abbrev ES (d:Option Addr) (q1:Ag) (i:Nat) (f:Option Addr) (k:Nat) (g:Option Addr) (m:Nat):List SC:=[.slice d q1.legs.length i,.int .i64 q1.turn.lo,.int .i64 q1.turn.hi,.slice f q1.buses.length k,.slice g q1.spares.length m,.int .i64 q1.unit,.int .i64 q1.gap,.int .i64 q1.fr,.int .i64 q1.to_]
set_option maxRecDepth 100000 in
set_option maxHeartbeats 4000000 in
theorem CG (n:Nat) {h:Ad} {w:World} {σ:Type} {J:σ→Ad→World→Prop} (hJ:PO J) {l:Nat} (yield_:σ→Int→Int→Option (σ×Bool)) (hy:∀ (s:σ)(x0:Int)(x1:Int)(s':σ)(b:Bool)(h:Ad)(w:World),J s h w→yield_ s x0 x1=some (s',b)→Yields Try.prog l #[.int .i64 x0,.int .i64 x1] w (fun c w'=>c=b∧∃ h',Ad.le h h'∧J s' h' w')) (s:σ) (hw:J s h w) (q0:Bm) {b_q0:Nat} (hb_q0:Cv h b_q0 q0) (q1:Ag) {b_q1:Nat} (hb_q1:Cv h b_q1 q1) (q2:A9) {b_q2:Nat} (hb_q2:Cv h b_q2 q2) {r:σ} (H:BG n yield_ s q0 q1 q2=some r) :
  Calls Try.prog 106 #[.func (.yield l) #[] #[],.pointer (some ⟨b_q0,0,none⟩),.pointer (some ⟨b_q1,0,none⟩),.pointer (some ⟨b_q2,0,none⟩)] w (fun en w'=>en=.returned (.tuple #[])∧∃ h',Ad.le h h'∧J r h' w'):=by
 obtain⟨_,hx_q0,hc_q0⟩:=id hb_q0
 obtain⟨_,_,rfl,rfl,⟨_,_,rfl,rfl,rfl⟩⟩:=hx_q0
 obtain⟨_,hx_q1,hc_q1⟩:=id hb_q1
 obtain⟨_,_,rfl,⟨d,i,rfl,aa⟩,⟨_,_,rfl,⟨_,_,rfl,rfl,rfl⟩,⟨_,_,rfl,⟨f,k,rfl,ab⟩,⟨_,_,rfl,⟨g,m,rfl,ac⟩,⟨_,_,rfl,rfl,⟨_,_,rfl,rfl,⟨_,_,rfl,rfl,rfl⟩⟩⟩⟩⟩⟩⟩:=hx_q1
 obtain⟨_,hx_q2,hc_q2⟩:=id hb_q2
 obtain⟨_,_,rfl,⟨p,q,rfl,ad⟩,rfl⟩:=hx_q2
 have hh:=hJ.has _ _ _ hw
 refine FN (e:=[(b_q0,0),(b_q1,0),(b_q2,0)]) 49 [.c (.func (.yield l) #[] #[]),.c (.ptr 0 0),.c (.ptr 1 0),.c (.ptr 2 0)] Try.func106 rfl rfl rfl rfl fun t hk=>?_
 have hm:=Ah.begin h w hh
 replace hm:=hm.addPlc (o:=0) (cs:=[.int .i64 q0.stop,.int .i64 q0.tm,.int .i64 q0.turned]) (fun j c hj=>by rw [Nat.zero_add]; exact hc_q0 j _ (Al hj)) rfl (by kernel_rfl) (by kernel_rfl)
 replace hm:=hm.addPlc (o:=0) (cs:=[.slice d q1.legs.length i,.int .i64 q1.turn.lo,.int .i64 q1.turn.hi,.slice f q1.buses.length k,.slice g q1.spares.length m,.int .i64 q1.unit,.int .i64 q1.gap,.int .i64 q1.fr,.int .i64 q1.to_]) (fun j c hj=>by rw [Nat.zero_add]; exact hc_q1 j _ (Al hj)) rfl (by kernel_rfl) (by kernel_rfl)
 replace hm:=hm.addPlc (o:=0) (cs:=[.slice p q2.legs.length q,.int .i64 q2.turn]) (fun j c hj=>by rw [Nat.zero_add]; exact hc_q2 j _ (Al hj)) rfl (by kernel_rfl) (by kernel_rfl)
 replace hm:Ah ⟨w,h,Az⟩ h [(b_q0,0),(b_q1,0),(b_q2,0)] [⟨Io q0,none⟩,⟨ES d q1 i f k g m,none⟩,⟨Im p q2 q,none⟩] [] w:=hm
 unfold BG at H
 refine QT (Ao (by kernel_rfl) ?_)
 replace hm:=hm.drew
 refine At [] [(b_q0,0),(b_q1,0),(b_q2,0)] [⟨Io q0,none⟩,⟨ES d q1 i f k g m,none⟩,⟨Im p q2 q,none⟩] ?_
 refine Dr [0,1,2,3,4,5] (dn 5) [tI 6 q0.tm,tI 5 q0.stop,(0,.one (.c (.func (.yield l) #[] #[]))),tP 1 0 0,tP 2 1 0,tP 3 2 0] hk hm fun cr bt=>?_
 refine AH (by kernel_rfl) ?_
 obtain⟨bh,a9,H⟩:=A3 H
 refine A7 (fun a' w'=>∃ (ap:σ)(a7:World)(ax:Ad)(a3:Array Value)(an:Ad),a' = ⟨a3,[]⟩∧Kn 49 [(b_q0,0),(b_q1,0),(b_q2,0)] [] a3∧Ah ⟨a7,ax,Az⟩ an [(b_q0,0),(b_q1,0),(b_q2,0)] [⟨Io q0,none⟩,⟨ES d q1 i f k g m,none⟩,⟨Im p q2 q,none⟩] [] w'∧Ad.le h an∧J ap ax a7∧bh=.go ap) ?_ ?_
 ·
  refine wp_block ?_
  refine A5 (fun cf a' w'=>∃ (x_v10:Int)(x_v11:Int)(x_v12:σ)(aq:World)(ao:Ad)(a4:Array Value)(aj:Ad),a' = ⟨a4,[]⟩∧Kn 49 [(b_q0,0),(b_q1,0),(b_q2,0)] [tI 6 x_v10,tI 5 x_v11,(0,.one (.c (.func (.yield l) #[] #[]))),tP 1 0 0,tP 2 1 0,tP 3 2 0] a4∧Ah ⟨aq,ao,Az⟩ aj [(b_q0,0),(b_q1,0),(b_q2,0)] [⟨Io q0,none⟩,⟨ES d q1 i f k g m,none⟩,⟨Im p q2 q,none⟩] [] w'∧Ad.le h aj∧J x_v12 ao aq∧AW cf yield_ q0 q1 q2 x_v10 x_v11 x_v12=some bh) n ?_ ?_
  ·
   exact QY q0.tm ⟨q0.stop,s,w,h,_,_,rfl,bt.kp,hm,Ad.le_refl _,hw,a9⟩
  ·
   rintro ah _ c5 ⟨x_v10,x_v11,x_v12,aq,ao,a4,aj,rfl,bu,a1,u,ba,a⟩
   clear a9
   obtain _ | ah:=ah
   ·
    rw [AW] at a; cases a
   rw [AW] at a
   replace hb_q0:=hb_q0.mono u
   replace aa:=aa.mono u
   replace ab:=ab.mono u
   replace ac:=ac.mono u
   replace hb_q1:=hb_q1.mono u
   replace ad:=ad.mono u
   replace hb_q2:=hb_q2.mono u
   refine QT (QT ?_)
   obtain⟨ae,z,a⟩:=A3 a
   refine A7 (fun a' w'=>∃ (ai:World)(af:Ad)(a5:Array Value)(ak:Ad),a' = ⟨a5,[]⟩∧Kn 49 [(b_q0,0),(b_q1,0),(b_q2,0)] [tI 6 x_v10,tI 5 x_v11,(0,.one (.c (.func (.yield l) #[] #[]))),tP 1 0 0,tP 2 1 0,tP 3 2 0,tB 19 ae.1] a5∧Ah ⟨ai,af,Az⟩ ak [(b_q0,0),(b_q1,0),(b_q2,0)] [⟨Io q0,none⟩,⟨ES d q1 i f k g m,none⟩,⟨Im p q2 q,none⟩] [] w'∧Ad.le aj ak∧J ae.2 af ai) ?_ ?_
   ·
    refine JP ?_
    refine I6 0 2 [12,11,6,5,0,1,2,3] [tI 12 x_v11,tA 11 (ES d q1 i f k g m),tI 6 x_v10,tI 5 x_v11,(0,.one (.c (.func (.yield l) #[] #[]))),tP 1 0 0,tP 2 1 0,tP 3 2 0] bu a1.plOk (by kernel_rfl) fun ct bv=>?_
    obtain⟨x13,ex13,z⟩:=A3 z
    refine LQ _ rfl (rfl) fun K hK=>?_
    refine wc [.agg (ES d q1 i f k g m),.c (.int .i64 x_v11)] bv a1 (C9 ah a1.has q1 ((Aa (Ae aa) (Aa (Aa Ac Ac) (Aa (Ae ab) (Aa (Ae ac) (Aa Ac (Aa Ac (Aa Ac Ac))))))):rep aj q1 _) x_v11 ex13) fun c2 cm c6 bl y ag=>?_
    replace hb_q0:=hb_q0.mono y
    replace aa:=aa.mono y
    replace ab:=ab.mono y
    replace ac:=ac.mono y
    replace hb_q1:=hb_q1.mono y
    replace ad:=ad.mono y
    replace hb_q2:=hb_q2.mono y
    obtain rfl:=bl
    refine⟨.one (.c (.bool x13)),rfl,fun ch (bw:Kn 49 [(b_q0,0),(b_q1,0),(b_q2,0)] [tB 13 x13,tI 12 x_v11,tA 11 (ES d q1 i f k g m),tI 6 x_v10,tI 5 x_v11,(0,.one (.c (.func (.yield l) #[] #[]))),tP 1 0 0,tP 2 1 0,tP 3 2 0] ch)=>hK _ _ ?_⟩
    refine I6 3 1 [14,6,5,0,1,2,3] [tB 14 x13,tI 6 x_v10,tI 5 x_v11,(0,.one (.c (.func (.yield l) #[] #[]))),tP 1 0 0,tP 2 1 0,tP 3 2 0] bw ag.plOk (by kernel_rfl) fun bj bc=>?_
    rcases Bool.eq_false_or_eq_true (x13) with al | al
    ·
     rw [al,QW] at z
     have bx:Kn 49 [(b_q0,0),(b_q1,0),(b_q2,0)] [tB 14 true,tI 6 x_v10,tI 5 x_v11,(0,.one (.c (.func (.yield l) #[] #[]))),tP 1 0 0,tP 2 1 0,tP 3 2 0] bj:=(bc.setB 14 true (by rfl) al).kp
     refine I6 4 3 [17,16,15,14,6,5,0,1,2,3] [tI 17 x_v10,tI 16 x_v11,(15,.one (.c (.func (.yield l) #[] #[]))),tB 14 true,tI 6 x_v10,tI 5 x_v11,(0,.one (.c (.func (.yield l) #[] #[]))),tP 1 0 0,tP 2 1 0,tP 3 2 0] bx ag.plOk (by kernel_rfl) fun cu bd=>?_
     obtain⟨x18,ex18,z⟩:=A3 z
     refine O6 7 [.c (.int .i64 x_v11),.c (.int .i64 x_v10)] _ bd rfl rfl (Ai bd (by kernel_rfl)) rfl (by decide) (by rfl) (by rfl) rfl (hy _ x_v11 x_v10 _ _ _ _ (ag.J hJ ba) ex18) fun ck a6 bm ci bz=>?_
     obtain⟨rfl,ar,bf,bb⟩:=bm
     have b0:Kn 49 [(b_q0,0),(b_q1,0),(b_q2,0)] [tB 18 x18.2,tI 17 x_v10,tI 16 x_v11,(15,.one (.c (.func (.yield l) #[] #[]))),tB 14 true,tI 6 x_v10,tI 5 x_v11,(0,.one (.c (.func (.yield l) #[] #[]))),tP 1 0 0,tP 2 1 0,tP 3 2 0] ci:=bz.kp
     have bg:Ah ⟨a6,ar,Az⟩ ar [(b_q0,0),(b_q1,0),(b_q2,0)] [⟨Io q0,none⟩,⟨ES d q1 i f k g m,none⟩,⟨Im p q2 q,none⟩] [] a6:=ag.rebase bf (hJ.has _ _ _ bb) (by kernel_rfl)
     refine I6 8 1 [19,6,5,0,1,2,3] [tB 19 x18.2,tI 6 x_v10,tI 5 x_v11,(0,.one (.c (.func (.yield l) #[] #[]))),tP 1 0 0,tP 2 1 0,tP 3 2 0] b0 bg.plOk (by kernel_rfl) fun cv b1=>?_
     refine J9 (by decide) ?_
     obtain rfl:=QZ z
     exact QY a6 ⟨ar,_,_,rfl,b1.kp,bg,QU y bf,bb⟩
    ·
     rw [al,QV] at z
     have b2:Kn 49 [(b_q0,0),(b_q1,0),(b_q2,0)] [tB 14 false,tI 6 x_v10,tI 5 x_v11,(0,.one (.c (.func (.yield l) #[] #[]))),tP 1 0 0,tP 2 1 0,tP 3 2 0] bj:=(bc.setB 14 false (by rfl) al).kp
     refine I6 4 5 [19,6,5,0,1,2,3] [tB 19 false,tI 6 x_v10,tI 5 x_v11,(0,.one (.c (.func (.yield l) #[] #[]))),tP 1 0 0,tP 2 1 0,tP 3 2 0] b2 ag.plOk (by kernel_rfl) fun cw b3=>?_
     refine J9 (by decide) ?_
     obtain rfl:=QZ z
     exact QY aq ⟨ao,_,_,rfl,b3.kp,ag,y,ba⟩
   ·
    rintro _ c7 ⟨ai,af,a5,ak,rfl,ay,x,v,am⟩
    replace hb_q0:=hb_q0.mono v
    replace aa:=aa.mono v
    replace ab:=ab.mono v
    replace ac:=ac.mono v
    replace hb_q1:=hb_q1.mono v
    replace ad:=ad.mono v
    replace hb_q2:=hb_q2.mono v
    refine wC (ae.1) ay (fun au=>?_) (fun au=>?_)
    ·
     rw [au,QW] at a
     refine wp_skip (wp_block (wp_block (QT (Ab (Rk 0 5 [tB 20 (x_v11 == q0.turned),tI 6 x_v10,tI 5 x_v11,(0,.one (.c (.func (.yield l) #[] #[]))),tP 1 0 0,tP 2 1 0,tP 3 2 0] ay x fun cx az=>?_)))))
     refine wf (wC ((x_v11 == q0.turned)) az (fun av=>?_) (fun av=>?_))
     ·
      rw [av,QW] at a
      refine Ao (by kernel_rfl) ?_
      replace x:=x.drew
      refine At [] [(b_q0,0),(b_q1,0),(b_q2,0)] [⟨Io q0,none⟩,⟨ES d q1 i f k g m,none⟩,⟨Im p q2 q,none⟩] ?_
      refine Dr [0,3,5,6,7,8] [8,7,6,5,3,0] [tI 33 (IntKind.i64.wrap (x_v10+q2.turn)),tI 28 x_v11,tA 25 (ES d q1 i f k g m),(0,.one (.c (.func (.yield l) #[] #[]))),tP 1 0 0,tP 2 1 0,tP 3 2 0] az x fun cy b4=>?_
      obtain⟨x26,ex26,a⟩:=A3 a
      refine Dl 1 fun K hK=>?_
      refine wc [.agg (ES d q1 i f k g m)] b4 x (BJ ah x.has q1 ((Aa (Ae aa) (Aa (Aa Ac Ac) (Aa (Ae ab) (Aa (Ae ac) (Aa Ac (Aa Ac (Aa Ac Ac))))))):rep ak q1 _) ex26) fun c3 cn c8 bn b9 a2=>?_
      obtain rfl:=bn
      refine⟨.one (.c (.int .i64 x26)),rfl,fun cj (b5:Kn 49 [(b_q0,0),(b_q1,0),(b_q2,0)] [tI 26 x26,tI 33 (IntKind.i64.wrap (x_v10+q2.turn)),tI 28 x_v11,tA 25 (ES d q1 i f k g m),(0,.one (.c (.func (.yield l) #[] #[]))),tP 1 0 0,tP 2 1 0,tP 3 2 0] cj)=>hK _ _ a2.plOk ?_⟩
      refine Dr [2,4,9,10] [10,9,4,2,1,8,7,6,5,3,0] [tI 6 (IntKind.i64.wrap (x_v10+q2.turn)),tI 5 (IntKind.i64.wrap ((IntKind.i64.wrap (x26-1))-x_v11)),(0,.one (.c (.func (.yield l) #[] #[]))),tP 1 0 0,tP 2 1 0,tP 3 2 0] b5 a2 fun cz b6=>?_
      refine AH (by kernel_rfl) ?_
      exact QY ah ⟨Nat.lt_succ_self _,QY (IntKind.i64.wrap (x_v10+q2.turn)) ⟨IntKind.i64.wrap ((IntKind.i64.wrap (x26-1))-x_v11),ae.2,ai,af,_,_,rfl,b6.kp,a2,QU u (QU v b9),am,a⟩⟩
     ·
      rw [av,QV] at a
      refine QT (Ab (Rk 0 6 [tB 34 (decide (x_v11<((q2.legs.length:Nat):Int))),tI 6 x_v10,tI 5 x_v11,(0,.one (.c (.func (.yield l) #[] #[]))),tP 1 0 0,tP 2 1 0,tP 3 2 0] az x fun c0 be=>?_))
      refine wf (wC (decide (x_v11<((q2.legs.length:Nat):Int))) be (fun aw=>?_) (fun aw=>?_))
      ·
       rw [aw,QW] at a
       refine QT (Ab (Rk 0 4 [tI 43 x_v11,tS 42 p q2.legs.length q,tI 40 x_v10,tI 5 x_v11,(0,.one (.c (.func (.yield l) #[] #[]))),tP 1 0 0,tP 2 1 0,tP 3 2 0] be x fun c1 b7=>?_))
       obtain⟨x44,ex44,a⟩:=A3 a
       obtain⟨cb,cc,ce⟩:=Ak ex44
       obtain⟨a8,bi,cl,bo,cd,bp⟩:=ad.get (by decide) ce
       obtain rfl:=cd
       have a0:=x.addPlc (b:=a8) (o:=bi+(x_v11:Int).toNat*1) (cs:=[.int .i64 x44]) (fun j c hj=>bp j _ (Al hj)) rfl (by kernel_rfl) (by kernel_rfl)
       refine A6 4 (x_v11) rfl rfl (rfl) rfl (by decide) b7 (by rfl) (by rfl) (by rfl) bo (by rfl) cb cc (by kernel_rfl) fun cg (bq:Kn 49 [(b_q0,0),(b_q1,0),(b_q2,0),(a8,bi+(x_v11:Int).toNat*1)] [tP 44 3 0,tI 43 x_v11,tS 42 p q2.legs.length q,tI 40 x_v10,tI 5 x_v11,(0,.one (.c (.func (.yield l) #[] #[]))),tP 1 0 0,tP 2 1 0,tP 3 2 0] cg)=>?_
       refine Rk 5 3 [tI 6 (IntKind.i64.wrap (x_v10+x44)),tI 5 x_v11,(0,.one (.c (.func (.yield l) #[] #[]))),tP 1 0 0,tP 2 1 0,tP 3 2 0] bq a0 fun cp br=>?_
       refine wf (Ab (Rk 0 3 [tI 5 (IntKind.i64.wrap (x_v11+1)),tI 6 (IntKind.i64.wrap (x_v10+x44)),(0,.one (.c (.func (.yield l) #[] #[]))),tP 1 0 0,tP 2 1 0,tP 3 2 0] br a0 fun cq bs=>?_))
       refine wf ?_
       exact QY ah ⟨Nat.lt_succ_self _,QY (IntKind.i64.wrap (x_v10+x44)) ⟨IntKind.i64.wrap (x_v11+1),ae.2,ai,af,_,_,rfl,(bs.keep [6,5,0,1,2,3] (by rfl)).cut 3 (by kernel_rfl),a0.cutPl 3 (by kernel_rfl),QU u v,am,a⟩⟩
      ·
       rw [aw,QV] at a
       refine wp_ret ?_
       obtain rfl:=QZ a
       obtain rfl:=QZ H
       exact PC (J:=fun w'=>∃ h',Ad.le h h'∧J ae.2 h' w') rfl ⟨ak,QU u v,x.J hJ am⟩
    ·
     rw [au,QV] at a
     refine wp_exit ?_
     obtain rfl:=QZ a
     exact QY ae.2 ⟨ai,af,_,_,rfl,ay.kp,x,QU u v,am,rfl⟩
 ·
  rintro _ c4 ⟨ap,a7,ax,a3,an,rfl,co,ca,b8,bk,rfl⟩
  rw [Ex.bind_go] at H
  obtain rfl:=QZ H
  exact PB (J:=fun w'=>∃ h',Ad.le h h'∧J ap h' w') rfl ⟨an,b8,ca.J hJ bk⟩
end Go.Proofs.Ytokchpjijlebiaa
