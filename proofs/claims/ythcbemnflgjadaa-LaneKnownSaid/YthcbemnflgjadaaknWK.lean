/- Each call computes its plain function. -/
import Derived.Test.YthcbemnflgjadaaProg
import Derived.Test.YthcbemnflgjadaaknP0
set_option linter.all false
namespace Go.Proofs.Ythcbemnflgjadaa
open Go Go.RowKit
open Rep (rep)
open KRep (kv)
open VRep (rv)
set_option maxRecDepth 100000 in
set_option maxHeartbeats 4000000 in
theorem Qo (n:Nat) {h:Ac} {w:World} (hh:Dz h w) (words:List (IK .u16)) {a_words:Option Addr} {c_words:Nat} (hr_words:A5 h a_words c_words words) (at_:Int) {r:Int} (H:HY n words at_=some r) :
  Calls Try.prog 60 #[.slice a_words words.length c_words,.int .i64 at_] w (DI (fun h v=>v=.int .i64 r) h w):=by
 refine enter 16 [.c (.slice a_words words.length c_words),.c (.int .i64 at_)] Try.func60 rfl rfl rfl rfl fun t hk=>?_
 have hm:=Am.begin h w hh
 unfold HY at H
 refine XT (Aa (Rk 0 1 [tS 0 a_words words.length c_words,tI 1 at_] hk hm fun ae m=>?_))
 refine wf (XT (XT (Aa (Rk 0 3 [tB 7 (((words.length:Nat):Int) == 0),tS 0 a_words words.length c_words,tI 1 at_] m hm fun ag d=>?_))))
 refine wf (wC ((((words.length:Nat):Int) == 0)) d (fun a=>?_) (fun a=>?_))
 ·
  rw [a,XW] at H
  refine XT (Aa (Rk 0 1 [tI 4 0] d hm fun ah s=>?_))
  refine wf (wp_ret ?_)
  obtain rfl:=XZ H
  exact rt (.one (.c (.int .i64 0))) s hm rfl
 ·
  rw [a,XV] at H
  refine wp_skip (XT (Aa (Rk 0 4 [tI 11 ((words.length:Nat):Int),tI 9 at_,tS 8 a_words words.length c_words] d hm fun ai u=>?_)))
  obtain⟨x12,ex12,H⟩:=Aq H
  refine S0 4 u rfl rfl (rfl) rfl (by decide) (by rfl) (by rfl) (Kw ex12) fun ab (l:Kn 16 [] [tI 12 (Int.tmod at_ ((words.length:Nat):Int)),tI 11 ((words.length:Nat):Int),tI 9 at_,tS 8 a_words words.length c_words] ab)=>?_
  obtain⟨x13,ex13,H⟩:=Aq H
  obtain⟨x,y,aa⟩:=Ak ex13
  obtain⟨e,g,ad,i,z,k⟩:=hr_words.get (by decide) aa
  obtain rfl:=z
  have f:=hm.addPlc (b:=e) (o:=g+(Int.tmod at_ ((words.length:Nat):Int):Int).toNat*1) (cs:=[.int .u16 x13.n]) (fun j c hj=>k j _ (Al hj)) rfl (by kernel_rfl) (by kernel_rfl)
  refine AT 5 (Int.tmod at_ ((words.length:Nat):Int)) rfl rfl (rfl) rfl (by decide) l (by rfl) (by rfl) (by rfl) i (by rfl) x y (by kernel_rfl) fun ac (p:Kn 16 [(e,g+(Int.tmod at_ ((words.length:Nat):Int):Int).toNat*1)] [tP 13 0 0,tI 12 (Int.tmod at_ ((words.length:Nat):Int)),tI 11 ((words.length:Nat):Int),tI 9 at_,tS 8 a_words words.length c_words] ac)=>?_
  refine Rk 6 3 [tI 4 (IntKind.i64.wrap x13.n)] p f fun af q=>?_
  refine wf (wp_ret ?_)
  obtain rfl:=XZ H
  exact rt (.one (.c (.int .i64 (IntKind.i64.wrap x13.n)))) q f rfl
abbrev Hd (s:Option Addr) (y:Ag) (u:Nat) (z:Option Addr) (aa:Nat):List SC:=[.slice s y.room.length u,.slice z y.buses.length aa,.int .i64 y.broken]
abbrev Rt (p ad:Nat) (d:Int) (ag ai aj am:Nat):AJ:=[(p,0),(ad,0+(d:Int).toNat*1),(ag,ai+(d:Int).toNat*1),(aj,0+(d:Int).toNat*1),(am,0+(d:Int).toNat*1)]
abbrev C8 (x_v12:Int) (f:Option Addr) (x_v10:List Int) (g:Nat) (l:Option Addr) (x_v11:List Int) (m:Nat) (a_words:Option Addr) (words:List (IK .u16)) (c_words:Nat):TM:=[tI 8 x_v12,tS 7 f x_v10.length g,tS 6 l x_v11.length m,tP 2 0 0,tS 1 a_words words.length c_words]
abbrev IA (a_words:Option Addr) (words:List (IK .u16)) (c_words:Nat):TM:=[tP 2 0 0,tS 1 a_words words.length c_words]
set_option maxRecDepth 100000 in
set_option maxHeartbeats 4000000 in
theorem Jt (n:Nat) {h:Ac} {w:World} (hh:Dz h w) (y:Ag) {cs_y:List Value} (hx_y:rep h y cs_y) (words:List (IK .u16)) {a_words:Option Addr} {c_words:Nat} (hr_words:A5 h a_words c_words words) {r:(List Int)×Bool} (H:EP n y words=some r) :
  Calls Try.prog 26 #[.agg cs_y.toArray,.slice a_words words.length c_words] w (DI (fun h v=>∃ v0 v1,v=.tuple #[v0,v1]∧(∃ a c,v0=.slice a r.1.length c∧A5 h a c r.1)∧(v1=.bool r.2)) h w):=by
 obtain⟨_,_,rfl,⟨s,u,rfl,ak⟩,⟨_,_,rfl,⟨z,aa,rfl,a3⟩,rfl⟩⟩:=hx_y
 refine enter 77 [.agg (Hd s y u z aa),.c (.slice a_words words.length c_words)] Try.func26 rfl rfl rfl rfl fun t hk=>?_
 have hm:=Am.begin h w hh
 unfold EP at H
 refine XT (Aa (wl fun K hK=>?_))
 refine wb (.agg (Hd s y u z aa)) hk hm fun p f8 hq (dv:Kn 77 [(p,0)] [tP 2 0 0,tA 0 (Hd s y u z aa),tS 1 a_words words.length c_words] f8) bk=>hK _ _ ?_
 refine Rk 1 2 (IA a_words words c_words) dv bk fun gp dy=>?_
 refine wf (XT (Aa (Rk 0 1 ((tS 6 none 0 0)::(IA a_words words c_words)) dy bk fun gu d6=>?_)))
 refine wf (XT (Aa (Rk 0 3 ((tI 13 ((y.room.length:Nat):Int))::(tS 6 none 0 0)::(IA a_words words c_words)) d6 bk fun gz ea=>?_)))
 obtain⟨x14,ex14,H⟩:=Aq H
 obtain⟨fd,fg,c6⟩:=Rb ex14
 refine wl fun K hK=>?_
 refine Kt 3 1 8 [.int .i64 0] (((y.room.length:Nat):Int)) ea bk rfl rfl (by decide) (by rfl) (by kernel_rfl) (by kernel_rfl) (by rfl) fd fg (by decide) fun az f3 dc (cr:Kn 77 [(p,0)] [(14,.one (.c (.slice az ((((y.room.length:Nat):Int):Int).toNat) ((((y.room.length:Nat):Int):Int).toNat)))),(13,.one (.c (.int .i64 ((y.room.length:Nat):Int)))),(6,.one (.c (.slice none 0 0))),(2,.one (.c (.ptr 0 0))),(1,.one (.c (.slice a_words words.length c_words)))] f3) (bl:Am ⟨w,h,AP⟩ h [(p,0)] [⟨[.slice s y.room.length u,.slice z y.buses.length aa,.int .i64 y.broken],some 25⟩] [⟨az,(((y.room.length:Nat):Int):Int).toNat,(((y.room.length:Nat):Int):Int).toNat,3,1,List.flatten (List.replicate (((y.room.length:Nat):Int):Int).toNat ([.int .i64 0]:List Value)),0⟩] dc)=>?_
 have cn:Ah h x14 (List.flatten (List.replicate (((y.room.length:Nat):Int):Int).toNat ([.int .i64 0]:List Value))):=by rw [c6]; exact Ah.replicate (α:=Int) (x:=0) Ad _
 have ct:(((y.room.length:Nat):Int):Int).toNat=x14.length:=by rw [c6]; simp
 rw [ct] at cr bl
 skip
 rw [ct] at cn
 refine hK _ _ ?_
 refine Rk 4 1 ((tS 7 az x14.length x14.length)::(tS 6 none 0 0)::(IA a_words words c_words)) cr bl fun g9 eu=>?_
 refine wf (XT (XT (Aa (Rk 0 1 ((tI 8 0)::(tS 7 az x14.length x14.length)::(tS 6 none 0 0)::(IA a_words words c_words)) eu bl fun ha ev=>?_))))
 refine wf ?_
 have fa:Am ⟨w,h,AP⟩ h [(p,0)] [⟨Hd s y u z aa,some 25⟩] [⟨az,x14.length,x14.length,3,1,List.flatten (List.replicate x14.length ([.int .i64 0]:List Value)),0⟩,⟨none,0,0,3,1,[],0⟩] dc:=bl.nilRow 3 1
 have dt:Ah h ([]:List Int) []:=Ah.nil
 obtain⟨c8,ch,H⟩:=Aq H
 refine Au (fun a' w'=>∃ (ae:(List Int)×(List Int))(bn:Option Addr)(bp:Nat)(bm:List Value)(au:Option Addr)(av:Nat)(be:List Value)(ca:Array Value)(a4:Ac),a' = ⟨ca,[]⟩∧Kn 77 [(p,0)] [tS 6 au ae.2.length av] ca∧Am ⟨w,h,AP⟩ a4 [(p,0)] [⟨Hd s y u z aa,some 25⟩] [⟨bn,ae.1.length,bp,3,1,bm,0⟩,⟨au,ae.2.length,av,3,1,be,0⟩] w'∧Ac.le h a4∧Ah a4 ae.1 bm∧Ah a4 ae.2 be∧c8=.go ae) ?_ ?_
 ·
  refine wp_block ?_
  refine Ay (fun fv a' w'=>∃ (x_v10:List Int)(x_v11:List Int)(x_v12:Int)(f:Option Addr)(g:Nat)(ac:List Value)(l:Option Addr)(m:Nat)(al:List Value)(cb:Array Value)(a5:Ac),a' = ⟨cb,[]⟩∧Kn 77 [(p,0)] (C8 x_v12 f x_v10 g l x_v11 m a_words words c_words) cb∧Am ⟨w,h,AP⟩ a5 [(p,0)] [⟨Hd s y u z aa,some 25⟩] [⟨f,x_v10.length,g,3,1,ac,0⟩,⟨l,x_v11.length,m,3,1,al,0⟩] w'∧Ac.le h a5∧Ah a5 x_v10 ac∧Ah a5 x_v11 al∧CL fv y words x14 x_v10 x_v11 x_v12=some c8) n ?_ ?_
  ·
   exact XY x14 ⟨([]:List Int),0,az,x14.length,List.flatten (List.replicate x14.length ([.int .i64 0]:List Value)),none,0,[],_,_,rfl,ev.kp,fa,Ac.le_refl _,cn,dt,ch⟩
  ·
   rintro bd _ ho ⟨x_v10,x_v11,x_v12,f,g,ac,l,m,al,cb,a5,rfl,ew,ay,a7,ab,ar,q⟩
   clear ch
   obtain _ | bd:=bd
   ·
    rw [CL] at q; cases q
   rw [CL] at q
   replace ak:=ak.mono a7
   replace a3:=a3.mono a7
   replace hr_words:=hr_words.mono a7
   refine XT (XT (Aa (Rk 0 5 ((tB 19 (decide (x_v12<((y.buses.length:Nat):Int))))::(C8 x_v12 f x_v10 g l x_v11 m a_words words c_words)) ew ay fun hb b1=>?_)))
   refine wf (wC (decide (x_v12<((y.buses.length:Nat):Int))) b1 (fun bt=>?_) (fun bt=>?_))
   ·
    rw [bt,XW] at q
    refine wp_skip (XT (wp_block (XT (As (by kernel_rfl) ?_))))
    replace ay:=ay.drew
    refine Aw [] [(p,0)] [⟨Hd s y u z aa,some 25⟩] ?_
    refine Dr [0,1,2,3,5,6,7] [7,6,5,3,2,1,0] ((tI 29 ((y.room.length:Nat):Int))::(tI 25 (IntKind.i64.wrap ((IntKind.i64.wrap (5*x_v12))+1)))::(tS 22 a_words words.length c_words)::(C8 x_v12 f x_v10 g l x_v11 m a_words words c_words)) b1 ay fun hc ex=>?_
    obtain⟨x26,ex26,q⟩:=Aq q
    refine Dl 4 fun K hK=>?_
    refine wc [.c (.slice a_words words.length c_words),.c (.int .i64 (IntKind.i64.wrap ((IntKind.i64.wrap (5*x_v12))+1)))] ex ay (Qo bd ay.has words hr_words (IntKind.i64.wrap ((IntKind.i64.wrap (5*x_v12))+1)) ex26) fun hf ck hp df a1 bc=>?_
    replace ak:=ak.mono a1
    replace a3:=a3.mono a1
    replace hr_words:=hr_words.mono a1
    replace ab:=ab.mono a1
    replace ar:=ar.mono a1
    obtain rfl:=df
    refine⟨.one (.c (.int .i64 x26)),rfl,fun f6 (ey:Kn 77 [(p,0)] ((tI 26 x26)::(tI 29 ((y.room.length:Nat):Int))::(tI 25 (IntKind.i64.wrap ((IntKind.i64.wrap (5*x_v12))+1)))::(tS 22 a_words words.length c_words)::(C8 x_v12 f x_v10 g l x_v11 m a_words words c_words)) f6)=>hK _ _ bc.plOk ?_⟩
    obtain⟨x30,ex30,q⟩:=Aq q
    refine Tv 8 (fun _ _ _ _ _ h=>h) ey rfl rfl (rfl) rfl (by decide) (by kernel_rfl) (by kernel_rfl) bc.plOk (by rfl) (by rfl) (Kw ex30) fun f7 (ez:Kn 77 [(p,0)] ((tI 30 (Int.tmod x26 ((y.room.length:Nat):Int)))::(tI 26 x26)::(tI 29 ((y.room.length:Nat):Int))::(tI 25 (IntKind.i64.wrap ((IntKind.i64.wrap (5*x_v12))+1)))::(tS 22 a_words words.length c_words)::(C8 x_v12 f x_v10 g l x_v11 m a_words words c_words)) f7)=>?_
    refine Dr [9] [9,8,4,7,6,5,3,2,1,0] ((tI 9 (Int.tmod x26 ((y.room.length:Nat):Int)))::(C8 x_v12 f x_v10 g l x_v11 m a_words words c_words)) ez bc fun hd e0=>?_
    refine AQ (by kernel_rfl) (XT (XT (Aa (Rk 0 1 ((tI 10 0)::(tI 9 (Int.tmod x26 ((y.room.length:Nat):Int)))::(C8 x_v12 f x_v10 g l x_v11 m a_words words c_words)) e0 bc fun he e1=>?_))))
    refine wf ?_
    obtain⟨d,ci,q⟩:=Aq q
    refine Au (fun a' w'=>∃ (cc:Array Value)(an:Ac),a' = ⟨cc,[]⟩∧Kn 77 [(p,0)] ((tI 9 d)::(C8 x_v12 f x_v10 g l x_v11 m a_words words c_words)) cc∧Am ⟨w,h,AP⟩ an [(p,0)] [⟨Hd s y u z aa,some 25⟩] [⟨f,x_v10.length,g,3,1,ac,0⟩,⟨l,x_v11.length,m,3,1,al,0⟩] w'∧Ac.le ck an) ?_ ?_
    ·
     refine wp_block ?_
     refine Ay (fun fw a' w'=>∃ (x_v20:Int)(x_v21:Int)(cd:Array Value)(bh:Ac),a' = ⟨cd,[]⟩∧Kn 77 [(p,0)] ((tI 10 x_v20)::(tI 9 x_v21)::(C8 x_v12 f x_v10 g l x_v11 m a_words words c_words)) cd∧Am ⟨w,h,AP⟩ bh [(p,0)] [⟨Hd s y u z aa,some 25⟩] [⟨f,x_v10.length,g,3,1,ac,0⟩,⟨l,x_v11.length,m,3,1,al,0⟩] w'∧Ac.le ck bh∧CK fw y x14 x_v10 x_v20 x_v21=some d) bd ?_ ?_
     ·
      exact XY 0 ⟨Int.tmod x26 ((y.room.length:Nat):Int),_,_,rfl,e1.kp,bc,Ac.le_refl _,ci⟩
     ·
      rintro b8 _ hr ⟨x_v20,x_v21,cd,bh,rfl,e2,ap,ax,ah⟩
      clear ci
      obtain _ | b8:=b8
      ·
       rw [CK] at ah; cases ah
      rw [CK] at ah
      replace ak:=ak.mono ax
      replace a3:=a3.mono ax
      replace hr_words:=hr_words.mono ax
      replace ab:=ab.mono ax
      replace ar:=ar.mono ax
      refine XT (XT ?_)
      obtain⟨c9,aq,ah⟩:=Aq ah
      refine Au (fun a' w'=>∃ (ce:Array Value)(bq:Ac),a' = ⟨ce,[]⟩∧Kn 77 [(p,0)] [tI 10 x_v20,tI 9 x_v21,tI 8 x_v12,tS 7 f x_v10.length g,tS 6 l x_v11.length m,tP 2 0 0,tS 1 a_words words.length c_words,tB 47 c9] ce∧Am ⟨w,h,AP⟩ bq [(p,0)] [⟨Hd s y u z aa,some 25⟩] [⟨f,x_v10.length,g,3,1,ac,0⟩,⟨l,x_v11.length,m,3,1,al,0⟩] w'∧Ac.le bh bq) ?_ ?_
      ·
       refine As (by kernel_rfl) ?_
       replace ap:=ap.drew
       refine Aw [] [(p,0)] [⟨Hd s y u z aa,some 25⟩] ?_
       refine Dr [0,1,2,3,4,5] (dn 5) ((tB 36 (decide (x_v20<((y.room.length:Nat):Int))))::(tI 10 x_v20)::(tI 9 x_v21)::(C8 x_v12 f x_v10 g l x_v11 m a_words words c_words)) e2 ap fun db co=>?_
       rcases Bool.eq_false_or_eq_true (decide (x_v20<((y.room.length:Nat):Int))) with a6 | a6
       ·
        rw [a6,XW] at aq
        have dw:Kn 77 [(p,0)] ((tB 36 true)::(tI 10 x_v20)::(tI 9 x_v21)::(C8 x_v12 f x_v10 g l x_v11 m a_words words c_words)) db:=(co.setB 36 true (by rfl) a6).kp
        refine Dr [6,7] (dn 7) ((tI 38 x_v21)::(tS 37 f x_v10.length g)::(tB 36 true)::(tI 10 x_v20)::(tI 9 x_v21)::(C8 x_v12 f x_v10 g l x_v11 m a_words words c_words)) dw ap fun gn cp=>?_
        obtain⟨x39,ex39,aq⟩:=Aq aq
        obtain⟨cy,c2,fp⟩:=Ak ex39
        have e3:=AG cy c2
        obtain⟨gb,fj,di⟩:=AL (sz:=1) rfl ab fp
        obtain rfl:=fj
        obtain⟨bo,bi⟩:=AV ap (i:=0) rfl (b0:=0+(x_v21:Int).toNat*1) (Nat.lt_of_lt_of_le (Nat.lt_add_of_pos_right (by decide)) (A0 (sz:=1) rfl ab e3))
        have a8:=ap.addPlc (b:=bo) (o:=0+(x_v21:Int).toNat*1) (cs:=[]) (fun j c hj=>by simp at hj) rfl (by kernel_rfl) (by kernel_rfl)
        have bu:∀ (e:AJ) k c,([.int .i64 x39]:List SC)[k]? = some c→(ac)[0+(x_v21:Int).toNat*1+k]? = some (c.den e):=fun e k c hk=>di k _ (Al hk)
        refine A6 8 (x_v21) [.int .i64 x39] (fun _ _ _ _ _ h=>h) rfl rfl (Aj cp (by kernel_rfl)) rfl (by decide) (by kernel_rfl) (by kernel_rfl) cp ap.plOk (by rfl) (by rfl) (by rfl) bi (by rfl) cy c2 (by kernel_rfl) fun fx (dx:Kn 77 [(p,0),(bo,0+(x_v21:Int).toNat*1)] ((tP 39 1 0)::(tI 38 x_v21)::(tS 37 f x_v10.length g)::(tB 36 true)::(tI 10 x_v20)::(tI 9 x_v21)::(C8 x_v12 f x_v10 g l x_v11 m a_words words c_words)) fx)=>?_
        refine CA [9,10,11,12] [12,11,10,9,8,7,6,5,4,3,2,1,0] [43,42,40,36,10,9,8,7,6,2,1] ((tI 43 x_v21)::(tS 42 s y.room.length u)::(tI 40 x39)::(tB 36 true)::(tI 10 x_v20)::(tI 9 x_v21)::(C8 x_v12 f x_v10 g l x_v11 m a_words words c_words)) (fun _ _ _ _ _ h=>h) dx (A9.peek a8.plOk a8 0 1 rfl rfl bi [.int .i64 x39] (bu _)) (by kernel_rfl) (by rfl) (by kernel_rfl) fun gq cq=>?_
        obtain⟨x44,ex44,aq⟩:=Aq aq
        obtain⟨fb,fe,fq⟩:=Ak ex44
        obtain⟨cg,da,gc,dg,fk,dj⟩:=ak.get (by decide) fq
        obtain rfl:=fk
        have b3:=a8.addPlc (b:=cg) (o:=da+(x_v21:Int).toNat*1) (cs:=[.int .i64 x44]) (fun j c hj=>dj j _ (Al hj)) rfl (by kernel_rfl) (by kernel_rfl)
        refine A6 13 (x_v21) [.int .i64 x44] (fun _ _ _ _ _ h=>h) rfl rfl (Aj cq (by kernel_rfl)) rfl (by decide) (by kernel_rfl) (by kernel_rfl) cq (A9.peek a8.plOk a8 0 1 rfl rfl bi [.int .i64 x39] (bu _)) (by rfl) (by rfl) (by rfl) dg (by rfl) fb fe (by kernel_rfl) fun fy (dz:Kn 77 [(p,0),(bo,0+(x_v21:Int).toNat*1),(cg,da+(x_v21:Int).toNat*1)] ((tP 44 2 0)::(tI 43 x_v21)::(tS 42 s y.room.length u)::(tI 40 x39)::(tB 36 true)::(tI 10 x_v20)::(tI 9 x_v21)::(C8 x_v12 f x_v10 g l x_v11 m a_words words c_words)) fy)=>?_
        refine CA [14,15,16] [16,15,14,13,12,11,10,9,8,7,6,5,4,3,2,1,0] [47,10,9,8,7,6,2,1] ((tB 47 (decide (x39≥x44)))::(tI 10 x_v20)::(tI 9 x_v21)::(C8 x_v12 f x_v10 g l x_v11 m a_words words c_words)) (fun _ _ _ _ _ h=>h) dz (A9.peek b3.plOk b3 0 1 rfl rfl bi [.int .i64 x39] (bu _)) (by kernel_rfl) (by rfl) (by kernel_rfl) fun gr d0=>?_
        refine AQ (by kernel_rfl) ?_
        obtain rfl:=XZ aq
        exact XY _ ⟨_,rfl,(d0.keep [10,9,8,7,6,2,1,47] (by rfl)).cut 1 (by kernel_rfl),b3.cutPl 1 (by kernel_rfl),Ac.le_refl _⟩
       ·
        rw [a6,XV] at aq
        have d1:Kn 77 [(p,0)] ((tB 36 false)::(tI 10 x_v20)::(tI 9 x_v21)::(C8 x_v12 f x_v10 g l x_v11 m a_words words c_words)) db:=(co.setB 36 false (by rfl) a6).kp
        refine Dr [6,7,8,9,10,11,12,13,14,15,16] (dn 16) ((tB 47 false)::(tI 10 x_v20)::(tI 9 x_v21)::(C8 x_v12 f x_v10 g l x_v11 m a_words words c_words)) d1 ap fun gs d2=>?_
        refine AQ (by kernel_rfl) ?_
        obtain rfl:=XZ aq
        exact XY _ ⟨_,rfl,d2.kp,ap,Ac.le_refl _⟩
      ·
       rintro _ hg ⟨ce,bq,rfl,bx,a9,cu⟩
       refine wC (c9) bx (fun br=>?_) (fun br=>?_)
       ·
        rw [Br br] at ah
        refine wp_skip (XT (wp_block (Aa (Rk 0 5 ((tI 54 ((y.room.length:Nat):Int))::(tI 51 (IntKind.i64.wrap (x_v21+1)))::(tI 10 x_v20)::(C8 x_v12 f x_v10 g l x_v11 m a_words words c_words)) bx a9 fun gv d3=>?_))))
        obtain⟨x55,ex55,ah⟩:=Aq ah
        refine S0 5 d3 rfl rfl (rfl) rfl (by decide) (by rfl) (by rfl) (Kw ex55) fun fz (d4:Kn 77 [(p,0)] ((tI 55 (Int.tmod (IntKind.i64.wrap (x_v21+1)) ((y.room.length:Nat):Int)))::(tI 54 ((y.room.length:Nat):Int))::(tI 51 (IntKind.i64.wrap (x_v21+1)))::(tI 10 x_v20)::(C8 x_v12 f x_v10 g l x_v11 m a_words words c_words)) fz)=>?_
        refine Rk 6 1 ((tI 9 (Int.tmod (IntKind.i64.wrap (x_v21+1)) ((y.room.length:Nat):Int)))::(tI 10 x_v20)::(C8 x_v12 f x_v10 g l x_v11 m a_words words c_words)) d4 a9 fun gw d5=>?_
        refine wf (Aa (Rk 0 3 ((tI 10 (IntKind.i64.wrap (x_v20+1)))::(tI 9 (Int.tmod (IntKind.i64.wrap (x_v21+1)) ((y.room.length:Nat):Int)))::(C8 x_v12 f x_v10 g l x_v11 m a_words words c_words)) d5 a9 fun gx d7=>?_))
        refine wf ?_
        exact XY b8 ⟨Nat.lt_succ_self _,XY (IntKind.i64.wrap (x_v20+1)) ⟨Int.tmod (IntKind.i64.wrap (x_v21+1)) ((y.room.length:Nat):Int),_,_,rfl,d7.kp,a9,XU ax cu,ah⟩⟩
       ·
        rw [Bs br] at ah
        refine wp_exit ?_
        obtain rfl:=XZ ah
        exact XY _ ⟨_,rfl,bx.kp,a9,XU ax cu⟩
    ·
     rintro _ hi ⟨cc,an,rfl,d8,a2,bj⟩
     replace ak:=ak.mono bj
     replace ab:=ab.mono bj
     replace ar:=ar.mono bj
     refine XT (XT (As (by kernel_rfl) ?_))
     replace a2:=a2.drew
     refine Aw [] [(p,0)] [⟨Hd s y u z aa,some 25⟩] ?_
     refine Dr [0,1] [1,0] ((tI 57 d)::(tS 56 f x_v10.length g)::(tI 9 d)::(C8 x_v12 f x_v10 g l x_v11 m a_words words c_words)) d8 a2 fun gy d9=>?_
     obtain⟨x58,ex58,q⟩:=Aq q
     obtain⟨cz,c3,fr⟩:=Ak ex58
     have e4:=AG cz c3
     obtain⟨gd,fl,dk⟩:=AL (sz:=1) rfl ab fr
     obtain rfl:=fl
     obtain⟨ad,aw⟩:=AV a2 (i:=0) rfl (b0:=0+(d:Int).toNat*1) (Nat.lt_of_lt_of_le (Nat.lt_add_of_pos_right (by decide)) (A0 (sz:=1) rfl ab e4))
     have ba:=a2.addPlc (b:=ad) (o:=0+(d:Int).toNat*1) (cs:=[]) (fun j c hj=>by simp at hj) rfl (by kernel_rfl) (by kernel_rfl)
     have a0:∀ (e:AJ) k c,([.int .i64 x58]:List SC)[k]? = some c→(ac)[0+(d:Int).toNat*1+k]? = some (c.den e):=fun e k c hk=>dk k _ (Al hk)
     refine A6 2 (d) [.int .i64 x58] (fun _ _ _ _ _ h=>h) rfl rfl (rfl) rfl (by decide) (by kernel_rfl) (by kernel_rfl) d9 a2.plOk (by rfl) (by rfl) (by rfl) aw (by rfl) cz c3 (by kernel_rfl) fun f0 (eb:Kn 77 [(p,0),(ad,0+(d:Int).toNat*1)] ((tP 58 1 0)::(tI 57 d)::(tS 56 f x_v10.length g)::(tI 9 d)::(C8 x_v12 f x_v10 g l x_v11 m a_words words c_words)) f0)=>?_
     refine CA [3,4,5,6] [6,5,4,3,2,1,0] [62,61,59,9,8,7,6,2,1] ((tI 62 d)::(tS 61 s y.room.length u)::(tI 59 x58)::(tI 9 d)::(C8 x_v12 f x_v10 g l x_v11 m a_words words c_words)) (fun _ _ _ _ _ h=>h) eb (A9.peek ba.plOk ba 0 1 rfl rfl aw [.int .i64 x58] (a0 _)) (by kernel_rfl) (by rfl) (by kernel_rfl) fun g0 ec=>?_
     obtain⟨x63,ex63,q⟩:=Aq q
     obtain⟨fc,ff,fs⟩:=Ak ex63
     obtain⟨ag,ai,gf,dh,fm,dl⟩:=ak.get (by decide) fs
     obtain rfl:=fm
     have ao:=ba.addPlc (b:=ag) (o:=ai+(d:Int).toNat*1) (cs:=[.int .i64 x63]) (fun j c hj=>dl j _ (Al hj)) rfl (by kernel_rfl) (by kernel_rfl)
     refine A6 7 (d) [.int .i64 x63] (fun _ _ _ _ _ h=>h) rfl rfl (rfl) rfl (by decide) (by kernel_rfl) (by kernel_rfl) ec (A9.peek ba.plOk ba 0 1 rfl rfl aw [.int .i64 x58] (a0 _)) (by rfl) (by rfl) (by rfl) dh (by rfl) fc ff (by kernel_rfl) fun f1 (ed:Kn 77 [(p,0),(ad,0+(d:Int).toNat*1),(ag,ai+(d:Int).toNat*1)] ((tP 63 2 0)::(tI 62 d)::(tS 61 s y.room.length u)::(tI 59 x58)::(tI 9 d)::(C8 x_v12 f x_v10 g l x_v11 m a_words words c_words)) f1)=>?_
     refine CA [8,9] [9,8,7,6,5,4,3,2,1,0] [65,9,8,7,6,2,1] ((tB 65 (decide (x58≥x63)))::(tI 9 d)::(C8 x_v12 f x_v10 g l x_v11 m a_words words c_words)) (fun _ _ _ _ _ h=>h) ed (A9.peek ao.plOk ao 0 1 rfl rfl aw [.int .i64 x58] (a0 _)) (by kernel_rfl) (by rfl) (by kernel_rfl) fun g1 bz=>?_
     refine AQ (by kernel_rfl) (wC (decide (x58≥x63)) bz (fun bs=>?_) (fun bs=>?_))
     ·
      rw [bs,XW] at q
      refine XT (Aa (Dg 0 2 [5,4] [tB 5 false,tS 4 none 0 0] bz (A9.peek ao.plOk ao 0 1 rfl rfl aw [.int .i64 x58] (a0 _)) (by kernel_rfl) fun g2 ee=>?_))
      refine wf (wp_ret ?_)
      obtain rfl:=XZ q
      obtain rfl:=XZ H
      exact rt (.tup [.c (.slice none 0 0),.c (.bool false)]) ee ao ⟨_,_,rfl,⟨_,_,rfl,A5.nil⟩,rfl⟩
     ·
      rw [bs,XV] at q
      refine wp_skip (XT (Aa (Dg 0 2 [67,66,9,8,7,6,2,1] ((tI 67 d)::(tS 66 f x_v10.length g)::(tI 9 d)::(C8 x_v12 f x_v10 g l x_v11 m a_words words c_words)) bz (A9.peek ao.plOk ao 0 1 rfl rfl aw [.int .i64 x58] (a0 _)) (by kernel_rfl) fun g3 ef=>?_)))
      obtain⟨x68,ex68,q⟩:=Aq q
      obtain⟨c0,c4,ft⟩:=Ak ex68
      have e5:=AG c0 c4
      obtain⟨gg,fn,dm⟩:=AL (sz:=1) rfl ab ft
      obtain rfl:=fn
      obtain⟨aj,cl⟩:=AV ao (i:=0) rfl (b0:=0+(d:Int).toNat*1) (Nat.lt_of_lt_of_le (Nat.lt_add_of_pos_right (by decide)) (A0 (sz:=1) rfl ab e5))
      have bb:=ao.addPlc (b:=aj) (o:=0+(d:Int).toNat*1) (cs:=[]) (fun j c hj=>by simp at hj) rfl (by kernel_rfl) (by kernel_rfl)
      have dp:∀ (e:AJ) k c,([.int .i64 x68]:List SC)[k]? = some c→(ac)[0+(d:Int).toNat*1+k]? = some (c.den e):=fun e k c hk=>dm k _ (Al hk)
      refine AT 2 (d) rfl rfl (rfl) rfl (by decide) ef (by rfl) (by rfl) (by rfl) cl (by rfl) c0 c4 (by kernel_rfl) fun f2 (eg:Kn 77 [(p,0),(ad,0+(d:Int).toNat*1),(ag,ai+(d:Int).toNat*1),(aj,0+(d:Int).toNat*1)] ((tP 68 3 0)::(tI 67 d)::(tS 66 f x_v10.length g)::(tI 9 d)::(C8 x_v12 f x_v10 g l x_v11 m a_words words c_words)) f2)=>?_
      refine Dg 3 2 [70,67,66,9,8,7,6,2,1] ((tI 70 (IntKind.i64.wrap (x68+1)))::(tI 67 d)::(tS 66 f x_v10.length g)::(tI 9 d)::(C8 x_v12 f x_v10 g l x_v11 m a_words words c_words)) eg (A9.peek (A9.peek bb.plOk bb 0 1 rfl rfl aw [.int .i64 x58] (a0 _)) bb 0 3 rfl rfl cl [.int .i64 x68] (dp _)) (by kernel_rfl) fun g4 eh=>?_
      obtain⟨x71,ex71,q⟩:=Aq q
      obtain⟨c1,c5,fu⟩:=Ak ex71
      have b2:=AG c1 c5
      obtain⟨gh,fo,dq⟩:=AL (sz:=1) rfl ab fu
      obtain rfl:=fo
      obtain⟨am,cm⟩:=AV bb (i:=0) rfl (b0:=0+(d:Int).toNat*1) (Nat.lt_of_lt_of_le (Nat.lt_add_of_pos_right (by decide)) (A0 (sz:=1) rfl ab b2))
      have e8:=bb.addPlc (b:=am) (o:=0+(d:Int).toNat*1) (cs:=[]) (fun j c hj=>by simp at hj) rfl (by kernel_rfl) (by kernel_rfl)
      have gi:∀ (e:AJ) k c,([.int .i64 x71]:List SC)[k]? = some c→(ac)[0+(d:Int).toNat*1+k]? = some (c.den e):=fun e k c hk=>dq k _ (Al hk)
      refine AT 5 (d) rfl rfl (rfl) rfl (by decide) eh (by rfl) (by rfl) (by rfl) cm (by rfl) c1 c5 (by kernel_rfl) fun b9 (ei:Kn 77 (Rt p ad d ag ai aj am) ((tP 71 4 0)::(tI 70 (IntKind.i64.wrap (x68+1)))::(tI 67 d)::(tS 66 f x_v10.length g)::(tI 9 d)::(C8 x_v12 f x_v10 g l x_v11 m a_words words c_words)) b9)=>?_
      obtain⟨af,dd,q⟩:=Aq q
      obtain⟨gl,gm,c7⟩:=BR dd
      refine wl fun K hK=>?_
      refine Bg 0 4 0 (0+(d:Int).toNat*1) (.c (.int .i64 (IntKind.i64.wrap (x68+1)))) ei e8 rfl rfl (by rfl) (by rfl) rfl rfl cm rfl (by kernel_rfl) (A0 (sz:=1) rfl ab b2) fun f9 ej e9=>?_
      have dr:Ah an af (ac.take (0+(d:Int).toNat*1+0)++([.int .i64 (IntKind.i64.wrap (x68+1))]:List Value)++ac.drop (0+(d:Int).toNat*1+0+1)):=by rw [c7]; exact Dm (sz:=1) rfl ab b2 (Ad:rep an (IntKind.i64.wrap (x68+1):Int) _)
      have cx:x_v10.length=af.length:=by rw [c7]; simp
      have ek:Kn 77 [(p,0),(ad,0+(d:Int).toNat*1),(ag,ai+(d:Int).toNat*1),(aj,0+(d:Int).toNat*1),(am,0+(d:Int).toNat*1)] [(71,.one (.c (.ptr 4 0))),(70,.one (.c (.int .i64 (IntKind.i64.wrap (x68+1))))),(67,.one (.c (.int .i64 d))),(66,.one (.c (.slice f af.length g))),(9,.one (.c (.int .i64 d))),(8,.one (.c (.int .i64 x_v12))),(7,.one (.c (.slice f af.length g))),(6,.one (.c (.slice l x_v11.length m))),(2,.one (.c (.ptr 0 0))),(1,.one (.c (.slice a_words words.length c_words)))] b9:=by rw [← cx]; exact ej
      have cv:Am ⟨w,h,AP⟩ an [(p,0),(ad,0+(d:Int).toNat*1),(ag,ai+(d:Int).toNat*1),(aj,0+(d:Int).toNat*1),(am,0+(d:Int).toNat*1)] [⟨[.slice s y.room.length u,.slice z y.buses.length aa,.int .i64 y.broken],some 25⟩,⟨[],none⟩,⟨[.int .i64 x63],none⟩,⟨[],none⟩,⟨[],none⟩] [⟨f,af.length,g,3,1,ac.take (0+(d:Int).toNat*1+0)++([.int .i64 (IntKind.i64.wrap (x68+1))]:List Value)++ac.drop (0+(d:Int).toNat*1+0+1),0⟩,⟨l,x_v11.length,m,3,1,al,0⟩] f9:=by rw [← cx]; exact e9
      refine hK _ _ ?_
      have el:Kn 77 (Rt p ad d ag ai aj am) ((tI 9 d)::(tI 8 x_v12)::(tS 7 f af.length g)::(tS 6 l x_v11.length m)::(IA a_words words c_words)) b9:=ek.kp
      refine wf (Aa (Rk 0 2 ((tI 73 d)::(tS 72 l x_v11.length m)::(tI 8 x_v12)::(tS 7 f af.length g)::(IA a_words words c_words)) el cv fun g5 em=>?_))
      refine wl fun K hK=>?_
      refine wS 3 1 [.int .i64 d] em cv fun cf f4 hl (en:Kn 77 (Rt p ad d ag ai aj am) ((tS 74 cf 1 1)::(tI 73 d)::(tS 72 l x_v11.length m)::(tI 8 x_v12)::(tS 7 f af.length g)::(IA a_words words c_words)) f4) cw=>?_
      have bv:Ah an ([d]:List Int) ([.int .i64 d]:List Value):=⟨_,_,rfl,(Ad:rep an (d:Int) _),rfl⟩
      refine hK _ _ ?_
      obtain⟨x75,ex75,q⟩:=Aq q
      obtain⟨b7,e6⟩:=Ce ex75
      refine wl fun K hK=>?_
      refine BG 1 8 1 _ (x75.length) _ ([.int .i64 d]:List Value) en cw rfl rfl (by decide) rfl (by rfl) (by kernel_rfl) (by rfl) (by rfl) (Ah.len bv) (cw.rowCell (i:=2) rfl) bv.one (by rw [b7]; simp <;> omega) (by rw [b7]; exact e6) (by decide) fun bf bg de f5 hn du (eo:Kn 77 (Rt p ad d ag ai aj am) ((tS 75 bf x75.length bg)::(tS 74 cf 1 1)::(tI 73 d)::(tS 72 l x_v11.length m)::(tI 8 x_v12)::(tS 7 f af.length g)::(IA a_words words c_words)) f5) b4=>?_
      have ds:Ah an x75 (al++([.int .i64 d]:List Value)):=by rw [b7]; exact Ah.append ar bv
      obtain rfl:de=0:=Nat.le_zero.1 du
      refine hK _ _ ?_
      refine Rk 4 1 ((tS 6 bf x75.length bg)::(tI 8 x_v12)::(tS 7 f af.length g)::(IA a_words words c_words)) eo b4 fun g6 ep=>?_
      refine wf (Aa (Rk 0 3 ((tI 8 (IntKind.i64.wrap (x_v12+1)))::(tS 6 bf x75.length bg)::(tS 7 f af.length g)::(IA a_words words c_words)) ep b4 fun g7 er=>?_))
      refine wf ?_
      exact XY bd ⟨Nat.lt_succ_self _,XY af ⟨x75,IntKind.i64.wrap (x_v12+1),f,g,ac.take (0+(d:Int).toNat*1+0)++([.int .i64 (IntKind.i64.wrap (x68+1))]:List Value)++ac.drop (0+(d:Int).toNat*1+0+1),bf,bg,al++([.int .i64 d]:List Value),_,_,rfl,(er.keep [8,7,6,2,1] (by rfl)).cut 1 (by kernel_rfl),(b4.cutRw 2).cutPl 1 (by kernel_rfl),XU a7 (XU a1 bj),dr,ds,q⟩⟩
   ·
    rw [bt,XV] at q
    refine wp_exit ?_
    obtain rfl:=XZ q
    exact XY (x_v10,x_v11) ⟨f,g,ac,l,m,al,_,_,rfl,b1.kp,ay,a7,ab,ar,rfl⟩
 ·
  rintro _ ga ⟨ae,bn,bp,bm,au,av,be,ca,a4,rfl,es,b5,gk,gj,bw,rfl⟩
  rw [Ex.bind_go] at H
  refine XT (Aa (Rk 0 3 [tB 5 true,tS 4 au ae.2.length av] es b5 fun g8 et=>?_))
  refine wf (wp_ret ?_)
  obtain⟨cj,e7,fi,b6⟩:=b5.settle (i:=1) rfl
  replace bw:=bw.mono e7
  replace b6:Am ⟨w,h,AP⟩ cj [(p,0)] [⟨Hd s y u z aa,some 25⟩] [⟨bn,ae.1.length,bp,3,1,bm,0⟩,⟨au,ae.2.length,av,3,1,be,(be:List Value).length⟩] ga:=b6
  have fh:A5 cj au av ae.2:=⟨_,bw,fi,b5.rowCap (i:=1) rfl⟩
  obtain rfl:=XZ H
  exact rt (.tup [.c (.slice au ae.2.length av),.c (.bool true)]) et b6 ⟨_,_,rfl,⟨_,_,rfl,fh⟩,rfl⟩
end Go.Proofs.Ythcbemnflgjadaa
