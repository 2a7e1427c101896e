/- Each call computes its plain function. -/
import Derived.Test.YthcbemnflgjadaaProg
import Derived.Test.YthcbemnflgjadaaAmP0
import Derived.Test.YthcbemnflgjadaaAmWD
import Derived.Test.YthcbemnflgjadaaAmWH
set_option linter.all false
namespace Go.Proofs.Ythcbemnflgjadaa
open Go Go.RowKit
open Rep (rep)
open KRep (kv)
open VRep (rv)
set_option maxRecDepth 100000 in
set_option maxHeartbeats 4000000 in
theorem FI (n:Nat) {h:Ac} {w:World} (hh:Dk h w) (words:List (IK .u16)) {a_words:Option Addr} {c_words:Nat} (hr_words:A1 h a_words c_words words) (at_:Int) {r:Int} (H:EA n words at_=some r) :
  Calls Try.prog 60 #[.slice a_words words.length c_words,.int .i64 at_] w (Dz (fun h v=>v=.int .i64 r) h w):=by
 refine enter 16 [.c (.slice a_words words.length c_words),.c (.int .i64 at_)] Try.func60 rfl rfl rfl rfl fun t hk=>?_
 have hm:=Ai.begin h w hh
 unfold EA at H
 refine XT (Aa (Rk 0 1 [tS 0 a_words words.length c_words,tI 1 at_] hk hm fun ae m=>?_))
 refine wf (XT (XT (Aa (Rk 0 3 [tB 7 (((words.length:Nat):Int) == 0),tS 0 a_words words.length c_words,tI 1 at_] m hm fun ag d=>?_))))
 refine wf (wC ((((words.length:Nat):Int) == 0)) d (fun a=>?_) (fun a=>?_))
 ·
  rw [a,XW] at H
  refine XT (Aa (Rk 0 1 [tI 4 0] d hm fun ah s=>?_))
  refine wf (wp_ret ?_)
  obtain rfl:=XZ H
  exact rt (.one (.c (.int .i64 0))) s hm rfl
 ·
  rw [a,XV] at H
  refine wp_skip (XT (Aa (Rk 0 4 [tI 11 ((words.length:Nat):Int),tI 9 at_,tS 8 a_words words.length c_words] d hm fun ai u=>?_)))
  obtain⟨x12,ex12,H⟩:=Ao H
  refine R4 4 u rfl rfl (rfl) rfl (by decide) (by rfl) (by rfl) (KS ex12) fun ab (l:Kn 16 [] [tI 12 (Int.tmod at_ ((words.length:Nat):Int)),tI 11 ((words.length:Nat):Int),tI 9 at_,tS 8 a_words words.length c_words] ab)=>?_
  obtain⟨x13,ex13,H⟩:=Ao H
  obtain⟨x,y,aa⟩:=Ah ex13
  obtain⟨e,g,ad,i,z,k⟩:=hr_words.get (by decide) aa
  obtain rfl:=z
  have f:=hm.addPlc (b:=e) (o:=g+(Int.tmod at_ ((words.length:Nat):Int):Int).toNat*1) (cs:=[.int .u16 x13.n]) (fun j c hj=>k j _ (Aj hj)) rfl (by kernel_rfl) (by kernel_rfl)
  refine A3 5 (Int.tmod at_ ((words.length:Nat):Int)) rfl rfl (rfl) rfl (by decide) l (by rfl) (by rfl) (by rfl) i (by rfl) x y (by kernel_rfl) fun ac (p:Kn 16 [(e,g+(Int.tmod at_ ((words.length:Nat):Int):Int).toNat*1)] [tP 13 0 0,tI 12 (Int.tmod at_ ((words.length:Nat):Int)),tI 11 ((words.length:Nat):Int),tI 9 at_,tS 8 a_words words.length c_words] ac)=>?_
  refine Rk 6 3 [tI 4 (IntKind.i64.wrap x13.n)] p f fun af q=>?_
  refine wf (wp_ret ?_)
  obtain rfl:=XZ H
  exact rt (.one (.c (.int .i64 (IntKind.i64.wrap x13.n)))) q f rfl
abbrev Gt (x22:AX):List SC:=[.int .i64 x22.lo,.int .i64 x22.hi,.int .i64 x22.turn]
abbrev D7 (g p q:Nat) (x_v12:Int) (s:Nat):A9:=[(g,0),(p,q+(x_v12:Int).toNat*3),(s,0)]
abbrev GQ (ai:Option Addr) (y:Ak) (ak:Nat) (ad:Option Addr) (ag:Nat):List SC:=[.slice ai y.room.length ak,.slice ad y.buses.length ag,.int .i64 y.broken]
abbrev Rc (g p q:Nat) (x_v12:Int) (s ae:Nat) (x_v22:Int) (ah aj ao:Nat):A9:=[(g,0),(p,q+(x_v12:Int).toNat*3),(s,0),(ae,0+(IntKind.i64.wrap (x_v22-1):Int).toNat*1),(ah,0+(x_v22:Int).toNat*1),(aj,0+(x_v22:Int).toNat*1),(ao,0+(IntKind.i64.wrap (x_v22-1):Int).toNat*1)]
abbrev RK (g p q:Nat) (x_v12:Int) (s ae:Nat) (x_v22:Int) (ah aj ao ap au aw:Nat):A9:=[(g,0),(p,q+(x_v12:Int).toNat*3),(s,0),(ae,0+(IntKind.i64.wrap (x_v22-1):Int).toNat*1),(ah,0+(x_v22:Int).toNat*1),(aj,0+(x_v22:Int).toNat*1),(ao,0+(IntKind.i64.wrap (x_v22-1):Int).toNat*1),(ap,0+(IntKind.i64.wrap (x_v22-1):Int).toNat*1),(au,0+(x_v22:Int).toNat*1),(aw,0+(x_v22:Int).toNat*1)]
abbrev RL (g p q:Nat) (x_v12:Int) (s ae:Nat) (x_v22:Int) (ah aj ao ap au aw be:Nat):A9:=[(g,0),(p,q+(x_v12:Int).toNat*3),(s,0),(ae,0+(IntKind.i64.wrap (x_v22-1):Int).toNat*1),(ah,0+(x_v22:Int).toNat*1),(aj,0+(x_v22:Int).toNat*1),(ao,0+(IntKind.i64.wrap (x_v22-1):Int).toNat*1),(ap,0+(IntKind.i64.wrap (x_v22-1):Int).toNat*1),(au,0+(x_v22:Int).toNat*1),(aw,0+(x_v22:Int).toNat*1),(be,0+(IntKind.i64.wrap (x_v22-1):Int).toNat*1)]
abbrev Mp (ai:Option Addr) (y:Ak) (ak:Nat) (ad:Option Addr) (ag:Nat) (x22:AX):List BT:=[⟨GQ ai y ak ad ag,some 25⟩,⟨Gt x22,none⟩,⟨Gt x22,some 49⟩]
abbrev Dt (a_words:Option Addr) (words:List (IK .u16)) (c_words:Nat):TM:=[tP 2 0 0,tS 1 a_words words.length c_words]
abbrev HF (x_v22:Int) (d:Option Addr) (x_v21:List Int) (f:Nat) (l:Option Addr) (x_v20:List Int) (m:Nat) (x_v12:Int) (a_words:Option Addr) (words:List (IK .u16)) (c_words:Nat):TM:=(tI 11 x_v22)::(tS 6 d x_v21.length f)::(tS 5 l x_v20.length m)::(tI 7 x_v12)::(Dt a_words words c_words)
abbrev CM (x_v12:Int) (x:Option Addr) (x_v11:List Int) (z:Nat) (ac:Option Addr) (x_v10:List Int) (af:Nat) (a_words:Option Addr) (words:List (IK .u16)) (c_words:Nat):TM:=(tI 7 x_v12)::(tS 6 x x_v11.length z)::(tS 5 ac x_v10.length af)::(Dt a_words words c_words)
abbrev JR (x_v22:Int) (d:Option Addr) (x_v21:List Int) (f:Nat) (l:Option Addr) (an:List Int) (m:Nat) (x_v12:Int) (a_words:Option Addr) (words:List (IK .u16)) (c_words:Nat):TM:=(tI 102 (IntKind.i64.wrap (x_v22-1)))::(tS 100 d x_v21.length f)::(tI 99 x_v22)::(tS 98 d x_v21.length f)::(tI 11 x_v22)::(tS 6 d x_v21.length f)::(tS 5 l an.length m)::(tI 7 x_v12)::(Dt a_words words c_words)
abbrev JS (x_v22:Int) (l:Option Addr) (x_v20:List Int) (m:Nat) (d:Option Addr) (x_v21:List Int) (f:Nat) (x_v12:Int) (a_words:Option Addr) (words:List (IK .u16)) (c_words:Nat):TM:=(tI 86 (IntKind.i64.wrap (x_v22-1)))::(tS 84 l x_v20.length m)::(tI 83 x_v22)::(tS 82 l x_v20.length m)::(HF x_v22 d x_v21 f l x_v20 m x_v12 a_words words c_words)
set_option maxRecDepth 100000 in
set_option maxHeartbeats 4000000 in
theorem OM (n:Nat) {h:Ac} {w:World} (hh:Dk h w) (y:Ak) {cs_y:List Value} (hx_y:rep h y cs_y) (words:List (IK .u16)) {a_words:Option Addr} {c_words:Nat} (hr_words:A1 h a_words c_words words) {r:List Int} (H:Hg n y words=some r) :
  Calls Try.prog 27 #[.agg cs_y.toArray,.slice a_words words.length c_words] w (Dz (fun h v=>∃ a c,v=.slice a r.length c∧A1 h a c r) h w):=by
 obtain⟨_,_,rfl,⟨ai,ak,rfl,bc⟩,⟨_,_,rfl,⟨ad,ag,rfl,a7⟩,rfl⟩⟩:=hx_y
 refine enter 115 [.agg (GQ ai y ak ad ag),.c (.slice a_words words.length c_words)] Try.func27 rfl rfl rfl rfl fun t hk=>?_
 have hm:=Ai.begin h w hh
 unfold Hg at H
 refine XT (Aa (wl fun K hK=>?_))
 refine wb (.agg (GQ ai y ak ad ag)) hk hm fun g j8 fg (gc:Kn 115 [(g,0)] [tP 2 0 0,tA 0 (GQ ai y ak ad ag),tS 1 a_words words.length c_words] j8) cm=>hK _ _ ?_
 refine Rk 1 1 (Dt a_words words c_words) gc cm fun lb gj=>?_
 refine wf (XT (Aa (Rk 0 2 ((tS 6 none 0 0)::(tS 5 none 0 0)::(Dt a_words words c_words)) gj cm fun ld go=>?_)))
 refine wf (XT (XT (Aa (Rk 0 1 ((tI 7 0)::(tS 6 none 0 0)::(tS 5 none 0 0)::(Dt a_words words c_words)) go cm fun lg gs=>?_))))
 refine wf ?_
 have ir:Ai ⟨w,h,AC⟩ h [(g,0)] [⟨GQ ai y ak ad ag,some 25⟩] [⟨none,0,0,3,1,[],0⟩] fg:=cm.nilRow 3 1
 have fu:Ae h ([]:List Int) []:=Ae.nil
 have iu:Ai ⟨w,h,AC⟩ h [(g,0)] [⟨GQ ai y ak ad ag,some 25⟩] [⟨none,0,0,3,1,[],0⟩,⟨none,0,0,3,1,[],0⟩] fg:=ir.nilRow 3 1
 have fv:Ae h ([]:List Int) []:=Ae.nil
 obtain⟨az,dz,H⟩:=Ao H
 refine As (fun a' w'=>∃ (bd:Option Addr)(bf:Nat)(cd:List Value)(ct:Option Addr)(cv:Nat)(cr:List Value)(dv:Array Value)(b6:Ac),a' = ⟨dv,[]⟩∧Kn 115 [(g,0)] [tS 5 bd az.1.length bf] dv∧Ai ⟨w,h,AC⟩ b6 [(g,0)] [⟨GQ ai y ak ad ag,some 25⟩] [⟨bd,az.1.length,bf,3,1,cd,0⟩,⟨ct,az.2.length,cv,3,1,cr,0⟩] w'∧Ac.le h b6∧Ae b6 az.1 cd∧Ae b6 az.2 cr) ?_ ?_
 ·
  refine wp_block ?_
  refine At (fun jv a' w'=>∃ (x_v10:List Int)(x_v11:List Int)(x_v12:Int)(ac:Option Addr)(af:Nat)(bl:List Value)(x:Option Addr)(z:Nat)(bm:List Value)(dw:Array Value)(b7:Ac),a' = ⟨dw,[]⟩∧Kn 115 [(g,0)] (CM x_v12 x x_v11 z ac x_v10 af a_words words c_words) dw∧Ai ⟨w,h,AC⟩ b7 [(g,0)] [⟨GQ ai y ak ad ag,some 25⟩] [⟨ac,x_v10.length,af,3,1,bl,0⟩,⟨x,x_v11.length,z,3,1,bm,0⟩] w'∧Ac.le h b7∧Ae b7 x_v10 bl∧Ae b7 x_v11 bm∧Di jv y words x_v10 x_v11 x_v12=some az) n ?_ ?_
  ·
   exact XY ([]:List Int) ⟨([]:List Int),0,none,0,[],none,0,[],_,_,rfl,gs.kp,iu,Ac.le_refl _,fu,fv,dz⟩
  ·
   rintro bx _ mh ⟨x_v10,x_v11,x_v12,ac,af,bl,x,z,bm,dw,b7,rfl,h0,co,cc,bp,bq,al⟩
   clear dz
   obtain _ | bx:=bx
   ·
    rw [Di] at al; cases al
   rw [Di] at al
   replace bc:=bc.mono cc
   replace a7:=a7.mono cc
   replace hr_words:=hr_words.mono cc
   refine XT (XT (Aa (Rk 0 5 ((tB 16 (decide (x_v12<((y.buses.length:Nat):Int))))::(CM x_v12 x x_v11 z ac x_v10 af a_words words c_words)) h0 co fun ly c8=>?_)))
   refine wf (wC (decide (x_v12<((y.buses.length:Nat):Int))) c8 (fun c1=>?_) (fun c1=>?_))
   ·
    rw [c1,XW] at al
    refine wp_skip (XT (wp_block (XT (Aa (Rk 0 3 ((tI 21 x_v12)::(tS 20 ad y.buses.length ag)::(CM x_v12 x x_v11 z ac x_v10 af a_words words c_words)) c8 co fun lz h1=>?_)))))
    obtain⟨x22,ex22,al⟩:=Ao al
    obtain⟨i4,i5,jt⟩:=Ah ex22
    obtain⟨p,q,kr,fq,ji,f9⟩:=a7.get (by decide) jt
    obtain⟨_,_,rfl,rfl,⟨_,_,rfl,rfl,rfl⟩⟩:=ji
    have eh:=co.addPlc (b:=p) (o:=q+(x_v12:Int).toNat*3) (cs:=(Gt x22)) (fun j c hj=>f9 j _ (Aj hj)) rfl (by kernel_rfl) (by kernel_rfl)
    refine A3 3 (x_v12) rfl rfl (rfl) rfl (by decide) h1 (by rfl) (by rfl) (by rfl) fq (by rfl) i4 i5 (by kernel_rfl) fun j7 (h2:Kn 115 [(g,0),(p,q+(x_v12:Int).toNat*3)] ((tP 22 1 0)::(tI 21 x_v12)::(tS 20 ad y.buses.length ag)::(CM x_v12 x x_v11 z ac x_v10 af a_words words c_words)) j7)=>?_
    refine Rk 4 1 ((tA 23 (Gt x22))::(CM x_v12 x x_v11 z ac x_v10 af a_words words c_words)) h2 eh fun l0 h3=>?_
    refine wl fun K hK=>?_
    refine wa [.int .i64 0,.int .i64 0,.int .i64 0] h3 eh fun s ff mi (h4:Kn 115 (D7 g p q x_v12 s) ((tP 8 2 0)::(tA 23 (Gt x22))::(CM x_v12 x x_v11 z ac x_v10 af a_words words c_words)) ff) i3=>hK _ _ ?_
    refine wl fun K hK=>?_
    refine D6 2 0 (.agg (Gt x22)) (Gt x22) h4 i3 fun mj h5 dj=>hK _ _ ?_
    have h6:Kn 115 (D7 g p q x_v12 s) ((tP 8 2 0)::(CM x_v12 x x_v11 z ac x_v10 af a_words words c_words)) ff:=h5.kp
    refine wf (XT (Aa (Rk 0 2 ((tI 25 x_v12)::(tS 24 a_words words.length c_words)::(tP 8 2 0)::(CM x_v12 x x_v11 z ac x_v10 af a_words words c_words)) h6 dj fun l1 h7=>?_)))
    obtain⟨x26,ex26,al⟩:=Ao al
    refine wl fun K hK=>?_
    refine wc [.c (.slice a_words words.length c_words),.c (.int .i64 x_v12)] h7 dj (FI bx dj.has words hr_words x_v12 ex26) fun l7 fp mk fo bs av=>?_
    replace bc:=bc.mono bs
    replace a7:=a7.mono bs
    replace hr_words:=hr_words.mono bs
    replace bp:=bp.mono bs
    replace bq:=bq.mono bs
    obtain rfl:=fo
    refine⟨.one (.c (.int .i64 x26)),rfl,fun j9 (h8:Kn 115 (D7 g p q x_v12 s) ((tI 26 x26)::(tI 25 x_v12)::(tS 24 a_words words.length c_words)::(tP 8 2 0)::(CM x_v12 x x_v11 z ac x_v10 af a_words words c_words)) j9)=>hK _ _ ?_⟩
    refine Rk 3 1 ((tI 9 x26)::(tP 8 2 0)::(CM x_v12 x x_v11 z ac x_v10 af a_words words c_words)) h8 av fun l2 h9=>?_
    refine wf (XT (A0 (by kernel_rfl) ?_))
    replace av:=av.drew
    refine A4 [] (D7 g p q x_v12 s) (Mp ai y ak ad ag x22) ?_
    refine Dr [0,1,2,3,4,5,6,7,8,9] (dn 9) ((tI 36 (IntKind.i64.wrap ((IntKind.i64.wrap (x22.hi-x22.lo))+1)))::(tI 30 (IntKind.i64.wrap (Int.tdiv x26 3)))::(tI 28 x22.lo)::(tI 9 x26)::(tP 8 2 0)::(CM x_v12 x x_v11 z ac x_v10 af a_words words c_words)) h9 av fun l3 ia=>?_
    obtain⟨x37,ex37,al⟩:=Ao al
    refine R5 10 (fun _ _ _ _ _ h=>h) ia rfl rfl (rfl) rfl (by decide) (by kernel_rfl) (by kernel_rfl) av.plOk (by rfl) (by rfl) (KS ex37) fun ka (ib:Kn 115 (D7 g p q x_v12 s) ((tI 37 (Int.tmod (IntKind.i64.wrap (Int.tdiv x26 3)) (IntKind.i64.wrap ((IntKind.i64.wrap (x22.hi-x22.lo))+1))))::(tI 36 (IntKind.i64.wrap ((IntKind.i64.wrap (x22.hi-x22.lo))+1)))::(tI 30 (IntKind.i64.wrap (Int.tdiv x26 3)))::(tI 28 x22.lo)::(tI 9 x26)::(tP 8 2 0)::(CM x_v12 x x_v11 z ac x_v10 af a_words words c_words)) ka)=>?_
    refine Dr [11,12] (dn 12) ((tI 10 (IntKind.i64.wrap (x22.lo+(Int.tmod (IntKind.i64.wrap (Int.tdiv x26 3)) (IntKind.i64.wrap ((IntKind.i64.wrap (x22.hi-x22.lo))+1))))))::(tI 9 x26)::(tP 8 2 0)::(CM x_v12 x x_v11 z ac x_v10 af a_words words c_words)) ib av fun l4 ic=>?_
    refine AZ (by kernel_rfl) (XT (XT (Aa (Rk 0 2 ((tI 40 (Int.tmod x26 3))::(tI 10 (IntKind.i64.wrap (x22.lo+(Int.tmod (IntKind.i64.wrap (Int.tdiv x26 3)) (IntKind.i64.wrap ((IntKind.i64.wrap (x22.hi-x22.lo))+1))))))::(tP 8 2 0)::(CM x_v12 x x_v11 z ac x_v10 af a_words words c_words)) ic av fun l5 ie=>?_))))
    refine wf (wp_block (XT (Aa (Rk 0 2 ((tB 41 ((Int.tmod x26 3) == 0))::(tI 40 (Int.tmod x26 3))::(tI 10 (IntKind.i64.wrap (x22.lo+(Int.tmod (IntKind.i64.wrap (Int.tdiv x26 3)) (IntKind.i64.wrap ((IntKind.i64.wrap (x22.hi-x22.lo))+1))))))::(tP 8 2 0)::(CM x_v12 x x_v11 z ac x_v10 af a_words words c_words)) ie av fun k6 c5=>?_))))
    refine wf ?_
    obtain⟨am,bg,al⟩:=Ao al
    refine As (fun a' w'=>∃ (dp:Array Value)(bn:Ac),a' = ⟨dp,[]⟩∧Kn 115 (D7 g p q x_v12 s) ((tI 10 am)::(CM x_v12 x x_v11 z ac x_v10 af a_words words c_words)) dp∧Ai ⟨w,h,AC⟩ bn (D7 g p q x_v12 s) (Mp ai y ak ad ag x22) [⟨ac,x_v10.length,af,3,1,bl,0⟩,⟨x,x_v11.length,z,3,1,bm,0⟩] w'∧Ac.le fp bn) ?_ ?_
    ·
     refine wC (((Int.tmod x26 3) == 0)) c5 (fun cy=>?_) (fun cy=>?_)
     ·
      rw [cy,XW] at bg
      refine Aa (Rk 0 3 ((tI 10 x22.lo)::(CM x_v12 x x_v11 z ac x_v10 af a_words words c_words)) c5 av fun k7 gd=>?_)
      refine wf ?_
      obtain rfl:=XZ bg
      exact XY _ ⟨_,rfl,gd.kp,av,Ac.le_refl _⟩
     ·
      rw [cy,XV] at bg
      refine XT (Aa (Rk 0 2 ((tB 45 ((Int.tmod x26 3) == 1))::(tI 10 (IntKind.i64.wrap (x22.lo+(Int.tmod (IntKind.i64.wrap (Int.tdiv x26 3)) (IntKind.i64.wrap ((IntKind.i64.wrap (x22.hi-x22.lo))+1))))))::(tP 8 2 0)::(CM x_v12 x x_v11 z ac x_v10 af a_words words c_words)) c5 av fun k8 c6=>?_))
      refine wf (wC (((Int.tmod x26 3) == 1)) c6 (fun cz=>?_) (fun cz=>?_))
      ·
       rw [cz,XW] at bg
       refine Aa (Rk 0 3 ((tI 10 x22.hi)::(CM x_v12 x x_v11 z ac x_v10 af a_words words c_words)) c6 av fun k9 gf=>?_)
       refine wf ?_
       obtain rfl:=XZ bg
       exact XY _ ⟨_,rfl,gf.kp,av,Ac.le_refl _⟩
      ·
       rw [cz,XV] at bg
       refine wp_skip ?_
       obtain rfl:=XZ bg
       exact XY _ ⟨_,rfl,c6.kp,av,Ac.le_refl _⟩
    ·
     rintro _ l8 ⟨dp,bn,rfl,gg,eb,br⟩
     replace hr_words:=hr_words.mono br
     replace bp:=bp.mono br
     refine XT (Aa (Rk 0 2 ((tI 50 x_v12)::(tS 49 ac x_v10.length af)::(tI 10 am)::(tI 7 x_v12)::(tS 6 x x_v11.length z)::(Dt a_words words c_words)) gg eb fun la gh=>?_))
     refine wl fun K hK=>?_
     refine wS 3 1 [.int .i64 x_v12] gh eb fun a2 jw l9 (gi:Kn 115 (D7 g p q x_v12 s) ((tS 51 a2 1 1)::(tI 50 x_v12)::(tS 49 ac x_v10.length af)::(tI 10 am)::(tI 7 x_v12)::(tS 6 x x_v11.length z)::(Dt a_words words c_words)) jw) ec=>?_
     have bh:Ae bn ([x_v12]:List Int) ([.int .i64 x_v12]:List Value):=⟨_,_,rfl,(Ad:rep bn (x_v12:Int) _),rfl⟩
     refine hK _ _ ?_
     obtain⟨x52,ex52,al⟩:=Ao al
     obtain⟨dk,ig⟩:=Bn ex52
     refine wl fun K hK=>?_
     refine Bc 0 8 1 _ (x52.length) _ ([.int .i64 x_v12]:List Value) gi ec rfl rfl (by decide) rfl (by rfl) (by kernel_rfl) (by rfl) (by rfl) (Ae.len bh) (ec.rowCell (i:=2) rfl) bh.one (by rw [dk]; simp <;> omega) (by rw [dk]; exact ig) (by decide) fun a3 a5 fl jx ma ga (gk:Kn 115 (D7 g p q x_v12 s) ((tS 52 a3 x52.length a5)::(tS 51 a2 1 1)::(tI 50 x_v12)::(tS 49 ac x_v10.length af)::(tI 10 am)::(tI 7 x_v12)::(tS 6 x x_v11.length z)::(Dt a_words words c_words)) jx) dd=>?_
     have c2:Ae bn x52 (bl++([.int .i64 x_v12]:List Value)):=by rw [dk]; exact Ae.append bp bh
     obtain rfl:fl=0:=Nat.le_zero.1 ga
     refine hK _ _ ?_
     refine Rk 4 7 ((tI 59 (IntKind.i64.wrap ((IntKind.i64.wrap (2*x_v12))+1)))::(tS 56 a_words words.length c_words)::(tI 55 (IntKind.i64.wrap (2*am)))::(tS 53 x x_v11.length z)::(tS 52 a3 x52.length a5)::(tI 7 x_v12)::(Dt a_words words c_words)) gk dd fun lc gl=>?_
     obtain⟨x60,ex60,al⟩:=Ao al
     refine wl fun K hK=>?_
     refine wc [.c (.slice a_words words.length c_words),.c (.int .i64 (IntKind.i64.wrap ((IntKind.i64.wrap (2*x_v12))+1)))] gl dd (FI bx dd.has words hr_words (IntKind.i64.wrap ((IntKind.i64.wrap (2*x_v12))+1)) ex60) fun l6 b4 mb fn bi ed=>?_
     replace bc:=bc.mono (XU br bi)
     replace a7:=a7.mono (XU br bi)
     replace hr_words:=hr_words.mono bi
     replace c2:=c2.mono bi
     replace bq:=bq.mono (XU br bi)
     replace bh:=bh.mono bi
     obtain rfl:=fn
     refine⟨.one (.c (.int .i64 x60)),rfl,fun jy (gm:Kn 115 (D7 g p q x_v12 s) ((tI 60 x60)::(tI 59 (IntKind.i64.wrap ((IntKind.i64.wrap (2*x_v12))+1)))::(tS 56 a_words words.length c_words)::(tI 55 (IntKind.i64.wrap (2*am)))::(tS 53 x x_v11.length z)::(tS 52 a3 x52.length a5)::(tI 7 x_v12)::(Dt a_words words c_words)) jy)=>hK _ _ ?_⟩
     refine Rk 12 2 ((tI 62 (IntKind.i64.wrap ((IntKind.i64.wrap (2*am))+(Int.tmod x60 2))))::(tS 53 x x_v11.length z)::(tS 52 a3 x52.length a5)::(tI 7 x_v12)::(Dt a_words words c_words)) gm ed fun lf gn=>?_
     refine wl fun K hK=>?_
     refine wS 3 1 [.int .i64 (IntKind.i64.wrap ((IntKind.i64.wrap (2*am))+(Int.tmod x60 2)))] gn ed fun a4 jz mc (gp:Kn 115 (D7 g p q x_v12 s) ((tS 63 a4 1 1)::(tI 62 (IntKind.i64.wrap ((IntKind.i64.wrap (2*am))+(Int.tmod x60 2))))::(tS 53 x x_v11.length z)::(tS 52 a3 x52.length a5)::(tI 7 x_v12)::(Dt a_words words c_words)) jz) ee=>?_
     have cb:Ae b4 ([IntKind.i64.wrap ((IntKind.i64.wrap (2*am))+(Int.tmod x60 2))]:List Int) ([.int .i64 (IntKind.i64.wrap ((IntKind.i64.wrap (2*am))+(Int.tmod x60 2)))]:List Value):=⟨_,_,rfl,(Ad:rep b4 (IntKind.i64.wrap ((IntKind.i64.wrap (2*am))+(Int.tmod x60 2)):Int) _),rfl⟩
     refine hK _ _ ?_
     obtain⟨x64,ex64,al⟩:=Ao al
     obtain⟨dl,ih⟩:=Bn ex64
     refine wl fun K hK=>?_
     refine Bc 1 8 1 _ (x64.length) _ ([.int .i64 (IntKind.i64.wrap ((IntKind.i64.wrap (2*am))+(Int.tmod x60 2)))]:List Value) gp ee rfl rfl (by decide) rfl (by rfl) (by kernel_rfl) (by rfl) (by rfl) (Ae.len cb) (ee.rowCell (i:=3) rfl) cb.one (by rw [dl]; simp <;> omega) (by rw [dl]; exact ih) (by decide) fun ce cf fm j0 md gb (gq:Kn 115 (D7 g p q x_v12 s) ((tS 64 ce x64.length cf)::(tS 63 a4 1 1)::(tI 62 (IntKind.i64.wrap ((IntKind.i64.wrap (2*am))+(Int.tmod x60 2))))::(tS 53 x x_v11.length z)::(tS 52 a3 x52.length a5)::(tI 7 x_v12)::(Dt a_words words c_words)) j0) de=>?_
     have fr:Ae b4 x64 (bm++([.int .i64 (IntKind.i64.wrap ((IntKind.i64.wrap (2*am))+(Int.tmod x60 2)))]:List Value)):=by rw [dl]; exact Ae.append bq cb
     obtain rfl:fm=0:=Nat.le_zero.1 gb
     refine hK _ _ ?_
     refine Rk 16 2 ((tS 6 ce x64.length cf)::(tS 5 a3 x52.length a5)::(tI 7 x_v12)::(Dt a_words words c_words)) gq de fun lh gr=>?_
     refine wf (XT (Aa (Rk 0 2 ((tI 11 x_v12)::(tS 6 ce x64.length cf)::(tS 5 a3 x52.length a5)::(tI 7 x_v12)::(Dt a_words words c_words)) gr de fun li gu=>?_)))
     refine wf ?_
     obtain⟨ay,dy,al⟩:=Ao al
     refine As (fun a' w'=>∃ (bz:Option Addr)(b2:Nat)(cp:List Value)(b1:Option Addr)(b3:Nat)(cq:List Value)(dq:Array Value)(b5:Ac),a' = ⟨dq,[]⟩∧Kn 115 (D7 g p q x_v12 s) ((tS 6 b1 ay.2.length b3)::(tS 5 bz ay.1.length b2)::(tI 7 x_v12)::(Dt a_words words c_words)) dq∧Ai ⟨w,h,AC⟩ b5 (D7 g p q x_v12 s) (Mp ai y ak ad ag x22) [⟨bz,ay.1.length,b2,3,1,cp,0⟩,⟨b1,ay.2.length,b3,3,1,cq,0⟩,⟨a2,1,1,3,1,([.int .i64 x_v12]:List Value),0⟩,⟨a4,1,1,3,1,([.int .i64 (IntKind.i64.wrap ((IntKind.i64.wrap (2*am))+(Int.tmod x60 2)))]:List Value),0⟩] w'∧Ac.le b4 b5∧Ae b5 ay.1 cp∧Ae b5 ay.2 cq) ?_ ?_
     ·
      refine wp_block ?_
      refine At (fun ju a' w'=>∃ (x_v20:List Int)(x_v21:List Int)(x_v22:Int)(l:Option Addr)(m:Nat)(u:List Value)(d:Option Addr)(f:Nat)(ab:List Value)(dr:Array Value)(bo:Ac),a' = ⟨dr,[]⟩∧Kn 115 (D7 g p q x_v12 s) (HF x_v22 d x_v21 f l x_v20 m x_v12 a_words words c_words) dr∧Ai ⟨w,h,AC⟩ bo (D7 g p q x_v12 s) (Mp ai y ak ad ag x22) [⟨l,x_v20.length,m,3,1,u,0⟩,⟨d,x_v21.length,f,3,1,ab,0⟩,⟨a2,1,1,3,1,([.int .i64 x_v12]:List Value),0⟩,⟨a4,1,1,3,1,([.int .i64 (IntKind.i64.wrap ((IntKind.i64.wrap (2*am))+(Int.tmod x60 2)))]:List Value),0⟩] w'∧Ac.le b4 bo∧Ae bo x_v20 u∧Ae bo x_v21 ab∧CD ju  x_v20 x_v21 x_v22=some ay) bx ?_ ?_
      ·
       exact XY x52 ⟨x64,x_v12,a3,a5,bl++([.int .i64 x_v12]:List Value),ce,cf,bm++([.int .i64 (IntKind.i64.wrap ((IntKind.i64.wrap (2*am))+(Int.tmod x60 2)))]:List Value),_,_,rfl,gu.kp,de,Ac.le_refl _,c2,fr,dy⟩
      ·
       rintro dm _ me ⟨x_v20,x_v21,x_v22,l,m,u,d,f,ab,dr,bo,rfl,gv,a6,bj,ax,ar,aa⟩
       clear dy
       obtain _ | dm:=dm
       ·
        rw [CD] at aa; cases aa
       rw [CD] at aa
       replace bc:=bc.mono bj
       replace a7:=a7.mono bj
       replace hr_words:=hr_words.mono bj
       replace bh:=bh.mono bj
       replace cb:=cb.mono bj
       refine XT (XT ?_)
       obtain⟨fb,a9,aa⟩:=Ao aa
       refine As (fun a' w'=>∃ (ds:Array Value)(aq:Ac),a' = ⟨ds,[]⟩∧Kn 115 (D7 g p q x_v12 s) [tI 11 x_v22,tS 6 d x_v21.length f,tS 5 l x_v20.length m,tI 7 x_v12,tP 2 0 0,tS 1 a_words words.length c_words,tB 79 fb] ds∧Ai ⟨w,h,AC⟩ aq (D7 g p q x_v12 s) (Mp ai y ak ad ag x22) [⟨l,x_v20.length,m,3,1,u,0⟩,⟨d,x_v21.length,f,3,1,ab,0⟩,⟨a2,1,1,3,1,([.int .i64 x_v12]:List Value),0⟩,⟨a4,1,1,3,1,([.int .i64 (IntKind.i64.wrap ((IntKind.i64.wrap (2*am))+(Int.tmod x60 2)))]:List Value),0⟩] w'∧Ac.le bo aq) ?_ ?_
       ·
        refine A0 (by kernel_rfl) ?_
        replace a6:=a6.drew
        refine A4 [] (D7 g p q x_v12 s) (Mp ai y ak ad ag x22) ?_
        refine Dr [0,1,2] [2,1,0] ((tB 68 (decide (x_v22>0)))::(HF x_v22 d x_v21 f l x_v20 m x_v12 a_words words c_words)) gv a6 fun fc d8=>?_
        rcases Bool.eq_false_or_eq_true (decide (x_v22>0)) with ca | ca
        ·
         rw [ca,XW] at a9
         have gw:Kn 115 (D7 g p q x_v12 s) ((tB 68 true)::(HF x_v22 d x_v21 f l x_v20 m x_v12 a_words words c_words)) fc:=(d8.setB 68 true (by rfl) ca).kp
         refine Dr [3,4] (dn 4) ((tI 70 x_v22)::(tS 69 d x_v21.length f)::(tB 68 true)::(HF x_v22 d x_v21 f l x_v20 m x_v12 a_words words c_words)) gw a6 fun lj d9=>?_
         obtain⟨x71,ex71,a9⟩:=Ao a9
         obtain⟨em,ex,jj⟩:=Ah ex71
         have ii:=A2 em ex
         obtain⟨kg,i8,fw⟩:=A5 (sz:=1) rfl ar jj
         obtain rfl:=i8
         obtain⟨cu,cg⟩:=A7 a6 (i:=1) rfl (b0:=0+(x_v22:Int).toNat*1) (Nat.lt_of_lt_of_le (Nat.lt_add_of_pos_right (by decide)) (Ar (sz:=1) rfl ar ii))
         have bt:=a6.addPlc (b:=cu) (o:=0+(x_v22:Int).toNat*1) (cs:=[]) (fun j c hj=>by simp at hj) rfl (by kernel_rfl) (by kernel_rfl)
         have c3:∀ (e:A9) k c,([.int .i64 x71]:List SC)[k]? = some c→(ab)[0+(x_v22:Int).toNat*1+k]? = some (c.den e):=fun e k c hk=>fw k _ (Aj hk)
         refine AN 5 (x_v22) [.int .i64 x71] (fun _ _ _ _ _ h=>h) rfl rfl (Al d9 (by kernel_rfl)) rfl (by decide) (by kernel_rfl) (by kernel_rfl) d9 a6.plOk (by rfl) (by rfl) (by rfl) cg (by rfl) em ex (by kernel_rfl) fun j1 (gx:Kn 115 [(g,0),(p,q+(x_v12:Int).toNat*3),(s,0),(cu,0+(x_v22:Int).toNat*1)] ((tP 71 3 0)::(tI 70 x_v22)::(tS 69 d x_v21.length f)::(tB 68 true)::(HF x_v22 d x_v21 f l x_v20 m x_v12 a_words words c_words)) j1)=>?_
         refine D5 [6,7,8,9] [9,8,7,6,5,4,3,2,1,0] [75,73,72,68,11,6,5,7,2,1] ((tI 75 (IntKind.i64.wrap (x_v22-1)))::(tS 73 d x_v21.length f)::(tI 72 x71)::(tB 68 true)::(HF x_v22 d x_v21 f l x_v20 m x_v12 a_words words c_words)) (fun _ _ _ _ _ h=>h) gx (Ay.peek bt.plOk bt 1 3 rfl rfl cg [.int .i64 x71] (c3 _)) (by kernel_rfl) (by rfl) (by kernel_rfl) fun lk ea=>?_
         obtain⟨x76,ex76,a9⟩:=Ao a9
         obtain⟨en,ey,jk⟩:=Ah ex76
         have ij:=A2 en ey
         obtain⟨kh,i9,fx⟩:=A5 (sz:=1) rfl ar jk
         obtain rfl:=i9
         obtain⟨dx,d1⟩:=A7 bt (i:=1) rfl (b0:=0+(IntKind.i64.wrap (x_v22-1):Int).toNat*1) (Nat.lt_of_lt_of_le (Nat.lt_add_of_pos_right (by decide)) (Ar (sz:=1) rfl ar ij))
         have cn:=bt.addPlc (b:=dx) (o:=0+(IntKind.i64.wrap (x_v22-1):Int).toNat*1) (cs:=[]) (fun j c hj=>by simp at hj) rfl (by kernel_rfl) (by kernel_rfl)
         have fy:∀ (e:A9) k c,([.int .i64 x76]:List SC)[k]? = some c→(ab)[0+(IntKind.i64.wrap (x_v22-1):Int).toNat*1+k]? = some (c.den e):=fun e k c hk=>fx k _ (Aj hk)
         refine AN 10 (IntKind.i64.wrap (x_v22-1)) [.int .i64 x76] (fun _ _ _ _ _ h=>h) rfl rfl (Al ea (by kernel_rfl)) rfl (by decide) (by kernel_rfl) (by kernel_rfl) ea (Ay.peek bt.plOk bt 1 3 rfl rfl cg [.int .i64 x71] (c3 _)) (by rfl) (by rfl) (by rfl) d1 (by rfl) en ey (by kernel_rfl) fun j2 (gy:Kn 115 [(g,0),(p,q+(x_v12:Int).toNat*3),(s,0),(cu,0+(x_v22:Int).toNat*1),(dx,0+(IntKind.i64.wrap (x_v22-1):Int).toNat*1)] ((tP 76 4 0)::(tI 75 (IntKind.i64.wrap (x_v22-1)))::(tS 73 d x_v21.length f)::(tI 72 x71)::(tB 68 true)::(HF x_v22 d x_v21 f l x_v20 m x_v12 a_words words c_words)) j2)=>?_
         refine D5 [11,12,13] [13,12,11,10,9,8,7,6,5,4,3,2,1,0] [79,11,6,5,7,2,1] ((tB 79 (decide (x71<x76)))::(HF x_v22 d x_v21 f l x_v20 m x_v12 a_words words c_words)) (fun _ _ _ _ _ h=>h) gy (Ay.peek (Ay.peek cn.plOk cn 1 3 rfl rfl cg [.int .i64 x71] (c3 _)) cn 1 4 rfl rfl d1 [.int .i64 x76] (fy _)) (by kernel_rfl) (by rfl) (by kernel_rfl) fun ll gz=>?_
         refine AZ (by kernel_rfl) ?_
         obtain rfl:=XZ a9
         exact XY _ ⟨_,rfl,(gz.keep [11,6,5,7,2,1,79] (by rfl)).cut 3 (by kernel_rfl),cn.cutPl 3 (by kernel_rfl),Ac.le_refl _⟩
        ·
         rw [ca,XV] at a9
         have g0:Kn 115 (D7 g p q x_v12 s) ((tB 68 false)::(HF x_v22 d x_v21 f l x_v20 m x_v12 a_words words c_words)) fc:=(d8.setB 68 false (by rfl) ca).kp
         refine Dr [3,4,5,6,7,8,9,10,11,12,13] (dn 13) ((tB 79 false)::(HF x_v22 d x_v21 f l x_v20 m x_v12 a_words words c_words)) g0 a6 fun lm g1=>?_
         refine AZ (by kernel_rfl) ?_
         obtain rfl:=XZ a9
         exact XY _ ⟨_,rfl,g1.kp,a6,Ac.le_refl _⟩
       ·
        rintro _ mf ⟨ds,aq,rfl,c7,bk,cl⟩
        replace ax:=ax.mono cl
        replace ar:=ar.mono cl
        refine wC (fb) c7 (fun c0=>?_) (fun c0=>?_)
        ·
         rw [B2 c0] at aa
         refine wp_skip (XT (wp_block (XT (A0 (by kernel_rfl) ?_))))
         replace bk:=bk.drew
         refine A4 [] (D7 g p q x_v12 s) (Mp ai y ak ad ag x22) ?_
         refine Dr [0,1,2,3,4,5,6,7] (dn 7) ((tI 89 (IntKind.i64.wrap (x_v22-1)))::(tS 87 l x_v20.length m)::(JS x_v22 l x_v20 m d x_v21 f x_v12 a_words words c_words)) c7 bk fun ln g2=>?_
         obtain⟨x90,ex90,aa⟩:=Ao aa
         obtain⟨eo,ez,jl⟩:=Ah ex90
         have ik:=A2 eo ez
         obtain⟨ki,ja,fz⟩:=A5 (sz:=1) rfl ax jl
         obtain rfl:=ja
         obtain⟨ae,b8⟩:=A7 bk (i:=0) rfl (b0:=0+(IntKind.i64.wrap (x_v22-1):Int).toNat*1) (Nat.lt_of_lt_of_le (Nat.lt_add_of_pos_right (by decide)) (Ar (sz:=1) rfl ax ik))
         have bu:=bk.addPlc (b:=ae) (o:=0+(IntKind.i64.wrap (x_v22-1):Int).toNat*1) (cs:=[]) (fun j c hj=>by simp at hj) rfl (by kernel_rfl) (by kernel_rfl)
         have ch:∀ (e:A9) k c,([.int .i64 x90]:List SC)[k]? = some c→(u)[0+(IntKind.i64.wrap (x_v22-1):Int).toNat*1+k]? = some (c.den e):=fun e k c hk=>fz k _ (Aj hk)
         refine AN 8 (IntKind.i64.wrap (x_v22-1)) [.int .i64 x90] (fun _ _ _ _ _ h=>h) rfl rfl (rfl) rfl (by decide) (by kernel_rfl) (by kernel_rfl) g2 bk.plOk (by rfl) (by rfl) (by rfl) b8 (by rfl) eo ez (by kernel_rfl) fun j3 (g3:Kn 115 [(g,0),(p,q+(x_v12:Int).toNat*3),(s,0),(ae,0+(IntKind.i64.wrap (x_v22-1):Int).toNat*1)] ((tP 90 3 0)::(tI 89 (IntKind.i64.wrap (x_v22-1)))::(tS 87 l x_v20.length m)::(JS x_v22 l x_v20 m d x_v21 f x_v12 a_words words c_words)) j3)=>?_
         refine D5 [9,10,11] [11,10,9,8,7,6,5,4,3,2,1,0] [93,92,91,86,84,83,82,11,6,5,7,2,1] ((tI 93 x_v22)::(tS 92 l x_v20.length m)::(tI 91 x90)::(JS x_v22 l x_v20 m d x_v21 f x_v12 a_words words c_words)) (fun _ _ _ _ _ h=>h) g3 (Ay.peek bu.plOk bu 0 3 rfl rfl b8 [.int .i64 x90] (ch _)) (by kernel_rfl) (by rfl) (by kernel_rfl) fun lp g4=>?_
         obtain⟨x94,ex94,aa⟩:=Ao aa
         obtain⟨ep,e0,jm⟩:=Ah ex94
         have il:=A2 ep e0
         obtain⟨kj,jb,f0⟩:=A5 (sz:=1) rfl ax jm
         obtain rfl:=jb
         obtain⟨ah,cw⟩:=A7 bu (i:=0) rfl (b0:=0+(x_v22:Int).toNat*1) (Nat.lt_of_lt_of_le (Nat.lt_add_of_pos_right (by decide)) (Ar (sz:=1) rfl ax il))
         have ba:=bu.addPlc (b:=ah) (o:=0+(x_v22:Int).toNat*1) (cs:=[]) (fun j c hj=>by simp at hj) rfl (by kernel_rfl) (by kernel_rfl)
         have d6:∀ (e:A9) k c,([.int .i64 x94]:List SC)[k]? = some c→(u)[0+(x_v22:Int).toNat*1+k]? = some (c.den e):=fun e k c hk=>f0 k _ (Aj hk)
         refine AN 12 (x_v22) [.int .i64 x94] (fun _ _ _ _ _ h=>h) rfl rfl (rfl) rfl (by decide) (by kernel_rfl) (by kernel_rfl) g4 (Ay.peek bu.plOk bu 0 3 rfl rfl b8 [.int .i64 x90] (ch _)) (by rfl) (by rfl) (by rfl) cw (by rfl) ep e0 (by kernel_rfl) fun j4 (g5:Kn 115 [(g,0),(p,q+(x_v12:Int).toNat*3),(s,0),(ae,0+(IntKind.i64.wrap (x_v22-1):Int).toNat*1),(ah,0+(x_v22:Int).toNat*1)] ((tP 94 4 0)::(tI 93 x_v22)::(tS 92 l x_v20.length m)::(tI 91 x90)::(JS x_v22 l x_v20 m d x_v21 f x_v12 a_words words c_words)) j4)=>?_
         refine D5 [13] [13,12,11,10,9,8,7,6,5,4,3,2,1,0] [95,91,86,84,83,82,11,6,5,7,2,1] ((tI 95 x94)::(tI 91 x90)::(JS x_v22 l x_v20 m d x_v21 f x_v12 a_words words c_words)) (fun _ _ _ _ _ h=>h) g5 (Ay.peek (Ay.peek ba.plOk ba 0 3 rfl rfl b8 [.int .i64 x90] (ch _)) ba 0 4 rfl rfl cw [.int .i64 x94] (d6 _)) (by kernel_rfl) (by rfl) (by kernel_rfl) fun lq g6=>?_
         obtain⟨x96,ex96,aa⟩:=Ao aa
         obtain⟨er,e1,jn⟩:=Ah ex96
         have c9:=A2 er e1
         obtain⟨kk,jc,f1⟩:=A5 (sz:=1) rfl ax jn
         obtain rfl:=jc
         obtain⟨aj,d2⟩:=A7 ba (i:=0) rfl (b0:=0+(x_v22:Int).toNat*1) (Nat.lt_of_lt_of_le (Nat.lt_add_of_pos_right (by decide)) (Ar (sz:=1) rfl ax c9))
         have iv:=ba.addPlc (b:=aj) (o:=0+(x_v22:Int).toNat*1) (cs:=[]) (fun j c hj=>by simp at hj) rfl (by kernel_rfl) (by kernel_rfl)
         have ks:∀ (e:A9) k c,([.int .i64 x96]:List SC)[k]? = some c→(u)[0+(x_v22:Int).toNat*1+k]? = some (c.den e):=fun e k c hk=>f1 k _ (Aj hk)
         refine AN 14 (x_v22) [.int .i64 x96] (fun _ _ _ _ _ h=>h) rfl rfl (rfl) rfl (by decide) (by kernel_rfl) (by kernel_rfl) g6 (Ay.peek (Ay.peek ba.plOk ba 0 3 rfl rfl b8 [.int .i64 x90] (ch _)) ba 0 4 rfl rfl cw [.int .i64 x94] (d6 _)) (by rfl) (by rfl) (by rfl) d2 (by rfl) er e1 (by kernel_rfl) fun fd (g7:Kn 115 [(g,0),(p,q+(x_v12:Int).toNat*3),(s,0),(ae,0+(IntKind.i64.wrap (x_v22-1):Int).toNat*1),(ah,0+(x_v22:Int).toNat*1),(aj,0+(x_v22:Int).toNat*1)] ((tP 96 5 0)::(tI 95 x94)::(tI 91 x90)::(JS x_v22 l x_v20 m d x_v21 f x_v12 a_words words c_words)) fd)=>?_
         obtain⟨a0,fh,aa⟩:=Ao aa
         obtain⟨ky,k2,e7⟩:=BS fh
         refine DA 15 rfl (by kernel_rfl) (by decide) (rfl) (by kernel_rfl) fun K hK=>?_
         refine Bf 0 5 0 (0+(x_v22:Int).toNat*1) (.c (.int .i64 x90)) g7 iv rfl rfl (by rfl) (by rfl) rfl rfl d2 rfl (by kernel_rfl) (Ar (sz:=1) rfl ax c9) fun kb g8 iw=>?_
         have ci:Ae aq a0 (u.take (0+(x_v22:Int).toNat*1+0)++([.int .i64 x90]:List Value)++u.drop (0+(x_v22:Int).toNat*1+0+1)):=by rw [e7]; exact Cq (sz:=1) rfl ax c9 (Ad:rep aq (x90:Int) _)
         have ei:x_v20.length=a0.length:=by rw [e7]; simp
         have g9:Kn 115 [(g,0),(p,q+(x_v12:Int).toNat*3),(s,0),(ae,0+(IntKind.i64.wrap (x_v22-1):Int).toNat*1),(ah,0+(x_v22:Int).toNat*1),(aj,0+(x_v22:Int).toNat*1)] [(96,.one (.c (.ptr 5 0))),(95,.one (.c (.int .i64 x94))),(91,.one (.c (.int .i64 x90))),(86,.one (.c (.int .i64 (IntKind.i64.wrap (x_v22-1))))),(84,.one (.c (.slice l a0.length m))),(83,.one (.c (.int .i64 x_v22))),(82,.one (.c (.slice l a0.length m))),(11,.one (.c (.int .i64 x_v22))),(6,.one (.c (.slice d x_v21.length f))),(5,.one (.c (.slice l a0.length m))),(7,.one (.c (.int .i64 x_v12))),(2,.one (.c (.ptr 0 0))),(1,.one (.c (.slice a_words words.length c_words)))] fd:=by rw [← ei]; exact g8
         have df:Ai ⟨w,h,AC⟩ aq [(g,0),(p,q+(x_v12:Int).toNat*3),(s,0),(ae,0+(IntKind.i64.wrap (x_v22-1):Int).toNat*1),(ah,0+(x_v22:Int).toNat*1),(aj,0+(x_v22:Int).toNat*1)] [⟨[.slice ai y.room.length ak,.slice ad y.buses.length ag,.int .i64 y.broken],some 25⟩,⟨[.int .i64 x22.lo,.int .i64 x22.hi,.int .i64 x22.turn],none⟩,⟨[.int .i64 x22.lo,.int .i64 x22.hi,.int .i64 x22.turn],some 49⟩,⟨[],none⟩,⟨[],none⟩,⟨[],none⟩] [⟨l,a0.length,m,3,1,u.take (0+(x_v22:Int).toNat*1+0)++([.int .i64 x90]:List Value)++u.drop (0+(x_v22:Int).toNat*1+0+1),0⟩,⟨d,x_v21.length,f,3,1,ab,0⟩,⟨a2,1,1,3,1,([.int .i64 x_v12]:List Value),0⟩,⟨a4,1,1,3,1,([.int .i64 (IntKind.i64.wrap ((IntKind.i64.wrap (2*am))+(Int.tmod x60 2)))]:List Value),0⟩] kb:=by rw [← ei]; exact iw
         refine hK _ _ ?_
         refine A4 [] [(g,0),(p,q+(x_v12:Int).toNat*3),(s,0),(ae,0+(IntKind.i64.wrap (x_v22-1):Int).toNat*1),(ah,0+(x_v22:Int).toNat*1),(aj,0+(x_v22:Int).toNat*1)] [⟨GQ ai y ak ad ag,some 25⟩,⟨Gt x22,none⟩,⟨Gt x22,some 49⟩,⟨[],none⟩,⟨[],none⟩,⟨[],none⟩] ?_
         obtain⟨x97,ex97,aa⟩:=Ao aa
         obtain⟨es,e2,jo⟩:=Ah ex97
         have da:=A2 es e2
         obtain⟨kl,jd,f2⟩:=A5 (sz:=1) rfl ci jo
         obtain rfl:=jd
         obtain⟨ao,d3⟩:=A7 df (i:=0) rfl (b0:=0+(IntKind.i64.wrap (x_v22-1):Int).toNat*1) (Nat.lt_of_lt_of_le (Nat.lt_add_of_pos_right (by decide)) (Ar (sz:=1) rfl ci da))
         have ix:=df.addPlc (b:=ao) (o:=0+(IntKind.i64.wrap (x_v22-1):Int).toNat*1) (cs:=[]) (fun j c hj=>by simp at hj) rfl (by kernel_rfl) (by kernel_rfl)
         have kt:∀ (e:A9) k c,([.int .i64 x97]:List SC)[k]? = some c→((u.take (0+(x_v22:Int).toNat*1+0)++([.int .i64 x90]:List Value)++u.drop (0+(x_v22:Int).toNat*1+0+1)))[0+(IntKind.i64.wrap (x_v22-1):Int).toNat*1+k]? = some (c.den e):=fun e k c hk=>f2 k _ (Aj hk)
         refine AN 16 (IntKind.i64.wrap (x_v22-1)) [.int .i64 x97] (fun _ _ _ _ _ h=>h) rfl rfl (rfl) rfl (by decide) (by kernel_rfl) (by kernel_rfl) g9 df.plOk (by rfl) (by rfl) (by rfl) d3 (by rfl) es e2 (by kernel_rfl) fun dt (ha:Kn 115 (Rc g p q x_v12 s ae x_v22 ah aj ao) ((tP 97 6 0)::(tP 96 5 0)::(tI 95 x94)::(tI 91 x90)::(tI 86 (IntKind.i64.wrap (x_v22-1)))::(tS 84 l a0.length m)::(tI 83 x_v22)::(tS 82 l a0.length m)::(tI 11 x_v22)::(tS 6 d x_v21.length f)::(tS 5 l a0.length m)::(tI 7 x_v12)::(Dt a_words words c_words)) dt)=>?_
         obtain⟨an,fi,aa⟩:=Ao aa
         obtain⟨kz,k3,e8⟩:=BS fi
         refine DA 17 rfl (by kernel_rfl) (by decide) (rfl) (by kernel_rfl) fun K hK=>?_
         refine Bf 0 6 0 (0+(IntKind.i64.wrap (x_v22-1):Int).toNat*1) (.c (.int .i64 x94)) ha ix rfl rfl (by rfl) (by rfl) rfl rfl d3 rfl (by kernel_rfl) (Ar (sz:=1) rfl ci da) fun kc hb iy=>?_
         have f3:Ae aq an ((u.take (0+(x_v22:Int).toNat*1+0)++([.int .i64 x90]:List Value)++u.drop (0+(x_v22:Int).toNat*1+0+1)).take (0+(IntKind.i64.wrap (x_v22-1):Int).toNat*1+0)++([.int .i64 x94]:List Value)++(u.take (0+(x_v22:Int).toNat*1+0)++([.int .i64 x90]:List Value)++u.drop (0+(x_v22:Int).toNat*1+0+1)).drop (0+(IntKind.i64.wrap (x_v22-1):Int).toNat*1+0+1)):=by rw [e8]; exact Cq (sz:=1) rfl ci da (Ad:rep aq (x94:Int) _)
         have ej:a0.length=an.length:=by rw [e8]; simp
         have hc:Kn 115 [(g,0),(p,q+(x_v12:Int).toNat*3),(s,0),(ae,0+(IntKind.i64.wrap (x_v22-1):Int).toNat*1),(ah,0+(x_v22:Int).toNat*1),(aj,0+(x_v22:Int).toNat*1),(ao,0+(IntKind.i64.wrap (x_v22-1):Int).toNat*1)] [(97,.one (.c (.ptr 6 0))),(96,.one (.c (.ptr 5 0))),(95,.one (.c (.int .i64 x94))),(91,.one (.c (.int .i64 x90))),(86,.one (.c (.int .i64 (IntKind.i64.wrap (x_v22-1))))),(84,.one (.c (.slice l an.length m))),(83,.one (.c (.int .i64 x_v22))),(82,.one (.c (.slice l an.length m))),(11,.one (.c (.int .i64 x_v22))),(6,.one (.c (.slice d x_v21.length f))),(5,.one (.c (.slice l an.length m))),(7,.one (.c (.int .i64 x_v12))),(2,.one (.c (.ptr 0 0))),(1,.one (.c (.slice a_words words.length c_words)))] dt:=by rw [← ej]; exact hb
         have bv:Ai ⟨w,h,AC⟩ aq [(g,0),(p,q+(x_v12:Int).toNat*3),(s,0),(ae,0+(IntKind.i64.wrap (x_v22-1):Int).toNat*1),(ah,0+(x_v22:Int).toNat*1),(aj,0+(x_v22:Int).toNat*1),(ao,0+(IntKind.i64.wrap (x_v22-1):Int).toNat*1)] [⟨[.slice ai y.room.length ak,.slice ad y.buses.length ag,.int .i64 y.broken],some 25⟩,⟨[.int .i64 x22.lo,.int .i64 x22.hi,.int .i64 x22.turn],none⟩,⟨[.int .i64 x22.lo,.int .i64 x22.hi,.int .i64 x22.turn],some 49⟩,⟨[],none⟩,⟨[],none⟩,⟨[],none⟩,⟨[],none⟩] [⟨l,an.length,m,3,1,(u.take (0+(x_v22:Int).toNat*1+0)++([.int .i64 x90]:List Value)++u.drop (0+(x_v22:Int).toNat*1+0+1)).take (0+(IntKind.i64.wrap (x_v22-1):Int).toNat*1+0)++([.int .i64 x94]:List Value)++(u.take (0+(x_v22:Int).toNat*1+0)++([.int .i64 x90]:List Value)++u.drop (0+(x_v22:Int).toNat*1+0+1)).drop (0+(IntKind.i64.wrap (x_v22-1):Int).toNat*1+0+1),0⟩,⟨d,x_v21.length,f,3,1,ab,0⟩,⟨a2,1,1,3,1,([.int .i64 x_v12]:List Value),0⟩,⟨a4,1,1,3,1,([.int .i64 (IntKind.i64.wrap ((IntKind.i64.wrap (2*am))+(Int.tmod x60 2)))]:List Value),0⟩] kc:=by rw [← ej]; exact iy
         refine hK _ _ ?_
         have hd:Kn 115 (Rc g p q x_v12 s ae x_v22 ah aj ao) ((tI 11 x_v22)::(tS 6 d x_v21.length f)::(tS 5 l an.length m)::(tI 7 x_v12)::(Dt a_words words c_words)) dt:=hc.kp
         refine IX (by kernel_rfl) (A0 (by kernel_rfl) ?_)
         replace bv:=bv.drew
         refine A4 [] (Rc g p q x_v12 s ae x_v22 ah aj ao) [⟨GQ ai y ak ad ag,some 25⟩,⟨Gt x22,none⟩,⟨Gt x22,some 49⟩,⟨[],none⟩,⟨[],none⟩,⟨[],none⟩,⟨[],none⟩] ?_
         refine Dr [0,1,2,3,4,5,6,7] (dn 7) ((tI 105 (IntKind.i64.wrap (x_v22-1)))::(tS 103 d x_v21.length f)::(JR x_v22 d x_v21 f l an m x_v12 a_words words c_words)) hd bv fun lr he=>?_
         obtain⟨x106,ex106,aa⟩:=Ao aa
         obtain⟨et,e3,jp⟩:=Ah ex106
         have im:=A2 et e3
         obtain⟨km,je,f4⟩:=A5 (sz:=1) rfl ar jp
         obtain rfl:=je
         obtain⟨ap,b9⟩:=A7 bv (i:=1) rfl (b0:=0+(IntKind.i64.wrap (x_v22-1):Int).toNat*1) (Nat.lt_of_lt_of_le (Nat.lt_add_of_pos_right (by decide)) (Ar (sz:=1) rfl ar im))
         have bw:=bv.addPlc (b:=ap) (o:=0+(IntKind.i64.wrap (x_v22-1):Int).toNat*1) (cs:=[]) (fun j c hj=>by simp at hj) rfl (by kernel_rfl) (by kernel_rfl)
         have cj:∀ (e:A9) k c,([.int .i64 x106]:List SC)[k]? = some c→(ab)[0+(IntKind.i64.wrap (x_v22-1):Int).toNat*1+k]? = some (c.den e):=fun e k c hk=>f4 k _ (Aj hk)
         refine AN 8 (IntKind.i64.wrap (x_v22-1)) [.int .i64 x106] (fun _ _ _ _ _ h=>h) rfl rfl (rfl) rfl (by decide) (by kernel_rfl) (by kernel_rfl) he bv.plOk (by rfl) (by rfl) (by rfl) b9 (by rfl) et e3 (by kernel_rfl) fun j5 (hf:Kn 115 [(g,0),(p,q+(x_v12:Int).toNat*3),(s,0),(ae,0+(IntKind.i64.wrap (x_v22-1):Int).toNat*1),(ah,0+(x_v22:Int).toNat*1),(aj,0+(x_v22:Int).toNat*1),(ao,0+(IntKind.i64.wrap (x_v22-1):Int).toNat*1),(ap,0+(IntKind.i64.wrap (x_v22-1):Int).toNat*1)] ((tP 106 7 0)::(tI 105 (IntKind.i64.wrap (x_v22-1)))::(tS 103 d x_v21.length f)::(JR x_v22 d x_v21 f l an m x_v12 a_words words c_words)) j5)=>?_
         refine D5 [9,10,11] [11,10,9,8,7,6,5,4,3,2,1,0] [109,108,107,102,100,99,98,11,6,5,7,2,1] ((tI 109 x_v22)::(tS 108 d x_v21.length f)::(tI 107 x106)::(JR x_v22 d x_v21 f l an m x_v12 a_words words c_words)) (fun _ _ _ _ _ h=>h) hf (Ay.peek bw.plOk bw 1 7 rfl rfl b9 [.int .i64 x106] (cj _)) (by kernel_rfl) (by rfl) (by kernel_rfl) fun ls hg=>?_
         obtain⟨x110,ex110,aa⟩:=Ao aa
         obtain⟨eu,e4,jq⟩:=Ah ex110
         have io:=A2 eu e4
         obtain⟨kn,jf,f5⟩:=A5 (sz:=1) rfl ar jq
         obtain rfl:=jf
         obtain⟨au,cx⟩:=A7 bw (i:=1) rfl (b0:=0+(x_v22:Int).toNat*1) (Nat.lt_of_lt_of_le (Nat.lt_add_of_pos_right (by decide)) (Ar (sz:=1) rfl ar io))
         have bb:=bw.addPlc (b:=au) (o:=0+(x_v22:Int).toNat*1) (cs:=[]) (fun j c hj=>by simp at hj) rfl (by kernel_rfl) (by kernel_rfl)
         have d7:∀ (e:A9) k c,([.int .i64 x110]:List SC)[k]? = some c→(ab)[0+(x_v22:Int).toNat*1+k]? = some (c.den e):=fun e k c hk=>f5 k _ (Aj hk)
         refine AN 12 (x_v22) [.int .i64 x110] (fun _ _ _ _ _ h=>h) rfl rfl (rfl) rfl (by decide) (by kernel_rfl) (by kernel_rfl) hg (Ay.peek bw.plOk bw 1 7 rfl rfl b9 [.int .i64 x106] (cj _)) (by rfl) (by rfl) (by rfl) cx (by rfl) eu e4 (by kernel_rfl) fun j6 (hl:Kn 115 [(g,0),(p,q+(x_v12:Int).toNat*3),(s,0),(ae,0+(IntKind.i64.wrap (x_v22-1):Int).toNat*1),(ah,0+(x_v22:Int).toNat*1),(aj,0+(x_v22:Int).toNat*1),(ao,0+(IntKind.i64.wrap (x_v22-1):Int).toNat*1),(ap,0+(IntKind.i64.wrap (x_v22-1):Int).toNat*1),(au,0+(x_v22:Int).toNat*1)] ((tP 110 8 0)::(tI 109 x_v22)::(tS 108 d x_v21.length f)::(tI 107 x106)::(JR x_v22 d x_v21 f l an m x_v12 a_words words c_words)) j6)=>?_
         refine D5 [13] [13,12,11,10,9,8,7,6,5,4,3,2,1,0] [111,107,102,100,99,98,11,6,5,7,2,1] ((tI 111 x110)::(tI 107 x106)::(JR x_v22 d x_v21 f l an m x_v12 a_words words c_words)) (fun _ _ _ _ _ h=>h) hl (Ay.peek (Ay.peek bb.plOk bb 1 7 rfl rfl b9 [.int .i64 x106] (cj _)) bb 1 8 rfl rfl cx [.int .i64 x110] (d7 _)) (by kernel_rfl) (by rfl) (by kernel_rfl) fun lu hn=>?_
         obtain⟨x112,ex112,aa⟩:=Ao aa
         obtain⟨ev,e5,jr⟩:=Ah ex112
         have db:=A2 ev e5
         obtain⟨ko,jg,f6⟩:=A5 (sz:=1) rfl ar jr
         obtain rfl:=jg
         obtain⟨aw,d4⟩:=A7 bb (i:=1) rfl (b0:=0+(x_v22:Int).toNat*1) (Nat.lt_of_lt_of_le (Nat.lt_add_of_pos_right (by decide)) (Ar (sz:=1) rfl ar db))
         have iz:=bb.addPlc (b:=aw) (o:=0+(x_v22:Int).toNat*1) (cs:=[]) (fun j c hj=>by simp at hj) rfl (by kernel_rfl) (by kernel_rfl)
         have ku:∀ (e:A9) k c,([.int .i64 x112]:List SC)[k]? = some c→(ab)[0+(x_v22:Int).toNat*1+k]? = some (c.den e):=fun e k c hk=>f6 k _ (Aj hk)
         refine AN 14 (x_v22) [.int .i64 x112] (fun _ _ _ _ _ h=>h) rfl rfl (rfl) rfl (by decide) (by kernel_rfl) (by kernel_rfl) hn (Ay.peek (Ay.peek bb.plOk bb 1 7 rfl rfl b9 [.int .i64 x106] (cj _)) bb 1 8 rfl rfl cx [.int .i64 x110] (d7 _)) (by rfl) (by rfl) (by rfl) d4 (by rfl) ev e5 (by kernel_rfl) fun fe (ho:Kn 115 (RK g p q x_v12 s ae x_v22 ah aj ao ap au aw) ((tP 112 9 0)::(tI 111 x110)::(tI 107 x106)::(JR x_v22 d x_v21 f l an m x_v12 a_words words c_words)) fe)=>?_
         obtain⟨a1,fj,aa⟩:=Ao aa
         obtain⟨k0,k4,e9⟩:=BS fj
         refine DA 15 rfl (by kernel_rfl) (by decide) (rfl) (by kernel_rfl) fun K hK=>?_
         refine Bf 1 9 0 (0+(x_v22:Int).toNat*1) (.c (.int .i64 x106)) ho iz rfl rfl (by rfl) (by rfl) rfl rfl d4 rfl (by kernel_rfl) (Ar (sz:=1) rfl ar db) fun kd hp i0=>?_
         have ck:Ae aq a1 (ab.take (0+(x_v22:Int).toNat*1+0)++([.int .i64 x106]:List Value)++ab.drop (0+(x_v22:Int).toNat*1+0+1)):=by rw [e9]; exact Cq (sz:=1) rfl ar db (Ad:rep aq (x106:Int) _)
         have ek:x_v21.length=a1.length:=by rw [e9]; simp
         have hq:Kn 115 [(g,0),(p,q+(x_v12:Int).toNat*3),(s,0),(ae,0+(IntKind.i64.wrap (x_v22-1):Int).toNat*1),(ah,0+(x_v22:Int).toNat*1),(aj,0+(x_v22:Int).toNat*1),(ao,0+(IntKind.i64.wrap (x_v22-1):Int).toNat*1),(ap,0+(IntKind.i64.wrap (x_v22-1):Int).toNat*1),(au,0+(x_v22:Int).toNat*1),(aw,0+(x_v22:Int).toNat*1)] [(112,.one (.c (.ptr 9 0))),(111,.one (.c (.int .i64 x110))),(107,.one (.c (.int .i64 x106))),(102,.one (.c (.int .i64 (IntKind.i64.wrap (x_v22-1))))),(100,.one (.c (.slice d a1.length f))),(99,.one (.c (.int .i64 x_v22))),(98,.one (.c (.slice d a1.length f))),(11,.one (.c (.int .i64 x_v22))),(6,.one (.c (.slice d a1.length f))),(5,.one (.c (.slice l an.length m))),(7,.one (.c (.int .i64 x_v12))),(2,.one (.c (.ptr 0 0))),(1,.one (.c (.slice a_words words.length c_words)))] fe:=by rw [← ek]; exact hp
         have dg:Ai ⟨w,h,AC⟩ aq [(g,0),(p,q+(x_v12:Int).toNat*3),(s,0),(ae,0+(IntKind.i64.wrap (x_v22-1):Int).toNat*1),(ah,0+(x_v22:Int).toNat*1),(aj,0+(x_v22:Int).toNat*1),(ao,0+(IntKind.i64.wrap (x_v22-1):Int).toNat*1),(ap,0+(IntKind.i64.wrap (x_v22-1):Int).toNat*1),(au,0+(x_v22:Int).toNat*1),(aw,0+(x_v22:Int).toNat*1)] [⟨[.slice ai y.room.length ak,.slice ad y.buses.length ag,.int .i64 y.broken],some 25⟩,⟨[.int .i64 x22.lo,.int .i64 x22.hi,.int .i64 x22.turn],none⟩,⟨[.int .i64 x22.lo,.int .i64 x22.hi,.int .i64 x22.turn],some 49⟩,⟨[],none⟩,⟨[],none⟩,⟨[],none⟩,⟨[],none⟩,⟨[],none⟩,⟨[],none⟩,⟨[],none⟩] [⟨l,an.length,m,3,1,(u.take (0+(x_v22:Int).toNat*1+0)++([.int .i64 x90]:List Value)++u.drop (0+(x_v22:Int).toNat*1+0+1)).take (0+(IntKind.i64.wrap (x_v22-1):Int).toNat*1+0)++([.int .i64 x94]:List Value)++(u.take (0+(x_v22:Int).toNat*1+0)++([.int .i64 x90]:List Value)++u.drop (0+(x_v22:Int).toNat*1+0+1)).drop (0+(IntKind.i64.wrap (x_v22-1):Int).toNat*1+0+1),0⟩,⟨d,a1.length,f,3,1,ab.take (0+(x_v22:Int).toNat*1+0)++([.int .i64 x106]:List Value)++ab.drop (0+(x_v22:Int).toNat*1+0+1),0⟩,⟨a2,1,1,3,1,([.int .i64 x_v12]:List Value),0⟩,⟨a4,1,1,3,1,([.int .i64 (IntKind.i64.wrap ((IntKind.i64.wrap (2*am))+(Int.tmod x60 2)))]:List Value),0⟩] kd:=by rw [← ek]; exact i0
         refine hK _ _ ?_
         refine A4 [] (RK g p q x_v12 s ae x_v22 ah aj ao ap au aw) [⟨GQ ai y ak ad ag,some 25⟩,⟨Gt x22,none⟩,⟨Gt x22,some 49⟩,⟨[],none⟩,⟨[],none⟩,⟨[],none⟩,⟨[],none⟩,⟨[],none⟩,⟨[],none⟩,⟨[],none⟩] ?_
         obtain⟨x113,ex113,aa⟩:=Ao aa
         obtain⟨ew,e6,js⟩:=Ah ex113
         have dc:=A2 ew e6
         obtain⟨kq,jh,f7⟩:=A5 (sz:=1) rfl ck js
         obtain rfl:=jh
         obtain⟨be,d5⟩:=A7 dg (i:=1) rfl (b0:=0+(IntKind.i64.wrap (x_v22-1):Int).toNat*1) (Nat.lt_of_lt_of_le (Nat.lt_add_of_pos_right (by decide)) (Ar (sz:=1) rfl ck dc))
         have i1:=dg.addPlc (b:=be) (o:=0+(IntKind.i64.wrap (x_v22-1):Int).toNat*1) (cs:=[]) (fun j c hj=>by simp at hj) rfl (by kernel_rfl) (by kernel_rfl)
         have kw:∀ (e:A9) k c,([.int .i64 x113]:List SC)[k]? = some c→((ab.take (0+(x_v22:Int).toNat*1+0)++([.int .i64 x106]:List Value)++ab.drop (0+(x_v22:Int).toNat*1+0+1)))[0+(IntKind.i64.wrap (x_v22-1):Int).toNat*1+k]? = some (c.den e):=fun e k c hk=>f7 k _ (Aj hk)
         refine AN 16 (IntKind.i64.wrap (x_v22-1)) [.int .i64 x113] (fun _ _ _ _ _ h=>h) rfl rfl (rfl) rfl (by decide) (by kernel_rfl) (by kernel_rfl) hq dg.plOk (by rfl) (by rfl) (by rfl) d5 (by rfl) ew e6 (by kernel_rfl) fun du (hr:Kn 115 (RL g p q x_v12 s ae x_v22 ah aj ao ap au aw be) ((tP 113 10 0)::(tP 112 9 0)::(tI 111 x110)::(tI 107 x106)::(tI 102 (IntKind.i64.wrap (x_v22-1)))::(tS 100 d a1.length f)::(tI 99 x_v22)::(tS 98 d a1.length f)::(tI 11 x_v22)::(tS 6 d a1.length f)::(tS 5 l an.length m)::(tI 7 x_v12)::(Dt a_words words c_words)) du)=>?_
         obtain⟨a8,fk,aa⟩:=Ao aa
         obtain⟨k1,k5,fa⟩:=BS fk
         refine DA 17 rfl (by kernel_rfl) (by decide) (rfl) (by kernel_rfl) fun K hK=>?_
         refine Bf 1 10 0 (0+(IntKind.i64.wrap (x_v22-1):Int).toNat*1) (.c (.int .i64 x110)) hr i1 rfl rfl (by rfl) (by rfl) rfl rfl d5 rfl (by kernel_rfl) (Ar (sz:=1) rfl ck dc) fun ke hs i2=>?_
         have f8:Ae aq a8 ((ab.take (0+(x_v22:Int).toNat*1+0)++([.int .i64 x106]:List Value)++ab.drop (0+(x_v22:Int).toNat*1+0+1)).take (0+(IntKind.i64.wrap (x_v22-1):Int).toNat*1+0)++([.int .i64 x110]:List Value)++(ab.take (0+(x_v22:Int).toNat*1+0)++([.int .i64 x106]:List Value)++ab.drop (0+(x_v22:Int).toNat*1+0+1)).drop (0+(IntKind.i64.wrap (x_v22-1):Int).toNat*1+0+1)):=by rw [fa]; exact Cq (sz:=1) rfl ck dc (Ad:rep aq (x110:Int) _)
         have el:a1.length=a8.length:=by rw [fa]; simp
         have ht:Kn 115 [(g,0),(p,q+(x_v12:Int).toNat*3),(s,0),(ae,0+(IntKind.i64.wrap (x_v22-1):Int).toNat*1),(ah,0+(x_v22:Int).toNat*1),(aj,0+(x_v22:Int).toNat*1),(ao,0+(IntKind.i64.wrap (x_v22-1):Int).toNat*1),(ap,0+(IntKind.i64.wrap (x_v22-1):Int).toNat*1),(au,0+(x_v22:Int).toNat*1),(aw,0+(x_v22:Int).toNat*1),(be,0+(IntKind.i64.wrap (x_v22-1):Int).toNat*1)] [(113,.one (.c (.ptr 10 0))),(112,.one (.c (.ptr 9 0))),(111,.one (.c (.int .i64 x110))),(107,.one (.c (.int .i64 x106))),(102,.one (.c (.int .i64 (IntKind.i64.wrap (x_v22-1))))),(100,.one (.c (.slice d a8.length f))),(99,.one (.c (.int .i64 x_v22))),(98,.one (.c (.slice d a8.length f))),(11,.one (.c (.int .i64 x_v22))),(6,.one (.c (.slice d a8.length f))),(5,.one (.c (.slice l an.length m))),(7,.one (.c (.int .i64 x_v12))),(2,.one (.c (.ptr 0 0))),(1,.one (.c (.slice a_words words.length c_words)))] du:=by rw [← el]; exact hs
         have ef:Ai ⟨w,h,AC⟩ aq [(g,0),(p,q+(x_v12:Int).toNat*3),(s,0),(ae,0+(IntKind.i64.wrap (x_v22-1):Int).toNat*1),(ah,0+(x_v22:Int).toNat*1),(aj,0+(x_v22:Int).toNat*1),(ao,0+(IntKind.i64.wrap (x_v22-1):Int).toNat*1),(ap,0+(IntKind.i64.wrap (x_v22-1):Int).toNat*1),(au,0+(x_v22:Int).toNat*1),(aw,0+(x_v22:Int).toNat*1),(be,0+(IntKind.i64.wrap (x_v22-1):Int).toNat*1)] [⟨[.slice ai y.room.length ak,.slice ad y.buses.length ag,.int .i64 y.broken],some 25⟩,⟨[.int .i64 x22.lo,.int .i64 x22.hi,.int .i64 x22.turn],none⟩,⟨[.int .i64 x22.lo,.int .i64 x22.hi,.int .i64 x22.turn],some 49⟩,⟨[],none⟩,⟨[],none⟩,⟨[],none⟩,⟨[],none⟩,⟨[],none⟩,⟨[],none⟩,⟨[],none⟩,⟨[],none⟩] [⟨l,an.length,m,3,1,(u.take (0+(x_v22:Int).toNat*1+0)++([.int .i64 x90]:List Value)++u.drop (0+(x_v22:Int).toNat*1+0+1)).take (0+(IntKind.i64.wrap (x_v22-1):Int).toNat*1+0)++([.int .i64 x94]:List Value)++(u.take (0+(x_v22:Int).toNat*1+0)++([.int .i64 x90]:List Value)++u.drop (0+(x_v22:Int).toNat*1+0+1)).drop (0+(IntKind.i64.wrap (x_v22-1):Int).toNat*1+0+1),0⟩,⟨d,a8.length,f,3,1,(ab.take (0+(x_v22:Int).toNat*1+0)++([.int .i64 x106]:List Value)++ab.drop (0+(x_v22:Int).toNat*1+0+1)).take (0+(IntKind.i64.wrap (x_v22-1):Int).toNat*1+0)++([.int .i64 x110]:List Value)++(ab.take (0+(x_v22:Int).toNat*1+0)++([.int .i64 x106]:List Value)++ab.drop (0+(x_v22:Int).toNat*1+0+1)).drop (0+(IntKind.i64.wrap (x_v22-1):Int).toNat*1+0+1),0⟩,⟨a2,1,1,3,1,([.int .i64 x_v12]:List Value),0⟩,⟨a4,1,1,3,1,([.int .i64 (IntKind.i64.wrap ((IntKind.i64.wrap (2*am))+(Int.tmod x60 2)))]:List Value),0⟩] ke:=by rw [← el]; exact i2
         refine hK _ _ ?_
         have hu:Kn 115 (RL g p q x_v12 s ae x_v22 ah aj ao ap au aw be) ((tI 11 x_v22)::(tS 6 d a8.length f)::(tS 5 l an.length m)::(tI 7 x_v12)::(Dt a_words words c_words)) du:=ht.kp
         refine IX (by kernel_rfl) (Aa (Rk 0 3 ((tI 11 (IntKind.i64.wrap (x_v22-1)))::(tS 6 d a8.length f)::(tS 5 l an.length m)::(tI 7 x_v12)::(Dt a_words words c_words)) hu ef fun lv hv=>?_))
         refine wf ?_
         exact XY dm ⟨Nat.lt_succ_self _,XY an ⟨a8,IntKind.i64.wrap (x_v22-1),l,m,(u.take (0+(x_v22:Int).toNat*1+0)++([.int .i64 x90]:List Value)++u.drop (0+(x_v22:Int).toNat*1+0+1)).take (0+(IntKind.i64.wrap (x_v22-1):Int).toNat*1+0)++([.int .i64 x94]:List Value)++(u.take (0+(x_v22:Int).toNat*1+0)++([.int .i64 x90]:List Value)++u.drop (0+(x_v22:Int).toNat*1+0+1)).drop (0+(IntKind.i64.wrap (x_v22-1):Int).toNat*1+0+1),d,f,(ab.take (0+(x_v22:Int).toNat*1+0)++([.int .i64 x106]:List Value)++ab.drop (0+(x_v22:Int).toNat*1+0+1)).take (0+(IntKind.i64.wrap (x_v22-1):Int).toNat*1+0)++([.int .i64 x110]:List Value)++(ab.take (0+(x_v22:Int).toNat*1+0)++([.int .i64 x106]:List Value)++ab.drop (0+(x_v22:Int).toNat*1+0+1)).drop (0+(IntKind.i64.wrap (x_v22-1):Int).toNat*1+0+1),_,_,rfl,(hv.keep [11,6,5,7,2,1] (by rfl)).cut 3 (by kernel_rfl),ef.cutPl 3 (by kernel_rfl),XU bj cl,f3,f8,aa⟩⟩
        ·
         rw [B3 c0] at aa
         refine wp_exit ?_
         obtain rfl:=XZ aa
         exact XY l ⟨m,u,d,f,ab,_,_,rfl,c7.kp,bk,XU bj cl,ax,ar⟩
     ·
      rintro _ mg ⟨bz,b2,cp,b1,b3,cq,dq,b5,rfl,hw,eg,ip,fs,ft⟩
      refine Aa (Rk 0 3 ((tI 7 (IntKind.i64.wrap (x_v12+1)))::(tS 6 b1 ay.2.length b3)::(tS 5 bz ay.1.length b2)::(Dt a_words words c_words)) hw eg fun lw hx=>?_)
      refine wf ?_
      exact XY bx ⟨Nat.lt_succ_self _,XY ay.1 ⟨ay.2,IntKind.i64.wrap (x_v12+1),bz,b2,cp,b1,b3,cq,_,_,rfl,(hx.keep [7,6,5,2,1] (by rfl)).cut 1 (by kernel_rfl),(eg.cutRw 2).cutPl 1 (by kernel_rfl),XU cc (XU bs (XU br (XU bi ip))),fs,ft,al⟩⟩
   ·
    rw [c1,XV] at al
    refine wp_exit ?_
    obtain rfl:=XZ al
    exact XY ac ⟨af,bl,x,z,bm,_,_,rfl,c8.kp,co,cc,bp,bq⟩
 ·
  rintro _ kf ⟨bd,bf,cd,ct,cv,cr,dv,b6,rfl,hy,dh,kx,c4,kv⟩
  refine XT (Aa (Rk 0 2 [tS 4 bd az.1.length bf] hy dh fun lx hz=>?_))
  refine wf (wp_ret ?_)
  obtain⟨d0,iq,i7,di⟩:=dh.settle (i:=0) rfl
  replace c4:=c4.mono iq
  replace di:Ai ⟨w,h,AC⟩ d0 [(g,0)] [⟨GQ ai y ak ad ag,some 25⟩] [⟨bd,az.1.length,bf,3,1,cd,(cd:List Value).length⟩,⟨ct,az.2.length,cv,3,1,cr,0⟩] kf:=di
  have i6:A1 d0 bd bf az.1:=⟨_,c4,i7,dh.rowCap (i:=0) rfl⟩
  obtain rfl:=XZ H
  exact rt (.one (.c (.slice bd az.1.length bf))) hz di ⟨_,_,rfl,i6⟩
abbrev KB (g:Option Addr) (y:Ak) (k:Nat) (j:Option Addr) (l:Nat):List SC:=[.slice g y.room.length k,.slice j y.buses.length l,.int .i64 y.broken]
abbrev Et (a_words:Option Addr) (words:List (IK .u16)) (c_words:Nat):TM:=[tP 2 0 0,tS 1 a_words words.length c_words]
set_option maxRecDepth 100000 in
set_option maxHeartbeats 4000000 in
theorem ON (n:Nat) {h:Ac} {w:World} (hh:Dk h w) (y:Ak) {cs_y:List Value} (hx_y:rep h y cs_y) (words:List (IK .u16)) {a_words:Option Addr} {c_words:Nat} (hr_words:A1 h a_words c_words words) {r:List Int} (H:Hh n y words=some r) :
  Calls Try.prog 28 #[.agg cs_y.toArray,.slice a_words words.length c_words] w (Dz (fun h v=>∃ a c,v=.slice a r.length c∧A1 h a c r) h w):=by
 obtain⟨_,_,rfl,⟨g,k,rfl,a7⟩,⟨_,_,rfl,⟨j,l,rfl,a8⟩,rfl⟩⟩:=hx_y
 refine enter 33 [.agg (KB g y k j l),.c (.slice a_words words.length c_words)] Try.func28 rfl rfl rfl rfl fun t hk=>?_
 have hm:=Ai.begin h w hh
 unfold Hh at H
 refine XT (Aa (wl fun K hK=>?_))
 refine wb (.agg (KB g y k j l)) hk hm fun e b8 ca (bg:Kn 33 [(e,0)] [tP 2 0 0,tA 0 (KB g y k j l),tS 1 a_words words.length c_words] b8) ai=>hK _ _ ?_
 refine Rk 1 1 (Et a_words words c_words) bg ai fun cf bi=>?_
 refine wf (XT (Aa (Rk 0 1 ((tS 5 none 0 0)::(Et a_words words c_words)) bi ai fun cg bj=>?_)))
 refine wf (XT (XT (Aa (Rk 0 1 ((tI 6 0)::(tS 5 none 0 0)::(Et a_words words c_words)) bj ai fun ch bk=>?_))))
 refine wf ?_
 have b2:Ai ⟨w,h,AC⟩ h [(e,0)] [⟨KB g y k j l,some 25⟩] [⟨none,0,0,3,1,[],0⟩] ca:=ai.nilRow 3 1
 have bd:Ae h ([]:List Int) []:=Ae.nil
 obtain⟨o,a1,H⟩:=Ao H
 refine As (fun a' w'=>∃ (q:Option Addr)(s:Nat)(ae:List Value)(ax:Array Value)(ah:Ac),a' = ⟨ax,[]⟩∧Kn 33 [(e,0)] [tS 5 q o.length s] ax∧Ai ⟨w,h,AC⟩ ah [(e,0)] [⟨KB g y k j l,some 25⟩] [⟨q,o.length,s,3,1,ae,0⟩] w'∧Ac.le h ah∧Ae ah o ae) ?_ ?_
 ·
  refine wp_block ?_
  refine At (fun b5 a' w'=>∃ (x_v10:List Int)(x_v11:Int)(b:Option Addr)(d:Nat)(p:List Value)(ay:Array Value)(aa:Ac),a' = ⟨ay,[]⟩∧Kn 33 [(e,0)] ((tI 6 x_v11)::(tS 5 b x_v10.length d)::(Et a_words words c_words)) ay∧Ai ⟨w,h,AC⟩ aa [(e,0)] [⟨KB g y k j l,some 25⟩] [⟨b,x_v10.length,d,3,1,p,0⟩] w'∧Ac.le h aa∧Ae aa x_v10 p∧CE b5 y words x_v10 x_v11=some o) n ?_ ?_
  ·
   exact XY ([]:List Int) ⟨0,none,0,[],_,_,rfl,bk.kp,b2,Ac.le_refl _,bd,a1⟩
  ·
   rintro ad _ cr ⟨x_v10,x_v11,b,d,p,ay,aa,rfl,bl,m,z,ac,f⟩
   clear a1
   obtain _ | ad:=ad
   ·
    rw [CE] at f; cases f
   rw [CE] at f
   replace a7:=a7.mono z
   replace a8:=a8.mono z
   replace hr_words:=hr_words.mono z
   refine XT (XT (Aa (Rk 0 5 ((tB 11 (decide (x_v11<((y.buses.length:Nat):Int))))::(tI 6 x_v11)::(tS 5 b x_v10.length d)::(Et a_words words c_words)) bl m fun ci ao=>?_)))
   refine wf (wC (decide (x_v11<((y.buses.length:Nat):Int))) ao (fun ak=>?_) (fun ak=>?_))
   ·
    rw [ak,XW] at f
    refine wp_skip (XT (wp_block (XT ?_)))
    obtain⟨a9,u,f⟩:=Ao f
    refine As (fun a' w'=>∃ (az:Array Value)(x:Ac),a' = ⟨az,[]⟩∧Kn 33 [(e,0)] [tI 6 x_v11,tS 5 b x_v10.length d,tP 2 0 0,tS 1 a_words words.length c_words,tB 27 a9] az∧Ai ⟨w,h,AC⟩ x [(e,0)] [⟨KB g y k j l,some 25⟩] [⟨b,x_v10.length,d,3,1,p,0⟩] w'∧Ac.le aa x) ?_ ?_
    ·
     refine Aa (Rk 0 6 ((tB 19 (decide (((x_v10.length:Nat):Int)<y.broken)))::(tI 6 x_v11)::(tS 5 b x_v10.length d)::(Et a_words words c_words)) ao m fun ba a3=>?_)
     rcases Bool.eq_false_or_eq_true (decide (((x_v10.length:Nat):Int)<y.broken)) with ab | ab
     ·
      rw [ab,XW] at u
      have bm:Kn 33 [(e,0)] ((tB 19 true)::(tI 6 x_v11)::(tS 5 b x_v10.length d)::(Et a_words words c_words)) ba:=(a3.setB 19 true (by rfl) ab).kp
      refine Rk 6 4 ((tI 23 (IntKind.i64.wrap ((IntKind.i64.wrap (3*x_v11))+2)))::(tS 20 a_words words.length c_words)::(tB 19 true)::(tI 6 x_v11)::(tS 5 b x_v10.length d)::(Et a_words words c_words)) bm m fun cj a4=>?_
      obtain⟨x24,ex24,u⟩:=Ao u
      refine AJ _ rfl (Al a4 (by kernel_rfl)) fun K hK=>?_
      refine wc [.c (.slice a_words words.length c_words),.c (.int .i64 (IntKind.i64.wrap ((IntKind.i64.wrap (3*x_v11))+2)))] a4 m (FI ad m.has words hr_words (IntKind.i64.wrap ((IntKind.i64.wrap (3*x_v11))+2)) ex24) fun cq cc cs bc b1 a5=>?_
      obtain rfl:=bc
      refine⟨.one (.c (.int .i64 x24)),rfl,fun b6 (bn:Kn 33 [(e,0)] ((tI 24 x24)::(tI 23 (IntKind.i64.wrap ((IntKind.i64.wrap (3*x_v11))+2)))::(tS 20 a_words words.length c_words)::(tB 19 true)::(tI 6 x_v11)::(tS 5 b x_v10.length d)::(Et a_words words c_words)) b6)=>hK _ _ ?_⟩
      refine Rk 11 3 ((tB 27 ((Int.tmod x24 4) == 0))::(tI 6 x_v11)::(tS 5 b x_v10.length d)::(Et a_words words c_words)) bn a5 fun ck bo=>?_
      refine wf ?_
      obtain rfl:=XZ u
      exact XY _ ⟨_,rfl,bo.kp,a5,b1⟩
     ·
      rw [ab,XV] at u
      have bp:Kn 33 [(e,0)] ((tB 19 false)::(tI 6 x_v11)::(tS 5 b x_v10.length d)::(Et a_words words c_words)) ba:=(a3.setB 19 false (by rfl) ab).kp
      refine Rk 6 8 ((tB 27 false)::(tI 6 x_v11)::(tS 5 b x_v10.length d)::(Et a_words words c_words)) bp m fun cl bq=>?_
      refine wf ?_
      obtain rfl:=XZ u
      exact XY _ ⟨_,rfl,bq.kp,m,Ac.le_refl _⟩
    ·
     rintro _ ct ⟨az,x,rfl,ap,aj,aq⟩
     replace ac:=ac.mono aq
     refine wC (a9) ap (fun al=>?_) (fun al=>?_)
     ·
      rw [B2 al] at f
      refine Aa (Rk 0 2 ((tI 29 x_v11)::(tS 28 b x_v10.length d)::(tI 6 x_v11)::(Et a_words words c_words)) ap aj fun cm br=>?_)
      refine wl fun K hK=>?_
      refine wS 3 1 [.int .i64 x_v11] br aj fun a0 b7 cu (bs:Kn 33 [(e,0)] ((tS 30 a0 1 1)::(tI 29 x_v11)::(tS 28 b x_v10.length d)::(tI 6 x_v11)::(Et a_words words c_words)) b7) a6=>?_
      have an:Ae x ([x_v11]:List Int) ([.int .i64 x_v11]:List Value):=⟨_,_,rfl,(Ad:rep x (x_v11:Int) _),rfl⟩
      refine hK _ _ ?_
      obtain⟨x31,ex31,f⟩:=Ao f
      obtain⟨aw,bz⟩:=Bn ex31
      refine wl fun K hK=>?_
      refine Bc 0 8 1 _ (x31.length) _ ([.int .i64 x_v11]:List Value) bs a6 rfl rfl (by decide) rfl (by rfl) (by kernel_rfl) (by rfl) (by rfl) (Ae.len an) (a6.rowCell (i:=1) rfl) an.one (by rw [aw]; simp <;> omega) (by rw [aw]; exact bz) (by decide) fun af ag bb b9 cv bf (bt:Kn 33 [(e,0)] ((tS 31 af x31.length ag)::(tS 30 a0 1 1)::(tI 29 x_v11)::(tS 28 b x_v10.length d)::(tI 6 x_v11)::(Et a_words words c_words)) b9) av=>?_
      have be:Ae x x31 (p++([.int .i64 x_v11]:List Value)):=by rw [aw]; exact Ae.append ac an
      obtain rfl:bb=0:=Nat.le_zero.1 bf
      refine hK _ _ ?_
      refine Rk 4 1 ((tS 5 af x31.length ag)::(tI 6 x_v11)::(Et a_words words c_words)) bt av fun cn bu=>?_
      refine wf (Aa (Rk 0 3 ((tI 6 (IntKind.i64.wrap (x_v11+1)))::(tS 5 af x31.length ag)::(Et a_words words c_words)) bu av fun co bv=>?_))
      refine wf ?_
      exact XY ad ⟨Nat.lt_succ_self _,XY x31 ⟨IntKind.i64.wrap (x_v11+1),af,ag,p++([.int .i64 x_v11]:List Value),_,_,rfl,bv.kp,av.cutRw 1,XU z aq,be,f⟩⟩
     ·
      rw [B3 al] at f
      refine wp_skip (Aa (Rk 0 3 ((tI 6 (IntKind.i64.wrap (x_v11+1)))::(tS 5 b x_v10.length d)::(Et a_words words c_words)) ap aj fun cp bw=>?_))
      refine wf ?_
      exact XY ad ⟨Nat.lt_succ_self _,XY x_v10 ⟨IntKind.i64.wrap (x_v11+1),b,d,p,_,_,rfl,bw.kp,aj,XU z aq,ac,f⟩⟩
   ·
    rw [ak,XV] at f
    refine wp_exit ?_
    obtain rfl:=XZ f
    exact XY b ⟨d,p,_,_,rfl,ao.kp,m,z,ac⟩
 ·
  rintro _ cb ⟨q,s,ae,ax,ah,rfl,bx,ar,cd,am⟩
  refine XT (Aa (Rk 0 2 [tS 4 q o.length s] bx ar fun ce bh=>?_))
  refine wf (wp_ret ?_)
  obtain⟨a2,b0,b4,au⟩:=ar.settle (i:=0) rfl
  replace am:=am.mono b0
  replace au:Ai ⟨w,h,AC⟩ a2 [(e,0)] [⟨KB g y k j l,some 25⟩] [⟨q,o.length,s,3,1,ae,(ae:List Value).length⟩] cb:=au
  have b3:A1 a2 q s o:=⟨_,am,b4,ar.rowCap (i:=0) rfl⟩
  obtain rfl:=XZ H
  exact rt (.one (.c (.slice q o.length s))) bh au ⟨_,_,rfl,b3⟩
abbrev Gu (s:Option Addr) (y:Ak) (u:Nat) (z:Option Addr) (aa:Nat):List SC:=[.slice s y.room.length u,.slice z y.buses.length aa,.int .i64 y.broken]
abbrev PK (p ad:Nat) (d:Int) (ag ai aj am:Nat):A9:=[(p,0),(ad,0+(d:Int).toNat*1),(ag,ai+(d:Int).toNat*1),(aj,0+(d:Int).toNat*1),(am,0+(d:Int).toNat*1)]
abbrev Cm (x_v12:Int) (f:Option Addr) (x_v10:List Int) (g:Nat) (l:Option Addr) (x_v11:List Int) (m:Nat) (a_words:Option Addr) (words:List (IK .u16)) (c_words:Nat):TM:=[tI 8 x_v12,tS 7 f x_v10.length g,tS 6 l x_v11.length m,tP 2 0 0,tS 1 a_words words.length c_words]
abbrev HG (a_words:Option Addr) (words:List (IK .u16)) (c_words:Nat):TM:=[tP 2 0 0,tS 1 a_words words.length c_words]
set_option maxRecDepth 100000 in
set_option maxHeartbeats 4000000 in
theorem M4 (n:Nat) {h:Ac} {w:World} (hh:Dk h w) (y:Ak) {cs_y:List Value} (hx_y:rep h y cs_y) (words:List (IK .u16)) {a_words:Option Addr} {c_words:Nat} (hr_words:A1 h a_words c_words words) {r:(List Int)×Bool} (H:Fi n y words=some r) :
  Calls Try.prog 26 #[.agg cs_y.toArray,.slice a_words words.length c_words] w (Dz (fun h v=>∃ v0 v1,v=.tuple #[v0,v1]∧(∃ a c,v0=.slice a r.1.length c∧A1 h a c r.1)∧(v1=.bool r.2)) h w):=by
 obtain⟨_,_,rfl,⟨s,u,rfl,ak⟩,⟨_,_,rfl,⟨z,aa,rfl,a3⟩,rfl⟩⟩:=hx_y
 refine enter 77 [.agg (Gu s y u z aa),.c (.slice a_words words.length c_words)] Try.func26 rfl rfl rfl rfl fun t hk=>?_
 have hm:=Ai.begin h w hh
 unfold Fi at H
 refine XT (Aa (wl fun K hK=>?_))
 refine wb (.agg (Gu s y u z aa)) hk hm fun p f8 hq (dv:Kn 77 [(p,0)] [tP 2 0 0,tA 0 (Gu s y u z aa),tS 1 a_words words.length c_words] f8) bk=>hK _ _ ?_
 refine Rk 1 2 (HG a_words words c_words) dv bk fun gp dy=>?_
 refine wf (XT (Aa (Rk 0 1 ((tS 6 none 0 0)::(HG a_words words c_words)) dy bk fun gu d6=>?_)))
 refine wf (XT (Aa (Rk 0 3 ((tI 13 ((y.room.length:Nat):Int))::(tS 6 none 0 0)::(HG a_words words c_words)) d6 bk fun gz ea=>?_)))
 obtain⟨x14,ex14,H⟩:=Ao H
 obtain⟨fd,fg,c6⟩:=Jd ex14
 refine wl fun K hK=>?_
 refine Fb 3 1 8 [.int .i64 0] (((y.room.length:Nat):Int)) ea bk rfl rfl (by decide) (by rfl) (by kernel_rfl) (by kernel_rfl) (by rfl) fd fg (by decide) fun az f3 dc (cr:Kn 77 [(p,0)] [(14,.one (.c (.slice az ((((y.room.length:Nat):Int):Int).toNat) ((((y.room.length:Nat):Int):Int).toNat)))),(13,.one (.c (.int .i64 ((y.room.length:Nat):Int)))),(6,.one (.c (.slice none 0 0))),(2,.one (.c (.ptr 0 0))),(1,.one (.c (.slice a_words words.length c_words)))] f3) (bl:Ai ⟨w,h,AC⟩ h [(p,0)] [⟨[.slice s y.room.length u,.slice z y.buses.length aa,.int .i64 y.broken],some 25⟩] [⟨az,(((y.room.length:Nat):Int):Int).toNat,(((y.room.length:Nat):Int):Int).toNat,3,1,List.flatten (List.replicate (((y.room.length:Nat):Int):Int).toNat ([.int .i64 0]:List Value)),0⟩] dc)=>?_
 have cn:Ae h x14 (List.flatten (List.replicate (((y.room.length:Nat):Int):Int).toNat ([.int .i64 0]:List Value))):=by rw [c6]; exact Ae.replicate (α:=Int) (x:=0) Ad _
 have ct:(((y.room.length:Nat):Int):Int).toNat=x14.length:=by rw [c6]; simp
 rw [ct] at cr bl
 skip
 rw [ct] at cn
 refine hK _ _ ?_
 refine Rk 4 1 ((tS 7 az x14.length x14.length)::(tS 6 none 0 0)::(HG a_words words c_words)) cr bl fun g9 eu=>?_
 refine wf (XT (XT (Aa (Rk 0 1 ((tI 8 0)::(tS 7 az x14.length x14.length)::(tS 6 none 0 0)::(HG a_words words c_words)) eu bl fun ha ev=>?_))))
 refine wf ?_
 have fa:Ai ⟨w,h,AC⟩ h [(p,0)] [⟨Gu s y u z aa,some 25⟩] [⟨az,x14.length,x14.length,3,1,List.flatten (List.replicate x14.length ([.int .i64 0]:List Value)),0⟩,⟨none,0,0,3,1,[],0⟩] dc:=bl.nilRow 3 1
 have dt:Ae h ([]:List Int) []:=Ae.nil
 obtain⟨c8,ch,H⟩:=Ao H
 refine As (fun a' w'=>∃ (ae:(List Int)×(List Int))(bn:Option Addr)(bp:Nat)(bm:List Value)(au:Option Addr)(av:Nat)(be:List Value)(ca:Array Value)(a4:Ac),a' = ⟨ca,[]⟩∧Kn 77 [(p,0)] [tS 6 au ae.2.length av] ca∧Ai ⟨w,h,AC⟩ a4 [(p,0)] [⟨Gu s y u z aa,some 25⟩] [⟨bn,ae.1.length,bp,3,1,bm,0⟩,⟨au,ae.2.length,av,3,1,be,0⟩] w'∧Ac.le h a4∧Ae a4 ae.1 bm∧Ae a4 ae.2 be∧c8=.go ae) ?_ ?_
 ·
  refine wp_block ?_
  refine At (fun fv a' w'=>∃ (x_v10:List Int)(x_v11:List Int)(x_v12:Int)(f:Option Addr)(g:Nat)(ac:List Value)(l:Option Addr)(m:Nat)(al:List Value)(cb:Array Value)(a5:Ac),a' = ⟨cb,[]⟩∧Kn 77 [(p,0)] (Cm x_v12 f x_v10 g l x_v11 m a_words words c_words) cb∧Ai ⟨w,h,AC⟩ a5 [(p,0)] [⟨Gu s y u z aa,some 25⟩] [⟨f,x_v10.length,g,3,1,ac,0⟩,⟨l,x_v11.length,m,3,1,al,0⟩] w'∧Ac.le h a5∧Ae a5 x_v10 ac∧Ae a5 x_v11 al∧Cy fv y words x14 x_v10 x_v11 x_v12=some c8) n ?_ ?_
  ·
   exact XY x14 ⟨([]:List Int),0,az,x14.length,List.flatten (List.replicate x14.length ([.int .i64 0]:List Value)),none,0,[],_,_,rfl,ev.kp,fa,Ac.le_refl _,cn,dt,ch⟩
  ·
   rintro bd _ ho ⟨x_v10,x_v11,x_v12,f,g,ac,l,m,al,cb,a5,rfl,ew,ay,a7,ab,ar,q⟩
   clear ch
   obtain _ | bd:=bd
   ·
    rw [Cy] at q; cases q
   rw [Cy] at q
   replace ak:=ak.mono a7
   replace a3:=a3.mono a7
   replace hr_words:=hr_words.mono a7
   refine XT (XT (Aa (Rk 0 5 ((tB 19 (decide (x_v12<((y.buses.length:Nat):Int))))::(Cm x_v12 f x_v10 g l x_v11 m a_words words c_words)) ew ay fun hb b1=>?_)))
   refine wf (wC (decide (x_v12<((y.buses.length:Nat):Int))) b1 (fun bt=>?_) (fun bt=>?_))
   ·
    rw [bt,XW] at q
    refine wp_skip (XT (wp_block (XT (A0 (by kernel_rfl) ?_))))
    replace ay:=ay.drew
    refine A4 [] [(p,0)] [⟨Gu s y u z aa,some 25⟩] ?_
    refine Dr [0,1,2,3,5,6,7] [7,6,5,3,2,1,0] ((tI 29 ((y.room.length:Nat):Int))::(tI 25 (IntKind.i64.wrap ((IntKind.i64.wrap (5*x_v12))+1)))::(tS 22 a_words words.length c_words)::(Cm x_v12 f x_v10 g l x_v11 m a_words words c_words)) b1 ay fun hc ex=>?_
    obtain⟨x26,ex26,q⟩:=Ao q
    refine Dl 4 fun K hK=>?_
    refine wc [.c (.slice a_words words.length c_words),.c (.int .i64 (IntKind.i64.wrap ((IntKind.i64.wrap (5*x_v12))+1)))] ex ay (FI bd ay.has words hr_words (IntKind.i64.wrap ((IntKind.i64.wrap (5*x_v12))+1)) ex26) fun hf ck hp df a1 bc=>?_
    replace ak:=ak.mono a1
    replace a3:=a3.mono a1
    replace hr_words:=hr_words.mono a1
    replace ab:=ab.mono a1
    replace ar:=ar.mono a1
    obtain rfl:=df
    refine⟨.one (.c (.int .i64 x26)),rfl,fun f6 (ey:Kn 77 [(p,0)] ((tI 26 x26)::(tI 29 ((y.room.length:Nat):Int))::(tI 25 (IntKind.i64.wrap ((IntKind.i64.wrap (5*x_v12))+1)))::(tS 22 a_words words.length c_words)::(Cm x_v12 f x_v10 g l x_v11 m a_words words c_words)) f6)=>hK _ _ bc.plOk ?_⟩
    obtain⟨x30,ex30,q⟩:=Ao q
    refine R5 8 (fun _ _ _ _ _ h=>h) ey rfl rfl (rfl) rfl (by decide) (by kernel_rfl) (by kernel_rfl) bc.plOk (by rfl) (by rfl) (KS ex30) fun f7 (ez:Kn 77 [(p,0)] ((tI 30 (Int.tmod x26 ((y.room.length:Nat):Int)))::(tI 26 x26)::(tI 29 ((y.room.length:Nat):Int))::(tI 25 (IntKind.i64.wrap ((IntKind.i64.wrap (5*x_v12))+1)))::(tS 22 a_words words.length c_words)::(Cm x_v12 f x_v10 g l x_v11 m a_words words c_words)) f7)=>?_
    refine Dr [9] [9,8,4,7,6,5,3,2,1,0] ((tI 9 (Int.tmod x26 ((y.room.length:Nat):Int)))::(Cm x_v12 f x_v10 g l x_v11 m a_words words c_words)) ez bc fun hd e0=>?_
    refine AZ (by kernel_rfl) (XT (XT (Aa (Rk 0 1 ((tI 10 0)::(tI 9 (Int.tmod x26 ((y.room.length:Nat):Int)))::(Cm x_v12 f x_v10 g l x_v11 m a_words words c_words)) e0 bc fun he e1=>?_))))
    refine wf ?_
    obtain⟨d,ci,q⟩:=Ao q
    refine As (fun a' w'=>∃ (cc:Array Value)(an:Ac),a' = ⟨cc,[]⟩∧Kn 77 [(p,0)] ((tI 9 d)::(Cm x_v12 f x_v10 g l x_v11 m a_words words c_words)) cc∧Ai ⟨w,h,AC⟩ an [(p,0)] [⟨Gu s y u z aa,some 25⟩] [⟨f,x_v10.length,g,3,1,ac,0⟩,⟨l,x_v11.length,m,3,1,al,0⟩] w'∧Ac.le ck an) ?_ ?_
    ·
     refine wp_block ?_
     refine At (fun fw a' w'=>∃ (x_v20:Int)(x_v21:Int)(cd:Array Value)(bh:Ac),a' = ⟨cd,[]⟩∧Kn 77 [(p,0)] ((tI 10 x_v20)::(tI 9 x_v21)::(Cm x_v12 f x_v10 g l x_v11 m a_words words c_words)) cd∧Ai ⟨w,h,AC⟩ bh [(p,0)] [⟨Gu s y u z aa,some 25⟩] [⟨f,x_v10.length,g,3,1,ac,0⟩,⟨l,x_v11.length,m,3,1,al,0⟩] w'∧Ac.le ck bh∧Cx fw y x14 x_v10 x_v20 x_v21=some d) bd ?_ ?_
     ·
      exact XY 0 ⟨Int.tmod x26 ((y.room.length:Nat):Int),_,_,rfl,e1.kp,bc,Ac.le_refl _,ci⟩
     ·
      rintro b8 _ hr ⟨x_v20,x_v21,cd,bh,rfl,e2,ap,ax,ah⟩
      clear ci
      obtain _ | b8:=b8
      ·
       rw [Cx] at ah; cases ah
      rw [Cx] at ah
      replace ak:=ak.mono ax
      replace a3:=a3.mono ax
      replace hr_words:=hr_words.mono ax
      replace ab:=ab.mono ax
      replace ar:=ar.mono ax
      refine XT (XT ?_)
      obtain⟨c9,aq,ah⟩:=Ao ah
      refine As (fun a' w'=>∃ (ce:Array Value)(bq:Ac),a' = ⟨ce,[]⟩∧Kn 77 [(p,0)] [tI 10 x_v20,tI 9 x_v21,tI 8 x_v12,tS 7 f x_v10.length g,tS 6 l x_v11.length m,tP 2 0 0,tS 1 a_words words.length c_words,tB 47 c9] ce∧Ai ⟨w,h,AC⟩ bq [(p,0)] [⟨Gu s y u z aa,some 25⟩] [⟨f,x_v10.length,g,3,1,ac,0⟩,⟨l,x_v11.length,m,3,1,al,0⟩] w'∧Ac.le bh bq) ?_ ?_
      ·
       refine A0 (by kernel_rfl) ?_
       replace ap:=ap.drew
       refine A4 [] [(p,0)] [⟨Gu s y u z aa,some 25⟩] ?_
       refine Dr [0,1,2,3,4,5] (dn 5) ((tB 36 (decide (x_v20<((y.room.length:Nat):Int))))::(tI 10 x_v20)::(tI 9 x_v21)::(Cm x_v12 f x_v10 g l x_v11 m a_words words c_words)) e2 ap fun db co=>?_
       rcases Bool.eq_false_or_eq_true (decide (x_v20<((y.room.length:Nat):Int))) with a6 | a6
       ·
        rw [a6,XW] at aq
        have dw:Kn 77 [(p,0)] ((tB 36 true)::(tI 10 x_v20)::(tI 9 x_v21)::(Cm x_v12 f x_v10 g l x_v11 m a_words words c_words)) db:=(co.setB 36 true (by rfl) a6).kp
        refine Dr [6,7] (dn 7) ((tI 38 x_v21)::(tS 37 f x_v10.length g)::(tB 36 true)::(tI 10 x_v20)::(tI 9 x_v21)::(Cm x_v12 f x_v10 g l x_v11 m a_words words c_words)) dw ap fun gn cp=>?_
        obtain⟨x39,ex39,aq⟩:=Ao aq
        obtain⟨cy,c2,fp⟩:=Ah ex39
        have e3:=A2 cy c2
        obtain⟨gb,fj,di⟩:=A5 (sz:=1) rfl ab fp
        obtain rfl:=fj
        obtain⟨bo,bi⟩:=A7 ap (i:=0) rfl (b0:=0+(x_v21:Int).toNat*1) (Nat.lt_of_lt_of_le (Nat.lt_add_of_pos_right (by decide)) (Ar (sz:=1) rfl ab e3))
        have a8:=ap.addPlc (b:=bo) (o:=0+(x_v21:Int).toNat*1) (cs:=[]) (fun j c hj=>by simp at hj) rfl (by kernel_rfl) (by kernel_rfl)
        have bu:∀ (e:A9) k c,([.int .i64 x39]:List SC)[k]? = some c→(ac)[0+(x_v21:Int).toNat*1+k]? = some (c.den e):=fun e k c hk=>di k _ (Aj hk)
        refine AN 8 (x_v21) [.int .i64 x39] (fun _ _ _ _ _ h=>h) rfl rfl (Al cp (by kernel_rfl)) rfl (by decide) (by kernel_rfl) (by kernel_rfl) cp ap.plOk (by rfl) (by rfl) (by rfl) bi (by rfl) cy c2 (by kernel_rfl) fun fx (dx:Kn 77 [(p,0),(bo,0+(x_v21:Int).toNat*1)] ((tP 39 1 0)::(tI 38 x_v21)::(tS 37 f x_v10.length g)::(tB 36 true)::(tI 10 x_v20)::(tI 9 x_v21)::(Cm x_v12 f x_v10 g l x_v11 m a_words words c_words)) fx)=>?_
        refine D5 [9,10,11,12] [12,11,10,9,8,7,6,5,4,3,2,1,0] [43,42,40,36,10,9,8,7,6,2,1] ((tI 43 x_v21)::(tS 42 s y.room.length u)::(tI 40 x39)::(tB 36 true)::(tI 10 x_v20)::(tI 9 x_v21)::(Cm x_v12 f x_v10 g l x_v11 m a_words words c_words)) (fun _ _ _ _ _ h=>h) dx (Ay.peek a8.plOk a8 0 1 rfl rfl bi [.int .i64 x39] (bu _)) (by kernel_rfl) (by rfl) (by kernel_rfl) fun gq cq=>?_
        obtain⟨x44,ex44,aq⟩:=Ao aq
        obtain⟨fb,fe,fq⟩:=Ah ex44
        obtain⟨cg,da,gc,dg,fk,dj⟩:=ak.get (by decide) fq
        obtain rfl:=fk
        have b3:=a8.addPlc (b:=cg) (o:=da+(x_v21:Int).toNat*1) (cs:=[.int .i64 x44]) (fun j c hj=>dj j _ (Aj hj)) rfl (by kernel_rfl) (by kernel_rfl)
        refine AN 13 (x_v21) [.int .i64 x44] (fun _ _ _ _ _ h=>h) rfl rfl (Al cq (by kernel_rfl)) rfl (by decide) (by kernel_rfl) (by kernel_rfl) cq (Ay.peek a8.plOk a8 0 1 rfl rfl bi [.int .i64 x39] (bu _)) (by rfl) (by rfl) (by rfl) dg (by rfl) fb fe (by kernel_rfl) fun fy (dz:Kn 77 [(p,0),(bo,0+(x_v21:Int).toNat*1),(cg,da+(x_v21:Int).toNat*1)] ((tP 44 2 0)::(tI 43 x_v21)::(tS 42 s y.room.length u)::(tI 40 x39)::(tB 36 true)::(tI 10 x_v20)::(tI 9 x_v21)::(Cm x_v12 f x_v10 g l x_v11 m a_words words c_words)) fy)=>?_
        refine D5 [14,15,16] [16,15,14,13,12,11,10,9,8,7,6,5,4,3,2,1,0] [47,10,9,8,7,6,2,1] ((tB 47 (decide (x39≥x44)))::(tI 10 x_v20)::(tI 9 x_v21)::(Cm x_v12 f x_v10 g l x_v11 m a_words words c_words)) (fun _ _ _ _ _ h=>h) dz (Ay.peek b3.plOk b3 0 1 rfl rfl bi [.int .i64 x39] (bu _)) (by kernel_rfl) (by rfl) (by kernel_rfl) fun gr d0=>?_
        refine AZ (by kernel_rfl) ?_
        obtain rfl:=XZ aq
        exact XY _ ⟨_,rfl,(d0.keep [10,9,8,7,6,2,1,47] (by rfl)).cut 1 (by kernel_rfl),b3.cutPl 1 (by kernel_rfl),Ac.le_refl _⟩
       ·
        rw [a6,XV] at aq
        have d1:Kn 77 [(p,0)] ((tB 36 false)::(tI 10 x_v20)::(tI 9 x_v21)::(Cm x_v12 f x_v10 g l x_v11 m a_words words c_words)) db:=(co.setB 36 false (by rfl) a6).kp
        refine Dr [6,7,8,9,10,11,12,13,14,15,16] (dn 16) ((tB 47 false)::(tI 10 x_v20)::(tI 9 x_v21)::(Cm x_v12 f x_v10 g l x_v11 m a_words words c_words)) d1 ap fun gs d2=>?_
        refine AZ (by kernel_rfl) ?_
        obtain rfl:=XZ aq
        exact XY _ ⟨_,rfl,d2.kp,ap,Ac.le_refl _⟩
      ·
       rintro _ hg ⟨ce,bq,rfl,bx,a9,cu⟩
       refine wC (c9) bx (fun br=>?_) (fun br=>?_)
       ·
        rw [B2 br] at ah
        refine wp_skip (XT (wp_block (Aa (Rk 0 5 ((tI 54 ((y.room.length:Nat):Int))::(tI 51 (IntKind.i64.wrap (x_v21+1)))::(tI 10 x_v20)::(Cm x_v12 f x_v10 g l x_v11 m a_words words c_words)) bx a9 fun gv d3=>?_))))
        obtain⟨x55,ex55,ah⟩:=Ao ah
        refine R4 5 d3 rfl rfl (rfl) rfl (by decide) (by rfl) (by rfl) (KS ex55) fun fz (d4:Kn 77 [(p,0)] ((tI 55 (Int.tmod (IntKind.i64.wrap (x_v21+1)) ((y.room.length:Nat):Int)))::(tI 54 ((y.room.length:Nat):Int))::(tI 51 (IntKind.i64.wrap (x_v21+1)))::(tI 10 x_v20)::(Cm x_v12 f x_v10 g l x_v11 m a_words words c_words)) fz)=>?_
        refine Rk 6 1 ((tI 9 (Int.tmod (IntKind.i64.wrap (x_v21+1)) ((y.room.length:Nat):Int)))::(tI 10 x_v20)::(Cm x_v12 f x_v10 g l x_v11 m a_words words c_words)) d4 a9 fun gw d5=>?_
        refine wf (Aa (Rk 0 3 ((tI 10 (IntKind.i64.wrap (x_v20+1)))::(tI 9 (Int.tmod (IntKind.i64.wrap (x_v21+1)) ((y.room.length:Nat):Int)))::(Cm x_v12 f x_v10 g l x_v11 m a_words words c_words)) d5 a9 fun gx d7=>?_))
        refine wf ?_
        exact XY b8 ⟨Nat.lt_succ_self _,XY (IntKind.i64.wrap (x_v20+1)) ⟨Int.tmod (IntKind.i64.wrap (x_v21+1)) ((y.room.length:Nat):Int),_,_,rfl,d7.kp,a9,XU ax cu,ah⟩⟩
       ·
        rw [B3 br] at ah
        refine wp_exit ?_
        obtain rfl:=XZ ah
        exact XY _ ⟨_,rfl,bx.kp,a9,XU ax cu⟩
    ·
     rintro _ hi ⟨cc,an,rfl,d8,a2,bj⟩
     replace ak:=ak.mono bj
     replace ab:=ab.mono bj
     replace ar:=ar.mono bj
     refine XT (XT (A0 (by kernel_rfl) ?_))
     replace a2:=a2.drew
     refine A4 [] [(p,0)] [⟨Gu s y u z aa,some 25⟩] ?_
     refine Dr [0,1] [1,0] ((tI 57 d)::(tS 56 f x_v10.length g)::(tI 9 d)::(Cm x_v12 f x_v10 g l x_v11 m a_words words c_words)) d8 a2 fun gy d9=>?_
     obtain⟨x58,ex58,q⟩:=Ao q
     obtain⟨cz,c3,fr⟩:=Ah ex58
     have e4:=A2 cz c3
     obtain⟨gd,fl,dk⟩:=A5 (sz:=1) rfl ab fr
     obtain rfl:=fl
     obtain⟨ad,aw⟩:=A7 a2 (i:=0) rfl (b0:=0+(d:Int).toNat*1) (Nat.lt_of_lt_of_le (Nat.lt_add_of_pos_right (by decide)) (Ar (sz:=1) rfl ab e4))
     have ba:=a2.addPlc (b:=ad) (o:=0+(d:Int).toNat*1) (cs:=[]) (fun j c hj=>by simp at hj) rfl (by kernel_rfl) (by kernel_rfl)
     have a0:∀ (e:A9) k c,([.int .i64 x58]:List SC)[k]? = some c→(ac)[0+(d:Int).toNat*1+k]? = some (c.den e):=fun e k c hk=>dk k _ (Aj hk)
     refine AN 2 (d) [.int .i64 x58] (fun _ _ _ _ _ h=>h) rfl rfl (rfl) rfl (by decide) (by kernel_rfl) (by kernel_rfl) d9 a2.plOk (by rfl) (by rfl) (by rfl) aw (by rfl) cz c3 (by kernel_rfl) fun f0 (eb:Kn 77 [(p,0),(ad,0+(d:Int).toNat*1)] ((tP 58 1 0)::(tI 57 d)::(tS 56 f x_v10.length g)::(tI 9 d)::(Cm x_v12 f x_v10 g l x_v11 m a_words words c_words)) f0)=>?_
     refine D5 [3,4,5,6] [6,5,4,3,2,1,0] [62,61,59,9,8,7,6,2,1] ((tI 62 d)::(tS 61 s y.room.length u)::(tI 59 x58)::(tI 9 d)::(Cm x_v12 f x_v10 g l x_v11 m a_words words c_words)) (fun _ _ _ _ _ h=>h) eb (Ay.peek ba.plOk ba 0 1 rfl rfl aw [.int .i64 x58] (a0 _)) (by kernel_rfl) (by rfl) (by kernel_rfl) fun g0 ec=>?_
     obtain⟨x63,ex63,q⟩:=Ao q
     obtain⟨fc,ff,fs⟩:=Ah ex63
     obtain⟨ag,ai,gf,dh,fm,dl⟩:=ak.get (by decide) fs
     obtain rfl:=fm
     have ao:=ba.addPlc (b:=ag) (o:=ai+(d:Int).toNat*1) (cs:=[.int .i64 x63]) (fun j c hj=>dl j _ (Aj hj)) rfl (by kernel_rfl) (by kernel_rfl)
     refine AN 7 (d) [.int .i64 x63] (fun _ _ _ _ _ h=>h) rfl rfl (rfl) rfl (by decide) (by kernel_rfl) (by kernel_rfl) ec (Ay.peek ba.plOk ba 0 1 rfl rfl aw [.int .i64 x58] (a0 _)) (by rfl) (by rfl) (by rfl) dh (by rfl) fc ff (by kernel_rfl) fun f1 (ed:Kn 77 [(p,0),(ad,0+(d:Int).toNat*1),(ag,ai+(d:Int).toNat*1)] ((tP 63 2 0)::(tI 62 d)::(tS 61 s y.room.length u)::(tI 59 x58)::(tI 9 d)::(Cm x_v12 f x_v10 g l x_v11 m a_words words c_words)) f1)=>?_
     refine D5 [8,9] [9,8,7,6,5,4,3,2,1,0] [65,9,8,7,6,2,1] ((tB 65 (decide (x58≥x63)))::(tI 9 d)::(Cm x_v12 f x_v10 g l x_v11 m a_words words c_words)) (fun _ _ _ _ _ h=>h) ed (Ay.peek ao.plOk ao 0 1 rfl rfl aw [.int .i64 x58] (a0 _)) (by kernel_rfl) (by rfl) (by kernel_rfl) fun g1 bz=>?_
     refine AZ (by kernel_rfl) (wC (decide (x58≥x63)) bz (fun bs=>?_) (fun bs=>?_))
     ·
      rw [bs,XW] at q
      refine XT (Aa (Ba 0 2 [5,4] [tB 5 false,tS 4 none 0 0] bz (Ay.peek ao.plOk ao 0 1 rfl rfl aw [.int .i64 x58] (a0 _)) (by kernel_rfl) fun g2 ee=>?_))
      refine wf (wp_ret ?_)
      obtain rfl:=XZ q
      obtain rfl:=XZ H
      exact rt (.tup [.c (.slice none 0 0),.c (.bool false)]) ee ao ⟨_,_,rfl,⟨_,_,rfl,A1.nil⟩,rfl⟩
     ·
      rw [bs,XV] at q
      refine wp_skip (XT (Aa (Ba 0 2 [67,66,9,8,7,6,2,1] ((tI 67 d)::(tS 66 f x_v10.length g)::(tI 9 d)::(Cm x_v12 f x_v10 g l x_v11 m a_words words c_words)) bz (Ay.peek ao.plOk ao 0 1 rfl rfl aw [.int .i64 x58] (a0 _)) (by kernel_rfl) fun g3 ef=>?_)))
      obtain⟨x68,ex68,q⟩:=Ao q
      obtain⟨c0,c4,ft⟩:=Ah ex68
      have e5:=A2 c0 c4
      obtain⟨gg,fn,dm⟩:=A5 (sz:=1) rfl ab ft
      obtain rfl:=fn
      obtain⟨aj,cl⟩:=A7 ao (i:=0) rfl (b0:=0+(d:Int).toNat*1) (Nat.lt_of_lt_of_le (Nat.lt_add_of_pos_right (by decide)) (Ar (sz:=1) rfl ab e5))
      have bb:=ao.addPlc (b:=aj) (o:=0+(d:Int).toNat*1) (cs:=[]) (fun j c hj=>by simp at hj) rfl (by kernel_rfl) (by kernel_rfl)
      have dp:∀ (e:A9) k c,([.int .i64 x68]:List SC)[k]? = some c→(ac)[0+(d:Int).toNat*1+k]? = some (c.den e):=fun e k c hk=>dm k _ (Aj hk)
      refine A3 2 (d) rfl rfl (rfl) rfl (by decide) ef (by rfl) (by rfl) (by rfl) cl (by rfl) c0 c4 (by kernel_rfl) fun f2 (eg:Kn 77 [(p,0),(ad,0+(d:Int).toNat*1),(ag,ai+(d:Int).toNat*1),(aj,0+(d:Int).toNat*1)] ((tP 68 3 0)::(tI 67 d)::(tS 66 f x_v10.length g)::(tI 9 d)::(Cm x_v12 f x_v10 g l x_v11 m a_words words c_words)) f2)=>?_
      refine Ba 3 2 [70,67,66,9,8,7,6,2,1] ((tI 70 (IntKind.i64.wrap (x68+1)))::(tI 67 d)::(tS 66 f x_v10.length g)::(tI 9 d)::(Cm x_v12 f x_v10 g l x_v11 m a_words words c_words)) eg (Ay.peek (Ay.peek bb.plOk bb 0 1 rfl rfl aw [.int .i64 x58] (a0 _)) bb 0 3 rfl rfl cl [.int .i64 x68] (dp _)) (by kernel_rfl) fun g4 eh=>?_
      obtain⟨x71,ex71,q⟩:=Ao q
      obtain⟨c1,c5,fu⟩:=Ah ex71
      have b2:=A2 c1 c5
      obtain⟨gh,fo,dq⟩:=A5 (sz:=1) rfl ab fu
      obtain rfl:=fo
      obtain⟨am,cm⟩:=A7 bb (i:=0) rfl (b0:=0+(d:Int).toNat*1) (Nat.lt_of_lt_of_le (Nat.lt_add_of_pos_right (by decide)) (Ar (sz:=1) rfl ab b2))
      have e8:=bb.addPlc (b:=am) (o:=0+(d:Int).toNat*1) (cs:=[]) (fun j c hj=>by simp at hj) rfl (by kernel_rfl) (by kernel_rfl)
      have gi:∀ (e:A9) k c,([.int .i64 x71]:List SC)[k]? = some c→(ac)[0+(d:Int).toNat*1+k]? = some (c.den e):=fun e k c hk=>dq k _ (Aj hk)
      refine A3 5 (d) rfl rfl (rfl) rfl (by decide) eh (by rfl) (by rfl) (by rfl) cm (by rfl) c1 c5 (by kernel_rfl) fun b9 (ei:Kn 77 (PK p ad d ag ai aj am) ((tP 71 4 0)::(tI 70 (IntKind.i64.wrap (x68+1)))::(tI 67 d)::(tS 66 f x_v10.length g)::(tI 9 d)::(Cm x_v12 f x_v10 g l x_v11 m a_words words c_words)) b9)=>?_
      obtain⟨af,dd,q⟩:=Ao q
      obtain⟨gl,gm,c7⟩:=BS dd
      refine wl fun K hK=>?_
      refine Bf 0 4 0 (0+(d:Int).toNat*1) (.c (.int .i64 (IntKind.i64.wrap (x68+1)))) ei e8 rfl rfl (by rfl) (by rfl) rfl rfl cm rfl (by kernel_rfl) (Ar (sz:=1) rfl ab b2) fun f9 ej e9=>?_
      have dr:Ae an af (ac.take (0+(d:Int).toNat*1+0)++([.int .i64 (IntKind.i64.wrap (x68+1))]:List Value)++ac.drop (0+(d:Int).toNat*1+0+1)):=by rw [c7]; exact Cq (sz:=1) rfl ab b2 (Ad:rep an (IntKind.i64.wrap (x68+1):Int) _)
      have cx:x_v10.length=af.length:=by rw [c7]; simp
      have ek:Kn 77 [(p,0),(ad,0+(d:Int).toNat*1),(ag,ai+(d:Int).toNat*1),(aj,0+(d:Int).toNat*1),(am,0+(d:Int).toNat*1)] [(71,.one (.c (.ptr 4 0))),(70,.one (.c (.int .i64 (IntKind.i64.wrap (x68+1))))),(67,.one (.c (.int .i64 d))),(66,.one (.c (.slice f af.length g))),(9,.one (.c (.int .i64 d))),(8,.one (.c (.int .i64 x_v12))),(7,.one (.c (.slice f af.length g))),(6,.one (.c (.slice l x_v11.length m))),(2,.one (.c (.ptr 0 0))),(1,.one (.c (.slice a_words words.length c_words)))] b9:=by rw [← cx]; exact ej
      have cv:Ai ⟨w,h,AC⟩ an [(p,0),(ad,0+(d:Int).toNat*1),(ag,ai+(d:Int).toNat*1),(aj,0+(d:Int).toNat*1),(am,0+(d:Int).toNat*1)] [⟨[.slice s y.room.length u,.slice z y.buses.length aa,.int .i64 y.broken],some 25⟩,⟨[],none⟩,⟨[.int .i64 x63],none⟩,⟨[],none⟩,⟨[],none⟩] [⟨f,af.length,g,3,1,ac.take (0+(d:Int).toNat*1+0)++([.int .i64 (IntKind.i64.wrap (x68+1))]:List Value)++ac.drop (0+(d:Int).toNat*1+0+1),0⟩,⟨l,x_v11.length,m,3,1,al,0⟩] f9:=by rw [← cx]; exact e9
      refine hK _ _ ?_
      have el:Kn 77 (PK p ad d ag ai aj am) ((tI 9 d)::(tI 8 x_v12)::(tS 7 f af.length g)::(tS 6 l x_v11.length m)::(HG a_words words c_words)) b9:=ek.kp
      refine wf (Aa (Rk 0 2 ((tI 73 d)::(tS 72 l x_v11.length m)::(tI 8 x_v12)::(tS 7 f af.length g)::(HG a_words words c_words)) el cv fun g5 em=>?_))
      refine wl fun K hK=>?_
      refine wS 3 1 [.int .i64 d] em cv fun cf f4 hl (en:Kn 77 (PK p ad d ag ai aj am) ((tS 74 cf 1 1)::(tI 73 d)::(tS 72 l x_v11.length m)::(tI 8 x_v12)::(tS 7 f af.length g)::(HG a_words words c_words)) f4) cw=>?_
      have bv:Ae an ([d]:List Int) ([.int .i64 d]:List Value):=⟨_,_,rfl,(Ad:rep an (d:Int) _),rfl⟩
      refine hK _ _ ?_
      obtain⟨x75,ex75,q⟩:=Ao q
      obtain⟨b7,e6⟩:=Bn ex75
      refine wl fun K hK=>?_
      refine Bc 1 8 1 _ (x75.length) _ ([.int .i64 d]:List Value) en cw rfl rfl (by decide) rfl (by rfl) (by kernel_rfl) (by rfl) (by rfl) (Ae.len bv) (cw.rowCell (i:=2) rfl) bv.one (by rw [b7]; simp <;> omega) (by rw [b7]; exact e6) (by decide) fun bf bg de f5 hn du (eo:Kn 77 (PK p ad d ag ai aj am) ((tS 75 bf x75.length bg)::(tS 74 cf 1 1)::(tI 73 d)::(tS 72 l x_v11.length m)::(tI 8 x_v12)::(tS 7 f af.length g)::(HG a_words words c_words)) f5) b4=>?_
      have ds:Ae an x75 (al++([.int .i64 d]:List Value)):=by rw [b7]; exact Ae.append ar bv
      obtain rfl:de=0:=Nat.le_zero.1 du
      refine hK _ _ ?_
      refine Rk 4 1 ((tS 6 bf x75.length bg)::(tI 8 x_v12)::(tS 7 f af.length g)::(HG a_words words c_words)) eo b4 fun g6 ep=>?_
      refine wf (Aa (Rk 0 3 ((tI 8 (IntKind.i64.wrap (x_v12+1)))::(tS 6 bf x75.length bg)::(tS 7 f af.length g)::(HG a_words words c_words)) ep b4 fun g7 er=>?_))
      refine wf ?_
      exact XY bd ⟨Nat.lt_succ_self _,XY af ⟨x75,IntKind.i64.wrap (x_v12+1),f,g,ac.take (0+(d:Int).toNat*1+0)++([.int .i64 (IntKind.i64.wrap (x68+1))]:List Value)++ac.drop (0+(d:Int).toNat*1+0+1),bf,bg,al++([.int .i64 d]:List Value),_,_,rfl,(er.keep [8,7,6,2,1] (by rfl)).cut 1 (by kernel_rfl),(b4.cutRw 2).cutPl 1 (by kernel_rfl),XU a7 (XU a1 bj),dr,ds,q⟩⟩
   ·
    rw [bt,XV] at q
    refine wp_exit ?_
    obtain rfl:=XZ q
    exact XY (x_v10,x_v11) ⟨f,g,ac,l,m,al,_,_,rfl,b1.kp,ay,a7,ab,ar,rfl⟩
 ·
  rintro _ ga ⟨ae,bn,bp,bm,au,av,be,ca,a4,rfl,es,b5,gk,gj,bw,rfl⟩
  rw [Ex.bind_go] at H
  refine XT (Aa (Rk 0 3 [tB 5 true,tS 4 au ae.2.length av] es b5 fun g8 et=>?_))
  refine wf (wp_ret ?_)
  obtain⟨cj,e7,fi,b6⟩:=b5.settle (i:=1) rfl
  replace bw:=bw.mono e7
  replace b6:Ai ⟨w,h,AC⟩ cj [(p,0)] [⟨Gu s y u z aa,some 25⟩] [⟨bn,ae.1.length,bp,3,1,bm,0⟩,⟨au,ae.2.length,av,3,1,be,(be:List Value).length⟩] ga:=b6
  have fh:A1 cj au av ae.2:=⟨_,bw,fi,b5.rowCap (i:=1) rfl⟩
  obtain rfl:=XZ H
  exact rt (.tup [.c (.slice au ae.2.length av),.c (.bool true)]) et b6 ⟨_,_,rfl,⟨_,_,rfl,fh⟩,rfl⟩
set_option maxRecDepth 100000 in
set_option maxHeartbeats 4000000 in
theorem ND (n:Nat) {h:Ac} {w:World} (hh:Dk h w) (order:List Int) {a_order:Option Addr} {c_order:Nat} (hr_order:A1 h a_order c_order order) (bus:Int) {r:Int} (H:FY n order bus=some r) :
  Calls Try.prog 29 #[.slice a_order order.length c_order,.int .i64 bus] w (Dz (fun h v=>v=.int .i64 r) h w):=by
 refine enter 19 [.c (.slice a_order order.length c_order),.c (.int .i64 bus)] Try.func29 rfl rfl rfl rfl fun t hk=>?_
 have hm:=Ai.begin h w hh
 unfold FY at H
 refine XT (Aa (Rk 0 1 [tS 0 a_order order.length c_order,tI 1 bus] hk hm fun ay ag=>?_))
 refine wf (XT (XT (Aa (Rk 0 1 [tI 5 0,tS 0 a_order order.length c_order,tI 1 bus] ag hm fun a1 aj=>?_))))
 refine wf ?_
 obtain⟨aa,y,H⟩:=Ao H
 refine As (fun a' w'=>∃ (ac:Unit)(u:Array Value)(g:Ac),a' = ⟨u,[]⟩∧Kn 19 [] [] u∧Ai ⟨w,h,AC⟩ g [] [] [] w'∧Ac.le h g∧aa=.go ac) ?_ ?_
 ·
  refine wp_block ?_
  refine At (fun au a' w'=>∃ (x_v10:Int)(s:Array Value)(f:Ac),a' = ⟨s,[]⟩∧Kn 19 [] [tI 5 x_v10,tS 0 a_order order.length c_order,tI 1 bus] s∧Ai ⟨w,h,AC⟩ f [] [] [] w'∧Ac.le h f∧CJ au order bus x_v10=some aa) n ?_ ?_
  ·
   exact XY 0 ⟨_,_,rfl,aj.kp,hm,Ac.le_refl _,y⟩
  ·
   rintro q _ a6 ⟨x_v10,s,f,rfl,af,e,p,a⟩
   clear y
   obtain _ | q:=q
   ·
    rw [CJ] at a; cases a
   rw [CJ] at a
   replace hr_order:=hr_order.mono p
   refine XT (XT (Aa (Rk 0 4 [tB 9 (decide (x_v10<((order.length:Nat):Int))),tI 5 x_v10,tS 0 a_order order.length c_order,tI 1 bus] af e fun az l=>?_)))
   refine wf (wC (decide (x_v10<((order.length:Nat):Int))) l (fun i=>?_) (fun i=>?_))
   ·
    rw [i,XW] at a
    refine wp_skip (XT (wp_block (XT (Aa (Rk 0 2 [tI 13 x_v10,tS 12 a_order order.length c_order,tI 5 x_v10,tS 0 a_order order.length c_order,tI 1 bus] l e fun a0 ah=>?_)))))
    obtain⟨x14,ex14,a⟩:=Ao a
    obtain⟨ao,ap,ar⟩:=Ah ex14
    obtain⟨x,ab,aw,ad,aq,ae⟩:=hr_order.get (by decide) ar
    obtain rfl:=aq
    have d:=e.addPlc (b:=x) (o:=ab+(x_v10:Int).toNat*1) (cs:=[.int .i64 x14]) (fun j c hj=>ae j _ (Aj hj)) rfl (by kernel_rfl) (by kernel_rfl)
    refine A3 2 (x_v10) rfl rfl (rfl) rfl (by decide) ah (by rfl) (by rfl) (by rfl) ad (by rfl) ao ap (by kernel_rfl) fun av (ai:Kn 19 [(x,ab+(x_v10:Int).toNat*1)] [tP 14 0 0,tI 13 x_v10,tS 12 a_order order.length c_order,tI 5 x_v10,tS 0 a_order order.length c_order,tI 1 bus] av)=>?_
    refine Rk 3 3 [tB 17 (x14 == bus),tI 5 x_v10,tS 0 a_order order.length c_order,tI 1 bus] ai d fun a2 m=>?_
    refine wf (wC ((x14 == bus)) m (fun k=>?_) (fun k=>?_))
    ·
     rw [k,XW] at a
     refine XT (Aa (Rk 0 2 [tI 4 x_v10] m d fun a3 ak=>?_))
     refine wf (wp_ret ?_)
     obtain rfl:=XZ a
     obtain rfl:=XZ H
     exact rt (.one (.c (.int .i64 x_v10))) ak d rfl
    ·
     rw [k,XV] at a
     refine wp_skip (Aa (Rk 0 3 [tI 5 (IntKind.i64.wrap (x_v10+1)),tS 0 a_order order.length c_order,tI 1 bus] m d fun a4 al=>?_))
     refine wf ?_
     exact XY q ⟨Nat.lt_succ_self _,XY (IntKind.i64.wrap (x_v10+1)) ⟨_,_,rfl,(al.keep [5,0,1] (by rfl)).cut 0 (by kernel_rfl),d.cutPl 0 (by kernel_rfl),p,a⟩⟩
   ·
    rw [i,XV] at a
    refine wp_exit ?_
    obtain rfl:=XZ a
    exact XY () ⟨_,_,rfl,l.kp,e,p,rfl⟩
 ·
  rintro _ a7 ⟨ac,u,g,rfl,am,z,ax,rfl⟩
  rw [Ex.bind_go] at H
  refine XT (Aa (Rk 0 1 [tI 4 (-1)] am z fun a5 an=>?_))
  refine wf (wp_ret ?_)
  obtain rfl:=XZ H
  exact rt (.one (.c (.int .i64 (-1)))) an z rfl
abbrev Qm (ad:Option Addr) (y:Ak):List SC:=[.slice ad 1 1,.slice none 0 0,.int .i64 y.broken]
abbrev NE (x97:AX):List SC:=[.int .i64 x97.lo,.int .i64 x97.hi,.int .i64 x97.turn]
abbrev Sd (ad aw:Option Addr) (x_v22:List AX) (ax:Nat) (y:Ak):List SC:=[.slice ad 1 1,.slice aw x_v22.length ax,.int .i64 y.broken]
abbrev Qn (ad aq:Option Addr) (a:((List Int)×(List Int)×(List AX))) (ar:Nat) (y:Ak):List SC:=[.slice ad 1 1,.slice aq a.2.2.length ar,.int .i64 y.broken]
abbrev DI (ai:Option Addr) (y:Ak) (aj:Nat) (ag:Option Addr) (ah:Nat):List SC:=[.slice ai y.room.length aj,.slice ag y.buses.length ah,.int .i64 y.broken]
abbrev M5 (cg:Option Addr) (x43:Ak) (ck:Nat) (ch:Option Addr) (cl:Nat):List SC:=[.slice cg x43.room.length ck,.slice ch x43.buses.length cl,.int .i64 x43.broken]
abbrev IB (z ac a4:Nat) (x_v23:Int) (bc bd be bv bz:Nat):A9:=[(z,0),(ac,0),(a4,0+(x_v23:Int).toNat*1),(bc,bd+(x_v23:Int).toNat*1),(be,0+(x_v23:Int).toNat*1),(bv,bz+(x_v23:Int).toNat*3)]
abbrev Qo (x97:AX) (x_v23:Int):List Fl:=[⟨7,99,49,3,1,NE x97⟩,⟨11,103,3,1,1,[.int .i64 x_v23]⟩]
abbrev JT (ai:Option Addr) (y:Ak) (aj:Nat) (ag:Option Addr) (ah:Nat) (ad aq:Option Addr) (a:((List Int)×(List Int)×(List AX))) (ar:Nat):List BT:=[⟨DI ai y aj ag ah,some 25⟩,⟨Qn ad aq a ar y,some 25⟩]
abbrev Mq (ai:Option Addr) (y:Ak) (aj:Nat) (ag:Option Addr) (ah:Nat) (b5:Option Addr) (b7:Nat) (b6:Option Addr) (a:((List Int)×(List Int)×(List AX))) (b8:Nat):List BT:=[⟨DI ai y aj ag ah,some 25⟩,⟨[.slice b5 1 b7,.slice b6 a.2.2.length b8,.int .i64 y.broken],some 25⟩]
abbrev KC (ai:Option Addr) (y:Ak) (aj:Nat) (ag:Option Addr) (ah:Nat) (ad aw:Option Addr) (x_v22:List AX) (ax:Nat) (x82:Int) (x97:AX):List BT:=[⟨DI ai y aj ag ah,some 25⟩,⟨Sd ad aw x_v22 ax y,some 25⟩,⟨[],none⟩,⟨[.int .i64 x82],none⟩,⟨[],none⟩,⟨NE x97,none⟩]
abbrev RM (al:Option Addr) (az:List Int) (am:Nat) (ak:List Value) (x_v23:Int) (x_v22:List AX) (ad au:Option Addr) (x_v21:List Int) (av:Nat) (bt:List Value) (aw:Option Addr) (ax:Nat) (b4:List Value):List BC:=[⟨al,az.length,am,3,1,(ak.take (0+(x_v23:Int).toNat*1+0)++([.int .i64 (-1)]:List Value)++ak.drop (0+(x_v23:Int).toNat*1+0+1)).take (0+(x_v23:Int).toNat*1+0)++([.int .i64 ((x_v22.length:Nat):Int)]:List Value)++(ak.take (0+(x_v23:Int).toNat*1+0)++([.int .i64 (-1)]:List Value)++ak.drop (0+(x_v23:Int).toNat*1+0+1)).drop (0+(x_v23:Int).toNat*1+0+1),0⟩,⟨ad,1,1,3,1,([.int .i64 8]:List Value),0⟩,⟨au,x_v21.length,av,3,1,bt,0⟩,⟨aw,x_v22.length,ax,49,3,b4,0⟩]
abbrev HH (s:Option Addr) (x50:(List Int)×Int) (u:Nat) (m:Option Addr) (x40:List Int) (q:Nat) (l:Option Addr) (x37:List Int) (p:Nat) (f:Option Addr) (d:(Bool×(List Int))) (g:Nat):TM:=[tS 9 s x50.1.length u,tS 8 m x40.length q,tS 7 l x37.length p,tS 5 f d.2.length g,tP 2 0 0]
abbrev BA (ae:Option Addr) (a:((List Int)×(List Int)×(List AX))) (af:Nat) (x_v10 x_v11:Int) (s:Option Addr) (x50:(List Int)×Int) (u:Nat) (m:Option Addr) (x40:List Int) (q:Nat) (l:Option Addr) (x37:List Int) (p:Nat) (f:Option Addr) (d:(Bool×(List Int))) (g:Nat):TM:=(tP 14 1 0)::(tS 13 ae a.1.length af)::(tI 12 x_v10)::(tI 11 x_v11)::(HH s x50 u m x40 q l x37 p f d g)
abbrev EI (x_v50:Int) (a1:Option Addr) (x163:(List Int)×Int) (a2:Nat) (aa:Option Addr) (a:((List Int)×(List Int)×(List AX))) (ab:Nat) (x_v10 x_v51:Int) (s:Option Addr) (x50:(List Int)×Int) (u:Nat) (m:Option Addr) (x40:List Int) (q:Nat) (l:Option Addr) (x37:List Int) (p:Nat) (f:Option Addr) (d:(Bool×(List Int))) (g:Nat):TM:=(tI 23 x_v50)::(tS 21 a1 x163.1.length a2)::(tS 17 aa a.2.1.length ab)::(tI 12 x_v10)::(tI 11 x_v51)::(HH s x50 u m x40 q l x37 p f d g)
abbrev PL (x_v23:Int) (au:Option Addr) (x_v21:List Int) (av:Nat) (x97:AX) (aw:Option Addr) (x_v22:List AX) (ax:Nat) (al:Option Addr) (az:List Int) (am:Nat) (x_v10 x_v11:Int) (s:Option Addr) (x50:(List Int)×Int) (u:Nat) (m:Option Addr) (x40:List Int) (q:Nat) (l:Option Addr) (x37:List Int) (p:Nat) (f:Option Addr) (d:(Bool×(List Int))) (g:Nat) (cd:Option Addr):TM:=[tI 102 x_v23,tS 101 au x_v21.length av,tA 98 (NE x97),tS 93 aw x_v22.length ax,tI 18 x_v23,tS 16 none 0 0,tS 15 none 0 0,tP 14 1 0,tS 13 al az.length am,tI 12 x_v10,tI 11 x_v11,tS 9 s x50.1.length u,tS 8 m x40.length q,tS 7 l x37.length p,tS 5 f d.2.length g,tP 2 0 0,tS 99 cd 1 1]
abbrev B5 (x_v10 x_v11:Int) (s:Option Addr) (x50:(List Int)×Int) (u:Nat) (m:Option Addr) (x40:List Int) (q:Nat) (l:Option Addr) (x37:List Int) (p:Nat) (f:Option Addr) (d:(Bool×(List Int))) (g:Nat):TM:=(tI 12 x_v10)::(tI 11 x_v11)::(HH s x50 u m x40 q l x37 p f d g)
set_option maxRecDepth 100000 in
set_option maxHeartbeats 4000000 in
theorem JU (n:Nat) {h:Ac} {w:World} (hh:Dk h w) (y:Ak) {cs_y:List Value} (hx_y:rep h y cs_y) (words:List (IK .u16)) {a_words:Option Addr} {c_words:Nat} (hr_words:A1 h a_words c_words words) {r:Bool} (H:E4 n y words=some r) :
  Calls Try.prog 7 #[.agg cs_y.toArray,.slice a_words words.length c_words] w (Dz (fun h v=>v=.bool r) h w):=by
 obtain⟨_,_,rfl,⟨ai,aj,rfl,a0⟩,⟨_,_,rfl,⟨ag,ah,rfl,ay⟩,rfl⟩⟩:=hx_y
 refine enter 204 [.agg (DI ai y aj ag ah),.c (.slice a_words words.length c_words)] Try.func7 rfl rfl rfl rfl fun t hk=>?_
 have hm:=Ai.begin h w hh
 unfold E4 at H
 refine XT (Aa (wl fun K hK=>?_))
 refine wb (.agg (DI ai y aj ag ah)) hk hm fun z vz aa4 (oq:Kn 204 [(z,0)] [tP 2 0 0,tA 0 (DI ai y aj ag ah),tS 1 a_words words.length c_words] vz) fb=>hK _ _ ?_
 refine Rk 1 1 [tP 2 0 0,tS 1 a_words words.length c_words] oq fb fun xs ow=>?_
 refine wf (XT (Aa (Rk 0 2 [tB 6 false,tS 5 none 0 0,tP 2 0 0,tS 1 a_words words.length c_words] ow fb fun xv o0=>?_)))
 refine wf (XT (XT (Aa (Rk 0 1 [tA 24 (DI ai y aj ag ah),tB 6 false,tS 5 none 0 0,tP 2 0 0,tS 1 a_words words.length c_words] o0 fb fun xx o6=>?_))))
 obtain⟨x25,ex25,H⟩:=Ao H
 refine wl fun K hK=>?_
 refine wc [.agg (DI ai y aj ag ah)] o6 fb (NC n fb.has y ((Ab (Ag a0) (Ab (Ag ay) Ad)):rep h y _) ex25) fun zz kh aag m4 iu gg=>?_
 replace a0:=a0.mono iu
 replace ay:=ay.mono iu
 replace hr_words:=hr_words.mono iu
 obtain rfl:=m4
 refine⟨.one (.c (.bool x25)),rfl,fun mj (ph:Kn 204 [(z,0)] [tB 25 x25,tA 24 (DI ai y aj ag ah),tB 6 false,tS 5 none 0 0,tP 2 0 0,tS 1 a_words words.length c_words] mj)=>hK _ _ ?_⟩
 have ic:Kn 204 [(z,0)] [tB 25 x25,tB 6 false,tS 5 none 0 0,tP 2 0 0,tS 1 a_words words.length c_words] mj:=ph.kp
 refine wf ?_
 obtain⟨d,ec,H⟩:=Ao H
 refine As (fun a' w'=>∃ (f:Option Addr)(g:Nat)(ju:Array Value)(ew:Ac),a' = ⟨ju,[]⟩∧Kn 204 [(z,0)] [tB 6 d.1,tS 5 f d.2.length g,tP 2 0 0,tS 1 a_words words.length c_words] ju∧Ai ⟨w,h,AC⟩ ew [(z,0)] [⟨DI ai y aj ag ah,some 25⟩] [] w'∧Ac.le kh ew∧A1 ew f g d.2) ?_ ?_
 ·
  refine wC (x25) ic (fun ht=>?_) (fun ht=>?_)
  ·
   rw [B2 ht] at ec
   refine Aa (Rk 0 2 [tS 28 a_words words.length c_words,tA 27 (DI ai y aj ag ah),tP 2 0 0,tS 1 a_words words.length c_words] ic gg fun ye pw=>?_)
   obtain⟨x29,ex29,ec⟩:=Ao ec
   refine wl fun K hK=>?_
   refine wc [.agg (DI ai y aj ag ah),.c (.slice a_words words.length c_words)] pw gg (M4 n gg.has y ((Ab (Ag a0) (Ab (Ag ay) Ad)):rep kh y _) words hr_words ex29) fun z0 w6 aak m5 sj lf=>?_
   obtain⟨_,_,rfl,⟨fo,fy,rfl,tm⟩,rfl⟩:=m5
   refine⟨.tup [.c (.slice fo x29.1.length fy),.c (.bool x29.2)],rfl,fun vh (p9:Kn 204 [(z,0)] [(29,.tup [.c (.slice fo x29.1.length fy),.c (.bool x29.2)]),tS 28 a_words words.length c_words,tA 27 (DI ai y aj ag ah),tP 2 0 0,tS 1 a_words words.length c_words] vh)=>hK _ _ ?_⟩
   refine Rk 3 5 [tB 6 x29.2,tS 5 fo x29.1.length fy,tP 2 0 0,tS 1 a_words words.length c_words] p9 lf fun yk qc=>?_
   refine wf ?_
   obtain rfl:=XZ ec
   exact XY fo ⟨fy,_,_,rfl,qc.kp,lf,sj,tm⟩
  ·
   rw [B3 ht] at ec
   refine wp_skip ?_
   obtain rfl:=XZ ec
   exact XY none ⟨0,_,_,rfl,ic.kp,gg,Ac.le_refl _,A1.nil⟩
 ·
  rintro _ aap ⟨f,g,ju,ew,rfl,qf,dh,iw,bk⟩
  replace a0:=a0.mono iw
  replace ay:=ay.mono iw
  replace hr_words:=hr_words.mono iw
  refine XT (XT (Aa (Rk 0 2 [tB 33 (!d.1),tS 5 f d.2.length g,tP 2 0 0,tS 1 a_words words.length c_words] qf dh fun yr ij=>?_)))
  refine wf (wC ((!d.1)) ij (fun hw=>?_) (fun hw=>?_))
  ·
   rw [hw,XW] at H
   refine XT (Aa ?_)
   obtain⟨x34,ex34,H⟩:=Ao H
   refine wl fun K hK=>?_
   refine wc [] ij dh (J3 n dh.has  ex34) fun z1 w7 aas m6 xh lj=>?_
   obtain rfl:=m6
   refine⟨.one (.c (.bool x34)),rfl,fun vp (qz:Kn 204 [(z,0)] [tB 34 x34,tB 33 (!d.1),tS 5 f d.2.length g,tP 2 0 0,tS 1 a_words words.length c_words] vp)=>hK _ _ ?_⟩
   refine Rk 1 1 [tB 4 x34] qz lj fun y3 q2=>?_
   refine wf (wp_ret ?_)
   obtain rfl:=XZ H
   exact rt (.one (.c (.bool x34))) q2 lj rfl
  ·
   rw [hw,XV] at H
   refine wp_skip (XT (A0 (by kernel_rfl) ?_))
   replace dh:=dh.drew
   refine A4 [] [(z,0)] [⟨DI ai y aj ag ah,some 25⟩] ?_
   refine Dr [0,1,3,4] [4,3,1,0] [tS 39 a_words words.length c_words,tA 38 (DI ai y aj ag ah),tS 36 a_words words.length c_words,tA 35 (DI ai y aj ag ah),tS 5 f d.2.length g,tP 2 0 0] ij dh fun y5 q6=>?_
   obtain⟨x37,ex37,H⟩:=Ao H
   refine Dl 2 fun K hK=>?_
   refine wc [.agg (DI ai y aj ag ah),.c (.slice a_words words.length c_words)] q6 dh (OM n dh.has y ((Ab (Ag a0) (Ab (Ag ay) Ad)):rep ew y _) words hr_words ex37) fun z2 nl aaw m7 f9 i8=>?_
   replace a0:=a0.mono f9
   replace ay:=ay.mono f9
   replace hr_words:=hr_words.mono f9
   obtain⟨l,p,rfl,ba⟩:=m7
   refine⟨.one (.c (.slice l x37.length p)),rfl,fun vw (rj:Kn 204 [(z,0)] [tS 37 l x37.length p,tS 39 a_words words.length c_words,tA 38 (DI ai y aj ag ah),tS 36 a_words words.length c_words,tA 35 (DI ai y aj ag ah),tS 5 f d.2.length g,tP 2 0 0] vw)=>hK _ _ i8.plOk ?_⟩
   obtain⟨x40,ex40,H⟩:=Ao H
   refine Dl 5 fun K hK=>?_
   refine wc [.agg (DI ai y aj ag ah),.c (.slice a_words words.length c_words)] rj i8 (ON n i8.has y ((Ab (Ag a0) (Ab (Ag ay) Ad)):rep nl y _) words hr_words ex40) fun z5 nm aa0 na ga fe=>?_
   replace a0:=a0.mono ga
   replace ay:=ay.mono ga
   obtain⟨m,q,rfl,bb⟩:=na
   refine⟨.one (.c (.slice m x40.length q)),rfl,fun v4 (r1:Kn 204 [(z,0)] [tS 40 m x40.length q,tS 37 l x37.length p,tS 39 a_words words.length c_words,tA 38 (DI ai y aj ag ah),tS 36 a_words words.length c_words,tA 35 (DI ai y aj ag ah),tS 5 f d.2.length g,tP 2 0 0] v4)=>hK _ _ fe.plOk ?_⟩
   refine Dr [6,7] [7,6,5,2,4,3,1,0] [tS 8 m x40.length q,tS 7 l x37.length p,tS 5 f d.2.length g,tP 2 0 0] r1 fe fun zr r2=>?_
   refine AZ (by kernel_rfl) (XT (Aa (Rk 0 1 [tA 42 (DI ai y aj ag ah),tS 8 m x40.length q,tS 7 l x37.length p,tS 5 f d.2.length g,tP 2 0 0] r2 fe fun zs r5=>?_)))
   obtain⟨x43,ex43,H⟩:=Ao H
   refine wl fun K hK=>?_
   refine wc [.agg (DI ai y aj ag ah)] r5 fe (HE n fe.has y ((Ab (Ag a0) (Ab (Ag ay) Ad)):rep nm y _) ex43) fun aaa xc aa8 ng fa jc=>?_
   replace bk:=bk.mono (XU (XU f9 ga) fa)
   obtain⟨_,rfl,⟨_,_,rfl,⟨cg,ck,rfl,jd⟩,⟨_,_,rfl,⟨ch,cl,rfl,je⟩,rfl⟩⟩⟩:=ng
   refine⟨.one (.agg (M5 cg x43 ck ch cl)),rfl,fun u4 (os:Kn 204 [(z,0)] [tA 43 (M5 cg x43 ck ch cl),tA 42 (DI ai y aj ag ah),tS 8 m x40.length q,tS 7 l x37.length p,tS 5 f d.2.length g,tP 2 0 0] u4)=>hK _ _ ?_⟩
   refine Rk 2 1 [tS 44 f d.2.length g,tA 43 (M5 cg x43 ck ch cl),tS 8 m x40.length q,tS 7 l x37.length p,tS 5 f d.2.length g,tP 2 0 0] os jc fun xr ot=>?_
   obtain⟨x45,ex45,H⟩:=Ao H
   refine wl fun K hK=>?_
   refine wc [.c (.slice f d.2.length g)] ot jc (EH n jc.has d.2 bk ex45) fun zv w4 aab m0 dw iz=>?_
   replace ba:=ba.mono (XU (XU ga fa) dw)
   obtain⟨c6,c8,rfl,jf⟩:=m0
   refine⟨.one (.c (.slice c6 x45.length c8)),rfl,fun u5 (ou:Kn 204 [(z,0)] [tS 45 c6 x45.length c8,tS 44 f d.2.length g,tA 43 (M5 cg x43 ck ch cl),tS 8 m x40.length q,tS 7 l x37.length p,tS 5 f d.2.length g,tP 2 0 0] u5)=>hK _ _ ?_⟩
   refine Rk 4 1 [tS 46 l x37.length p,tS 45 c6 x45.length c8,tA 43 (M5 cg x43 ck ch cl),tS 8 m x40.length q,tS 7 l x37.length p,tS 5 f d.2.length g,tP 2 0 0] ou iz fun xt ov=>?_
   obtain⟨x47,ex47,H⟩:=Ao H
   refine wl fun K hK=>?_
   refine wc [.c (.slice l x37.length p)] ov iz (EH n iz.has x37 ba ex47) fun zw w5 aac m1 dd i0=>?_
   replace bb:=bb.mono (XU (XU fa dw) dd)
   obtain⟨d6,eb,rfl,jg⟩:=m1
   refine⟨.one (.c (.slice d6 x47.length eb)),rfl,fun u6 (ox:Kn 204 [(z,0)] [tS 47 d6 x47.length eb,tS 46 l x37.length p,tS 45 c6 x45.length c8,tA 43 (M5 cg x43 ck ch cl),tS 8 m x40.length q,tS 7 l x37.length p,tS 5 f d.2.length g,tP 2 0 0] u6)=>hK _ _ ?_⟩
   refine Rk 6 1 [tS 48 m x40.length q,tS 47 d6 x47.length eb,tS 45 c6 x45.length c8,tA 43 (M5 cg x43 ck ch cl),tS 8 m x40.length q,tS 7 l x37.length p,tS 5 f d.2.length g,tP 2 0 0] ox i0 fun xu oy=>?_
   obtain⟨x49,ex49,H⟩:=Ao H
   refine wl fun K hK=>?_
   refine wc [.c (.slice m x40.length q)] oy i0 (EH n i0.has x40 bb ex49) fun zx nj aad m2 c3 k9=>?_
   replace jd:=jd.mono (XU (XU dw dd) c3)
   replace je:=je.mono (XU (XU dw dd) c3)
   replace jf:=jf.mono (XU dd c3)
   replace jg:=jg.mono c3
   obtain⟨fm,fw,rfl,tl⟩:=m2
   refine⟨.one (.c (.slice fm x49.length fw)),rfl,fun u7 (oz:Kn 204 [(z,0)] [tS 49 fm x49.length fw,tS 48 m x40.length q,tS 47 d6 x47.length eb,tS 45 c6 x45.length c8,tA 43 (M5 cg x43 ck ch cl),tS 8 m x40.length q,tS 7 l x37.length p,tS 5 f d.2.length g,tP 2 0 0] u7)=>hK _ _ ?_⟩
   obtain⟨x50,ex50,H⟩:=Ao H
   refine wl fun K hK=>?_
   refine wc [.agg (M5 cg x43 ck ch cl),.c (.slice c6 x45.length c8),.c (.slice d6 x47.length eb),.c (.slice fm x49.length fw)] oz k9 (Fv n k9.has x43 ((Ab (Ag jd) (Ab (Ag je) Ad)):rep nj x43 _) x45 jf x47 jg x49 tl ex50) fun zy kg aae m3 e6 dx=>?_
   replace a0:=a0.mono (XU (XU (XU (XU fa dw) dd) c3) e6)
   replace ay:=ay.mono (XU (XU (XU (XU fa dw) dd) c3) e6)
   replace bk:=bk.mono (XU (XU (XU dw dd) c3) e6)
   replace ba:=ba.mono (XU (XU dd c3) e6)
   replace bb:=bb.mono (XU c3 e6)
   obtain⟨_,_,rfl,⟨s,u,rfl,b3⟩,rfl⟩:=m3
   refine⟨.tup [.c (.slice s x50.1.length u),.c (.int .i64 x50.2)],rfl,fun u8 (o1:Kn 204 [(z,0)] [(50,.tup [.c (.slice s x50.1.length u),.c (.int .i64 x50.2)]),tS 49 fm x49.length fw,tS 48 m x40.length q,tS 47 d6 x47.length eb,tS 45 c6 x45.length c8,tA 43 (M5 cg x43 ck ch cl),tS 8 m x40.length q,tS 7 l x37.length p,tS 5 f d.2.length g,tP 2 0 0] u8)=>hK _ _ ?_⟩
   refine Rk 9 5 ((tI 10 x50.2)::(HH s x50 u m x40 q l x37 p f d g)) o1 dx fun xw o2=>?_
   refine wf (XT (XT (Aa (Rk 0 2 ((tB 54 (x50.2 != 0))::(HH s x50 u m x40 q l x37 p f d g)) o2 dx fun xy ia=>?_))))
   refine wf (wC ((x50.2 != 0)) ia (fun hp=>?_) (fun hp=>?_))
   ·
    rw [hp,XW] at H
    refine XT (Aa (Rk 0 1 [tB 4 false] ia dx fun xz o3=>?_))
    refine wf (wp_ret ?_)
    obtain rfl:=XZ H
    exact rt (.one (.c (.bool false))) o3 dx rfl
   ·
    rw [hp,XV] at H
    refine wp_skip (XT (Aa (Rk 0 1 ((tI 11 0)::(HH s x50 u m x40 q l x37 p f d g)) ia dx fun x0 o4=>?_)))
    refine wf (XT (XT (Aa (Rk 0 1 ((tI 12 0)::(tI 11 0)::(HH s x50 u m x40 q l x37 p f d g)) o4 dx fun x1 o5=>?_))))
    refine wf ?_
    obtain⟨mg,kb,H⟩:=Ao H
    refine As (fun a' w'=>∃ (fj:Int)(jp:Array Value)(hd:Ac),a' = ⟨jp,[]⟩∧Kn 204 [(z,0)] [tI 11 fj,tS 9 s x50.1.length u] jp∧Ai ⟨w,h,AC⟩ hd [(z,0)] [⟨DI ai y aj ag ah,some 25⟩] [] w'∧Ac.le kg hd∧mg=.go fj) ?_ ?_
    ·
     refine wp_block ?_
     refine At (fun uz a' w'=>∃ (x_v10:Int)(x_v11:Int)(jq:Array Value)(ce:Ac),a' = ⟨jq,[]⟩∧Kn 204 [(z,0)] (B5 x_v10 x_v11 s x50 u m x40 q l x37 p f d g) jq∧Ai ⟨w,h,AC⟩ ce [(z,0)] [⟨DI ai y aj ag ah,some 25⟩] [] w'∧Ac.le kg ce∧BI uz y d x37 x40 x50 x_v10 x_v11=some mg) n ?_ ?_
     ·
      exact XY 0 ⟨0,_,_,rfl,o5.kp,dx,Ac.le_refl _,kb⟩
     ·
      rintro cz _ aaf ⟨x_v10,x_v11,jq,ce,rfl,o7,gf,de,a3⟩
      clear kb
      obtain _ | cz:=cz
      ·
       rw [BI] at a3; cases a3
      rw [BI] at a3
      replace a0:=a0.mono de
      replace ay:=ay.mono de
      replace bk:=bk.mono de
      replace ba:=ba.mono de
      replace bb:=bb.mono de
      replace b3:=b3.mono de
      refine XT (XT (Aa (Rk 0 5 ((tB 59 (decide (x_v10<((y.room.length:Nat):Int))))::(B5 x_v10 x_v11 s x50 u m x40 q l x37 p f d g)) o7 gf fun x2 ib=>?_)))
      refine wf (wC (decide (x_v10<((y.room.length:Nat):Int))) ib (fun hq=>?_) (fun hq=>?_))
      ·
       rw [hq,XW] at a3
       refine wp_skip (XT (wp_block (XT (Aa (Rk 0 3 ((tI 64 ((y.buses.length:Nat):Int))::(B5 x_v10 x_v11 s x50 u m x40 q l x37 p f d g)) ib gf fun x3 o8=>?_)))))
       obtain⟨x65,ex65,a3⟩:=Ao a3
       obtain⟨sy,ta,ma⟩:=Jd ex65
       refine wl fun K hK=>?_
       refine Fb 3 1 8 [.int .i64 0] (((y.buses.length:Nat):Int)) o8 gf rfl rfl (by decide) (by rfl) (by kernel_rfl) (by kernel_rfl) (by rfl) sy ta (by decide) fun ci u9 v9 (kt:Kn 204 [(z,0)] [(65,.one (.c (.slice ci ((((y.buses.length:Nat):Int):Int).toNat) ((((y.buses.length:Nat):Int):Int).toNat)))),(64,.one (.c (.int .i64 ((y.buses.length:Nat):Int)))),(12,.one (.c (.int .i64 x_v10))),(11,.one (.c (.int .i64 x_v11))),(9,.one (.c (.slice s x50.1.length u))),(8,.one (.c (.slice m x40.length q))),(7,.one (.c (.slice l x37.length p))),(5,.one (.c (.slice f d.2.length g))),(2,.one (.c (.ptr 0 0)))] u9) (i1:Ai ⟨w,h,AC⟩ ce [(z,0)] [⟨[.slice ai y.room.length aj,.slice ag y.buses.length ah,.int .i64 y.broken],some 25⟩] [⟨ci,(((y.buses.length:Nat):Int):Int).toNat,(((y.buses.length:Nat):Int):Int).toNat,3,1,List.flatten (List.replicate (((y.buses.length:Nat):Int):Int).toNat ([.int .i64 0]:List Value)),0⟩] v9)=>?_
       have kr:Ae ce x65 (List.flatten (List.replicate (((y.buses.length:Nat):Int):Int).toNat ([.int .i64 0]:List Value))):=by rw [ma]; exact Ae.replicate (α:=Int) (x:=0) Ad _
       have k4:(((y.buses.length:Nat):Int):Int).toNat=x65.length:=by rw [ma]; simp
       rw [k4] at kt i1
       skip
       rw [k4] at kr
       refine hK _ _ ?_
       refine Rk 4 1 ((tS 13 ci x65.length x65.length)::(B5 x_v10 x_v11 s x50 u m x40 q l x37 p f d g)) kt i1 fun x4 o9=>?_
       refine wf (XT (Aa (wl fun K hK=>?_)))
       refine wS 3 1 [.int .i64 8] o9 i1 fun ad va aah (pa:Kn 204 [(z,0)] ((tS 66 ad 1 1)::(tS 13 ci x65.length x65.length)::(B5 x_v10 x_v11 s x50 u m x40 q l x37 p f d g)) va) la=>?_
       have bl:Ae ce ([8]:List Int) ([.int .i64 8]:List Value):=⟨_,_,rfl,(Ad:rep ce (8:Int) _),rfl⟩
       refine hK _ _ ?_
       refine Rk 1 3 ((tA 69 (Qm ad y))::(tS 13 ci x65.length x65.length)::(B5 x_v10 x_v11 s x50 u m x40 q l x37 p f d g)) pa la fun x5 pb=>?_
       refine wl fun K hK=>?_
       refine wa [.slice none 0 0,.slice none 0 0,.int .i64 0] pb la fun ac mi aai (pc:Kn 204 [(z,0),(ac,0)] ((tP 14 1 0)::(tA 69 (Qm ad y))::(tS 13 ci x65.length x65.length)::(B5 x_v10 x_v11 s x50 u m x40 q l x37 p f d g)) mi) sm=>hK _ _ ?_
       refine wl fun K hK=>?_
       refine D6 1 0 (.agg (Qm ad y)) (Qm ad y) pc sm fun mp pd i2=>hK _ _ ?_
       have pe:Kn 204 [(z,0),(ac,0)] ((tP 14 1 0)::(tS 13 ci x65.length x65.length)::(B5 x_v10 x_v11 s x50 u m x40 q l x37 p f d g)) mi:=pd.kp
       refine wf (XT (Aa (Rk 0 3 ((tS 17 none 0 0)::(tS 16 none 0 0)::(tS 15 none 0 0)::(tP 14 1 0)::(tS 13 ci x65.length x65.length)::(B5 x_v10 x_v11 s x50 u m x40 q l x37 p f d g)) pe i2 fun x6 pf=>?_)))
       refine wf (XT (XT (Aa (Rk 0 1 ((tI 18 0)::(tS 17 none 0 0)::(tS 16 none 0 0)::(tS 15 none 0 0)::(tP 14 1 0)::(tS 13 ci x65.length x65.length)::(B5 x_v10 x_v11 s x50 u m x40 q l x37 p f d g)) pf i2 fun x7 pg=>?_))))
       refine wf ?_
       have sn:Ai ⟨w,h,AC⟩ ce [(z,0),(ac,0)] [⟨DI ai y aj ag ah,some 25⟩,⟨Qm ad y,some 25⟩] [⟨ci,x65.length,x65.length,3,1,List.flatten (List.replicate x65.length ([.int .i64 0]:List Value)),0⟩,⟨ad,1,1,3,1,([.int .i64 8]:List Value),0⟩,⟨none,0,0,3,1,[],0⟩] mp:=i2.nilRow 3 1
       have nw:Ae ce ([]:List Int) []:=Ae.nil
       have sp:Ai ⟨w,h,AC⟩ ce [(z,0),(ac,0)] [⟨DI ai y aj ag ah,some 25⟩,⟨Qm ad y,some 25⟩] [⟨ci,x65.length,x65.length,3,1,List.flatten (List.replicate x65.length ([.int .i64 0]:List Value)),0⟩,⟨ad,1,1,3,1,([.int .i64 8]:List Value),0⟩,⟨none,0,0,3,1,[],0⟩,⟨none,0,0,49,3,[],0⟩] mp:=sn.nilRow 49 3
       have nx:Ae ce ([]:List AX) []:=Ae.nil
       obtain⟨a,kc,a3⟩:=Ao a3
       refine As (fun a' w'=>∃ (ae:Option Addr)(af:Nat)(a7:List Value)(aa:Option Addr)(ab:Nat)(bg:List Value)(aq:Option Addr)(ar:Nat)(bh:List Value)(jr:Array Value)(cw:Ac),a' = ⟨jr,[]⟩∧Kn 204 [(z,0),(ac,0)] ((tS 17 aa a.2.1.length ab)::(tS 16 none 0 0)::(tS 15 none 0 0)::(BA ae a af x_v10 x_v11 s x50 u m x40 q l x37 p f d g)) jr∧Ai ⟨w,h,AC⟩ cw [(z,0),(ac,0)] (JT ai y aj ag ah ad aq a ar) [⟨ae,a.1.length,af,3,1,a7,0⟩,⟨ad,1,1,3,1,([.int .i64 8]:List Value),0⟩,⟨aa,a.2.1.length,ab,3,1,bg,0⟩,⟨aq,a.2.2.length,ar,49,3,bh,0⟩] w'∧Ac.le ce cw∧Ae cw a.1 a7∧Ae cw a.2.1 bg∧Ae cw a.2.2 bh) ?_ ?_
       ·
        refine wp_block ?_
        refine At (fun u0 a' w'=>∃ (x_v20:List Int)(x_v21:List Int)(x_v22:List AX)(x_v23:Int)(al:Option Addr)(am:Nat)(ak:List Value)(au:Option Addr)(av:Nat)(bt:List Value)(aw:Option Addr)(ax:Nat)(b4:List Value)(js:Array Value)(b9:Ac),a' = ⟨js,[]⟩∧Kn 204 [(z,0),(ac,0)] ((tI 18 x_v23)::(tS 17 au x_v21.length av)::(tS 16 none 0 0)::(tS 15 none 0 0)::(tP 14 1 0)::(tS 13 al x_v20.length am)::(B5 x_v10 x_v11 s x50 u m x40 q l x37 p f d g)) js∧Ai ⟨w,h,AC⟩ b9 [(z,0),(ac,0)] [⟨DI ai y aj ag ah,some 25⟩,⟨Sd ad aw x_v22 ax y,some 25⟩] [⟨al,x_v20.length,am,3,1,ak,0⟩,⟨ad,1,1,3,1,([.int .i64 8]:List Value),0⟩,⟨au,x_v21.length,av,3,1,bt,0⟩,⟨aw,x_v22.length,ax,49,3,b4,0⟩] w'∧Ac.le ce b9∧Ae b9 x_v20 ak∧Ae b9 x_v21 bt∧Ae b9 x_v22 b4∧Bu u0 y d x_v10 x_v20 x_v21 x_v22 x_v23=some a) cz ?_ ?_
        ·
         exact XY x65 ⟨([]:List Int),([]:List AX),0,ci,x65.length,List.flatten (List.replicate x65.length ([.int .i64 0]:List Value)),none,0,[],none,0,[],_,_,rfl,pg.kp,sp,Ac.le_refl _,kr,nw,nx,kc⟩
        ·
         rintro g2 _ aaj ⟨x_v20,x_v21,x_v22,x_v23,al,am,ak,au,av,bt,aw,ax,b4,js,b9,rfl,pi,fc,cx,ez,e0,e1,a6⟩
         clear kc
         obtain _ | g2:=g2
         ·
          rw [Bu] at a6; cases a6
         rw [Bu] at a6
         replace a0:=a0.mono cx
         replace ay:=ay.mono cx
         replace bk:=bk.mono cx
         replace ba:=ba.mono cx
         replace bb:=bb.mono cx
         replace b3:=b3.mono cx
         replace bl:=bl.mono cx
         refine XT (XT (Aa (Rk 0 5 ((tB 74 (decide (x_v23<((y.buses.length:Nat):Int))))::(tI 18 x_v23)::(tS 17 au x_v21.length av)::(tS 16 none 0 0)::(tS 15 none 0 0)::(tP 14 1 0)::(tS 13 al x_v20.length am)::(B5 x_v10 x_v11 s x50 u m x40 q l x37 p f d g)) pi fc fun x8 ie=>?_)))
         refine wf (wC (decide (x_v23<((y.buses.length:Nat):Int))) ie (fun hr=>?_) (fun hr=>?_))
         ·
          rw [hr,XW] at a6
          refine wp_skip (XT (wp_block (XT (Aa (Rk 0 2 ((tI 78 x_v23)::(tS 77 al x_v20.length am)::(tI 18 x_v23)::(tS 17 au x_v21.length av)::(tS 16 none 0 0)::(tS 15 none 0 0)::(tP 14 1 0)::(tS 13 al x_v20.length am)::(B5 x_v10 x_v11 s x50 u m x40 q l x37 p f d g)) ie fc fun x9 pj=>?_)))))
          obtain⟨x79,ex79,a6⟩:=Ao a6
          obtain⟨lu,l1,ug⟩:=Ah ex79
          have iq:=A2 lu l1
          obtain⟨wk,t1,ny⟩:=A5 (sz:=1) rfl ez ug
          obtain rfl:=t1
          obtain⟨a4,ko⟩:=A7 fc (i:=0) rfl (b0:=0+(x_v23:Int).toNat*1) (Nat.lt_of_lt_of_le (Nat.lt_add_of_pos_right (by decide)) (Ar (sz:=1) rfl ez iq))
          have sq:=fc.addPlc (b:=a4) (o:=0+(x_v23:Int).toNat*1) (cs:=[]) (fun j c hj=>by simp at hj) rfl (by kernel_rfl) (by kernel_rfl)
          have xd:∀ (e:A9) k c,([.int .i64 x79]:List SC)[k]? = some c→(ak)[0+(x_v23:Int).toNat*1+k]? = some (c.den e):=fun e k c hk=>ny k _ (Aj hk)
          refine A3 2 (x_v23) rfl rfl (rfl) rfl (by decide) pj (by rfl) (by rfl) (by rfl) ko (by rfl) lu l1 (by kernel_rfl) fun jt (pk:Kn 204 [(z,0),(ac,0),(a4,0+(x_v23:Int).toNat*1)] ((tP 79 2 0)::(tI 78 x_v23)::(tS 77 al x_v20.length am)::(tI 18 x_v23)::(tS 17 au x_v21.length av)::(tS 16 none 0 0)::(tS 15 none 0 0)::(tP 14 1 0)::(tS 13 al x_v20.length am)::(B5 x_v10 x_v11 s x50 u m x40 q l x37 p f d g)) jt)=>?_
          obtain⟨cc,mq,a6⟩:=Ao a6
          obtain⟨xj,xl,mb⟩:=BS mq
          refine wl fun K hK=>?_
          refine Bf 0 2 0 (0+(x_v23:Int).toNat*1) (.c (.int .i64 (-1))) pk sq rfl rfl (by rfl) (by rfl) rfl rfl ko rfl (by kernel_rfl) (Ar (sz:=1) rfl ez iq) fun wd pl sr=>?_
          have e2:Ae b9 cc (ak.take (0+(x_v23:Int).toNat*1+0)++([.int .i64 (-1)]:List Value)++ak.drop (0+(x_v23:Int).toNat*1+0+1)):=by rw [mb]; exact Cq (sz:=1) rfl ez iq (Ad:rep b9 ((-1):Int) _)
          have lr:x_v20.length=cc.length:=by rw [mb]; simp
          have pm:Kn 204 [(z,0),(ac,0),(a4,0+(x_v23:Int).toNat*1)] [(79,.one (.c (.ptr 2 0))),(78,.one (.c (.int .i64 x_v23))),(77,.one (.c (.slice al cc.length am))),(18,.one (.c (.int .i64 x_v23))),(17,.one (.c (.slice au x_v21.length av))),(16,.one (.c (.slice none 0 0))),(15,.one (.c (.slice none 0 0))),(14,.one (.c (.ptr 1 0))),(13,.one (.c (.slice al cc.length am))),(12,.one (.c (.int .i64 x_v10))),(11,.one (.c (.int .i64 x_v11))),(9,.one (.c (.slice s x50.1.length u))),(8,.one (.c (.slice m x40.length q))),(7,.one (.c (.slice l x37.length p))),(5,.one (.c (.slice f d.2.length g))),(2,.one (.c (.ptr 0 0)))] jt:=by rw [← lr]; exact pl
          have lb:Ai ⟨w,h,AC⟩ b9 [(z,0),(ac,0),(a4,0+(x_v23:Int).toNat*1)] [⟨[.slice ai y.room.length aj,.slice ag y.buses.length ah,.int .i64 y.broken],some 25⟩,⟨[.slice ad 1 1,.slice aw x_v22.length ax,.int .i64 y.broken],some 25⟩,⟨[],none⟩] [⟨al,cc.length,am,3,1,ak.take (0+(x_v23:Int).toNat*1+0)++([.int .i64 (-1)]:List Value)++ak.drop (0+(x_v23:Int).toNat*1+0+1),0⟩,⟨ad,1,1,3,1,([.int .i64 8]:List Value),0⟩,⟨au,x_v21.length,av,3,1,bt,0⟩,⟨aw,x_v22.length,ax,49,3,b4,0⟩] wd:=by rw [← lr]; exact sr
          refine hK _ _ ?_
          have pn:Kn 204 [(z,0),(ac,0),(a4,0+(x_v23:Int).toNat*1)] ((tI 18 x_v23)::(tS 17 au x_v21.length av)::(tS 16 none 0 0)::(tS 15 none 0 0)::(tP 14 1 0)::(tS 13 al cc.length am)::(B5 x_v10 x_v11 s x50 u m x40 q l x37 p f d g)) jt:=pm.kp
          refine wf (XT (Aa (Rk 0 2 ((tI 81 x_v23)::(tS 80 f d.2.length g)::(tI 18 x_v23)::(tS 17 au x_v21.length av)::(tS 16 none 0 0)::(tS 15 none 0 0)::(tP 14 1 0)::(tS 13 al cc.length am)::(B5 x_v10 x_v11 s x50 u m x40 q l x37 p f d g)) pn lb fun ya po=>?_)))
          obtain⟨x82,ex82,a6⟩:=Ao a6
          obtain⟨s0,tb,uh⟩:=Ah ex82
          obtain⟨bc,bd,wm,nn,t2,nz⟩:=bk.get (by decide) uh
          obtain rfl:=t2
          have eg:=lb.addPlc (b:=bc) (o:=bd+(x_v23:Int).toNat*1) (cs:=[.int .i64 x82]) (fun j c hj=>nz j _ (Aj hj)) rfl (by kernel_rfl) (by kernel_rfl)
          refine A3 2 (x_v23) rfl rfl (rfl) rfl (by decide) po (by rfl) (by rfl) (by rfl) nn (by rfl) s0 tb (by kernel_rfl) fun vb (pp:Kn 204 [(z,0),(ac,0),(a4,0+(x_v23:Int).toNat*1),(bc,bd+(x_v23:Int).toNat*1)] ((tP 82 3 0)::(tI 81 x_v23)::(tS 80 f d.2.length g)::(tI 18 x_v23)::(tS 17 au x_v21.length av)::(tS 16 none 0 0)::(tS 15 none 0 0)::(tP 14 1 0)::(tS 13 al cc.length am)::(B5 x_v10 x_v11 s x50 u m x40 q l x37 p f d g)) vb)=>?_
          refine Rk 3 3 ((tB 85 (x82 == x_v10))::(tI 18 x_v23)::(tS 17 au x_v21.length av)::(tS 16 none 0 0)::(tS 15 none 0 0)::(tP 14 1 0)::(tS 13 al cc.length am)::(B5 x_v10 x_v11 s x50 u m x40 q l x37 p f d g)) pp eg fun yb ig=>?_
          refine wf (wC ((x82 == x_v10)) ig (fun hs=>?_) (fun hs=>?_))
          ·
           rw [hs,XW] at a6
           refine XT (Aa (Rk 0 5 ((tI 90 ((x_v22.length:Nat):Int))::(tI 87 x_v23)::(tS 86 al cc.length am)::(tI 18 x_v23)::(tS 17 au x_v21.length av)::(tS 16 none 0 0)::(tS 15 none 0 0)::(tP 14 1 0)::(tS 13 al cc.length am)::(B5 x_v10 x_v11 s x50 u m x40 q l x37 p f d g)) ig eg fun yc pq=>?_))
           obtain⟨x91,ex91,a6⟩:=Ao a6
           obtain⟨lv,l2,ui⟩:=Ah ex91
           have ir:=A2 lv l2
           obtain⟨wn,t3,n0⟩:=A5 (sz:=1) rfl e2 ui
           obtain rfl:=t3
           obtain⟨be,kq⟩:=A7 eg (i:=0) rfl (b0:=0+(x_v23:Int).toNat*1) (Nat.lt_of_lt_of_le (Nat.lt_add_of_pos_right (by decide)) (Ar (sz:=1) rfl e2 ir))
           have ss:=eg.addPlc (b:=be) (o:=0+(x_v23:Int).toNat*1) (cs:=[]) (fun j c hj=>by simp at hj) rfl (by kernel_rfl) (by kernel_rfl)
           have xe:∀ (e:A9) k c,([.int .i64 x91]:List SC)[k]? = some c→((ak.take (0+(x_v23:Int).toNat*1+0)++([.int .i64 (-1)]:List Value)++ak.drop (0+(x_v23:Int).toNat*1+0+1)))[0+(x_v23:Int).toNat*1+k]? = some (c.den e):=fun e k c hk=>n0 k _ (Aj hk)
           refine A3 5 (x_v23) rfl rfl (rfl) rfl (by decide) pq (by rfl) (by rfl) (by rfl) kq (by rfl) lv l2 (by kernel_rfl) fun jv (pr:Kn 204 [(z,0),(ac,0),(a4,0+(x_v23:Int).toNat*1),(bc,bd+(x_v23:Int).toNat*1),(be,0+(x_v23:Int).toNat*1)] ((tP 91 4 0)::(tI 90 ((x_v22.length:Nat):Int))::(tI 87 x_v23)::(tS 86 al cc.length am)::(tI 18 x_v23)::(tS 17 au x_v21.length av)::(tS 16 none 0 0)::(tS 15 none 0 0)::(tP 14 1 0)::(tS 13 al cc.length am)::(B5 x_v10 x_v11 s x50 u m x40 q l x37 p f d g)) jv)=>?_
           obtain⟨az,mr,a6⟩:=Ao a6
           obtain⟨xk,xm,mc⟩:=BS mr
           refine wl fun K hK=>?_
           refine Bf 0 4 0 (0+(x_v23:Int).toNat*1) (.c (.int .i64 ((x_v22.length:Nat):Int))) pr ss rfl rfl (by rfl) (by rfl) rfl rfl kq rfl (by kernel_rfl) (Ar (sz:=1) rfl e2 ir) fun j3 ps st=>?_
           have h2:Ae b9 az ((ak.take (0+(x_v23:Int).toNat*1+0)++([.int .i64 (-1)]:List Value)++ak.drop (0+(x_v23:Int).toNat*1+0+1)).take (0+(x_v23:Int).toNat*1+0)++([.int .i64 ((x_v22.length:Nat):Int)]:List Value)++(ak.take (0+(x_v23:Int).toNat*1+0)++([.int .i64 (-1)]:List Value)++ak.drop (0+(x_v23:Int).toNat*1+0+1)).drop (0+(x_v23:Int).toNat*1+0+1)):=by rw [mc]; exact Cq (sz:=1) rfl e2 ir (Ad:rep b9 (((x_v22.length:Nat):Int):Int) _)
           have ls:cc.length=az.length:=by rw [mc]; simp
           have pt:Kn 204 [(z,0),(ac,0),(a4,0+(x_v23:Int).toNat*1),(bc,bd+(x_v23:Int).toNat*1),(be,0+(x_v23:Int).toNat*1)] [(91,.one (.c (.ptr 4 0))),(90,.one (.c (.int .i64 ((x_v22.length:Nat):Int)))),(87,.one (.c (.int .i64 x_v23))),(86,.one (.c (.slice al az.length am))),(18,.one (.c (.int .i64 x_v23))),(17,.one (.c (.slice au x_v21.length av))),(16,.one (.c (.slice none 0 0))),(15,.one (.c (.slice none 0 0))),(14,.one (.c (.ptr 1 0))),(13,.one (.c (.slice al az.length am))),(12,.one (.c (.int .i64 x_v10))),(11,.one (.c (.int .i64 x_v11))),(9,.one (.c (.slice s x50.1.length u))),(8,.one (.c (.slice m x40.length q))),(7,.one (.c (.slice l x37.length p))),(5,.one (.c (.slice f d.2.length g))),(2,.one (.c (.ptr 0 0)))] jv:=by rw [← ls]; exact ps
           have fd:Ai ⟨w,h,AC⟩ b9 [(z,0),(ac,0),(a4,0+(x_v23:Int).toNat*1),(bc,bd+(x_v23:Int).toNat*1),(be,0+(x_v23:Int).toNat*1)] [⟨[.slice ai y.room.length aj,.slice ag y.buses.length ah,.int .i64 y.broken],some 25⟩,⟨[.slice ad 1 1,.slice aw x_v22.length ax,.int .i64 y.broken],some 25⟩,⟨[],none⟩,⟨[.int .i64 x82],none⟩,⟨[],none⟩] [⟨al,az.length,am,3,1,(ak.take (0+(x_v23:Int).toNat*1+0)++([.int .i64 (-1)]:List Value)++ak.drop (0+(x_v23:Int).toNat*1+0+1)).take (0+(x_v23:Int).toNat*1+0)++([.int .i64 ((x_v22.length:Nat):Int)]:List Value)++(ak.take (0+(x_v23:Int).toNat*1+0)++([.int .i64 (-1)]:List Value)++ak.drop (0+(x_v23:Int).toNat*1+0+1)).drop (0+(x_v23:Int).toNat*1+0+1),0⟩,⟨ad,1,1,3,1,([.int .i64 8]:List Value),0⟩,⟨au,x_v21.length,av,3,1,bt,0⟩,⟨aw,x_v22.length,ax,49,3,b4,0⟩] j3:=by rw [← ls]; exact st
           refine hK _ _ ?_
           have pu:Kn 204 [(z,0),(ac,0),(a4,0+(x_v23:Int).toNat*1),(bc,bd+(x_v23:Int).toNat*1),(be,0+(x_v23:Int).toNat*1)] ((tI 18 x_v23)::(tS 17 au x_v21.length av)::(tS 16 none 0 0)::(tS 15 none 0 0)::(tP 14 1 0)::(tS 13 al az.length am)::(B5 x_v10 x_v11 s x50 u m x40 q l x37 p f d g)) jv:=pt.kp
           refine wf (A0 (by kernel_rfl) ?_)
           replace fd:=fd.drew
           refine A4 [] [(z,0),(ac,0),(a4,0+(x_v23:Int).toNat*1),(bc,bd+(x_v23:Int).toNat*1),(be,0+(x_v23:Int).toNat*1)] [⟨DI ai y aj ag ah,some 25⟩,⟨Sd ad aw x_v22 ax y,some 25⟩,⟨[],none⟩,⟨[.int .i64 x82],none⟩,⟨[],none⟩] ?_
           refine Dr [0,1,2,3,4] (dn 4) ((tI 96 x_v23)::(tS 95 ag y.buses.length ah)::(tS 93 aw x_v22.length ax)::(tI 18 x_v23)::(tS 17 au x_v21.length av)::(tS 16 none 0 0)::(tS 15 none 0 0)::(tP 14 1 0)::(tS 13 al az.length am)::(B5 x_v10 x_v11 s x50 u m x40 q l x37 p f d g)) pu fd fun yd pv=>?_
           obtain⟨x97,ex97,a6⟩:=Ao a6
           obtain⟨s1,tc,uj⟩:=Ah ex97
           obtain⟨bv,bz,wo,np,t4,n1⟩:=ay.get (by decide) uj
           obtain⟨_,_,rfl,rfl,⟨_,_,rfl,rfl,rfl⟩⟩:=t4
           have lc:=fd.addPlc (b:=bv) (o:=bz+(x_v23:Int).toNat*3) (cs:=(NE x97)) (fun j c hj=>n1 j _ (Aj hj)) rfl (by kernel_rfl) (by kernel_rfl)
           refine AN 5 (x_v23) (NE x97) (fun _ _ _ _ _ h=>h) rfl rfl (rfl) rfl (by decide) (by kernel_rfl) (by kernel_rfl) pv fd.plOk (by rfl) (by rfl) (by rfl) np (by rfl) s1 tc (by kernel_rfl) fun vc (px:Kn 204 (IB z ac a4 x_v23 bc bd be bv bz) ((tP 97 5 0)::(tI 96 x_v23)::(tS 95 ag y.buses.length ah)::(tS 93 aw x_v22.length ax)::(tI 18 x_v23)::(tS 17 au x_v21.length av)::(tS 16 none 0 0)::(tS 15 none 0 0)::(tP 14 1 0)::(tS 13 al az.length am)::(B5 x_v10 x_v11 s x50 u m x40 q l x37 p f d g)) vc)=>?_
           refine Dr [6,9,10] [10,9,6,5,4,3,2,1,0] ((tI 102 x_v23)::(tS 101 au x_v21.length av)::(tA 98 (NE x97))::(tS 93 aw x_v22.length ax)::(tI 18 x_v23)::(tS 16 none 0 0)::(tS 15 none 0 0)::(tP 14 1 0)::(tS 13 al az.length am)::(B5 x_v10 x_v11 s x50 u m x40 q l x37 p f d g)) px lc fun yf py=>?_
           obtain⟨x100,ex100,a6⟩:=Ao a6
           obtain⟨x104,ex104,a6⟩:=Ao a6
           have su:Ai ⟨w,h,AC⟩ b9 (IB z ac a4 x_v23 bc bd be bv bz) (KC ai y aj ag ah ad aw x_v22 ax x82 x97) [⟨al,az.length,am,3,1,(ak.take (0+(x_v23:Int).toNat*1+0)++([.int .i64 (-1)]:List Value)++ak.drop (0+(x_v23:Int).toNat*1+0+1)).take (0+(x_v23:Int).toNat*1+0)++([.int .i64 ((x_v22.length:Nat):Int)]:List Value)++(ak.take (0+(x_v23:Int).toNat*1+0)++([.int .i64 (-1)]:List Value)++ak.drop (0+(x_v23:Int).toNat*1+0+1)).drop (0+(x_v23:Int).toNat*1+0+1),0⟩,⟨ad,1,1,3,1,([.int .i64 8]:List Value),0⟩,⟨au,x_v21.length,av,3,1,bt,0⟩,⟨aw,x_v22.length,ax,49,3,b4,0⟩,⟨none,0,0,49,3,[],0⟩] (World.drew j3):=lc.nilRow 49 3
           have sv:Ai ⟨w,h,AC⟩ b9 (IB z ac a4 x_v23 bc bd be bv bz) (KC ai y aj ag ah ad aw x_v22 ax x82 x97) [⟨al,az.length,am,3,1,(ak.take (0+(x_v23:Int).toNat*1+0)++([.int .i64 (-1)]:List Value)++ak.drop (0+(x_v23:Int).toNat*1+0+1)).take (0+(x_v23:Int).toNat*1+0)++([.int .i64 ((x_v22.length:Nat):Int)]:List Value)++(ak.take (0+(x_v23:Int).toNat*1+0)++([.int .i64 (-1)]:List Value)++ak.drop (0+(x_v23:Int).toNat*1+0+1)).drop (0+(x_v23:Int).toNat*1+0+1),0⟩,⟨ad,1,1,3,1,([.int .i64 8]:List Value),0⟩,⟨au,x_v21.length,av,3,1,bt,0⟩,⟨aw,x_v22.length,ax,49,3,b4,0⟩,⟨none,0,0,49,3,[],0⟩,⟨none,0,0,3,1,[],0⟩] (World.drew j3):=su.nilRow 3 1
           refine HT (Sx 204 ⟨w,h,AC⟩ (IB z ac a4 x_v23 bc bd be bv bz) (KC ai y aj ag ah ad aw x_v22 ax x82 x97) (KC ai y aj ag ah ad aw x_v22 ax x82 x97) [] [⟨11,103,3,1,1,[.int .i64 x_v23]⟩] [13,8,7,10,9,6,5,4,3,2,1,0] (fun mm he rw=>∃ (cj:Option Addr)(cm:Nat)(ej:List Value)(fn:Option Addr)(fx:Nat)(fl:List Value),mm=((tP 105 1 1)::(tS 100 cj x100.length cm)::(tI 102 x_v23)::(tS 101 au x_v21.length av)::(tI 18 x_v23)::(tS 16 none 0 0)::(tS 15 none 0 0)::(tP 14 1 0)::(tS 13 al az.length am)::(B5 x_v10 x_v11 s x50 u m x40 q l x37 p f d g))∧rw=[⟨al,az.length,am,3,1,(ak.take (0+(x_v23:Int).toNat*1+0)++([.int .i64 (-1)]:List Value)++ak.drop (0+(x_v23:Int).toNat*1+0+1)).take (0+(x_v23:Int).toNat*1+0)++([.int .i64 ((x_v22.length:Nat):Int)]:List Value)++(ak.take (0+(x_v23:Int).toNat*1+0)++([.int .i64 (-1)]:List Value)++ak.drop (0+(x_v23:Int).toNat*1+0+1)).drop (0+(x_v23:Int).toNat*1+0+1),0⟩,⟨ad,1,1,3,1,([.int .i64 8]:List Value),0⟩,⟨au,x_v21.length,av,3,1,bt,0⟩,⟨cj,x100.length,cm,49,3,ej,0⟩,⟨fn,1,fx,49,3,fl,0⟩]∧Ac.le b9 he∧Ae he x100 ej∧Ae he ([x97]:List AX) fl)) ?_ (fun ux=>?_)
           ·
            refine MO (PC [(12,[true])] ?_ (fun _ _ _ hm=>hm.plOk) (by kernel_rfl) (by kernel_rfl) ⟨?_,trivial⟩)
            ·
             rintro _ _ _ ⟨cj,cm,ej,fn,fx,fl,rfl,rfl,_,_,_⟩
             exact⟨⟨⟨_,_,_,rfl,rfl,rfl,rfl,rfl,by rfl,by rfl,by rfl,rfl,by kernel_rfl⟩,trivial⟩,by kernel_rfl⟩
            ·
             intro w0 w2 vd f3 xn xp we nh mw l3 my e4 gh
             obtain⟨j9,rfl⟩:=So nh
             obtain⟨eo,rfl⟩:=So mw
             obtain rfl:j9=true:=by cases j9 <;> first | rfl | exact(Bool.false_ne_true l3).elim
             obtain⟨cj,cm,ej,fn,fx,fl,rfl,rfl,iv,n2,xf⟩:=my
             replace h2:=h2.mono iv
             replace e0:=e0.mono iv
             replace e4:=e4.req [true] (by kernel_rfl) l3 rfl
             have h3:Ae f3 ([x_v23]:List Int) ([.int .i64 x_v23]:List Value):=⟨_,_,rfl,(Ad:rep f3 (x_v23:Int) _),rfl⟩
             replace e4:Kn 204 (IB z ac a4 x_v23 bc bd be bv bz) ([tP 105 1 1,tS 100 cj x100.length cm,tI 102 x_v23,tS 101 au x_v21.length av,tI 18 x_v23,tS 16 none 0 0,tS 15 none 0 0,tP 14 1 0,tS 13 al az.length am,tI 12 x_v10,tI 11 x_v11,tS 9 s x50.1.length u,tS 8 m x40.length q,tS 7 l x37.length p,tS 5 f d.2.length g,tP 2 0 0,tS 103 eo 1 1]++En [⟨11,103,3,1,1,[.int .i64 x_v23]⟩] [true] [eo]) vd:=e4
             replace gh:Ai ⟨w,h,AC⟩ f3 (IB z ac a4 x_v23 bc bd be bv bz) (KC ai y aj ag ah ad aw x_v22 ax x82 x97) [⟨al,az.length,am,3,1,(ak.take (0+(x_v23:Int).toNat*1+0)++([.int .i64 (-1)]:List Value)++ak.drop (0+(x_v23:Int).toNat*1+0+1)).take (0+(x_v23:Int).toNat*1+0)++([.int .i64 ((x_v22.length:Nat):Int)]:List Value)++(ak.take (0+(x_v23:Int).toNat*1+0)++([.int .i64 (-1)]:List Value)++ak.drop (0+(x_v23:Int).toNat*1+0+1)).drop (0+(x_v23:Int).toNat*1+0+1),0⟩,⟨ad,1,1,3,1,([.int .i64 8]:List Value),0⟩,⟨au,x_v21.length,av,3,1,bt,0⟩,⟨cj,x100.length,cm,49,3,ej,0⟩,⟨fn,1,fx,49,3,fl,0⟩,⟨eo,1,1,3,1,([.int .i64 x_v23]:List Value),0⟩] we:=gh
             refine⟨_,rfl,rfl,fun K hK=>?_⟩
             obtain⟨jl,sa⟩:=Bn ex104
             refine Bc 2 8 1 _ (x104.length) _ ([.int .i64 x_v23]:List Value) e4 gh rfl rfl (by decide) rfl (by rfl) (by kernel_rfl) (by rfl) (by rfl) (Ae.len h3) (gh.rowCell (i:=5) rfl) h3.one (by rw [jl]; simp <;> omega) (by rw [jl]; exact sa) (by decide) fun ek es ms ml aal ol (pz:Kn 204 (IB z ac a4 x_v23 bc bd be bv bz) ([tS 104 ek x104.length es,tP 105 1 1,tS 100 cj x100.length cm,tI 102 x_v23,tS 101 au x_v21.length av,tI 18 x_v23,tS 16 none 0 0,tS 15 none 0 0,tP 14 1 0,tS 13 al az.length am,tI 12 x_v10,tI 11 x_v11,tS 9 s x50.1.length u,tS 8 m x40.length q,tS 7 l x37.length p,tS 5 f d.2.length g,tP 2 0 0,tS 103 eo 1 1]++En [⟨11,103,3,1,1,[.int .i64 x_v23]⟩] [true] [eo]) ml) ld=>?_
             have n3:Ae f3 x104 (bt++([.int .i64 x_v23]:List Value)):=by rw [jl]; exact Ae.append e0 h3
             obtain rfl:ms=0:=Nat.le_zero.1 ol
             refine hK _ _ ld.plOk ?_
             have p0:Kn 204 (IB z ac a4 x_v23 bc bd be bv bz) ((tS 104 ek x104.length es)::(tP 105 1 1)::(tS 100 cj x100.length cm)::(tI 18 x_v23)::(tS 16 none 0 0)::(tS 15 none 0 0)::(tP 14 1 0)::(tS 13 al az.length am)::(B5 x_v10 x_v11 s x50 u m x40 q l x37 p f d g)) ml:=pz.kp
             refine DA 14 rfl (by kernel_rfl) (Nat.le_of_ble_eq_true rfl) (rfl) (by kernel_rfl) fun K hK=>?_
             refine D6 1 1 (.c (.slice cj x100.length cm)) [.slice ad 1 1,.slice cj x100.length cm,.int .i64 y.broken] p0 ld fun aam p1 i3=>hK _ _ ?_
             refine A4 [] (IB z ac a4 x_v23 bc bd be bv bz) [⟨DI ai y aj ag ah,some 25⟩,⟨[.slice ad 1 1,.slice cj x100.length cm,.int .i64 y.broken],some 25⟩,⟨[],none⟩,⟨[.int .i64 x82],none⟩,⟨[],none⟩,⟨NE x97,none⟩] ?_
             refine Dr [15] [15,14,12,11,13,8,7,10,9,6,5,4,3,2,1,0] ((tS 17 ek x104.length es)::(tI 18 x_v23)::(tS 16 none 0 0)::(tS 15 none 0 0)::(tP 14 1 0)::(tS 13 al az.length am)::(B5 x_v10 x_v11 s x50 u m x40 q l x37 p f d g)) p1 i3 fun yg p2=>?_
             refine AZ (by kernel_rfl) (Aa (Rk 0 3 ((tI 18 (IntKind.i64.wrap (x_v23+1)))::(tS 17 ek x104.length es)::(tS 16 none 0 0)::(tS 15 none 0 0)::(tP 14 1 0)::(tS 13 al az.length am)::(B5 x_v10 x_v11 s x50 u m x40 q l x37 p f d g)) p2 i3 fun yh p3=>?_))
             refine wf ?_
             exact XY g2 ⟨Nat.lt_succ_self _,XY az ⟨x104,x100,IntKind.i64.wrap (x_v23+1),al,am,(ak.take (0+(x_v23:Int).toNat*1+0)++([.int .i64 (-1)]:List Value)++ak.drop (0+(x_v23:Int).toNat*1+0+1)).take (0+(x_v23:Int).toNat*1+0)++([.int .i64 ((x_v22.length:Nat):Int)]:List Value)++(ak.take (0+(x_v23:Int).toNat*1+0)++([.int .i64 (-1)]:List Value)++ak.drop (0+(x_v23:Int).toNat*1+0+1)).drop (0+(x_v23:Int).toNat*1+0+1),ek,es,bt++([.int .i64 x_v23]:List Value),cj,cm,ej,_,_,rfl,(p3.keep [18,17,16,15,14,13,12,11,9,8,7,5,2] (by rfl)).cut 2 (by kernel_rfl),(i3.cutRw 4).cutPl 2 (by kernel_rfl),XU cx iv,h2,n3,n2,a6⟩⟩
           refine HT (Sx 204 ⟨w,h,AC⟩ (IB z ac a4 x_v23 bc bd be bv bz) (KC ai y aj ag ah ad aw x_v22 ax x82 x97) (KC ai y aj ag ah ad aw x_v22 ax x82 x97) [] (Qo x97 x_v23) [10,9,6,5,4,3,2,1,0] (fun mm nk rw=>mm=((tI 102 x_v23)::(tS 101 au x_v21.length av)::(tA 98 (NE x97))::(tS 93 aw x_v22.length ax)::(tI 18 x_v23)::(tS 16 none 0 0)::(tS 15 none 0 0)::(tP 14 1 0)::(tS 13 al az.length am)::(B5 x_v10 x_v11 s x50 u m x40 q l x37 p f d g))∧rw=(RM al az am ak x_v23 x_v22 ad au x_v21 av bt aw ax b4)∧Ac.le b9 nk)) ?_ (fun uy=>?_)
           ·
            refine MO (PC [(8,[true,false])] ?_ (fun _ _ _ hm=>hm.plOk) (by kernel_rfl) (by kernel_rfl) ⟨?_,trivial⟩)
            ·
             rintro _ _ _ ⟨rfl,rfl,_⟩
             exact⟨⟨⟨_,_,_,rfl,rfl,rfl,rfl,rfl,by rfl,by rfl,by rfl,rfl,by kernel_rfl⟩,⟨⟨_,_,_,rfl,rfl,rfl,rfl,rfl,by rfl,by rfl,by rfl,rfl,by kernel_rfl⟩,trivial⟩⟩,by kernel_rfl⟩
            ·
             intro w1 w3 ve f4 xo xq wg ni mx l4 mz e5 gi
             obtain⟨ka,cq,rfl⟩:=Sp ni
             obtain⟨cd,d8,rfl⟩:=Sp mx
             obtain rfl:ka=true:=by cases ka <;> first | rfl | exact(Bool.false_ne_true l4).elim
             obtain⟨rfl,rfl,k7⟩:=mz
             replace e1:=e1.mono k7
             replace e5:=e5.req [true,false] (by kernel_rfl) l4 rfl
             have f7:Ae f4 ([x97]:List AX) ([.int .i64 x97.lo,.int .i64 x97.hi,.int .i64 x97.turn]:List Value):=⟨_,_,rfl,((Ab Ad (Ab Ad Ad)):rep f4 (x97:AX) _),rfl⟩
             replace e5:Kn 204 (IB z ac a4 x_v23 bc bd be bv bz) ((PL x_v23 au x_v21 av x97 aw x_v22 ax al az am x_v10 x_v11 s x50 u m x40 q l x37 p f d g cd)++En (Qo x97 x_v23) [true,cq] [cd,d8]) ve:=e5
             replace gi:Ai ⟨w,h,AC⟩ f4 (IB z ac a4 x_v23 bc bd be bv bz) (KC ai y aj ag ah ad aw x_v22 ax x82 x97) [⟨al,az.length,am,3,1,(ak.take (0+(x_v23:Int).toNat*1+0)++([.int .i64 (-1)]:List Value)++ak.drop (0+(x_v23:Int).toNat*1+0+1)).take (0+(x_v23:Int).toNat*1+0)++([.int .i64 ((x_v22.length:Nat):Int)]:List Value)++(ak.take (0+(x_v23:Int).toNat*1+0)++([.int .i64 (-1)]:List Value)++ak.drop (0+(x_v23:Int).toNat*1+0+1)).drop (0+(x_v23:Int).toNat*1+0+1),0⟩,⟨ad,1,1,3,1,([.int .i64 8]:List Value),0⟩,⟨au,x_v21.length,av,3,1,bt,0⟩,⟨aw,x_v22.length,ax,49,3,b4,0⟩,⟨cd,1,1,49,3,([.int .i64 x97.lo,.int .i64 x97.hi,.int .i64 x97.turn]:List Value),0⟩,St (IB z ac a4 x_v23 bc bd be bv bz) ⟨11,103,3,1,1,[.int .i64 x_v23]⟩ cq d8] wg:=gi
             refine⟨_,rfl,rfl,fun K hK=>?_⟩
             obtain⟨jm,sb⟩:=Bn ex100
             refine Bc 3 24 1 _ (x100.length) _ ([.int .i64 x97.lo,.int .i64 x97.hi,.int .i64 x97.turn]:List Value) e5 gi rfl rfl (by decide) rfl (by rfl) (by kernel_rfl) (by rfl) (by rfl) (Ae.len f7) (gi.rowCell (i:=4) rfl) f7.one (by rw [jm]; simp <;> omega) (by rw [jm]; exact sb) (by decide) fun el et mt vf aan om (p4:Kn 204 (IB z ac a4 x_v23 bc bd be bv bz) (((tS 100 el x100.length et)::(PL x_v23 au x_v21 av x97 aw x_v22 ax al az am x_v10 x_v11 s x50 u m x40 q l x37 p f d g cd))++En (Qo x97 x_v23) [true,cq] [cd,d8]) vf) i4=>?_
             have n4:Ae f4 x100 (b4++([.int .i64 x97.lo,.int .i64 x97.hi,.int .i64 x97.turn]:List Value)):=by rw [jm]; exact Ae.append e1 f7
             obtain rfl:mt=0:=Nat.le_zero.1 om
             refine hK _ _ i4.plOk ?_
             refine Sc [13] (13::8::(QR (Qo x97 x_v23) [true,cq]++[10,9,6,5,4,3,2,1,0])) (((tP 105 1 1)::(tS 100 el x100.length et)::(PL x_v23 au x_v21 av x97 aw x_v22 ax al az am x_v10 x_v11 s x50 u m x40 q l x37 p f d g cd))++En (Qo x97 x_v23) [true,cq] [cd,d8]) (fun _ _ _ _ _ h=>h) p4 i4.plOk (by kernel_rfl) (by rfl) (by cases cq <;> kernel_rfl) fun vg (p5:Kn 204 (IB z ac a4 x_v23 bc bd be bv bz) (((tP 105 1 1)::(tS 100 el x100.length et)::(PL x_v23 au x_v21 av x97 aw x_v22 ax al az am x_v10 x_v11 s x50 u m x40 q l x37 p f d g cd))++En (Qo x97 x_v23) [true,cq] [cd,d8]) vg)=>?_
             refine FL (QR [⟨11,103,3,1,1,[.int .i64 x_v23]⟩] [cq]++[13,8,7,10,9,6,5,4,3,2,1,0]) (by cases cq <;> kernel_rfl) (by cases cq <;> rfl) (ux [cq] _ _ ⟨[d8],_,_,_,[⟨al,az.length,am,3,1,(ak.take (0+(x_v23:Int).toNat*1+0)++([.int .i64 (-1)]:List Value)++ak.drop (0+(x_v23:Int).toNat*1+0+1)).take (0+(x_v23:Int).toNat*1+0)++([.int .i64 ((x_v22.length:Nat):Int)]:List Value)++(ak.take (0+(x_v23:Int).toNat*1+0)++([.int .i64 (-1)]:List Value)++ak.drop (0+(x_v23:Int).toNat*1+0+1)).drop (0+(x_v23:Int).toNat*1+0+1),0⟩,⟨ad,1,1,3,1,([.int .i64 8]:List Value),0⟩,⟨au,x_v21.length,av,3,1,bt,0⟩,⟨el,x100.length,et,49,3,b4++([.int .i64 x97.lo,.int .i64 x97.hi,.int .i64 x97.turn]:List Value),0⟩,⟨cd,1,1,49,3,([.int .i64 x97.lo,.int .i64 x97.hi,.int .i64 x97.turn]:List Value),0⟩],rfl,rfl,rfl,⟨el,et,b4++([.int .i64 x97.lo,.int .i64 x97.hi,.int .i64 x97.turn]:List Value),cd,1,([.int .i64 x97.lo,.int .i64 x97.hi,.int .i64 x97.turn]:List Value),rfl,rfl,k7,n4,f7⟩,p5.next [false,true] _ (by kernel_rfl) (by rfl) (by kernel_rfl),i4.pickRows [0,1,2,3,4,5] (by kernel_rfl) (by kernel_rfl)⟩)
           exact uy [false,false] _ _ ⟨[none,none],_,_,((tI 102 x_v23)::(tS 101 au x_v21.length av)::(tA 98 (NE x97))::(tS 93 aw x_v22.length ax)::(tI 18 x_v23)::(tS 16 none 0 0)::(tS 15 none 0 0)::(tP 14 1 0)::(tS 13 al az.length am)::(B5 x_v10 x_v11 s x50 u m x40 q l x37 p f d g)),RM al az am ak x_v23 x_v22 ad au x_v21 av bt aw ax b4,rfl,rfl,rfl,⟨rfl,rfl,Ac.le_refl _⟩,py.kp,sv⟩
          ·
           rw [hs,XV] at a6
           refine wp_skip (Aa (Rk 0 3 ((tI 18 (IntKind.i64.wrap (x_v23+1)))::(tS 17 au x_v21.length av)::(tS 16 none 0 0)::(tS 15 none 0 0)::(tP 14 1 0)::(tS 13 al cc.length am)::(B5 x_v10 x_v11 s x50 u m x40 q l x37 p f d g)) ig eg fun yi p6=>?_))
           refine wf ?_
           exact XY g2 ⟨Nat.lt_succ_self _,XY cc ⟨x_v21,x_v22,IntKind.i64.wrap (x_v23+1),al,am,ak.take (0+(x_v23:Int).toNat*1+0)++([.int .i64 (-1)]:List Value)++ak.drop (0+(x_v23:Int).toNat*1+0+1),au,av,bt,aw,ax,b4,_,_,rfl,(p6.keep [18,17,16,15,14,13,12,11,9,8,7,5,2] (by rfl)).cut 2 (by kernel_rfl),eg.cutPl 2 (by kernel_rfl),cx,e2,e0,e1,a6⟩⟩
         ·
          rw [hr,XV] at a6
          refine wp_exit ?_
          obtain rfl:=XZ a6
          exact XY al ⟨am,ak,au,av,bt,aw,ax,b4,_,_,rfl,ie.kp,fc,cx,ez,e0,e1⟩
       ·
        rintro _ wh ⟨ae,af,a7,aa,ab,bg,aq,ar,bh,jr,cw,rfl,p7,lg,df,bj,cn,ca⟩
        replace a0:=a0.mono df
        replace ay:=ay.mono df
        replace bk:=bk.mono df
        replace ba:=ba.mono df
        replace bb:=bb.mono df
        replace b3:=b3.mono df
        replace bl:=bl.mono df
        refine XT (XT (Aa (Rk 0 1 ((tI 19 0)::(tS 17 aa a.2.1.length ab)::(tS 16 none 0 0)::(tS 15 none 0 0)::(BA ae a af x_v10 x_v11 s x50 u m x40 q l x37 p f d g)) p7 lg fun yj p8=>?_)))
        refine wf ?_
        have sw:Ai ⟨w,h,AC⟩ cw [(z,0),(ac,0)] (JT ai y aj ag ah ad aq a ar) [⟨ae,a.1.length,af,3,1,a7,0⟩,⟨ad,1,1,3,1,([.int .i64 8]:List Value),0⟩,⟨aa,a.2.1.length,ab,3,1,bg,0⟩,⟨aq,a.2.2.length,ar,49,3,bh,0⟩,⟨none,0,0,3,1,[],0⟩] wh:=lg.nilRow 3 1
        have n5:Ae cw ([]:List Int) []:=Ae.nil
        obtain⟨an,kd,a3⟩:=Ao a3
        refine As (fun a' w'=>∃ (ao:Option Addr)(ap:Nat)(bi:List Value)(jw:Array Value)(c9:Ac),a' = ⟨jw,[]⟩∧Kn 204 [(z,0),(ac,0)] ((tS 17 aa a.2.1.length ab)::(tS 16 none 0 0)::(tS 15 ao an.length ap)::(BA ae a af x_v10 x_v11 s x50 u m x40 q l x37 p f d g)) jw∧Ai ⟨w,h,AC⟩ c9 [(z,0),(ac,0)] (JT ai y aj ag ah ad aq a ar) [⟨ae,a.1.length,af,3,1,a7,0⟩,⟨ad,1,1,3,1,([.int .i64 8]:List Value),0⟩,⟨aa,a.2.1.length,ab,3,1,bg,0⟩,⟨aq,a.2.2.length,ar,49,3,bh,0⟩,⟨ao,an.length,ap,3,1,bi,0⟩] w'∧Ac.le cw c9∧Ae c9 an bi) ?_ ?_
        ·
         refine wp_block ?_
         refine At (fun u1 a' w'=>∃ (x_v30:List Int)(x_v31:Int)(bo:Option Addr)(bq:Nat)(d4:List Value)(jx:Array Value)(ds:Ac),a' = ⟨jx,[]⟩∧Kn 204 [(z,0),(ac,0)] ((tI 19 x_v31)::(tS 17 aa a.2.1.length ab)::(tS 16 none 0 0)::(tS 15 bo x_v30.length bq)::(BA ae a af x_v10 x_v11 s x50 u m x40 q l x37 p f d g)) jx∧Ai ⟨w,h,AC⟩ ds [(z,0),(ac,0)] (JT ai y aj ag ah ad aq a ar) [⟨ae,a.1.length,af,3,1,a7,0⟩,⟨ad,1,1,3,1,([.int .i64 8]:List Value),0⟩,⟨aa,a.2.1.length,ab,3,1,bg,0⟩,⟨aq,a.2.2.length,ar,49,3,bh,0⟩,⟨bo,x_v30.length,bq,3,1,d4,0⟩] w'∧Ac.le cw ds∧Ae ds x_v30 d4∧Bv u1 x37 a x_v30 x_v31=some an) cz ?_ ?_
         ·
          exact XY ([]:List Int) ⟨0,none,0,[],_,_,rfl,p8.kp,sw,Ac.le_refl _,n5,kd⟩
         ·
          rintro g3 _ aao ⟨x_v30,x_v31,bo,bq,d4,jx,ds,rfl,qa,gj,e7,h4,bm⟩
          clear kd
          obtain _ | g3:=g3
          ·
           rw [Bv] at bm; cases bm
          rw [Bv] at bm
          replace ba:=ba.mono e7
          replace bj:=bj.mono e7
          refine XT (XT (Aa (Rk 0 4 ((tB 109 (decide (x_v31<((x37.length:Nat):Int))))::(tI 19 x_v31)::(tS 17 aa a.2.1.length ab)::(tS 16 none 0 0)::(tS 15 bo x_v30.length bq)::(BA ae a af x_v10 x_v11 s x50 u m x40 q l x37 p f d g)) qa gj fun yl ih=>?_)))
          refine wf (wC (decide (x_v31<((x37.length:Nat):Int))) ih (fun hu=>?_) (fun hu=>?_))
          ·
           rw [hu,XW] at bm
           refine wp_skip (XT (wp_block (XT (Aa (Rk 0 3 ((tI 114 x_v31)::(tS 113 l x37.length p)::(tS 112 ae a.1.length af)::(tI 19 x_v31)::(tS 17 aa a.2.1.length ab)::(tS 16 none 0 0)::(tS 15 bo x_v30.length bq)::(BA ae a af x_v10 x_v11 s x50 u m x40 q l x37 p f d g)) ih gj fun ym qb=>?_)))))
           obtain⟨x115,ex115,bm⟩:=Ao bm
           obtain⟨s2,td,uk⟩:=Ah ex115
           obtain⟨dm,d2,wp,nq,t5,n6⟩:=ba.get (by decide) uk
           obtain rfl:=t5
           have i5:=gj.addPlc (b:=dm) (o:=d2+(x_v31:Int).toNat*1) (cs:=[.int .i64 x115]) (fun j c hj=>n6 j _ (Aj hj)) rfl (by kernel_rfl) (by kernel_rfl)
           refine A3 3 (x_v31) rfl rfl (rfl) rfl (by decide) qb (by rfl) (by rfl) (by rfl) nq (by rfl) s2 td (by kernel_rfl) fun vi (qd:Kn 204 [(z,0),(ac,0),(dm,d2+(x_v31:Int).toNat*1)] ((tP 115 2 0)::(tI 114 x_v31)::(tS 113 l x37.length p)::(tS 112 ae a.1.length af)::(tI 19 x_v31)::(tS 17 aa a.2.1.length ab)::(tS 16 none 0 0)::(tS 15 bo x_v30.length bq)::(BA ae a af x_v10 x_v11 s x50 u m x40 q l x37 p f d g)) vi)=>?_
           refine Rk 4 1 ((tI 116 x115)::(tS 112 ae a.1.length af)::(tI 19 x_v31)::(tS 17 aa a.2.1.length ab)::(tS 16 none 0 0)::(tS 15 bo x_v30.length bq)::(BA ae a af x_v10 x_v11 s x50 u m x40 q l x37 p f d g)) qd i5 fun yn qe=>?_
           obtain⟨x117,ex117,bm⟩:=Ao bm
           obtain⟨lw,l5,ul⟩:=Ah ex117
           have sc:=A2 lw l5
           obtain⟨wq,t6,n7⟩:=A5 (sz:=1) rfl bj ul
           obtain rfl:=t6
           obtain⟨d9,db⟩:=A7 i5 (i:=0) rfl (b0:=0+(x115:Int).toNat*1) (Nat.lt_of_lt_of_le (Nat.lt_add_of_pos_right (by decide)) (Ar (sz:=1) rfl bj sc))
           have dg:=i5.addPlc (b:=d9) (o:=0+(x115:Int).toNat*1) (cs:=[]) (fun j c hj=>by simp at hj) rfl (by kernel_rfl) (by kernel_rfl)
           have du:∀ (e:A9) k c,([.int .i64 x117]:List SC)[k]? = some c→(a7)[0+(x115:Int).toNat*1+k]? = some (c.den e):=fun e k c hk=>n7 k _ (Aj hk)
           refine A3 5 (x115) rfl rfl (rfl) rfl (by decide) qe (by rfl) (by rfl) (by rfl) db (by rfl) lw l5 (by kernel_rfl) fun vj (qg:Kn 204 [(z,0),(ac,0),(dm,d2+(x_v31:Int).toNat*1),(d9,0+(x115:Int).toNat*1)] ((tP 117 3 0)::(tI 116 x115)::(tS 112 ae a.1.length af)::(tI 19 x_v31)::(tS 17 aa a.2.1.length ab)::(tS 16 none 0 0)::(tS 15 bo x_v30.length bq)::(BA ae a af x_v10 x_v11 s x50 u m x40 q l x37 p f d g)) vj)=>?_
           refine Ba 6 2 [119,19,17,16,15,14,13,12,11,9,8,7,5,2] ((tB 119 (decide (x117≥0)))::(tI 19 x_v31)::(tS 17 aa a.2.1.length ab)::(tS 16 none 0 0)::(tS 15 bo x_v30.length bq)::(BA ae a af x_v10 x_v11 s x50 u m x40 q l x37 p f d g)) qg (Ay.peek dg.plOk dg 0 3 rfl rfl db [.int .i64 x117] (du _)) (by kernel_rfl) fun yo ii=>?_
           refine wf (wC (decide (x117≥0)) ii (fun hv=>?_) (fun hv=>?_))
           ·
            rw [hv,XW] at bm
            refine Aa (Ba 0 4 [123,122,121,120,19,17,16,14,13,12,11,9,8,7,5,2] ((tI 123 x_v31)::(tS 122 l x37.length p)::(tS 121 ae a.1.length af)::(tS 120 bo x_v30.length bq)::(tI 19 x_v31)::(tS 17 aa a.2.1.length ab)::(tS 16 none 0 0)::(BA ae a af x_v10 x_v11 s x50 u m x40 q l x37 p f d g)) ii (Ay.peek dg.plOk dg 0 3 rfl rfl db [.int .i64 x117] (du _)) (by kernel_rfl) fun yp qh=>?_)
            obtain⟨x124,ex124,bm⟩:=Ao bm
            obtain⟨s3,te,um⟩:=Ah ex124
            obtain⟨ep,fh,wr,nr,t7,n8⟩:=ba.get (by decide) um
            obtain rfl:=t7
            have gk:=dg.addPlc (b:=ep) (o:=fh+(x_v31:Int).toNat*1) (cs:=[.int .i64 x124]) (fun j c hj=>n8 j _ (Aj hj)) rfl (by kernel_rfl) (by kernel_rfl)
            refine A3 4 (x_v31) rfl rfl (rfl) rfl (by decide) qh (by rfl) (by rfl) (by rfl) nr (by rfl) s3 te (by kernel_rfl) fun vk (qi:Kn 204 [(z,0),(ac,0),(dm,d2+(x_v31:Int).toNat*1),(d9,0+(x115:Int).toNat*1),(ep,fh+(x_v31:Int).toNat*1)] ((tP 124 4 0)::(tI 123 x_v31)::(tS 122 l x37.length p)::(tS 121 ae a.1.length af)::(tS 120 bo x_v30.length bq)::(tI 19 x_v31)::(tS 17 aa a.2.1.length ab)::(tS 16 none 0 0)::(BA ae a af x_v10 x_v11 s x50 u m x40 q l x37 p f d g)) vk)=>?_
            refine Ba 5 1 [125,121,120,19,17,16,14,13,12,11,9,8,7,5,2] ((tI 125 x124)::(tS 121 ae a.1.length af)::(tS 120 bo x_v30.length bq)::(tI 19 x_v31)::(tS 17 aa a.2.1.length ab)::(tS 16 none 0 0)::(BA ae a af x_v10 x_v11 s x50 u m x40 q l x37 p f d g)) qi (Ay.peek gk.plOk gk 0 3 rfl rfl db [.int .i64 x117] (du _)) (by kernel_rfl) fun yq qj=>?_
            obtain⟨x126,ex126,bm⟩:=Ao bm
            obtain⟨lx,l6,un⟩:=Ah ex126
            have sd:=A2 lx l6
            obtain⟨ws,t8,n9⟩:=A5 (sz:=1) rfl bj un
            obtain rfl:=t8
            obtain⟨ft,f5⟩:=A7 gk (i:=0) rfl (b0:=0+(x124:Int).toNat*1) (Nat.lt_of_lt_of_le (Nat.lt_add_of_pos_right (by decide)) (Ar (sz:=1) rfl bj sd))
            have gl:=gk.addPlc (b:=ft) (o:=0+(x124:Int).toNat*1) (cs:=[]) (fun j c hj=>by simp at hj) rfl (by kernel_rfl) (by kernel_rfl)
            have h5:∀ (e:A9) k c,([.int .i64 x126]:List SC)[k]? = some c→(a7)[0+(x124:Int).toNat*1+k]? = some (c.den e):=fun e k c hk=>n9 k _ (Aj hk)
            refine A3 6 (x124) rfl rfl (rfl) rfl (by decide) qj (by rfl) (by rfl) (by rfl) f5 (by rfl) lx l6 (by kernel_rfl) fun vl (qk:Kn 204 [(z,0),(ac,0),(dm,d2+(x_v31:Int).toNat*1),(d9,0+(x115:Int).toNat*1),(ep,fh+(x_v31:Int).toNat*1),(ft,0+(x124:Int).toNat*1)] ((tP 126 5 0)::(tI 125 x124)::(tS 121 ae a.1.length af)::(tS 120 bo x_v30.length bq)::(tI 19 x_v31)::(tS 17 aa a.2.1.length ab)::(tS 16 none 0 0)::(BA ae a af x_v10 x_v11 s x50 u m x40 q l x37 p f d g)) vl)=>?_
            refine Ba 7 1 [127,120,19,17,16,14,13,12,11,9,8,7,5,2] ((tI 127 x126)::(tS 120 bo x_v30.length bq)::(tI 19 x_v31)::(tS 17 aa a.2.1.length ab)::(tS 16 none 0 0)::(BA ae a af x_v10 x_v11 s x50 u m x40 q l x37 p f d g)) qk (Ay.peek (Ay.peek gl.plOk gl 0 3 rfl rfl db [.int .i64 x117] (du _)) gl 0 5 rfl rfl f5 [.int .i64 x126] (h5 _)) (by kernel_rfl) fun ys ql=>?_
            refine wl fun K hK=>?_
            refine wS 3 1 [.int .i64 x126] ql gl fun j7 vm aaq (qm:Kn 204 [(z,0),(ac,0),(dm,d2+(x_v31:Int).toNat*1),(d9,0+(x115:Int).toNat*1),(ep,fh+(x_v31:Int).toNat*1),(ft,0+(x124:Int).toNat*1)] ((tS 128 j7 1 1)::(tI 127 x126)::(tS 120 bo x_v30.length bq)::(tI 19 x_v31)::(tS 17 aa a.2.1.length ab)::(tS 16 none 0 0)::(BA ae a af x_v10 x_v11 s x50 u m x40 q l x37 p f d g)) vm) lh=>?_
            have h6:Ae ds ([x126]:List Int) ([.int .i64 x126]:List Value):=⟨_,_,rfl,(Ad:rep ds (x126:Int) _),rfl⟩
            refine hK _ _ ?_
            obtain⟨x129,ex129,bm⟩:=Ao bm
            obtain⟨jn,se⟩:=Bn ex129
            refine wl fun K hK=>?_
            refine Bc 4 8 1 _ (x129.length) _ ([.int .i64 x126]:List Value) qm lh rfl rfl (by decide) rfl (by rfl) (by kernel_rfl) (by rfl) (by rfl) (Ae.len h6) (lh.rowCell (i:=5) rfl) h6.one (by rw [jn]; simp <;> omega) (by rw [jn]; exact se) (by decide) fun fp fz mu vn aar oo (qn:Kn 204 [(z,0),(ac,0),(dm,d2+(x_v31:Int).toNat*1),(d9,0+(x115:Int).toNat*1),(ep,fh+(x_v31:Int).toNat*1),(ft,0+(x124:Int).toNat*1)] ((tS 129 fp x129.length fz)::(tS 128 j7 1 1)::(tI 127 x126)::(tS 120 bo x_v30.length bq)::(tI 19 x_v31)::(tS 17 aa a.2.1.length ab)::(tS 16 none 0 0)::(BA ae a af x_v10 x_v11 s x50 u m x40 q l x37 p f d g)) vn) dy=>?_
            have oa:Ae ds x129 (d4++([.int .i64 x126]:List Value)):=by rw [jn]; exact Ae.append h4 h6
            obtain rfl:mu=0:=Nat.le_zero.1 oo
            refine hK _ _ ?_
            refine Ba 10 1 [15,19,17,16,14,13,12,11,9,8,7,5,2] ((tS 15 fp x129.length fz)::(tI 19 x_v31)::(tS 17 aa a.2.1.length ab)::(tS 16 none 0 0)::(BA ae a af x_v10 x_v11 s x50 u m x40 q l x37 p f d g)) qn (Ay.peek (Ay.peek dy.plOk dy 0 3 rfl rfl db [.int .i64 x117] (du _)) dy 0 5 rfl rfl f5 [.int .i64 x126] (h5 _)) (by kernel_rfl) fun yt qo=>?_
            refine wf (Aa (Ba 0 3 [19,15,17,16,14,13,12,11,9,8,7,5,2] ((tI 19 (IntKind.i64.wrap (x_v31+1)))::(tS 15 fp x129.length fz)::(tS 17 aa a.2.1.length ab)::(tS 16 none 0 0)::(BA ae a af x_v10 x_v11 s x50 u m x40 q l x37 p f d g)) qo (Ay.peek (Ay.peek dy.plOk dy 0 3 rfl rfl db [.int .i64 x117] (du _)) dy 0 5 rfl rfl f5 [.int .i64 x126] (h5 _)) (by kernel_rfl) fun yu qp=>?_))
            refine wf ?_
            exact XY g3 ⟨Nat.lt_succ_self _,XY x129 ⟨IntKind.i64.wrap (x_v31+1),fp,fz,d4++([.int .i64 x126]:List Value),_,_,rfl,(qp.keep [19,17,16,15,14,13,12,11,9,8,7,5,2] (by rfl)).cut 2 (by kernel_rfl),(dy.cutRw 5).cutPl 2 (by kernel_rfl),e7,oa,bm⟩⟩
           ·
            rw [hv,XV] at bm
            refine wp_skip (Aa (Ba 0 3 [19,17,16,15,14,13,12,11,9,8,7,5,2] ((tI 19 (IntKind.i64.wrap (x_v31+1)))::(tS 17 aa a.2.1.length ab)::(tS 16 none 0 0)::(tS 15 bo x_v30.length bq)::(BA ae a af x_v10 x_v11 s x50 u m x40 q l x37 p f d g)) ii (Ay.peek dg.plOk dg 0 3 rfl rfl db [.int .i64 x117] (du _)) (by kernel_rfl) fun yv qq=>?_))
            refine wf ?_
            exact XY g3 ⟨Nat.lt_succ_self _,XY x_v30 ⟨IntKind.i64.wrap (x_v31+1),bo,bq,d4,_,_,rfl,(qq.keep [19,17,16,15,14,13,12,11,9,8,7,5,2] (by rfl)).cut 2 (by kernel_rfl),dg.cutPl 2 (by kernel_rfl),e7,h4,bm⟩⟩
          ·
           rw [hu,XV] at bm
           refine wp_exit ?_
           obtain rfl:=XZ bm
           exact XY bo ⟨bq,d4,_,_,rfl,ih.kp,gj,e7,h4⟩
        ·
         rintro _ wi ⟨ao,ap,bi,jw,c9,rfl,qr,li,cu,ct⟩
         replace a0:=a0.mono cu
         replace ay:=ay.mono cu
         replace bk:=bk.mono cu
         replace ba:=ba.mono cu
         replace bb:=bb.mono cu
         replace b3:=b3.mono cu
         replace bj:=bj.mono cu
         replace bl:=bl.mono cu
         replace cn:=cn.mono cu
         replace ca:=ca.mono cu
         refine XT (XT (Aa (Rk 0 1 ((tI 20 0)::(tS 17 aa a.2.1.length ab)::(tS 16 none 0 0)::(tS 15 ao an.length ap)::(BA ae a af x_v10 x_v11 s x50 u m x40 q l x37 p f d g)) qr li fun yw qs=>?_)))
         refine wf ?_
         have sx:Ai ⟨w,h,AC⟩ c9 [(z,0),(ac,0)] (JT ai y aj ag ah ad aq a ar) [⟨ae,a.1.length,af,3,1,a7,0⟩,⟨ad,1,1,3,1,([.int .i64 8]:List Value),0⟩,⟨aa,a.2.1.length,ab,3,1,bg,0⟩,⟨aq,a.2.2.length,ar,49,3,bh,0⟩,⟨ao,an.length,ap,3,1,bi,0⟩,⟨none,0,0,3,1,[],0⟩] wi:=li.nilRow 3 1
         have ob:Ae c9 ([]:List Int) []:=Ae.nil
         obtain⟨a5,ke,a3⟩:=Ao a3
         refine As (fun a' w'=>∃ (a8:Option Addr)(a9:Nat)(bu:List Value)(jy:Array Value)(c0:Ac),a' = ⟨jy,[]⟩∧Kn 204 [(z,0),(ac,0)] ((tS 17 aa a.2.1.length ab)::(tS 16 a8 a5.length a9)::(tS 15 ao an.length ap)::(tP 14 1 0)::(B5 x_v10 x_v11 s x50 u m x40 q l x37 p f d g)) jy∧Ai ⟨w,h,AC⟩ c0 [(z,0),(ac,0)] (JT ai y aj ag ah ad aq a ar) [⟨ae,a.1.length,af,3,1,a7,0⟩,⟨ad,1,1,3,1,([.int .i64 8]:List Value),0⟩,⟨aa,a.2.1.length,ab,3,1,bg,0⟩,⟨aq,a.2.2.length,ar,49,3,bh,0⟩,⟨ao,an.length,ap,3,1,bi,0⟩,⟨a8,a5.length,a9,3,1,bu,0⟩] w'∧Ac.le c9 c0∧Ae c0 a5 bu) ?_ ?_
         ·
          refine wp_block ?_
          refine At (fun u2 a' w'=>∃ (x_v40:List Int)(x_v41:Int)(bp:Option Addr)(br:Nat)(d5:List Value)(jz:Array Value)(dt:Ac),a' = ⟨jz,[]⟩∧Kn 204 [(z,0),(ac,0)] ((tI 20 x_v41)::(tS 17 aa a.2.1.length ab)::(tS 16 bp x_v40.length br)::(tS 15 ao an.length ap)::(BA ae a af x_v10 x_v11 s x50 u m x40 q l x37 p f d g)) jz∧Ai ⟨w,h,AC⟩ dt [(z,0),(ac,0)] (JT ai y aj ag ah ad aq a ar) [⟨ae,a.1.length,af,3,1,a7,0⟩,⟨ad,1,1,3,1,([.int .i64 8]:List Value),0⟩,⟨aa,a.2.1.length,ab,3,1,bg,0⟩,⟨aq,a.2.2.length,ar,49,3,bh,0⟩,⟨ao,an.length,ap,3,1,bi,0⟩,⟨bp,x_v40.length,br,3,1,d5,0⟩] w'∧Ac.le c9 dt∧Ae dt x_v40 d5∧Bw u2 x40 a x_v40 x_v41=some a5) cz ?_ ?_
          ·
           exact XY ([]:List Int) ⟨0,none,0,[],_,_,rfl,qs.kp,sx,Ac.le_refl _,ob,ke⟩
          ·
           rintro g4 _ aat ⟨x_v40,x_v41,bp,br,d5,jz,dt,rfl,qt,gm,e8,h7,bn⟩
           clear ke
           obtain _ | g4:=g4
           ·
            rw [Bw] at bn; cases bn
           rw [Bw] at bn
           replace bb:=bb.mono e8
           replace bj:=bj.mono e8
           refine XT (XT (Aa (Rk 0 4 ((tB 133 (decide (x_v41<((x40.length:Nat):Int))))::(tI 20 x_v41)::(tS 17 aa a.2.1.length ab)::(tS 16 bp x_v40.length br)::(tS 15 ao an.length ap)::(BA ae a af x_v10 x_v11 s x50 u m x40 q l x37 p f d g)) qt gm fun yx ik=>?_)))
           refine wf (wC (decide (x_v41<((x40.length:Nat):Int))) ik (fun hx=>?_) (fun hx=>?_))
           ·
            rw [hx,XW] at bn
            refine wp_skip (XT (wp_block (XT (Aa (Rk 0 3 ((tI 138 x_v41)::(tS 137 m x40.length q)::(tS 136 ae a.1.length af)::(tI 20 x_v41)::(tS 17 aa a.2.1.length ab)::(tS 16 bp x_v40.length br)::(tS 15 ao an.length ap)::(BA ae a af x_v10 x_v11 s x50 u m x40 q l x37 p f d g)) ik gm fun yy qu=>?_)))))
            obtain⟨x139,ex139,bn⟩:=Ao bn
            obtain⟨s4,tf,uo⟩:=Ah ex139
            obtain⟨dp,d3,wt,ns,t9,oc⟩:=bb.get (by decide) uo
            obtain rfl:=t9
            have i6:=gm.addPlc (b:=dp) (o:=d3+(x_v41:Int).toNat*1) (cs:=[.int .i64 x139]) (fun j c hj=>oc j _ (Aj hj)) rfl (by kernel_rfl) (by kernel_rfl)
            refine A3 3 (x_v41) rfl rfl (rfl) rfl (by decide) qu (by rfl) (by rfl) (by rfl) ns (by rfl) s4 tf (by kernel_rfl) fun vo (qv:Kn 204 [(z,0),(ac,0),(dp,d3+(x_v41:Int).toNat*1)] ((tP 139 2 0)::(tI 138 x_v41)::(tS 137 m x40.length q)::(tS 136 ae a.1.length af)::(tI 20 x_v41)::(tS 17 aa a.2.1.length ab)::(tS 16 bp x_v40.length br)::(tS 15 ao an.length ap)::(BA ae a af x_v10 x_v11 s x50 u m x40 q l x37 p f d g)) vo)=>?_
            refine Rk 4 1 ((tI 140 x139)::(tS 136 ae a.1.length af)::(tI 20 x_v41)::(tS 17 aa a.2.1.length ab)::(tS 16 bp x_v40.length br)::(tS 15 ao an.length ap)::(BA ae a af x_v10 x_v11 s x50 u m x40 q l x37 p f d g)) qv i6 fun yz qw=>?_
            obtain⟨x141,ex141,bn⟩:=Ao bn
            obtain⟨ly,l7,uq⟩:=Ah ex141
            have sf:=A2 ly l7
            obtain⟨wu,ua,od⟩:=A5 (sz:=1) rfl bj uq
            obtain rfl:=ua
            obtain⟨ea,dc⟩:=A7 i6 (i:=0) rfl (b0:=0+(x139:Int).toNat*1) (Nat.lt_of_lt_of_le (Nat.lt_add_of_pos_right (by decide)) (Ar (sz:=1) rfl bj sf))
            have di:=i6.addPlc (b:=ea) (o:=0+(x139:Int).toNat*1) (cs:=[]) (fun j c hj=>by simp at hj) rfl (by kernel_rfl) (by kernel_rfl)
            have dv:∀ (e:A9) k c,([.int .i64 x141]:List SC)[k]? = some c→(a7)[0+(x139:Int).toNat*1+k]? = some (c.den e):=fun e k c hk=>od k _ (Aj hk)
            refine A3 5 (x139) rfl rfl (rfl) rfl (by decide) qw (by rfl) (by rfl) (by rfl) dc (by rfl) ly l7 (by kernel_rfl) fun vq (qx:Kn 204 [(z,0),(ac,0),(dp,d3+(x_v41:Int).toNat*1),(ea,0+(x139:Int).toNat*1)] ((tP 141 3 0)::(tI 140 x139)::(tS 136 ae a.1.length af)::(tI 20 x_v41)::(tS 17 aa a.2.1.length ab)::(tS 16 bp x_v40.length br)::(tS 15 ao an.length ap)::(BA ae a af x_v10 x_v11 s x50 u m x40 q l x37 p f d g)) vq)=>?_
            refine Ba 6 2 [143,20,17,16,15,14,13,12,11,9,8,7,5,2] ((tB 143 (decide (x141≥0)))::(tI 20 x_v41)::(tS 17 aa a.2.1.length ab)::(tS 16 bp x_v40.length br)::(tS 15 ao an.length ap)::(BA ae a af x_v10 x_v11 s x50 u m x40 q l x37 p f d g)) qx (Ay.peek di.plOk di 0 3 rfl rfl dc [.int .i64 x141] (dv _)) (by kernel_rfl) fun y0 il=>?_
            refine wf (wC (decide (x141≥0)) il (fun hy=>?_) (fun hy=>?_))
            ·
             rw [hy,XW] at bn
             refine Aa (Ba 0 4 [147,146,145,144,20,17,15,14,13,12,11,9,8,7,5,2] ((tI 147 x_v41)::(tS 146 m x40.length q)::(tS 145 ae a.1.length af)::(tS 144 bp x_v40.length br)::(tI 20 x_v41)::(tS 17 aa a.2.1.length ab)::(tS 15 ao an.length ap)::(BA ae a af x_v10 x_v11 s x50 u m x40 q l x37 p f d g)) il (Ay.peek di.plOk di 0 3 rfl rfl dc [.int .i64 x141] (dv _)) (by kernel_rfl) fun y1 qy=>?_)
             obtain⟨x148,ex148,bn⟩:=Ao bn
             obtain⟨s5,tg,ur⟩:=Ah ex148
             obtain⟨er,fi,wv,nt,ub,oe⟩:=bb.get (by decide) ur
             obtain rfl:=ub
             have gn:=di.addPlc (b:=er) (o:=fi+(x_v41:Int).toNat*1) (cs:=[.int .i64 x148]) (fun j c hj=>oe j _ (Aj hj)) rfl (by kernel_rfl) (by kernel_rfl)
             refine A3 4 (x_v41) rfl rfl (rfl) rfl (by decide) qy (by rfl) (by rfl) (by rfl) nt (by rfl) s5 tg (by kernel_rfl) fun vr (q0:Kn 204 [(z,0),(ac,0),(dp,d3+(x_v41:Int).toNat*1),(ea,0+(x139:Int).toNat*1),(er,fi+(x_v41:Int).toNat*1)] ((tP 148 4 0)::(tI 147 x_v41)::(tS 146 m x40.length q)::(tS 145 ae a.1.length af)::(tS 144 bp x_v40.length br)::(tI 20 x_v41)::(tS 17 aa a.2.1.length ab)::(tS 15 ao an.length ap)::(BA ae a af x_v10 x_v11 s x50 u m x40 q l x37 p f d g)) vr)=>?_
             refine Ba 5 1 [149,145,144,20,17,15,14,13,12,11,9,8,7,5,2] ((tI 149 x148)::(tS 145 ae a.1.length af)::(tS 144 bp x_v40.length br)::(tI 20 x_v41)::(tS 17 aa a.2.1.length ab)::(tS 15 ao an.length ap)::(BA ae a af x_v10 x_v11 s x50 u m x40 q l x37 p f d g)) q0 (Ay.peek gn.plOk gn 0 3 rfl rfl dc [.int .i64 x141] (dv _)) (by kernel_rfl) fun y2 q1=>?_
             obtain⟨x150,ex150,bn⟩:=Ao bn
             obtain⟨lz,l8,ut⟩:=Ah ex150
             have sg:=A2 lz l8
             obtain⟨ww,uc,og⟩:=A5 (sz:=1) rfl bj ut
             obtain rfl:=uc
             obtain⟨fu,f6⟩:=A7 gn (i:=0) rfl (b0:=0+(x148:Int).toNat*1) (Nat.lt_of_lt_of_le (Nat.lt_add_of_pos_right (by decide)) (Ar (sz:=1) rfl bj sg))
             have gp:=gn.addPlc (b:=fu) (o:=0+(x148:Int).toNat*1) (cs:=[]) (fun j c hj=>by simp at hj) rfl (by kernel_rfl) (by kernel_rfl)
             have h8:∀ (e:A9) k c,([.int .i64 x150]:List SC)[k]? = some c→(a7)[0+(x148:Int).toNat*1+k]? = some (c.den e):=fun e k c hk=>og k _ (Aj hk)
             refine A3 6 (x148) rfl rfl (rfl) rfl (by decide) q1 (by rfl) (by rfl) (by rfl) f6 (by rfl) lz l8 (by kernel_rfl) fun vs (q3:Kn 204 [(z,0),(ac,0),(dp,d3+(x_v41:Int).toNat*1),(ea,0+(x139:Int).toNat*1),(er,fi+(x_v41:Int).toNat*1),(fu,0+(x148:Int).toNat*1)] ((tP 150 5 0)::(tI 149 x148)::(tS 145 ae a.1.length af)::(tS 144 bp x_v40.length br)::(tI 20 x_v41)::(tS 17 aa a.2.1.length ab)::(tS 15 ao an.length ap)::(BA ae a af x_v10 x_v11 s x50 u m x40 q l x37 p f d g)) vs)=>?_
             refine Ba 7 1 [151,144,20,17,15,14,13,12,11,9,8,7,5,2] ((tI 151 x150)::(tS 144 bp x_v40.length br)::(tI 20 x_v41)::(tS 17 aa a.2.1.length ab)::(tS 15 ao an.length ap)::(BA ae a af x_v10 x_v11 s x50 u m x40 q l x37 p f d g)) q3 (Ay.peek (Ay.peek gp.plOk gp 0 3 rfl rfl dc [.int .i64 x141] (dv _)) gp 0 5 rfl rfl f6 [.int .i64 x150] (h8 _)) (by kernel_rfl) fun y4 q4=>?_
             refine wl fun K hK=>?_
             refine wS 3 1 [.int .i64 x150] q4 gp fun j8 vt aau (q5:Kn 204 [(z,0),(ac,0),(dp,d3+(x_v41:Int).toNat*1),(ea,0+(x139:Int).toNat*1),(er,fi+(x_v41:Int).toNat*1),(fu,0+(x148:Int).toNat*1)] ((tS 152 j8 1 1)::(tI 151 x150)::(tS 144 bp x_v40.length br)::(tI 20 x_v41)::(tS 17 aa a.2.1.length ab)::(tS 15 ao an.length ap)::(BA ae a af x_v10 x_v11 s x50 u m x40 q l x37 p f d g)) vt) lk=>?_
             have h9:Ae dt ([x150]:List Int) ([.int .i64 x150]:List Value):=⟨_,_,rfl,(Ad:rep dt (x150:Int) _),rfl⟩
             refine hK _ _ ?_
             obtain⟨x153,ex153,bn⟩:=Ao bn
             obtain⟨jo,sh⟩:=Bn ex153
             refine wl fun K hK=>?_
             refine Bc 5 8 1 _ (x153.length) _ ([.int .i64 x150]:List Value) q5 lk rfl rfl (by decide) rfl (by rfl) (by kernel_rfl) (by rfl) (by rfl) (Ae.len h9) (lk.rowCell (i:=6) rfl) h9.one (by rw [jo]; simp <;> omega) (by rw [jo]; exact sh) (by decide) fun fq f0 mv vu aav op (q7:Kn 204 [(z,0),(ac,0),(dp,d3+(x_v41:Int).toNat*1),(ea,0+(x139:Int).toNat*1),(er,fi+(x_v41:Int).toNat*1),(fu,0+(x148:Int).toNat*1)] ((tS 153 fq x153.length f0)::(tS 152 j8 1 1)::(tI 151 x150)::(tS 144 bp x_v40.length br)::(tI 20 x_v41)::(tS 17 aa a.2.1.length ab)::(tS 15 ao an.length ap)::(BA ae a af x_v10 x_v11 s x50 u m x40 q l x37 p f d g)) vu) dz=>?_
             have oh:Ae dt x153 (d5++([.int .i64 x150]:List Value)):=by rw [jo]; exact Ae.append h7 h9
             obtain rfl:mv=0:=Nat.le_zero.1 op
             refine hK _ _ ?_
             refine Ba 10 1 [16,20,17,15,14,13,12,11,9,8,7,5,2] ((tS 16 fq x153.length f0)::(tI 20 x_v41)::(tS 17 aa a.2.1.length ab)::(tS 15 ao an.length ap)::(BA ae a af x_v10 x_v11 s x50 u m x40 q l x37 p f d g)) q7 (Ay.peek (Ay.peek dz.plOk dz 0 3 rfl rfl dc [.int .i64 x141] (dv _)) dz 0 5 rfl rfl f6 [.int .i64 x150] (h8 _)) (by kernel_rfl) fun y6 q8=>?_
             refine wf (Aa (Ba 0 3 [20,16,17,15,14,13,12,11,9,8,7,5,2] ((tI 20 (IntKind.i64.wrap (x_v41+1)))::(tS 16 fq x153.length f0)::(tS 17 aa a.2.1.length ab)::(tS 15 ao an.length ap)::(BA ae a af x_v10 x_v11 s x50 u m x40 q l x37 p f d g)) q8 (Ay.peek (Ay.peek dz.plOk dz 0 3 rfl rfl dc [.int .i64 x141] (dv _)) dz 0 5 rfl rfl f6 [.int .i64 x150] (h8 _)) (by kernel_rfl) fun y7 q9=>?_))
             refine wf ?_
             exact XY g4 ⟨Nat.lt_succ_self _,XY x153 ⟨IntKind.i64.wrap (x_v41+1),fq,f0,d5++([.int .i64 x150]:List Value),_,_,rfl,(q9.keep [20,17,16,15,14,13,12,11,9,8,7,5,2] (by rfl)).cut 2 (by kernel_rfl),(dz.cutRw 6).cutPl 2 (by kernel_rfl),e8,oh,bn⟩⟩
            ·
             rw [hy,XV] at bn
             refine wp_skip (Aa (Ba 0 3 [20,17,16,15,14,13,12,11,9,8,7,5,2] ((tI 20 (IntKind.i64.wrap (x_v41+1)))::(tS 17 aa a.2.1.length ab)::(tS 16 bp x_v40.length br)::(tS 15 ao an.length ap)::(BA ae a af x_v10 x_v11 s x50 u m x40 q l x37 p f d g)) il (Ay.peek di.plOk di 0 3 rfl rfl dc [.int .i64 x141] (dv _)) (by kernel_rfl) fun y8 ra=>?_))
             refine wf ?_
             exact XY g4 ⟨Nat.lt_succ_self _,XY x_v40 ⟨IntKind.i64.wrap (x_v41+1),bp,br,d5,_,_,rfl,(ra.keep [20,17,16,15,14,13,12,11,9,8,7,5,2] (by rfl)).cut 2 (by kernel_rfl),di.cutPl 2 (by kernel_rfl),e8,h7,bn⟩⟩
           ·
            rw [hx,XV] at bn
            refine wp_exit ?_
            obtain rfl:=XZ bn
            exact XY bp ⟨br,d5,_,_,rfl,ik.kp,gm,e8,h7⟩
         ·
          rintro _ j4 ⟨a8,a9,bu,jy,c0,rfl,rb,gq,co,c1⟩
          replace a0:=a0.mono co
          replace ay:=ay.mono co
          replace bk:=bk.mono co
          replace ba:=ba.mono co
          replace bb:=bb.mono co
          replace b3:=b3.mono co
          replace bj:=bj.mono co
          replace bl:=bl.mono co
          replace cn:=cn.mono co
          replace ca:=ca.mono co
          replace ct:=ct.mono co
          refine XT (A0 (by kernel_rfl) ?_)
          replace gq:=gq.drew
          refine A4 [] [(z,0),(ac,0)] (JT ai y aj ag ah ad aq a ar) ?_
          refine Dr [0,2,3,4,6,7] [7,6,4,3,2,0] ((tS 162 a8 a5.length a9)::(tS 161 ao an.length ap)::(tI 159 ((a.2.2.length:Nat):Int))::(tA 155 (Qn ad aq a ar y))::(tS 17 aa a.2.1.length ab)::(B5 x_v10 x_v11 s x50 u m x40 q l x37 p f d g)) rb gq fun y9 ku=>?_
          obtain⟨x156,ex156,a3⟩:=Ao a3
          obtain⟨x160,ex160,a3⟩:=Ao a3
          obtain⟨x163,ex163,a3⟩:=Ao a3
          have i7:Ai ⟨w,h,AC⟩ c0 [(z,0),(ac,0)] (JT ai y aj ag ah ad aq a ar) [⟨ae,a.1.length,af,3,1,a7,0⟩,⟨ad,1,1,3,1,([.int .i64 8]:List Value),0⟩,⟨aa,a.2.1.length,ab,3,1,bg,0⟩,⟨aq,a.2.2.length,ar,49,3,bh,0⟩,⟨ao,an.length,ap,3,1,bi,0⟩,⟨a8,a5.length,a9,3,1,bu,0⟩,⟨none,0,0,3,1,[],0⟩] (World.drew j4):=gq.nilRow 3 1
          have xg:Ae c0 ([]:List Int) []:=Ae.nil
          refine HT (fun W=>∀ (b5:Option Addr),∀ (b7:Nat),∀ (dk:List Value),∀ (dq:Nat),∀ (b6:Option Addr),∀ (b8:Nat),∀ (dl:List Value),∀ (dr:Nat),∀ (cp:Option Addr),∀ (cr:Nat),∀ (cf:List Value),∀ (em:Option Addr),∀ (eu:Nat),∀ (en:Option Addr),∀ (ev:Nat),∀ a' w',(∃ (j0:Array Value)(da:Ac),a' = ⟨j0,[]⟩∧Kn 204 [(z,0),(ac,0)] ((tS 160 cp x160.length cr)::(tA 156 [.slice em x156.room.length eu,.slice en x156.buses.length ev,.int .i64 x156.broken])::(tS 162 a8 a5.length a9)::(tS 161 ao an.length ap)::(tS 17 aa a.2.1.length ab)::(B5 x_v10 x_v11 s x50 u m x40 q l x37 p f d g)) j0∧Ai ⟨w,h,AC⟩ da [(z,0),(ac,0)] (Mq ai y aj ag ah b5 b7 b6 a b8) [⟨ae,a.1.length,af,3,1,a7,0⟩,⟨b5,1,b7,3,1,dk,dq⟩,⟨aa,a.2.1.length,ab,3,1,bg,0⟩,⟨b6,a.2.2.length,b8,49,3,dl,dr⟩,⟨ao,an.length,ap,3,1,bi,0⟩,⟨a8,a5.length,a9,3,1,bu,0⟩,⟨cp,x160.length,cr,3,1,cf,0⟩] w'∧Ac.le c0 da∧Ae da ([8]:List Int) dk∧Ae da a.2.2 dl∧Ae da x160 cf∧A1 da em eu x156.room∧A1 da en ev x156.buses)→W [(z,0),(ac,0)] (Mq ai y aj ag ah b5 b7 b6 a b8) [1,5,7,6,4,3,2,0] a' w') ?_ (fun mf=>?_)
          ·
           intro b5 b7 dk dq b6 b8 dl dr cp cr cf em eu en ev
           rintro _ j5 ⟨j0,da,rfl,rc,ll,cv,ee,ef,c2,jh,ji⟩
           refine Dl 8 fun K hK=>?_
           obtain⟨ki,cb,tu,gr⟩:=ll.settle (i:=6) rfl
           replace c2:=c2.mono cb
           replace gr:Ai ⟨w,h,AC⟩ ki [(z,0),(ac,0)] (Mq ai y aj ag ah b5 b7 b6 a b8) [⟨ae,a.1.length,af,3,1,a7,0⟩,⟨b5,1,b7,3,1,dk,dq⟩,⟨aa,a.2.1.length,ab,3,1,bg,0⟩,⟨b6,a.2.2.length,b8,49,3,dl,dr⟩,⟨ao,an.length,ap,3,1,bi,0⟩,⟨a8,a5.length,a9,3,1,bu,0⟩,⟨cp,x160.length,cr,3,1,cf,(cf:List Value).length⟩] j5:=gr
           have c4:A1 ki cp cr x160:=⟨_,c2,tu,ll.rowCap (i:=6) rfl⟩
           obtain⟨kj,b1,tv,gs⟩:=gr.settle (i:=4) rfl
           replace ct:=ct.mono (XU (XU cv cb) b1)
           replace gs:Ai ⟨w,h,AC⟩ kj [(z,0),(ac,0)] (Mq ai y aj ag ah b5 b7 b6 a b8) [⟨ae,a.1.length,af,3,1,a7,0⟩,⟨b5,1,b7,3,1,dk,dq⟩,⟨aa,a.2.1.length,ab,3,1,bg,0⟩,⟨b6,a.2.2.length,b8,49,3,dl,dr⟩,⟨ao,an.length,ap,3,1,bi,(bi:List Value).length⟩,⟨a8,a5.length,a9,3,1,bu,0⟩,⟨cp,x160.length,cr,3,1,cf,(cf:List Value).length⟩] j5:=gs
           have c5:A1 kj ao ap an:=⟨_,ct,tv,gr.rowCap (i:=4) rfl⟩
           obtain⟨hf,bw,tw,gu⟩:=gs.settle (i:=5) rfl
           replace jh:=jh.mono (XU (XU cb b1) bw)
           replace ji:=ji.mono (XU (XU cb b1) bw)
           replace c4:=c4.mono (XU b1 bw)
           replace c5:=c5.mono bw
           replace c1:=c1.mono (XU (XU (XU cv cb) b1) bw)
           replace gu:Ai ⟨w,h,AC⟩ hf [(z,0),(ac,0)] (Mq ai y aj ag ah b5 b7 b6 a b8) [⟨ae,a.1.length,af,3,1,a7,0⟩,⟨b5,1,b7,3,1,dk,dq⟩,⟨aa,a.2.1.length,ab,3,1,bg,0⟩,⟨b6,a.2.2.length,b8,49,3,dl,dr⟩,⟨ao,an.length,ap,3,1,bi,(bi:List Value).length⟩,⟨a8,a5.length,a9,3,1,bu,(bu:List Value).length⟩,⟨cp,x160.length,cr,3,1,cf,(cf:List Value).length⟩] j5:=gu
           have d1:A1 hf a8 a9 a5:=⟨_,c1,tw,gs.rowCap (i:=5) rfl⟩
           refine wc [.agg [.slice em x156.room.length eu,.slice en x156.buses.length ev,.int .i64 x156.broken],.c (.slice cp x160.length cr),.c (.slice ao an.length ap),.c (.slice a8 a5.length a9)] rc gu (Fv cz gu.has x156 ((Ab (Ag jh) (Ab (Ag ji) Ad)):rep hf x156 _) x160 c4 an c5 a5 d1 ex163) fun z3 kk aax m8 b2 d0=>?_
           replace a0:=a0.mono (XU (XU (XU (XU cv cb) b1) bw) b2)
           replace ay:=ay.mono (XU (XU (XU (XU cv cb) b1) bw) b2)
           replace bk:=bk.mono (XU (XU (XU (XU cv cb) b1) bw) b2)
           replace ba:=ba.mono (XU (XU (XU (XU cv cb) b1) bw) b2)
           replace bb:=bb.mono (XU (XU (XU (XU cv cb) b1) bw) b2)
           replace b3:=b3.mono (XU (XU (XU (XU cv cb) b1) bw) b2)
           replace c4:=c4.mono b2
           replace c5:=c5.mono b2
           replace d1:=d1.mono b2
           replace bj:=bj.mono (XU (XU (XU (XU cv cb) b1) bw) b2)
           replace ee:=ee.mono (XU (XU (XU cb b1) bw) b2)
           replace cn:=cn.mono (XU (XU (XU (XU cv cb) b1) bw) b2)
           replace ef:=ef.mono (XU (XU (XU cb b1) bw) b2)
           replace ct:=ct.mono (XU bw b2)
           replace c1:=c1.mono b2
           replace c2:=c2.mono (XU (XU b1 bw) b2)
           obtain⟨_,_,rfl,⟨a1,a2,rfl,ei⟩,rfl⟩:=m8
           refine⟨.tup [.c (.slice a1 x163.1.length a2),.c (.int .i64 x163.2)],rfl,fun vv (rd:Kn 204 [(z,0),(ac,0)] ((163,.tup [.c (.slice a1 x163.1.length a2),.c (.int .i64 x163.2)])::(tS 160 cp x160.length cr)::(tA 156 [.slice em x156.room.length eu,.slice en x156.buses.length ev,.int .i64 x156.broken])::(tS 162 a8 a5.length a9)::(tS 161 ao an.length ap)::(tS 17 aa a.2.1.length ab)::(B5 x_v10 x_v11 s x50 u m x40 q l x37 p f d g)) vv)=>hK _ _ d0.plOk ?_⟩
           refine Dr [9,10,11,12,13] [13,12,11,10,9,8,1,5,7,6,4,3,2,0] ((tI 22 x163.2)::(tS 21 a1 x163.1.length a2)::(tS 17 aa a.2.1.length ab)::(B5 x_v10 x_v11 s x50 u m x40 q l x37 p f d g)) rd d0 fun za re=>?_
           refine AZ (by kernel_rfl) (XT (XT (Aa (Rk 0 2 ((tB 167 (x163.2 != 0))::(tS 21 a1 x163.1.length a2)::(tS 17 aa a.2.1.length ab)::(B5 x_v10 x_v11 s x50 u m x40 q l x37 p f d g)) re d0 fun zb im=>?_))))
           refine wf (wC ((x163.2 != 0)) im (fun hz=>?_) (fun hz=>?_))
           ·
            rw [hz,XW] at a3
            refine XT (Aa (Rk 0 1 [tB 4 false] im d0 fun zc rf=>?_))
            refine wf (wp_ret ?_)
            obtain rfl:=XZ a3
            obtain rfl:=XZ H
            exact rt (.one (.c (.bool false))) rf d0 rfl
           ·
            rw [hz,XV] at a3
            refine wp_skip (XT (Aa (Rk 0 1 ((tI 23 0)::(tS 21 a1 x163.1.length a2)::(tS 17 aa a.2.1.length ab)::(B5 x_v10 x_v11 s x50 u m x40 q l x37 p f d g)) im d0 fun zd rg=>?_)))
            refine wf ?_
            obtain⟨mh,kf,a3⟩:=Ao a3
            refine As (fun a' w'=>∃ (fk:Int)(j1:Array Value)(hg:Ac),a' = ⟨j1,[]⟩∧Kn 204 [(z,0),(ac,0)] ((tI 12 x_v10)::(tI 11 fk)::(HH s x50 u m x40 q l x37 p f d g)) j1∧Ai ⟨w,h,AC⟩ hg [(z,0),(ac,0)] (Mq ai y aj ag ah b5 b7 b6 a b8) [⟨ae,a.1.length,af,3,1,a7,0⟩,⟨b5,1,b7,3,1,dk,dq⟩,⟨aa,a.2.1.length,ab,3,1,bg,0⟩,⟨b6,a.2.2.length,b8,49,3,dl,dr⟩,⟨ao,an.length,ap,3,1,bi,(bi:List Value).length⟩,⟨a8,a5.length,a9,3,1,bu,(bu:List Value).length⟩,⟨cp,x160.length,cr,3,1,cf,(cf:List Value).length⟩] w'∧Ac.le kk hg∧mh=.go fk) ?_ ?_
            ·
             refine wp_block ?_
             refine At (fun u3 a' w'=>∃ (x_v50:Int)(x_v51:Int)(j2:Array Value)(hl:Ac),a' = ⟨j2,[]⟩∧Kn 204 [(z,0),(ac,0)] (EI x_v50 a1 x163 a2 aa a ab x_v10 x_v51 s x50 u m x40 q l x37 p f d g) j2∧Ai ⟨w,h,AC⟩ hl [(z,0),(ac,0)] (Mq ai y aj ag ah b5 b7 b6 a b8) [⟨ae,a.1.length,af,3,1,a7,0⟩,⟨b5,1,b7,3,1,dk,dq⟩,⟨aa,a.2.1.length,ab,3,1,bg,0⟩,⟨b6,a.2.2.length,b8,49,3,dl,dr⟩,⟨ao,an.length,ap,3,1,bi,(bi:List Value).length⟩,⟨a8,a5.length,a9,3,1,bu,(bu:List Value).length⟩,⟨cp,x160.length,cr,3,1,cf,(cf:List Value).length⟩] w'∧Ac.le kk hl∧BH u3 x50 a x163 x_v50 x_v51=some mh) cz ?_ ?_
             ·
              exact XY 0 ⟨x_v11,_,_,rfl,rg.kp,d0,Ac.le_refl _,kf⟩
             ·
              rintro fg _ aay ⟨x_v50,x_v51,j2,hl,rfl,rh,gv,bs,bf⟩
              clear kf
              obtain _ | fg:=fg
              ·
               rw [BH] at bf; cases bf
              rw [BH] at bf
              replace a0:=a0.mono bs
              replace ay:=ay.mono bs
              replace bk:=bk.mono bs
              replace ba:=ba.mono bs
              replace bb:=bb.mono bs
              replace b3:=b3.mono bs
              replace c4:=c4.mono bs
              replace c5:=c5.mono bs
              replace d1:=d1.mono bs
              replace ei:=ei.mono bs
              replace bj:=bj.mono bs
              replace ee:=ee.mono bs
              replace cn:=cn.mono bs
              replace ef:=ef.mono bs
              replace ct:=ct.mono bs
              replace c1:=c1.mono bs
              replace c2:=c2.mono bs
              refine XT (XT (Aa (Rk 0 4 ((tB 171 (decide (x_v50<((x163.1.length:Nat):Int))))::(EI x_v50 a1 x163 a2 aa a ab x_v10 x_v51 s x50 u m x40 q l x37 p f d g)) rh gv fun ze io=>?_)))
              refine wf (wC (decide (x_v50<((x163.1.length:Nat):Int))) io (fun h0=>?_) (fun h0=>?_))
              ·
               rw [h0,XW] at bf
               refine wp_skip (XT (wp_block (XT (XT (Aa (Rk 0 2 ((tI 175 x_v50)::(tS 174 a1 x163.1.length a2)::(EI x_v50 a1 x163 a2 aa a ab x_v10 x_v51 s x50 u m x40 q l x37 p f d g)) io gv fun zf ri=>?_))))))
               obtain⟨x176,ex176,bf⟩:=Ao bf
               obtain⟨s6,th,uu⟩:=Ah ex176
               obtain⟨c7,dj,wx,nu,ud,oi⟩:=ei.get (by decide) uu
               obtain rfl:=ud
               have i9:=gv.addPlc (b:=c7) (o:=dj+(x_v50:Int).toNat*1) (cs:=[.int .i64 x176]) (fun j c hj=>oi j _ (Aj hj)) rfl (by kernel_rfl) (by kernel_rfl)
               refine A3 2 (x_v50) rfl rfl (rfl) rfl (by decide) ri (by rfl) (by rfl) (by rfl) nu (by rfl) s6 th (by kernel_rfl) fun vx (rk:Kn 204 [(z,0),(ac,0),(c7,dj+(x_v50:Int).toNat*1)] ((tP 176 2 0)::(tI 175 x_v50)::(tS 174 a1 x163.1.length a2)::(EI x_v50 a1 x163 a2 aa a ab x_v10 x_v51 s x50 u m x40 q l x37 p f d g)) vx)=>?_
               refine Rk 3 4 ((tI 180 (IntKind.i64.wrap (((a.2.1.length:Nat):Int)-1)))::(tI 177 x176)::(EI x_v50 a1 x163 a2 aa a ab x_v10 x_v51 s x50 u m x40 q l x37 p f d g)) rk i9 fun zg rl=>?_
               obtain⟨x181,ex181,bf⟩:=Ao bf
               refine wl fun K hK=>?_
               refine wc [.c (.int .i64 x176),.c (.int .i64 0),.c (.int .i64 (IntKind.i64.wrap (((a.2.1.length:Nat):Int)-1)))] rl i9 (Gq fg i9.has x176 0 (IntKind.i64.wrap (((a.2.1.length:Nat):Int)-1)) ex181) fun z4 w8 aaz m9 bx eh=>?_
               replace a0:=a0.mono bx
               replace ay:=ay.mono bx
               replace bk:=bk.mono bx
               replace ba:=ba.mono bx
               replace bb:=bb.mono bx
               replace b3:=b3.mono bx
               replace c4:=c4.mono bx
               replace c5:=c5.mono bx
               replace d1:=d1.mono bx
               replace ei:=ei.mono bx
               replace bj:=bj.mono bx
               replace ee:=ee.mono bx
               replace cn:=cn.mono bx
               replace ef:=ef.mono bx
               replace ct:=ct.mono bx
               replace c1:=c1.mono bx
               replace c2:=c2.mono bx
               obtain rfl:=m9
               refine⟨.one (.c (.bool x181)),rfl,fun vy (rm:Kn 204 [(z,0),(ac,0),(c7,dj+(x_v50:Int).toNat*1)] ((tB 181 x181)::(tI 180 (IntKind.i64.wrap (((a.2.1.length:Nat):Int)-1)))::(tI 177 x176)::(EI x_v50 a1 x163 a2 aa a ab x_v10 x_v51 s x50 u m x40 q l x37 p f d g)) vy)=>hK _ _ ?_⟩
               refine Rk 8 2 ((tB 183 (!x181))::(EI x_v50 a1 x163 a2 aa a ab x_v10 x_v51 s x50 u m x40 q l x37 p f d g)) rm eh fun mn kv=>?_
               rcases Bool.eq_false_or_eq_true ((!x181)) with ex | ex
               ·
                rw [ex,XW] at bf
                have rn:Kn 204 [(z,0),(ac,0),(c7,dj+(x_v50:Int).toNat*1)] ((tB 183 true)::(EI x_v50 a1 x163 a2 aa a ab x_v10 x_v51 s x50 u m x40 q l x37 p f d g)) mn:=(kv.setB 183 true (by rfl) ex).kp
                refine Rk 10 11 ((tB 194 true)::(EI x_v50 a1 x163 a2 aa a ab x_v10 x_v51 s x50 u m x40 q l x37 p f d g)) rn eh fun zh kw=>?_
                refine wf (wC true kw (fun hb=>?_) (fun hb=>?_))
                rotate_left
                ·
                 cases hb
                refine XT (Aa (Rk 0 1 [tB 4 false] kw eh fun zi ro=>?_))
                refine wf (wp_ret ?_)
                obtain rfl:=XZ bf
                obtain rfl:=XZ a3
                obtain rfl:=XZ H
                exact rt (.one (.c (.bool false))) ro eh rfl
               ·
                rw [ex,XV] at bf
                have rp:Kn 204 [(z,0),(ac,0),(c7,dj+(x_v50:Int).toNat*1)] ((tB 183 false)::(EI x_v50 a1 x163 a2 aa a ab x_v10 x_v51 s x50 u m x40 q l x37 p f d g)) mn:=(kv.setB 183 false (by rfl) ex).kp
                refine Rk 10 4 ((tI 187 x_v50)::(tS 186 a1 x163.1.length a2)::(tS 185 aa a.2.1.length ab)::(tS 184 s x50.1.length u)::(tB 183 false)::(EI x_v50 a1 x163 a2 aa a ab x_v10 x_v51 s x50 u m x40 q l x37 p f d g)) rp eh fun zj kx=>?_
                obtain⟨x188,ex188,bf⟩:=Ao bf
                obtain⟨s7,ti,uv⟩:=Ah ex188
                obtain⟨fv,g5,wy,nv,ue,oj⟩:=ei.get (by decide) uv
                obtain rfl:=ue
                have ja:=eh.addPlc (b:=fv) (o:=g5+(x_v50:Int).toNat*1) (cs:=[.int .i64 x188]) (fun j c hj=>oj j _ (Aj hj)) rfl (by kernel_rfl) (by kernel_rfl)
                refine A3 14 (x_v50) rfl rfl (Al kx (by kernel_rfl)) rfl (by decide) kx (by rfl) (by rfl) (by rfl) nv (by rfl) s7 ti (by kernel_rfl) fun v0 (rq:Kn 204 [(z,0),(ac,0),(c7,dj+(x_v50:Int).toNat*1),(fv,g5+(x_v50:Int).toNat*1)] ((tP 188 3 0)::(tI 187 x_v50)::(tS 186 a1 x163.1.length a2)::(tS 185 aa a.2.1.length ab)::(tS 184 s x50.1.length u)::(tB 183 false)::(EI x_v50 a1 x163 a2 aa a ab x_v10 x_v51 s x50 u m x40 q l x37 p f d g)) v0)=>?_
                refine Rk 15 1 ((tI 189 x188)::(tS 185 aa a.2.1.length ab)::(tS 184 s x50.1.length u)::(tB 183 false)::(EI x_v50 a1 x163 a2 aa a ab x_v10 x_v51 s x50 u m x40 q l x37 p f d g)) rq ja fun zk ky=>?_
                obtain⟨x190,ex190,bf⟩:=Ao bf
                obtain⟨l0,l9,uw⟩:=Ah ex190
                have si:=A2 l0 l9
                obtain⟨wz,uf,ok⟩:=A5 (sz:=1) rfl cn uw
                obtain rfl:=uf
                obtain⟨g9,ed⟩:=A7 ja (i:=2) rfl (b0:=0+(x188:Int).toNat*1) (Nat.lt_of_lt_of_le (Nat.lt_add_of_pos_right (by decide)) (Ar (sz:=1) rfl cn si))
                have gw:=ja.addPlc (b:=g9) (o:=0+(x188:Int).toNat*1) (cs:=[]) (fun j c hj=>by simp at hj) rfl (by kernel_rfl) (by kernel_rfl)
                have e3:∀ (e:A9) k c,([.int .i64 x190]:List SC)[k]? = some c→(bg)[0+(x188:Int).toNat*1+k]? = some (c.den e):=fun e k c hk=>ok k _ (Aj hk)
                refine A3 16 (x188) rfl rfl (Al ky (by kernel_rfl)) rfl (by decide) ky (by rfl) (by rfl) (by rfl) ed (by rfl) l0 l9 (by kernel_rfl) fun v1 (rr:Kn 204 [(z,0),(ac,0),(c7,dj+(x_v50:Int).toNat*1),(fv,g5+(x_v50:Int).toNat*1),(g9,0+(x188:Int).toNat*1)] ((tP 190 4 0)::(tI 189 x188)::(tS 185 aa a.2.1.length ab)::(tS 184 s x50.1.length u)::(tB 183 false)::(EI x_v50 a1 x163 a2 aa a ab x_v10 x_v51 s x50 u m x40 q l x37 p f d g)) v1)=>?_
                refine Ba 17 1 [191,184,183,23,21,17,12,11,9,8,7,5,2] ((tI 191 x190)::(tS 184 s x50.1.length u)::(tB 183 false)::(EI x_v50 a1 x163 a2 aa a ab x_v10 x_v51 s x50 u m x40 q l x37 p f d g)) rr (Ay.peek gw.plOk gw 2 4 rfl rfl ed [.int .i64 x190] (e3 _)) (by kernel_rfl) fun zl kz=>?_
                obtain⟨x192,ex192,bf⟩:=Ao bf
                refine AJ _ rfl (Al kz (by kernel_rfl)) fun K hK=>?_
                refine wc [.c (.slice s x50.1.length u),.c (.int .i64 x190)] kz gw (ND fg gw.has x50.1 b3 x190 ex192) fun z6 w9 aa1 nb sk cy=>?_
                obtain rfl:=nb
                refine⟨.one (.c (.int .i64 x192)),rfl,fun v2 (rs:Kn 204 [(z,0),(ac,0),(c7,dj+(x_v50:Int).toNat*1),(fv,g5+(x_v50:Int).toNat*1),(g9,0+(x188:Int).toNat*1)] ((tI 192 x192)::(tI 191 x190)::(tS 184 s x50.1.length u)::(tB 183 false)::(EI x_v50 a1 x163 a2 aa a ab x_v10 x_v51 s x50 u m x40 q l x37 p f d g)) v2)=>hK _ _ ?_⟩
                refine Ba 19 2 [194,23,21,17,12,11,9,8,7,5,2] ((tB 194 (decide (x192<0)))::(EI x_v50 a1 x163 a2 aa a ab x_v10 x_v51 s x50 u m x40 q l x37 p f d g)) rs (Ay.peek cy.plOk cy 2 4 rfl rfl ed [.int .i64 x190] (e3 _)) (by kernel_rfl) fun zm ip=>?_
                refine wf (wC (decide (x192<0)) ip (fun h1=>?_) (fun h1=>?_))
                ·
                 rw [h1,XW] at bf
                 refine XT (Aa (Ba 0 1 [4] [tB 4 false] ip (Ay.peek cy.plOk cy 2 4 rfl rfl ed [.int .i64 x190] (e3 _)) (by kernel_rfl) fun zn ru=>?_))
                 refine wf (wp_ret ?_)
                 obtain rfl:=XZ bf
                 obtain rfl:=XZ a3
                 obtain rfl:=XZ H
                 exact rt (.one (.c (.bool false))) ru cy rfl
                ·
                 rw [h1,XV] at bf
                 refine wp_skip (Aa (Ba 0 3 [11,23,21,17,12,9,8,7,5,2] ((tI 11 (IntKind.i64.wrap (x_v51+1)))::(tI 23 x_v50)::(tS 21 a1 x163.1.length a2)::(tS 17 aa a.2.1.length ab)::(tI 12 x_v10)::(HH s x50 u m x40 q l x37 p f d g)) ip (Ay.peek cy.plOk cy 2 4 rfl rfl ed [.int .i64 x190] (e3 _)) (by kernel_rfl) fun zo rv=>?_))
                 refine wf (Aa (Ba 0 3 [23,11,21,17,12,9,8,7,5,2] ((tI 23 (IntKind.i64.wrap (x_v50+1)))::(tI 11 (IntKind.i64.wrap (x_v51+1)))::(tS 21 a1 x163.1.length a2)::(tS 17 aa a.2.1.length ab)::(tI 12 x_v10)::(HH s x50 u m x40 q l x37 p f d g)) rv (Ay.peek cy.plOk cy 2 4 rfl rfl ed [.int .i64 x190] (e3 _)) (by kernel_rfl) fun zp rx=>?_))
                 refine wf ?_
                 exact XY fg ⟨Nat.lt_succ_self _,XY (IntKind.i64.wrap (x_v50+1)) ⟨IntKind.i64.wrap (x_v51+1),_,_,rfl,(rx.keep [23,21,17,12,11,9,8,7,5,2] (by rfl)).cut 2 (by kernel_rfl),cy.cutPl 2 (by kernel_rfl),XU bs (XU bx sk),bf⟩⟩
              ·
               rw [h0,XV] at bf
               refine wp_exit ?_
               obtain rfl:=XZ bf
               exact XY x_v51 ⟨_,_,rfl,io.kp,gv,bs,rfl⟩
            ·
             rintro _ aa2 ⟨fk,j1,hg,rfl,ry,lm,sl,rfl⟩
             rw [Ex.bind_go] at a3
             refine Aa (Rk 0 3 ((tI 12 (IntKind.i64.wrap (x_v10+1)))::(tI 11 fk)::(HH s x50 u m x40 q l x37 p f d g)) ry lm fun zq rz=>?_)
             refine wf ?_
             exact XY cz ⟨Nat.lt_succ_self _,XY (IntKind.i64.wrap (x_v10+1)) ⟨fk,_,_,rfl,(rz.keep [12,11,9,8,7,5,2] (by rfl)).cut 1 (by kernel_rfl),(lm.cutRw 0).cutPl 1 (by kernel_rfl),XU de (XU df (XU cu (XU co (XU cv (XU cb (XU b1 (XU bw (XU b2 sl)))))))),a3⟩⟩
          refine Py 1 5 rfl rfl (by kernel_rfl) (by decide) (rfl) (rfl) (fun K hK=>?_) (fun K hK=>?_)
          ·
           obtain⟨kl,ix,tx,gx⟩:=i7.settle (i:=1) rfl
           replace bl:=bl.mono ix
           replace gx:Ai ⟨w,h,AC⟩ kl [(z,0),(ac,0)] (JT ai y aj ag ah ad aq a ar) [⟨ae,a.1.length,af,3,1,a7,0⟩,⟨ad,1,1,3,1,([.int .i64 8]:List Value),(([.int .i64 8]:List Value):List Value).length⟩,⟨aa,a.2.1.length,ab,3,1,bg,0⟩,⟨aq,a.2.2.length,ar,49,3,bh,0⟩,⟨ao,an.length,ap,3,1,bi,0⟩,⟨a8,a5.length,a9,3,1,bu,0⟩,⟨none,0,0,3,1,[],0⟩] (World.drew j4):=gx
           have jj:A1 kl ad 1 ([8]:List Int):=⟨_,bl,tx,i7.rowCap (i:=1) rfl⟩
           obtain⟨hn,gb,ty,gy⟩:=gx.settle (i:=3) rfl
           replace jj:=jj.mono gb
           replace ca:=ca.mono (XU ix gb)
           replace gy:Ai ⟨w,h,AC⟩ hn [(z,0),(ac,0)] (JT ai y aj ag ah ad aq a ar) [⟨ae,a.1.length,af,3,1,a7,0⟩,⟨ad,1,1,3,1,([.int .i64 8]:List Value),(([.int .i64 8]:List Value):List Value).length⟩,⟨aa,a.2.1.length,ab,3,1,bg,0⟩,⟨aq,a.2.2.length,ar,49,3,bh,(bh:List Value).length⟩,⟨ao,an.length,ap,3,1,bi,0⟩,⟨a8,a5.length,a9,3,1,bu,0⟩,⟨none,0,0,3,1,[],0⟩] (World.drew j4):=gy
           have tn:A1 hn aq ar a.2.2:=⟨_,ca,ty,gx.rowCap (i:=3) rfl⟩
           refine wc [.agg (Qn ad aq a ar y)] ku gy (HE cz gy.has (Ak.mk ([8]:List Int) a.2.2 y.broken) ((Ab (Ag jj) (Ab (Ag tn) Ad)):rep hn (Ak.mk ([8]:List Int) a.2.2 y.broken) _) ex156) fun z7 km aa3 nc iy ln=>?_
           replace bl:=bl.mono (XU gb iy)
           replace ca:=ca.mono iy
           obtain⟨_,rfl,⟨_,_,rfl,⟨fr,f1,rfl,tp⟩,⟨_,_,rfl,⟨fs,f2,rfl,tq⟩,rfl⟩⟩⟩:=nc
           refine⟨.one (.agg [.slice fr x156.room.length f1,.slice fs x156.buses.length f2,.int .i64 x156.broken]),rfl,fun v3 (r0:Kn 204 [(z,0),(ac,0)] ((tA 156 [.slice fr x156.room.length f1,.slice fs x156.buses.length f2,.int .i64 x156.broken])::(tS 162 a8 a5.length a9)::(tS 161 ao an.length ap)::(tI 159 ((a.2.2.length:Nat):Int))::(tA 155 (Qn ad aq a ar y))::(tS 17 aa a.2.1.length ab)::(B5 x_v10 x_v11 s x50 u m x40 q l x37 p f d g)) v3)=>hK _ _ ln.plOk ?_⟩
           refine Dl 5 fun K hK=>?_
           obtain⟨s8,tj,md⟩:=Jd ex160
           refine GL 6 rfl rfl 3 1 8 [.int .i64 0] (((a.2.2.length:Nat):Int)) r0 ln rfl rfl (by decide) (by rfl) (by kernel_rfl) (by kernel_rfl) (by rfl) s8 tj (by decide) fun g6 v5 wj (k0:Kn 204 [(z,0),(ac,0)] [(160,.one (.c (.slice g6 ((((a.2.2.length:Nat):Int):Int).toNat) ((((a.2.2.length:Nat):Int):Int).toNat)))),(156,.one (.agg [.slice fr x156.room.length f1,.slice fs x156.buses.length f2,.int .i64 x156.broken])),(162,.one (.c (.slice a8 a5.length a9))),(161,.one (.c (.slice ao an.length ap))),(159,.one (.c (.int .i64 ((a.2.2.length:Nat):Int)))),(155,.one (.agg [.slice ad 1 1,.slice aq a.2.2.length ar,.int .i64 y.broken])),(17,.one (.c (.slice aa a.2.1.length ab))),(12,.one (.c (.int .i64 x_v10))),(11,.one (.c (.int .i64 x_v11))),(9,.one (.c (.slice s x50.1.length u))),(8,.one (.c (.slice m x40.length q))),(7,.one (.c (.slice l x37.length p))),(5,.one (.c (.slice f d.2.length g))),(2,.one (.c (.ptr 0 0)))] v5) (jb:Ai ⟨w,h,AC⟩ km [(z,0),(ac,0)] [⟨[.slice ai y.room.length aj,.slice ag y.buses.length ah,.int .i64 y.broken],some 25⟩,⟨[.slice ad 1 1,.slice aq a.2.2.length ar,.int .i64 y.broken],some 25⟩] [⟨ae,a.1.length,af,3,1,a7,0⟩,⟨ad,1,1,3,1,([.int .i64 8]:List Value),(([.int .i64 8]:List Value):List Value).length⟩,⟨aa,a.2.1.length,ab,3,1,bg,0⟩,⟨aq,a.2.2.length,ar,49,3,bh,(bh:List Value).length⟩,⟨ao,an.length,ap,3,1,bi,0⟩,⟨a8,a5.length,a9,3,1,bu,0⟩,⟨g6,(((a.2.2.length:Nat):Int):Int).toNat,(((a.2.2.length:Nat):Int):Int).toNat,3,1,List.flatten (List.replicate (((a.2.2.length:Nat):Int):Int).toNat ([.int .i64 0]:List Value)),0⟩] wj)=>?_
           have ks:Ae km x160 (List.flatten (List.replicate (((a.2.2.length:Nat):Int):Int).toNat ([.int .i64 0]:List Value))):=by rw [md]; exact Ae.replicate (α:=Int) (x:=0) Ad _
           have k5:(((a.2.2.length:Nat):Int):Int).toNat=x160.length:=by rw [md]; simp
           rw [k5] at k0 jb
           skip
           rw [k5] at ks
           refine hK _ _ jb.plOk ?_
           refine FL [1,5,7,6,4,3,2,0] (by kernel_rfl) (by rfl) (mf ad 1 ([.int .i64 8]:List Value) ((([.int .i64 8]:List Value):List Value).length) aq ar bh ((bh:List Value).length) g6 x160.length (List.flatten (List.replicate x160.length ([.int .i64 0]:List Value))) fr f1 fs f2 _ _ ?_)
           exact XY _ ⟨_,rfl,k0.kp,jb,XU ix (XU gb iy),bl,ca,ks,tp,tq⟩
          ·
           obtain⟨s9,tk,me⟩:=Jd ex160
           refine GL 6 rfl rfl 3 1 8 [.int .i64 0] (((a.2.2.length:Nat):Int)) ku i7 rfl rfl (by decide) (by rfl) (by kernel_rfl) (by kernel_rfl) (by rfl) s9 tk (by decide) fun d7 v6 j6 (k1:Kn 204 [(z,0),(ac,0)] [(160,.one (.c (.slice d7 ((((a.2.2.length:Nat):Int):Int).toNat) ((((a.2.2.length:Nat):Int):Int).toNat)))),(162,.one (.c (.slice a8 a5.length a9))),(161,.one (.c (.slice ao an.length ap))),(159,.one (.c (.int .i64 ((a.2.2.length:Nat):Int)))),(155,.one (.agg [.slice ad 1 1,.slice aq a.2.2.length ar,.int .i64 y.broken])),(17,.one (.c (.slice aa a.2.1.length ab))),(12,.one (.c (.int .i64 x_v10))),(11,.one (.c (.int .i64 x_v11))),(9,.one (.c (.slice s x50.1.length u))),(8,.one (.c (.slice m x40.length q))),(7,.one (.c (.slice l x37.length p))),(5,.one (.c (.slice f d.2.length g))),(2,.one (.c (.ptr 0 0)))] v6) (gz:Ai ⟨w,h,AC⟩ c0 [(z,0),(ac,0)] [⟨[.slice ai y.room.length aj,.slice ag y.buses.length ah,.int .i64 y.broken],some 25⟩,⟨[.slice ad 1 1,.slice aq a.2.2.length ar,.int .i64 y.broken],some 25⟩] [⟨ae,a.1.length,af,3,1,a7,0⟩,⟨ad,1,1,3,1,([.int .i64 8]:List Value),0⟩,⟨aa,a.2.1.length,ab,3,1,bg,0⟩,⟨aq,a.2.2.length,ar,49,3,bh,0⟩,⟨ao,an.length,ap,3,1,bi,0⟩,⟨a8,a5.length,a9,3,1,bu,0⟩,⟨d7,(((a.2.2.length:Nat):Int):Int).toNat,(((a.2.2.length:Nat):Int):Int).toNat,3,1,List.flatten (List.replicate (((a.2.2.length:Nat):Int):Int).toNat ([.int .i64 0]:List Value)),0⟩] j6)=>?_
           have f8:Ae c0 x160 (List.flatten (List.replicate (((a.2.2.length:Nat):Int):Int).toNat ([.int .i64 0]:List Value))):=by rw [me]; exact Ae.replicate (α:=Int) (x:=0) Ad _
           have k6:(((a.2.2.length:Nat):Int):Int).toNat=x160.length:=by rw [me]; simp
           rw [k6] at k1 gz
           skip
           rw [k6] at f8
           refine hK _ _ gz.plOk ?_
           refine Dl 1 fun K hK=>?_
           obtain⟨kn,gc,tz,g0⟩:=gz.settle (i:=1) rfl
           replace bl:=bl.mono gc
           replace g0:Ai ⟨w,h,AC⟩ kn [(z,0),(ac,0)] (JT ai y aj ag ah ad aq a ar) [⟨ae,a.1.length,af,3,1,a7,0⟩,⟨ad,1,1,3,1,([.int .i64 8]:List Value),(([.int .i64 8]:List Value):List Value).length⟩,⟨aa,a.2.1.length,ab,3,1,bg,0⟩,⟨aq,a.2.2.length,ar,49,3,bh,0⟩,⟨ao,an.length,ap,3,1,bi,0⟩,⟨a8,a5.length,a9,3,1,bu,0⟩,⟨d7,x160.length,x160.length,3,1,List.flatten (List.replicate x160.length ([.int .i64 0]:List Value)),0⟩] j6:=g0
           have jk:A1 kn ad 1 ([8]:List Int):=⟨_,bl,tz,gz.rowCap (i:=1) rfl⟩
           obtain⟨ho,e9,t0,g1⟩:=g0.settle (i:=3) rfl
           replace jk:=jk.mono e9
           replace ca:=ca.mono (XU gc e9)
           replace g1:Ai ⟨w,h,AC⟩ ho [(z,0),(ac,0)] (JT ai y aj ag ah ad aq a ar) [⟨ae,a.1.length,af,3,1,a7,0⟩,⟨ad,1,1,3,1,([.int .i64 8]:List Value),(([.int .i64 8]:List Value):List Value).length⟩,⟨aa,a.2.1.length,ab,3,1,bg,0⟩,⟨aq,a.2.2.length,ar,49,3,bh,(bh:List Value).length⟩,⟨ao,an.length,ap,3,1,bi,0⟩,⟨a8,a5.length,a9,3,1,bu,0⟩,⟨d7,x160.length,x160.length,3,1,List.flatten (List.replicate x160.length ([.int .i64 0]:List Value)),0⟩] j6:=g1
           have tr:A1 ho aq ar a.2.2:=⟨_,ca,t0,g0.rowCap (i:=3) rfl⟩
           refine wc [.agg (Qn ad aq a ar y)] k1 g1 (HE cz g1.has (Ak.mk ([8]:List Int) a.2.2 y.broken) ((Ab (Ag jk) (Ab (Ag tr) Ad)):rep ho (Ak.mk ([8]:List Int) a.2.2 y.broken) _) ex156) fun z8 xa aa5 nd gd lp=>?_
           replace bl:=bl.mono (XU e9 gd)
           replace ca:=ca.mono gd
           replace f8:=f8.mono (XU (XU gc e9) gd)
           obtain⟨_,rfl,⟨_,_,rfl,⟨g7,ha,rfl,ts⟩,⟨_,_,rfl,⟨g8,hc,rfl,tt⟩,rfl⟩⟩⟩:=nd
           refine⟨.one (.agg [.slice g7 x156.room.length ha,.slice g8 x156.buses.length hc,.int .i64 x156.broken]),rfl,fun v7 (r3:Kn 204 [(z,0),(ac,0)] ((tA 156 [.slice g7 x156.room.length ha,.slice g8 x156.buses.length hc,.int .i64 x156.broken])::(tS 160 d7 x160.length x160.length)::(tS 162 a8 a5.length a9)::(tS 161 ao an.length ap)::(tI 159 ((a.2.2.length:Nat):Int))::(tA 155 (Qn ad aq a ar y))::(tS 17 aa a.2.1.length ab)::(B5 x_v10 x_v11 s x50 u m x40 q l x37 p f d g)) v7)=>hK _ _ lp.plOk ?_⟩
           refine FL [1,5,7,6,4,3,2,0] (by kernel_rfl) (by rfl) (mf ad 1 ([.int .i64 8]:List Value) ((([.int .i64 8]:List Value):List Value).length) aq ar bh ((bh:List Value).length) d7 x160.length (List.flatten (List.replicate x160.length ([.int .i64 0]:List Value))) g7 ha g8 hc _ _ ?_)
           exact XY _ ⟨_,rfl,r3.kp,lp,XU gc (XU e9 gd),bl,ca,f8,ts,tt⟩
      ·
       rw [hq,XV] at a3
       refine wp_exit ?_
       obtain rfl:=XZ a3
       exact XY x_v11 ⟨_,_,rfl,ib.kp,gf,de,rfl⟩
    ·
     rintro _ aa6 ⟨fj,jp,hd,rfl,r4,ff,k8,rfl⟩
     rw [Ex.bind_go] at H
     replace a0:=a0.mono k8
     replace ay:=ay.mono k8
     refine XT (Aa (Rk 0 5 [tB 201 (fj == ((x50.1.length:Nat):Int))] r4 ff fun mo k2=>?_))
     rcases Bool.eq_false_or_eq_true ((fj == ((x50.1.length:Nat):Int))) with ey | ey
     ·
      rw [ey,XW] at H
      have k3:Kn 204 [(z,0)] [tB 201 true] mo:=(k2.setB 201 true (by rfl) ey).kp
      obtain⟨x202,ex202,H⟩:=Ao H
      refine AJ _ rfl (Al k3 (by kernel_rfl)) fun K hK=>?_
      refine wc [] k3 ff (J3 n ff.has  ex202) fun z9 xb aa7 nf xi lq=>?_
      obtain rfl:=nf
      refine⟨.one (.c (.bool x202)),rfl,fun v8 (r6:Kn 204 [(z,0)] [tB 202 x202,tB 201 true] v8)=>hK _ _ ?_⟩
      refine Rk 6 2 [tB 4 x202] r6 lq fun zt r7=>?_
      refine wf (wp_ret ?_)
      obtain rfl:=XZ H
      exact rt (.one (.c (.bool x202))) r7 lq rfl
     ·
      rw [ey,XV] at H
      have r8:Kn 204 [(z,0)] [tB 201 false] mo:=(k2.setB 201 false (by rfl) ey).kp
      refine Rk 5 3 [tB 4 false] r8 ff fun zu r9=>?_
      refine wf (wp_ret ?_)
      obtain rfl:=XZ H
      exact rt (.one (.c (.bool false))) r9 ff rfl
end Go.Proofs.Ythcbemnflgjadaa
