/- Each call computes its plain function. -/
import Derived.Test.YthcbemnflgjadaaProg
import Derived.Test.YthcbemnflgjadaaGpP0
import Derived.Test.YthcbemnflgjadaaGpWD
import Derived.Test.YthcbemnflgjadaaGpWH
import Derived.Test.YthcbemnflgjadaaGpWJ
set_option linter.all false
namespace Go.Proofs.Ythcbemnflgjadaa
open Go Go.RowKit
open Rep (rep)
open KRep (kv)
open VRep (rv)
set_option maxRecDepth 100000 in
set_option maxHeartbeats 4000000 in
theorem FK (n:Nat) {h:Ac} {w:World} (hh:CY h w) (words:List (IK .u16)) {a_words:Option Addr} {c_words:Nat} (hr_words:A5 h a_words c_words words) (at_:Int) {r:Int} (H:EA n words at_=some r) :
  Calls Try.prog 60 #[.slice a_words words.length c_words,.int .i64 at_] w (Dc (fun h v=>v=.int .i64 r) h w):=by
 refine enter 16 [.c (.slice a_words words.length c_words),.c (.int .i64 at_)] Try.func60 rfl rfl rfl rfl fun t hk=>?_
 have hm:=Ak.begin h w hh
 unfold EA at H
 refine XT (Aa (Rk 0 1 [tS 0 a_words words.length c_words,tI 1 at_] hk hm fun ae m=>?_))
 refine wf (XT (XT (Aa (Rk 0 3 [tB 7 (((words.length:Nat):Int) == 0),tS 0 a_words words.length c_words,tI 1 at_] m hm fun ag d=>?_))))
 refine wf (wC ((((words.length:Nat):Int) == 0)) d (fun a=>?_) (fun a=>?_))
 ·
  rw [a,XW] at H
  refine XT (Aa (Rk 0 1 [tI 4 0] d hm fun ah s=>?_))
  refine wf (wp_ret ?_)
  obtain rfl:=XZ H
  exact rt (.one (.c (.int .i64 0))) s hm rfl
 ·
  rw [a,XV] at H
  refine wp_skip (XT (Aa (Rk 0 4 [tI 11 ((words.length:Nat):Int),tI 9 at_,tS 8 a_words words.length c_words] d hm fun ai u=>?_)))
  obtain⟨x12,ex12,H⟩:=An H
  refine QI 4 u rfl rfl (rfl) rfl (by decide) (by rfl) (by rfl) (KD ex12) fun ab (l:Kn 16 [] [tI 12 (Int.tmod at_ ((words.length:Nat):Int)),tI 11 ((words.length:Nat):Int),tI 9 at_,tS 8 a_words words.length c_words] ab)=>?_
  obtain⟨x13,ex13,H⟩:=An H
  obtain⟨x,y,aa⟩:=Ah ex13
  obtain⟨e,g,ad,i,z,k⟩:=hr_words.get (by decide) aa
  obtain rfl:=z
  have f:=hm.addPlc (b:=e) (o:=g+(Int.tmod at_ ((words.length:Nat):Int):Int).toNat*1) (cs:=[.int .u16 x13.n]) (fun j c hj=>k j _ (Ai hj)) rfl (by kernel_rfl) (by kernel_rfl)
  refine A7 5 (Int.tmod at_ ((words.length:Nat):Int)) rfl rfl (rfl) rfl (by decide) l (by rfl) (by rfl) (by rfl) i (by rfl) x y (by kernel_rfl) fun ac (p:Kn 16 [(e,g+(Int.tmod at_ ((words.length:Nat):Int):Int).toNat*1)] [tP 13 0 0,tI 12 (Int.tmod at_ ((words.length:Nat):Int)),tI 11 ((words.length:Nat):Int),tI 9 at_,tS 8 a_words words.length c_words] ac)=>?_
  refine Rk 6 3 [tI 4 (IntKind.i64.wrap x13.n)] p f fun af q=>?_
  refine wf (wp_ret ?_)
  obtain rfl:=XZ H
  exact rt (.one (.c (.int .i64 (IntKind.i64.wrap x13.n)))) q f rfl
abbrev Gx (x22:B6):List SC:=[.int .i64 x22.lo,.int .i64 x22.hi,.int .i64 x22.turn]
abbrev DA (g p q:Nat) (x_v12:Int) (s:Nat):AA:=[(g,0),(p,q+(x_v12:Int).toNat*3),(s,0)]
abbrev GQ (ai:Option Addr) (y:Al) (ak:Nat) (ad:Option Addr) (ag:Nat):List SC:=[.slice ai y.room.length ak,.slice ad y.buses.length ag,.int .i64 y.broken]
abbrev Qq (g p q:Nat) (x_v12:Int) (s ae:Nat) (x_v22:Int) (ah aj ao:Nat):AA:=[(g,0),(p,q+(x_v12:Int).toNat*3),(s,0),(ae,0+(IntKind.i64.wrap (x_v22-1):Int).toNat*1),(ah,0+(x_v22:Int).toNat*1),(aj,0+(x_v22:Int).toNat*1),(ao,0+(IntKind.i64.wrap (x_v22-1):Int).toNat*1)]
abbrev QY (g p q:Nat) (x_v12:Int) (s ae:Nat) (x_v22:Int) (ah aj ao ap au aw:Nat):AA:=[(g,0),(p,q+(x_v12:Int).toNat*3),(s,0),(ae,0+(IntKind.i64.wrap (x_v22-1):Int).toNat*1),(ah,0+(x_v22:Int).toNat*1),(aj,0+(x_v22:Int).toNat*1),(ao,0+(IntKind.i64.wrap (x_v22-1):Int).toNat*1),(ap,0+(IntKind.i64.wrap (x_v22-1):Int).toNat*1),(au,0+(x_v22:Int).toNat*1),(aw,0+(x_v22:Int).toNat*1)]
abbrev QZ (g p q:Nat) (x_v12:Int) (s ae:Nat) (x_v22:Int) (ah aj ao ap au aw be:Nat):AA:=[(g,0),(p,q+(x_v12:Int).toNat*3),(s,0),(ae,0+(IntKind.i64.wrap (x_v22-1):Int).toNat*1),(ah,0+(x_v22:Int).toNat*1),(aj,0+(x_v22:Int).toNat*1),(ao,0+(IntKind.i64.wrap (x_v22-1):Int).toNat*1),(ap,0+(IntKind.i64.wrap (x_v22-1):Int).toNat*1),(au,0+(x_v22:Int).toNat*1),(aw,0+(x_v22:Int).toNat*1),(be,0+(IntKind.i64.wrap (x_v22-1):Int).toNat*1)]
abbrev LS (ai:Option Addr) (y:Al) (ak:Nat) (ad:Option Addr) (ag:Nat) (x22:B6):List Ce:=[⟨GQ ai y ak ad ag,some 25⟩,⟨Gx x22,none⟩,⟨Gx x22,some 49⟩]
abbrev Dx (a_words:Option Addr) (words:List (IK .u16)) (c_words:Nat):TM:=[tP 2 0 0,tS 1 a_words words.length c_words]
abbrev HF (x_v22:Int) (d:Option Addr) (x_v21:List Int) (f:Nat) (l:Option Addr) (x_v20:List Int) (m:Nat) (x_v12:Int) (a_words:Option Addr) (words:List (IK .u16)) (c_words:Nat):TM:=(tI 11 x_v22)::(tS 6 d x_v21.length f)::(tS 5 l x_v20.length m)::(tI 7 x_v12)::(Dx a_words words c_words)
abbrev CM (x_v12:Int) (x:Option Addr) (x_v11:List Int) (z:Nat) (ac:Option Addr) (x_v10:List Int) (af:Nat) (a_words:Option Addr) (words:List (IK .u16)) (c_words:Nat):TM:=(tI 7 x_v12)::(tS 6 x x_v11.length z)::(tS 5 ac x_v10.length af)::(Dx a_words words c_words)
abbrev JK (x_v22:Int) (d:Option Addr) (x_v21:List Int) (f:Nat) (l:Option Addr) (an:List Int) (m:Nat) (x_v12:Int) (a_words:Option Addr) (words:List (IK .u16)) (c_words:Nat):TM:=(tI 102 (IntKind.i64.wrap (x_v22-1)))::(tS 100 d x_v21.length f)::(tI 99 x_v22)::(tS 98 d x_v21.length f)::(tI 11 x_v22)::(tS 6 d x_v21.length f)::(tS 5 l an.length m)::(tI 7 x_v12)::(Dx a_words words c_words)
abbrev JL (x_v22:Int) (l:Option Addr) (x_v20:List Int) (m:Nat) (d:Option Addr) (x_v21:List Int) (f:Nat) (x_v12:Int) (a_words:Option Addr) (words:List (IK .u16)) (c_words:Nat):TM:=(tI 86 (IntKind.i64.wrap (x_v22-1)))::(tS 84 l x_v20.length m)::(tI 83 x_v22)::(tS 82 l x_v20.length m)::(HF x_v22 d x_v21 f l x_v20 m x_v12 a_words words c_words)
set_option maxRecDepth 100000 in
set_option maxHeartbeats 4000000 in
theorem Ol (n:Nat) {h:Ac} {w:World} (hh:CY h w) (y:Al) {cs_y:List Value} (hx_y:rep h y cs_y) (words:List (IK .u16)) {a_words:Option Addr} {c_words:Nat} (hr_words:A5 h a_words c_words words) {r:List Int} (H:Hf n y words=some r) :
  Calls Try.prog 27 #[.agg cs_y.toArray,.slice a_words words.length c_words] w (Dc (fun h v=>∃ a c,v=.slice a r.length c∧A5 h a c r) h w):=by
 obtain⟨_,_,rfl,⟨ai,ak,rfl,bc⟩,⟨_,_,rfl,⟨ad,ag,rfl,a7⟩,rfl⟩⟩:=hx_y
 refine enter 115 [.agg (GQ ai y ak ad ag),.c (.slice a_words words.length c_words)] Try.func27 rfl rfl rfl rfl fun t hk=>?_
 have hm:=Ak.begin h w hh
 unfold Hf at H
 refine XT (Aa (wl fun K hK=>?_))
 refine wb (.agg (GQ ai y ak ad ag)) hk hm fun g j8 fg (gc:Kn 115 [(g,0)] [tP 2 0 0,tA 0 (GQ ai y ak ad ag),tS 1 a_words words.length c_words] j8) cm=>hK _ _ ?_
 refine Rk 1 1 (Dx a_words words c_words) gc cm fun lb gj=>?_
 refine wf (XT (Aa (Rk 0 2 ((tS 6 none 0 0)::(tS 5 none 0 0)::(Dx a_words words c_words)) gj cm fun ld go=>?_)))
 refine wf (XT (XT (Aa (Rk 0 1 ((tI 7 0)::(tS 6 none 0 0)::(tS 5 none 0 0)::(Dx a_words words c_words)) go cm fun lg gs=>?_))))
 refine wf ?_
 have ir:Ak ⟨w,h,AE⟩ h [(g,0)] [⟨GQ ai y ak ad ag,some 25⟩] [⟨none,0,0,3,1,[],0⟩] fg:=cm.nilRow 3 1
 have fu:Af h ([]:List Int) []:=Af.nil
 have iu:Ak ⟨w,h,AE⟩ h [(g,0)] [⟨GQ ai y ak ad ag,some 25⟩] [⟨none,0,0,3,1,[],0⟩,⟨none,0,0,3,1,[],0⟩] fg:=ir.nilRow 3 1
 have fv:Af h ([]:List Int) []:=Af.nil
 obtain⟨az,dz,H⟩:=An H
 refine As (fun a' w'=>∃ (bd:Option Addr)(bf:Nat)(cd:List Value)(ct:Option Addr)(cv:Nat)(cr:List Value)(dv:Array Value)(b6:Ac),a' = ⟨dv,[]⟩∧Kn 115 [(g,0)] [tS 5 bd az.1.length bf] dv∧Ak ⟨w,h,AE⟩ b6 [(g,0)] [⟨GQ ai y ak ad ag,some 25⟩] [⟨bd,az.1.length,bf,3,1,cd,0⟩,⟨ct,az.2.length,cv,3,1,cr,0⟩] w'∧Ac.le h b6∧Af b6 az.1 cd∧Af b6 az.2 cr) ?_ ?_
 ·
  refine wp_block ?_
  refine At (fun jv a' w'=>∃ (x_v10:List Int)(x_v11:List Int)(x_v12:Int)(ac:Option Addr)(af:Nat)(bl:List Value)(x:Option Addr)(z:Nat)(bm:List Value)(dw:Array Value)(b7:Ac),a' = ⟨dw,[]⟩∧Kn 115 [(g,0)] (CM x_v12 x x_v11 z ac x_v10 af a_words words c_words) dw∧Ak ⟨w,h,AE⟩ b7 [(g,0)] [⟨GQ ai y ak ad ag,some 25⟩] [⟨ac,x_v10.length,af,3,1,bl,0⟩,⟨x,x_v11.length,z,3,1,bm,0⟩] w'∧Ac.le h b7∧Af b7 x_v10 bl∧Af b7 x_v11 bm∧Dm jv y words x_v10 x_v11 x_v12=some az) n ?_ ?_
  ·
   exact XY ([]:List Int) ⟨([]:List Int),0,none,0,[],none,0,[],_,_,rfl,gs.kp,iu,Ac.le_refl _,fu,fv,dz⟩
  ·
   rintro bx _ mh ⟨x_v10,x_v11,x_v12,ac,af,bl,x,z,bm,dw,b7,rfl,h0,co,cc,bp,bq,al⟩
   clear dz
   obtain _ | bx:=bx
   ·
    rw [Dm] at al; cases al
   rw [Dm] at al
   replace bc:=bc.mono cc
   replace a7:=a7.mono cc
   replace hr_words:=hr_words.mono cc
   refine XT (XT (Aa (Rk 0 5 ((tB 16 (decide (x_v12<((y.buses.length:Nat):Int))))::(CM x_v12 x x_v11 z ac x_v10 af a_words words c_words)) h0 co fun ly c8=>?_)))
   refine wf (wC (decide (x_v12<((y.buses.length:Nat):Int))) c8 (fun c1=>?_) (fun c1=>?_))
   ·
    rw [c1,XW] at al
    refine wp_skip (XT (wp_block (XT (Aa (Rk 0 3 ((tI 21 x_v12)::(tS 20 ad y.buses.length ag)::(CM x_v12 x x_v11 z ac x_v10 af a_words words c_words)) c8 co fun lz h1=>?_)))))
    obtain⟨x22,ex22,al⟩:=An al
    obtain⟨i4,i5,jt⟩:=Ah ex22
    obtain⟨p,q,kr,fq,ji,f9⟩:=a7.get (by decide) jt
    obtain⟨_,_,rfl,rfl,⟨_,_,rfl,rfl,rfl⟩⟩:=ji
    have eh:=co.addPlc (b:=p) (o:=q+(x_v12:Int).toNat*3) (cs:=(Gx x22)) (fun j c hj=>f9 j _ (Ai hj)) rfl (by kernel_rfl) (by kernel_rfl)
    refine A7 3 (x_v12) rfl rfl (rfl) rfl (by decide) h1 (by rfl) (by rfl) (by rfl) fq (by rfl) i4 i5 (by kernel_rfl) fun j7 (h2:Kn 115 [(g,0),(p,q+(x_v12:Int).toNat*3)] ((tP 22 1 0)::(tI 21 x_v12)::(tS 20 ad y.buses.length ag)::(CM x_v12 x x_v11 z ac x_v10 af a_words words c_words)) j7)=>?_
    refine Rk 4 1 ((tA 23 (Gx x22))::(CM x_v12 x x_v11 z ac x_v10 af a_words words c_words)) h2 eh fun l0 h3=>?_
    refine wl fun K hK=>?_
    refine wa [.int .i64 0,.int .i64 0,.int .i64 0] h3 eh fun s ff mi (h4:Kn 115 (DA g p q x_v12 s) ((tP 8 2 0)::(tA 23 (Gx x22))::(CM x_v12 x x_v11 z ac x_v10 af a_words words c_words)) ff) i3=>hK _ _ ?_
    refine wl fun K hK=>?_
    refine DC 2 0 (.agg (Gx x22)) (Gx x22) h4 i3 fun mj h5 dj=>hK _ _ ?_
    have h6:Kn 115 (DA g p q x_v12 s) ((tP 8 2 0)::(CM x_v12 x x_v11 z ac x_v10 af a_words words c_words)) ff:=h5.kp
    refine wf (XT (Aa (Rk 0 2 ((tI 25 x_v12)::(tS 24 a_words words.length c_words)::(tP 8 2 0)::(CM x_v12 x x_v11 z ac x_v10 af a_words words c_words)) h6 dj fun l1 h7=>?_)))
    obtain⟨x26,ex26,al⟩:=An al
    refine wl fun K hK=>?_
    refine wc [.c (.slice a_words words.length c_words),.c (.int .i64 x_v12)] h7 dj (FK bx dj.has words hr_words x_v12 ex26) fun l7 fp mk fo bs av=>?_
    replace bc:=bc.mono bs
    replace a7:=a7.mono bs
    replace hr_words:=hr_words.mono bs
    replace bp:=bp.mono bs
    replace bq:=bq.mono bs
    obtain rfl:=fo
    refine⟨.one (.c (.int .i64 x26)),rfl,fun j9 (h8:Kn 115 (DA g p q x_v12 s) ((tI 26 x26)::(tI 25 x_v12)::(tS 24 a_words words.length c_words)::(tP 8 2 0)::(CM x_v12 x x_v11 z ac x_v10 af a_words words c_words)) j9)=>hK _ _ ?_⟩
    refine Rk 3 1 ((tI 9 x26)::(tP 8 2 0)::(CM x_v12 x x_v11 z ac x_v10 af a_words words c_words)) h8 av fun l2 h9=>?_
    refine wf (XT (Av (by kernel_rfl) ?_))
    replace av:=av.drew
    refine A3 [] (DA g p q x_v12 s) (LS ai y ak ad ag x22) ?_
    refine Dr [0,1,2,3,4,5,6,7,8,9] (dn 9) ((tI 36 (IntKind.i64.wrap ((IntKind.i64.wrap (x22.hi-x22.lo))+1)))::(tI 30 (IntKind.i64.wrap (Int.tdiv x26 3)))::(tI 28 x22.lo)::(tI 9 x26)::(tP 8 2 0)::(CM x_v12 x x_v11 z ac x_v10 af a_words words c_words)) h9 av fun l3 ia=>?_
    obtain⟨x37,ex37,al⟩:=An al
    refine QJ 10 (fun _ _ _ _ _ h=>h) ia rfl rfl (rfl) rfl (by decide) (by kernel_rfl) (by kernel_rfl) av.plOk (by rfl) (by rfl) (KD ex37) fun ka (ib:Kn 115 (DA g p q x_v12 s) ((tI 37 (Int.tmod (IntKind.i64.wrap (Int.tdiv x26 3)) (IntKind.i64.wrap ((IntKind.i64.wrap (x22.hi-x22.lo))+1))))::(tI 36 (IntKind.i64.wrap ((IntKind.i64.wrap (x22.hi-x22.lo))+1)))::(tI 30 (IntKind.i64.wrap (Int.tdiv x26 3)))::(tI 28 x22.lo)::(tI 9 x26)::(tP 8 2 0)::(CM x_v12 x x_v11 z ac x_v10 af a_words words c_words)) ka)=>?_
    refine Dr [11,12] (dn 12) ((tI 10 (IntKind.i64.wrap (x22.lo+(Int.tmod (IntKind.i64.wrap (Int.tdiv x26 3)) (IntKind.i64.wrap ((IntKind.i64.wrap (x22.hi-x22.lo))+1))))))::(tI 9 x26)::(tP 8 2 0)::(CM x_v12 x x_v11 z ac x_v10 af a_words words c_words)) ib av fun l4 ic=>?_
    refine A8 (by kernel_rfl) (XT (XT (Aa (Rk 0 2 ((tI 40 (Int.tmod x26 3))::(tI 10 (IntKind.i64.wrap (x22.lo+(Int.tmod (IntKind.i64.wrap (Int.tdiv x26 3)) (IntKind.i64.wrap ((IntKind.i64.wrap (x22.hi-x22.lo))+1))))))::(tP 8 2 0)::(CM x_v12 x x_v11 z ac x_v10 af a_words words c_words)) ic av fun l5 ie=>?_))))
    refine wf (wp_block (XT (Aa (Rk 0 2 ((tB 41 ((Int.tmod x26 3) == 0))::(tI 40 (Int.tmod x26 3))::(tI 10 (IntKind.i64.wrap (x22.lo+(Int.tmod (IntKind.i64.wrap (Int.tdiv x26 3)) (IntKind.i64.wrap ((IntKind.i64.wrap (x22.hi-x22.lo))+1))))))::(tP 8 2 0)::(CM x_v12 x x_v11 z ac x_v10 af a_words words c_words)) ie av fun k6 c5=>?_))))
    refine wf ?_
    obtain⟨am,bg,al⟩:=An al
    refine As (fun a' w'=>∃ (dp:Array Value)(bn:Ac),a' = ⟨dp,[]⟩∧Kn 115 (DA g p q x_v12 s) ((tI 10 am)::(CM x_v12 x x_v11 z ac x_v10 af a_words words c_words)) dp∧Ak ⟨w,h,AE⟩ bn (DA g p q x_v12 s) (LS ai y ak ad ag x22) [⟨ac,x_v10.length,af,3,1,bl,0⟩,⟨x,x_v11.length,z,3,1,bm,0⟩] w'∧Ac.le fp bn) ?_ ?_
    ·
     refine wC (((Int.tmod x26 3) == 0)) c5 (fun cy=>?_) (fun cy=>?_)
     ·
      rw [cy,XW] at bg
      refine Aa (Rk 0 3 ((tI 10 x22.lo)::(CM x_v12 x x_v11 z ac x_v10 af a_words words c_words)) c5 av fun k7 gd=>?_)
      refine wf ?_
      obtain rfl:=XZ bg
      exact XY _ ⟨_,rfl,gd.kp,av,Ac.le_refl _⟩
     ·
      rw [cy,XV] at bg
      refine XT (Aa (Rk 0 2 ((tB 45 ((Int.tmod x26 3) == 1))::(tI 10 (IntKind.i64.wrap (x22.lo+(Int.tmod (IntKind.i64.wrap (Int.tdiv x26 3)) (IntKind.i64.wrap ((IntKind.i64.wrap (x22.hi-x22.lo))+1))))))::(tP 8 2 0)::(CM x_v12 x x_v11 z ac x_v10 af a_words words c_words)) c5 av fun k8 c6=>?_))
      refine wf (wC (((Int.tmod x26 3) == 1)) c6 (fun cz=>?_) (fun cz=>?_))
      ·
       rw [cz,XW] at bg
       refine Aa (Rk 0 3 ((tI 10 x22.hi)::(CM x_v12 x x_v11 z ac x_v10 af a_words words c_words)) c6 av fun k9 gf=>?_)
       refine wf ?_
       obtain rfl:=XZ bg
       exact XY _ ⟨_,rfl,gf.kp,av,Ac.le_refl _⟩
      ·
       rw [cz,XV] at bg
       refine wp_skip ?_
       obtain rfl:=XZ bg
       exact XY _ ⟨_,rfl,c6.kp,av,Ac.le_refl _⟩
    ·
     rintro _ l8 ⟨dp,bn,rfl,gg,eb,br⟩
     replace hr_words:=hr_words.mono br
     replace bp:=bp.mono br
     refine XT (Aa (Rk 0 2 ((tI 50 x_v12)::(tS 49 ac x_v10.length af)::(tI 10 am)::(tI 7 x_v12)::(tS 6 x x_v11.length z)::(Dx a_words words c_words)) gg eb fun la gh=>?_))
     refine wl fun K hK=>?_
     refine wS 3 1 [.int .i64 x_v12] gh eb fun a2 jw l9 (gi:Kn 115 (DA g p q x_v12 s) ((tS 51 a2 1 1)::(tI 50 x_v12)::(tS 49 ac x_v10.length af)::(tI 10 am)::(tI 7 x_v12)::(tS 6 x x_v11.length z)::(Dx a_words words c_words)) jw) ec=>?_
     have bh:Af bn ([x_v12]:List Int) ([.int .i64 x_v12]:List Value):=⟨_,_,rfl,(Ad:rep bn (x_v12:Int) _),rfl⟩
     refine hK _ _ ?_
     obtain⟨x52,ex52,al⟩:=An al
     obtain⟨dk,ig⟩:=BH ex52
     refine wl fun K hK=>?_
     refine B1 0 8 1 _ (x52.length) _ ([.int .i64 x_v12]:List Value) gi ec rfl rfl (by decide) rfl (by rfl) (by kernel_rfl) (by rfl) (by rfl) (Af.len bh) (ec.rowCell (i:=2) rfl) bh.one (by rw [dk]; simp <;> omega) (by rw [dk]; exact ig) (by decide) fun a3 a5 fl jx ma ga (gk:Kn 115 (DA g p q x_v12 s) ((tS 52 a3 x52.length a5)::(tS 51 a2 1 1)::(tI 50 x_v12)::(tS 49 ac x_v10.length af)::(tI 10 am)::(tI 7 x_v12)::(tS 6 x x_v11.length z)::(Dx a_words words c_words)) jx) dd=>?_
     have c2:Af bn x52 (bl++([.int .i64 x_v12]:List Value)):=by rw [dk]; exact Af.append bp bh
     obtain rfl:fl=0:=Nat.le_zero.1 ga
     refine hK _ _ ?_
     refine Rk 4 7 ((tI 59 (IntKind.i64.wrap ((IntKind.i64.wrap (2*x_v12))+1)))::(tS 56 a_words words.length c_words)::(tI 55 (IntKind.i64.wrap (2*am)))::(tS 53 x x_v11.length z)::(tS 52 a3 x52.length a5)::(tI 7 x_v12)::(Dx a_words words c_words)) gk dd fun lc gl=>?_
     obtain⟨x60,ex60,al⟩:=An al
     refine wl fun K hK=>?_
     refine wc [.c (.slice a_words words.length c_words),.c (.int .i64 (IntKind.i64.wrap ((IntKind.i64.wrap (2*x_v12))+1)))] gl dd (FK bx dd.has words hr_words (IntKind.i64.wrap ((IntKind.i64.wrap (2*x_v12))+1)) ex60) fun l6 b4 mb fn bi ed=>?_
     replace bc:=bc.mono (XU br bi)
     replace a7:=a7.mono (XU br bi)
     replace hr_words:=hr_words.mono bi
     replace c2:=c2.mono bi
     replace bq:=bq.mono (XU br bi)
     replace bh:=bh.mono bi
     obtain rfl:=fn
     refine⟨.one (.c (.int .i64 x60)),rfl,fun jy (gm:Kn 115 (DA g p q x_v12 s) ((tI 60 x60)::(tI 59 (IntKind.i64.wrap ((IntKind.i64.wrap (2*x_v12))+1)))::(tS 56 a_words words.length c_words)::(tI 55 (IntKind.i64.wrap (2*am)))::(tS 53 x x_v11.length z)::(tS 52 a3 x52.length a5)::(tI 7 x_v12)::(Dx a_words words c_words)) jy)=>hK _ _ ?_⟩
     refine Rk 12 2 ((tI 62 (IntKind.i64.wrap ((IntKind.i64.wrap (2*am))+(Int.tmod x60 2))))::(tS 53 x x_v11.length z)::(tS 52 a3 x52.length a5)::(tI 7 x_v12)::(Dx a_words words c_words)) gm ed fun lf gn=>?_
     refine wl fun K hK=>?_
     refine wS 3 1 [.int .i64 (IntKind.i64.wrap ((IntKind.i64.wrap (2*am))+(Int.tmod x60 2)))] gn ed fun a4 jz mc (gp:Kn 115 (DA g p q x_v12 s) ((tS 63 a4 1 1)::(tI 62 (IntKind.i64.wrap ((IntKind.i64.wrap (2*am))+(Int.tmod x60 2))))::(tS 53 x x_v11.length z)::(tS 52 a3 x52.length a5)::(tI 7 x_v12)::(Dx a_words words c_words)) jz) ee=>?_
     have cb:Af b4 ([IntKind.i64.wrap ((IntKind.i64.wrap (2*am))+(Int.tmod x60 2))]:List Int) ([.int .i64 (IntKind.i64.wrap ((IntKind.i64.wrap (2*am))+(Int.tmod x60 2)))]:List Value):=⟨_,_,rfl,(Ad:rep b4 (IntKind.i64.wrap ((IntKind.i64.wrap (2*am))+(Int.tmod x60 2)):Int) _),rfl⟩
     refine hK _ _ ?_
     obtain⟨x64,ex64,al⟩:=An al
     obtain⟨dl,ih⟩:=BH ex64
     refine wl fun K hK=>?_
     refine B1 1 8 1 _ (x64.length) _ ([.int .i64 (IntKind.i64.wrap ((IntKind.i64.wrap (2*am))+(Int.tmod x60 2)))]:List Value) gp ee rfl rfl (by decide) rfl (by rfl) (by kernel_rfl) (by rfl) (by rfl) (Af.len cb) (ee.rowCell (i:=3) rfl) cb.one (by rw [dl]; simp <;> omega) (by rw [dl]; exact ih) (by decide) fun ce cf fm j0 md gb (gq:Kn 115 (DA g p q x_v12 s) ((tS 64 ce x64.length cf)::(tS 63 a4 1 1)::(tI 62 (IntKind.i64.wrap ((IntKind.i64.wrap (2*am))+(Int.tmod x60 2))))::(tS 53 x x_v11.length z)::(tS 52 a3 x52.length a5)::(tI 7 x_v12)::(Dx a_words words c_words)) j0) de=>?_
     have fr:Af b4 x64 (bm++([.int .i64 (IntKind.i64.wrap ((IntKind.i64.wrap (2*am))+(Int.tmod x60 2)))]:List Value)):=by rw [dl]; exact Af.append bq cb
     obtain rfl:fm=0:=Nat.le_zero.1 gb
     refine hK _ _ ?_
     refine Rk 16 2 ((tS 6 ce x64.length cf)::(tS 5 a3 x52.length a5)::(tI 7 x_v12)::(Dx a_words words c_words)) gq de fun lh gr=>?_
     refine wf (XT (Aa (Rk 0 2 ((tI 11 x_v12)::(tS 6 ce x64.length cf)::(tS 5 a3 x52.length a5)::(tI 7 x_v12)::(Dx a_words words c_words)) gr de fun li gu=>?_)))
     refine wf ?_
     obtain⟨ay,dy,al⟩:=An al
     refine As (fun a' w'=>∃ (bz:Option Addr)(b2:Nat)(cp:List Value)(b1:Option Addr)(b3:Nat)(cq:List Value)(dq:Array Value)(b5:Ac),a' = ⟨dq,[]⟩∧Kn 115 (DA g p q x_v12 s) ((tS 6 b1 ay.2.length b3)::(tS 5 bz ay.1.length b2)::(tI 7 x_v12)::(Dx a_words words c_words)) dq∧Ak ⟨w,h,AE⟩ b5 (DA g p q x_v12 s) (LS ai y ak ad ag x22) [⟨bz,ay.1.length,b2,3,1,cp,0⟩,⟨b1,ay.2.length,b3,3,1,cq,0⟩,⟨a2,1,1,3,1,([.int .i64 x_v12]:List Value),0⟩,⟨a4,1,1,3,1,([.int .i64 (IntKind.i64.wrap ((IntKind.i64.wrap (2*am))+(Int.tmod x60 2)))]:List Value),0⟩] w'∧Ac.le b4 b5∧Af b5 ay.1 cp∧Af b5 ay.2 cq) ?_ ?_
     ·
      refine wp_block ?_
      refine At (fun ju a' w'=>∃ (x_v20:List Int)(x_v21:List Int)(x_v22:Int)(l:Option Addr)(m:Nat)(u:List Value)(d:Option Addr)(f:Nat)(ab:List Value)(dr:Array Value)(bo:Ac),a' = ⟨dr,[]⟩∧Kn 115 (DA g p q x_v12 s) (HF x_v22 d x_v21 f l x_v20 m x_v12 a_words words c_words) dr∧Ak ⟨w,h,AE⟩ bo (DA g p q x_v12 s) (LS ai y ak ad ag x22) [⟨l,x_v20.length,m,3,1,u,0⟩,⟨d,x_v21.length,f,3,1,ab,0⟩,⟨a2,1,1,3,1,([.int .i64 x_v12]:List Value),0⟩,⟨a4,1,1,3,1,([.int .i64 (IntKind.i64.wrap ((IntKind.i64.wrap (2*am))+(Int.tmod x60 2)))]:List Value),0⟩] w'∧Ac.le b4 bo∧Af bo x_v20 u∧Af bo x_v21 ab∧CC ju  x_v20 x_v21 x_v22=some ay) bx ?_ ?_
      ·
       exact XY x52 ⟨x64,x_v12,a3,a5,bl++([.int .i64 x_v12]:List Value),ce,cf,bm++([.int .i64 (IntKind.i64.wrap ((IntKind.i64.wrap (2*am))+(Int.tmod x60 2)))]:List Value),_,_,rfl,gu.kp,de,Ac.le_refl _,c2,fr,dy⟩
      ·
       rintro dm _ me ⟨x_v20,x_v21,x_v22,l,m,u,d,f,ab,dr,bo,rfl,gv,a6,bj,ax,ar,aa⟩
       clear dy
       obtain _ | dm:=dm
       ·
        rw [CC] at aa; cases aa
       rw [CC] at aa
       replace bc:=bc.mono bj
       replace a7:=a7.mono bj
       replace hr_words:=hr_words.mono bj
       replace bh:=bh.mono bj
       replace cb:=cb.mono bj
       refine XT (XT ?_)
       obtain⟨fb,a9,aa⟩:=An aa
       refine As (fun a' w'=>∃ (ds:Array Value)(aq:Ac),a' = ⟨ds,[]⟩∧Kn 115 (DA g p q x_v12 s) [tI 11 x_v22,tS 6 d x_v21.length f,tS 5 l x_v20.length m,tI 7 x_v12,tP 2 0 0,tS 1 a_words words.length c_words,tB 79 fb] ds∧Ak ⟨w,h,AE⟩ aq (DA g p q x_v12 s) (LS ai y ak ad ag x22) [⟨l,x_v20.length,m,3,1,u,0⟩,⟨d,x_v21.length,f,3,1,ab,0⟩,⟨a2,1,1,3,1,([.int .i64 x_v12]:List Value),0⟩,⟨a4,1,1,3,1,([.int .i64 (IntKind.i64.wrap ((IntKind.i64.wrap (2*am))+(Int.tmod x60 2)))]:List Value),0⟩] w'∧Ac.le bo aq) ?_ ?_
       ·
        refine Av (by kernel_rfl) ?_
        replace a6:=a6.drew
        refine A3 [] (DA g p q x_v12 s) (LS ai y ak ad ag x22) ?_
        refine Dr [0,1,2] [2,1,0] ((tB 68 (decide (x_v22>0)))::(HF x_v22 d x_v21 f l x_v20 m x_v12 a_words words c_words)) gv a6 fun fc d8=>?_
        rcases Bool.eq_false_or_eq_true (decide (x_v22>0)) with ca | ca
        ·
         rw [ca,XW] at a9
         have gw:Kn 115 (DA g p q x_v12 s) ((tB 68 true)::(HF x_v22 d x_v21 f l x_v20 m x_v12 a_words words c_words)) fc:=(d8.setB 68 true (by rfl) ca).kp
         refine Dr [3,4] (dn 4) ((tI 70 x_v22)::(tS 69 d x_v21.length f)::(tB 68 true)::(HF x_v22 d x_v21 f l x_v20 m x_v12 a_words words c_words)) gw a6 fun lj d9=>?_
         obtain⟨x71,ex71,a9⟩:=An a9
         obtain⟨em,ex,jj⟩:=Ah ex71
         have ii:=Aw em ex
         obtain⟨kg,i8,fw⟩:=Ay (sz:=1) rfl ar jj
         obtain rfl:=i8
         obtain⟨cu,cg⟩:=A6 a6 (i:=1) rfl (b0:=0+(x_v22:Int).toNat*1) (Nat.lt_of_lt_of_le (Nat.lt_add_of_pos_right (by decide)) (Am (sz:=1) rfl ar ii))
         have bt:=a6.addPlc (b:=cu) (o:=0+(x_v22:Int).toNat*1) (cs:=[]) (fun j c hj=>by simp at hj) rfl (by kernel_rfl) (by kernel_rfl)
         have c3:∀ (e:AA) k c,([.int .i64 x71]:List SC)[k]? = some c→(ab)[0+(x_v22:Int).toNat*1+k]? = some (c.den e):=fun e k c hk=>fw k _ (Ai hk)
         refine A4 5 (x_v22) [.int .i64 x71] (fun _ _ _ _ _ h=>h) rfl rfl (Aj d9 (by kernel_rfl)) rfl (by decide) (by kernel_rfl) (by kernel_rfl) d9 a6.plOk (by rfl) (by rfl) (by rfl) cg (by rfl) em ex (by kernel_rfl) fun j1 (gx:Kn 115 [(g,0),(p,q+(x_v12:Int).toNat*3),(s,0),(cu,0+(x_v22:Int).toNat*1)] ((tP 71 3 0)::(tI 70 x_v22)::(tS 69 d x_v21.length f)::(tB 68 true)::(HF x_v22 d x_v21 f l x_v20 m x_v12 a_words words c_words)) j1)=>?_
         refine AQ [6,7,8,9] [9,8,7,6,5,4,3,2,1,0] [75,73,72,68,11,6,5,7,2,1] ((tI 75 (IntKind.i64.wrap (x_v22-1)))::(tS 73 d x_v21.length f)::(tI 72 x71)::(tB 68 true)::(HF x_v22 d x_v21 f l x_v20 m x_v12 a_words words c_words)) (fun _ _ _ _ _ h=>h) gx (Ap.peek bt.plOk bt 1 3 rfl rfl cg [.int .i64 x71] (c3 _)) (by kernel_rfl) (by rfl) (by kernel_rfl) fun lk ea=>?_
         obtain⟨x76,ex76,a9⟩:=An a9
         obtain⟨en,ey,jk⟩:=Ah ex76
         have ij:=Aw en ey
         obtain⟨kh,i9,fx⟩:=Ay (sz:=1) rfl ar jk
         obtain rfl:=i9
         obtain⟨dx,d1⟩:=A6 bt (i:=1) rfl (b0:=0+(IntKind.i64.wrap (x_v22-1):Int).toNat*1) (Nat.lt_of_lt_of_le (Nat.lt_add_of_pos_right (by decide)) (Am (sz:=1) rfl ar ij))
         have cn:=bt.addPlc (b:=dx) (o:=0+(IntKind.i64.wrap (x_v22-1):Int).toNat*1) (cs:=[]) (fun j c hj=>by simp at hj) rfl (by kernel_rfl) (by kernel_rfl)
         have fy:∀ (e:AA) k c,([.int .i64 x76]:List SC)[k]? = some c→(ab)[0+(IntKind.i64.wrap (x_v22-1):Int).toNat*1+k]? = some (c.den e):=fun e k c hk=>fx k _ (Ai hk)
         refine A4 10 (IntKind.i64.wrap (x_v22-1)) [.int .i64 x76] (fun _ _ _ _ _ h=>h) rfl rfl (Aj ea (by kernel_rfl)) rfl (by decide) (by kernel_rfl) (by kernel_rfl) ea (Ap.peek bt.plOk bt 1 3 rfl rfl cg [.int .i64 x71] (c3 _)) (by rfl) (by rfl) (by rfl) d1 (by rfl) en ey (by kernel_rfl) fun j2 (gy:Kn 115 [(g,0),(p,q+(x_v12:Int).toNat*3),(s,0),(cu,0+(x_v22:Int).toNat*1),(dx,0+(IntKind.i64.wrap (x_v22-1):Int).toNat*1)] ((tP 76 4 0)::(tI 75 (IntKind.i64.wrap (x_v22-1)))::(tS 73 d x_v21.length f)::(tI 72 x71)::(tB 68 true)::(HF x_v22 d x_v21 f l x_v20 m x_v12 a_words words c_words)) j2)=>?_
         refine AQ [11,12,13] [13,12,11,10,9,8,7,6,5,4,3,2,1,0] [79,11,6,5,7,2,1] ((tB 79 (decide (x71<x76)))::(HF x_v22 d x_v21 f l x_v20 m x_v12 a_words words c_words)) (fun _ _ _ _ _ h=>h) gy (Ap.peek (Ap.peek cn.plOk cn 1 3 rfl rfl cg [.int .i64 x71] (c3 _)) cn 1 4 rfl rfl d1 [.int .i64 x76] (fy _)) (by kernel_rfl) (by rfl) (by kernel_rfl) fun ll gz=>?_
         refine A8 (by kernel_rfl) ?_
         obtain rfl:=XZ a9
         exact XY _ ⟨_,rfl,(gz.keep [11,6,5,7,2,1,79] (by rfl)).cut 3 (by kernel_rfl),cn.cutPl 3 (by kernel_rfl),Ac.le_refl _⟩
        ·
         rw [ca,XV] at a9
         have g0:Kn 115 (DA g p q x_v12 s) ((tB 68 false)::(HF x_v22 d x_v21 f l x_v20 m x_v12 a_words words c_words)) fc:=(d8.setB 68 false (by rfl) ca).kp
         refine Dr [3,4,5,6,7,8,9,10,11,12,13] (dn 13) ((tB 79 false)::(HF x_v22 d x_v21 f l x_v20 m x_v12 a_words words c_words)) g0 a6 fun lm g1=>?_
         refine A8 (by kernel_rfl) ?_
         obtain rfl:=XZ a9
         exact XY _ ⟨_,rfl,g1.kp,a6,Ac.le_refl _⟩
       ·
        rintro _ mf ⟨ds,aq,rfl,c7,bk,cl⟩
        replace ax:=ax.mono cl
        replace ar:=ar.mono cl
        refine wC (fb) c7 (fun c0=>?_) (fun c0=>?_)
        ·
         rw [Bb c0] at aa
         refine wp_skip (XT (wp_block (XT (Av (by kernel_rfl) ?_))))
         replace bk:=bk.drew
         refine A3 [] (DA g p q x_v12 s) (LS ai y ak ad ag x22) ?_
         refine Dr [0,1,2,3,4,5,6,7] (dn 7) ((tI 89 (IntKind.i64.wrap (x_v22-1)))::(tS 87 l x_v20.length m)::(JL x_v22 l x_v20 m d x_v21 f x_v12 a_words words c_words)) c7 bk fun ln g2=>?_
         obtain⟨x90,ex90,aa⟩:=An aa
         obtain⟨eo,ez,jl⟩:=Ah ex90
         have ik:=Aw eo ez
         obtain⟨ki,ja,fz⟩:=Ay (sz:=1) rfl ax jl
         obtain rfl:=ja
         obtain⟨ae,b8⟩:=A6 bk (i:=0) rfl (b0:=0+(IntKind.i64.wrap (x_v22-1):Int).toNat*1) (Nat.lt_of_lt_of_le (Nat.lt_add_of_pos_right (by decide)) (Am (sz:=1) rfl ax ik))
         have bu:=bk.addPlc (b:=ae) (o:=0+(IntKind.i64.wrap (x_v22-1):Int).toNat*1) (cs:=[]) (fun j c hj=>by simp at hj) rfl (by kernel_rfl) (by kernel_rfl)
         have ch:∀ (e:AA) k c,([.int .i64 x90]:List SC)[k]? = some c→(u)[0+(IntKind.i64.wrap (x_v22-1):Int).toNat*1+k]? = some (c.den e):=fun e k c hk=>fz k _ (Ai hk)
         refine A4 8 (IntKind.i64.wrap (x_v22-1)) [.int .i64 x90] (fun _ _ _ _ _ h=>h) rfl rfl (rfl) rfl (by decide) (by kernel_rfl) (by kernel_rfl) g2 bk.plOk (by rfl) (by rfl) (by rfl) b8 (by rfl) eo ez (by kernel_rfl) fun j3 (g3:Kn 115 [(g,0),(p,q+(x_v12:Int).toNat*3),(s,0),(ae,0+(IntKind.i64.wrap (x_v22-1):Int).toNat*1)] ((tP 90 3 0)::(tI 89 (IntKind.i64.wrap (x_v22-1)))::(tS 87 l x_v20.length m)::(JL x_v22 l x_v20 m d x_v21 f x_v12 a_words words c_words)) j3)=>?_
         refine AQ [9,10,11] [11,10,9,8,7,6,5,4,3,2,1,0] [93,92,91,86,84,83,82,11,6,5,7,2,1] ((tI 93 x_v22)::(tS 92 l x_v20.length m)::(tI 91 x90)::(JL x_v22 l x_v20 m d x_v21 f x_v12 a_words words c_words)) (fun _ _ _ _ _ h=>h) g3 (Ap.peek bu.plOk bu 0 3 rfl rfl b8 [.int .i64 x90] (ch _)) (by kernel_rfl) (by rfl) (by kernel_rfl) fun lp g4=>?_
         obtain⟨x94,ex94,aa⟩:=An aa
         obtain⟨ep,e0,jm⟩:=Ah ex94
         have il:=Aw ep e0
         obtain⟨kj,jb,f0⟩:=Ay (sz:=1) rfl ax jm
         obtain rfl:=jb
         obtain⟨ah,cw⟩:=A6 bu (i:=0) rfl (b0:=0+(x_v22:Int).toNat*1) (Nat.lt_of_lt_of_le (Nat.lt_add_of_pos_right (by decide)) (Am (sz:=1) rfl ax il))
         have ba:=bu.addPlc (b:=ah) (o:=0+(x_v22:Int).toNat*1) (cs:=[]) (fun j c hj=>by simp at hj) rfl (by kernel_rfl) (by kernel_rfl)
         have d6:∀ (e:AA) k c,([.int .i64 x94]:List SC)[k]? = some c→(u)[0+(x_v22:Int).toNat*1+k]? = some (c.den e):=fun e k c hk=>f0 k _ (Ai hk)
         refine A4 12 (x_v22) [.int .i64 x94] (fun _ _ _ _ _ h=>h) rfl rfl (rfl) rfl (by decide) (by kernel_rfl) (by kernel_rfl) g4 (Ap.peek bu.plOk bu 0 3 rfl rfl b8 [.int .i64 x90] (ch _)) (by rfl) (by rfl) (by rfl) cw (by rfl) ep e0 (by kernel_rfl) fun j4 (g5:Kn 115 [(g,0),(p,q+(x_v12:Int).toNat*3),(s,0),(ae,0+(IntKind.i64.wrap (x_v22-1):Int).toNat*1),(ah,0+(x_v22:Int).toNat*1)] ((tP 94 4 0)::(tI 93 x_v22)::(tS 92 l x_v20.length m)::(tI 91 x90)::(JL x_v22 l x_v20 m d x_v21 f x_v12 a_words words c_words)) j4)=>?_
         refine AQ [13] [13,12,11,10,9,8,7,6,5,4,3,2,1,0] [95,91,86,84,83,82,11,6,5,7,2,1] ((tI 95 x94)::(tI 91 x90)::(JL x_v22 l x_v20 m d x_v21 f x_v12 a_words words c_words)) (fun _ _ _ _ _ h=>h) g5 (Ap.peek (Ap.peek ba.plOk ba 0 3 rfl rfl b8 [.int .i64 x90] (ch _)) ba 0 4 rfl rfl cw [.int .i64 x94] (d6 _)) (by kernel_rfl) (by rfl) (by kernel_rfl) fun lq g6=>?_
         obtain⟨x96,ex96,aa⟩:=An aa
         obtain⟨er,e1,jn⟩:=Ah ex96
         have c9:=Aw er e1
         obtain⟨kk,jc,f1⟩:=Ay (sz:=1) rfl ax jn
         obtain rfl:=jc
         obtain⟨aj,d2⟩:=A6 ba (i:=0) rfl (b0:=0+(x_v22:Int).toNat*1) (Nat.lt_of_lt_of_le (Nat.lt_add_of_pos_right (by decide)) (Am (sz:=1) rfl ax c9))
         have iv:=ba.addPlc (b:=aj) (o:=0+(x_v22:Int).toNat*1) (cs:=[]) (fun j c hj=>by simp at hj) rfl (by kernel_rfl) (by kernel_rfl)
         have ks:∀ (e:AA) k c,([.int .i64 x96]:List SC)[k]? = some c→(u)[0+(x_v22:Int).toNat*1+k]? = some (c.den e):=fun e k c hk=>f1 k _ (Ai hk)
         refine A4 14 (x_v22) [.int .i64 x96] (fun _ _ _ _ _ h=>h) rfl rfl (rfl) rfl (by decide) (by kernel_rfl) (by kernel_rfl) g6 (Ap.peek (Ap.peek ba.plOk ba 0 3 rfl rfl b8 [.int .i64 x90] (ch _)) ba 0 4 rfl rfl cw [.int .i64 x94] (d6 _)) (by rfl) (by rfl) (by rfl) d2 (by rfl) er e1 (by kernel_rfl) fun fd (g7:Kn 115 [(g,0),(p,q+(x_v12:Int).toNat*3),(s,0),(ae,0+(IntKind.i64.wrap (x_v22-1):Int).toNat*1),(ah,0+(x_v22:Int).toNat*1),(aj,0+(x_v22:Int).toNat*1)] ((tP 96 5 0)::(tI 95 x94)::(tI 91 x90)::(JL x_v22 l x_v20 m d x_v21 f x_v12 a_words words c_words)) fd)=>?_
         obtain⟨a0,fh,aa⟩:=An aa
         obtain⟨ky,k2,e7⟩:=BA fh
         refine Dp 15 rfl (by kernel_rfl) (by decide) (rfl) (by kernel_rfl) fun K hK=>?_
         refine AR 0 5 0 (0+(x_v22:Int).toNat*1) (.c (.int .i64 x90)) g7 iv rfl rfl (by rfl) (by rfl) rfl rfl d2 rfl (by kernel_rfl) (Am (sz:=1) rfl ax c9) fun kb g8 iw=>?_
         have ci:Af aq a0 (u.take (0+(x_v22:Int).toNat*1+0)++([.int .i64 x90]:List Value)++u.drop (0+(x_v22:Int).toNat*1+0+1)):=by rw [e7]; exact BR (sz:=1) rfl ax c9 (Ad:rep aq (x90:Int) _)
         have ei:x_v20.length=a0.length:=by rw [e7]; simp
         have g9:Kn 115 [(g,0),(p,q+(x_v12:Int).toNat*3),(s,0),(ae,0+(IntKind.i64.wrap (x_v22-1):Int).toNat*1),(ah,0+(x_v22:Int).toNat*1),(aj,0+(x_v22:Int).toNat*1)] [(96,.one (.c (.ptr 5 0))),(95,.one (.c (.int .i64 x94))),(91,.one (.c (.int .i64 x90))),(86,.one (.c (.int .i64 (IntKind.i64.wrap (x_v22-1))))),(84,.one (.c (.slice l a0.length m))),(83,.one (.c (.int .i64 x_v22))),(82,.one (.c (.slice l a0.length m))),(11,.one (.c (.int .i64 x_v22))),(6,.one (.c (.slice d x_v21.length f))),(5,.one (.c (.slice l a0.length m))),(7,.one (.c (.int .i64 x_v12))),(2,.one (.c (.ptr 0 0))),(1,.one (.c (.slice a_words words.length c_words)))] fd:=by rw [← ei]; exact g8
         have df:Ak ⟨w,h,AE⟩ aq [(g,0),(p,q+(x_v12:Int).toNat*3),(s,0),(ae,0+(IntKind.i64.wrap (x_v22-1):Int).toNat*1),(ah,0+(x_v22:Int).toNat*1),(aj,0+(x_v22:Int).toNat*1)] [⟨[.slice ai y.room.length ak,.slice ad y.buses.length ag,.int .i64 y.broken],some 25⟩,⟨[.int .i64 x22.lo,.int .i64 x22.hi,.int .i64 x22.turn],none⟩,⟨[.int .i64 x22.lo,.int .i64 x22.hi,.int .i64 x22.turn],some 49⟩,⟨[],none⟩,⟨[],none⟩,⟨[],none⟩] [⟨l,a0.length,m,3,1,u.take (0+(x_v22:Int).toNat*1+0)++([.int .i64 x90]:List Value)++u.drop (0+(x_v22:Int).toNat*1+0+1),0⟩,⟨d,x_v21.length,f,3,1,ab,0⟩,⟨a2,1,1,3,1,([.int .i64 x_v12]:List Value),0⟩,⟨a4,1,1,3,1,([.int .i64 (IntKind.i64.wrap ((IntKind.i64.wrap (2*am))+(Int.tmod x60 2)))]:List Value),0⟩] kb:=by rw [← ei]; exact iw
         refine hK _ _ ?_
         refine A3 [] [(g,0),(p,q+(x_v12:Int).toNat*3),(s,0),(ae,0+(IntKind.i64.wrap (x_v22-1):Int).toNat*1),(ah,0+(x_v22:Int).toNat*1),(aj,0+(x_v22:Int).toNat*1)] [⟨GQ ai y ak ad ag,some 25⟩,⟨Gx x22,none⟩,⟨Gx x22,some 49⟩,⟨[],none⟩,⟨[],none⟩,⟨[],none⟩] ?_
         obtain⟨x97,ex97,aa⟩:=An aa
         obtain⟨es,e2,jo⟩:=Ah ex97
         have da:=Aw es e2
         obtain⟨kl,jd,f2⟩:=Ay (sz:=1) rfl ci jo
         obtain rfl:=jd
         obtain⟨ao,d3⟩:=A6 df (i:=0) rfl (b0:=0+(IntKind.i64.wrap (x_v22-1):Int).toNat*1) (Nat.lt_of_lt_of_le (Nat.lt_add_of_pos_right (by decide)) (Am (sz:=1) rfl ci da))
         have ix:=df.addPlc (b:=ao) (o:=0+(IntKind.i64.wrap (x_v22-1):Int).toNat*1) (cs:=[]) (fun j c hj=>by simp at hj) rfl (by kernel_rfl) (by kernel_rfl)
         have kt:∀ (e:AA) k c,([.int .i64 x97]:List SC)[k]? = some c→((u.take (0+(x_v22:Int).toNat*1+0)++([.int .i64 x90]:List Value)++u.drop (0+(x_v22:Int).toNat*1+0+1)))[0+(IntKind.i64.wrap (x_v22-1):Int).toNat*1+k]? = some (c.den e):=fun e k c hk=>f2 k _ (Ai hk)
         refine A4 16 (IntKind.i64.wrap (x_v22-1)) [.int .i64 x97] (fun _ _ _ _ _ h=>h) rfl rfl (rfl) rfl (by decide) (by kernel_rfl) (by kernel_rfl) g9 df.plOk (by rfl) (by rfl) (by rfl) d3 (by rfl) es e2 (by kernel_rfl) fun dt (ha:Kn 115 (Qq g p q x_v12 s ae x_v22 ah aj ao) ((tP 97 6 0)::(tP 96 5 0)::(tI 95 x94)::(tI 91 x90)::(tI 86 (IntKind.i64.wrap (x_v22-1)))::(tS 84 l a0.length m)::(tI 83 x_v22)::(tS 82 l a0.length m)::(tI 11 x_v22)::(tS 6 d x_v21.length f)::(tS 5 l a0.length m)::(tI 7 x_v12)::(Dx a_words words c_words)) dt)=>?_
         obtain⟨an,fi,aa⟩:=An aa
         obtain⟨kz,k3,e8⟩:=BA fi
         refine Dp 17 rfl (by kernel_rfl) (by decide) (rfl) (by kernel_rfl) fun K hK=>?_
         refine AR 0 6 0 (0+(IntKind.i64.wrap (x_v22-1):Int).toNat*1) (.c (.int .i64 x94)) ha ix rfl rfl (by rfl) (by rfl) rfl rfl d3 rfl (by kernel_rfl) (Am (sz:=1) rfl ci da) fun kc hb iy=>?_
         have f3:Af aq an ((u.take (0+(x_v22:Int).toNat*1+0)++([.int .i64 x90]:List Value)++u.drop (0+(x_v22:Int).toNat*1+0+1)).take (0+(IntKind.i64.wrap (x_v22-1):Int).toNat*1+0)++([.int .i64 x94]:List Value)++(u.take (0+(x_v22:Int).toNat*1+0)++([.int .i64 x90]:List Value)++u.drop (0+(x_v22:Int).toNat*1+0+1)).drop (0+(IntKind.i64.wrap (x_v22-1):Int).toNat*1+0+1)):=by rw [e8]; exact BR (sz:=1) rfl ci da (Ad:rep aq (x94:Int) _)
         have ej:a0.length=an.length:=by rw [e8]; simp
         have hc:Kn 115 [(g,0),(p,q+(x_v12:Int).toNat*3),(s,0),(ae,0+(IntKind.i64.wrap (x_v22-1):Int).toNat*1),(ah,0+(x_v22:Int).toNat*1),(aj,0+(x_v22:Int).toNat*1),(ao,0+(IntKind.i64.wrap (x_v22-1):Int).toNat*1)] [(97,.one (.c (.ptr 6 0))),(96,.one (.c (.ptr 5 0))),(95,.one (.c (.int .i64 x94))),(91,.one (.c (.int .i64 x90))),(86,.one (.c (.int .i64 (IntKind.i64.wrap (x_v22-1))))),(84,.one (.c (.slice l an.length m))),(83,.one (.c (.int .i64 x_v22))),(82,.one (.c (.slice l an.length m))),(11,.one (.c (.int .i64 x_v22))),(6,.one (.c (.slice d x_v21.length f))),(5,.one (.c (.slice l an.length m))),(7,.one (.c (.int .i64 x_v12))),(2,.one (.c (.ptr 0 0))),(1,.one (.c (.slice a_words words.length c_words)))] dt:=by rw [← ej]; exact hb
         have bv:Ak ⟨w,h,AE⟩ aq [(g,0),(p,q+(x_v12:Int).toNat*3),(s,0),(ae,0+(IntKind.i64.wrap (x_v22-1):Int).toNat*1),(ah,0+(x_v22:Int).toNat*1),(aj,0+(x_v22:Int).toNat*1),(ao,0+(IntKind.i64.wrap (x_v22-1):Int).toNat*1)] [⟨[.slice ai y.room.length ak,.slice ad y.buses.length ag,.int .i64 y.broken],some 25⟩,⟨[.int .i64 x22.lo,.int .i64 x22.hi,.int .i64 x22.turn],none⟩,⟨[.int .i64 x22.lo,.int .i64 x22.hi,.int .i64 x22.turn],some 49⟩,⟨[],none⟩,⟨[],none⟩,⟨[],none⟩,⟨[],none⟩] [⟨l,an.length,m,3,1,(u.take (0+(x_v22:Int).toNat*1+0)++([.int .i64 x90]:List Value)++u.drop (0+(x_v22:Int).toNat*1+0+1)).take (0+(IntKind.i64.wrap (x_v22-1):Int).toNat*1+0)++([.int .i64 x94]:List Value)++(u.take (0+(x_v22:Int).toNat*1+0)++([.int .i64 x90]:List Value)++u.drop (0+(x_v22:Int).toNat*1+0+1)).drop (0+(IntKind.i64.wrap (x_v22-1):Int).toNat*1+0+1),0⟩,⟨d,x_v21.length,f,3,1,ab,0⟩,⟨a2,1,1,3,1,([.int .i64 x_v12]:List Value),0⟩,⟨a4,1,1,3,1,([.int .i64 (IntKind.i64.wrap ((IntKind.i64.wrap (2*am))+(Int.tmod x60 2)))]:List Value),0⟩] kc:=by rw [← ej]; exact iy
         refine hK _ _ ?_
         have hd:Kn 115 (Qq g p q x_v12 s ae x_v22 ah aj ao) ((tI 11 x_v22)::(tS 6 d x_v21.length f)::(tS 5 l an.length m)::(tI 7 x_v12)::(Dx a_words words c_words)) dt:=hc.kp
         refine HO (by kernel_rfl) (Av (by kernel_rfl) ?_)
         replace bv:=bv.drew
         refine A3 [] (Qq g p q x_v12 s ae x_v22 ah aj ao) [⟨GQ ai y ak ad ag,some 25⟩,⟨Gx x22,none⟩,⟨Gx x22,some 49⟩,⟨[],none⟩,⟨[],none⟩,⟨[],none⟩,⟨[],none⟩] ?_
         refine Dr [0,1,2,3,4,5,6,7] (dn 7) ((tI 105 (IntKind.i64.wrap (x_v22-1)))::(tS 103 d x_v21.length f)::(JK x_v22 d x_v21 f l an m x_v12 a_words words c_words)) hd bv fun lr he=>?_
         obtain⟨x106,ex106,aa⟩:=An aa
         obtain⟨et,e3,jp⟩:=Ah ex106
         have im:=Aw et e3
         obtain⟨km,je,f4⟩:=Ay (sz:=1) rfl ar jp
         obtain rfl:=je
         obtain⟨ap,b9⟩:=A6 bv (i:=1) rfl (b0:=0+(IntKind.i64.wrap (x_v22-1):Int).toNat*1) (Nat.lt_of_lt_of_le (Nat.lt_add_of_pos_right (by decide)) (Am (sz:=1) rfl ar im))
         have bw:=bv.addPlc (b:=ap) (o:=0+(IntKind.i64.wrap (x_v22-1):Int).toNat*1) (cs:=[]) (fun j c hj=>by simp at hj) rfl (by kernel_rfl) (by kernel_rfl)
         have cj:∀ (e:AA) k c,([.int .i64 x106]:List SC)[k]? = some c→(ab)[0+(IntKind.i64.wrap (x_v22-1):Int).toNat*1+k]? = some (c.den e):=fun e k c hk=>f4 k _ (Ai hk)
         refine A4 8 (IntKind.i64.wrap (x_v22-1)) [.int .i64 x106] (fun _ _ _ _ _ h=>h) rfl rfl (rfl) rfl (by decide) (by kernel_rfl) (by kernel_rfl) he bv.plOk (by rfl) (by rfl) (by rfl) b9 (by rfl) et e3 (by kernel_rfl) fun j5 (hf:Kn 115 [(g,0),(p,q+(x_v12:Int).toNat*3),(s,0),(ae,0+(IntKind.i64.wrap (x_v22-1):Int).toNat*1),(ah,0+(x_v22:Int).toNat*1),(aj,0+(x_v22:Int).toNat*1),(ao,0+(IntKind.i64.wrap (x_v22-1):Int).toNat*1),(ap,0+(IntKind.i64.wrap (x_v22-1):Int).toNat*1)] ((tP 106 7 0)::(tI 105 (IntKind.i64.wrap (x_v22-1)))::(tS 103 d x_v21.length f)::(JK x_v22 d x_v21 f l an m x_v12 a_words words c_words)) j5)=>?_
         refine AQ [9,10,11] [11,10,9,8,7,6,5,4,3,2,1,0] [109,108,107,102,100,99,98,11,6,5,7,2,1] ((tI 109 x_v22)::(tS 108 d x_v21.length f)::(tI 107 x106)::(JK x_v22 d x_v21 f l an m x_v12 a_words words c_words)) (fun _ _ _ _ _ h=>h) hf (Ap.peek bw.plOk bw 1 7 rfl rfl b9 [.int .i64 x106] (cj _)) (by kernel_rfl) (by rfl) (by kernel_rfl) fun ls hg=>?_
         obtain⟨x110,ex110,aa⟩:=An aa
         obtain⟨eu,e4,jq⟩:=Ah ex110
         have io:=Aw eu e4
         obtain⟨kn,jf,f5⟩:=Ay (sz:=1) rfl ar jq
         obtain rfl:=jf
         obtain⟨au,cx⟩:=A6 bw (i:=1) rfl (b0:=0+(x_v22:Int).toNat*1) (Nat.lt_of_lt_of_le (Nat.lt_add_of_pos_right (by decide)) (Am (sz:=1) rfl ar io))
         have bb:=bw.addPlc (b:=au) (o:=0+(x_v22:Int).toNat*1) (cs:=[]) (fun j c hj=>by simp at hj) rfl (by kernel_rfl) (by kernel_rfl)
         have d7:∀ (e:AA) k c,([.int .i64 x110]:List SC)[k]? = some c→(ab)[0+(x_v22:Int).toNat*1+k]? = some (c.den e):=fun e k c hk=>f5 k _ (Ai hk)
         refine A4 12 (x_v22) [.int .i64 x110] (fun _ _ _ _ _ h=>h) rfl rfl (rfl) rfl (by decide) (by kernel_rfl) (by kernel_rfl) hg (Ap.peek bw.plOk bw 1 7 rfl rfl b9 [.int .i64 x106] (cj _)) (by rfl) (by rfl) (by rfl) cx (by rfl) eu e4 (by kernel_rfl) fun j6 (hl:Kn 115 [(g,0),(p,q+(x_v12:Int).toNat*3),(s,0),(ae,0+(IntKind.i64.wrap (x_v22-1):Int).toNat*1),(ah,0+(x_v22:Int).toNat*1),(aj,0+(x_v22:Int).toNat*1),(ao,0+(IntKind.i64.wrap (x_v22-1):Int).toNat*1),(ap,0+(IntKind.i64.wrap (x_v22-1):Int).toNat*1),(au,0+(x_v22:Int).toNat*1)] ((tP 110 8 0)::(tI 109 x_v22)::(tS 108 d x_v21.length f)::(tI 107 x106)::(JK x_v22 d x_v21 f l an m x_v12 a_words words c_words)) j6)=>?_
         refine AQ [13] [13,12,11,10,9,8,7,6,5,4,3,2,1,0] [111,107,102,100,99,98,11,6,5,7,2,1] ((tI 111 x110)::(tI 107 x106)::(JK x_v22 d x_v21 f l an m x_v12 a_words words c_words)) (fun _ _ _ _ _ h=>h) hl (Ap.peek (Ap.peek bb.plOk bb 1 7 rfl rfl b9 [.int .i64 x106] (cj _)) bb 1 8 rfl rfl cx [.int .i64 x110] (d7 _)) (by kernel_rfl) (by rfl) (by kernel_rfl) fun lu hn=>?_
         obtain⟨x112,ex112,aa⟩:=An aa
         obtain⟨ev,e5,jr⟩:=Ah ex112
         have db:=Aw ev e5
         obtain⟨ko,jg,f6⟩:=Ay (sz:=1) rfl ar jr
         obtain rfl:=jg
         obtain⟨aw,d4⟩:=A6 bb (i:=1) rfl (b0:=0+(x_v22:Int).toNat*1) (Nat.lt_of_lt_of_le (Nat.lt_add_of_pos_right (by decide)) (Am (sz:=1) rfl ar db))
         have iz:=bb.addPlc (b:=aw) (o:=0+(x_v22:Int).toNat*1) (cs:=[]) (fun j c hj=>by simp at hj) rfl (by kernel_rfl) (by kernel_rfl)
         have ku:∀ (e:AA) k c,([.int .i64 x112]:List SC)[k]? = some c→(ab)[0+(x_v22:Int).toNat*1+k]? = some (c.den e):=fun e k c hk=>f6 k _ (Ai hk)
         refine A4 14 (x_v22) [.int .i64 x112] (fun _ _ _ _ _ h=>h) rfl rfl (rfl) rfl (by decide) (by kernel_rfl) (by kernel_rfl) hn (Ap.peek (Ap.peek bb.plOk bb 1 7 rfl rfl b9 [.int .i64 x106] (cj _)) bb 1 8 rfl rfl cx [.int .i64 x110] (d7 _)) (by rfl) (by rfl) (by rfl) d4 (by rfl) ev e5 (by kernel_rfl) fun fe (ho:Kn 115 (QY g p q x_v12 s ae x_v22 ah aj ao ap au aw) ((tP 112 9 0)::(tI 111 x110)::(tI 107 x106)::(JK x_v22 d x_v21 f l an m x_v12 a_words words c_words)) fe)=>?_
         obtain⟨a1,fj,aa⟩:=An aa
         obtain⟨k0,k4,e9⟩:=BA fj
         refine Dp 15 rfl (by kernel_rfl) (by decide) (rfl) (by kernel_rfl) fun K hK=>?_
         refine AR 1 9 0 (0+(x_v22:Int).toNat*1) (.c (.int .i64 x106)) ho iz rfl rfl (by rfl) (by rfl) rfl rfl d4 rfl (by kernel_rfl) (Am (sz:=1) rfl ar db) fun kd hp i0=>?_
         have ck:Af aq a1 (ab.take (0+(x_v22:Int).toNat*1+0)++([.int .i64 x106]:List Value)++ab.drop (0+(x_v22:Int).toNat*1+0+1)):=by rw [e9]; exact BR (sz:=1) rfl ar db (Ad:rep aq (x106:Int) _)
         have ek:x_v21.length=a1.length:=by rw [e9]; simp
         have hq:Kn 115 [(g,0),(p,q+(x_v12:Int).toNat*3),(s,0),(ae,0+(IntKind.i64.wrap (x_v22-1):Int).toNat*1),(ah,0+(x_v22:Int).toNat*1),(aj,0+(x_v22:Int).toNat*1),(ao,0+(IntKind.i64.wrap (x_v22-1):Int).toNat*1),(ap,0+(IntKind.i64.wrap (x_v22-1):Int).toNat*1),(au,0+(x_v22:Int).toNat*1),(aw,0+(x_v22:Int).toNat*1)] [(112,.one (.c (.ptr 9 0))),(111,.one (.c (.int .i64 x110))),(107,.one (.c (.int .i64 x106))),(102,.one (.c (.int .i64 (IntKind.i64.wrap (x_v22-1))))),(100,.one (.c (.slice d a1.length f))),(99,.one (.c (.int .i64 x_v22))),(98,.one (.c (.slice d a1.length f))),(11,.one (.c (.int .i64 x_v22))),(6,.one (.c (.slice d a1.length f))),(5,.one (.c (.slice l an.length m))),(7,.one (.c (.int .i64 x_v12))),(2,.one (.c (.ptr 0 0))),(1,.one (.c (.slice a_words words.length c_words)))] fe:=by rw [← ek]; exact hp
         have dg:Ak ⟨w,h,AE⟩ aq [(g,0),(p,q+(x_v12:Int).toNat*3),(s,0),(ae,0+(IntKind.i64.wrap (x_v22-1):Int).toNat*1),(ah,0+(x_v22:Int).toNat*1),(aj,0+(x_v22:Int).toNat*1),(ao,0+(IntKind.i64.wrap (x_v22-1):Int).toNat*1),(ap,0+(IntKind.i64.wrap (x_v22-1):Int).toNat*1),(au,0+(x_v22:Int).toNat*1),(aw,0+(x_v22:Int).toNat*1)] [⟨[.slice ai y.room.length ak,.slice ad y.buses.length ag,.int .i64 y.broken],some 25⟩,⟨[.int .i64 x22.lo,.int .i64 x22.hi,.int .i64 x22.turn],none⟩,⟨[.int .i64 x22.lo,.int .i64 x22.hi,.int .i64 x22.turn],some 49⟩,⟨[],none⟩,⟨[],none⟩,⟨[],none⟩,⟨[],none⟩,⟨[],none⟩,⟨[],none⟩,⟨[],none⟩] [⟨l,an.length,m,3,1,(u.take (0+(x_v22:Int).toNat*1+0)++([.int .i64 x90]:List Value)++u.drop (0+(x_v22:Int).toNat*1+0+1)).take (0+(IntKind.i64.wrap (x_v22-1):Int).toNat*1+0)++([.int .i64 x94]:List Value)++(u.take (0+(x_v22:Int).toNat*1+0)++([.int .i64 x90]:List Value)++u.drop (0+(x_v22:Int).toNat*1+0+1)).drop (0+(IntKind.i64.wrap (x_v22-1):Int).toNat*1+0+1),0⟩,⟨d,a1.length,f,3,1,ab.take (0+(x_v22:Int).toNat*1+0)++([.int .i64 x106]:List Value)++ab.drop (0+(x_v22:Int).toNat*1+0+1),0⟩,⟨a2,1,1,3,1,([.int .i64 x_v12]:List Value),0⟩,⟨a4,1,1,3,1,([.int .i64 (IntKind.i64.wrap ((IntKind.i64.wrap (2*am))+(Int.tmod x60 2)))]:List Value),0⟩] kd:=by rw [← ek]; exact i0
         refine hK _ _ ?_
         refine A3 [] (QY g p q x_v12 s ae x_v22 ah aj ao ap au aw) [⟨GQ ai y ak ad ag,some 25⟩,⟨Gx x22,none⟩,⟨Gx x22,some 49⟩,⟨[],none⟩,⟨[],none⟩,⟨[],none⟩,⟨[],none⟩,⟨[],none⟩,⟨[],none⟩,⟨[],none⟩] ?_
         obtain⟨x113,ex113,aa⟩:=An aa
         obtain⟨ew,e6,js⟩:=Ah ex113
         have dc:=Aw ew e6
         obtain⟨kq,jh,f7⟩:=Ay (sz:=1) rfl ck js
         obtain rfl:=jh
         obtain⟨be,d5⟩:=A6 dg (i:=1) rfl (b0:=0+(IntKind.i64.wrap (x_v22-1):Int).toNat*1) (Nat.lt_of_lt_of_le (Nat.lt_add_of_pos_right (by decide)) (Am (sz:=1) rfl ck dc))
         have i1:=dg.addPlc (b:=be) (o:=0+(IntKind.i64.wrap (x_v22-1):Int).toNat*1) (cs:=[]) (fun j c hj=>by simp at hj) rfl (by kernel_rfl) (by kernel_rfl)
         have kw:∀ (e:AA) k c,([.int .i64 x113]:List SC)[k]? = some c→((ab.take (0+(x_v22:Int).toNat*1+0)++([.int .i64 x106]:List Value)++ab.drop (0+(x_v22:Int).toNat*1+0+1)))[0+(IntKind.i64.wrap (x_v22-1):Int).toNat*1+k]? = some (c.den e):=fun e k c hk=>f7 k _ (Ai hk)
         refine A4 16 (IntKind.i64.wrap (x_v22-1)) [.int .i64 x113] (fun _ _ _ _ _ h=>h) rfl rfl (rfl) rfl (by decide) (by kernel_rfl) (by kernel_rfl) hq dg.plOk (by rfl) (by rfl) (by rfl) d5 (by rfl) ew e6 (by kernel_rfl) fun du (hr:Kn 115 (QZ g p q x_v12 s ae x_v22 ah aj ao ap au aw be) ((tP 113 10 0)::(tP 112 9 0)::(tI 111 x110)::(tI 107 x106)::(tI 102 (IntKind.i64.wrap (x_v22-1)))::(tS 100 d a1.length f)::(tI 99 x_v22)::(tS 98 d a1.length f)::(tI 11 x_v22)::(tS 6 d a1.length f)::(tS 5 l an.length m)::(tI 7 x_v12)::(Dx a_words words c_words)) du)=>?_
         obtain⟨a8,fk,aa⟩:=An aa
         obtain⟨k1,k5,fa⟩:=BA fk
         refine Dp 17 rfl (by kernel_rfl) (by decide) (rfl) (by kernel_rfl) fun K hK=>?_
         refine AR 1 10 0 (0+(IntKind.i64.wrap (x_v22-1):Int).toNat*1) (.c (.int .i64 x110)) hr i1 rfl rfl (by rfl) (by rfl) rfl rfl d5 rfl (by kernel_rfl) (Am (sz:=1) rfl ck dc) fun ke hs i2=>?_
         have f8:Af aq a8 ((ab.take (0+(x_v22:Int).toNat*1+0)++([.int .i64 x106]:List Value)++ab.drop (0+(x_v22:Int).toNat*1+0+1)).take (0+(IntKind.i64.wrap (x_v22-1):Int).toNat*1+0)++([.int .i64 x110]:List Value)++(ab.take (0+(x_v22:Int).toNat*1+0)++([.int .i64 x106]:List Value)++ab.drop (0+(x_v22:Int).toNat*1+0+1)).drop (0+(IntKind.i64.wrap (x_v22-1):Int).toNat*1+0+1)):=by rw [fa]; exact BR (sz:=1) rfl ck dc (Ad:rep aq (x110:Int) _)
         have el:a1.length=a8.length:=by rw [fa]; simp
         have ht:Kn 115 [(g,0),(p,q+(x_v12:Int).toNat*3),(s,0),(ae,0+(IntKind.i64.wrap (x_v22-1):Int).toNat*1),(ah,0+(x_v22:Int).toNat*1),(aj,0+(x_v22:Int).toNat*1),(ao,0+(IntKind.i64.wrap (x_v22-1):Int).toNat*1),(ap,0+(IntKind.i64.wrap (x_v22-1):Int).toNat*1),(au,0+(x_v22:Int).toNat*1),(aw,0+(x_v22:Int).toNat*1),(be,0+(IntKind.i64.wrap (x_v22-1):Int).toNat*1)] [(113,.one (.c (.ptr 10 0))),(112,.one (.c (.ptr 9 0))),(111,.one (.c (.int .i64 x110))),(107,.one (.c (.int .i64 x106))),(102,.one (.c (.int .i64 (IntKind.i64.wrap (x_v22-1))))),(100,.one (.c (.slice d a8.length f))),(99,.one (.c (.int .i64 x_v22))),(98,.one (.c (.slice d a8.length f))),(11,.one (.c (.int .i64 x_v22))),(6,.one (.c (.slice d a8.length f))),(5,.one (.c (.slice l an.length m))),(7,.one (.c (.int .i64 x_v12))),(2,.one (.c (.ptr 0 0))),(1,.one (.c (.slice a_words words.length c_words)))] du:=by rw [← el]; exact hs
         have ef:Ak ⟨w,h,AE⟩ aq [(g,0),(p,q+(x_v12:Int).toNat*3),(s,0),(ae,0+(IntKind.i64.wrap (x_v22-1):Int).toNat*1),(ah,0+(x_v22:Int).toNat*1),(aj,0+(x_v22:Int).toNat*1),(ao,0+(IntKind.i64.wrap (x_v22-1):Int).toNat*1),(ap,0+(IntKind.i64.wrap (x_v22-1):Int).toNat*1),(au,0+(x_v22:Int).toNat*1),(aw,0+(x_v22:Int).toNat*1),(be,0+(IntKind.i64.wrap (x_v22-1):Int).toNat*1)] [⟨[.slice ai y.room.length ak,.slice ad y.buses.length ag,.int .i64 y.broken],some 25⟩,⟨[.int .i64 x22.lo,.int .i64 x22.hi,.int .i64 x22.turn],none⟩,⟨[.int .i64 x22.lo,.int .i64 x22.hi,.int .i64 x22.turn],some 49⟩,⟨[],none⟩,⟨[],none⟩,⟨[],none⟩,⟨[],none⟩,⟨[],none⟩,⟨[],none⟩,⟨[],none⟩,⟨[],none⟩] [⟨l,an.length,m,3,1,(u.take (0+(x_v22:Int).toNat*1+0)++([.int .i64 x90]:List Value)++u.drop (0+(x_v22:Int).toNat*1+0+1)).take (0+(IntKind.i64.wrap (x_v22-1):Int).toNat*1+0)++([.int .i64 x94]:List Value)++(u.take (0+(x_v22:Int).toNat*1+0)++([.int .i64 x90]:List Value)++u.drop (0+(x_v22:Int).toNat*1+0+1)).drop (0+(IntKind.i64.wrap (x_v22-1):Int).toNat*1+0+1),0⟩,⟨d,a8.length,f,3,1,(ab.take (0+(x_v22:Int).toNat*1+0)++([.int .i64 x106]:List Value)++ab.drop (0+(x_v22:Int).toNat*1+0+1)).take (0+(IntKind.i64.wrap (x_v22-1):Int).toNat*1+0)++([.int .i64 x110]:List Value)++(ab.take (0+(x_v22:Int).toNat*1+0)++([.int .i64 x106]:List Value)++ab.drop (0+(x_v22:Int).toNat*1+0+1)).drop (0+(IntKind.i64.wrap (x_v22-1):Int).toNat*1+0+1),0⟩,⟨a2,1,1,3,1,([.int .i64 x_v12]:List Value),0⟩,⟨a4,1,1,3,1,([.int .i64 (IntKind.i64.wrap ((IntKind.i64.wrap (2*am))+(Int.tmod x60 2)))]:List Value),0⟩] ke:=by rw [← el]; exact i2
         refine hK _ _ ?_
         have hu:Kn 115 (QZ g p q x_v12 s ae x_v22 ah aj ao ap au aw be) ((tI 11 x_v22)::(tS 6 d a8.length f)::(tS 5 l an.length m)::(tI 7 x_v12)::(Dx a_words words c_words)) du:=ht.kp
         refine HO (by kernel_rfl) (Aa (Rk 0 3 ((tI 11 (IntKind.i64.wrap (x_v22-1)))::(tS 6 d a8.length f)::(tS 5 l an.length m)::(tI 7 x_v12)::(Dx a_words words c_words)) hu ef fun lv hv=>?_))
         refine wf ?_
         exact XY dm ⟨Nat.lt_succ_self _,XY an ⟨a8,IntKind.i64.wrap (x_v22-1),l,m,(u.take (0+(x_v22:Int).toNat*1+0)++([.int .i64 x90]:List Value)++u.drop (0+(x_v22:Int).toNat*1+0+1)).take (0+(IntKind.i64.wrap (x_v22-1):Int).toNat*1+0)++([.int .i64 x94]:List Value)++(u.take (0+(x_v22:Int).toNat*1+0)++([.int .i64 x90]:List Value)++u.drop (0+(x_v22:Int).toNat*1+0+1)).drop (0+(IntKind.i64.wrap (x_v22-1):Int).toNat*1+0+1),d,f,(ab.take (0+(x_v22:Int).toNat*1+0)++([.int .i64 x106]:List Value)++ab.drop (0+(x_v22:Int).toNat*1+0+1)).take (0+(IntKind.i64.wrap (x_v22-1):Int).toNat*1+0)++([.int .i64 x110]:List Value)++(ab.take (0+(x_v22:Int).toNat*1+0)++([.int .i64 x106]:List Value)++ab.drop (0+(x_v22:Int).toNat*1+0+1)).drop (0+(IntKind.i64.wrap (x_v22-1):Int).toNat*1+0+1),_,_,rfl,(hv.keep [11,6,5,7,2,1] (by rfl)).cut 3 (by kernel_rfl),ef.cutPl 3 (by kernel_rfl),XU bj cl,f3,f8,aa⟩⟩
        ·
         rw [Bc c0] at aa
         refine wp_exit ?_
         obtain rfl:=XZ aa
         exact XY l ⟨m,u,d,f,ab,_,_,rfl,c7.kp,bk,XU bj cl,ax,ar⟩
     ·
      rintro _ mg ⟨bz,b2,cp,b1,b3,cq,dq,b5,rfl,hw,eg,ip,fs,ft⟩
      refine Aa (Rk 0 3 ((tI 7 (IntKind.i64.wrap (x_v12+1)))::(tS 6 b1 ay.2.length b3)::(tS 5 bz ay.1.length b2)::(Dx a_words words c_words)) hw eg fun lw hx=>?_)
      refine wf ?_
      exact XY bx ⟨Nat.lt_succ_self _,XY ay.1 ⟨ay.2,IntKind.i64.wrap (x_v12+1),bz,b2,cp,b1,b3,cq,_,_,rfl,(hx.keep [7,6,5,2,1] (by rfl)).cut 1 (by kernel_rfl),(eg.cutRw 2).cutPl 1 (by kernel_rfl),XU cc (XU bs (XU br (XU bi ip))),fs,ft,al⟩⟩
   ·
    rw [c1,XV] at al
    refine wp_exit ?_
    obtain rfl:=XZ al
    exact XY ac ⟨af,bl,x,z,bm,_,_,rfl,c8.kp,co,cc,bp,bq⟩
 ·
  rintro _ kf ⟨bd,bf,cd,ct,cv,cr,dv,b6,rfl,hy,dh,kx,c4,kv⟩
  refine XT (Aa (Rk 0 2 [tS 4 bd az.1.length bf] hy dh fun lx hz=>?_))
  refine wf (wp_ret ?_)
  obtain⟨d0,iq,i7,di⟩:=dh.settle (i:=0) rfl
  replace c4:=c4.mono iq
  replace di:Ak ⟨w,h,AE⟩ d0 [(g,0)] [⟨GQ ai y ak ad ag,some 25⟩] [⟨bd,az.1.length,bf,3,1,cd,(cd:List Value).length⟩,⟨ct,az.2.length,cv,3,1,cr,0⟩] kf:=di
  have i6:A5 d0 bd bf az.1:=⟨_,c4,i7,dh.rowCap (i:=0) rfl⟩
  obtain rfl:=XZ H
  exact rt (.one (.c (.slice bd az.1.length bf))) hz di ⟨_,_,rfl,i6⟩
abbrev Kw (g:Option Addr) (y:Al) (k:Nat) (j:Option Addr) (l:Nat):List SC:=[.slice g y.room.length k,.slice j y.buses.length l,.int .i64 y.broken]
abbrev Et (a_words:Option Addr) (words:List (IK .u16)) (c_words:Nat):TM:=[tP 2 0 0,tS 1 a_words words.length c_words]
set_option maxRecDepth 100000 in
set_option maxHeartbeats 4000000 in
theorem Om (n:Nat) {h:Ac} {w:World} (hh:CY h w) (y:Al) {cs_y:List Value} (hx_y:rep h y cs_y) (words:List (IK .u16)) {a_words:Option Addr} {c_words:Nat} (hr_words:A5 h a_words c_words words) {r:List Int} (H:Hg n y words=some r) :
  Calls Try.prog 28 #[.agg cs_y.toArray,.slice a_words words.length c_words] w (Dc (fun h v=>∃ a c,v=.slice a r.length c∧A5 h a c r) h w):=by
 obtain⟨_,_,rfl,⟨g,k,rfl,a7⟩,⟨_,_,rfl,⟨j,l,rfl,a8⟩,rfl⟩⟩:=hx_y
 refine enter 33 [.agg (Kw g y k j l),.c (.slice a_words words.length c_words)] Try.func28 rfl rfl rfl rfl fun t hk=>?_
 have hm:=Ak.begin h w hh
 unfold Hg at H
 refine XT (Aa (wl fun K hK=>?_))
 refine wb (.agg (Kw g y k j l)) hk hm fun e b8 ca (bg:Kn 33 [(e,0)] [tP 2 0 0,tA 0 (Kw g y k j l),tS 1 a_words words.length c_words] b8) ai=>hK _ _ ?_
 refine Rk 1 1 (Et a_words words c_words) bg ai fun cf bi=>?_
 refine wf (XT (Aa (Rk 0 1 ((tS 5 none 0 0)::(Et a_words words c_words)) bi ai fun cg bj=>?_)))
 refine wf (XT (XT (Aa (Rk 0 1 ((tI 6 0)::(tS 5 none 0 0)::(Et a_words words c_words)) bj ai fun ch bk=>?_))))
 refine wf ?_
 have b2:Ak ⟨w,h,AE⟩ h [(e,0)] [⟨Kw g y k j l,some 25⟩] [⟨none,0,0,3,1,[],0⟩] ca:=ai.nilRow 3 1
 have bd:Af h ([]:List Int) []:=Af.nil
 obtain⟨o,a1,H⟩:=An H
 refine As (fun a' w'=>∃ (q:Option Addr)(s:Nat)(ae:List Value)(ax:Array Value)(ah:Ac),a' = ⟨ax,[]⟩∧Kn 33 [(e,0)] [tS 5 q o.length s] ax∧Ak ⟨w,h,AE⟩ ah [(e,0)] [⟨Kw g y k j l,some 25⟩] [⟨q,o.length,s,3,1,ae,0⟩] w'∧Ac.le h ah∧Af ah o ae) ?_ ?_
 ·
  refine wp_block ?_
  refine At (fun b5 a' w'=>∃ (x_v10:List Int)(x_v11:Int)(b:Option Addr)(d:Nat)(p:List Value)(ay:Array Value)(aa:Ac),a' = ⟨ay,[]⟩∧Kn 33 [(e,0)] ((tI 6 x_v11)::(tS 5 b x_v10.length d)::(Et a_words words c_words)) ay∧Ak ⟨w,h,AE⟩ aa [(e,0)] [⟨Kw g y k j l,some 25⟩] [⟨b,x_v10.length,d,3,1,p,0⟩] w'∧Ac.le h aa∧Af aa x_v10 p∧CD b5 y words x_v10 x_v11=some o) n ?_ ?_
  ·
   exact XY ([]:List Int) ⟨0,none,0,[],_,_,rfl,bk.kp,b2,Ac.le_refl _,bd,a1⟩
  ·
   rintro ad _ cr ⟨x_v10,x_v11,b,d,p,ay,aa,rfl,bl,m,z,ac,f⟩
   clear a1
   obtain _ | ad:=ad
   ·
    rw [CD] at f; cases f
   rw [CD] at f
   replace a7:=a7.mono z
   replace a8:=a8.mono z
   replace hr_words:=hr_words.mono z
   refine XT (XT (Aa (Rk 0 5 ((tB 11 (decide (x_v11<((y.buses.length:Nat):Int))))::(tI 6 x_v11)::(tS 5 b x_v10.length d)::(Et a_words words c_words)) bl m fun ci ao=>?_)))
   refine wf (wC (decide (x_v11<((y.buses.length:Nat):Int))) ao (fun ak=>?_) (fun ak=>?_))
   ·
    rw [ak,XW] at f
    refine wp_skip (XT (wp_block (XT ?_)))
    obtain⟨a9,u,f⟩:=An f
    refine As (fun a' w'=>∃ (az:Array Value)(x:Ac),a' = ⟨az,[]⟩∧Kn 33 [(e,0)] [tI 6 x_v11,tS 5 b x_v10.length d,tP 2 0 0,tS 1 a_words words.length c_words,tB 27 a9] az∧Ak ⟨w,h,AE⟩ x [(e,0)] [⟨Kw g y k j l,some 25⟩] [⟨b,x_v10.length,d,3,1,p,0⟩] w'∧Ac.le aa x) ?_ ?_
    ·
     refine Aa (Rk 0 6 ((tB 19 (decide (((x_v10.length:Nat):Int)<y.broken)))::(tI 6 x_v11)::(tS 5 b x_v10.length d)::(Et a_words words c_words)) ao m fun ba a3=>?_)
     rcases Bool.eq_false_or_eq_true (decide (((x_v10.length:Nat):Int)<y.broken)) with ab | ab
     ·
      rw [ab,XW] at u
      have bm:Kn 33 [(e,0)] ((tB 19 true)::(tI 6 x_v11)::(tS 5 b x_v10.length d)::(Et a_words words c_words)) ba:=(a3.setB 19 true (by rfl) ab).kp
      refine Rk 6 4 ((tI 23 (IntKind.i64.wrap ((IntKind.i64.wrap (3*x_v11))+2)))::(tS 20 a_words words.length c_words)::(tB 19 true)::(tI 6 x_v11)::(tS 5 b x_v10.length d)::(Et a_words words c_words)) bm m fun cj a4=>?_
      obtain⟨x24,ex24,u⟩:=An u
      refine AP _ rfl (Aj a4 (by kernel_rfl)) fun K hK=>?_
      refine wc [.c (.slice a_words words.length c_words),.c (.int .i64 (IntKind.i64.wrap ((IntKind.i64.wrap (3*x_v11))+2)))] a4 m (FK ad m.has words hr_words (IntKind.i64.wrap ((IntKind.i64.wrap (3*x_v11))+2)) ex24) fun cq cc cs bc b1 a5=>?_
      obtain rfl:=bc
      refine⟨.one (.c (.int .i64 x24)),rfl,fun b6 (bn:Kn 33 [(e,0)] ((tI 24 x24)::(tI 23 (IntKind.i64.wrap ((IntKind.i64.wrap (3*x_v11))+2)))::(tS 20 a_words words.length c_words)::(tB 19 true)::(tI 6 x_v11)::(tS 5 b x_v10.length d)::(Et a_words words c_words)) b6)=>hK _ _ ?_⟩
      refine Rk 11 3 ((tB 27 ((Int.tmod x24 4) == 0))::(tI 6 x_v11)::(tS 5 b x_v10.length d)::(Et a_words words c_words)) bn a5 fun ck bo=>?_
      refine wf ?_
      obtain rfl:=XZ u
      exact XY _ ⟨_,rfl,bo.kp,a5,b1⟩
     ·
      rw [ab,XV] at u
      have bp:Kn 33 [(e,0)] ((tB 19 false)::(tI 6 x_v11)::(tS 5 b x_v10.length d)::(Et a_words words c_words)) ba:=(a3.setB 19 false (by rfl) ab).kp
      refine Rk 6 8 ((tB 27 false)::(tI 6 x_v11)::(tS 5 b x_v10.length d)::(Et a_words words c_words)) bp m fun cl bq=>?_
      refine wf ?_
      obtain rfl:=XZ u
      exact XY _ ⟨_,rfl,bq.kp,m,Ac.le_refl _⟩
    ·
     rintro _ ct ⟨az,x,rfl,ap,aj,aq⟩
     replace ac:=ac.mono aq
     refine wC (a9) ap (fun al=>?_) (fun al=>?_)
     ·
      rw [Bb al] at f
      refine Aa (Rk 0 2 ((tI 29 x_v11)::(tS 28 b x_v10.length d)::(tI 6 x_v11)::(Et a_words words c_words)) ap aj fun cm br=>?_)
      refine wl fun K hK=>?_
      refine wS 3 1 [.int .i64 x_v11] br aj fun a0 b7 cu (bs:Kn 33 [(e,0)] ((tS 30 a0 1 1)::(tI 29 x_v11)::(tS 28 b x_v10.length d)::(tI 6 x_v11)::(Et a_words words c_words)) b7) a6=>?_
      have an:Af x ([x_v11]:List Int) ([.int .i64 x_v11]:List Value):=⟨_,_,rfl,(Ad:rep x (x_v11:Int) _),rfl⟩
      refine hK _ _ ?_
      obtain⟨x31,ex31,f⟩:=An f
      obtain⟨aw,bz⟩:=BH ex31
      refine wl fun K hK=>?_
      refine B1 0 8 1 _ (x31.length) _ ([.int .i64 x_v11]:List Value) bs a6 rfl rfl (by decide) rfl (by rfl) (by kernel_rfl) (by rfl) (by rfl) (Af.len an) (a6.rowCell (i:=1) rfl) an.one (by rw [aw]; simp <;> omega) (by rw [aw]; exact bz) (by decide) fun af ag bb b9 cv bf (bt:Kn 33 [(e,0)] ((tS 31 af x31.length ag)::(tS 30 a0 1 1)::(tI 29 x_v11)::(tS 28 b x_v10.length d)::(tI 6 x_v11)::(Et a_words words c_words)) b9) av=>?_
      have be:Af x x31 (p++([.int .i64 x_v11]:List Value)):=by rw [aw]; exact Af.append ac an
      obtain rfl:bb=0:=Nat.le_zero.1 bf
      refine hK _ _ ?_
      refine Rk 4 1 ((tS 5 af x31.length ag)::(tI 6 x_v11)::(Et a_words words c_words)) bt av fun cn bu=>?_
      refine wf (Aa (Rk 0 3 ((tI 6 (IntKind.i64.wrap (x_v11+1)))::(tS 5 af x31.length ag)::(Et a_words words c_words)) bu av fun co bv=>?_))
      refine wf ?_
      exact XY ad ⟨Nat.lt_succ_self _,XY x31 ⟨IntKind.i64.wrap (x_v11+1),af,ag,p++([.int .i64 x_v11]:List Value),_,_,rfl,bv.kp,av.cutRw 1,XU z aq,be,f⟩⟩
     ·
      rw [Bc al] at f
      refine wp_skip (Aa (Rk 0 3 ((tI 6 (IntKind.i64.wrap (x_v11+1)))::(tS 5 b x_v10.length d)::(Et a_words words c_words)) ap aj fun cp bw=>?_))
      refine wf ?_
      exact XY ad ⟨Nat.lt_succ_self _,XY x_v10 ⟨IntKind.i64.wrap (x_v11+1),b,d,p,_,_,rfl,bw.kp,aj,XU z aq,ac,f⟩⟩
   ·
    rw [ak,XV] at f
    refine wp_exit ?_
    obtain rfl:=XZ f
    exact XY b ⟨d,p,_,_,rfl,ao.kp,m,z,ac⟩
 ·
  rintro _ cb ⟨q,s,ae,ax,ah,rfl,bx,ar,cd,am⟩
  refine XT (Aa (Rk 0 2 [tS 4 q o.length s] bx ar fun ce bh=>?_))
  refine wf (wp_ret ?_)
  obtain⟨a2,b0,b4,au⟩:=ar.settle (i:=0) rfl
  replace am:=am.mono b0
  replace au:Ak ⟨w,h,AE⟩ a2 [(e,0)] [⟨Kw g y k j l,some 25⟩] [⟨q,o.length,s,3,1,ae,(ae:List Value).length⟩] cb:=au
  have b3:A5 a2 q s o:=⟨_,am,b4,ar.rowCap (i:=0) rfl⟩
  obtain rfl:=XZ H
  exact rt (.one (.c (.slice q o.length s))) bh au ⟨_,_,rfl,b3⟩
abbrev Gy (s:Option Addr) (y:Al) (u:Nat) (z:Option Addr) (aa:Nat):List SC:=[.slice s y.room.length u,.slice z y.buses.length aa,.int .i64 y.broken]
abbrev Ph (p ad:Nat) (d:Int) (ag ai aj am:Nat):AA:=[(p,0),(ad,0+(d:Int).toNat*1),(ag,ai+(d:Int).toNat*1),(aj,0+(d:Int).toNat*1),(am,0+(d:Int).toNat*1)]
abbrev Cl (x_v12:Int) (f:Option Addr) (x_v10:List Int) (g:Nat) (l:Option Addr) (x_v11:List Int) (m:Nat) (a_words:Option Addr) (words:List (IK .u16)) (c_words:Nat):TM:=[tI 8 x_v12,tS 7 f x_v10.length g,tS 6 l x_v11.length m,tP 2 0 0,tS 1 a_words words.length c_words]
abbrev HG (a_words:Option Addr) (words:List (IK .u16)) (c_words:Nat):TM:=[tP 2 0 0,tS 1 a_words words.length c_words]
set_option maxRecDepth 100000 in
set_option maxHeartbeats 4000000 in
theorem Mf (n:Nat) {h:Ac} {w:World} (hh:CY h w) (y:Al) {cs_y:List Value} (hx_y:rep h y cs_y) (words:List (IK .u16)) {a_words:Option Addr} {c_words:Nat} (hr_words:A5 h a_words c_words words) {r:(List Int)×Bool} (H:Fh n y words=some r) :
  Calls Try.prog 26 #[.agg cs_y.toArray,.slice a_words words.length c_words] w (Dc (fun h v=>∃ v0 v1,v=.tuple #[v0,v1]∧(∃ a c,v0=.slice a r.1.length c∧A5 h a c r.1)∧(v1=.bool r.2)) h w):=by
 obtain⟨_,_,rfl,⟨s,u,rfl,ak⟩,⟨_,_,rfl,⟨z,aa,rfl,a3⟩,rfl⟩⟩:=hx_y
 refine enter 77 [.agg (Gy s y u z aa),.c (.slice a_words words.length c_words)] Try.func26 rfl rfl rfl rfl fun t hk=>?_
 have hm:=Ak.begin h w hh
 unfold Fh at H
 refine XT (Aa (wl fun K hK=>?_))
 refine wb (.agg (Gy s y u z aa)) hk hm fun p f8 hq (dv:Kn 77 [(p,0)] [tP 2 0 0,tA 0 (Gy s y u z aa),tS 1 a_words words.length c_words] f8) bk=>hK _ _ ?_
 refine Rk 1 2 (HG a_words words c_words) dv bk fun gp dy=>?_
 refine wf (XT (Aa (Rk 0 1 ((tS 6 none 0 0)::(HG a_words words c_words)) dy bk fun gu d6=>?_)))
 refine wf (XT (Aa (Rk 0 3 ((tI 13 ((y.room.length:Nat):Int))::(tS 6 none 0 0)::(HG a_words words c_words)) d6 bk fun gz ea=>?_)))
 obtain⟨x14,ex14,H⟩:=An H
 obtain⟨fd,fg,c6⟩:=HS ex14
 refine wl fun K hK=>?_
 refine G6 3 1 8 [.int .i64 0] (((y.room.length:Nat):Int)) ea bk rfl rfl (by decide) (by rfl) (by kernel_rfl) (by kernel_rfl) (by rfl) fd fg (by decide) fun az f3 dc (cr:Kn 77 [(p,0)] [(14,.one (.c (.slice az ((((y.room.length:Nat):Int):Int).toNat) ((((y.room.length:Nat):Int):Int).toNat)))),(13,.one (.c (.int .i64 ((y.room.length:Nat):Int)))),(6,.one (.c (.slice none 0 0))),(2,.one (.c (.ptr 0 0))),(1,.one (.c (.slice a_words words.length c_words)))] f3) (bl:Ak ⟨w,h,AE⟩ h [(p,0)] [⟨[.slice s y.room.length u,.slice z y.buses.length aa,.int .i64 y.broken],some 25⟩] [⟨az,(((y.room.length:Nat):Int):Int).toNat,(((y.room.length:Nat):Int):Int).toNat,3,1,List.flatten (List.replicate (((y.room.length:Nat):Int):Int).toNat ([.int .i64 0]:List Value)),0⟩] dc)=>?_
 have cn:Af h x14 (List.flatten (List.replicate (((y.room.length:Nat):Int):Int).toNat ([.int .i64 0]:List Value))):=by rw [c6]; exact Af.replicate (α:=Int) (x:=0) Ad _
 have ct:(((y.room.length:Nat):Int):Int).toNat=x14.length:=by rw [c6]; simp
 rw [ct] at cr bl
 skip
 rw [ct] at cn
 refine hK _ _ ?_
 refine Rk 4 1 ((tS 7 az x14.length x14.length)::(tS 6 none 0 0)::(HG a_words words c_words)) cr bl fun g9 eu=>?_
 refine wf (XT (XT (Aa (Rk 0 1 ((tI 8 0)::(tS 7 az x14.length x14.length)::(tS 6 none 0 0)::(HG a_words words c_words)) eu bl fun ha ev=>?_))))
 refine wf ?_
 have fa:Ak ⟨w,h,AE⟩ h [(p,0)] [⟨Gy s y u z aa,some 25⟩] [⟨az,x14.length,x14.length,3,1,List.flatten (List.replicate x14.length ([.int .i64 0]:List Value)),0⟩,⟨none,0,0,3,1,[],0⟩] dc:=bl.nilRow 3 1
 have dt:Af h ([]:List Int) []:=Af.nil
 obtain⟨c8,ch,H⟩:=An H
 refine As (fun a' w'=>∃ (ae:(List Int)×(List Int))(bn:Option Addr)(bp:Nat)(bm:List Value)(au:Option Addr)(av:Nat)(be:List Value)(ca:Array Value)(a4:Ac),a' = ⟨ca,[]⟩∧Kn 77 [(p,0)] [tS 6 au ae.2.length av] ca∧Ak ⟨w,h,AE⟩ a4 [(p,0)] [⟨Gy s y u z aa,some 25⟩] [⟨bn,ae.1.length,bp,3,1,bm,0⟩,⟨au,ae.2.length,av,3,1,be,0⟩] w'∧Ac.le h a4∧Af a4 ae.1 bm∧Af a4 ae.2 be∧c8=.go ae) ?_ ?_
 ·
  refine wp_block ?_
  refine At (fun fv a' w'=>∃ (x_v10:List Int)(x_v11:List Int)(x_v12:Int)(f:Option Addr)(g:Nat)(ac:List Value)(l:Option Addr)(m:Nat)(al:List Value)(cb:Array Value)(a5:Ac),a' = ⟨cb,[]⟩∧Kn 77 [(p,0)] (Cl x_v12 f x_v10 g l x_v11 m a_words words c_words) cb∧Ak ⟨w,h,AE⟩ a5 [(p,0)] [⟨Gy s y u z aa,some 25⟩] [⟨f,x_v10.length,g,3,1,ac,0⟩,⟨l,x_v11.length,m,3,1,al,0⟩] w'∧Ac.le h a5∧Af a5 x_v10 ac∧Af a5 x_v11 al∧Cy fv y words x14 x_v10 x_v11 x_v12=some c8) n ?_ ?_
  ·
   exact XY x14 ⟨([]:List Int),0,az,x14.length,List.flatten (List.replicate x14.length ([.int .i64 0]:List Value)),none,0,[],_,_,rfl,ev.kp,fa,Ac.le_refl _,cn,dt,ch⟩
  ·
   rintro bd _ ho ⟨x_v10,x_v11,x_v12,f,g,ac,l,m,al,cb,a5,rfl,ew,ay,a7,ab,ar,q⟩
   clear ch
   obtain _ | bd:=bd
   ·
    rw [Cy] at q; cases q
   rw [Cy] at q
   replace ak:=ak.mono a7
   replace a3:=a3.mono a7
   replace hr_words:=hr_words.mono a7
   refine XT (XT (Aa (Rk 0 5 ((tB 19 (decide (x_v12<((y.buses.length:Nat):Int))))::(Cl x_v12 f x_v10 g l x_v11 m a_words words c_words)) ew ay fun hb b1=>?_)))
   refine wf (wC (decide (x_v12<((y.buses.length:Nat):Int))) b1 (fun bt=>?_) (fun bt=>?_))
   ·
    rw [bt,XW] at q
    refine wp_skip (XT (wp_block (XT (Av (by kernel_rfl) ?_))))
    replace ay:=ay.drew
    refine A3 [] [(p,0)] [⟨Gy s y u z aa,some 25⟩] ?_
    refine Dr [0,1,2,3,5,6,7] [7,6,5,3,2,1,0] ((tI 29 ((y.room.length:Nat):Int))::(tI 25 (IntKind.i64.wrap ((IntKind.i64.wrap (5*x_v12))+1)))::(tS 22 a_words words.length c_words)::(Cl x_v12 f x_v10 g l x_v11 m a_words words c_words)) b1 ay fun hc ex=>?_
    obtain⟨x26,ex26,q⟩:=An q
    refine Dl 4 fun K hK=>?_
    refine wc [.c (.slice a_words words.length c_words),.c (.int .i64 (IntKind.i64.wrap ((IntKind.i64.wrap (5*x_v12))+1)))] ex ay (FK bd ay.has words hr_words (IntKind.i64.wrap ((IntKind.i64.wrap (5*x_v12))+1)) ex26) fun hf ck hp df a1 bc=>?_
    replace ak:=ak.mono a1
    replace a3:=a3.mono a1
    replace hr_words:=hr_words.mono a1
    replace ab:=ab.mono a1
    replace ar:=ar.mono a1
    obtain rfl:=df
    refine⟨.one (.c (.int .i64 x26)),rfl,fun f6 (ey:Kn 77 [(p,0)] ((tI 26 x26)::(tI 29 ((y.room.length:Nat):Int))::(tI 25 (IntKind.i64.wrap ((IntKind.i64.wrap (5*x_v12))+1)))::(tS 22 a_words words.length c_words)::(Cl x_v12 f x_v10 g l x_v11 m a_words words c_words)) f6)=>hK _ _ bc.plOk ?_⟩
    obtain⟨x30,ex30,q⟩:=An q
    refine QJ 8 (fun _ _ _ _ _ h=>h) ey rfl rfl (rfl) rfl (by decide) (by kernel_rfl) (by kernel_rfl) bc.plOk (by rfl) (by rfl) (KD ex30) fun f7 (ez:Kn 77 [(p,0)] ((tI 30 (Int.tmod x26 ((y.room.length:Nat):Int)))::(tI 26 x26)::(tI 29 ((y.room.length:Nat):Int))::(tI 25 (IntKind.i64.wrap ((IntKind.i64.wrap (5*x_v12))+1)))::(tS 22 a_words words.length c_words)::(Cl x_v12 f x_v10 g l x_v11 m a_words words c_words)) f7)=>?_
    refine Dr [9] [9,8,4,7,6,5,3,2,1,0] ((tI 9 (Int.tmod x26 ((y.room.length:Nat):Int)))::(Cl x_v12 f x_v10 g l x_v11 m a_words words c_words)) ez bc fun hd e0=>?_
    refine A8 (by kernel_rfl) (XT (XT (Aa (Rk 0 1 ((tI 10 0)::(tI 9 (Int.tmod x26 ((y.room.length:Nat):Int)))::(Cl x_v12 f x_v10 g l x_v11 m a_words words c_words)) e0 bc fun he e1=>?_))))
    refine wf ?_
    obtain⟨d,ci,q⟩:=An q
    refine As (fun a' w'=>∃ (cc:Array Value)(an:Ac),a' = ⟨cc,[]⟩∧Kn 77 [(p,0)] ((tI 9 d)::(Cl x_v12 f x_v10 g l x_v11 m a_words words c_words)) cc∧Ak ⟨w,h,AE⟩ an [(p,0)] [⟨Gy s y u z aa,some 25⟩] [⟨f,x_v10.length,g,3,1,ac,0⟩,⟨l,x_v11.length,m,3,1,al,0⟩] w'∧Ac.le ck an) ?_ ?_
    ·
     refine wp_block ?_
     refine At (fun fw a' w'=>∃ (x_v20:Int)(x_v21:Int)(cd:Array Value)(bh:Ac),a' = ⟨cd,[]⟩∧Kn 77 [(p,0)] ((tI 10 x_v20)::(tI 9 x_v21)::(Cl x_v12 f x_v10 g l x_v11 m a_words words c_words)) cd∧Ak ⟨w,h,AE⟩ bh [(p,0)] [⟨Gy s y u z aa,some 25⟩] [⟨f,x_v10.length,g,3,1,ac,0⟩,⟨l,x_v11.length,m,3,1,al,0⟩] w'∧Ac.le ck bh∧Cx fw y x14 x_v10 x_v20 x_v21=some d) bd ?_ ?_
     ·
      exact XY 0 ⟨Int.tmod x26 ((y.room.length:Nat):Int),_,_,rfl,e1.kp,bc,Ac.le_refl _,ci⟩
     ·
      rintro b8 _ hr ⟨x_v20,x_v21,cd,bh,rfl,e2,ap,ax,ah⟩
      clear ci
      obtain _ | b8:=b8
      ·
       rw [Cx] at ah; cases ah
      rw [Cx] at ah
      replace ak:=ak.mono ax
      replace a3:=a3.mono ax
      replace hr_words:=hr_words.mono ax
      replace ab:=ab.mono ax
      replace ar:=ar.mono ax
      refine XT (XT ?_)
      obtain⟨c9,aq,ah⟩:=An ah
      refine As (fun a' w'=>∃ (ce:Array Value)(bq:Ac),a' = ⟨ce,[]⟩∧Kn 77 [(p,0)] [tI 10 x_v20,tI 9 x_v21,tI 8 x_v12,tS 7 f x_v10.length g,tS 6 l x_v11.length m,tP 2 0 0,tS 1 a_words words.length c_words,tB 47 c9] ce∧Ak ⟨w,h,AE⟩ bq [(p,0)] [⟨Gy s y u z aa,some 25⟩] [⟨f,x_v10.length,g,3,1,ac,0⟩,⟨l,x_v11.length,m,3,1,al,0⟩] w'∧Ac.le bh bq) ?_ ?_
      ·
       refine Av (by kernel_rfl) ?_
       replace ap:=ap.drew
       refine A3 [] [(p,0)] [⟨Gy s y u z aa,some 25⟩] ?_
       refine Dr [0,1,2,3,4,5] (dn 5) ((tB 36 (decide (x_v20<((y.room.length:Nat):Int))))::(tI 10 x_v20)::(tI 9 x_v21)::(Cl x_v12 f x_v10 g l x_v11 m a_words words c_words)) e2 ap fun db co=>?_
       rcases Bool.eq_false_or_eq_true (decide (x_v20<((y.room.length:Nat):Int))) with a6 | a6
       ·
        rw [a6,XW] at aq
        have dw:Kn 77 [(p,0)] ((tB 36 true)::(tI 10 x_v20)::(tI 9 x_v21)::(Cl x_v12 f x_v10 g l x_v11 m a_words words c_words)) db:=(co.setB 36 true (by rfl) a6).kp
        refine Dr [6,7] (dn 7) ((tI 38 x_v21)::(tS 37 f x_v10.length g)::(tB 36 true)::(tI 10 x_v20)::(tI 9 x_v21)::(Cl x_v12 f x_v10 g l x_v11 m a_words words c_words)) dw ap fun gn cp=>?_
        obtain⟨x39,ex39,aq⟩:=An aq
        obtain⟨cy,c2,fp⟩:=Ah ex39
        have e3:=Aw cy c2
        obtain⟨gb,fj,di⟩:=Ay (sz:=1) rfl ab fp
        obtain rfl:=fj
        obtain⟨bo,bi⟩:=A6 ap (i:=0) rfl (b0:=0+(x_v21:Int).toNat*1) (Nat.lt_of_lt_of_le (Nat.lt_add_of_pos_right (by decide)) (Am (sz:=1) rfl ab e3))
        have a8:=ap.addPlc (b:=bo) (o:=0+(x_v21:Int).toNat*1) (cs:=[]) (fun j c hj=>by simp at hj) rfl (by kernel_rfl) (by kernel_rfl)
        have bu:∀ (e:AA) k c,([.int .i64 x39]:List SC)[k]? = some c→(ac)[0+(x_v21:Int).toNat*1+k]? = some (c.den e):=fun e k c hk=>di k _ (Ai hk)
        refine A4 8 (x_v21) [.int .i64 x39] (fun _ _ _ _ _ h=>h) rfl rfl (Aj cp (by kernel_rfl)) rfl (by decide) (by kernel_rfl) (by kernel_rfl) cp ap.plOk (by rfl) (by rfl) (by rfl) bi (by rfl) cy c2 (by kernel_rfl) fun fx (dx:Kn 77 [(p,0),(bo,0+(x_v21:Int).toNat*1)] ((tP 39 1 0)::(tI 38 x_v21)::(tS 37 f x_v10.length g)::(tB 36 true)::(tI 10 x_v20)::(tI 9 x_v21)::(Cl x_v12 f x_v10 g l x_v11 m a_words words c_words)) fx)=>?_
        refine AQ [9,10,11,12] [12,11,10,9,8,7,6,5,4,3,2,1,0] [43,42,40,36,10,9,8,7,6,2,1] ((tI 43 x_v21)::(tS 42 s y.room.length u)::(tI 40 x39)::(tB 36 true)::(tI 10 x_v20)::(tI 9 x_v21)::(Cl x_v12 f x_v10 g l x_v11 m a_words words c_words)) (fun _ _ _ _ _ h=>h) dx (Ap.peek a8.plOk a8 0 1 rfl rfl bi [.int .i64 x39] (bu _)) (by kernel_rfl) (by rfl) (by kernel_rfl) fun gq cq=>?_
        obtain⟨x44,ex44,aq⟩:=An aq
        obtain⟨fb,fe,fq⟩:=Ah ex44
        obtain⟨cg,da,gc,dg,fk,dj⟩:=ak.get (by decide) fq
        obtain rfl:=fk
        have b3:=a8.addPlc (b:=cg) (o:=da+(x_v21:Int).toNat*1) (cs:=[.int .i64 x44]) (fun j c hj=>dj j _ (Ai hj)) rfl (by kernel_rfl) (by kernel_rfl)
        refine A4 13 (x_v21) [.int .i64 x44] (fun _ _ _ _ _ h=>h) rfl rfl (Aj cq (by kernel_rfl)) rfl (by decide) (by kernel_rfl) (by kernel_rfl) cq (Ap.peek a8.plOk a8 0 1 rfl rfl bi [.int .i64 x39] (bu _)) (by rfl) (by rfl) (by rfl) dg (by rfl) fb fe (by kernel_rfl) fun fy (dz:Kn 77 [(p,0),(bo,0+(x_v21:Int).toNat*1),(cg,da+(x_v21:Int).toNat*1)] ((tP 44 2 0)::(tI 43 x_v21)::(tS 42 s y.room.length u)::(tI 40 x39)::(tB 36 true)::(tI 10 x_v20)::(tI 9 x_v21)::(Cl x_v12 f x_v10 g l x_v11 m a_words words c_words)) fy)=>?_
        refine AQ [14,15,16] [16,15,14,13,12,11,10,9,8,7,6,5,4,3,2,1,0] [47,10,9,8,7,6,2,1] ((tB 47 (decide (x39≥x44)))::(tI 10 x_v20)::(tI 9 x_v21)::(Cl x_v12 f x_v10 g l x_v11 m a_words words c_words)) (fun _ _ _ _ _ h=>h) dz (Ap.peek b3.plOk b3 0 1 rfl rfl bi [.int .i64 x39] (bu _)) (by kernel_rfl) (by rfl) (by kernel_rfl) fun gr d0=>?_
        refine A8 (by kernel_rfl) ?_
        obtain rfl:=XZ aq
        exact XY _ ⟨_,rfl,(d0.keep [10,9,8,7,6,2,1,47] (by rfl)).cut 1 (by kernel_rfl),b3.cutPl 1 (by kernel_rfl),Ac.le_refl _⟩
       ·
        rw [a6,XV] at aq
        have d1:Kn 77 [(p,0)] ((tB 36 false)::(tI 10 x_v20)::(tI 9 x_v21)::(Cl x_v12 f x_v10 g l x_v11 m a_words words c_words)) db:=(co.setB 36 false (by rfl) a6).kp
        refine Dr [6,7,8,9,10,11,12,13,14,15,16] (dn 16) ((tB 47 false)::(tI 10 x_v20)::(tI 9 x_v21)::(Cl x_v12 f x_v10 g l x_v11 m a_words words c_words)) d1 ap fun gs d2=>?_
        refine A8 (by kernel_rfl) ?_
        obtain rfl:=XZ aq
        exact XY _ ⟨_,rfl,d2.kp,ap,Ac.le_refl _⟩
      ·
       rintro _ hg ⟨ce,bq,rfl,bx,a9,cu⟩
       refine wC (c9) bx (fun br=>?_) (fun br=>?_)
       ·
        rw [Bb br] at ah
        refine wp_skip (XT (wp_block (Aa (Rk 0 5 ((tI 54 ((y.room.length:Nat):Int))::(tI 51 (IntKind.i64.wrap (x_v21+1)))::(tI 10 x_v20)::(Cl x_v12 f x_v10 g l x_v11 m a_words words c_words)) bx a9 fun gv d3=>?_))))
        obtain⟨x55,ex55,ah⟩:=An ah
        refine QI 5 d3 rfl rfl (rfl) rfl (by decide) (by rfl) (by rfl) (KD ex55) fun fz (d4:Kn 77 [(p,0)] ((tI 55 (Int.tmod (IntKind.i64.wrap (x_v21+1)) ((y.room.length:Nat):Int)))::(tI 54 ((y.room.length:Nat):Int))::(tI 51 (IntKind.i64.wrap (x_v21+1)))::(tI 10 x_v20)::(Cl x_v12 f x_v10 g l x_v11 m a_words words c_words)) fz)=>?_
        refine Rk 6 1 ((tI 9 (Int.tmod (IntKind.i64.wrap (x_v21+1)) ((y.room.length:Nat):Int)))::(tI 10 x_v20)::(Cl x_v12 f x_v10 g l x_v11 m a_words words c_words)) d4 a9 fun gw d5=>?_
        refine wf (Aa (Rk 0 3 ((tI 10 (IntKind.i64.wrap (x_v20+1)))::(tI 9 (Int.tmod (IntKind.i64.wrap (x_v21+1)) ((y.room.length:Nat):Int)))::(Cl x_v12 f x_v10 g l x_v11 m a_words words c_words)) d5 a9 fun gx d7=>?_))
        refine wf ?_
        exact XY b8 ⟨Nat.lt_succ_self _,XY (IntKind.i64.wrap (x_v20+1)) ⟨Int.tmod (IntKind.i64.wrap (x_v21+1)) ((y.room.length:Nat):Int),_,_,rfl,d7.kp,a9,XU ax cu,ah⟩⟩
       ·
        rw [Bc br] at ah
        refine wp_exit ?_
        obtain rfl:=XZ ah
        exact XY _ ⟨_,rfl,bx.kp,a9,XU ax cu⟩
    ·
     rintro _ hi ⟨cc,an,rfl,d8,a2,bj⟩
     replace ak:=ak.mono bj
     replace ab:=ab.mono bj
     replace ar:=ar.mono bj
     refine XT (XT (Av (by kernel_rfl) ?_))
     replace a2:=a2.drew
     refine A3 [] [(p,0)] [⟨Gy s y u z aa,some 25⟩] ?_
     refine Dr [0,1] [1,0] ((tI 57 d)::(tS 56 f x_v10.length g)::(tI 9 d)::(Cl x_v12 f x_v10 g l x_v11 m a_words words c_words)) d8 a2 fun gy d9=>?_
     obtain⟨x58,ex58,q⟩:=An q
     obtain⟨cz,c3,fr⟩:=Ah ex58
     have e4:=Aw cz c3
     obtain⟨gd,fl,dk⟩:=Ay (sz:=1) rfl ab fr
     obtain rfl:=fl
     obtain⟨ad,aw⟩:=A6 a2 (i:=0) rfl (b0:=0+(d:Int).toNat*1) (Nat.lt_of_lt_of_le (Nat.lt_add_of_pos_right (by decide)) (Am (sz:=1) rfl ab e4))
     have ba:=a2.addPlc (b:=ad) (o:=0+(d:Int).toNat*1) (cs:=[]) (fun j c hj=>by simp at hj) rfl (by kernel_rfl) (by kernel_rfl)
     have a0:∀ (e:AA) k c,([.int .i64 x58]:List SC)[k]? = some c→(ac)[0+(d:Int).toNat*1+k]? = some (c.den e):=fun e k c hk=>dk k _ (Ai hk)
     refine A4 2 (d) [.int .i64 x58] (fun _ _ _ _ _ h=>h) rfl rfl (rfl) rfl (by decide) (by kernel_rfl) (by kernel_rfl) d9 a2.plOk (by rfl) (by rfl) (by rfl) aw (by rfl) cz c3 (by kernel_rfl) fun f0 (eb:Kn 77 [(p,0),(ad,0+(d:Int).toNat*1)] ((tP 58 1 0)::(tI 57 d)::(tS 56 f x_v10.length g)::(tI 9 d)::(Cl x_v12 f x_v10 g l x_v11 m a_words words c_words)) f0)=>?_
     refine AQ [3,4,5,6] [6,5,4,3,2,1,0] [62,61,59,9,8,7,6,2,1] ((tI 62 d)::(tS 61 s y.room.length u)::(tI 59 x58)::(tI 9 d)::(Cl x_v12 f x_v10 g l x_v11 m a_words words c_words)) (fun _ _ _ _ _ h=>h) eb (Ap.peek ba.plOk ba 0 1 rfl rfl aw [.int .i64 x58] (a0 _)) (by kernel_rfl) (by rfl) (by kernel_rfl) fun g0 ec=>?_
     obtain⟨x63,ex63,q⟩:=An q
     obtain⟨fc,ff,fs⟩:=Ah ex63
     obtain⟨ag,ai,gf,dh,fm,dl⟩:=ak.get (by decide) fs
     obtain rfl:=fm
     have ao:=ba.addPlc (b:=ag) (o:=ai+(d:Int).toNat*1) (cs:=[.int .i64 x63]) (fun j c hj=>dl j _ (Ai hj)) rfl (by kernel_rfl) (by kernel_rfl)
     refine A4 7 (d) [.int .i64 x63] (fun _ _ _ _ _ h=>h) rfl rfl (rfl) rfl (by decide) (by kernel_rfl) (by kernel_rfl) ec (Ap.peek ba.plOk ba 0 1 rfl rfl aw [.int .i64 x58] (a0 _)) (by rfl) (by rfl) (by rfl) dh (by rfl) fc ff (by kernel_rfl) fun f1 (ed:Kn 77 [(p,0),(ad,0+(d:Int).toNat*1),(ag,ai+(d:Int).toNat*1)] ((tP 63 2 0)::(tI 62 d)::(tS 61 s y.room.length u)::(tI 59 x58)::(tI 9 d)::(Cl x_v12 f x_v10 g l x_v11 m a_words words c_words)) f1)=>?_
     refine AQ [8,9] [9,8,7,6,5,4,3,2,1,0] [65,9,8,7,6,2,1] ((tB 65 (decide (x58≥x63)))::(tI 9 d)::(Cl x_v12 f x_v10 g l x_v11 m a_words words c_words)) (fun _ _ _ _ _ h=>h) ed (Ap.peek ao.plOk ao 0 1 rfl rfl aw [.int .i64 x58] (a0 _)) (by kernel_rfl) (by rfl) (by kernel_rfl) fun g1 bz=>?_
     refine A8 (by kernel_rfl) (wC (decide (x58≥x63)) bz (fun bs=>?_) (fun bs=>?_))
     ·
      rw [bs,XW] at q
      refine XT (Aa (BZ 0 2 [5,4] [tB 5 false,tS 4 none 0 0] bz (Ap.peek ao.plOk ao 0 1 rfl rfl aw [.int .i64 x58] (a0 _)) (by kernel_rfl) fun g2 ee=>?_))
      refine wf (wp_ret ?_)
      obtain rfl:=XZ q
      obtain rfl:=XZ H
      exact rt (.tup [.c (.slice none 0 0),.c (.bool false)]) ee ao ⟨_,_,rfl,⟨_,_,rfl,A5.nil⟩,rfl⟩
     ·
      rw [bs,XV] at q
      refine wp_skip (XT (Aa (BZ 0 2 [67,66,9,8,7,6,2,1] ((tI 67 d)::(tS 66 f x_v10.length g)::(tI 9 d)::(Cl x_v12 f x_v10 g l x_v11 m a_words words c_words)) bz (Ap.peek ao.plOk ao 0 1 rfl rfl aw [.int .i64 x58] (a0 _)) (by kernel_rfl) fun g3 ef=>?_)))
      obtain⟨x68,ex68,q⟩:=An q
      obtain⟨c0,c4,ft⟩:=Ah ex68
      have e5:=Aw c0 c4
      obtain⟨gg,fn,dm⟩:=Ay (sz:=1) rfl ab ft
      obtain rfl:=fn
      obtain⟨aj,cl⟩:=A6 ao (i:=0) rfl (b0:=0+(d:Int).toNat*1) (Nat.lt_of_lt_of_le (Nat.lt_add_of_pos_right (by decide)) (Am (sz:=1) rfl ab e5))
      have bb:=ao.addPlc (b:=aj) (o:=0+(d:Int).toNat*1) (cs:=[]) (fun j c hj=>by simp at hj) rfl (by kernel_rfl) (by kernel_rfl)
      have dp:∀ (e:AA) k c,([.int .i64 x68]:List SC)[k]? = some c→(ac)[0+(d:Int).toNat*1+k]? = some (c.den e):=fun e k c hk=>dm k _ (Ai hk)
      refine A7 2 (d) rfl rfl (rfl) rfl (by decide) ef (by rfl) (by rfl) (by rfl) cl (by rfl) c0 c4 (by kernel_rfl) fun f2 (eg:Kn 77 [(p,0),(ad,0+(d:Int).toNat*1),(ag,ai+(d:Int).toNat*1),(aj,0+(d:Int).toNat*1)] ((tP 68 3 0)::(tI 67 d)::(tS 66 f x_v10.length g)::(tI 9 d)::(Cl x_v12 f x_v10 g l x_v11 m a_words words c_words)) f2)=>?_
      refine BZ 3 2 [70,67,66,9,8,7,6,2,1] ((tI 70 (IntKind.i64.wrap (x68+1)))::(tI 67 d)::(tS 66 f x_v10.length g)::(tI 9 d)::(Cl x_v12 f x_v10 g l x_v11 m a_words words c_words)) eg (Ap.peek (Ap.peek bb.plOk bb 0 1 rfl rfl aw [.int .i64 x58] (a0 _)) bb 0 3 rfl rfl cl [.int .i64 x68] (dp _)) (by kernel_rfl) fun g4 eh=>?_
      obtain⟨x71,ex71,q⟩:=An q
      obtain⟨c1,c5,fu⟩:=Ah ex71
      have b2:=Aw c1 c5
      obtain⟨gh,fo,dq⟩:=Ay (sz:=1) rfl ab fu
      obtain rfl:=fo
      obtain⟨am,cm⟩:=A6 bb (i:=0) rfl (b0:=0+(d:Int).toNat*1) (Nat.lt_of_lt_of_le (Nat.lt_add_of_pos_right (by decide)) (Am (sz:=1) rfl ab b2))
      have e8:=bb.addPlc (b:=am) (o:=0+(d:Int).toNat*1) (cs:=[]) (fun j c hj=>by simp at hj) rfl (by kernel_rfl) (by kernel_rfl)
      have gi:∀ (e:AA) k c,([.int .i64 x71]:List SC)[k]? = some c→(ac)[0+(d:Int).toNat*1+k]? = some (c.den e):=fun e k c hk=>dq k _ (Ai hk)
      refine A7 5 (d) rfl rfl (rfl) rfl (by decide) eh (by rfl) (by rfl) (by rfl) cm (by rfl) c1 c5 (by kernel_rfl) fun b9 (ei:Kn 77 (Ph p ad d ag ai aj am) ((tP 71 4 0)::(tI 70 (IntKind.i64.wrap (x68+1)))::(tI 67 d)::(tS 66 f x_v10.length g)::(tI 9 d)::(Cl x_v12 f x_v10 g l x_v11 m a_words words c_words)) b9)=>?_
      obtain⟨af,dd,q⟩:=An q
      obtain⟨gl,gm,c7⟩:=BA dd
      refine wl fun K hK=>?_
      refine AR 0 4 0 (0+(d:Int).toNat*1) (.c (.int .i64 (IntKind.i64.wrap (x68+1)))) ei e8 rfl rfl (by rfl) (by rfl) rfl rfl cm rfl (by kernel_rfl) (Am (sz:=1) rfl ab b2) fun f9 ej e9=>?_
      have dr:Af an af (ac.take (0+(d:Int).toNat*1+0)++([.int .i64 (IntKind.i64.wrap (x68+1))]:List Value)++ac.drop (0+(d:Int).toNat*1+0+1)):=by rw [c7]; exact BR (sz:=1) rfl ab b2 (Ad:rep an (IntKind.i64.wrap (x68+1):Int) _)
      have cx:x_v10.length=af.length:=by rw [c7]; simp
      have ek:Kn 77 [(p,0),(ad,0+(d:Int).toNat*1),(ag,ai+(d:Int).toNat*1),(aj,0+(d:Int).toNat*1),(am,0+(d:Int).toNat*1)] [(71,.one (.c (.ptr 4 0))),(70,.one (.c (.int .i64 (IntKind.i64.wrap (x68+1))))),(67,.one (.c (.int .i64 d))),(66,.one (.c (.slice f af.length g))),(9,.one (.c (.int .i64 d))),(8,.one (.c (.int .i64 x_v12))),(7,.one (.c (.slice f af.length g))),(6,.one (.c (.slice l x_v11.length m))),(2,.one (.c (.ptr 0 0))),(1,.one (.c (.slice a_words words.length c_words)))] b9:=by rw [← cx]; exact ej
      have cv:Ak ⟨w,h,AE⟩ an [(p,0),(ad,0+(d:Int).toNat*1),(ag,ai+(d:Int).toNat*1),(aj,0+(d:Int).toNat*1),(am,0+(d:Int).toNat*1)] [⟨[.slice s y.room.length u,.slice z y.buses.length aa,.int .i64 y.broken],some 25⟩,⟨[],none⟩,⟨[.int .i64 x63],none⟩,⟨[],none⟩,⟨[],none⟩] [⟨f,af.length,g,3,1,ac.take (0+(d:Int).toNat*1+0)++([.int .i64 (IntKind.i64.wrap (x68+1))]:List Value)++ac.drop (0+(d:Int).toNat*1+0+1),0⟩,⟨l,x_v11.length,m,3,1,al,0⟩] f9:=by rw [← cx]; exact e9
      refine hK _ _ ?_
      have el:Kn 77 (Ph p ad d ag ai aj am) ((tI 9 d)::(tI 8 x_v12)::(tS 7 f af.length g)::(tS 6 l x_v11.length m)::(HG a_words words c_words)) b9:=ek.kp
      refine wf (Aa (Rk 0 2 ((tI 73 d)::(tS 72 l x_v11.length m)::(tI 8 x_v12)::(tS 7 f af.length g)::(HG a_words words c_words)) el cv fun g5 em=>?_))
      refine wl fun K hK=>?_
      refine wS 3 1 [.int .i64 d] em cv fun cf f4 hl (en:Kn 77 (Ph p ad d ag ai aj am) ((tS 74 cf 1 1)::(tI 73 d)::(tS 72 l x_v11.length m)::(tI 8 x_v12)::(tS 7 f af.length g)::(HG a_words words c_words)) f4) cw=>?_
      have bv:Af an ([d]:List Int) ([.int .i64 d]:List Value):=⟨_,_,rfl,(Ad:rep an (d:Int) _),rfl⟩
      refine hK _ _ ?_
      obtain⟨x75,ex75,q⟩:=An q
      obtain⟨b7,e6⟩:=BH ex75
      refine wl fun K hK=>?_
      refine B1 1 8 1 _ (x75.length) _ ([.int .i64 d]:List Value) en cw rfl rfl (by decide) rfl (by rfl) (by kernel_rfl) (by rfl) (by rfl) (Af.len bv) (cw.rowCell (i:=2) rfl) bv.one (by rw [b7]; simp <;> omega) (by rw [b7]; exact e6) (by decide) fun bf bg de f5 hn du (eo:Kn 77 (Ph p ad d ag ai aj am) ((tS 75 bf x75.length bg)::(tS 74 cf 1 1)::(tI 73 d)::(tS 72 l x_v11.length m)::(tI 8 x_v12)::(tS 7 f af.length g)::(HG a_words words c_words)) f5) b4=>?_
      have ds:Af an x75 (al++([.int .i64 d]:List Value)):=by rw [b7]; exact Af.append ar bv
      obtain rfl:de=0:=Nat.le_zero.1 du
      refine hK _ _ ?_
      refine Rk 4 1 ((tS 6 bf x75.length bg)::(tI 8 x_v12)::(tS 7 f af.length g)::(HG a_words words c_words)) eo b4 fun g6 ep=>?_
      refine wf (Aa (Rk 0 3 ((tI 8 (IntKind.i64.wrap (x_v12+1)))::(tS 6 bf x75.length bg)::(tS 7 f af.length g)::(HG a_words words c_words)) ep b4 fun g7 er=>?_))
      refine wf ?_
      exact XY bd ⟨Nat.lt_succ_self _,XY af ⟨x75,IntKind.i64.wrap (x_v12+1),f,g,ac.take (0+(d:Int).toNat*1+0)++([.int .i64 (IntKind.i64.wrap (x68+1))]:List Value)++ac.drop (0+(d:Int).toNat*1+0+1),bf,bg,al++([.int .i64 d]:List Value),_,_,rfl,(er.keep [8,7,6,2,1] (by rfl)).cut 1 (by kernel_rfl),(b4.cutRw 2).cutPl 1 (by kernel_rfl),XU a7 (XU a1 bj),dr,ds,q⟩⟩
   ·
    rw [bt,XV] at q
    refine wp_exit ?_
    obtain rfl:=XZ q
    exact XY (x_v10,x_v11) ⟨f,g,ac,l,m,al,_,_,rfl,b1.kp,ay,a7,ab,ar,rfl⟩
 ·
  rintro _ ga ⟨ae,bn,bp,bm,au,av,be,ca,a4,rfl,es,b5,gk,gj,bw,rfl⟩
  rw [Ex.bind_go] at H
  refine XT (Aa (Rk 0 3 [tB 5 true,tS 4 au ae.2.length av] es b5 fun g8 et=>?_))
  refine wf (wp_ret ?_)
  obtain⟨cj,e7,fi,b6⟩:=b5.settle (i:=1) rfl
  replace bw:=bw.mono e7
  replace b6:Ak ⟨w,h,AE⟩ cj [(p,0)] [⟨Gy s y u z aa,some 25⟩] [⟨bn,ae.1.length,bp,3,1,bm,0⟩,⟨au,ae.2.length,av,3,1,be,(be:List Value).length⟩] ga:=b6
  have fh:A5 cj au av ae.2:=⟨_,bw,fi,b5.rowCap (i:=1) rfl⟩
  obtain rfl:=XZ H
  exact rt (.tup [.c (.slice au ae.2.length av),.c (.bool true)]) et b6 ⟨_,_,rfl,⟨_,_,rfl,fh⟩,rfl⟩
set_option maxRecDepth 100000 in
set_option maxHeartbeats 4000000 in
theorem D7 (n:Nat) {h:Ac} {w:World} (hh:CY h w) (order:List Int) {a_order:Option Addr} {c_order:Nat} (hr_order:A5 h a_order c_order order) (bus:Int) {r:Int} (H:CQ n order bus=some r) :
  Calls Try.prog 29 #[.slice a_order order.length c_order,.int .i64 bus] w (Dc (fun h v=>v=.int .i64 r) h w):=by
 refine enter 19 [.c (.slice a_order order.length c_order),.c (.int .i64 bus)] Try.func29 rfl rfl rfl rfl fun t hk=>?_
 have hm:=Ak.begin h w hh
 unfold CQ at H
 refine XT (Aa (Rk 0 1 [tS 0 a_order order.length c_order,tI 1 bus] hk hm fun ay ag=>?_))
 refine wf (XT (XT (Aa (Rk 0 1 [tI 5 0,tS 0 a_order order.length c_order,tI 1 bus] ag hm fun a1 aj=>?_))))
 refine wf ?_
 obtain⟨aa,y,H⟩:=An H
 refine As (fun a' w'=>∃ (ac:Unit)(u:Array Value)(g:Ac),a' = ⟨u,[]⟩∧Kn 19 [] [] u∧Ak ⟨w,h,AE⟩ g [] [] [] w'∧Ac.le h g∧aa=.go ac) ?_ ?_
 ·
  refine wp_block ?_
  refine At (fun au a' w'=>∃ (x_v10:Int)(s:Array Value)(f:Ac),a' = ⟨s,[]⟩∧Kn 19 [] [tI 5 x_v10,tS 0 a_order order.length c_order,tI 1 bus] s∧Ak ⟨w,h,AE⟩ f [] [] [] w'∧Ac.le h f∧CJ au order bus x_v10=some aa) n ?_ ?_
  ·
   exact XY 0 ⟨_,_,rfl,aj.kp,hm,Ac.le_refl _,y⟩
  ·
   rintro q _ a6 ⟨x_v10,s,f,rfl,af,e,p,a⟩
   clear y
   obtain _ | q:=q
   ·
    rw [CJ] at a; cases a
   rw [CJ] at a
   replace hr_order:=hr_order.mono p
   refine XT (XT (Aa (Rk 0 4 [tB 9 (decide (x_v10<((order.length:Nat):Int))),tI 5 x_v10,tS 0 a_order order.length c_order,tI 1 bus] af e fun az l=>?_)))
   refine wf (wC (decide (x_v10<((order.length:Nat):Int))) l (fun i=>?_) (fun i=>?_))
   ·
    rw [i,XW] at a
    refine wp_skip (XT (wp_block (XT (Aa (Rk 0 2 [tI 13 x_v10,tS 12 a_order order.length c_order,tI 5 x_v10,tS 0 a_order order.length c_order,tI 1 bus] l e fun a0 ah=>?_)))))
    obtain⟨x14,ex14,a⟩:=An a
    obtain⟨ao,ap,ar⟩:=Ah ex14
    obtain⟨x,ab,aw,ad,aq,ae⟩:=hr_order.get (by decide) ar
    obtain rfl:=aq
    have d:=e.addPlc (b:=x) (o:=ab+(x_v10:Int).toNat*1) (cs:=[.int .i64 x14]) (fun j c hj=>ae j _ (Ai hj)) rfl (by kernel_rfl) (by kernel_rfl)
    refine A7 2 (x_v10) rfl rfl (rfl) rfl (by decide) ah (by rfl) (by rfl) (by rfl) ad (by rfl) ao ap (by kernel_rfl) fun av (ai:Kn 19 [(x,ab+(x_v10:Int).toNat*1)] [tP 14 0 0,tI 13 x_v10,tS 12 a_order order.length c_order,tI 5 x_v10,tS 0 a_order order.length c_order,tI 1 bus] av)=>?_
    refine Rk 3 3 [tB 17 (x14 == bus),tI 5 x_v10,tS 0 a_order order.length c_order,tI 1 bus] ai d fun a2 m=>?_
    refine wf (wC ((x14 == bus)) m (fun k=>?_) (fun k=>?_))
    ·
     rw [k,XW] at a
     refine XT (Aa (Rk 0 2 [tI 4 x_v10] m d fun a3 ak=>?_))
     refine wf (wp_ret ?_)
     obtain rfl:=XZ a
     obtain rfl:=XZ H
     exact rt (.one (.c (.int .i64 x_v10))) ak d rfl
    ·
     rw [k,XV] at a
     refine wp_skip (Aa (Rk 0 3 [tI 5 (IntKind.i64.wrap (x_v10+1)),tS 0 a_order order.length c_order,tI 1 bus] m d fun a4 al=>?_))
     refine wf ?_
     exact XY q ⟨Nat.lt_succ_self _,XY (IntKind.i64.wrap (x_v10+1)) ⟨_,_,rfl,(al.keep [5,0,1] (by rfl)).cut 0 (by kernel_rfl),d.cutPl 0 (by kernel_rfl),p,a⟩⟩
   ·
    rw [i,XV] at a
    refine wp_exit ?_
    obtain rfl:=XZ a
    exact XY () ⟨_,_,rfl,l.kp,e,p,rfl⟩
 ·
  rintro _ a7 ⟨ac,u,g,rfl,am,z,ax,rfl⟩
  rw [Ex.bind_go] at H
  refine XT (Aa (Rk 0 1 [tI 4 (-1)] am z fun a5 an=>?_))
  refine wf (wp_ret ?_)
  obtain rfl:=XZ H
  exact rt (.one (.c (.int .i64 (-1)))) an z rfl
abbrev Ip (aa af ag:Nat) (x_v12:Int):AA:=[(aa,0),(af,ag+(x_v12:Int).toNat*1)]
abbrev Bj (ai:Option Addr) (y:Al) (ak:Nat) (aj:Option Addr) (al:Nat):List SC:=[.slice ai y.room.length ak,.slice aj y.buses.length al,.int .i64 y.broken]
abbrev Iq (b6:Option Addr) (x44:Al) (cb:Nat) (b7:Option Addr) (cc:Nat):List SC:=[.slice b6 x44.room.length cb,.slice b7 x44.buses.length cc,.int .i64 x44.broken]
abbrev Ir (b8:Option Addr) (x56:Al) (cd:Nat) (b9:Option Addr) (ce:Nat):List SC:=[.slice b8 x56.room.length cd,.slice b9 x56.buses.length ce,.int .i64 x56.broken]
abbrev On (aa bp bt:Nat) (x_v40:Int) (ck cp cq:Nat) (x225:Int):AA:=[(aa,0),(bp,bt+(x_v40:Int).toNat*1),(ck,cp+(x_v40:Int).toNat*1),(cq,0+(x225:Int).toNat*1)]
abbrev LU (aa af ag:Nat) (x_v12:Int) (bo bs:Nat) (x_v30:Int) (bu bz:Nat) (x97:Int):AA:=[(aa,0),(af,ag+(x_v12:Int).toNat*1),(bo,bs+(x_v30:Int).toNat*1),(bu,bz+(x97:Int).toNat*1)]
abbrev Kx (aa af ag:Nat) (x_v12:Int) (av ax ay az a1 a3:Nat) (x_v21:Int):AA:=[(aa,0),(af,ag+(x_v12:Int).toNat*1),(av,ax+(x_v12:Int).toNat*1),(ay,az+(x_v12:Int).toNat*1),(a1,a3+(x_v21:Int).toNat*1)]
abbrev Qr (aa af ag:Nat) (x_v12:Int) (av ax ay az a1 a3:Nat) (x_v21:Int) (be:Nat) (x113:Int) (bj:Nat):AA:=[(aa,0),(af,ag+(x_v12:Int).toNat*1),(av,ax+(x_v12:Int).toNat*1),(ay,az+(x_v12:Int).toNat*1),(a1,a3+(x_v21:Int).toNat*1),(be,0+(x113:Int).toNat*1),(bj,0+(x113:Int).toNat*1)]
abbrev Ky (aa af ag:Nat) (x_v12:Int) (av ax ay az a1 a3:Nat) (x_v21:Int) (be:Nat) (x113:Int) (bj ca ch cj co:Nat) (x97:Int):AA:=[(aa,0),(af,ag+(x_v12:Int).toNat*1),(av,ax+(x_v12:Int).toNat*1),(ay,az+(x_v12:Int).toNat*1),(a1,a3+(x_v21:Int).toNat*1),(be,0+(x113:Int).toNat*1),(bj,0+(x113:Int).toNat*1),(ca,ch+(x113:Int).toNat*1),(cj,co+(x97:Int).toNat*1)]
abbrev DR (ab:Option Addr) (x_v10:List Bool) (ac:Nat) (y:Al) (u:Option Addr) (x68:List Int) (z:Nat) (g:Option Addr) (x63:(List Int)×Int) (m:Nat) (q:Option Addr) (x51:(List (List Int))×Int) (s:Nat) (a:Option Addr) (x38:List Int) (d:Nat) (l:Option Addr) (f:(Bool×(List Int))) (p:Nat):TM:=[tS 15 ab x_v10.length ac,tI 14 ((y.buses.length:Nat):Int),tS 13 u x68.length z,tS 11 g x63.1.length m,tS 9 q x51.1.length s,tS 7 a x38.length d,tS 5 l f.2.length p]
abbrev Bv (am:((List Bool)×(List Bool)×Int)) (ar:Option Addr) (au:Nat) (y:Al) (g:Option Addr) (x63:(List Int)×Int) (m:Nat):TM:=[tI 17 am.2.2,tS 16 ar am.2.1.length au,tI 14 ((y.buses.length:Nat):Int),tS 11 g x63.1.length m]
abbrev Ba (x_v21 x_v22 x97 x_v12 x_v23:Int) (ad:Option Addr) (x_v20:List Bool) (ae:Nat) (ab:Option Addr) (x_v10:List Bool) (ac:Nat) (y:Al) (u:Option Addr) (x68:List Int) (z:Nat) (g:Option Addr) (x63:(List Int)×Int) (m:Nat) (q:Option Addr) (x51:(List (List Int))×Int) (s:Nat) (a:Option Addr) (x38:List Int) (d:Nat) (l:Option Addr) (f:(Bool×(List Int))) (p:Nat):TM:=(tI 21 x_v21)::(tI 20 x_v22)::(tI 19 x97)::(tI 18 x_v12)::(tI 17 x_v23)::(tS 16 ad x_v20.length ae)::(DR ab x_v10 ac y u x68 z g x63 m q x51 s a x38 d l f p)
abbrev Bm (x97 x_v12:Int) (ah:((List Bool)×Int)) (an:Option Addr) (ao:Nat) (ab:Option Addr) (x_v10:List Bool) (ac:Nat) (y:Al) (u:Option Addr) (x68:List Int) (z:Nat) (g:Option Addr) (x63:(List Int)×Int) (m:Nat) (q:Option Addr) (x51:(List (List Int))×Int) (s:Nat) (a:Option Addr) (x38:List Int) (d:Nat) (l:Option Addr) (f:(Bool×(List Int))) (p:Nat):TM:=(tI 19 x97)::(tI 18 x_v12)::(tI 17 ah.2)::(tS 16 an ah.1.length ao)::(DR ab x_v10 ac y u x68 z g x63 m q x51 s a x38 d l f p)
abbrev Bn (a:Option Addr) (x38:List Int) (d:Nat) (l:Option Addr) (f:(Bool×(List Int))) (p:Nat):TM:=[tS 7 a x38.length d,tS 5 l f.2.length p,tP 2 0 0]
abbrev FR (y:Al) (u:Option Addr) (x68:List Int) (z:Nat) (g:Option Addr) (x63:(List Int)×Int) (m:Nat) (q:Option Addr) (x51:(List (List Int))×Int) (s:Nat) (a:Option Addr) (x38:List Int) (d:Nat) (l:Option Addr) (f:(Bool×(List Int))) (p:Nat):TM:=[tI 14 ((y.buses.length:Nat):Int),tS 13 u x68.length z,tS 11 g x63.1.length m,tS 9 q x51.1.length s,tS 7 a x38.length d,tS 5 l f.2.length p]
abbrev E2 (x_v21 x97 x_v12 x_v23:Int) (ad:Option Addr) (x_v20:List Bool) (ae:Nat) (ab:Option Addr) (x_v10:List Bool) (ac:Nat) (y:Al) (u:Option Addr) (x68:List Int) (z:Nat) (g:Option Addr) (x63:(List Int)×Int) (m:Nat) (q:Option Addr) (x51:(List (List Int))×Int) (s:Nat) (a:Option Addr) (x38:List Int) (d:Nat) (l:Option Addr) (f:(Bool×(List Int))) (p:Nat):TM:=(tI 21 x_v21)::(tI 19 x97)::(tI 18 x_v12)::(tI 17 x_v23)::(tS 16 ad x_v20.length ae)::(DR ab x_v10 ac y u x68 z g x63 m q x51 s a x38 d l f p)
set_option maxRecDepth 100000 in
set_option maxHeartbeats 4000000 in
theorem K8 (n:Nat) {h:Ac} {w:World} (hh:CY h w) (y:Al) {cs_y:List Value} (hx_y:rep h y cs_y) (words:List (IK .u16)) {a_words:Option Addr} {c_words:Nat} (hr_words:A5 h a_words c_words words) {r:Bool} (H:EX n y words=some r) :
  Calls Try.prog 11 #[.agg cs_y.toArray,.slice a_words words.length c_words] w (Dc (fun h v=>v=.bool r) h w):=by
 obtain⟨_,_,rfl,⟨ai,ak,rfl,ap⟩,⟨_,_,rfl,⟨aj,al,rfl,aq⟩,rfl⟩⟩:=hx_y
 refine enter 254 [.agg (Bj ai y ak aj al),.c (.slice a_words words.length c_words)] Try.func11 rfl rfl rfl rfl fun t hk=>?_
 have hm:=Ak.begin h w hh
 unfold EX at H
 refine XT (Aa (wl fun K hK=>?_))
 refine wb (.agg (Bj ai y ak aj al)) hk hm fun aa v4 acc (n3:Kn 254 [(aa,0)] [tP 2 0 0,tA 0 (Bj ai y ak aj al),tS 1 a_words words.length c_words] v4) fa=>hK _ _ ?_
 refine Rk 1 1 [tP 2 0 0,tS 1 a_words words.length c_words] n3 fa fun x1 n8=>?_
 refine wf (XT (Aa (Rk 0 2 [tB 6 false,tS 5 none 0 0,tP 2 0 0,tS 1 a_words words.length c_words] n8 fa fun x4 oc=>?_)))
 refine wf (XT (XT (Aa (Rk 0 1 [tA 25 (Bj ai y ak aj al),tB 6 false,tS 5 none 0 0,tP 2 0 0,tS 1 a_words words.length c_words] oc fa fun x6 oh=>?_))))
 obtain⟨x26,ex26,H⟩:=An H
 refine wl fun K hK=>?_
 refine wc [.agg (Bj ai y ak aj al)] oh fa (Nm n fa.has y ((Ab (Ag ap) (Ab (Ag aq) Ad)):rep h y _) ex26) fun aaw iw abm me hc f4=>?_
 replace ap:=ap.mono hc
 replace aq:=aq.mono hc
 replace hr_words:=hr_words.mono hc
 obtain rfl:=me
 refine⟨.one (.c (.bool x26)),rfl,fun ln (ox:Kn 254 [(aa,0)] [tB 26 x26,tA 25 (Bj ai y ak aj al),tB 6 false,tS 5 none 0 0,tP 2 0 0,tS 1 a_words words.length c_words] ln)=>hK _ _ ?_⟩
 have gz:Kn 254 [(aa,0)] [tB 26 x26,tB 6 false,tS 5 none 0 0,tP 2 0 0,tS 1 a_words words.length c_words] ln:=ox.kp
 refine wf ?_
 obtain⟨f,ed,H⟩:=An H
 refine As (fun a' w'=>∃ (l:Option Addr)(p:Nat)(h9:Array Value)(er:Ac),a' = ⟨h9,[]⟩∧Kn 254 [(aa,0)] [tB 6 f.1,tS 5 l f.2.length p,tP 2 0 0,tS 1 a_words words.length c_words] h9∧Ak ⟨w,h,AE⟩ er [(aa,0)] [⟨Bj ai y ak aj al,some 25⟩] [] w'∧Ac.le iw er∧A5 er l p f.2) ?_ ?_
 ·
  refine wC (x26) gz (fun gp=>?_) (fun gp=>?_)
  ·
   rw [Bb gp] at ed
   refine Aa (Rk 0 2 [tS 29 a_words words.length c_words,tA 28 (Bj ai y ak aj al),tP 2 0 0,tS 1 a_words words.length c_words] gz f4 fun yo pf=>?_)
   obtain⟨x30,ex30,ed⟩:=An ed
   refine wl fun K hK=>?_
   refine wc [.agg (Bj ai y ak aj al),.c (.slice a_words words.length c_words)] pf f4 (Mf n f4.has y ((Ab (Ag ap) (Ab (Ag aq) Ad)):rep iw y _) words hr_words ex30) fun aa1 xf abt mh sr kj=>?_
   obtain⟨_,_,rfl,⟨fo,fv,rfl,ty⟩,rfl⟩:=mh
   refine⟨.tup [.c (.slice fo x30.1.length fv),.c (.bool x30.2)],rfl,fun vn (pt:Kn 254 [(aa,0)] [(30,.tup [.c (.slice fo x30.1.length fv),.c (.bool x30.2)]),tS 29 a_words words.length c_words,tA 28 (Bj ai y ak aj al),tP 2 0 0,tS 1 a_words words.length c_words] vn)=>hK _ _ ?_⟩
   refine Rk 3 5 [tB 6 x30.2,tS 5 fo x30.1.length fv,tP 2 0 0,tS 1 a_words words.length c_words] pt kj fun y2 py=>?_
   refine wf ?_
   obtain rfl:=XZ ed
   exact XY fo ⟨fv,_,_,rfl,py.kp,kj,sr,ty⟩
  ·
   rw [Bc gp] at ed
   refine wp_skip ?_
   obtain rfl:=XZ ed
   exact XY none ⟨0,_,_,rfl,gz.kp,f4,Ac.le_refl _,A5.nil⟩
 ·
  rintro _ abv ⟨l,p,h9,er,rfl,p3,de,hd,a8⟩
  replace ap:=ap.mono hd
  replace aq:=aq.mono hd
  replace hr_words:=hr_words.mono hd
  refine XT (XT (Aa (Rk 0 2 [tB 34 (!f.1),tS 5 l f.2.length p,tP 2 0 0,tS 1 a_words words.length c_words] p3 de fun y8 g3=>?_)))
  refine wf (wC ((!f.1)) g3 (fun gr=>?_) (fun gr=>?_))
  ·
   rw [gr,XW] at H
   refine XT (Aa ?_)
   obtain⟨x35,ex35,H⟩:=An H
   refine wl fun K hK=>?_
   refine wc [] g3 de (Jz n de.has  ex35) fun aa6 xk ab1 mn xu kk=>?_
   obtain rfl:=mn
   refine⟨.one (.c (.bool x35)),rfl,fun vw (qt:Kn 254 [(aa,0)] [tB 35 x35,tB 34 (!f.1),tS 5 l f.2.length p,tP 2 0 0,tS 1 a_words words.length c_words] vw)=>hK _ _ ?_⟩
   refine Rk 1 1 [tB 4 x35] qt kk fun zl qw=>?_
   refine wf (wp_ret ?_)
   obtain rfl:=XZ H
   exact rt (.one (.c (.bool x35))) qw kk rfl
  ·
   rw [gr,XV] at H
   refine wp_skip (XT (Av (by kernel_rfl) ?_))
   replace de:=de.drew
   refine A3 [] [(aa,0)] [⟨Bj ai y ak aj al,some 25⟩] ?_
   refine Dr [0,1,3,4] [4,3,1,0] [tS 40 a_words words.length c_words,tA 39 (Bj ai y ak aj al),tS 37 a_words words.length c_words,tA 36 (Bj ai y ak aj al),tS 5 l f.2.length p,tP 2 0 0] g3 de fun zn q0=>?_
   obtain⟨x38,ex38,H⟩:=An H
   refine Dl 2 fun K hK=>?_
   refine wc [.agg (Bj ai y ak aj al),.c (.slice a_words words.length c_words)] q0 de (Ol n de.has y ((Ab (Ag ap) (Ab (Ag aq) Ad)):rep er y _) words hr_words ex38) fun aba m0 ab6 mq fy ht=>?_
   replace ap:=ap.mono fy
   replace aq:=aq.mono fy
   replace hr_words:=hr_words.mono fy
   obtain⟨a,d,rfl,aw⟩:=mq
   refine⟨.one (.c (.slice a x38.length d)),rfl,fun v3 (rl:Kn 254 [(aa,0)] [tS 38 a x38.length d,tS 40 a_words words.length c_words,tA 39 (Bj ai y ak aj al),tS 37 a_words words.length c_words,tA 36 (Bj ai y ak aj al),tS 5 l f.2.length p,tP 2 0 0] v3)=>hK _ _ ht.plOk ?_⟩
   obtain⟨x41,ex41,H⟩:=An H
   refine Dl 5 fun K hK=>?_
   refine wc [.agg (Bj ai y ak aj al),.c (.slice a_words words.length c_words)] rl ht (Om n ht.has y ((Ab (Ag ap) (Ab (Ag aq) Ad)):rep m0 y _) words hr_words ex41) fun abb m1 aca mr f0 fd=>?_
   replace ap:=ap.mono f0
   replace aq:=aq.mono f0
   obtain⟨a0,a2,rfl,c2⟩:=mr
   refine⟨.one (.c (.slice a0 x41.length a2)),rfl,fun v9 (r4:Kn 254 [(aa,0)] [tS 41 a0 x41.length a2,tS 38 a x38.length d,tS 40 a_words words.length c_words,tA 39 (Bj ai y ak aj al),tS 37 a_words words.length c_words,tA 36 (Bj ai y ak aj al),tS 5 l f.2.length p,tP 2 0 0] v9)=>hK _ _ fd.plOk ?_⟩
   refine Dr [6,7] [7,6,5,2,4,3,1,0] ((tS 8 a0 x41.length a2)::(Bn a x38 d l f p)) r4 fd fun aae r7=>?_
   refine A8 (by kernel_rfl) (XT (Aa (Rk 0 1 ((tA 43 (Bj ai y ak aj al))::(tS 8 a0 x41.length a2)::(Bn a x38 d l f p)) r7 fd fun aak sd=>?_)))
   obtain⟨x44,ex44,H⟩:=An H
   refine wl fun K hK=>?_
   refine wc [.agg (Bj ai y ak aj al)] sd fd (Kv n fd.has y ((Ab (Ag ap) (Ab (Ag aq) Ad)):rep m1 y _) ex44) fun abe xp acf mu e9 hx=>?_
   replace a8:=a8.mono (XU (XU fy f0) e9)
   obtain⟨_,rfl,⟨_,_,rfl,⟨b6,cb,rfl,hy⟩,⟨_,_,rfl,⟨b7,cc,rfl,hz⟩,rfl⟩⟩⟩:=mu
   refine⟨.one (.agg (Iq b6 x44 cb b7 cc)),rfl,fun u7 (n4:Kn 254 [(aa,0)] ((tA 44 (Iq b6 x44 cb b7 cc))::(tA 43 (Bj ai y ak aj al))::(tS 8 a0 x41.length a2)::(Bn a x38 d l f p)) u7)=>hK _ _ ?_⟩
   refine Rk 2 1 ((tS 45 l f.2.length p)::(tA 44 (Iq b6 x44 cb b7 cc))::(tS 8 a0 x41.length a2)::(Bn a x38 d l f p)) n4 hx fun x0 n5=>?_
   obtain⟨x46,ex46,H⟩:=An H
   refine wl fun K hK=>?_
   refine wc [.c (.slice l f.2.length p)] n5 hx (CE n hx.has f.2 a8 ex46) fun aaq xa abf l6 ds hg=>?_
   replace aw:=aw.mono (XU (XU f0 e9) ds)
   obtain⟨c4,c6,rfl,h0⟩:=l6
   refine⟨.one (.c (.slice c4 x46.length c6)),rfl,fun u8 (n6:Kn 254 [(aa,0)] ((tS 46 c4 x46.length c6)::(tS 45 l f.2.length p)::(tA 44 (Iq b6 x44 cb b7 cc))::(tS 8 a0 x41.length a2)::(Bn a x38 d l f p)) u8)=>hK _ _ ?_⟩
   refine Rk 4 1 ((tS 47 a x38.length d)::(tS 46 c4 x46.length c6)::(tA 44 (Iq b6 x44 cb b7 cc))::(tS 8 a0 x41.length a2)::(Bn a x38 d l f p)) n6 hg fun x2 n7=>?_
   obtain⟨x48,ex48,H⟩:=An H
   refine wl fun K hK=>?_
   refine wc [.c (.slice a x38.length d)] n7 hg (CE n hg.has x38 aw ex48) fun aar xb abg l7 da hi=>?_
   replace c2:=c2.mono (XU (XU e9 ds) da)
   obtain⟨d2,d8,rfl,h1⟩:=l7
   refine⟨.one (.c (.slice d2 x48.length d8)),rfl,fun u9 (n9:Kn 254 [(aa,0)] ((tS 48 d2 x48.length d8)::(tS 47 a x38.length d)::(tS 46 c4 x46.length c6)::(tA 44 (Iq b6 x44 cb b7 cc))::(tS 8 a0 x41.length a2)::(Bn a x38 d l f p)) u9)=>hK _ _ ?_⟩
   refine Rk 6 1 ((tS 49 a0 x41.length a2)::(tS 48 d2 x48.length d8)::(tS 46 c4 x46.length c6)::(tA 44 (Iq b6 x44 cb b7 cc))::(tS 8 a0 x41.length a2)::(Bn a x38 d l f p)) n9 hi fun x3 oa=>?_
   obtain⟨x50,ex50,H⟩:=An H
   refine wl fun K hK=>?_
   refine wc [.c (.slice a0 x41.length a2)] oa hi (CE n hi.has x41 c2 ex50) fun aas mv abh l8 cw ke=>?_
   replace hy:=hy.mono (XU (XU ds da) cw)
   replace hz:=hz.mono (XU (XU ds da) cw)
   replace h0:=h0.mono (XU da cw)
   replace h1:=h1.mono cw
   obtain⟨fk,fr,rfl,tw⟩:=l8
   refine⟨.one (.c (.slice fk x50.length fr)),rfl,fun va (ob:Kn 254 [(aa,0)] ((tS 50 fk x50.length fr)::(tS 49 a0 x41.length a2)::(tS 48 d2 x48.length d8)::(tS 46 c4 x46.length c6)::(tA 44 (Iq b6 x44 cb b7 cc))::(tS 8 a0 x41.length a2)::(Bn a x38 d l f p)) va)=>hK _ _ ?_⟩
   obtain⟨x51,ex51,H⟩:=An H
   refine wl fun K hK=>?_
   refine wc [.agg (Iq b6 x44 cb b7 cc),.c (.slice c4 x46.length c6),.c (.slice d2 x48.length d8),.c (.slice fk x50.length fr)] ob ke (K4 n ke.has x44 ((Ab (Ag hy) (Ab (Ag hz) Ad)):rep mv x44 _) x46 h0 x48 h1 x50 tw ex51) fun aat mw abi l9 e7 f2=>?_
   replace ap:=ap.mono (XU (XU (XU (XU e9 ds) da) cw) e7)
   replace aq:=aq.mono (XU (XU (XU (XU e9 ds) da) cw) e7)
   obtain⟨_,_,rfl,⟨q,s,rfl,bb⟩,rfl⟩:=l9
   refine⟨.tup [.c (.slice q x51.1.length s),.c (.int .i64 x51.2)],rfl,fun vb (od:Kn 254 [(aa,0)] ((51,.tup [.c (.slice q x51.1.length s),.c (.int .i64 x51.2)])::(tS 50 fk x50.length fr)::(tS 49 a0 x41.length a2)::(tS 48 d2 x48.length d8)::(tS 46 c4 x46.length c6)::(tA 44 (Iq b6 x44 cb b7 cc))::(tS 8 a0 x41.length a2)::(Bn a x38 d l f p)) vb)=>hK _ _ ?_⟩
   refine Rk 9 5 ((tI 10 x51.2)::(tS 9 q x51.1.length s)::(tS 8 a0 x41.length a2)::(Bn a x38 d l f p)) od f2 fun x5 oe=>?_
   refine wf (XT (Aa (Rk 0 1 ((tA 55 (Bj ai y ak aj al))::(tI 10 x51.2)::(tS 9 q x51.1.length s)::(tS 8 a0 x41.length a2)::(Bn a x38 d l f p)) oe f2 fun x7 og=>?_)))
   obtain⟨x56,ex56,H⟩:=An H
   refine wl fun K hK=>?_
   refine wc [.agg (Bj ai y ak aj al)] og f2 (Kv n f2.has y ((Ab (Ag ap) (Ab (Ag aq) Ad)):rep mw y _) ex56) fun aau xc abj ma eg hl=>?_
   replace a8:=a8.mono (XU (XU (XU (XU ds da) cw) e7) eg)
   obtain⟨_,rfl,⟨_,_,rfl,⟨b8,cd,rfl,h2⟩,⟨_,_,rfl,⟨b9,ce,rfl,h3⟩,rfl⟩⟩⟩:=ma
   refine⟨.one (.agg (Ir b8 x56 cd b9 ce)),rfl,fun vc (oi:Kn 254 [(aa,0)] ((tA 56 (Ir b8 x56 cd b9 ce))::(tA 55 (Bj ai y ak aj al))::(tI 10 x51.2)::(tS 9 q x51.1.length s)::(tS 8 a0 x41.length a2)::(Bn a x38 d l f p)) vc)=>hK _ _ ?_⟩
   refine Rk 2 1 ((tS 57 l f.2.length p)::(tA 56 (Ir b8 x56 cd b9 ce))::(tI 10 x51.2)::(tS 9 q x51.1.length s)::(tS 8 a0 x41.length a2)::(Bn a x38 d l f p)) oi hl fun x8 oj=>?_
   obtain⟨x58,ex58,H⟩:=An H
   refine wl fun K hK=>?_
   refine wc [.c (.slice l f.2.length p)] oj hl (CE n hl.has f.2 a8 ex58) fun aav xd abk mb db hn=>?_
   replace aw:=aw.mono (XU (XU (XU (XU da cw) e7) eg) db)
   obtain⟨c5,c7,rfl,h4⟩:=mb
   refine⟨.one (.c (.slice c5 x58.length c7)),rfl,fun vd (ok:Kn 254 [(aa,0)] ((tS 58 c5 x58.length c7)::(tS 57 l f.2.length p)::(tA 56 (Ir b8 x56 cd b9 ce))::(tI 10 x51.2)::(tS 9 q x51.1.length s)::(tS 8 a0 x41.length a2)::(Bn a x38 d l f p)) vd)=>hK _ _ ?_⟩
   refine Rk 4 1 ((tS 59 a x38.length d)::(tS 58 c5 x58.length c7)::(tA 56 (Ir b8 x56 cd b9 ce))::(tI 10 x51.2)::(tS 9 q x51.1.length s)::(tS 8 a0 x41.length a2)::(Bn a x38 d l f p)) ok hn fun x9 ol=>?_
   obtain⟨x60,ex60,H⟩:=An H
   refine wl fun K hK=>?_
   refine wc [.c (.slice a x38.length d)] ol hn (CE n hn.has x38 aw ex60) fun aax xe abl mc cx ho=>?_
   replace c2:=c2.mono (XU (XU (XU (XU cw e7) eg) db) cx)
   obtain⟨d3,d9,rfl,h5⟩:=mc
   refine⟨.one (.c (.slice d3 x60.length d9)),rfl,fun ve (om:Kn 254 [(aa,0)] ((tS 60 d3 x60.length d9)::(tS 59 a x38.length d)::(tS 58 c5 x58.length c7)::(tA 56 (Ir b8 x56 cd b9 ce))::(tI 10 x51.2)::(tS 9 q x51.1.length s)::(tS 8 a0 x41.length a2)::(Bn a x38 d l f p)) ve)=>hK _ _ ?_⟩
   refine Rk 6 1 ((tS 61 a0 x41.length a2)::(tS 60 d3 x60.length d9)::(tS 58 c5 x58.length c7)::(tA 56 (Ir b8 x56 cd b9 ce))::(tI 10 x51.2)::(tS 9 q x51.1.length s)::(tS 8 a0 x41.length a2)::(Bn a x38 d l f p)) om ho fun ya oo=>?_
   obtain⟨x62,ex62,H⟩:=An H
   refine wl fun K hK=>?_
   refine wc [.c (.slice a0 x41.length a2)] oo ho (CE n ho.has x41 c2 ex62) fun aay mx abn md cr kf=>?_
   replace h2:=h2.mono (XU (XU db cx) cr)
   replace h3:=h3.mono (XU (XU db cx) cr)
   replace h4:=h4.mono (XU cx cr)
   replace h5:=h5.mono cr
   obtain⟨fl,fs,rfl,tx⟩:=md
   refine⟨.one (.c (.slice fl x62.length fs)),rfl,fun vf (op:Kn 254 [(aa,0)] ((tS 62 fl x62.length fs)::(tS 61 a0 x41.length a2)::(tS 60 d3 x60.length d9)::(tS 58 c5 x58.length c7)::(tA 56 (Ir b8 x56 cd b9 ce))::(tI 10 x51.2)::(tS 9 q x51.1.length s)::(tS 8 a0 x41.length a2)::(Bn a x38 d l f p)) vf)=>hK _ _ ?_⟩
   obtain⟨x63,ex63,H⟩:=An H
   refine wl fun K hK=>?_
   refine wc [.agg (Ir b8 x56 cd b9 ce),.c (.slice c5 x58.length c7),.c (.slice d3 x60.length d9),.c (.slice fl x62.length fs)] op kf (H7 n kf.has x56 ((Ab (Ag h2) (Ab (Ag h3) Ad)):rep mx x56 _) x58 h4 x60 h5 x62 tx ex63) fun aaz my abo mf eh f3=>?_
   replace ap:=ap.mono (XU (XU (XU (XU eg db) cx) cr) eh)
   replace aq:=aq.mono (XU (XU (XU (XU eg db) cx) cr) eh)
   replace c2:=c2.mono (XU cr eh)
   obtain⟨_,_,rfl,⟨g,m,rfl,a7⟩,rfl⟩:=mf
   refine⟨.tup [.c (.slice g x63.1.length m),.c (.int .i64 x63.2)],rfl,fun vg (oq:Kn 254 [(aa,0)] ((63,.tup [.c (.slice g x63.1.length m),.c (.int .i64 x63.2)])::(tS 62 fl x62.length fs)::(tS 61 a0 x41.length a2)::(tS 60 d3 x60.length d9)::(tS 58 c5 x58.length c7)::(tA 56 (Ir b8 x56 cd b9 ce))::(tI 10 x51.2)::(tS 9 q x51.1.length s)::(tS 8 a0 x41.length a2)::(Bn a x38 d l f p)) vg)=>hK _ _ ?_⟩
   refine Rk 9 5 ((tI 12 x63.2)::(tS 11 g x63.1.length m)::(tI 10 x51.2)::(tS 9 q x51.1.length s)::(tS 8 a0 x41.length a2)::(Bn a x38 d l f p)) oq f3 fun yb os=>?_
   refine wf (XT (Aa (Rk 0 2 ((tS 67 a0 x41.length a2)::(tA 66 (Bj ai y ak aj al))::(tI 12 x63.2)::(tS 11 g x63.1.length m)::(tI 10 x51.2)::(tS 9 q x51.1.length s)::(Bn a x38 d l f p)) os f3 fun yc ot=>?_)))
   obtain⟨x68,ex68,H⟩:=An H
   refine wl fun K hK=>?_
   refine wc [.agg (Bj ai y ak aj al),.c (.slice a0 x41.length a2)] ot f3 (Nn n f3.has y ((Ab (Ag ap) (Ab (Ag aq) Ad)):rep my y _) x41 c2 ex68) fun aa0 mz abp mg ei c0=>?_
   replace ap:=ap.mono ei
   replace aq:=aq.mono ei
   replace a8:=a8.mono (XU (XU (XU (XU db cx) cr) eh) ei)
   replace aw:=aw.mono (XU (XU (XU cx cr) eh) ei)
   replace bb:=bb.mono (XU (XU (XU (XU (XU eg db) cx) cr) eh) ei)
   replace a7:=a7.mono ei
   obtain⟨u,z,rfl,bh⟩:=mg
   refine⟨.one (.c (.slice u x68.length z)),rfl,fun vh (ou:Kn 254 [(aa,0)] ((tS 68 u x68.length z)::(tS 67 a0 x41.length a2)::(tA 66 (Bj ai y ak aj al))::(tI 12 x63.2)::(tS 11 g x63.1.length m)::(tI 10 x51.2)::(tS 9 q x51.1.length s)::(Bn a x38 d l f p)) vh)=>hK _ _ ?_⟩
   refine Rk 3 1 ((tS 13 u x68.length z)::(tI 12 x63.2)::(tS 11 g x63.1.length m)::(tI 10 x51.2)::(tS 9 q x51.1.length s)::(Bn a x38 d l f p)) ou c0 fun yd ov=>?_
   refine wf (XT (XT ?_))
   obtain⟨ld,dm,H⟩:=An H
   refine As (fun a' w'=>∃ (h7:Array Value)(bm:Ac),a' = ⟨h7,[]⟩∧Kn 254 [(aa,0)] [tS 13 u x68.length z,tS 11 g x63.1.length m,tS 9 q x51.1.length s,tS 7 a x38.length d,tS 5 l f.2.length p,tP 2 0 0,tB 81 ld] h7∧Ak ⟨w,h,AE⟩ bm [(aa,0)] [⟨Bj ai y ak aj al,some 25⟩] [] w'∧Ac.le mz bm) ?_ ?_
   ·
    refine Aa (Rk 0 3 ((tB 71 (x51.2 != 0))::(tS 13 u x68.length z)::(tI 12 x63.2)::(tS 11 g x63.1.length m)::(tS 9 q x51.1.length s)::(Bn a x38 d l f p)) ov c0 fun lo i4=>?_)
    rcases Bool.eq_false_or_eq_true ((x51.2 != 0)) with et | et
    ·
     rw [et,XW] at dm
     have ow:Kn 254 [(aa,0)] ((tB 71 true)::(tS 13 u x68.length z)::(tI 12 x63.2)::(tS 11 g x63.1.length m)::(tS 9 q x51.1.length s)::(Bn a x38 d l f p)) lo:=(i4.setB 71 true (by rfl) et).kp
     refine Rk 3 10 ((tB 81 true)::(tS 13 u x68.length z)::(tS 11 g x63.1.length m)::(tS 9 q x51.1.length s)::(Bn a x38 d l f p)) ow c0 fun ye oy=>?_
     refine wf ?_
     obtain rfl:=XZ dm
     exact XY _ ⟨_,rfl,oy.kp,c0,Ac.le_refl _⟩
    ·
     rw [et,XV] at dm
     have oz:Kn 254 [(aa,0)] ((tB 71 false)::(tS 13 u x68.length z)::(tI 12 x63.2)::(tS 11 g x63.1.length m)::(tS 9 q x51.1.length s)::(Bn a x38 d l f p)) lo:=(i4.setB 71 false (by rfl) et).kp
     refine Rk 3 4 ((tB 75 (x63.2 != 0))::(tS 13 u x68.length z)::(tS 11 g x63.1.length m)::(tS 9 q x51.1.length s)::(Bn a x38 d l f p)) oz c0 fun lp i5=>?_
     rcases Bool.eq_false_or_eq_true ((x63.2 != 0)) with eu | eu
     ·
      rw [eu,XW] at dm
      have o0:Kn 254 [(aa,0)] ((tB 75 true)::(tS 13 u x68.length z)::(tS 11 g x63.1.length m)::(tS 9 q x51.1.length s)::(Bn a x38 d l f p)) lp:=(i5.setB 75 true (by rfl) eu).kp
      refine Rk 7 6 ((tB 81 true)::(tS 13 u x68.length z)::(tS 11 g x63.1.length m)::(tS 9 q x51.1.length s)::(Bn a x38 d l f p)) o0 c0 fun yf o1=>?_
      refine wf ?_
      obtain rfl:=XZ dm
      exact XY _ ⟨_,rfl,o1.kp,c0,Ac.le_refl _⟩
     ·
      rw [eu,XV] at dm
      have o2:Kn 254 [(aa,0)] ((tB 75 false)::(tS 13 u x68.length z)::(tS 11 g x63.1.length m)::(tS 9 q x51.1.length s)::(Bn a x38 d l f p)) lp:=(i5.setB 75 false (by rfl) eu).kp
      refine Rk 7 6 ((tB 81 (((x51.1.length:Nat):Int) != ((x68.length:Nat):Int)))::(tS 13 u x68.length z)::(tS 11 g x63.1.length m)::(tS 9 q x51.1.length s)::(Bn a x38 d l f p)) o2 c0 fun yg o3=>?_
      refine wf ?_
      obtain rfl:=XZ dm
      exact XY _ ⟨_,rfl,o3.kp,c0,Ac.le_refl _⟩
   ·
    rintro _ l3 ⟨h7,bm,rfl,g0,dv,dt⟩
    replace ap:=ap.mono dt
    replace aq:=aq.mono dt
    replace a8:=a8.mono dt
    replace aw:=aw.mono dt
    replace bb:=bb.mono dt
    replace a7:=a7.mono dt
    replace bh:=bh.mono dt
    refine wC (ld) g0 (fun gm=>?_) (fun gm=>?_)
    ·
     rw [Bb gm] at H
     refine XT (Aa (Rk 0 1 [tB 4 false] g0 dv fun yh o4=>?_))
     refine wf (wp_ret ?_)
     obtain rfl:=XZ H
     exact rt (.one (.c (.bool false))) o4 dv rfl
    ·
     rw [Bc gm] at H
     refine wp_skip (XT (Aa (Rk 0 4 (FR y u x68 z g x63 m q x51 s a x38 d l f p) g0 dv fun yi o5=>?_)))
     refine wf (XT (Av (by kernel_rfl) ?_))
     replace dv:=dv.drew
     refine A3 [] [(aa,0)] [⟨Bj ai y ak aj al,some 25⟩] ?_
     refine Dr [0,2] [2,0] ((tI 87 ((y.buses.length:Nat):Int))::(tI 85 ((y.buses.length:Nat):Int))::(FR y u x68 z g x63 m q x51 s a x38 d l f p)) o5 dv fun yj i6=>?_
     obtain⟨x86,ex86,H⟩:=An H
     obtain⟨x88,ex88,H⟩:=An H
     have st:Ak ⟨w,h,AE⟩ bm [(aa,0)] [⟨Bj ai y ak aj al,some 25⟩] [⟨none,0,0,4,1,[],0⟩] (World.drew l3):=dv.nilRow 4 1
     have xq:Af bm ([]:List Bool) []:=Af.nil
     have kg:Ak ⟨w,h,AE⟩ bm [(aa,0)] [⟨Bj ai y ak aj al,some 25⟩] [⟨none,0,0,4,1,[],0⟩,⟨none,0,0,4,1,[],0⟩] (World.drew l3):=st.nilRow 4 1
     have xr:Af bm ([]:List Bool) []:=Af.nil
     refine KC (fun W=>∀ (d4:Option Addr),∀ (ea:Nat),∀ (gd:List Value),∀ (d5:Option Addr),∀ (eb:Nat),∀ (gf:List Value),∀ a' w',(∃ (h8:Array Value)(dp:Ac),a' = ⟨h8,[]⟩∧Kn 254 [(aa,0)] ((tS 16 d5 x88.length eb)::(tS 15 d4 x86.length ea)::(FR y u x68 z g x63 m q x51 s a x38 d l f p)) h8∧Ak ⟨w,h,AE⟩ dp [(aa,0)] [⟨Bj ai y ak aj al,some 25⟩] [⟨d4,x86.length,ea,4,1,gd,0⟩,⟨d5,x88.length,eb,4,1,gf,0⟩] w'∧Ac.le bm dp∧Af dp x86 gd∧Af dp x88 gf)→W [(aa,0)] [⟨Bj ai y ak aj al,some 25⟩] [5,4,1,3,2,0] a' w') ?_ (fun lc=>?_)
     ·
      intro d4 ea gd d5 eb gf
      rintro _ abq ⟨h8,dp,rfl,o6,hp,du,nf,ng⟩
      replace ap:=ap.mono du
      replace aq:=aq.mono du
      replace a8:=a8.mono du
      replace aw:=aw.mono du
      replace bb:=bb.mono du
      replace a7:=a7.mono du
      replace bh:=bh.mono du
      refine A8 (by kernel_rfl) (XT (Aa (Rk 0 1 ((tI 17 0)::(tS 16 d5 x88.length eb)::(tS 15 d4 x86.length ea)::(FR y u x68 z g x63 m q x51 s a x38 d l f p)) o6 hp fun yk o7=>?_)))
      refine wf (XT (XT (Aa (Rk 0 1 ((tI 18 0)::(tI 17 0)::(tS 16 d5 x88.length eb)::(tS 15 d4 x86.length ea)::(FR y u x68 z g x63 m q x51 s a x38 d l f p)) o7 hp fun yl o8=>?_))))
      refine wf ?_
      obtain⟨lf,iq,H⟩:=An H
      refine As (fun a' w'=>∃ (am:(List Bool)×(List Bool)×Int)(fm:Option Addr)(ft:Nat)(fj:List Value)(ar:Option Addr)(au:Nat)(em:List Value)(ia:Array Value)(dq:Ac),a' = ⟨ia,[]⟩∧Kn 254 [(aa,0)] (Bv am ar au y g x63 m) ia∧Ak ⟨w,h,AE⟩ dq [(aa,0)] [⟨Bj ai y ak aj al,some 25⟩] [⟨fm,am.1.length,ft,4,1,fj,0⟩,⟨ar,am.2.1.length,au,4,1,em,0⟩] w'∧Ac.le dp dq∧Af dq am.1 fj∧Af dq am.2.1 em∧lf=.go am) ?_ ?_
      ·
       refine wp_block ?_
       refine At (fun u3 a' w'=>∃ (x_v10:List Bool)(x_v11:List Bool)(x_v12:Int)(x_v13:Int)(ab:Option Addr)(ac:Nat)(bi:List Value)(ci:Option Addr)(cl:Nat)(fi:List Value)(ib:Array Value)(dr:Ac),a' = ⟨ib,[]⟩∧Kn 254 [(aa,0)] ((tI 18 x_v12)::(tI 17 x_v13)::(tS 16 ci x_v11.length cl)::(DR ab x_v10 ac y u x68 z g x63 m q x51 s a x38 d l f p)) ib∧Ak ⟨w,h,AE⟩ dr [(aa,0)] [⟨Bj ai y ak aj al,some 25⟩] [⟨ab,x_v10.length,ac,4,1,bi,0⟩,⟨ci,x_v11.length,cl,4,1,fi,0⟩] w'∧Ac.le dp dr∧Af dr x_v10 bi∧Af dr x_v11 fi∧BW u3 y f x38 x51 x68 x86 x_v10 x_v11 x_v12 x_v13=some lf) n ?_ ?_
       ·
        exact XY x86 ⟨x88,0,0,d4,ea,gd,d5,eb,gf,_,_,rfl,o8.kp,hp,Ac.le_refl _,nf,ng,iq⟩
       ·
        rintro fg _ abr ⟨x_v10,x_v11,x_v12,x_v13,ab,ac,bi,ci,cl,fi,ib,dr,rfl,o9,f5,cy,a9,iz,bd⟩
        clear iq
        obtain _ | fg:=fg
        ·
         rw [BW] at bd; cases bd
        rw [BW] at bd
        replace ap:=ap.mono cy
        replace aq:=aq.mono cy
        replace a8:=a8.mono cy
        replace aw:=aw.mono cy
        replace bb:=bb.mono cy
        replace a7:=a7.mono cy
        replace bh:=bh.mono cy
        refine XT (XT (Aa (Rk 0 4 ((tB 92 (decide (x_v12<((x51.1.length:Nat):Int))))::(tI 18 x_v12)::(tI 17 x_v13)::(tS 16 ci x_v11.length cl)::(DR ab x_v10 ac y u x68 z g x63 m q x51 s a x38 d l f p)) o9 f5 fun ym g1=>?_)))
        refine wf (wC (decide (x_v12<((x51.1.length:Nat):Int))) g1 (fun gn=>?_) (fun gn=>?_))
        ·
         rw [gn,XW] at bd
         refine wp_skip (XT (wp_block (XT (Aa (Rk 0 2 ((tI 96 x_v12)::(tS 95 u x68.length z)::(tI 18 x_v12)::(tI 17 x_v13)::(tS 16 ci x_v11.length cl)::(DR ab x_v10 ac y u x68 z g x63 m q x51 s a x38 d l f p)) g1 f5 fun yn pa=>?_)))))
         obtain⟨x97,ex97,bd⟩:=An bd
         obtain⟨sy,tf,ui⟩:=Ah ex97
         obtain⟨af,ag,wr,m2,tz,nh⟩:=bh.get (by decide) ui
         obtain rfl:=tz
         have f6:=f5.addPlc (b:=af) (o:=ag+(x_v12:Int).toNat*1) (cs:=[.int .i64 x97]) (fun j c hj=>nh j _ (Ai hj)) rfl (by kernel_rfl) (by kernel_rfl)
         refine A7 2 (x_v12) rfl rfl (rfl) rfl (by decide) pa (by rfl) (by rfl) (by rfl) m2 (by rfl) sy tf (by kernel_rfl) fun vi (pb:Kn 254 (Ip aa af ag x_v12) ((tP 97 1 0)::(tI 96 x_v12)::(tS 95 u x68.length z)::(tI 18 x_v12)::(tI 17 x_v13)::(tS 16 ci x_v11.length cl)::(DR ab x_v10 ac y u x68 z g x63 m q x51 s a x38 d l f p)) vi)=>?_
         refine Rk 3 2 ((tI 19 x97)::(tI 18 x_v12)::(tI 17 x_v13)::(tS 16 ci x_v11.length cl)::(DR ab x_v10 ac y u x68 z g x63 m q x51 s a x38 d l f p)) pb f6 fun yp pc=>?_
         refine wf (XT (Aa (Rk 0 1 ((tI 20 (-1))::(tI 19 x97)::(tI 18 x_v12)::(tI 17 x_v13)::(tS 16 ci x_v11.length cl)::(DR ab x_v10 ac y u x68 z g x63 m q x51 s a x38 d l f p)) pc f6 fun yq pd=>?_)))
         refine wf (XT (XT (Aa (Rk 0 1 ((tI 21 0)::(tI 20 (-1))::(tI 19 x97)::(tI 18 x_v12)::(tI 17 x_v13)::(tS 16 ci x_v11.length cl)::(DR ab x_v10 ac y u x68 z g x63 m q x51 s a x38 d l f p)) pd f6 fun yr pe=>?_))))
         refine wf ?_
         obtain⟨lg,ir,bd⟩:=An bd
         refine As (fun a' w'=>∃ (ah:(List Bool)×Int)(an:Option Addr)(ao:Nat)(dk:List Value)(ic:Array Value)(ee:Ac),a' = ⟨ic,[]⟩∧Kn 254 (Ip aa af ag x_v12) (Bm x97 x_v12 ah an ao ab x_v10 ac y u x68 z g x63 m q x51 s a x38 d l f p) ic∧Ak ⟨w,h,AE⟩ ee (Ip aa af ag x_v12) [⟨Bj ai y ak aj al,some 25⟩,⟨[.int .i64 x97],none⟩] [⟨ab,x_v10.length,ac,4,1,bi,0⟩,⟨an,ah.1.length,ao,4,1,dk,0⟩] w'∧Ac.le dr ee∧Af ee ah.1 dk∧lg=.go ah) ?_ ?_
         ·
          refine wp_block ?_
          refine At (fun u4 a' w'=>∃ (x_v20:List Bool)(x_v21:Int)(x_v22:Int)(x_v23:Int)(ad:Option Addr)(ae:Nat)(b5:List Value)(ie:Array Value)(es:Ac),a' = ⟨ie,[]⟩∧Kn 254 (Ip aa af ag x_v12) (Ba x_v21 x_v22 x97 x_v12 x_v23 ad x_v20 ae ab x_v10 ac y u x68 z g x63 m q x51 s a x38 d l f p) ie∧Ak ⟨w,h,AE⟩ es (Ip aa af ag x_v12) [⟨Bj ai y ak aj al,some 25⟩,⟨[.int .i64 x97],none⟩] [⟨ab,x_v10.length,ac,4,1,bi,0⟩,⟨ad,x_v20.length,ae,4,1,b5,0⟩] w'∧Ac.le dr es∧Af es x_v20 b5∧BV u4 y f x38 x51 x86 x_v10 x_v12 x97 x_v20 x_v21 x_v22 x_v23=some lg) fg ?_ ?_
          ·
           exact XY x_v11 ⟨0,(-1),x_v13,ci,cl,fi,_,_,rfl,pe.kp,f6,Ac.le_refl _,iz,ir⟩
          ·
           rintro dh _ abs ⟨x_v20,x_v21,x_v22,x_v23,ad,ae,b5,ie,es,rfl,pg,kh,ct,bq,ba⟩
           clear ir
           obtain _ | dh:=dh
           ·
            rw [BV] at ba; cases ba
           rw [BV] at ba
           replace ap:=ap.mono ct
           replace aq:=aq.mono ct
           replace a8:=a8.mono ct
           replace aw:=aw.mono ct
           replace bb:=bb.mono ct
           replace a7:=a7.mono ct
           replace bh:=bh.mono ct
           replace a9:=a9.mono ct
           refine XT (XT (Aa (Rk 0 3 ((tI 101 x_v12)::(tS 100 q x51.1.length s)::(tI 99 x_v21)::(Ba x_v21 x_v22 x97 x_v12 x_v23 ad x_v20 ae ab x_v10 ac y u x68 z g x63 m q x51 s a x38 d l f p)) pg kh fun ys ph=>?_)))
           obtain⟨x102,ex102,ba⟩:=An ba
           obtain⟨s0,tg,uj⟩:=Ah ex102
           obtain⟨av,ax,ws,m3,t0,ni⟩:=bb.get (by decide) uj
           obtain⟨fn,fu,rfl,el⟩:=t0
           have f7:=kh.addPlc (b:=av) (o:=ax+(x_v12:Int).toNat*1) (cs:=[.slice fn x102.length fu]) (fun j c hj=>ni j _ (Ai hj)) rfl (by kernel_rfl) (by kernel_rfl)
           refine A7 3 (x_v12) rfl rfl (rfl) rfl (by decide) ph (by rfl) (by rfl) (by rfl) m3 (by rfl) s0 tg (by kernel_rfl) fun vj (pi:Kn 254 [(aa,0),(af,ag+(x_v12:Int).toNat*1),(av,ax+(x_v12:Int).toNat*1)] ((tP 102 2 0)::(tI 101 x_v12)::(tS 100 q x51.1.length s)::(tI 99 x_v21)::(Ba x_v21 x_v22 x97 x_v12 x_v23 ad x_v20 ae ab x_v10 ac y u x68 z g x63 m q x51 s a x38 d l f p)) vj)=>?_
           refine Rk 4 3 ((tB 105 (decide (x_v21<((x102.length:Nat):Int))))::(Ba x_v21 x_v22 x97 x_v12 x_v23 ad x_v20 ae ab x_v10 ac y u x68 z g x63 m q x51 s a x38 d l f p)) pi f7 fun yt g2=>?_
           refine wf (wC (decide (x_v21<((x102.length:Nat):Int))) g2 (fun gq=>?_) (fun gq=>?_))
           ·
            rw [gq,XW] at ba
            refine wp_skip (XT (wp_block (XT (Aa (Rk 0 2 ((tI 109 x_v12)::(tS 108 q x51.1.length s)::(Ba x_v21 x_v22 x97 x_v12 x_v23 ad x_v20 ae ab x_v10 ac y u x68 z g x63 m q x51 s a x38 d l f p)) g2 f7 fun yu pj=>?_)))))
            obtain⟨x110,ex110,ba⟩:=An ba
            obtain⟨s1,th,uk⟩:=Ah ex110
            obtain⟨ay,az,wt,m4,t1,nj⟩:=bb.get (by decide) uk
            obtain⟨d6,ec,rfl,d1⟩:=t1
            have ki:=f7.addPlc (b:=ay) (o:=az+(x_v12:Int).toNat*1) (cs:=[.slice d6 x110.length ec]) (fun j c hj=>nj j _ (Ai hj)) rfl (by kernel_rfl) (by kernel_rfl)
            refine A7 2 (x_v12) rfl rfl (rfl) rfl (by decide) pj (by rfl) (by rfl) (by rfl) m4 (by rfl) s1 th (by kernel_rfl) fun vk (pk:Kn 254 [(aa,0),(af,ag+(x_v12:Int).toNat*1),(av,ax+(x_v12:Int).toNat*1),(ay,az+(x_v12:Int).toNat*1)] ((tP 110 3 0)::(tI 109 x_v12)::(tS 108 q x51.1.length s)::(Ba x_v21 x_v22 x97 x_v12 x_v23 ad x_v20 ae ab x_v10 ac y u x68 z g x63 m q x51 s a x38 d l f p)) vk)=>?_
            refine Rk 3 2 ((tI 112 x_v21)::(tS 111 d6 x110.length ec)::(Ba x_v21 x_v22 x97 x_v12 x_v23 ad x_v20 ae ab x_v10 ac y u x68 z g x63 m q x51 s a x38 d l f p)) pk ki fun yv pl=>?_
            obtain⟨x113,ex113,ba⟩:=An ba
            obtain⟨s2,ti,ul⟩:=Ah ex113
            obtain⟨a1,a3,wu,m5,t2,nk⟩:=d1.get (by decide) ul
            obtain rfl:=t2
            have ek:=ki.addPlc (b:=a1) (o:=a3+(x_v21:Int).toNat*1) (cs:=[.int .i64 x113]) (fun j c hj=>nk j _ (Ai hj)) rfl (by kernel_rfl) (by kernel_rfl)
            refine A7 5 (x_v21) rfl rfl (rfl) rfl (by decide) pl (by rfl) (by rfl) (by rfl) m5 (by rfl) s2 ti (by kernel_rfl) fun vl (pm:Kn 254 (Kx aa af ag x_v12 av ax ay az a1 a3 x_v21) ((tP 113 4 0)::(tI 112 x_v21)::(tS 111 d6 x110.length ec)::(Ba x_v21 x_v22 x97 x_v12 x_v23 ad x_v20 ae ab x_v10 ac y u x68 z g x63 m q x51 s a x38 d l f p)) vl)=>?_
            refine Rk 6 2 ((tI 22 x113)::(Ba x_v21 x_v22 x97 x_v12 x_v23 ad x_v20 ae ab x_v10 ac y u x68 z g x63 m q x51 s a x38 d l f p)) pm ek fun yw pn=>?_
            refine wf (XT (XT ?_))
            obtain⟨lh,a4,ba⟩:=An ba
            refine As (fun a' w'=>∃ (ig:Array Value)(gh:Ac),a' = ⟨ig,[]⟩∧Kn 254 (Kx aa af ag x_v12 av ax ay az a1 a3 x_v21) [tI 22 x113,tI 21 x_v21,tI 19 x97,tI 18 x_v12,tI 17 x_v23,tS 16 ad x_v20.length ae,tS 15 ab x_v10.length ac,tI 14 ((y.buses.length:Nat):Int),tS 13 u x68.length z,tS 11 g x63.1.length m,tS 9 q x51.1.length s,tS 7 a x38.length d,tS 5 l f.2.length p,tB 158 lh] ig∧Ak ⟨w,h,AE⟩ gh (Kx aa af ag x_v12 av ax ay az a1 a3 x_v21) [⟨Bj ai y ak aj al,some 25⟩,⟨[.int .i64 x97],none⟩,⟨[.slice fn x102.length fu],none⟩,⟨[.slice d6 x110.length ec],none⟩,⟨[.int .i64 x113],none⟩] [⟨ab,x_v10.length,ac,4,1,bi,0⟩,⟨ad,x_v20.length,ae,4,1,b5,0⟩] w'∧Ac.le es gh) ?_ ?_
            ·
             refine Av (by kernel_rfl) ?_
             replace ek:=ek.drew
             refine A3 [] (Kx aa af ag x_v12 av ax ay az a1 a3 x_v21) [⟨Bj ai y ak aj al,some 25⟩,⟨[.int .i64 x97],none⟩,⟨[.slice fn x102.length fu],none⟩,⟨[.slice d6 x110.length ec],none⟩,⟨[.int .i64 x113],none⟩] ?_
             refine Dr [0,1,2] [2,1,0] ((tI 117 (IntKind.i64.wrap (((y.buses.length:Nat):Int)-1)))::(tI 115 x113)::(tI 22 x113)::(Ba x_v21 x_v22 x97 x_v12 x_v23 ad x_v20 ae ab x_v10 ac y u x68 z g x63 m q x51 s a x38 d l f p)) pn ek fun yx po=>?_
             obtain⟨x118,ex118,a4⟩:=An a4
             refine Dl 3 fun K hK=>?_
             refine wc [.c (.int .i64 x113),.c (.int .i64 0),.c (.int .i64 (IntKind.i64.wrap (((y.buses.length:Nat):Int)-1)))] po ek (Ff dh ek.has x113 0 (IntKind.i64.wrap (((y.buses.length:Nat):Int)-1)) ex118) fun aa2 xg abu mi bl dd=>?_
             replace ap:=ap.mono bl
             replace aq:=aq.mono bl
             replace a8:=a8.mono bl
             replace aw:=aw.mono bl
             replace bb:=bb.mono bl
             replace a7:=a7.mono bl
             replace bh:=bh.mono bl
             replace el:=el.mono bl
             replace d1:=d1.mono bl
             replace a9:=a9.mono bl
             replace bq:=bq.mono bl
             obtain rfl:=mi
             refine⟨.one (.c (.bool x118)),rfl,fun vm (pp:Kn 254 (Kx aa af ag x_v12 av ax ay az a1 a3 x_v21) ((tB 118 x118)::(tI 117 (IntKind.i64.wrap (((y.buses.length:Nat):Int)-1)))::(tI 115 x113)::(tI 22 x113)::(Ba x_v21 x_v22 x97 x_v12 x_v23 ad x_v20 ae ab x_v10 ac y u x68 z g x63 m q x51 s a x38 d l f p)) vm)=>hK _ _ dd.plOk ?_⟩
             refine Dr [4,5] (dn 5) ((tB 120 (!x118))::(tI 22 x113)::(Ba x_v21 x_v22 x97 x_v12 x_v23 ad x_v20 ae ab x_v10 ac y u x68 z g x63 m q x51 s a x38 d l f p)) pp dd fun lq i7=>?_
             rcases Bool.eq_false_or_eq_true ((!x118)) with ev | ev
             ·
              rw [ev,XW] at a4
              have pq:Kn 254 (Kx aa af ag x_v12 av ax ay az a1 a3 x_v21) ((tB 120 true)::(tI 22 x113)::(Ba x_v21 x_v22 x97 x_v12 x_v23 ad x_v20 ae ab x_v10 ac y u x68 z g x63 m q x51 s a x38 d l f p)) lq:=(i7.setB 120 true (by rfl) ev).kp
              refine Dr [6,7,8,9,10,11,12,13,14,15,16,17,18,19,20,21,22,23,24,25,26,27,28,29,30,31,32,33,34,35,36,37,38,39,40,41,42,43] (dn 43) ((tB 158 true)::(tI 22 x113)::(E2 x_v21 x97 x_v12 x_v23 ad x_v20 ae ab x_v10 ac y u x68 z g x63 m q x51 s a x38 d l f p)) pq dd fun yy pr=>?_
              refine A8 (by kernel_rfl) ?_
              obtain rfl:=XZ a4
              exact XY _ ⟨_,rfl,pr.kp,dd,bl⟩
             ·
              rw [ev,XV] at a4
              have ps:Kn 254 (Kx aa af ag x_v12 av ax ay az a1 a3 x_v21) ((tB 120 false)::(tI 22 x113)::(Ba x_v21 x_v22 x97 x_v12 x_v23 ad x_v20 ae ab x_v10 ac y u x68 z g x63 m q x51 s a x38 d l f p)) lq:=(i7.setB 120 false (by rfl) ev).kp
              refine Dr [6,7] (dn 7) ((tI 122 x113)::(tS 121 ab x_v10.length ac)::(tB 120 false)::(tI 22 x113)::(Ba x_v21 x_v22 x97 x_v12 x_v23 ad x_v20 ae ab x_v10 ac y u x68 z g x63 m q x51 s a x38 d l f p)) ps dd fun yz i8=>?_
              obtain⟨x123,ex123,a4⟩:=An a4
              obtain⟨ks,kz,um⟩:=Ah ex123
              have sl:=Aw ks kz
              obtain⟨wv,t3,nl⟩:=Ay (sz:=1) rfl a9 um
              obtain rfl:=t3
              obtain⟨be,bc⟩:=A6 dd (i:=0) rfl (b0:=0+(x113:Int).toNat*1) (Nat.lt_of_lt_of_le (Nat.lt_add_of_pos_right (by decide)) (Am (sz:=1) rfl a9 sl))
              have cm:=dd.addPlc (b:=be) (o:=0+(x113:Int).toNat*1) (cs:=[]) (fun j c hj=>by simp at hj) rfl (by kernel_rfl) (by kernel_rfl)
              have bf:∀ (e:AA) k c,([.bool x123]:List SC)[k]? = some c→(bi)[0+(x113:Int).toNat*1+k]? = some (c.den e):=fun e k c hk=>nl k _ (Ai hk)
              refine A4 8 (x113) [.bool x123] (fun _ _ _ _ _ h=>h) rfl rfl (Aj i8 (by kernel_rfl)) rfl (by decide) (by kernel_rfl) (by kernel_rfl) i8 dd.plOk (by rfl) (by rfl) (by rfl) bc (by rfl) ks kz (by kernel_rfl) fun vo (pu:Kn 254 [(aa,0),(af,ag+(x_v12:Int).toNat*1),(av,ax+(x_v12:Int).toNat*1),(ay,az+(x_v12:Int).toNat*1),(a1,a3+(x_v21:Int).toNat*1),(be,0+(x113:Int).toNat*1)] ((tP 123 5 0)::(tI 122 x113)::(tS 121 ab x_v10.length ac)::(tB 120 false)::(tI 22 x113)::(Ba x_v21 x_v22 x97 x_v12 x_v23 ad x_v20 ae ab x_v10 ac y u x68 z g x63 m q x51 s a x38 d l f p)) vo)=>?_
              refine AQ [9,10,11] [11,10,9,8,7,6,5,4,3,2,1,0] [126,22,21,20,19,18,17,16,15,14,13,11,9,7,5] ((tB 126 x123)::(tI 22 x113)::(Ba x_v21 x_v22 x97 x_v12 x_v23 ad x_v20 ae ab x_v10 ac y u x68 z g x63 m q x51 s a x38 d l f p)) (fun _ _ _ _ _ h=>h) pu (Ap.peek cm.plOk cm 0 5 rfl rfl bc [.bool x123] (bf _)) (by kernel_rfl) (by rfl) (by kernel_rfl) fun lr i9=>?_
              rcases Bool.eq_false_or_eq_true (x123) with ew | ew
              ·
               rw [Bb ew] at a4
               have pv:Kn 254 [(aa,0),(af,ag+(x_v12:Int).toNat*1),(av,ax+(x_v12:Int).toNat*1),(ay,az+(x_v12:Int).toNat*1),(a1,a3+(x_v21:Int).toNat*1),(be,0+(x113:Int).toNat*1)] ((tB 126 true)::(tI 22 x113)::(Ba x_v21 x_v22 x97 x_v12 x_v23 ad x_v20 ae ab x_v10 ac y u x68 z g x63 m q x51 s a x38 d l f p)) lr:=(i9.setB 126 true (by rfl) ew).kp
               refine AQ [12,13,14,15,16,17,18,19,20,21,22,23,24,25,26,27,28,29,30,31,32,33,34,35,36,37,38,39,40,41,42,43] [43,42,41,40,39,38,37,36,35,34,33,32,31,30,29,28,27,26,25,24,23,22,21,20,19,18,17,16,15,14,13,12,11,10,9,8,7,6,5,4,3,2,1,0] [158,22,21,19,18,17,16,15,14,13,11,9,7,5] ((tB 158 true)::(tI 22 x113)::(E2 x_v21 x97 x_v12 x_v23 ad x_v20 ae ab x_v10 ac y u x68 z g x63 m q x51 s a x38 d l f p)) (fun _ _ _ _ _ h=>h) pv (Ap.peek cm.plOk cm 0 5 rfl rfl bc [.bool x123] (bf _)) (by kernel_rfl) (by rfl) (by kernel_rfl) fun y0 pw=>?_
               refine A8 (by kernel_rfl) ?_
               obtain rfl:=XZ a4
               exact XY _ ⟨_,rfl,(pw.keep [22,21,19,18,17,16,15,14,13,11,9,7,5,158] (by rfl)).cut 5 (by kernel_rfl),cm.cutPl 5 (by kernel_rfl),bl⟩
              ·
               rw [Bc ew] at a4
               have px:Kn 254 [(aa,0),(af,ag+(x_v12:Int).toNat*1),(av,ax+(x_v12:Int).toNat*1),(ay,az+(x_v12:Int).toNat*1),(a1,a3+(x_v21:Int).toNat*1),(be,0+(x113:Int).toNat*1)] ((tB 126 false)::(tI 22 x113)::(Ba x_v21 x_v22 x97 x_v12 x_v23 ad x_v20 ae ab x_v10 ac y u x68 z g x63 m q x51 s a x38 d l f p)) lr:=(i9.setB 126 false (by rfl) ew).kp
               refine AQ [12,13] [13,12,11,10,9,8,7,6,5,4,3,2,1,0] [128,127,126,22,21,20,19,18,17,16,15,14,13,11,9,7,5] ((tI 128 x113)::(tS 127 ad x_v20.length ae)::(tB 126 false)::(tI 22 x113)::(Ba x_v21 x_v22 x97 x_v12 x_v23 ad x_v20 ae ab x_v10 ac y u x68 z g x63 m q x51 s a x38 d l f p)) (fun _ _ _ _ _ h=>h) px (Ap.peek cm.plOk cm 0 5 rfl rfl bc [.bool x123] (bf _)) (by kernel_rfl) (by rfl) (by kernel_rfl) fun y1 ja=>?_
               obtain⟨x129,ex129,a4⟩:=An a4
               obtain⟨kt,k0,un⟩:=Ah ex129
               have sm:=Aw kt k0
               obtain⟨ww,t4,nm⟩:=Ay (sz:=1) rfl bq un
               obtain rfl:=t4
               obtain⟨bj,bk⟩:=A6 cm (i:=1) rfl (b0:=0+(x113:Int).toNat*1) (Nat.lt_of_lt_of_le (Nat.lt_add_of_pos_right (by decide)) (Am (sz:=1) rfl bq sm))
               have bx:=cm.addPlc (b:=bj) (o:=0+(x113:Int).toNat*1) (cs:=[]) (fun j c hj=>by simp at hj) rfl (by kernel_rfl) (by kernel_rfl)
               have bn:∀ (e:AA) k c,([.bool x129]:List SC)[k]? = some c→(b5)[0+(x113:Int).toNat*1+k]? = some (c.den e):=fun e k c hk=>nm k _ (Ai hk)
               refine A4 14 (x113) [.bool x129] (fun _ _ _ _ _ h=>h) rfl rfl (Aj ja (by kernel_rfl)) rfl (by decide) (by kernel_rfl) (by kernel_rfl) ja (Ap.peek cm.plOk cm 0 5 rfl rfl bc [.bool x123] (bf _)) (by rfl) (by rfl) (by rfl) bk (by rfl) kt k0 (by kernel_rfl) fun vp (pz:Kn 254 (Qr aa af ag x_v12 av ax ay az a1 a3 x_v21 be x113 bj) ((tP 129 6 0)::(tI 128 x113)::(tS 127 ad x_v20.length ae)::(tB 126 false)::(tI 22 x113)::(Ba x_v21 x_v22 x97 x_v12 x_v23 ad x_v20 ae ab x_v10 ac y u x68 z g x63 m q x51 s a x38 d l f p)) vp)=>?_
               refine AQ [15,16,17] [17,16,15,14,13,12,11,10,9,8,7,6,5,4,3,2,1,0] [132,22,21,20,19,18,17,16,15,14,13,11,9,7,5] ((tB 132 x129)::(tI 22 x113)::(Ba x_v21 x_v22 x97 x_v12 x_v23 ad x_v20 ae ab x_v10 ac y u x68 z g x63 m q x51 s a x38 d l f p)) (fun _ _ _ _ _ h=>h) pz (Ap.peek (Ap.peek bx.plOk bx 0 5 rfl rfl bc [.bool x123] (bf _)) bx 1 6 rfl rfl bk [.bool x129] (bn _)) (by kernel_rfl) (by rfl) (by kernel_rfl) fun ls jb=>?_
               rcases Bool.eq_false_or_eq_true (x129) with ex | ex
               ·
                rw [Bb ex] at a4
                have p0:Kn 254 (Qr aa af ag x_v12 av ax ay az a1 a3 x_v21 be x113 bj) ((tB 132 true)::(tI 22 x113)::(Ba x_v21 x_v22 x97 x_v12 x_v23 ad x_v20 ae ab x_v10 ac y u x68 z g x63 m q x51 s a x38 d l f p)) ls:=(jb.setB 132 true (by rfl) ex).kp
                refine AQ [18,19,20,21,22,23,24,25,26,27,28,29,30,31,32,33,34,35,36,37,38,39,40,41,42,43] [43,42,41,40,39,38,37,36,35,34,33,32,31,30,29,28,27,26,25,24,23,22,21,20,19,18,17,16,15,14,13,12,11,10,9,8,7,6,5,4,3,2,1,0] [158,22,21,19,18,17,16,15,14,13,11,9,7,5] ((tB 158 true)::(tI 22 x113)::(E2 x_v21 x97 x_v12 x_v23 ad x_v20 ae ab x_v10 ac y u x68 z g x63 m q x51 s a x38 d l f p)) (fun _ _ _ _ _ h=>h) p0 (Ap.peek (Ap.peek bx.plOk bx 0 5 rfl rfl bc [.bool x123] (bf _)) bx 1 6 rfl rfl bk [.bool x129] (bn _)) (by kernel_rfl) (by rfl) (by kernel_rfl) fun y3 p1=>?_
                refine A8 (by kernel_rfl) ?_
                obtain rfl:=XZ a4
                exact XY _ ⟨_,rfl,(p1.keep [22,21,19,18,17,16,15,14,13,11,9,7,5,158] (by rfl)).cut 5 (by kernel_rfl),bx.cutPl 5 (by kernel_rfl),bl⟩
               ·
                rw [Bc ex] at a4
                have p2:Kn 254 (Qr aa af ag x_v12 av ax ay az a1 a3 x_v21 be x113 bj) ((tB 132 false)::(tI 22 x113)::(Ba x_v21 x_v22 x97 x_v12 x_v23 ad x_v20 ae ab x_v10 ac y u x68 z g x63 m q x51 s a x38 d l f p)) ls:=(jb.setB 132 false (by rfl) ex).kp
                refine AQ [18,19] [19,18,17,16,15,14,13,12,11,10,9,8,7,6,5,4,3,2,1,0] [134,133,132,22,21,20,19,18,17,16,15,14,13,11,9,7,5] ((tI 134 x113)::(tS 133 l f.2.length p)::(tB 132 false)::(tI 22 x113)::(Ba x_v21 x_v22 x97 x_v12 x_v23 ad x_v20 ae ab x_v10 ac y u x68 z g x63 m q x51 s a x38 d l f p)) (fun _ _ _ _ _ h=>h) p2 (Ap.peek (Ap.peek bx.plOk bx 0 5 rfl rfl bc [.bool x123] (bf _)) bx 1 6 rfl rfl bk [.bool x129] (bn _)) (by kernel_rfl) (by rfl) (by kernel_rfl) fun y4 jc=>?_
                obtain⟨x135,ex135,a4⟩:=An a4
                obtain⟨s3,tj,uo⟩:=Ah ex135
                obtain⟨ca,ch,wx,m6,t5,nn⟩:=a8.get (by decide) uo
                obtain rfl:=t5
                have dw:=bx.addPlc (b:=ca) (o:=ch+(x113:Int).toNat*1) (cs:=[.int .i64 x135]) (fun j c hj=>nn j _ (Ai hj)) rfl (by kernel_rfl) (by kernel_rfl)
                refine A4 20 (x113) [.int .i64 x135] (fun _ _ _ _ _ h=>h) rfl rfl (Aj jc (by kernel_rfl)) rfl (by decide) (by kernel_rfl) (by kernel_rfl) jc (Ap.peek (Ap.peek bx.plOk bx 0 5 rfl rfl bc [.bool x123] (bf _)) bx 1 6 rfl rfl bk [.bool x129] (bn _)) (by rfl) (by rfl) (by rfl) m6 (by rfl) s3 tj (by kernel_rfl) fun vq (p4:Kn 254 [(aa,0),(af,ag+(x_v12:Int).toNat*1),(av,ax+(x_v12:Int).toNat*1),(ay,az+(x_v12:Int).toNat*1),(a1,a3+(x_v21:Int).toNat*1),(be,0+(x113:Int).toNat*1),(bj,0+(x113:Int).toNat*1),(ca,ch+(x113:Int).toNat*1)] ((tP 135 7 0)::(tI 134 x113)::(tS 133 l f.2.length p)::(tB 132 false)::(tI 22 x113)::(Ba x_v21 x_v22 x97 x_v12 x_v23 ad x_v20 ae ab x_v10 ac y u x68 z g x63 m q x51 s a x38 d l f p)) vq)=>?_
                refine AQ [21,22,23] [23,22,21,20,19,18,17,16,15,14,13,12,11,10,9,8,7,6,5,4,3,2,1,0] [138,137,136,132,22,21,20,19,18,17,16,15,14,13,11,9,7,5] ((tI 138 x97)::(tS 137 l f.2.length p)::(tI 136 x135)::(tB 132 false)::(tI 22 x113)::(Ba x_v21 x_v22 x97 x_v12 x_v23 ad x_v20 ae ab x_v10 ac y u x68 z g x63 m q x51 s a x38 d l f p)) (fun _ _ _ _ _ h=>h) p4 (Ap.peek (Ap.peek dw.plOk dw 0 5 rfl rfl bc [.bool x123] (bf _)) dw 1 6 rfl rfl bk [.bool x129] (bn _)) (by kernel_rfl) (by rfl) (by kernel_rfl) fun y5 jd=>?_
                obtain⟨x139,ex139,a4⟩:=An a4
                obtain⟨s4,tk,uq⟩:=Ah ex139
                obtain⟨cj,co,wy,m7,t6,np⟩:=a8.get (by decide) uq
                obtain rfl:=t6
                have cg:=dw.addPlc (b:=cj) (o:=co+(x97:Int).toNat*1) (cs:=[.int .i64 x139]) (fun j c hj=>np j _ (Ai hj)) rfl (by kernel_rfl) (by kernel_rfl)
                refine A4 24 (x97) [.int .i64 x139] (fun _ _ _ _ _ h=>h) rfl rfl (Aj jd (by kernel_rfl)) rfl (by decide) (by kernel_rfl) (by kernel_rfl) jd (Ap.peek (Ap.peek dw.plOk dw 0 5 rfl rfl bc [.bool x123] (bf _)) dw 1 6 rfl rfl bk [.bool x129] (bn _)) (by rfl) (by rfl) (by rfl) m7 (by rfl) s4 tk (by kernel_rfl) fun vr (p5:Kn 254 (Ky aa af ag x_v12 av ax ay az a1 a3 x_v21 be x113 bj ca ch cj co x97) ((tP 139 8 0)::(tI 138 x97)::(tS 137 l f.2.length p)::(tI 136 x135)::(tB 132 false)::(tI 22 x113)::(Ba x_v21 x_v22 x97 x_v12 x_v23 ad x_v20 ae ab x_v10 ac y u x68 z g x63 m q x51 s a x38 d l f p)) vr)=>?_
                refine AQ [25,26,27,28] [28,27,26,25,24,23,22,21,20,19,18,17,16,15,14,13,12,11,10,9,8,7,6,5,4,3,2,1,0] [143,22,21,20,19,18,17,16,15,14,13,11,9,7,5] ((tB 143 (x135 != x139))::(tI 22 x113)::(Ba x_v21 x_v22 x97 x_v12 x_v23 ad x_v20 ae ab x_v10 ac y u x68 z g x63 m q x51 s a x38 d l f p)) (fun _ _ _ _ _ h=>h) p5 (Ap.peek (Ap.peek cg.plOk cg 0 5 rfl rfl bc [.bool x123] (bf _)) cg 1 6 rfl rfl bk [.bool x129] (bn _)) (by kernel_rfl) (by rfl) (by kernel_rfl) fun lu je=>?_
                rcases Bool.eq_false_or_eq_true ((x135 != x139)) with ey | ey
                ·
                 rw [ey,XW] at a4
                 have p6:Kn 254 (Ky aa af ag x_v12 av ax ay az a1 a3 x_v21 be x113 bj ca ch cj co x97) ((tB 143 true)::(tI 22 x113)::(Ba x_v21 x_v22 x97 x_v12 x_v23 ad x_v20 ae ab x_v10 ac y u x68 z g x63 m q x51 s a x38 d l f p)) lu:=(je.setB 143 true (by rfl) ey).kp
                 refine AQ [29,30,31,32,33,34,35,36,37,38,39,40,41,42,43] [43,42,41,40,39,38,37,36,35,34,33,32,31,30,29,28,27,26,25,24,23,22,21,20,19,18,17,16,15,14,13,12,11,10,9,8,7,6,5,4,3,2,1,0] [158,22,21,19,18,17,16,15,14,13,11,9,7,5] ((tB 158 true)::(tI 22 x113)::(E2 x_v21 x97 x_v12 x_v23 ad x_v20 ae ab x_v10 ac y u x68 z g x63 m q x51 s a x38 d l f p)) (fun _ _ _ _ _ h=>h) p6 (Ap.peek (Ap.peek cg.plOk cg 0 5 rfl rfl bc [.bool x123] (bf _)) cg 1 6 rfl rfl bk [.bool x129] (bn _)) (by kernel_rfl) (by rfl) (by kernel_rfl) fun y6 p7=>?_
                 refine A8 (by kernel_rfl) ?_
                 obtain rfl:=XZ a4
                 exact XY _ ⟨_,rfl,(p7.keep [22,21,19,18,17,16,15,14,13,11,9,7,5,158] (by rfl)).cut 5 (by kernel_rfl),cg.cutPl 5 (by kernel_rfl),bl⟩
                ·
                 rw [ey,XV] at a4
                 have p8:Kn 254 (Ky aa af ag x_v12 av ax ay az a1 a3 x_v21 be x113 bj ca ch cj co x97) ((tB 143 false)::(tI 22 x113)::(Ba x_v21 x_v22 x97 x_v12 x_v23 ad x_v20 ae ab x_v10 ac y u x68 z g x63 m q x51 s a x38 d l f p)) lu:=(je.setB 143 false (by rfl) ey).kp
                 refine AQ [29,30,32,33] [33,32,30,29,28,27,26,25,24,23,22,21,20,19,18,17,16,15,14,13,12,11,10,9,8,7,6,5,4,3,2,1,0] [148,147,145,144,143,22,21,20,19,18,17,16,15,14,13,11,9,7,5] ((tI 148 x97)::(tS 147 a x38.length d)::(tI 145 x113)::(tS 144 a x38.length d)::(tB 143 false)::(tI 22 x113)::(Ba x_v21 x_v22 x97 x_v12 x_v23 ad x_v20 ae ab x_v10 ac y u x68 z g x63 m q x51 s a x38 d l f p)) (fun _ _ _ _ _ h=>h) p8 (Ap.peek (Ap.peek cg.plOk cg 0 5 rfl rfl bc [.bool x123] (bf _)) cg 1 6 rfl rfl bk [.bool x129] (bn _)) (by kernel_rfl) (by rfl) (by kernel_rfl) fun y7 jf=>?_
                 obtain⟨x146,ex146,a4⟩:=An a4
                 refine Iz 31 rfl (by kernel_rfl) (by decide) (Aj jf (by kernel_rfl)) fun K hK=>?_
                 refine wc [.c (.slice a x38.length d),.c (.int .i64 x113)] jf cg (D7 dh cg.has x38 aw x113 ex146) fun aa3 xh abw mj b2 fb=>?_
                 replace aw:=aw.mono b2
                 obtain rfl:=mj
                 refine⟨.one (.c (.int .i64 x146)),rfl,fun vs (jg:Kn 254 (Ky aa af ag x_v12 av ax ay az a1 a3 x_v21 be x113 bj ca ch cj co x97) ((tI 146 x146)::(tI 148 x97)::(tS 147 a x38.length d)::(tI 145 x113)::(tS 144 a x38.length d)::(tB 143 false)::(tI 22 x113)::(Ba x_v21 x_v22 x97 x_v12 x_v23 ad x_v20 ae ab x_v10 ac y u x68 z g x63 m q x51 s a x38 d l f p)) vs)=>hK _ _ (Ap.peek (Ap.peek fb.plOk fb 0 5 rfl rfl bc [.bool x123] (bf _)) fb 1 6 rfl rfl bk [.bool x129] (bn _)) ?_⟩
                 obtain⟨x149,ex149,a4⟩:=An a4
                 refine Iz 34 rfl (by kernel_rfl) (by decide) (Aj jg (by kernel_rfl)) fun K hK=>?_
                 refine wc [.c (.slice a x38.length d),.c (.int .i64 x97)] jg fb (D7 dh fb.has x38 aw x97 ex149) fun aa4 xi abx mk b3 br=>?_
                 replace ap:=ap.mono (XU b2 b3)
                 replace aq:=aq.mono (XU b2 b3)
                 replace a8:=a8.mono (XU b2 b3)
                 replace aw:=aw.mono b3
                 replace bb:=bb.mono (XU b2 b3)
                 replace a7:=a7.mono (XU b2 b3)
                 replace bh:=bh.mono (XU b2 b3)
                 replace el:=el.mono (XU b2 b3)
                 replace d1:=d1.mono (XU b2 b3)
                 replace a9:=a9.mono (XU b2 b3)
                 replace bq:=bq.mono (XU b2 b3)
                 obtain rfl:=mk
                 refine⟨.one (.c (.int .i64 x149)),rfl,fun vt (p9:Kn 254 (Ky aa af ag x_v12 av ax ay az a1 a3 x_v21 be x113 bj ca ch cj co x97) ((tI 149 x149)::(tI 146 x146)::(tI 148 x97)::(tS 147 a x38.length d)::(tI 145 x113)::(tS 144 a x38.length d)::(tB 143 false)::(tI 22 x113)::(Ba x_v21 x_v22 x97 x_v12 x_v23 ad x_v20 ae ab x_v10 ac y u x68 z g x63 m q x51 s a x38 d l f p)) vt)=>hK _ _ (Ap.peek (Ap.peek br.plOk br 0 5 rfl rfl bc [.bool x123] (bf _)) br 1 6 rfl rfl bk [.bool x129] (bn _)) ?_⟩
                 refine AQ [35,36,37] [37,36,35,34,31,33,32,30,29,28,27,26,25,24,23,22,21,20,19,18,17,16,15,14,13,12,11,10,9,8,7,6,5,4,3,2,1,0] [152,22,21,20,19,18,17,16,15,14,13,11,9,7,5] ((tB 152 (decide (x146≥x149)))::(tI 22 x113)::(Ba x_v21 x_v22 x97 x_v12 x_v23 ad x_v20 ae ab x_v10 ac y u x68 z g x63 m q x51 s a x38 d l f p)) (fun _ _ _ _ _ h=>h) p9 (Ap.peek (Ap.peek br.plOk br 0 5 rfl rfl bc [.bool x123] (bf _)) br 1 6 rfl rfl bk [.bool x129] (bn _)) (by kernel_rfl) (by rfl) (by kernel_rfl) fun lv jh=>?_
                 rcases Bool.eq_false_or_eq_true (decide (x146≥x149)) with ez | ez
                 ·
                  rw [ez,XW] at a4
                  have qa:Kn 254 (Ky aa af ag x_v12 av ax ay az a1 a3 x_v21 be x113 bj ca ch cj co x97) ((tB 152 true)::(tI 22 x113)::(Ba x_v21 x_v22 x97 x_v12 x_v23 ad x_v20 ae ab x_v10 ac y u x68 z g x63 m q x51 s a x38 d l f p)) lv:=(jh.setB 152 true (by rfl) ez).kp
                  refine AQ [38,39,40,41,42,43] [43,42,41,40,39,38,37,36,35,34,31,33,32,30,29,28,27,26,25,24,23,22,21,20,19,18,17,16,15,14,13,12,11,10,9,8,7,6,5,4,3,2,1,0] [158,22,21,19,18,17,16,15,14,13,11,9,7,5] ((tB 158 true)::(tI 22 x113)::(E2 x_v21 x97 x_v12 x_v23 ad x_v20 ae ab x_v10 ac y u x68 z g x63 m q x51 s a x38 d l f p)) (fun _ _ _ _ _ h=>h) qa (Ap.peek (Ap.peek br.plOk br 0 5 rfl rfl bc [.bool x123] (bf _)) br 1 6 rfl rfl bk [.bool x129] (bn _)) (by kernel_rfl) (by rfl) (by kernel_rfl) fun y9 qb=>?_
                  refine A8 (by kernel_rfl) ?_
                  obtain rfl:=XZ a4
                  exact XY _ ⟨_,rfl,(qb.keep [22,21,19,18,17,16,15,14,13,11,9,7,5,158] (by rfl)).cut 5 (by kernel_rfl),br.cutPl 5 (by kernel_rfl),XU bl (XU b2 b3)⟩
                 ·
                  rw [ez,XV] at a4
                  have qc:Kn 254 (Ky aa af ag x_v12 av ax ay az a1 a3 x_v21 be x113 bj ca ch cj co x97) ((tB 152 false)::(tI 22 x113)::(Ba x_v21 x_v22 x97 x_v12 x_v23 ad x_v20 ae ab x_v10 ac y u x68 z g x63 m q x51 s a x38 d l f p)) lv:=(jh.setB 152 false (by rfl) ez).kp
                  refine AQ [38,39,41] [41,39,38,37,36,35,34,31,33,32,30,29,28,27,26,25,24,23,22,21,20,19,18,17,16,15,14,13,12,11,10,9,8,7,6,5,4,3,2,1,0] [156,154,153,152,22,21,19,18,17,16,15,14,13,11,9,7,5] ((tI 156 x_v22)::(tI 154 x113)::(tS 153 a x38.length d)::(tB 152 false)::(tI 22 x113)::(E2 x_v21 x97 x_v12 x_v23 ad x_v20 ae ab x_v10 ac y u x68 z g x63 m q x51 s a x38 d l f p)) (fun _ _ _ _ _ h=>h) qc (Ap.peek (Ap.peek br.plOk br 0 5 rfl rfl bc [.bool x123] (bf _)) br 1 6 rfl rfl bk [.bool x129] (bn _)) (by kernel_rfl) (by rfl) (by kernel_rfl) fun za ji=>?_
                  obtain⟨x155,ex155,a4⟩:=An a4
                  refine Iz 40 rfl (by kernel_rfl) (by decide) (Aj ji (by kernel_rfl)) fun K hK=>?_
                  refine wc [.c (.slice a x38.length d),.c (.int .i64 x113)] ji br (D7 dh br.has x38 aw x113 ex155) fun aa5 xj aby ml ss dx=>?_
                  obtain rfl:=ml
                  refine⟨.one (.c (.int .i64 x155)),rfl,fun vu (qd:Kn 254 (Ky aa af ag x_v12 av ax ay az a1 a3 x_v21 be x113 bj ca ch cj co x97) ((tI 155 x155)::(tI 156 x_v22)::(tI 154 x113)::(tS 153 a x38.length d)::(tB 152 false)::(tI 22 x113)::(E2 x_v21 x97 x_v12 x_v23 ad x_v20 ae ab x_v10 ac y u x68 z g x63 m q x51 s a x38 d l f p)) vu)=>hK _ _ (Ap.peek (Ap.peek dx.plOk dx 0 5 rfl rfl bc [.bool x123] (bf _)) dx 1 6 rfl rfl bk [.bool x129] (bn _)) ?_⟩
                  refine AQ [42,43] [43,42,40,41,39,38,37,36,35,34,31,33,32,30,29,28,27,26,25,24,23,22,21,20,19,18,17,16,15,14,13,12,11,10,9,8,7,6,5,4,3,2,1,0] [158,22,21,19,18,17,16,15,14,13,11,9,7,5] ((tB 158 (decide (x155≤x_v22)))::(tI 22 x113)::(E2 x_v21 x97 x_v12 x_v23 ad x_v20 ae ab x_v10 ac y u x68 z g x63 m q x51 s a x38 d l f p)) (fun _ _ _ _ _ h=>h) qd (Ap.peek (Ap.peek dx.plOk dx 0 5 rfl rfl bc [.bool x123] (bf _)) dx 1 6 rfl rfl bk [.bool x129] (bn _)) (by kernel_rfl) (by rfl) (by kernel_rfl) fun zb qe=>?_
                  refine A8 (by kernel_rfl) ?_
                  obtain rfl:=XZ a4
                  exact XY _ ⟨_,rfl,(qe.keep [22,21,19,18,17,16,15,14,13,11,9,7,5,158] (by rfl)).cut 5 (by kernel_rfl),dx.cutPl 5 (by kernel_rfl),XU bl (XU b2 (XU b3 ss))⟩
            ·
             rintro _ abz ⟨ig,gh,rfl,g4,fc,cf⟩
             replace ap:=ap.mono cf
             replace aq:=aq.mono cf
             replace a8:=a8.mono cf
             replace aw:=aw.mono cf
             replace bb:=bb.mono cf
             replace a7:=a7.mono cf
             replace bh:=bh.mono cf
             replace el:=el.mono cf
             replace d1:=d1.mono cf
             replace a9:=a9.mono cf
             replace bq:=bq.mono cf
             refine wC (lh) g4 (fun gs=>?_) (fun gs=>?_)
             ·
              rw [Bb gs] at ba
              refine XT (Aa (Rk 0 1 [tB 4 false] g4 fc fun zc qf=>?_))
              refine wf (wp_ret ?_)
              obtain rfl:=XZ ba
              obtain rfl:=XZ bd
              obtain rfl:=XZ H
              exact rt (.one (.c (.bool false))) qf fc rfl
             ·
              rw [Bc gs] at ba
              refine wp_skip (XT (Aa (Rk 0 2 ((tI 160 x113)::(tS 159 a x38.length d)::(tI 22 x113)::(E2 x_v21 x97 x_v12 x_v23 ad x_v20 ae ab x_v10 ac y u x68 z g x63 m q x51 s a x38 d l f p)) g4 fc fun zd qg=>?_)))
              obtain⟨x161,ex161,ba⟩:=An ba
              refine wl fun K hK=>?_
              refine wc [.c (.slice a x38.length d),.c (.int .i64 x113)] qg fc (D7 dh fc.has x38 aw x113 ex161) fun aa7 gi ab0 mm kd f8=>?_
              replace bq:=bq.mono kd
              obtain rfl:=mm
              refine⟨.one (.c (.int .i64 x161)),rfl,fun vv (qh:Kn 254 (Kx aa af ag x_v12 av ax ay az a1 a3 x_v21) ((tI 161 x161)::(tI 160 x113)::(tS 159 a x38.length d)::(tI 22 x113)::(E2 x_v21 x97 x_v12 x_v23 ad x_v20 ae ab x_v10 ac y u x68 z g x63 m q x51 s a x38 d l f p)) vv)=>hK _ _ ?_⟩
              refine Rk 3 1 ((tI 20 x161)::(tI 22 x113)::(E2 x_v21 x97 x_v12 x_v23 ad x_v20 ae ab x_v10 ac y u x68 z g x63 m q x51 s a x38 d l f p)) qh f8 fun ze qi=>?_
              refine wf (XT (Aa (Rk 0 2 ((tI 163 x113)::(tS 162 ad x_v20.length ae)::(tI 20 x161)::(E2 x_v21 x97 x_v12 x_v23 ad x_v20 ae ab x_v10 ac y u x68 z g x63 m q x51 s a x38 d l f p)) qi f8 fun zf qj=>?_)))
              obtain⟨x164,ex164,ba⟩:=An ba
              obtain⟨ku,k1,ur⟩:=Ah ex164
              have g9:=Aw ku k1
              obtain⟨wz,t7,nq⟩:=Ay (sz:=1) rfl bq ur
              obtain rfl:=t7
              obtain⟨en,ix⟩:=A6 f8 (i:=1) rfl (b0:=0+(x113:Int).toNat*1) (Nat.lt_of_lt_of_le (Nat.lt_add_of_pos_right (by decide)) (Am (sz:=1) rfl bq g9))
              have su:=f8.addPlc (b:=en) (o:=0+(x113:Int).toNat*1) (cs:=[]) (fun j c hj=>by simp at hj) rfl (by kernel_rfl) (by kernel_rfl)
              have xs:∀ (e:AA) k c,([.bool x164]:List SC)[k]? = some c→(b5)[0+(x113:Int).toNat*1+k]? = some (c.den e):=fun e k c hk=>nq k _ (Ai hk)
              refine A7 2 (x113) rfl rfl (rfl) rfl (by decide) qj (by rfl) (by rfl) (by rfl) ix (by rfl) ku k1 (by kernel_rfl) fun ih (qk:Kn 254 [(aa,0),(af,ag+(x_v12:Int).toNat*1),(av,ax+(x_v12:Int).toNat*1),(ay,az+(x_v12:Int).toNat*1),(a1,a3+(x_v21:Int).toNat*1),(en,0+(x113:Int).toNat*1)] ((tP 164 5 0)::(tI 163 x113)::(tS 162 ad x_v20.length ae)::(tI 20 x161)::(E2 x_v21 x97 x_v12 x_v23 ad x_v20 ae ab x_v10 ac y u x68 z g x63 m q x51 s a x38 d l f p)) ih)=>?_
              obtain⟨c3,l4,ba⟩:=An ba
              obtain⟨xw,xy,k6⟩:=BA l4
              refine wl fun K hK=>?_
              refine AR 1 5 0 (0+(x113:Int).toNat*1) (.c (.bool true)) qk su rfl rfl (by rfl) (by rfl) rfl rfl ix rfl (by kernel_rfl) (Am (sz:=1) rfl bq g9) fun wk ql sv=>?_
              have nr:Af gi c3 (b5.take (0+(x113:Int).toNat*1+0)++([.bool true]:List Value)++b5.drop (0+(x113:Int).toNat*1+0+1)):=by rw [k6]; exact BR (sz:=1) rfl bq g9 (Ae:rep gi (true:Bool) _)
              have kq:x_v20.length=c3.length:=by rw [k6]; simp
              have qm:Kn 254 [(aa,0),(af,ag+(x_v12:Int).toNat*1),(av,ax+(x_v12:Int).toNat*1),(ay,az+(x_v12:Int).toNat*1),(a1,a3+(x_v21:Int).toNat*1),(en,0+(x113:Int).toNat*1)] [(164,.one (.c (.ptr 5 0))),(163,.one (.c (.int .i64 x113))),(162,.one (.c (.slice ad c3.length ae))),(20,.one (.c (.int .i64 x161))),(21,.one (.c (.int .i64 x_v21))),(19,.one (.c (.int .i64 x97))),(18,.one (.c (.int .i64 x_v12))),(17,.one (.c (.int .i64 x_v23))),(16,.one (.c (.slice ad c3.length ae))),(15,.one (.c (.slice ab x_v10.length ac))),(14,.one (.c (.int .i64 ((y.buses.length:Nat):Int)))),(13,.one (.c (.slice u x68.length z))),(11,.one (.c (.slice g x63.1.length m))),(9,.one (.c (.slice q x51.1.length s))),(7,.one (.c (.slice a x38.length d))),(5,.one (.c (.slice l f.2.length p)))] ih:=by rw [← kq]; exact ql
              have hq:Ak ⟨w,h,AE⟩ gi [(aa,0),(af,ag+(x_v12:Int).toNat*1),(av,ax+(x_v12:Int).toNat*1),(ay,az+(x_v12:Int).toNat*1),(a1,a3+(x_v21:Int).toNat*1),(en,0+(x113:Int).toNat*1)] [⟨[.slice ai y.room.length ak,.slice aj y.buses.length al,.int .i64 y.broken],some 25⟩,⟨[.int .i64 x97],none⟩,⟨[.slice fn x102.length fu],none⟩,⟨[.slice d6 x110.length ec],none⟩,⟨[.int .i64 x113],none⟩,⟨[],none⟩] [⟨ab,x_v10.length,ac,4,1,bi,0⟩,⟨ad,c3.length,ae,4,1,b5.take (0+(x113:Int).toNat*1+0)++([.bool true]:List Value)++b5.drop (0+(x113:Int).toNat*1+0+1),0⟩] wk:=by rw [← kq]; exact sv
              refine hK _ _ ?_
              have qn:Kn 254 [(aa,0),(af,ag+(x_v12:Int).toNat*1),(av,ax+(x_v12:Int).toNat*1),(ay,az+(x_v12:Int).toNat*1),(a1,a3+(x_v21:Int).toNat*1),(en,0+(x113:Int).toNat*1)] ((tI 20 x161)::(tI 21 x_v21)::(tI 19 x97)::(tI 18 x_v12)::(tI 17 x_v23)::(tS 16 ad c3.length ae)::(DR ab x_v10 ac y u x68 z g x63 m q x51 s a x38 d l f p)) ih:=qm.kp
              refine wf (Aa (Rk 0 3 ((tI 17 (IntKind.i64.wrap (x_v23+1)))::(tI 20 x161)::(tI 21 x_v21)::(tI 19 x97)::(tI 18 x_v12)::(tS 16 ad c3.length ae)::(DR ab x_v10 ac y u x68 z g x63 m q x51 s a x38 d l f p)) qn hq fun zg qo=>?_))
              refine wf (Aa (Rk 0 3 ((tI 21 (IntKind.i64.wrap (x_v21+1)))::(tI 17 (IntKind.i64.wrap (x_v23+1)))::(tI 20 x161)::(tI 19 x97)::(tI 18 x_v12)::(tS 16 ad c3.length ae)::(DR ab x_v10 ac y u x68 z g x63 m q x51 s a x38 d l f p)) qo hq fun zh qp=>?_))
              refine wf ?_
              exact XY dh ⟨Nat.lt_succ_self _,XY c3 ⟨IntKind.i64.wrap (x_v21+1),x161,IntKind.i64.wrap (x_v23+1),ad,ae,b5.take (0+(x113:Int).toNat*1+0)++([.bool true]:List Value)++b5.drop (0+(x113:Int).toNat*1+0+1),_,_,rfl,(qp.keep [21,20,19,18,17,16,15,14,13,11,9,7,5] (by rfl)).cut 2 (by kernel_rfl),hq.cutPl 2 (by kernel_rfl),XU ct (XU cf kd),nr,ba⟩⟩
           ·
            rw [gq,XV] at ba
            refine wp_exit ?_
            obtain rfl:=XZ ba
            exact XY (x_v20,x_v23) ⟨ad,ae,b5,_,_,rfl,(g2.keep [19,18,17,16,15,14,13,11,9,7,5] (by rfl)).cut 2 (by kernel_rfl),f7.cutPl 2 (by kernel_rfl),ct,bq,rfl⟩
         ·
          rintro _ ab2 ⟨ah,an,ao,dk,ic,ee,rfl,qq,kl,cz,cv,rfl⟩
          rw [Ex.bind_go] at bd
          replace ap:=ap.mono cz
          replace aq:=aq.mono cz
          replace a8:=a8.mono cz
          replace aw:=aw.mono cz
          replace bb:=bb.mono cz
          replace a7:=a7.mono cz
          replace bh:=bh.mono cz
          replace a9:=a9.mono cz
          refine XT (XT (Aa (Rk 0 1 ((tI 23 0)::(Bm x97 x_v12 ah an ao ab x_v10 ac y u x68 z g x63 m q x51 s a x38 d l f p)) qq kl fun zi qr=>?_)))
          refine wf ?_
          obtain⟨li,iu,bd⟩:=An bd
          refine As (fun a' w'=>∃ (ll:Unit)(ii:Array Value)(ef:Ac),a' = ⟨ii,[]⟩∧Kn 254 (Ip aa af ag x_v12) (Bm x97 x_v12 ah an ao ab x_v10 ac y u x68 z g x63 m q x51 s a x38 d l f p) ii∧Ak ⟨w,h,AE⟩ ef (Ip aa af ag x_v12) [⟨Bj ai y ak aj al,some 25⟩,⟨[.int .i64 x97],none⟩] [⟨ab,x_v10.length,ac,4,1,bi,0⟩,⟨an,ah.1.length,ao,4,1,dk,0⟩] w'∧Ac.le ee ef∧li=.go ll) ?_ ?_
          ·
           refine wp_block ?_
           refine At (fun u5 a' w'=>∃ (x_v30:Int)(ij:Array Value)(gj:Ac),a' = ⟨ij,[]⟩∧Kn 254 (Ip aa af ag x_v12) ((tI 23 x_v30)::(Bm x97 x_v12 ah an ao ab x_v10 ac y u x68 z g x63 m q x51 s a x38 d l f p)) ij∧Ak ⟨w,h,AE⟩ gj (Ip aa af ag x_v12) [⟨Bj ai y ak aj al,some 25⟩,⟨[.int .i64 x97],none⟩] [⟨ab,x_v10.length,ac,4,1,bi,0⟩,⟨an,ah.1.length,ao,4,1,dk,0⟩] w'∧Ac.le ee gj∧Bh u5 y f x38 x86 x_v10 x97 ah x_v30=some li) fg ?_ ?_
           ·
            exact XY 0 ⟨_,_,rfl,qr.kp,kl,Ac.le_refl _,iu⟩
           ·
            rintro di _ ab3 ⟨x_v30,ij,gj,rfl,qs,dy,bw,a5⟩
            clear iu
            obtain _ | di:=di
            ·
             rw [Bh] at a5; cases a5
            rw [Bh] at a5
            replace ap:=ap.mono bw
            replace aq:=aq.mono bw
            replace a8:=a8.mono bw
            replace aw:=aw.mono bw
            replace bb:=bb.mono bw
            replace a7:=a7.mono bw
            replace bh:=bh.mono bw
            replace a9:=a9.mono bw
            replace cv:=cv.mono bw
            refine XT (XT (Aa (Rk 0 3 ((tB 169 (decide (x_v30<((y.buses.length:Nat):Int))))::(tI 23 x_v30)::(Bm x97 x_v12 ah an ao ab x_v10 ac y u x68 z g x63 m q x51 s a x38 d l f p)) qs dy fun zj g5=>?_)))
            refine wf (wC (decide (x_v30<((y.buses.length:Nat):Int))) g5 (fun gu=>?_) (fun gu=>?_))
            ·
             rw [gu,XW] at a5
             refine wp_skip (XT (wp_block (XT (Av (by kernel_rfl) ?_))))
             replace dy:=dy.drew
             refine A3 [] (Ip aa af ag x_v12) [⟨Bj ai y ak aj al,some 25⟩,⟨[.int .i64 x97],none⟩] ?_
             refine Dr [0,1] [1,0] ((tI 173 x_v30)::(tS 172 l f.2.length p)::(tI 23 x_v30)::(Bm x97 x_v12 ah an ao ab x_v10 ac y u x68 z g x63 m q x51 s a x38 d l f p)) g5 dy fun zk qu=>?_
             obtain⟨x174,ex174,a5⟩:=An a5
             obtain⟨s5,tl,ut⟩:=Ah ex174
             obtain⟨bo,bs,w0,m8,t8,ns⟩:=a8.get (by decide) ut
             obtain rfl:=t8
             have hr:=dy.addPlc (b:=bo) (o:=bs+(x_v30:Int).toNat*1) (cs:=[.int .i64 x174]) (fun j c hj=>ns j _ (Ai hj)) rfl (by kernel_rfl) (by kernel_rfl)
             refine A4 2 (x_v30) [.int .i64 x174] (fun _ _ _ _ _ h=>h) rfl rfl (rfl) rfl (by decide) (by kernel_rfl) (by kernel_rfl) qu dy.plOk (by rfl) (by rfl) (by rfl) m8 (by rfl) s5 tl (by kernel_rfl) fun vx (qv:Kn 254 [(aa,0),(af,ag+(x_v12:Int).toNat*1),(bo,bs+(x_v30:Int).toNat*1)] ((tP 174 2 0)::(tI 173 x_v30)::(tS 172 l f.2.length p)::(tI 23 x_v30)::(Bm x97 x_v12 ah an ao ab x_v10 ac y u x68 z g x63 m q x51 s a x38 d l f p)) vx)=>?_
             refine Dr [3,4,5] (dn 5) ((tI 177 x97)::(tS 176 l f.2.length p)::(tI 175 x174)::(tI 23 x_v30)::(Bm x97 x_v12 ah an ao ab x_v10 ac y u x68 z g x63 m q x51 s a x38 d l f p)) qv hr fun zm qx=>?_
             obtain⟨x178,ex178,a5⟩:=An a5
             obtain⟨s6,tm,uu⟩:=Ah ex178
             obtain⟨bu,bz,w1,m9,t9,nt⟩:=a8.get (by decide) uu
             obtain rfl:=t9
             have dz:=hr.addPlc (b:=bu) (o:=bz+(x97:Int).toNat*1) (cs:=[.int .i64 x178]) (fun j c hj=>nt j _ (Ai hj)) rfl (by kernel_rfl) (by kernel_rfl)
             refine A4 6 (x97) [.int .i64 x178] (fun _ _ _ _ _ h=>h) rfl rfl (rfl) rfl (by decide) (by kernel_rfl) (by kernel_rfl) qx hr.plOk (by rfl) (by rfl) (by rfl) m9 (by rfl) s6 tm (by kernel_rfl) fun vy (qy:Kn 254 (LU aa af ag x_v12 bo bs x_v30 bu bz x97) ((tP 178 3 0)::(tI 177 x97)::(tS 176 l f.2.length p)::(tI 175 x174)::(tI 23 x_v30)::(Bm x97 x_v12 ah an ao ab x_v10 ac y u x68 z g x63 m q x51 s a x38 d l f p)) vy)=>?_
             refine Dr [7,8,9] (dn 9) ((tB 181 (x174 == x178))::(tI 23 x_v30)::(Bm x97 x_v12 ah an ao ab x_v10 ac y u x68 z g x63 m q x51 s a x38 d l f p)) qy dz fun lw jj=>?_
             rcases Bool.eq_false_or_eq_true ((x174 == x178)) with e0 | e0
             ·
              rw [e0,XW] at a5
              have qz:Kn 254 (LU aa af ag x_v12 bo bs x_v30 bu bz x97) ((tB 181 true)::(tI 23 x_v30)::(Bm x97 x_v12 ah an ao ab x_v10 ac y u x68 z g x63 m q x51 s a x38 d l f p)) lw:=(jj.setB 181 true (by rfl) e0).kp
              refine Dr [10,11,13,14] [14,13,11,10,9,8,7,6,5,4,3,2,1,0] ((tI 186 x97)::(tS 185 a x38.length d)::(tI 183 x_v30)::(tS 182 a x38.length d)::(tB 181 true)::(tI 23 x_v30)::(Bm x97 x_v12 ah an ao ab x_v10 ac y u x68 z g x63 m q x51 s a x38 d l f p)) qz dz fun zo jk=>?_
              obtain⟨x184,ex184,a5⟩:=An a5
              refine Iz 12 rfl (by kernel_rfl) (by decide) (Aj jk (by kernel_rfl)) fun K hK=>?_
              refine wc [.c (.slice a x38.length d),.c (.int .i64 x_v30)] jk dz (D7 di dz.has x38 aw x_v30 ex184) fun aa8 xl ab4 mo ej hs=>?_
              replace aw:=aw.mono ej
              obtain rfl:=mo
              refine⟨.one (.c (.int .i64 x184)),rfl,fun vz (jl:Kn 254 (LU aa af ag x_v12 bo bs x_v30 bu bz x97) ((tI 184 x184)::(tI 186 x97)::(tS 185 a x38.length d)::(tI 183 x_v30)::(tS 182 a x38.length d)::(tB 181 true)::(tI 23 x_v30)::(Bm x97 x_v12 ah an ao ab x_v10 ac y u x68 z g x63 m q x51 s a x38 d l f p)) vz)=>hK _ _ hs.plOk ?_⟩
              obtain⟨x187,ex187,a5⟩:=An a5
              refine Iz 15 rfl (by kernel_rfl) (by decide) (Aj jl (by kernel_rfl)) fun K hK=>?_
              refine wc [.c (.slice a x38.length d),.c (.int .i64 x97)] jl hs (D7 di hs.has x38 aw x97 ex187) fun aa9 xm ab5 mp e8 c1=>?_
              replace a9:=a9.mono (XU ej e8)
              replace cv:=cv.mono (XU ej e8)
              obtain rfl:=mp
              refine⟨.one (.c (.int .i64 x187)),rfl,fun v0 (q1:Kn 254 (LU aa af ag x_v12 bo bs x_v30 bu bz x97) ((tI 187 x187)::(tI 184 x184)::(tI 186 x97)::(tS 185 a x38.length d)::(tI 183 x_v30)::(tS 182 a x38.length d)::(tB 181 true)::(tI 23 x_v30)::(Bm x97 x_v12 ah an ao ab x_v10 ac y u x68 z g x63 m q x51 s a x38 d l f p)) v0)=>hK _ _ c1.plOk ?_⟩
              refine Dr [16,17,18] [18,17,16,15,12,14,13,11,10,9,8,7,6,5,4,3,2,1,0] ((tB 190 (decide (x184<x187)))::(tI 23 x_v30)::(Bm x97 x_v12 ah an ao ab x_v10 ac y u x68 z g x63 m q x51 s a x38 d l f p)) q1 c1 fun lx jm=>?_
              rcases Bool.eq_false_or_eq_true (decide (x184<x187)) with e1 | e1
              ·
               rw [e1,XW] at a5
               have q2:Kn 254 (LU aa af ag x_v12 bo bs x_v30 bu bz x97) ((tB 190 true)::(tI 23 x_v30)::(Bm x97 x_v12 ah an ao ab x_v10 ac y u x68 z g x63 m q x51 s a x38 d l f p)) lx:=(jm.setB 190 true (by rfl) e1).kp
               refine Dr [19,20] [20,19,18,17,16,15,12,14,13,11,10,9,8,7,6,5,4,3,2,1,0] ((tI 192 x_v30)::(tS 191 ab x_v10.length ac)::(tB 190 true)::(tI 23 x_v30)::(Bm x97 x_v12 ah an ao ab x_v10 ac y u x68 z g x63 m q x51 s a x38 d l f p)) q2 c1 fun zp jn=>?_
               obtain⟨x193,ex193,a5⟩:=An a5
               obtain⟨kv,k2,uv⟩:=Ah ex193
               have sn:=Aw kv k2
               obtain⟨w2,ua,nu⟩:=Ay (sz:=1) rfl a9 uv
               obtain rfl:=ua
               obtain⟨eo,cu⟩:=A6 c1 (i:=0) rfl (b0:=0+(x_v30:Int).toNat*1) (Nat.lt_of_lt_of_le (Nat.lt_add_of_pos_right (by decide)) (Am (sz:=1) rfl a9 sn))
               have b4:=c1.addPlc (b:=eo) (o:=0+(x_v30:Int).toNat*1) (cs:=[]) (fun j c hj=>by simp at hj) rfl (by kernel_rfl) (by kernel_rfl)
               have c9:∀ (e:AA) k c,([.bool x193]:List SC)[k]? = some c→(bi)[0+(x_v30:Int).toNat*1+k]? = some (c.den e):=fun e k c hk=>nu k _ (Ai hk)
               refine A4 21 (x_v30) [.bool x193] (fun _ _ _ _ _ h=>h) rfl rfl (Aj jn (by kernel_rfl)) rfl (by decide) (by kernel_rfl) (by kernel_rfl) jn c1.plOk (by rfl) (by rfl) (by rfl) cu (by rfl) kv k2 (by kernel_rfl) fun v1 (q3:Kn 254 [(aa,0),(af,ag+(x_v12:Int).toNat*1),(bo,bs+(x_v30:Int).toNat*1),(bu,bz+(x97:Int).toNat*1),(eo,0+(x_v30:Int).toNat*1)] ((tP 193 4 0)::(tI 192 x_v30)::(tS 191 ab x_v10.length ac)::(tB 190 true)::(tI 23 x_v30)::(Bm x97 x_v12 ah an ao ab x_v10 ac y u x68 z g x63 m q x51 s a x38 d l f p)) v1)=>?_
               refine AQ [22,23,24,25] [25,24,23,22,21,20,19,18,17,16,15,12,14,13,11,10,9,8,7,6,5,4,3,2,1,0] [197,23,19,18,17,16,15,14,13,11,9,7,5] ((tB 197 (!x193))::(tI 23 x_v30)::(Bm x97 x_v12 ah an ao ab x_v10 ac y u x68 z g x63 m q x51 s a x38 d l f p)) (fun _ _ _ _ _ h=>h) q3 (Ap.peek b4.plOk b4 0 4 rfl rfl cu [.bool x193] (c9 _)) (by kernel_rfl) (by rfl) (by kernel_rfl) fun ly jo=>?_
               rcases Bool.eq_false_or_eq_true ((!x193)) with e2 | e2
               ·
                rw [e2,XW] at a5
                have q4:Kn 254 [(aa,0),(af,ag+(x_v12:Int).toNat*1),(bo,bs+(x_v30:Int).toNat*1),(bu,bz+(x97:Int).toNat*1),(eo,0+(x_v30:Int).toNat*1)] ((tB 197 true)::(tI 23 x_v30)::(Bm x97 x_v12 ah an ao ab x_v10 ac y u x68 z g x63 m q x51 s a x38 d l f p)) ly:=(jo.setB 197 true (by rfl) e2).kp
                refine AQ [26,27] [27,26,25,24,23,22,21,20,19,18,17,16,15,12,14,13,11,10,9,8,7,6,5,4,3,2,1,0] [199,198,197,23,19,18,17,16,15,14,13,11,9,7,5] ((tI 199 x_v30)::(tS 198 an ah.1.length ao)::(tB 197 true)::(tI 23 x_v30)::(Bm x97 x_v12 ah an ao ab x_v10 ac y u x68 z g x63 m q x51 s a x38 d l f p)) (fun _ _ _ _ _ h=>h) q4 (Ap.peek b4.plOk b4 0 4 rfl rfl cu [.bool x193] (c9 _)) (by kernel_rfl) (by rfl) (by kernel_rfl) fun zq jp=>?_
                obtain⟨x200,ex200,a5⟩:=An a5
                obtain⟨kw,k3,uw⟩:=Ah ex200
                have sp:=Aw kw k3
                obtain⟨w3,ub,nv⟩:=Ay (sz:=1) rfl cv uw
                obtain rfl:=ub
                obtain⟨io,fw⟩:=A6 b4 (i:=1) rfl (b0:=0+(x_v30:Int).toNat*1) (Nat.lt_of_lt_of_le (Nat.lt_add_of_pos_right (by decide)) (Am (sz:=1) rfl cv sp))
                have cn:=b4.addPlc (b:=io) (o:=0+(x_v30:Int).toNat*1) (cs:=[]) (fun j c hj=>by simp at hj) rfl (by kernel_rfl) (by kernel_rfl)
                have gy:∀ (e:AA) k c,([.bool x200]:List SC)[k]? = some c→(dk)[0+(x_v30:Int).toNat*1+k]? = some (c.den e):=fun e k c hk=>nv k _ (Ai hk)
                refine A4 28 (x_v30) [.bool x200] (fun _ _ _ _ _ h=>h) rfl rfl (Aj jp (by kernel_rfl)) rfl (by decide) (by kernel_rfl) (by kernel_rfl) jp (Ap.peek b4.plOk b4 0 4 rfl rfl cu [.bool x193] (c9 _)) (by rfl) (by rfl) (by rfl) fw (by rfl) kw k3 (by kernel_rfl) fun v2 (q5:Kn 254 [(aa,0),(af,ag+(x_v12:Int).toNat*1),(bo,bs+(x_v30:Int).toNat*1),(bu,bz+(x97:Int).toNat*1),(eo,0+(x_v30:Int).toNat*1),(io,0+(x_v30:Int).toNat*1)] ((tP 200 5 0)::(tI 199 x_v30)::(tS 198 an ah.1.length ao)::(tB 197 true)::(tI 23 x_v30)::(Bm x97 x_v12 ah an ao ab x_v10 ac y u x68 z g x63 m q x51 s a x38 d l f p)) v2)=>?_
                refine AQ [29,30,31] [31,30,29,28,27,26,25,24,23,22,21,20,19,18,17,16,15,12,14,13,11,10,9,8,7,6,5,4,3,2,1,0] [203,23,19,18,17,16,15,14,13,11,9,7,5] ((tB 203 (!x200))::(tI 23 x_v30)::(Bm x97 x_v12 ah an ao ab x_v10 ac y u x68 z g x63 m q x51 s a x38 d l f p)) (fun _ _ _ _ _ h=>h) q5 (Ap.peek (Ap.peek cn.plOk cn 0 4 rfl rfl cu [.bool x193] (c9 _)) cn 1 5 rfl rfl fw [.bool x200] (gy _)) (by kernel_rfl) (by rfl) (by kernel_rfl) fun zr g6=>?_
                refine A8 (by kernel_rfl) (wC ((!x200)) g6 (fun gv=>?_) (fun gv=>?_))
                ·
                 rw [gv,XW] at a5
                 refine XT (Aa (BZ 0 1 [4] [tB 4 false] g6 (Ap.peek (Ap.peek cn.plOk cn 0 4 rfl rfl cu [.bool x193] (c9 _)) cn 1 5 rfl rfl fw [.bool x200] (gy _)) (by kernel_rfl) fun zs q6=>?_))
                 refine wf (wp_ret ?_)
                 obtain rfl:=XZ a5
                 obtain rfl:=XZ bd
                 obtain rfl:=XZ H
                 exact rt (.one (.c (.bool false))) q6 cn rfl
                ·
                 rw [gv,XV] at a5
                 refine wp_skip (Aa (BZ 0 3 [23,19,18,17,16,15,14,13,11,9,7,5] ((tI 23 (IntKind.i64.wrap (x_v30+1)))::(Bm x97 x_v12 ah an ao ab x_v10 ac y u x68 z g x63 m q x51 s a x38 d l f p)) g6 (Ap.peek (Ap.peek cn.plOk cn 0 4 rfl rfl cu [.bool x193] (c9 _)) cn 1 5 rfl rfl fw [.bool x200] (gy _)) (by kernel_rfl) fun zt q7=>?_))
                 refine wf ?_
                 exact XY di ⟨Nat.lt_succ_self _,XY (IntKind.i64.wrap (x_v30+1)) ⟨_,_,rfl,(q7.keep [23,19,18,17,16,15,14,13,11,9,7,5] (by rfl)).cut 2 (by kernel_rfl),cn.cutPl 2 (by kernel_rfl),XU bw (XU ej e8),a5⟩⟩
               ·
                rw [e2,XV] at a5
                have q8:Kn 254 [(aa,0),(af,ag+(x_v12:Int).toNat*1),(bo,bs+(x_v30:Int).toNat*1),(bu,bz+(x97:Int).toNat*1),(eo,0+(x_v30:Int).toNat*1)] ((tB 197 false)::(tI 23 x_v30)::(Bm x97 x_v12 ah an ao ab x_v10 ac y u x68 z g x63 m q x51 s a x38 d l f p)) ly:=(jo.setB 197 false (by rfl) e2).kp
                refine AQ [26,27,28,29,30,31] [31,30,29,28,27,26,25,24,23,22,21,20,19,18,17,16,15,12,14,13,11,10,9,8,7,6,5,4,3,2,1,0] [203,23,19,18,17,16,15,14,13,11,9,7,5] ((tB 203 false)::(tI 23 x_v30)::(Bm x97 x_v12 ah an ao ab x_v10 ac y u x68 z g x63 m q x51 s a x38 d l f p)) (fun _ _ _ _ _ h=>h) q8 (Ap.peek b4.plOk b4 0 4 rfl rfl cu [.bool x193] (c9 _)) (by kernel_rfl) (by rfl) (by kernel_rfl) fun zu jq=>?_
                refine A8 (by kernel_rfl) (wC false jq (fun hb=>?_) (fun hb=>?_))
                ·
                 cases hb
                refine wp_skip (Aa (BZ 0 3 [23,19,18,17,16,15,14,13,11,9,7,5] ((tI 23 (IntKind.i64.wrap (x_v30+1)))::(Bm x97 x_v12 ah an ao ab x_v10 ac y u x68 z g x63 m q x51 s a x38 d l f p)) jq (Ap.peek b4.plOk b4 0 4 rfl rfl cu [.bool x193] (c9 _)) (by kernel_rfl) fun zv q9=>?_))
                refine wf ?_
                exact XY di ⟨Nat.lt_succ_self _,XY (IntKind.i64.wrap (x_v30+1)) ⟨_,_,rfl,(q9.keep [23,19,18,17,16,15,14,13,11,9,7,5] (by rfl)).cut 2 (by kernel_rfl),b4.cutPl 2 (by kernel_rfl),XU bw (XU ej e8),a5⟩⟩
              ·
               rw [e1,XV] at a5
               have ra:Kn 254 (LU aa af ag x_v12 bo bs x_v30 bu bz x97) ((tB 190 false)::(tI 23 x_v30)::(Bm x97 x_v12 ah an ao ab x_v10 ac y u x68 z g x63 m q x51 s a x38 d l f p)) lx:=(jm.setB 190 false (by rfl) e1).kp
               refine Dr [19,20,21,22,23,24,25,26,27,28,29,30,31] [31,30,29,28,27,26,25,24,23,22,21,20,19,18,17,16,15,12,14,13,11,10,9,8,7,6,5,4,3,2,1,0] ((tB 203 false)::(tI 23 x_v30)::(Bm x97 x_v12 ah an ao ab x_v10 ac y u x68 z g x63 m q x51 s a x38 d l f p)) ra c1 fun zw jr=>?_
               refine A8 (by kernel_rfl) (wC false jr (fun hb=>?_) (fun hb=>?_))
               ·
                cases hb
               refine wp_skip (Aa (Rk 0 3 ((tI 23 (IntKind.i64.wrap (x_v30+1)))::(Bm x97 x_v12 ah an ao ab x_v10 ac y u x68 z g x63 m q x51 s a x38 d l f p)) jr c1 fun zx rb=>?_))
               refine wf ?_
               exact XY di ⟨Nat.lt_succ_self _,XY (IntKind.i64.wrap (x_v30+1)) ⟨_,_,rfl,(rb.keep [23,19,18,17,16,15,14,13,11,9,7,5] (by rfl)).cut 2 (by kernel_rfl),c1.cutPl 2 (by kernel_rfl),XU bw (XU ej e8),a5⟩⟩
             ·
              rw [e0,XV] at a5
              have rc:Kn 254 (LU aa af ag x_v12 bo bs x_v30 bu bz x97) ((tB 181 false)::(tI 23 x_v30)::(Bm x97 x_v12 ah an ao ab x_v10 ac y u x68 z g x63 m q x51 s a x38 d l f p)) lw:=(jj.setB 181 false (by rfl) e0).kp
              refine Dr [10,11,12,13,14,15,16,17,18,19,20,21,22,23,24,25,26,27,28,29,30,31] (dn 31) ((tB 203 false)::(tI 23 x_v30)::(Bm x97 x_v12 ah an ao ab x_v10 ac y u x68 z g x63 m q x51 s a x38 d l f p)) rc dz fun zy js=>?_
              refine A8 (by kernel_rfl) (wC false js (fun hb=>?_) (fun hb=>?_))
              ·
               cases hb
              refine wp_skip (Aa (Rk 0 3 ((tI 23 (IntKind.i64.wrap (x_v30+1)))::(Bm x97 x_v12 ah an ao ab x_v10 ac y u x68 z g x63 m q x51 s a x38 d l f p)) js dz fun zz rd=>?_))
              refine wf ?_
              exact XY di ⟨Nat.lt_succ_self _,XY (IntKind.i64.wrap (x_v30+1)) ⟨_,_,rfl,(rd.keep [23,19,18,17,16,15,14,13,11,9,7,5] (by rfl)).cut 2 (by kernel_rfl),dz.cutPl 2 (by kernel_rfl),bw,a5⟩⟩
            ·
             rw [gu,XV] at a5
             refine wp_exit ?_
             obtain rfl:=XZ a5
             exact XY () ⟨_,_,rfl,g5.kp,dy,bw,rfl⟩
          ·
           rintro _ ab7 ⟨ll,ii,ef,rfl,re,hu,he,rfl⟩
           rw [Ex.bind_go] at bd
           replace a9:=a9.mono he
           replace cv:=cv.mono he
           refine Aa (Rk 0 2 ((tI 205 x97)::(tS 204 ab x_v10.length ac)::(tI 18 x_v12)::(tI 17 ah.2)::(tS 16 an ah.1.length ao)::(DR ab x_v10 ac y u x68 z g x63 m q x51 s a x38 d l f p)) re hu fun z0 rf=>?_)
           obtain⟨x206,ex206,bd⟩:=An bd
           obtain⟨kx,k4,ux⟩:=Ah ex206
           have ha:=Aw kx k4
           obtain⟨w4,uc,nw⟩:=Ay (sz:=1) rfl a9 ux
           obtain rfl:=uc
           obtain⟨ep,iy⟩:=A6 hu (i:=0) rfl (b0:=0+(x97:Int).toNat*1) (Nat.lt_of_lt_of_le (Nat.lt_add_of_pos_right (by decide)) (Am (sz:=1) rfl a9 ha))
           have sw:=hu.addPlc (b:=ep) (o:=0+(x97:Int).toNat*1) (cs:=[]) (fun j c hj=>by simp at hj) rfl (by kernel_rfl) (by kernel_rfl)
           have xt:∀ (e:AA) k c,([.bool x206]:List SC)[k]? = some c→(bi)[0+(x97:Int).toNat*1+k]? = some (c.den e):=fun e k c hk=>nw k _ (Ai hk)
           refine A7 2 (x97) rfl rfl (rfl) rfl (by decide) rf (by rfl) (by rfl) (by rfl) iy (by rfl) kx k4 (by kernel_rfl) fun ik (rg:Kn 254 [(aa,0),(af,ag+(x_v12:Int).toNat*1),(ep,0+(x97:Int).toNat*1)] ((tP 206 2 0)::(tI 205 x97)::(tS 204 ab x_v10.length ac)::(tI 18 x_v12)::(tI 17 ah.2)::(tS 16 an ah.1.length ao)::(DR ab x_v10 ac y u x68 z g x63 m q x51 s a x38 d l f p)) ik)=>?_
           obtain⟨dj,l5,bd⟩:=An bd
           obtain⟨xx,xz,k7⟩:=BA l5
           refine wl fun K hK=>?_
           refine AR 0 2 0 (0+(x97:Int).toNat*1) (.c (.bool true)) rg sw rfl rfl (by rfl) (by rfl) rfl rfl iy rfl (by kernel_rfl) (Am (sz:=1) rfl a9 ha) fun wm rh sx=>?_
           have nx:Af ef dj (bi.take (0+(x97:Int).toNat*1+0)++([.bool true]:List Value)++bi.drop (0+(x97:Int).toNat*1+0+1)):=by rw [k7]; exact BR (sz:=1) rfl a9 ha (Ae:rep ef (true:Bool) _)
           have kr:x_v10.length=dj.length:=by rw [k7]; simp
           have ri:Kn 254 [(aa,0),(af,ag+(x_v12:Int).toNat*1),(ep,0+(x97:Int).toNat*1)] [(206,.one (.c (.ptr 2 0))),(205,.one (.c (.int .i64 x97))),(204,.one (.c (.slice ab dj.length ac))),(18,.one (.c (.int .i64 x_v12))),(17,.one (.c (.int .i64 ah.2))),(16,.one (.c (.slice an ah.1.length ao))),(15,.one (.c (.slice ab dj.length ac))),(14,.one (.c (.int .i64 ((y.buses.length:Nat):Int)))),(13,.one (.c (.slice u x68.length z))),(11,.one (.c (.slice g x63.1.length m))),(9,.one (.c (.slice q x51.1.length s))),(7,.one (.c (.slice a x38.length d))),(5,.one (.c (.slice l f.2.length p)))] ik:=by rw [← kr]; exact rh
           have km:Ak ⟨w,h,AE⟩ ef [(aa,0),(af,ag+(x_v12:Int).toNat*1),(ep,0+(x97:Int).toNat*1)] [⟨[.slice ai y.room.length ak,.slice aj y.buses.length al,.int .i64 y.broken],some 25⟩,⟨[.int .i64 x97],none⟩,⟨[],none⟩] [⟨ab,dj.length,ac,4,1,bi.take (0+(x97:Int).toNat*1+0)++([.bool true]:List Value)++bi.drop (0+(x97:Int).toNat*1+0+1),0⟩,⟨an,ah.1.length,ao,4,1,dk,0⟩] wm:=by rw [← kr]; exact sx
           refine hK _ _ ?_
           have rj:Kn 254 [(aa,0),(af,ag+(x_v12:Int).toNat*1),(ep,0+(x97:Int).toNat*1)] ((tI 18 x_v12)::(tI 17 ah.2)::(tS 16 an ah.1.length ao)::(tS 15 ab dj.length ac)::(FR y u x68 z g x63 m q x51 s a x38 d l f p)) ik:=ri.kp
           refine wf (Aa (Rk 0 3 ((tI 18 (IntKind.i64.wrap (x_v12+1)))::(tI 17 ah.2)::(tS 16 an ah.1.length ao)::(tS 15 ab dj.length ac)::(FR y u x68 z g x63 m q x51 s a x38 d l f p)) rj km fun z1 rk=>?_))
           refine wf ?_
           exact XY fg ⟨Nat.lt_succ_self _,XY dj ⟨ah.1,IntKind.i64.wrap (x_v12+1),ah.2,ab,ac,bi.take (0+(x97:Int).toNat*1+0)++([.bool true]:List Value)++bi.drop (0+(x97:Int).toNat*1+0+1),an,ao,dk,_,_,rfl,(rk.keep [18,17,16,15,14,13,11,9,7,5] (by rfl)).cut 1 (by kernel_rfl),km.cutPl 1 (by kernel_rfl),XU cy (XU cz he),nx,cv,bd⟩⟩
        ·
         rw [gn,XV] at bd
         refine wp_exit ?_
         obtain rfl:=XZ bd
         exact XY (x_v10,x_v11,x_v13) ⟨ab,ac,bi,ci,cl,fi,_,_,rfl,g1.kp,f5,cy,a9,iz,rfl⟩
      ·
       rintro _ ab8 ⟨am,fm,ft,fj,ar,au,em,ia,dq,rfl,rm,kn,hf,fx,c8,rfl⟩
       rw [Ex.bind_go] at H
       replace ap:=ap.mono hf
       replace aq:=aq.mono hf
       replace a7:=a7.mono hf
       refine XT (XT (Aa (Rk 0 1 ((tI 24 0)::(Bv am ar au y g x63 m)) rm kn fun z2 rn=>?_)))
       refine wf ?_
       obtain⟨lj,iv,H⟩:=An H
       refine As (fun a' w'=>∃ (lm:Unit)(il:Array Value)(gk:Ac),a' = ⟨il,[]⟩∧Kn 254 [(aa,0)] [tI 17 am.2.2,tS 11 g x63.1.length m] il∧Ak ⟨w,h,AE⟩ gk [(aa,0)] [⟨Bj ai y ak aj al,some 25⟩] [⟨fm,am.1.length,ft,4,1,fj,0⟩,⟨ar,am.2.1.length,au,4,1,em,0⟩] w'∧Ac.le dq gk∧lj=.go lm) ?_ ?_
       ·
        refine wp_block ?_
        refine At (fun u6 a' w'=>∃ (x_v40:Int)(im:Array Value)(gl:Ac),a' = ⟨im,[]⟩∧Kn 254 [(aa,0)] ((tI 24 x_v40)::(Bv am ar au y g x63 m)) im∧Ak ⟨w,h,AE⟩ gl [(aa,0)] [⟨Bj ai y ak aj al,some 25⟩] [⟨fm,am.1.length,ft,4,1,fj,0⟩,⟨ar,am.2.1.length,au,4,1,em,0⟩] w'∧Ac.le dq gl∧BC u6 y x63 am x_v40=some lj) n ?_ ?_
        ·
         exact XY 0 ⟨_,_,rfl,rn.kp,kn,Ac.le_refl _,iv⟩
        ·
         rintro fh _ ab9 ⟨x_v40,im,gl,rfl,ro,d0,dc,a6⟩
         clear iv
         obtain _ | fh:=fh
         ·
          rw [BC] at a6; cases a6
         rw [BC] at a6
         replace ap:=ap.mono dc
         replace aq:=aq.mono dc
         replace a7:=a7.mono dc
         replace fx:=fx.mono dc
         replace c8:=c8.mono dc
         refine XT (XT (Aa (Rk 0 4 ((tB 210 (decide (x_v40<((x63.1.length:Nat):Int))))::(tI 24 x_v40)::(Bv am ar au y g x63 m)) ro d0 fun z3 g7=>?_)))
         refine wf (wC (decide (x_v40<((x63.1.length:Nat):Int))) g7 (fun gw=>?_) (fun gw=>?_))
         ·
          rw [gw,XW] at a6
          refine wp_skip (XT (wp_block (XT (Av (by kernel_rfl) ?_))))
          replace d0:=d0.drew
          refine A3 [] [(aa,0)] [⟨Bj ai y ak aj al,some 25⟩] ?_
          refine Dr [0,1] [1,0] ((tI 214 x_v40)::(tS 213 g x63.1.length m)::(tI 24 x_v40)::(Bv am ar au y g x63 m)) g7 d0 fun z4 rp=>?_
          obtain⟨x215,ex215,a6⟩:=An a6
          obtain⟨s7,tn,uy⟩:=Ah ex215
          obtain⟨bp,bt,w5,na,ud,ny⟩:=a7.get (by decide) uy
          obtain rfl:=ud
          have hv:=d0.addPlc (b:=bp) (o:=bt+(x_v40:Int).toNat*1) (cs:=[.int .i64 x215]) (fun j c hj=>ny j _ (Ai hj)) rfl (by kernel_rfl) (by kernel_rfl)
          refine A4 2 (x_v40) [.int .i64 x215] (fun _ _ _ _ _ h=>h) rfl rfl (rfl) rfl (by decide) (by kernel_rfl) (by kernel_rfl) rp d0.plOk (by rfl) (by rfl) (by rfl) na (by rfl) s7 tn (by kernel_rfl) fun v5 (rq:Kn 254 [(aa,0),(bp,bt+(x_v40:Int).toNat*1)] ((tP 215 1 0)::(tI 214 x_v40)::(tS 213 g x63.1.length m)::(tI 24 x_v40)::(Bv am ar au y g x63 m)) v5)=>?_
          refine Dr [3,4,5] (dn 5) ((tI 218 (IntKind.i64.wrap (((y.buses.length:Nat):Int)-1)))::(tI 216 x215)::(tI 24 x_v40)::(Bv am ar au y g x63 m)) rq hv fun z5 rr=>?_
          obtain⟨x219,ex219,a6⟩:=An a6
          refine Dl 6 fun K hK=>?_
          refine wc [.c (.int .i64 x215),.c (.int .i64 0),.c (.int .i64 (IntKind.i64.wrap (((y.buses.length:Nat):Int)-1)))] rr hv (Ff fh hv.has x215 0 (IntKind.i64.wrap (((y.buses.length:Nat):Int)-1)) ex219) fun abc xn acb ms fz df=>?_
          replace a7:=a7.mono fz
          replace c8:=c8.mono fz
          obtain rfl:=ms
          refine⟨.one (.c (.bool x219)),rfl,fun v6 (rs:Kn 254 [(aa,0),(bp,bt+(x_v40:Int).toNat*1)] ((tB 219 x219)::(tI 218 (IntKind.i64.wrap (((y.buses.length:Nat):Int)-1)))::(tI 216 x215)::(tI 24 x_v40)::(Bv am ar au y g x63 m)) v6)=>hK _ _ df.plOk ?_⟩
          refine Dr [7,8] (dn 8) ((tB 221 (!x219))::(tI 24 x_v40)::(Bv am ar au y g x63 m)) rs df fun lz jt=>?_
          rcases Bool.eq_false_or_eq_true ((!x219)) with e3 | e3
          ·
           rw [e3,XW] at a6
           have ru:Kn 254 [(aa,0),(bp,bt+(x_v40:Int).toNat*1)] ((tB 221 true)::(tI 24 x_v40)::(Bv am ar au y g x63 m)) lz:=(jt.setB 221 true (by rfl) e3).kp
           refine Dr [9,10,11,12,13,14,15,16,17,18,19,20,21,22,23,24,25,26,27,28,29,30,31,32,33] (dn 33) ((tB 246 true)::(tI 24 x_v40)::(Bv am ar au y g x63 m)) ru df fun z6 ju=>?_
           refine A8 (by kernel_rfl) (wC true ju (fun hb=>?_) (fun hb=>?_))
           rotate_left
           ·
            cases hb
           refine XT (Aa (Rk 0 1 [tB 4 false] ju df fun z7 rv=>?_))
           refine wf (wp_ret ?_)
           obtain rfl:=XZ a6
           obtain rfl:=XZ H
           exact rt (.one (.c (.bool false))) rv df rfl
          ·
           rw [e3,XV] at a6
           have rx:Kn 254 [(aa,0),(bp,bt+(x_v40:Int).toNat*1)] ((tB 221 false)::(tI 24 x_v40)::(Bv am ar au y g x63 m)) lz:=(jt.setB 221 false (by rfl) e3).kp
           refine Dr [9,10,11] (dn 11) ((tI 224 x_v40)::(tS 223 g x63.1.length m)::(tS 222 ar am.2.1.length au)::(tB 221 false)::(tI 24 x_v40)::(Bv am ar au y g x63 m)) rx df fun z8 jv=>?_
           obtain⟨x225,ex225,a6⟩:=An a6
           obtain⟨s8,tp,uz⟩:=Ah ex225
           obtain⟨ck,cp,w6,nb,ue,nz⟩:=a7.get (by decide) uz
           obtain rfl:=ue
           have f9:=df.addPlc (b:=ck) (o:=cp+(x_v40:Int).toNat*1) (cs:=[.int .i64 x225]) (fun j c hj=>nz j _ (Ai hj)) rfl (by kernel_rfl) (by kernel_rfl)
           refine A4 12 (x_v40) [.int .i64 x225] (fun _ _ _ _ _ h=>h) rfl rfl (Aj jv (by kernel_rfl)) rfl (by decide) (by kernel_rfl) (by kernel_rfl) jv df.plOk (by rfl) (by rfl) (by rfl) nb (by rfl) s8 tp (by kernel_rfl) fun v7 (ry:Kn 254 [(aa,0),(bp,bt+(x_v40:Int).toNat*1),(ck,cp+(x_v40:Int).toNat*1)] ((tP 225 2 0)::(tI 224 x_v40)::(tS 223 g x63.1.length m)::(tS 222 ar am.2.1.length au)::(tB 221 false)::(tI 24 x_v40)::(Bv am ar au y g x63 m)) v7)=>?_
           refine Dr [13] (dn 13) ((tI 226 x225)::(tS 222 ar am.2.1.length au)::(tB 221 false)::(tI 24 x_v40)::(Bv am ar au y g x63 m)) ry f9 fun z9 jw=>?_
           obtain⟨x227,ex227,a6⟩:=An a6
           obtain⟨ky,k5,u0⟩:=Ah ex227
           have sq:=Aw ky k5
           obtain⟨w7,uf,n0⟩:=Ay (sz:=1) rfl c8 u0
           obtain rfl:=uf
           obtain⟨cq,bv⟩:=A6 f9 (i:=1) rfl (b0:=0+(x225:Int).toNat*1) (Nat.lt_of_lt_of_le (Nat.lt_add_of_pos_right (by decide)) (Am (sz:=1) rfl c8 sq))
           have bg:=f9.addPlc (b:=cq) (o:=0+(x225:Int).toNat*1) (cs:=[]) (fun j c hj=>by simp at hj) rfl (by kernel_rfl) (by kernel_rfl)
           have b1:∀ (e:AA) k c,([.bool x227]:List SC)[k]? = some c→(em)[0+(x225:Int).toNat*1+k]? = some (c.den e):=fun e k c hk=>n0 k _ (Ai hk)
           refine A4 14 (x225) [.bool x227] (fun _ _ _ _ _ h=>h) rfl rfl (Aj jw (by kernel_rfl)) rfl (by decide) (by kernel_rfl) (by kernel_rfl) jw f9.plOk (by rfl) (by rfl) (by rfl) bv (by rfl) ky k5 (by kernel_rfl) fun v8 (rz:Kn 254 (On aa bp bt x_v40 ck cp cq x225) ((tP 227 3 0)::(tI 226 x225)::(tS 222 ar am.2.1.length au)::(tB 221 false)::(tI 24 x_v40)::(Bv am ar au y g x63 m)) v8)=>?_
           refine AQ [15,16,17,18] [18,17,16,15,14,13,12,11,10,9,8,7,6,5,4,3,2,1,0] [231,24,17,16,14,11] ((tB 231 (!x227))::(tI 24 x_v40)::(Bv am ar au y g x63 m)) (fun _ _ _ _ _ h=>h) rz (Ap.peek bg.plOk bg 1 3 rfl rfl bv [.bool x227] (b1 _)) (by kernel_rfl) (by rfl) (by kernel_rfl) fun l0 jx=>?_
           rcases Bool.eq_false_or_eq_true ((!x227)) with e4 | e4
           ·
            rw [e4,XW] at a6
            have r0:Kn 254 (On aa bp bt x_v40 ck cp cq x225) ((tB 231 true)::(tI 24 x_v40)::(Bv am ar au y g x63 m)) l0:=(jx.setB 231 true (by rfl) e4).kp
            refine AQ [19,20,21,22,23,24,25,26,27,28,29,30,31,32,33] [33,32,31,30,29,28,27,26,25,24,23,22,21,20,19,18,17,16,15,14,13,12,11,10,9,8,7,6,5,4,3,2,1,0] [246,24,17,16,14,11] ((tB 246 true)::(tI 24 x_v40)::(Bv am ar au y g x63 m)) (fun _ _ _ _ _ h=>h) r0 (Ap.peek bg.plOk bg 1 3 rfl rfl bv [.bool x227] (b1 _)) (by kernel_rfl) (by rfl) (by kernel_rfl) fun aaa jy=>?_
            refine A8 (by kernel_rfl) (wC true jy (fun hb=>?_) (fun hb=>?_))
            rotate_left
            ·
             cases hb
            refine XT (Aa (BZ 0 1 [4] [tB 4 false] jy (Ap.peek bg.plOk bg 1 3 rfl rfl bv [.bool x227] (b1 _)) (by kernel_rfl) fun aab r1=>?_))
            refine wf (wp_ret ?_)
            obtain rfl:=XZ a6
            obtain rfl:=XZ H
            exact rt (.one (.c (.bool false))) r1 bg rfl
           ·
            rw [e4,XV] at a6
            have r2:Kn 254 (On aa bp bt x_v40 ck cp cq x225) ((tB 231 false)::(tI 24 x_v40)::(Bv am ar au y g x63 m)) l0:=(jx.setB 231 false (by rfl) e4).kp
            refine AQ [19,20,21] [21,20,19,18,17,16,15,14,13,12,11,10,9,8,7,6,5,4,3,2,1,0] [234,231,24,17,16,14,11] ((tB 234 (decide (x_v40>0)))::(tB 231 false)::(tI 24 x_v40)::(Bv am ar au y g x63 m)) (fun _ _ _ _ _ h=>h) r2 (Ap.peek bg.plOk bg 1 3 rfl rfl bv [.bool x227] (b1 _)) (by kernel_rfl) (by rfl) (by kernel_rfl) fun l1 jz=>?_
            rcases Bool.eq_false_or_eq_true (decide (x_v40>0)) with e5 | e5
            ·
             rw [e5,XW] at a6
             have r3:Kn 254 (On aa bp bt x_v40 ck cp cq x225) ((tB 234 true)::(tB 231 false)::(tI 24 x_v40)::(Bv am ar au y g x63 m)) l1:=(jz.setB 234 true (by rfl) e5).kp
             refine AQ [22,23] [23,22,21,20,19,18,17,16,15,14,13,12,11,10,9,8,7,6,5,4,3,2,1,0] [236,235,234,231,24,17,16,14,11] ((tI 236 x_v40)::(tS 235 g x63.1.length m)::(tB 234 true)::(tB 231 false)::(tI 24 x_v40)::(Bv am ar au y g x63 m)) (fun _ _ _ _ _ h=>h) r3 (Ap.peek bg.plOk bg 1 3 rfl rfl bv [.bool x227] (b1 _)) (by kernel_rfl) (by rfl) (by kernel_rfl) fun aac j0=>?_
             obtain⟨x237,ex237,a6⟩:=An a6
             obtain⟨s9,tq,u1⟩:=Ah ex237
             obtain⟨gg,h6,w8,nc,ug,n1⟩:=a7.get (by decide) u1
             obtain rfl:=ug
             have fe:=bg.addPlc (b:=gg) (o:=h6+(x_v40:Int).toNat*1) (cs:=[.int .i64 x237]) (fun j c hj=>n1 j _ (Ai hj)) rfl (by kernel_rfl) (by kernel_rfl)
             refine A4 24 (x_v40) [.int .i64 x237] (fun _ _ _ _ _ h=>h) rfl rfl (Aj j0 (by kernel_rfl)) rfl (by decide) (by kernel_rfl) (by kernel_rfl) j0 (Ap.peek bg.plOk bg 1 3 rfl rfl bv [.bool x227] (b1 _)) (by rfl) (by rfl) (by rfl) nc (by rfl) s9 tq (by kernel_rfl) fun wa (r5:Kn 254 [(aa,0),(bp,bt+(x_v40:Int).toNat*1),(ck,cp+(x_v40:Int).toNat*1),(cq,0+(x225:Int).toNat*1),(gg,h6+(x_v40:Int).toNat*1)] ((tP 237 4 0)::(tI 236 x_v40)::(tS 235 g x63.1.length m)::(tB 234 true)::(tB 231 false)::(tI 24 x_v40)::(Bv am ar au y g x63 m)) wa)=>?_
             refine AQ [25,26,27,28] [28,27,26,25,24,23,22,21,20,19,18,17,16,15,14,13,12,11,10,9,8,7,6,5,4,3,2,1,0] [241,239,238,234,231,24,17,16,14,11] ((tI 241 (IntKind.i64.wrap (x_v40-1)))::(tS 239 g x63.1.length m)::(tI 238 x237)::(tB 234 true)::(tB 231 false)::(tI 24 x_v40)::(Bv am ar au y g x63 m)) (fun _ _ _ _ _ h=>h) r5 (Ap.peek fe.plOk fe 1 3 rfl rfl bv [.bool x227] (b1 _)) (by kernel_rfl) (by rfl) (by kernel_rfl) fun aad j1=>?_
             obtain⟨x242,ex242,a6⟩:=An a6
             obtain⟨ta,tr,u2⟩:=Ah ex242
             obtain⟨ip,lk,w9,nd,uh,n2⟩:=a7.get (by decide) u2
             obtain rfl:=uh
             have dg:=fe.addPlc (b:=ip) (o:=lk+(IntKind.i64.wrap (x_v40-1):Int).toNat*1) (cs:=[.int .i64 x242]) (fun j c hj=>n2 j _ (Ai hj)) rfl (by kernel_rfl) (by kernel_rfl)
             refine A4 29 (IntKind.i64.wrap (x_v40-1)) [.int .i64 x242] (fun _ _ _ _ _ h=>h) rfl rfl (Aj j1 (by kernel_rfl)) rfl (by decide) (by kernel_rfl) (by kernel_rfl) j1 (Ap.peek fe.plOk fe 1 3 rfl rfl bv [.bool x227] (b1 _)) (by rfl) (by rfl) (by rfl) nd (by rfl) ta tr (by kernel_rfl) fun wd (r6:Kn 254 [(aa,0),(bp,bt+(x_v40:Int).toNat*1),(ck,cp+(x_v40:Int).toNat*1),(cq,0+(x225:Int).toNat*1),(gg,h6+(x_v40:Int).toNat*1),(ip,lk+(IntKind.i64.wrap (x_v40-1):Int).toNat*1)] ((tP 242 5 0)::(tI 241 (IntKind.i64.wrap (x_v40-1)))::(tS 239 g x63.1.length m)::(tI 238 x237)::(tB 234 true)::(tB 231 false)::(tI 24 x_v40)::(Bv am ar au y g x63 m)) wd)=>?_
             refine AQ [30,31,32,33] [33,32,31,30,29,28,27,26,25,24,23,22,21,20,19,18,17,16,15,14,13,12,11,10,9,8,7,6,5,4,3,2,1,0] [246,24,17,16,14,11] ((tB 246 (decide (x237≤x242)))::(tI 24 x_v40)::(Bv am ar au y g x63 m)) (fun _ _ _ _ _ h=>h) r6 (Ap.peek dg.plOk dg 1 3 rfl rfl bv [.bool x227] (b1 _)) (by kernel_rfl) (by rfl) (by kernel_rfl) fun aaf g8=>?_
             refine A8 (by kernel_rfl) (wC (decide (x237≤x242)) g8 (fun gx=>?_) (fun gx=>?_))
             ·
              rw [gx,XW] at a6
              refine XT (Aa (BZ 0 1 [4] [tB 4 false] g8 (Ap.peek dg.plOk dg 1 3 rfl rfl bv [.bool x227] (b1 _)) (by kernel_rfl) fun aag r8=>?_))
              refine wf (wp_ret ?_)
              obtain rfl:=XZ a6
              obtain rfl:=XZ H
              exact rt (.one (.c (.bool false))) r8 dg rfl
             ·
              rw [gx,XV] at a6
              refine wp_skip (Aa (BZ 0 3 [24,17,16,14,11] ((tI 24 (IntKind.i64.wrap (x_v40+1)))::(Bv am ar au y g x63 m)) g8 (Ap.peek dg.plOk dg 1 3 rfl rfl bv [.bool x227] (b1 _)) (by kernel_rfl) fun aah r9=>?_))
              refine wf ?_
              exact XY fh ⟨Nat.lt_succ_self _,XY (IntKind.i64.wrap (x_v40+1)) ⟨_,_,rfl,(r9.keep [24,17,16,14,11] (by rfl)).cut 1 (by kernel_rfl),dg.cutPl 1 (by kernel_rfl),XU dc fz,a6⟩⟩
            ·
             rw [e5,XV] at a6
             have sa:Kn 254 (On aa bp bt x_v40 ck cp cq x225) ((tB 234 false)::(tB 231 false)::(tI 24 x_v40)::(Bv am ar au y g x63 m)) l1:=(jz.setB 234 false (by rfl) e5).kp
             refine AQ [22,23,24,25,26,27,28,29,30,31,32,33] [33,32,31,30,29,28,27,26,25,24,23,22,21,20,19,18,17,16,15,14,13,12,11,10,9,8,7,6,5,4,3,2,1,0] [246,24,17,16,14,11] ((tB 246 false)::(tI 24 x_v40)::(Bv am ar au y g x63 m)) (fun _ _ _ _ _ h=>h) sa (Ap.peek bg.plOk bg 1 3 rfl rfl bv [.bool x227] (b1 _)) (by kernel_rfl) (by rfl) (by kernel_rfl) fun aai j2=>?_
             refine A8 (by kernel_rfl) (wC false j2 (fun hb=>?_) (fun hb=>?_))
             ·
              cases hb
             refine wp_skip (Aa (BZ 0 3 [24,17,16,14,11] ((tI 24 (IntKind.i64.wrap (x_v40+1)))::(Bv am ar au y g x63 m)) j2 (Ap.peek bg.plOk bg 1 3 rfl rfl bv [.bool x227] (b1 _)) (by kernel_rfl) fun aaj sb=>?_))
             refine wf ?_
             exact XY fh ⟨Nat.lt_succ_self _,XY (IntKind.i64.wrap (x_v40+1)) ⟨_,_,rfl,(sb.keep [24,17,16,14,11] (by rfl)).cut 1 (by kernel_rfl),bg.cutPl 1 (by kernel_rfl),XU dc fz,a6⟩⟩
         ·
          rw [gw,XV] at a6
          refine wp_exit ?_
          obtain rfl:=XZ a6
          exact XY () ⟨_,_,rfl,g7.kp,d0,dc,rfl⟩
       ·
        rintro _ acd ⟨lm,il,gk,rfl,sc,ff,f1,rfl⟩
        rw [Ex.bind_go] at H
        replace ap:=ap.mono f1
        replace aq:=aq.mono f1
        replace fx:=fx.mono f1
        replace c8:=c8.mono f1
        refine XT (Aa (Rk 0 5 [tB 251 (((x63.1.length:Nat):Int) == am.2.2)] sc ff fun l2 j3=>?_))
        rcases Bool.eq_false_or_eq_true ((((x63.1.length:Nat):Int) == am.2.2)) with e6 | e6
        ·
         rw [e6,XW] at H
         have j4:Kn 254 [(aa,0)] [tB 251 true] l2:=(j3.setB 251 true (by rfl) e6).kp
         obtain⟨x252,ex252,H⟩:=An H
         refine AP _ rfl (Aj j4 (by kernel_rfl)) fun K hK=>?_
         refine wc [] j4 ff (Jz n ff.has  ex252) fun abd xo ace mt xv ko=>?_
         obtain rfl:=mt
         refine⟨.one (.c (.bool x252)),rfl,fun we (se:Kn 254 [(aa,0)] [tB 252 x252,tB 251 true] we)=>hK _ _ ?_⟩
         refine Rk 6 2 [tB 4 x252] se ko fun aal sf=>?_
         refine wf (wp_ret ?_)
         obtain rfl:=XZ H
         exact rt (.one (.c (.bool x252))) sf ko rfl
        ·
         rw [e6,XV] at H
         have sg:Kn 254 [(aa,0)] [tB 251 false] l2:=(j3.setB 251 false (by rfl) e6).kp
         refine Rk 5 3 [tB 4 false] sg ff fun aam sh=>?_
         refine wf (wp_ret ?_)
         obtain rfl:=XZ H
         exact rt (.one (.c (.bool false))) sh ff rfl
     refine OP 1 3 rfl rfl (by kernel_rfl) (by decide) (rfl) (rfl) (fun K hK=>?_) (fun K hK=>?_)
     ·
      obtain⟨tb,ts,k8⟩:=HS ex86
      refine DM 0 rfl rfl 4 1 1 [.bool false] (((y.buses.length:Nat):Int)) i6 kg rfl rfl (by decide) (by rfl) (by kernel_rfl) (by kernel_rfl) (by rfl) tb ts (by decide) fun dl wg wn (j5:Kn 254 [(aa,0)] [(86,.one (.c (.slice dl ((((y.buses.length:Nat):Int):Int).toNat) ((((y.buses.length:Nat):Int):Int).toNat)))),(87,.one (.c (.int .i64 ((y.buses.length:Nat):Int)))),(85,.one (.c (.int .i64 ((y.buses.length:Nat):Int)))),(14,.one (.c (.int .i64 ((y.buses.length:Nat):Int)))),(13,.one (.c (.slice u x68.length z))),(11,.one (.c (.slice g x63.1.length m))),(9,.one (.c (.slice q x51.1.length s))),(7,.one (.c (.slice a x38.length d))),(5,.one (.c (.slice l f.2.length p)))] wg) (ga:Ak ⟨w,h,AE⟩ bm [(aa,0)] [⟨[.slice ai y.room.length ak,.slice aj y.buses.length al,.int .i64 y.broken],some 25⟩] [⟨dl,(((y.buses.length:Nat):Int):Int).toNat,(((y.buses.length:Nat):Int):Int).toNat,4,1,List.flatten (List.replicate (((y.buses.length:Nat):Int):Int).toNat ([.bool false]:List Value)),0⟩,⟨none,0,0,4,1,[],0⟩] wn)=>?_
      have i0:Af bm x86 (List.flatten (List.replicate (((y.buses.length:Nat):Int):Int).toNat ([.bool false]:List Value))):=by rw [k8]; exact Af.replicate (α:=Bool) (x:=false) Ae _
      have j9:(((y.buses.length:Nat):Int):Int).toNat=x86.length:=by rw [k8]; simp
      rw [j9] at j5 ga
      skip
      rw [j9] at i0
      refine hK _ _ ga.plOk ?_
      refine Dr [4] [4,1,2,0] ((tS 15 dl x86.length x86.length)::(tI 87 ((y.buses.length:Nat):Int))::(FR y u x68 z g x63 m q x51 s a x38 d l f p)) j5 ga fun aan si=>?_
      refine Dl 3 fun K hK=>?_
      obtain⟨tc,tt,k9⟩:=HS ex88
      refine DM 1 rfl rfl 4 1 1 [.bool false] (((y.buses.length:Nat):Int)) si ga rfl rfl (by decide) (by rfl) (by kernel_rfl) (by kernel_rfl) (by rfl) tc tt (by decide) fun fp wh wo (j6:Kn 254 [(aa,0)] [(88,.one (.c (.slice fp ((((y.buses.length:Nat):Int):Int).toNat) ((((y.buses.length:Nat):Int):Int).toNat)))),(15,.one (.c (.slice dl x86.length x86.length))),(87,.one (.c (.int .i64 ((y.buses.length:Nat):Int)))),(14,.one (.c (.int .i64 ((y.buses.length:Nat):Int)))),(13,.one (.c (.slice u x68.length z))),(11,.one (.c (.slice g x63.1.length m))),(9,.one (.c (.slice q x51.1.length s))),(7,.one (.c (.slice a x38.length d))),(5,.one (.c (.slice l f.2.length p)))] wh) (gb:Ak ⟨w,h,AE⟩ bm [(aa,0)] [⟨[.slice ai y.room.length ak,.slice aj y.buses.length al,.int .i64 y.broken],some 25⟩] [⟨dl,x86.length,x86.length,4,1,List.flatten (List.replicate x86.length ([.bool false]:List Value)),0⟩,⟨fp,(((y.buses.length:Nat):Int):Int).toNat,(((y.buses.length:Nat):Int):Int).toNat,4,1,List.flatten (List.replicate (((y.buses.length:Nat):Int):Int).toNat ([.bool false]:List Value)),0⟩] wo)=>?_
      have i1:Af bm x88 (List.flatten (List.replicate (((y.buses.length:Nat):Int):Int).toNat ([.bool false]:List Value))):=by rw [k9]; exact Af.replicate (α:=Bool) (x:=false) Ae _
      have ka:(((y.buses.length:Nat):Int):Int).toNat=x88.length:=by rw [k9]; simp
      rw [ka] at j6 gb
      skip
      rw [ka] at i1
      refine hK _ _ gb.plOk ?_
      refine Dr [5] [5,3,4,1,2,0] ((tS 16 fp x88.length x88.length)::(tS 15 dl x86.length x86.length)::(FR y u x68 z g x63 m q x51 s a x38 d l f p)) j6 gb fun aao sj=>?_
      refine Hr [5,4,1,3,2,0] (by kernel_rfl) (by rfl) (lc dl x86.length (List.flatten (List.replicate x86.length ([.bool false]:List Value))) fp x88.length (List.flatten (List.replicate x88.length ([.bool false]:List Value))) _ _ ?_)
      exact XY _ ⟨_,rfl,sj.kp,gb,Ac.le_refl _,i0,i1⟩
     ·
      obtain⟨td,tu,la⟩:=HS ex88
      refine DM 1 rfl rfl 4 1 1 [.bool false] (((y.buses.length:Nat):Int)) i6 kg rfl rfl (by decide) (by rfl) (by kernel_rfl) (by kernel_rfl) (by rfl) td tu (by decide) fun d7 wi wp (j7:Kn 254 [(aa,0)] [(88,.one (.c (.slice d7 ((((y.buses.length:Nat):Int):Int).toNat) ((((y.buses.length:Nat):Int):Int).toNat)))),(87,.one (.c (.int .i64 ((y.buses.length:Nat):Int)))),(85,.one (.c (.int .i64 ((y.buses.length:Nat):Int)))),(14,.one (.c (.int .i64 ((y.buses.length:Nat):Int)))),(13,.one (.c (.slice u x68.length z))),(11,.one (.c (.slice g x63.1.length m))),(9,.one (.c (.slice q x51.1.length s))),(7,.one (.c (.slice a x38.length d))),(5,.one (.c (.slice l f.2.length p)))] wi) (hw:Ak ⟨w,h,AE⟩ bm [(aa,0)] [⟨[.slice ai y.room.length ak,.slice aj y.buses.length al,.int .i64 y.broken],some 25⟩] [⟨none,0,0,4,1,[],0⟩,⟨d7,(((y.buses.length:Nat):Int):Int).toNat,(((y.buses.length:Nat):Int):Int).toNat,4,1,List.flatten (List.replicate (((y.buses.length:Nat):Int):Int).toNat ([.bool false]:List Value)),0⟩] wp)=>?_
      have i2:Af bm x88 (List.flatten (List.replicate (((y.buses.length:Nat):Int):Int).toNat ([.bool false]:List Value))):=by rw [la]; exact Af.replicate (α:=Bool) (x:=false) Ae _
      have kb:(((y.buses.length:Nat):Int):Int).toNat=x88.length:=by rw [la]; simp
      rw [kb] at j7 hw
      skip
      rw [kb] at i2
      refine hK _ _ hw.plOk ?_
      refine Dl 1 fun K hK=>?_
      obtain⟨te,tv,lb⟩:=HS ex86
      refine DM 0 rfl rfl 4 1 1 [.bool false] (((y.buses.length:Nat):Int)) j7 hw rfl rfl (by decide) (by rfl) (by kernel_rfl) (by kernel_rfl) (by rfl) te tv (by decide) fun fq wj wq (j8:Kn 254 [(aa,0)] [(86,.one (.c (.slice fq ((((y.buses.length:Nat):Int):Int).toNat) ((((y.buses.length:Nat):Int):Int).toNat)))),(88,.one (.c (.slice d7 x88.length x88.length))),(87,.one (.c (.int .i64 ((y.buses.length:Nat):Int)))),(85,.one (.c (.int .i64 ((y.buses.length:Nat):Int)))),(14,.one (.c (.int .i64 ((y.buses.length:Nat):Int)))),(13,.one (.c (.slice u x68.length z))),(11,.one (.c (.slice g x63.1.length m))),(9,.one (.c (.slice q x51.1.length s))),(7,.one (.c (.slice a x38.length d))),(5,.one (.c (.slice l f.2.length p)))] wj) (gc:Ak ⟨w,h,AE⟩ bm [(aa,0)] [⟨[.slice ai y.room.length ak,.slice aj y.buses.length al,.int .i64 y.broken],some 25⟩] [⟨fq,(((y.buses.length:Nat):Int):Int).toNat,(((y.buses.length:Nat):Int):Int).toNat,4,1,List.flatten (List.replicate (((y.buses.length:Nat):Int):Int).toNat ([.bool false]:List Value)),0⟩,⟨d7,x88.length,x88.length,4,1,List.flatten (List.replicate x88.length ([.bool false]:List Value)),0⟩] wq)=>?_
      have i3:Af bm x86 (List.flatten (List.replicate (((y.buses.length:Nat):Int):Int).toNat ([.bool false]:List Value))):=by rw [lb]; exact Af.replicate (α:=Bool) (x:=false) Ae _
      have kc:(((y.buses.length:Nat):Int):Int).toNat=x86.length:=by rw [lb]; simp
      rw [kc] at j8 gc
      skip
      rw [kc] at i3
      refine hK _ _ gc.plOk ?_
      refine Dr [4,5] [5,4,1,3,2,0] ((tS 16 d7 x88.length x88.length)::(tS 15 fq x86.length x86.length)::(FR y u x68 z g x63 m q x51 s a x38 d l f p)) j8 gc fun aap sk=>?_
      refine Hr [5,4,1,3,2,0] (by kernel_rfl) (by rfl) (lc fq x86.length (List.flatten (List.replicate x86.length ([.bool false]:List Value))) d7 x88.length (List.flatten (List.replicate x88.length ([.bool false]:List Value))) _ _ ?_)
      exact XY _ ⟨_,rfl,sk.kp,gc,Ac.le_refl _,i3,i2⟩
end Go.Proofs.Ythcbemnflgjadaa
