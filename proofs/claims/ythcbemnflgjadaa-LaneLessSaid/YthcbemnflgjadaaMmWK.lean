/- Each call computes its plain function. -/
import Derived.Test.YthcbemnflgjadaaProg
import Derived.Test.YthcbemnflgjadaaMmP0
import Derived.Test.YthcbemnflgjadaaMmWD
import Derived.Test.YthcbemnflgjadaaMmWH
set_option linter.all false
namespace Go.Proofs.Ythcbemnflgjadaa
open Go Go.RowKit
open Rep (rep)
open KRep (kv)
open VRep (rv)
set_option maxRecDepth 100000 in
set_option maxHeartbeats 4000000 in
theorem Gq (n:Nat) {h:Ac} {w:World} (hh:CG h w) (words:List (IK .u16)) {a_words:Option Addr} {c_words:Nat} (hr_words:Av h a_words c_words words) (at_:Int) {r:Int} (H:EY n words at_=some r) :
  Calls Try.prog 60 #[.slice a_words words.length c_words,.int .i64 at_] w (CS (fun h v=>v=.int .i64 r) h w):=by
 refine enter 16 [.c (.slice a_words words.length c_words),.c (.int .i64 at_)] Try.func60 rfl rfl rfl rfl fun t hk=>?_
 have hm:=Ak.begin h w hh
 unfold EY at H
 refine XT (Aa (Rk 0 1 [tS 0 a_words words.length c_words,tI 1 at_] hk hm fun ae m=>?_))
 refine wf (XT (XT (Aa (Rk 0 3 [tB 7 (((words.length:Nat):Int) == 0),tS 0 a_words words.length c_words,tI 1 at_] m hm fun ag d=>?_))))
 refine wf (wC ((((words.length:Nat):Int) == 0)) d (fun a=>?_) (fun a=>?_))
 ·
  rw [a,XW] at H
  refine XT (Aa (Rk 0 1 [tI 4 0] d hm fun ah s=>?_))
  refine wf (wp_ret ?_)
  obtain rfl:=XZ H
  exact rt (.one (.c (.int .i64 0))) s hm rfl
 ·
  rw [a,XV] at H
  refine wp_skip (XT (Aa (Rk 0 4 [tI 11 ((words.length:Nat):Int),tI 9 at_,tS 8 a_words words.length c_words] d hm fun ai u=>?_)))
  obtain⟨x12,ex12,H⟩:=Am H
  refine RU 4 u rfl rfl (rfl) rfl (by decide) (by rfl) (by rfl) (L3 ex12) fun ab (l:Kn 16 [] [tI 12 (Int.tmod at_ ((words.length:Nat):Int)),tI 11 ((words.length:Nat):Int),tI 9 at_,tS 8 a_words words.length c_words] ab)=>?_
  obtain⟨x13,ex13,H⟩:=Am H
  obtain⟨x,y,aa⟩:=Ah ex13
  obtain⟨e,g,ad,i,z,k⟩:=hr_words.get (by decide) aa
  obtain rfl:=z
  have f:=hm.addPlc (b:=e) (o:=g+(Int.tmod at_ ((words.length:Nat):Int):Int).toNat*1) (cs:=[.int .u16 x13.n]) (fun j c hj=>k j _ (Ai hj)) rfl (by kernel_rfl) (by kernel_rfl)
  refine A6 5 (Int.tmod at_ ((words.length:Nat):Int)) rfl rfl (rfl) rfl (by decide) l (by rfl) (by rfl) (by rfl) i (by rfl) x y (by kernel_rfl) fun ac (p:Kn 16 [(e,g+(Int.tmod at_ ((words.length:Nat):Int):Int).toNat*1)] [tP 13 0 0,tI 12 (Int.tmod at_ ((words.length:Nat):Int)),tI 11 ((words.length:Nat):Int),tI 9 at_,tS 8 a_words words.length c_words] ac)=>?_
  refine Rk 6 3 [tI 4 (IntKind.i64.wrap x13.n)] p f fun af q=>?_
  refine wf (wp_ret ?_)
  obtain rfl:=XZ H
  exact rt (.one (.c (.int .i64 (IntKind.i64.wrap x13.n)))) q f rfl
abbrev GQ (x22:B5):List SC:=[.int .i64 x22.lo,.int .i64 x22.hi,.int .i64 x22.turn]
abbrev DO (g p q:Nat) (x_v12:Int) (s:Nat):AC:=[(g,0),(p,q+(x_v12:Int).toNat*3),(s,0)]
abbrev Hz (ai:Option Addr) (y:Aj) (ak:Nat) (ad:Option Addr) (ag:Nat):List SC:=[.slice ai y.room.length ak,.slice ad y.buses.length ag,.int .i64 y.broken]
abbrev R3 (g p q:Nat) (x_v12:Int) (s ae:Nat) (x_v22:Int) (ah aj ao:Nat):AC:=[(g,0),(p,q+(x_v12:Int).toNat*3),(s,0),(ae,0+(IntKind.i64.wrap (x_v22-1):Int).toNat*1),(ah,0+(x_v22:Int).toNat*1),(aj,0+(x_v22:Int).toNat*1),(ao,0+(IntKind.i64.wrap (x_v22-1):Int).toNat*1)]
abbrev Sl (g p q:Nat) (x_v12:Int) (s ae:Nat) (x_v22:Int) (ah aj ao ap au aw:Nat):AC:=[(g,0),(p,q+(x_v12:Int).toNat*3),(s,0),(ae,0+(IntKind.i64.wrap (x_v22-1):Int).toNat*1),(ah,0+(x_v22:Int).toNat*1),(aj,0+(x_v22:Int).toNat*1),(ao,0+(IntKind.i64.wrap (x_v22-1):Int).toNat*1),(ap,0+(IntKind.i64.wrap (x_v22-1):Int).toNat*1),(au,0+(x_v22:Int).toNat*1),(aw,0+(x_v22:Int).toNat*1)]
abbrev Sm (g p q:Nat) (x_v12:Int) (s ae:Nat) (x_v22:Int) (ah aj ao ap au aw be:Nat):AC:=[(g,0),(p,q+(x_v12:Int).toNat*3),(s,0),(ae,0+(IntKind.i64.wrap (x_v22-1):Int).toNat*1),(ah,0+(x_v22:Int).toNat*1),(aj,0+(x_v22:Int).toNat*1),(ao,0+(IntKind.i64.wrap (x_v22-1):Int).toNat*1),(ap,0+(IntKind.i64.wrap (x_v22-1):Int).toNat*1),(au,0+(x_v22:Int).toNat*1),(aw,0+(x_v22:Int).toNat*1),(be,0+(IntKind.i64.wrap (x_v22-1):Int).toNat*1)]
abbrev MN (ai:Option Addr) (y:Aj) (ak:Nat) (ad:Option Addr) (ag:Nat) (x22:B5):List Cf:=[⟨Hz ai y ak ad ag,some 25⟩,⟨GQ x22,none⟩,⟨GQ x22,some 49⟩]
abbrev D9 (a_words:Option Addr) (words:List (IK .u16)) (c_words:Nat):TM:=[tP 2 0 0,tS 1 a_words words.length c_words]
abbrev Ir (x_v22:Int) (d:Option Addr) (x_v21:List Int) (f:Nat) (l:Option Addr) (x_v20:List Int) (m:Nat) (x_v12:Int) (a_words:Option Addr) (words:List (IK .u16)) (c_words:Nat):TM:=(tI 11 x_v22)::(tS 6 d x_v21.length f)::(tS 5 l x_v20.length m)::(tI 7 x_v12)::(D9 a_words words c_words)
abbrev CV (x_v12:Int) (x:Option Addr) (x_v11:List Int) (z:Nat) (ac:Option Addr) (x_v10:List Int) (af:Nat) (a_words:Option Addr) (words:List (IK .u16)) (c_words:Nat):TM:=(tI 7 x_v12)::(tS 6 x x_v11.length z)::(tS 5 ac x_v10.length af)::(D9 a_words words c_words)
abbrev K5 (x_v22:Int) (d:Option Addr) (x_v21:List Int) (f:Nat) (l:Option Addr) (an:List Int) (m:Nat) (x_v12:Int) (a_words:Option Addr) (words:List (IK .u16)) (c_words:Nat):TM:=(tI 102 (IntKind.i64.wrap (x_v22-1)))::(tS 100 d x_v21.length f)::(tI 99 x_v22)::(tS 98 d x_v21.length f)::(tI 11 x_v22)::(tS 6 d x_v21.length f)::(tS 5 l an.length m)::(tI 7 x_v12)::(D9 a_words words c_words)
abbrev K6 (x_v22:Int) (l:Option Addr) (x_v20:List Int) (m:Nat) (d:Option Addr) (x_v21:List Int) (f:Nat) (x_v12:Int) (a_words:Option Addr) (words:List (IK .u16)) (c_words:Nat):TM:=(tI 86 (IntKind.i64.wrap (x_v22-1)))::(tS 84 l x_v20.length m)::(tI 83 x_v22)::(tS 82 l x_v20.length m)::(Ir x_v22 d x_v21 f l x_v20 m x_v12 a_words words c_words)
set_option maxRecDepth 100000 in
set_option maxHeartbeats 4000000 in
theorem Pz (n:Nat) {h:Ac} {w:World} (hh:CG h w) (y:Aj) {cs_y:List Value} (hx_y:rep h y cs_y) (words:List (IK .u16)) {a_words:Option Addr} {c_words:Nat} (hr_words:Av h a_words c_words words) {r:List Int} (H:HG n y words=some r) :
  Calls Try.prog 27 #[.agg cs_y.toArray,.slice a_words words.length c_words] w (CS (fun h v=>∃ a c,v=.slice a r.length c∧Av h a c r) h w):=by
 obtain⟨_,_,rfl,⟨ai,ak,rfl,bc⟩,⟨_,_,rfl,⟨ad,ag,rfl,a7⟩,rfl⟩⟩:=hx_y
 refine enter 115 [.agg (Hz ai y ak ad ag),.c (.slice a_words words.length c_words)] Try.func27 rfl rfl rfl rfl fun t hk=>?_
 have hm:=Ak.begin h w hh
 unfold HG at H
 refine XT (Aa (wl fun K hK=>?_))
 refine wb (.agg (Hz ai y ak ad ag)) hk hm fun g j8 fg (gc:Kn 115 [(g,0)] [tP 2 0 0,tA 0 (Hz ai y ak ad ag),tS 1 a_words words.length c_words] j8) cm=>hK _ _ ?_
 refine Rk 1 1 (D9 a_words words c_words) gc cm fun lb gj=>?_
 refine wf (XT (Aa (Rk 0 2 ((tS 6 none 0 0)::(tS 5 none 0 0)::(D9 a_words words c_words)) gj cm fun ld go=>?_)))
 refine wf (XT (XT (Aa (Rk 0 1 ((tI 7 0)::(tS 6 none 0 0)::(tS 5 none 0 0)::(D9 a_words words c_words)) go cm fun lg gs=>?_))))
 refine wf ?_
 have ir:Ak ⟨w,h,AA⟩ h [(g,0)] [⟨Hz ai y ak ad ag,some 25⟩] [⟨none,0,0,3,1,[],0⟩] fg:=cm.nilRow 3 1
 have fu:Af h ([]:List Int) []:=Af.nil
 have iu:Ak ⟨w,h,AA⟩ h [(g,0)] [⟨Hz ai y ak ad ag,some 25⟩] [⟨none,0,0,3,1,[],0⟩,⟨none,0,0,3,1,[],0⟩] fg:=ir.nilRow 3 1
 have fv:Af h ([]:List Int) []:=Af.nil
 obtain⟨az,dz,H⟩:=Am H
 refine An (fun a' w'=>∃ (bd:Option Addr)(bf:Nat)(cd:List Value)(ct:Option Addr)(cv:Nat)(cr:List Value)(dv:Array Value)(b6:Ac),a' = ⟨dv,[]⟩∧Kn 115 [(g,0)] [tS 5 bd az.1.length bf] dv∧Ak ⟨w,h,AA⟩ b6 [(g,0)] [⟨Hz ai y ak ad ag,some 25⟩] [⟨bd,az.1.length,bf,3,1,cd,0⟩,⟨ct,az.2.length,cv,3,1,cr,0⟩] w'∧Ac.le h b6∧Af b6 az.1 cd∧Af b6 az.2 cr) ?_ ?_
 ·
  refine wp_block ?_
  refine Aq (fun jv a' w'=>∃ (x_v10:List Int)(x_v11:List Int)(x_v12:Int)(ac:Option Addr)(af:Nat)(bl:List Value)(x:Option Addr)(z:Nat)(bm:List Value)(dw:Array Value)(b7:Ac),a' = ⟨dw,[]⟩∧Kn 115 [(g,0)] (CV x_v12 x x_v11 z ac x_v10 af a_words words c_words) dw∧Ak ⟨w,h,AA⟩ b7 [(g,0)] [⟨Hz ai y ak ad ag,some 25⟩] [⟨ac,x_v10.length,af,3,1,bl,0⟩,⟨x,x_v11.length,z,3,1,bm,0⟩] w'∧Ac.le h b7∧Af b7 x_v10 bl∧Af b7 x_v11 bm∧D1 jv y words x_v10 x_v11 x_v12=some az) n ?_ ?_
  ·
   exact XY ([]:List Int) ⟨([]:List Int),0,none,0,[],none,0,[],_,_,rfl,gs.kp,iu,Ac.le_refl _,fu,fv,dz⟩
  ·
   rintro bx _ mh ⟨x_v10,x_v11,x_v12,ac,af,bl,x,z,bm,dw,b7,rfl,h0,co,cc,bp,bq,al⟩
   clear dz
   obtain _ | bx:=bx
   ·
    rw [D1] at al; cases al
   rw [D1] at al
   replace bc:=bc.mono cc
   replace a7:=a7.mono cc
   replace hr_words:=hr_words.mono cc
   refine XT (XT (Aa (Rk 0 5 ((tB 16 (decide (x_v12<((y.buses.length:Nat):Int))))::(CV x_v12 x x_v11 z ac x_v10 af a_words words c_words)) h0 co fun ly c8=>?_)))
   refine wf (wC (decide (x_v12<((y.buses.length:Nat):Int))) c8 (fun c1=>?_) (fun c1=>?_))
   ·
    rw [c1,XW] at al
    refine wp_skip (XT (wp_block (XT (Aa (Rk 0 3 ((tI 21 x_v12)::(tS 20 ad y.buses.length ag)::(CV x_v12 x x_v11 z ac x_v10 af a_words words c_words)) c8 co fun lz h1=>?_)))))
    obtain⟨x22,ex22,al⟩:=Am al
    obtain⟨i4,i5,jt⟩:=Ah ex22
    obtain⟨p,q,kr,fq,ji,f9⟩:=a7.get (by decide) jt
    obtain⟨_,_,rfl,rfl,⟨_,_,rfl,rfl,rfl⟩⟩:=ji
    have eh:=co.addPlc (b:=p) (o:=q+(x_v12:Int).toNat*3) (cs:=(GQ x22)) (fun j c hj=>f9 j _ (Ai hj)) rfl (by kernel_rfl) (by kernel_rfl)
    refine A6 3 (x_v12) rfl rfl (rfl) rfl (by decide) h1 (by rfl) (by rfl) (by rfl) fq (by rfl) i4 i5 (by kernel_rfl) fun j7 (h2:Kn 115 [(g,0),(p,q+(x_v12:Int).toNat*3)] ((tP 22 1 0)::(tI 21 x_v12)::(tS 20 ad y.buses.length ag)::(CV x_v12 x x_v11 z ac x_v10 af a_words words c_words)) j7)=>?_
    refine Rk 4 1 ((tA 23 (GQ x22))::(CV x_v12 x x_v11 z ac x_v10 af a_words words c_words)) h2 eh fun l0 h3=>?_
    refine wl fun K hK=>?_
    refine wa [.int .i64 0,.int .i64 0,.int .i64 0] h3 eh fun s ff mi (h4:Kn 115 (DO g p q x_v12 s) ((tP 8 2 0)::(tA 23 (GQ x22))::(CV x_v12 x x_v11 z ac x_v10 af a_words words c_words)) ff) i3=>hK _ _ ?_
    refine wl fun K hK=>?_
    refine DI 2 0 (.agg (GQ x22)) (GQ x22) h4 i3 fun mj h5 dj=>hK _ _ ?_
    have h6:Kn 115 (DO g p q x_v12 s) ((tP 8 2 0)::(CV x_v12 x x_v11 z ac x_v10 af a_words words c_words)) ff:=h5.kp
    refine wf (XT (Aa (Rk 0 2 ((tI 25 x_v12)::(tS 24 a_words words.length c_words)::(tP 8 2 0)::(CV x_v12 x x_v11 z ac x_v10 af a_words words c_words)) h6 dj fun l1 h7=>?_)))
    obtain⟨x26,ex26,al⟩:=Am al
    refine wl fun K hK=>?_
    refine wc [.c (.slice a_words words.length c_words),.c (.int .i64 x_v12)] h7 dj (Gq bx dj.has words hr_words x_v12 ex26) fun l7 fp mk fo bs av=>?_
    replace bc:=bc.mono bs
    replace a7:=a7.mono bs
    replace hr_words:=hr_words.mono bs
    replace bp:=bp.mono bs
    replace bq:=bq.mono bs
    obtain rfl:=fo
    refine⟨.one (.c (.int .i64 x26)),rfl,fun j9 (h8:Kn 115 (DO g p q x_v12 s) ((tI 26 x26)::(tI 25 x_v12)::(tS 24 a_words words.length c_words)::(tP 8 2 0)::(CV x_v12 x x_v11 z ac x_v10 af a_words words c_words)) j9)=>hK _ _ ?_⟩
    refine Rk 3 1 ((tI 9 x26)::(tP 8 2 0)::(CV x_v12 x x_v11 z ac x_v10 af a_words words c_words)) h8 av fun l2 h9=>?_
    refine wf (XT (At (by kernel_rfl) ?_))
    replace av:=av.drew
    refine Aw [] (DO g p q x_v12 s) (MN ai y ak ad ag x22) ?_
    refine Dr [0,1,2,3,4,5,6,7,8,9] (dn 9) ((tI 36 (IntKind.i64.wrap ((IntKind.i64.wrap (x22.hi-x22.lo))+1)))::(tI 30 (IntKind.i64.wrap (Int.tdiv x26 3)))::(tI 28 x22.lo)::(tI 9 x26)::(tP 8 2 0)::(CV x_v12 x x_v11 z ac x_v10 af a_words words c_words)) h9 av fun l3 ia=>?_
    obtain⟨x37,ex37,al⟩:=Am al
    refine RV 10 (fun _ _ _ _ _ h=>h) ia rfl rfl (rfl) rfl (by decide) (by kernel_rfl) (by kernel_rfl) av.plOk (by rfl) (by rfl) (L3 ex37) fun ka (ib:Kn 115 (DO g p q x_v12 s) ((tI 37 (Int.tmod (IntKind.i64.wrap (Int.tdiv x26 3)) (IntKind.i64.wrap ((IntKind.i64.wrap (x22.hi-x22.lo))+1))))::(tI 36 (IntKind.i64.wrap ((IntKind.i64.wrap (x22.hi-x22.lo))+1)))::(tI 30 (IntKind.i64.wrap (Int.tdiv x26 3)))::(tI 28 x22.lo)::(tI 9 x26)::(tP 8 2 0)::(CV x_v12 x x_v11 z ac x_v10 af a_words words c_words)) ka)=>?_
    refine Dr [11,12] (dn 12) ((tI 10 (IntKind.i64.wrap (x22.lo+(Int.tmod (IntKind.i64.wrap (Int.tdiv x26 3)) (IntKind.i64.wrap ((IntKind.i64.wrap (x22.hi-x22.lo))+1))))))::(tI 9 x26)::(tP 8 2 0)::(CV x_v12 x x_v11 z ac x_v10 af a_words words c_words)) ib av fun l4 ic=>?_
    refine AE (by kernel_rfl) (XT (XT (Aa (Rk 0 2 ((tI 40 (Int.tmod x26 3))::(tI 10 (IntKind.i64.wrap (x22.lo+(Int.tmod (IntKind.i64.wrap (Int.tdiv x26 3)) (IntKind.i64.wrap ((IntKind.i64.wrap (x22.hi-x22.lo))+1))))))::(tP 8 2 0)::(CV x_v12 x x_v11 z ac x_v10 af a_words words c_words)) ic av fun l5 ie=>?_))))
    refine wf (wp_block (XT (Aa (Rk 0 2 ((tB 41 ((Int.tmod x26 3) == 0))::(tI 40 (Int.tmod x26 3))::(tI 10 (IntKind.i64.wrap (x22.lo+(Int.tmod (IntKind.i64.wrap (Int.tdiv x26 3)) (IntKind.i64.wrap ((IntKind.i64.wrap (x22.hi-x22.lo))+1))))))::(tP 8 2 0)::(CV x_v12 x x_v11 z ac x_v10 af a_words words c_words)) ie av fun k6 c5=>?_))))
    refine wf ?_
    obtain⟨am,bg,al⟩:=Am al
    refine An (fun a' w'=>∃ (dp:Array Value)(bn:Ac),a' = ⟨dp,[]⟩∧Kn 115 (DO g p q x_v12 s) ((tI 10 am)::(CV x_v12 x x_v11 z ac x_v10 af a_words words c_words)) dp∧Ak ⟨w,h,AA⟩ bn (DO g p q x_v12 s) (MN ai y ak ad ag x22) [⟨ac,x_v10.length,af,3,1,bl,0⟩,⟨x,x_v11.length,z,3,1,bm,0⟩] w'∧Ac.le fp bn) ?_ ?_
    ·
     refine wC (((Int.tmod x26 3) == 0)) c5 (fun cy=>?_) (fun cy=>?_)
     ·
      rw [cy,XW] at bg
      refine Aa (Rk 0 3 ((tI 10 x22.lo)::(CV x_v12 x x_v11 z ac x_v10 af a_words words c_words)) c5 av fun k7 gd=>?_)
      refine wf ?_
      obtain rfl:=XZ bg
      exact XY _ ⟨_,rfl,gd.kp,av,Ac.le_refl _⟩
     ·
      rw [cy,XV] at bg
      refine XT (Aa (Rk 0 2 ((tB 45 ((Int.tmod x26 3) == 1))::(tI 10 (IntKind.i64.wrap (x22.lo+(Int.tmod (IntKind.i64.wrap (Int.tdiv x26 3)) (IntKind.i64.wrap ((IntKind.i64.wrap (x22.hi-x22.lo))+1))))))::(tP 8 2 0)::(CV x_v12 x x_v11 z ac x_v10 af a_words words c_words)) c5 av fun k8 c6=>?_))
      refine wf (wC (((Int.tmod x26 3) == 1)) c6 (fun cz=>?_) (fun cz=>?_))
      ·
       rw [cz,XW] at bg
       refine Aa (Rk 0 3 ((tI 10 x22.hi)::(CV x_v12 x x_v11 z ac x_v10 af a_words words c_words)) c6 av fun k9 gf=>?_)
       refine wf ?_
       obtain rfl:=XZ bg
       exact XY _ ⟨_,rfl,gf.kp,av,Ac.le_refl _⟩
      ·
       rw [cz,XV] at bg
       refine wp_skip ?_
       obtain rfl:=XZ bg
       exact XY _ ⟨_,rfl,c6.kp,av,Ac.le_refl _⟩
    ·
     rintro _ l8 ⟨dp,bn,rfl,gg,eb,br⟩
     replace hr_words:=hr_words.mono br
     replace bp:=bp.mono br
     refine XT (Aa (Rk 0 2 ((tI 50 x_v12)::(tS 49 ac x_v10.length af)::(tI 10 am)::(tI 7 x_v12)::(tS 6 x x_v11.length z)::(D9 a_words words c_words)) gg eb fun la gh=>?_))
     refine wl fun K hK=>?_
     refine wS 3 1 [.int .i64 x_v12] gh eb fun a2 jw l9 (gi:Kn 115 (DO g p q x_v12 s) ((tS 51 a2 1 1)::(tI 50 x_v12)::(tS 49 ac x_v10.length af)::(tI 10 am)::(tI 7 x_v12)::(tS 6 x x_v11.length z)::(D9 a_words words c_words)) jw) ec=>?_
     have bh:Af bn ([x_v12]:List Int) ([.int .i64 x_v12]:List Value):=⟨_,_,rfl,(Ad:rep bn (x_v12:Int) _),rfl⟩
     refine hK _ _ ?_
     obtain⟨x52,ex52,al⟩:=Am al
     obtain⟨dk,ig⟩:=Bj ex52
     refine wl fun K hK=>?_
     refine AU 0 8 1 _ (x52.length) _ ([.int .i64 x_v12]:List Value) gi ec rfl rfl (by decide) rfl (by rfl) (by kernel_rfl) (by rfl) (by rfl) (Af.len bh) (ec.rowCell (i:=2) rfl) bh.one (by rw [dk]; simp <;> omega) (by rw [dk]; exact ig) (by decide) fun a3 a5 fl jx ma ga (gk:Kn 115 (DO g p q x_v12 s) ((tS 52 a3 x52.length a5)::(tS 51 a2 1 1)::(tI 50 x_v12)::(tS 49 ac x_v10.length af)::(tI 10 am)::(tI 7 x_v12)::(tS 6 x x_v11.length z)::(D9 a_words words c_words)) jx) dd=>?_
     have c2:Af bn x52 (bl++([.int .i64 x_v12]:List Value)):=by rw [dk]; exact Af.append bp bh
     obtain rfl:fl=0:=Nat.le_zero.1 ga
     refine hK _ _ ?_
     refine Rk 4 7 ((tI 59 (IntKind.i64.wrap ((IntKind.i64.wrap (2*x_v12))+1)))::(tS 56 a_words words.length c_words)::(tI 55 (IntKind.i64.wrap (2*am)))::(tS 53 x x_v11.length z)::(tS 52 a3 x52.length a5)::(tI 7 x_v12)::(D9 a_words words c_words)) gk dd fun lc gl=>?_
     obtain⟨x60,ex60,al⟩:=Am al
     refine wl fun K hK=>?_
     refine wc [.c (.slice a_words words.length c_words),.c (.int .i64 (IntKind.i64.wrap ((IntKind.i64.wrap (2*x_v12))+1)))] gl dd (Gq bx dd.has words hr_words (IntKind.i64.wrap ((IntKind.i64.wrap (2*x_v12))+1)) ex60) fun l6 b4 mb fn bi ed=>?_
     replace bc:=bc.mono (XU br bi)
     replace a7:=a7.mono (XU br bi)
     replace hr_words:=hr_words.mono bi
     replace c2:=c2.mono bi
     replace bq:=bq.mono (XU br bi)
     replace bh:=bh.mono bi
     obtain rfl:=fn
     refine⟨.one (.c (.int .i64 x60)),rfl,fun jy (gm:Kn 115 (DO g p q x_v12 s) ((tI 60 x60)::(tI 59 (IntKind.i64.wrap ((IntKind.i64.wrap (2*x_v12))+1)))::(tS 56 a_words words.length c_words)::(tI 55 (IntKind.i64.wrap (2*am)))::(tS 53 x x_v11.length z)::(tS 52 a3 x52.length a5)::(tI 7 x_v12)::(D9 a_words words c_words)) jy)=>hK _ _ ?_⟩
     refine Rk 12 2 ((tI 62 (IntKind.i64.wrap ((IntKind.i64.wrap (2*am))+(Int.tmod x60 2))))::(tS 53 x x_v11.length z)::(tS 52 a3 x52.length a5)::(tI 7 x_v12)::(D9 a_words words c_words)) gm ed fun lf gn=>?_
     refine wl fun K hK=>?_
     refine wS 3 1 [.int .i64 (IntKind.i64.wrap ((IntKind.i64.wrap (2*am))+(Int.tmod x60 2)))] gn ed fun a4 jz mc (gp:Kn 115 (DO g p q x_v12 s) ((tS 63 a4 1 1)::(tI 62 (IntKind.i64.wrap ((IntKind.i64.wrap (2*am))+(Int.tmod x60 2))))::(tS 53 x x_v11.length z)::(tS 52 a3 x52.length a5)::(tI 7 x_v12)::(D9 a_words words c_words)) jz) ee=>?_
     have cb:Af b4 ([IntKind.i64.wrap ((IntKind.i64.wrap (2*am))+(Int.tmod x60 2))]:List Int) ([.int .i64 (IntKind.i64.wrap ((IntKind.i64.wrap (2*am))+(Int.tmod x60 2)))]:List Value):=⟨_,_,rfl,(Ad:rep b4 (IntKind.i64.wrap ((IntKind.i64.wrap (2*am))+(Int.tmod x60 2)):Int) _),rfl⟩
     refine hK _ _ ?_
     obtain⟨x64,ex64,al⟩:=Am al
     obtain⟨dl,ih⟩:=Bj ex64
     refine wl fun K hK=>?_
     refine AU 1 8 1 _ (x64.length) _ ([.int .i64 (IntKind.i64.wrap ((IntKind.i64.wrap (2*am))+(Int.tmod x60 2)))]:List Value) gp ee rfl rfl (by decide) rfl (by rfl) (by kernel_rfl) (by rfl) (by rfl) (Af.len cb) (ee.rowCell (i:=3) rfl) cb.one (by rw [dl]; simp <;> omega) (by rw [dl]; exact ih) (by decide) fun ce cf fm j0 md gb (gq:Kn 115 (DO g p q x_v12 s) ((tS 64 ce x64.length cf)::(tS 63 a4 1 1)::(tI 62 (IntKind.i64.wrap ((IntKind.i64.wrap (2*am))+(Int.tmod x60 2))))::(tS 53 x x_v11.length z)::(tS 52 a3 x52.length a5)::(tI 7 x_v12)::(D9 a_words words c_words)) j0) de=>?_
     have fr:Af b4 x64 (bm++([.int .i64 (IntKind.i64.wrap ((IntKind.i64.wrap (2*am))+(Int.tmod x60 2)))]:List Value)):=by rw [dl]; exact Af.append bq cb
     obtain rfl:fm=0:=Nat.le_zero.1 gb
     refine hK _ _ ?_
     refine Rk 16 2 ((tS 6 ce x64.length cf)::(tS 5 a3 x52.length a5)::(tI 7 x_v12)::(D9 a_words words c_words)) gq de fun lh gr=>?_
     refine wf (XT (Aa (Rk 0 2 ((tI 11 x_v12)::(tS 6 ce x64.length cf)::(tS 5 a3 x52.length a5)::(tI 7 x_v12)::(D9 a_words words c_words)) gr de fun li gu=>?_)))
     refine wf ?_
     obtain⟨ay,dy,al⟩:=Am al
     refine An (fun a' w'=>∃ (bz:Option Addr)(b2:Nat)(cp:List Value)(b1:Option Addr)(b3:Nat)(cq:List Value)(dq:Array Value)(b5:Ac),a' = ⟨dq,[]⟩∧Kn 115 (DO g p q x_v12 s) ((tS 6 b1 ay.2.length b3)::(tS 5 bz ay.1.length b2)::(tI 7 x_v12)::(D9 a_words words c_words)) dq∧Ak ⟨w,h,AA⟩ b5 (DO g p q x_v12 s) (MN ai y ak ad ag x22) [⟨bz,ay.1.length,b2,3,1,cp,0⟩,⟨b1,ay.2.length,b3,3,1,cq,0⟩,⟨a2,1,1,3,1,([.int .i64 x_v12]:List Value),0⟩,⟨a4,1,1,3,1,([.int .i64 (IntKind.i64.wrap ((IntKind.i64.wrap (2*am))+(Int.tmod x60 2)))]:List Value),0⟩] w'∧Ac.le b4 b5∧Af b5 ay.1 cp∧Af b5 ay.2 cq) ?_ ?_
     ·
      refine wp_block ?_
      refine Aq (fun ju a' w'=>∃ (x_v20:List Int)(x_v21:List Int)(x_v22:Int)(l:Option Addr)(m:Nat)(u:List Value)(d:Option Addr)(f:Nat)(ab:List Value)(dr:Array Value)(bo:Ac),a' = ⟨dr,[]⟩∧Kn 115 (DO g p q x_v12 s) (Ir x_v22 d x_v21 f l x_v20 m x_v12 a_words words c_words) dr∧Ak ⟨w,h,AA⟩ bo (DO g p q x_v12 s) (MN ai y ak ad ag x22) [⟨l,x_v20.length,m,3,1,u,0⟩,⟨d,x_v21.length,f,3,1,ab,0⟩,⟨a2,1,1,3,1,([.int .i64 x_v12]:List Value),0⟩,⟨a4,1,1,3,1,([.int .i64 (IntKind.i64.wrap ((IntKind.i64.wrap (2*am))+(Int.tmod x60 2)))]:List Value),0⟩] w'∧Ac.le b4 bo∧Af bo x_v20 u∧Af bo x_v21 ab∧CJ ju  x_v20 x_v21 x_v22=some ay) bx ?_ ?_
      ·
       exact XY x52 ⟨x64,x_v12,a3,a5,bl++([.int .i64 x_v12]:List Value),ce,cf,bm++([.int .i64 (IntKind.i64.wrap ((IntKind.i64.wrap (2*am))+(Int.tmod x60 2)))]:List Value),_,_,rfl,gu.kp,de,Ac.le_refl _,c2,fr,dy⟩
      ·
       rintro dm _ me ⟨x_v20,x_v21,x_v22,l,m,u,d,f,ab,dr,bo,rfl,gv,a6,bj,ax,ar,aa⟩
       clear dy
       obtain _ | dm:=dm
       ·
        rw [CJ] at aa; cases aa
       rw [CJ] at aa
       replace bc:=bc.mono bj
       replace a7:=a7.mono bj
       replace hr_words:=hr_words.mono bj
       replace bh:=bh.mono bj
       replace cb:=cb.mono bj
       refine XT (XT ?_)
       obtain⟨fb,a9,aa⟩:=Am aa
       refine An (fun a' w'=>∃ (ds:Array Value)(aq:Ac),a' = ⟨ds,[]⟩∧Kn 115 (DO g p q x_v12 s) [tI 11 x_v22,tS 6 d x_v21.length f,tS 5 l x_v20.length m,tI 7 x_v12,tP 2 0 0,tS 1 a_words words.length c_words,tB 79 fb] ds∧Ak ⟨w,h,AA⟩ aq (DO g p q x_v12 s) (MN ai y ak ad ag x22) [⟨l,x_v20.length,m,3,1,u,0⟩,⟨d,x_v21.length,f,3,1,ab,0⟩,⟨a2,1,1,3,1,([.int .i64 x_v12]:List Value),0⟩,⟨a4,1,1,3,1,([.int .i64 (IntKind.i64.wrap ((IntKind.i64.wrap (2*am))+(Int.tmod x60 2)))]:List Value),0⟩] w'∧Ac.le bo aq) ?_ ?_
       ·
        refine At (by kernel_rfl) ?_
        replace a6:=a6.drew
        refine Aw [] (DO g p q x_v12 s) (MN ai y ak ad ag x22) ?_
        refine Dr [0,1,2] [2,1,0] ((tB 68 (decide (x_v22>0)))::(Ir x_v22 d x_v21 f l x_v20 m x_v12 a_words words c_words)) gv a6 fun fc d8=>?_
        rcases Bool.eq_false_or_eq_true (decide (x_v22>0)) with ca | ca
        ·
         rw [ca,XW] at a9
         have gw:Kn 115 (DO g p q x_v12 s) ((tB 68 true)::(Ir x_v22 d x_v21 f l x_v20 m x_v12 a_words words c_words)) fc:=(d8.setB 68 true (by rfl) ca).kp
         refine Dr [3,4] (dn 4) ((tI 70 x_v22)::(tS 69 d x_v21.length f)::(tB 68 true)::(Ir x_v22 d x_v21 f l x_v20 m x_v12 a_words words c_words)) gw a6 fun lj d9=>?_
         obtain⟨x71,ex71,a9⟩:=Am a9
         obtain⟨em,ex,jj⟩:=Ah ex71
         have ii:=Az em ex
         obtain⟨kg,i8,fw⟩:=A5 (sz:=1) rfl ar jj
         obtain rfl:=i8
         obtain⟨cu,cg⟩:=A7 a6 (i:=1) rfl (b0:=0+(x_v22:Int).toNat*1) (Nat.lt_of_lt_of_le (Nat.lt_add_of_pos_right (by decide)) (Ar (sz:=1) rfl ar ii))
         have bt:=a6.addPlc (b:=cu) (o:=0+(x_v22:Int).toNat*1) (cs:=[]) (fun j c hj=>by simp at hj) rfl (by kernel_rfl) (by kernel_rfl)
         have c3:∀ (e:AC) k c,([.int .i64 x71]:List SC)[k]? = some c→(ab)[0+(x_v22:Int).toNat*1+k]? = some (c.den e):=fun e k c hk=>fw k _ (Ai hk)
         refine Ax 5 (x_v22) [.int .i64 x71] (fun _ _ _ _ _ h=>h) rfl rfl (Al d9 (by kernel_rfl)) rfl (by decide) (by kernel_rfl) (by kernel_rfl) d9 a6.plOk (by rfl) (by rfl) (by rfl) cg (by rfl) em ex (by kernel_rfl) fun j1 (gx:Kn 115 [(g,0),(p,q+(x_v12:Int).toNat*3),(s,0),(cu,0+(x_v22:Int).toNat*1)] ((tP 71 3 0)::(tI 70 x_v22)::(tS 69 d x_v21.length f)::(tB 68 true)::(Ir x_v22 d x_v21 f l x_v20 m x_v12 a_words words c_words)) j1)=>?_
         refine Co [6,7,8,9] [9,8,7,6,5,4,3,2,1,0] [75,73,72,68,11,6,5,7,2,1] ((tI 75 (IntKind.i64.wrap (x_v22-1)))::(tS 73 d x_v21.length f)::(tI 72 x71)::(tB 68 true)::(Ir x_v22 d x_v21 f l x_v20 m x_v12 a_words words c_words)) (fun _ _ _ _ _ h=>h) gx (A3.peek bt.plOk bt 1 3 rfl rfl cg [.int .i64 x71] (c3 _)) (by kernel_rfl) (by rfl) (by kernel_rfl) fun lk ea=>?_
         obtain⟨x76,ex76,a9⟩:=Am a9
         obtain⟨en,ey,jk⟩:=Ah ex76
         have ij:=Az en ey
         obtain⟨kh,i9,fx⟩:=A5 (sz:=1) rfl ar jk
         obtain rfl:=i9
         obtain⟨dx,d1⟩:=A7 bt (i:=1) rfl (b0:=0+(IntKind.i64.wrap (x_v22-1):Int).toNat*1) (Nat.lt_of_lt_of_le (Nat.lt_add_of_pos_right (by decide)) (Ar (sz:=1) rfl ar ij))
         have cn:=bt.addPlc (b:=dx) (o:=0+(IntKind.i64.wrap (x_v22-1):Int).toNat*1) (cs:=[]) (fun j c hj=>by simp at hj) rfl (by kernel_rfl) (by kernel_rfl)
         have fy:∀ (e:AC) k c,([.int .i64 x76]:List SC)[k]? = some c→(ab)[0+(IntKind.i64.wrap (x_v22-1):Int).toNat*1+k]? = some (c.den e):=fun e k c hk=>fx k _ (Ai hk)
         refine Ax 10 (IntKind.i64.wrap (x_v22-1)) [.int .i64 x76] (fun _ _ _ _ _ h=>h) rfl rfl (Al ea (by kernel_rfl)) rfl (by decide) (by kernel_rfl) (by kernel_rfl) ea (A3.peek bt.plOk bt 1 3 rfl rfl cg [.int .i64 x71] (c3 _)) (by rfl) (by rfl) (by rfl) d1 (by rfl) en ey (by kernel_rfl) fun j2 (gy:Kn 115 [(g,0),(p,q+(x_v12:Int).toNat*3),(s,0),(cu,0+(x_v22:Int).toNat*1),(dx,0+(IntKind.i64.wrap (x_v22-1):Int).toNat*1)] ((tP 76 4 0)::(tI 75 (IntKind.i64.wrap (x_v22-1)))::(tS 73 d x_v21.length f)::(tI 72 x71)::(tB 68 true)::(Ir x_v22 d x_v21 f l x_v20 m x_v12 a_words words c_words)) j2)=>?_
         refine Co [11,12,13] [13,12,11,10,9,8,7,6,5,4,3,2,1,0] [79,11,6,5,7,2,1] ((tB 79 (decide (x71<x76)))::(Ir x_v22 d x_v21 f l x_v20 m x_v12 a_words words c_words)) (fun _ _ _ _ _ h=>h) gy (A3.peek (A3.peek cn.plOk cn 1 3 rfl rfl cg [.int .i64 x71] (c3 _)) cn 1 4 rfl rfl d1 [.int .i64 x76] (fy _)) (by kernel_rfl) (by rfl) (by kernel_rfl) fun ll gz=>?_
         refine AE (by kernel_rfl) ?_
         obtain rfl:=XZ a9
         exact XY _ ⟨_,rfl,(gz.keep [11,6,5,7,2,1,79] (by rfl)).cut 3 (by kernel_rfl),cn.cutPl 3 (by kernel_rfl),Ac.le_refl _⟩
        ·
         rw [ca,XV] at a9
         have g0:Kn 115 (DO g p q x_v12 s) ((tB 68 false)::(Ir x_v22 d x_v21 f l x_v20 m x_v12 a_words words c_words)) fc:=(d8.setB 68 false (by rfl) ca).kp
         refine Dr [3,4,5,6,7,8,9,10,11,12,13] (dn 13) ((tB 79 false)::(Ir x_v22 d x_v21 f l x_v20 m x_v12 a_words words c_words)) g0 a6 fun lm g1=>?_
         refine AE (by kernel_rfl) ?_
         obtain rfl:=XZ a9
         exact XY _ ⟨_,rfl,g1.kp,a6,Ac.le_refl _⟩
       ·
        rintro _ mf ⟨ds,aq,rfl,c7,bk,cl⟩
        replace ax:=ax.mono cl
        replace ar:=ar.mono cl
        refine wC (fb) c7 (fun c0=>?_) (fun c0=>?_)
        ·
         rw [AW c0] at aa
         refine wp_skip (XT (wp_block (XT (At (by kernel_rfl) ?_))))
         replace bk:=bk.drew
         refine Aw [] (DO g p q x_v12 s) (MN ai y ak ad ag x22) ?_
         refine Dr [0,1,2,3,4,5,6,7] (dn 7) ((tI 89 (IntKind.i64.wrap (x_v22-1)))::(tS 87 l x_v20.length m)::(K6 x_v22 l x_v20 m d x_v21 f x_v12 a_words words c_words)) c7 bk fun ln g2=>?_
         obtain⟨x90,ex90,aa⟩:=Am aa
         obtain⟨eo,ez,jl⟩:=Ah ex90
         have ik:=Az eo ez
         obtain⟨ki,ja,fz⟩:=A5 (sz:=1) rfl ax jl
         obtain rfl:=ja
         obtain⟨ae,b8⟩:=A7 bk (i:=0) rfl (b0:=0+(IntKind.i64.wrap (x_v22-1):Int).toNat*1) (Nat.lt_of_lt_of_le (Nat.lt_add_of_pos_right (by decide)) (Ar (sz:=1) rfl ax ik))
         have bu:=bk.addPlc (b:=ae) (o:=0+(IntKind.i64.wrap (x_v22-1):Int).toNat*1) (cs:=[]) (fun j c hj=>by simp at hj) rfl (by kernel_rfl) (by kernel_rfl)
         have ch:∀ (e:AC) k c,([.int .i64 x90]:List SC)[k]? = some c→(u)[0+(IntKind.i64.wrap (x_v22-1):Int).toNat*1+k]? = some (c.den e):=fun e k c hk=>fz k _ (Ai hk)
         refine Ax 8 (IntKind.i64.wrap (x_v22-1)) [.int .i64 x90] (fun _ _ _ _ _ h=>h) rfl rfl (rfl) rfl (by decide) (by kernel_rfl) (by kernel_rfl) g2 bk.plOk (by rfl) (by rfl) (by rfl) b8 (by rfl) eo ez (by kernel_rfl) fun j3 (g3:Kn 115 [(g,0),(p,q+(x_v12:Int).toNat*3),(s,0),(ae,0+(IntKind.i64.wrap (x_v22-1):Int).toNat*1)] ((tP 90 3 0)::(tI 89 (IntKind.i64.wrap (x_v22-1)))::(tS 87 l x_v20.length m)::(K6 x_v22 l x_v20 m d x_v21 f x_v12 a_words words c_words)) j3)=>?_
         refine Co [9,10,11] [11,10,9,8,7,6,5,4,3,2,1,0] [93,92,91,86,84,83,82,11,6,5,7,2,1] ((tI 93 x_v22)::(tS 92 l x_v20.length m)::(tI 91 x90)::(K6 x_v22 l x_v20 m d x_v21 f x_v12 a_words words c_words)) (fun _ _ _ _ _ h=>h) g3 (A3.peek bu.plOk bu 0 3 rfl rfl b8 [.int .i64 x90] (ch _)) (by kernel_rfl) (by rfl) (by kernel_rfl) fun lp g4=>?_
         obtain⟨x94,ex94,aa⟩:=Am aa
         obtain⟨ep,e0,jm⟩:=Ah ex94
         have il:=Az ep e0
         obtain⟨kj,jb,f0⟩:=A5 (sz:=1) rfl ax jm
         obtain rfl:=jb
         obtain⟨ah,cw⟩:=A7 bu (i:=0) rfl (b0:=0+(x_v22:Int).toNat*1) (Nat.lt_of_lt_of_le (Nat.lt_add_of_pos_right (by decide)) (Ar (sz:=1) rfl ax il))
         have ba:=bu.addPlc (b:=ah) (o:=0+(x_v22:Int).toNat*1) (cs:=[]) (fun j c hj=>by simp at hj) rfl (by kernel_rfl) (by kernel_rfl)
         have d6:∀ (e:AC) k c,([.int .i64 x94]:List SC)[k]? = some c→(u)[0+(x_v22:Int).toNat*1+k]? = some (c.den e):=fun e k c hk=>f0 k _ (Ai hk)
         refine Ax 12 (x_v22) [.int .i64 x94] (fun _ _ _ _ _ h=>h) rfl rfl (rfl) rfl (by decide) (by kernel_rfl) (by kernel_rfl) g4 (A3.peek bu.plOk bu 0 3 rfl rfl b8 [.int .i64 x90] (ch _)) (by rfl) (by rfl) (by rfl) cw (by rfl) ep e0 (by kernel_rfl) fun j4 (g5:Kn 115 [(g,0),(p,q+(x_v12:Int).toNat*3),(s,0),(ae,0+(IntKind.i64.wrap (x_v22-1):Int).toNat*1),(ah,0+(x_v22:Int).toNat*1)] ((tP 94 4 0)::(tI 93 x_v22)::(tS 92 l x_v20.length m)::(tI 91 x90)::(K6 x_v22 l x_v20 m d x_v21 f x_v12 a_words words c_words)) j4)=>?_
         refine Co [13] [13,12,11,10,9,8,7,6,5,4,3,2,1,0] [95,91,86,84,83,82,11,6,5,7,2,1] ((tI 95 x94)::(tI 91 x90)::(K6 x_v22 l x_v20 m d x_v21 f x_v12 a_words words c_words)) (fun _ _ _ _ _ h=>h) g5 (A3.peek (A3.peek ba.plOk ba 0 3 rfl rfl b8 [.int .i64 x90] (ch _)) ba 0 4 rfl rfl cw [.int .i64 x94] (d6 _)) (by kernel_rfl) (by rfl) (by kernel_rfl) fun lq g6=>?_
         obtain⟨x96,ex96,aa⟩:=Am aa
         obtain⟨er,e1,jn⟩:=Ah ex96
         have c9:=Az er e1
         obtain⟨kk,jc,f1⟩:=A5 (sz:=1) rfl ax jn
         obtain rfl:=jc
         obtain⟨aj,d2⟩:=A7 ba (i:=0) rfl (b0:=0+(x_v22:Int).toNat*1) (Nat.lt_of_lt_of_le (Nat.lt_add_of_pos_right (by decide)) (Ar (sz:=1) rfl ax c9))
         have iv:=ba.addPlc (b:=aj) (o:=0+(x_v22:Int).toNat*1) (cs:=[]) (fun j c hj=>by simp at hj) rfl (by kernel_rfl) (by kernel_rfl)
         have ks:∀ (e:AC) k c,([.int .i64 x96]:List SC)[k]? = some c→(u)[0+(x_v22:Int).toNat*1+k]? = some (c.den e):=fun e k c hk=>f1 k _ (Ai hk)
         refine Ax 14 (x_v22) [.int .i64 x96] (fun _ _ _ _ _ h=>h) rfl rfl (rfl) rfl (by decide) (by kernel_rfl) (by kernel_rfl) g6 (A3.peek (A3.peek ba.plOk ba 0 3 rfl rfl b8 [.int .i64 x90] (ch _)) ba 0 4 rfl rfl cw [.int .i64 x94] (d6 _)) (by rfl) (by rfl) (by rfl) d2 (by rfl) er e1 (by kernel_rfl) fun fd (g7:Kn 115 [(g,0),(p,q+(x_v12:Int).toNat*3),(s,0),(ae,0+(IntKind.i64.wrap (x_v22-1):Int).toNat*1),(ah,0+(x_v22:Int).toNat*1),(aj,0+(x_v22:Int).toNat*1)] ((tP 96 5 0)::(tI 95 x94)::(tI 91 x90)::(K6 x_v22 l x_v20 m d x_v21 f x_v12 a_words words c_words)) fd)=>?_
         obtain⟨a0,fh,aa⟩:=Am aa
         obtain⟨ky,k2,e7⟩:=B9 fh
         refine D3 15 rfl (by kernel_rfl) (by decide) (rfl) (by kernel_rfl) fun K hK=>?_
         refine AS 0 5 0 (0+(x_v22:Int).toNat*1) (.c (.int .i64 x90)) g7 iv rfl rfl (by rfl) (by rfl) rfl rfl d2 rfl (by kernel_rfl) (Ar (sz:=1) rfl ax c9) fun kb g8 iw=>?_
         have ci:Af aq a0 (u.take (0+(x_v22:Int).toNat*1+0)++([.int .i64 x90]:List Value)++u.drop (0+(x_v22:Int).toNat*1+0+1)):=by rw [e7]; exact Cg (sz:=1) rfl ax c9 (Ad:rep aq (x90:Int) _)
         have ei:x_v20.length=a0.length:=by rw [e7]; simp
         have g9:Kn 115 [(g,0),(p,q+(x_v12:Int).toNat*3),(s,0),(ae,0+(IntKind.i64.wrap (x_v22-1):Int).toNat*1),(ah,0+(x_v22:Int).toNat*1),(aj,0+(x_v22:Int).toNat*1)] [(96,.one (.c (.ptr 5 0))),(95,.one (.c (.int .i64 x94))),(91,.one (.c (.int .i64 x90))),(86,.one (.c (.int .i64 (IntKind.i64.wrap (x_v22-1))))),(84,.one (.c (.slice l a0.length m))),(83,.one (.c (.int .i64 x_v22))),(82,.one (.c (.slice l a0.length m))),(11,.one (.c (.int .i64 x_v22))),(6,.one (.c (.slice d x_v21.length f))),(5,.one (.c (.slice l a0.length m))),(7,.one (.c (.int .i64 x_v12))),(2,.one (.c (.ptr 0 0))),(1,.one (.c (.slice a_words words.length c_words)))] fd:=by rw [← ei]; exact g8
         have df:Ak ⟨w,h,AA⟩ aq [(g,0),(p,q+(x_v12:Int).toNat*3),(s,0),(ae,0+(IntKind.i64.wrap (x_v22-1):Int).toNat*1),(ah,0+(x_v22:Int).toNat*1),(aj,0+(x_v22:Int).toNat*1)] [⟨[.slice ai y.room.length ak,.slice ad y.buses.length ag,.int .i64 y.broken],some 25⟩,⟨[.int .i64 x22.lo,.int .i64 x22.hi,.int .i64 x22.turn],none⟩,⟨[.int .i64 x22.lo,.int .i64 x22.hi,.int .i64 x22.turn],some 49⟩,⟨[],none⟩,⟨[],none⟩,⟨[],none⟩] [⟨l,a0.length,m,3,1,u.take (0+(x_v22:Int).toNat*1+0)++([.int .i64 x90]:List Value)++u.drop (0+(x_v22:Int).toNat*1+0+1),0⟩,⟨d,x_v21.length,f,3,1,ab,0⟩,⟨a2,1,1,3,1,([.int .i64 x_v12]:List Value),0⟩,⟨a4,1,1,3,1,([.int .i64 (IntKind.i64.wrap ((IntKind.i64.wrap (2*am))+(Int.tmod x60 2)))]:List Value),0⟩] kb:=by rw [← ei]; exact iw
         refine hK _ _ ?_
         refine Aw [] [(g,0),(p,q+(x_v12:Int).toNat*3),(s,0),(ae,0+(IntKind.i64.wrap (x_v22-1):Int).toNat*1),(ah,0+(x_v22:Int).toNat*1),(aj,0+(x_v22:Int).toNat*1)] [⟨Hz ai y ak ad ag,some 25⟩,⟨GQ x22,none⟩,⟨GQ x22,some 49⟩,⟨[],none⟩,⟨[],none⟩,⟨[],none⟩] ?_
         obtain⟨x97,ex97,aa⟩:=Am aa
         obtain⟨es,e2,jo⟩:=Ah ex97
         have da:=Az es e2
         obtain⟨kl,jd,f2⟩:=A5 (sz:=1) rfl ci jo
         obtain rfl:=jd
         obtain⟨ao,d3⟩:=A7 df (i:=0) rfl (b0:=0+(IntKind.i64.wrap (x_v22-1):Int).toNat*1) (Nat.lt_of_lt_of_le (Nat.lt_add_of_pos_right (by decide)) (Ar (sz:=1) rfl ci da))
         have ix:=df.addPlc (b:=ao) (o:=0+(IntKind.i64.wrap (x_v22-1):Int).toNat*1) (cs:=[]) (fun j c hj=>by simp at hj) rfl (by kernel_rfl) (by kernel_rfl)
         have kt:∀ (e:AC) k c,([.int .i64 x97]:List SC)[k]? = some c→((u.take (0+(x_v22:Int).toNat*1+0)++([.int .i64 x90]:List Value)++u.drop (0+(x_v22:Int).toNat*1+0+1)))[0+(IntKind.i64.wrap (x_v22-1):Int).toNat*1+k]? = some (c.den e):=fun e k c hk=>f2 k _ (Ai hk)
         refine Ax 16 (IntKind.i64.wrap (x_v22-1)) [.int .i64 x97] (fun _ _ _ _ _ h=>h) rfl rfl (rfl) rfl (by decide) (by kernel_rfl) (by kernel_rfl) g9 df.plOk (by rfl) (by rfl) (by rfl) d3 (by rfl) es e2 (by kernel_rfl) fun dt (ha:Kn 115 (R3 g p q x_v12 s ae x_v22 ah aj ao) ((tP 97 6 0)::(tP 96 5 0)::(tI 95 x94)::(tI 91 x90)::(tI 86 (IntKind.i64.wrap (x_v22-1)))::(tS 84 l a0.length m)::(tI 83 x_v22)::(tS 82 l a0.length m)::(tI 11 x_v22)::(tS 6 d x_v21.length f)::(tS 5 l a0.length m)::(tI 7 x_v12)::(D9 a_words words c_words)) dt)=>?_
         obtain⟨an,fi,aa⟩:=Am aa
         obtain⟨kz,k3,e8⟩:=B9 fi
         refine D3 17 rfl (by kernel_rfl) (by decide) (rfl) (by kernel_rfl) fun K hK=>?_
         refine AS 0 6 0 (0+(IntKind.i64.wrap (x_v22-1):Int).toNat*1) (.c (.int .i64 x94)) ha ix rfl rfl (by rfl) (by rfl) rfl rfl d3 rfl (by kernel_rfl) (Ar (sz:=1) rfl ci da) fun kc hb iy=>?_
         have f3:Af aq an ((u.take (0+(x_v22:Int).toNat*1+0)++([.int .i64 x90]:List Value)++u.drop (0+(x_v22:Int).toNat*1+0+1)).take (0+(IntKind.i64.wrap (x_v22-1):Int).toNat*1+0)++([.int .i64 x94]:List Value)++(u.take (0+(x_v22:Int).toNat*1+0)++([.int .i64 x90]:List Value)++u.drop (0+(x_v22:Int).toNat*1+0+1)).drop (0+(IntKind.i64.wrap (x_v22-1):Int).toNat*1+0+1)):=by rw [e8]; exact Cg (sz:=1) rfl ci da (Ad:rep aq (x94:Int) _)
         have ej:a0.length=an.length:=by rw [e8]; simp
         have hc:Kn 115 [(g,0),(p,q+(x_v12:Int).toNat*3),(s,0),(ae,0+(IntKind.i64.wrap (x_v22-1):Int).toNat*1),(ah,0+(x_v22:Int).toNat*1),(aj,0+(x_v22:Int).toNat*1),(ao,0+(IntKind.i64.wrap (x_v22-1):Int).toNat*1)] [(97,.one (.c (.ptr 6 0))),(96,.one (.c (.ptr 5 0))),(95,.one (.c (.int .i64 x94))),(91,.one (.c (.int .i64 x90))),(86,.one (.c (.int .i64 (IntKind.i64.wrap (x_v22-1))))),(84,.one (.c (.slice l an.length m))),(83,.one (.c (.int .i64 x_v22))),(82,.one (.c (.slice l an.length m))),(11,.one (.c (.int .i64 x_v22))),(6,.one (.c (.slice d x_v21.length f))),(5,.one (.c (.slice l an.length m))),(7,.one (.c (.int .i64 x_v12))),(2,.one (.c (.ptr 0 0))),(1,.one (.c (.slice a_words words.length c_words)))] dt:=by rw [← ej]; exact hb
         have bv:Ak ⟨w,h,AA⟩ aq [(g,0),(p,q+(x_v12:Int).toNat*3),(s,0),(ae,0+(IntKind.i64.wrap (x_v22-1):Int).toNat*1),(ah,0+(x_v22:Int).toNat*1),(aj,0+(x_v22:Int).toNat*1),(ao,0+(IntKind.i64.wrap (x_v22-1):Int).toNat*1)] [⟨[.slice ai y.room.length ak,.slice ad y.buses.length ag,.int .i64 y.broken],some 25⟩,⟨[.int .i64 x22.lo,.int .i64 x22.hi,.int .i64 x22.turn],none⟩,⟨[.int .i64 x22.lo,.int .i64 x22.hi,.int .i64 x22.turn],some 49⟩,⟨[],none⟩,⟨[],none⟩,⟨[],none⟩,⟨[],none⟩] [⟨l,an.length,m,3,1,(u.take (0+(x_v22:Int).toNat*1+0)++([.int .i64 x90]:List Value)++u.drop (0+(x_v22:Int).toNat*1+0+1)).take (0+(IntKind.i64.wrap (x_v22-1):Int).toNat*1+0)++([.int .i64 x94]:List Value)++(u.take (0+(x_v22:Int).toNat*1+0)++([.int .i64 x90]:List Value)++u.drop (0+(x_v22:Int).toNat*1+0+1)).drop (0+(IntKind.i64.wrap (x_v22-1):Int).toNat*1+0+1),0⟩,⟨d,x_v21.length,f,3,1,ab,0⟩,⟨a2,1,1,3,1,([.int .i64 x_v12]:List Value),0⟩,⟨a4,1,1,3,1,([.int .i64 (IntKind.i64.wrap ((IntKind.i64.wrap (2*am))+(Int.tmod x60 2)))]:List Value),0⟩] kc:=by rw [← ej]; exact iy
         refine hK _ _ ?_
         have hd:Kn 115 (R3 g p q x_v12 s ae x_v22 ah aj ao) ((tI 11 x_v22)::(tS 6 d x_v21.length f)::(tS 5 l an.length m)::(tI 7 x_v12)::(D9 a_words words c_words)) dt:=hc.kp
         refine Iz (by kernel_rfl) (At (by kernel_rfl) ?_)
         replace bv:=bv.drew
         refine Aw [] (R3 g p q x_v12 s ae x_v22 ah aj ao) [⟨Hz ai y ak ad ag,some 25⟩,⟨GQ x22,none⟩,⟨GQ x22,some 49⟩,⟨[],none⟩,⟨[],none⟩,⟨[],none⟩,⟨[],none⟩] ?_
         refine Dr [0,1,2,3,4,5,6,7] (dn 7) ((tI 105 (IntKind.i64.wrap (x_v22-1)))::(tS 103 d x_v21.length f)::(K5 x_v22 d x_v21 f l an m x_v12 a_words words c_words)) hd bv fun lr he=>?_
         obtain⟨x106,ex106,aa⟩:=Am aa
         obtain⟨et,e3,jp⟩:=Ah ex106
         have im:=Az et e3
         obtain⟨km,je,f4⟩:=A5 (sz:=1) rfl ar jp
         obtain rfl:=je
         obtain⟨ap,b9⟩:=A7 bv (i:=1) rfl (b0:=0+(IntKind.i64.wrap (x_v22-1):Int).toNat*1) (Nat.lt_of_lt_of_le (Nat.lt_add_of_pos_right (by decide)) (Ar (sz:=1) rfl ar im))
         have bw:=bv.addPlc (b:=ap) (o:=0+(IntKind.i64.wrap (x_v22-1):Int).toNat*1) (cs:=[]) (fun j c hj=>by simp at hj) rfl (by kernel_rfl) (by kernel_rfl)
         have cj:∀ (e:AC) k c,([.int .i64 x106]:List SC)[k]? = some c→(ab)[0+(IntKind.i64.wrap (x_v22-1):Int).toNat*1+k]? = some (c.den e):=fun e k c hk=>f4 k _ (Ai hk)
         refine Ax 8 (IntKind.i64.wrap (x_v22-1)) [.int .i64 x106] (fun _ _ _ _ _ h=>h) rfl rfl (rfl) rfl (by decide) (by kernel_rfl) (by kernel_rfl) he bv.plOk (by rfl) (by rfl) (by rfl) b9 (by rfl) et e3 (by kernel_rfl) fun j5 (hf:Kn 115 [(g,0),(p,q+(x_v12:Int).toNat*3),(s,0),(ae,0+(IntKind.i64.wrap (x_v22-1):Int).toNat*1),(ah,0+(x_v22:Int).toNat*1),(aj,0+(x_v22:Int).toNat*1),(ao,0+(IntKind.i64.wrap (x_v22-1):Int).toNat*1),(ap,0+(IntKind.i64.wrap (x_v22-1):Int).toNat*1)] ((tP 106 7 0)::(tI 105 (IntKind.i64.wrap (x_v22-1)))::(tS 103 d x_v21.length f)::(K5 x_v22 d x_v21 f l an m x_v12 a_words words c_words)) j5)=>?_
         refine Co [9,10,11] [11,10,9,8,7,6,5,4,3,2,1,0] [109,108,107,102,100,99,98,11,6,5,7,2,1] ((tI 109 x_v22)::(tS 108 d x_v21.length f)::(tI 107 x106)::(K5 x_v22 d x_v21 f l an m x_v12 a_words words c_words)) (fun _ _ _ _ _ h=>h) hf (A3.peek bw.plOk bw 1 7 rfl rfl b9 [.int .i64 x106] (cj _)) (by kernel_rfl) (by rfl) (by kernel_rfl) fun ls hg=>?_
         obtain⟨x110,ex110,aa⟩:=Am aa
         obtain⟨eu,e4,jq⟩:=Ah ex110
         have io:=Az eu e4
         obtain⟨kn,jf,f5⟩:=A5 (sz:=1) rfl ar jq
         obtain rfl:=jf
         obtain⟨au,cx⟩:=A7 bw (i:=1) rfl (b0:=0+(x_v22:Int).toNat*1) (Nat.lt_of_lt_of_le (Nat.lt_add_of_pos_right (by decide)) (Ar (sz:=1) rfl ar io))
         have bb:=bw.addPlc (b:=au) (o:=0+(x_v22:Int).toNat*1) (cs:=[]) (fun j c hj=>by simp at hj) rfl (by kernel_rfl) (by kernel_rfl)
         have d7:∀ (e:AC) k c,([.int .i64 x110]:List SC)[k]? = some c→(ab)[0+(x_v22:Int).toNat*1+k]? = some (c.den e):=fun e k c hk=>f5 k _ (Ai hk)
         refine Ax 12 (x_v22) [.int .i64 x110] (fun _ _ _ _ _ h=>h) rfl rfl (rfl) rfl (by decide) (by kernel_rfl) (by kernel_rfl) hg (A3.peek bw.plOk bw 1 7 rfl rfl b9 [.int .i64 x106] (cj _)) (by rfl) (by rfl) (by rfl) cx (by rfl) eu e4 (by kernel_rfl) fun j6 (hl:Kn 115 [(g,0),(p,q+(x_v12:Int).toNat*3),(s,0),(ae,0+(IntKind.i64.wrap (x_v22-1):Int).toNat*1),(ah,0+(x_v22:Int).toNat*1),(aj,0+(x_v22:Int).toNat*1),(ao,0+(IntKind.i64.wrap (x_v22-1):Int).toNat*1),(ap,0+(IntKind.i64.wrap (x_v22-1):Int).toNat*1),(au,0+(x_v22:Int).toNat*1)] ((tP 110 8 0)::(tI 109 x_v22)::(tS 108 d x_v21.length f)::(tI 107 x106)::(K5 x_v22 d x_v21 f l an m x_v12 a_words words c_words)) j6)=>?_
         refine Co [13] [13,12,11,10,9,8,7,6,5,4,3,2,1,0] [111,107,102,100,99,98,11,6,5,7,2,1] ((tI 111 x110)::(tI 107 x106)::(K5 x_v22 d x_v21 f l an m x_v12 a_words words c_words)) (fun _ _ _ _ _ h=>h) hl (A3.peek (A3.peek bb.plOk bb 1 7 rfl rfl b9 [.int .i64 x106] (cj _)) bb 1 8 rfl rfl cx [.int .i64 x110] (d7 _)) (by kernel_rfl) (by rfl) (by kernel_rfl) fun lu hn=>?_
         obtain⟨x112,ex112,aa⟩:=Am aa
         obtain⟨ev,e5,jr⟩:=Ah ex112
         have db:=Az ev e5
         obtain⟨ko,jg,f6⟩:=A5 (sz:=1) rfl ar jr
         obtain rfl:=jg
         obtain⟨aw,d4⟩:=A7 bb (i:=1) rfl (b0:=0+(x_v22:Int).toNat*1) (Nat.lt_of_lt_of_le (Nat.lt_add_of_pos_right (by decide)) (Ar (sz:=1) rfl ar db))
         have iz:=bb.addPlc (b:=aw) (o:=0+(x_v22:Int).toNat*1) (cs:=[]) (fun j c hj=>by simp at hj) rfl (by kernel_rfl) (by kernel_rfl)
         have ku:∀ (e:AC) k c,([.int .i64 x112]:List SC)[k]? = some c→(ab)[0+(x_v22:Int).toNat*1+k]? = some (c.den e):=fun e k c hk=>f6 k _ (Ai hk)
         refine Ax 14 (x_v22) [.int .i64 x112] (fun _ _ _ _ _ h=>h) rfl rfl (rfl) rfl (by decide) (by kernel_rfl) (by kernel_rfl) hn (A3.peek (A3.peek bb.plOk bb 1 7 rfl rfl b9 [.int .i64 x106] (cj _)) bb 1 8 rfl rfl cx [.int .i64 x110] (d7 _)) (by rfl) (by rfl) (by rfl) d4 (by rfl) ev e5 (by kernel_rfl) fun fe (ho:Kn 115 (Sl g p q x_v12 s ae x_v22 ah aj ao ap au aw) ((tP 112 9 0)::(tI 111 x110)::(tI 107 x106)::(K5 x_v22 d x_v21 f l an m x_v12 a_words words c_words)) fe)=>?_
         obtain⟨a1,fj,aa⟩:=Am aa
         obtain⟨k0,k4,e9⟩:=B9 fj
         refine D3 15 rfl (by kernel_rfl) (by decide) (rfl) (by kernel_rfl) fun K hK=>?_
         refine AS 1 9 0 (0+(x_v22:Int).toNat*1) (.c (.int .i64 x106)) ho iz rfl rfl (by rfl) (by rfl) rfl rfl d4 rfl (by kernel_rfl) (Ar (sz:=1) rfl ar db) fun kd hp i0=>?_
         have ck:Af aq a1 (ab.take (0+(x_v22:Int).toNat*1+0)++([.int .i64 x106]:List Value)++ab.drop (0+(x_v22:Int).toNat*1+0+1)):=by rw [e9]; exact Cg (sz:=1) rfl ar db (Ad:rep aq (x106:Int) _)
         have ek:x_v21.length=a1.length:=by rw [e9]; simp
         have hq:Kn 115 [(g,0),(p,q+(x_v12:Int).toNat*3),(s,0),(ae,0+(IntKind.i64.wrap (x_v22-1):Int).toNat*1),(ah,0+(x_v22:Int).toNat*1),(aj,0+(x_v22:Int).toNat*1),(ao,0+(IntKind.i64.wrap (x_v22-1):Int).toNat*1),(ap,0+(IntKind.i64.wrap (x_v22-1):Int).toNat*1),(au,0+(x_v22:Int).toNat*1),(aw,0+(x_v22:Int).toNat*1)] [(112,.one (.c (.ptr 9 0))),(111,.one (.c (.int .i64 x110))),(107,.one (.c (.int .i64 x106))),(102,.one (.c (.int .i64 (IntKind.i64.wrap (x_v22-1))))),(100,.one (.c (.slice d a1.length f))),(99,.one (.c (.int .i64 x_v22))),(98,.one (.c (.slice d a1.length f))),(11,.one (.c (.int .i64 x_v22))),(6,.one (.c (.slice d a1.length f))),(5,.one (.c (.slice l an.length m))),(7,.one (.c (.int .i64 x_v12))),(2,.one (.c (.ptr 0 0))),(1,.one (.c (.slice a_words words.length c_words)))] fe:=by rw [← ek]; exact hp
         have dg:Ak ⟨w,h,AA⟩ aq [(g,0),(p,q+(x_v12:Int).toNat*3),(s,0),(ae,0+(IntKind.i64.wrap (x_v22-1):Int).toNat*1),(ah,0+(x_v22:Int).toNat*1),(aj,0+(x_v22:Int).toNat*1),(ao,0+(IntKind.i64.wrap (x_v22-1):Int).toNat*1),(ap,0+(IntKind.i64.wrap (x_v22-1):Int).toNat*1),(au,0+(x_v22:Int).toNat*1),(aw,0+(x_v22:Int).toNat*1)] [⟨[.slice ai y.room.length ak,.slice ad y.buses.length ag,.int .i64 y.broken],some 25⟩,⟨[.int .i64 x22.lo,.int .i64 x22.hi,.int .i64 x22.turn],none⟩,⟨[.int .i64 x22.lo,.int .i64 x22.hi,.int .i64 x22.turn],some 49⟩,⟨[],none⟩,⟨[],none⟩,⟨[],none⟩,⟨[],none⟩,⟨[],none⟩,⟨[],none⟩,⟨[],none⟩] [⟨l,an.length,m,3,1,(u.take (0+(x_v22:Int).toNat*1+0)++([.int .i64 x90]:List Value)++u.drop (0+(x_v22:Int).toNat*1+0+1)).take (0+(IntKind.i64.wrap (x_v22-1):Int).toNat*1+0)++([.int .i64 x94]:List Value)++(u.take (0+(x_v22:Int).toNat*1+0)++([.int .i64 x90]:List Value)++u.drop (0+(x_v22:Int).toNat*1+0+1)).drop (0+(IntKind.i64.wrap (x_v22-1):Int).toNat*1+0+1),0⟩,⟨d,a1.length,f,3,1,ab.take (0+(x_v22:Int).toNat*1+0)++([.int .i64 x106]:List Value)++ab.drop (0+(x_v22:Int).toNat*1+0+1),0⟩,⟨a2,1,1,3,1,([.int .i64 x_v12]:List Value),0⟩,⟨a4,1,1,3,1,([.int .i64 (IntKind.i64.wrap ((IntKind.i64.wrap (2*am))+(Int.tmod x60 2)))]:List Value),0⟩] kd:=by rw [← ek]; exact i0
         refine hK _ _ ?_
         refine Aw [] (Sl g p q x_v12 s ae x_v22 ah aj ao ap au aw) [⟨Hz ai y ak ad ag,some 25⟩,⟨GQ x22,none⟩,⟨GQ x22,some 49⟩,⟨[],none⟩,⟨[],none⟩,⟨[],none⟩,⟨[],none⟩,⟨[],none⟩,⟨[],none⟩,⟨[],none⟩] ?_
         obtain⟨x113,ex113,aa⟩:=Am aa
         obtain⟨ew,e6,js⟩:=Ah ex113
         have dc:=Az ew e6
         obtain⟨kq,jh,f7⟩:=A5 (sz:=1) rfl ck js
         obtain rfl:=jh
         obtain⟨be,d5⟩:=A7 dg (i:=1) rfl (b0:=0+(IntKind.i64.wrap (x_v22-1):Int).toNat*1) (Nat.lt_of_lt_of_le (Nat.lt_add_of_pos_right (by decide)) (Ar (sz:=1) rfl ck dc))
         have i1:=dg.addPlc (b:=be) (o:=0+(IntKind.i64.wrap (x_v22-1):Int).toNat*1) (cs:=[]) (fun j c hj=>by simp at hj) rfl (by kernel_rfl) (by kernel_rfl)
         have kw:∀ (e:AC) k c,([.int .i64 x113]:List SC)[k]? = some c→((ab.take (0+(x_v22:Int).toNat*1+0)++([.int .i64 x106]:List Value)++ab.drop (0+(x_v22:Int).toNat*1+0+1)))[0+(IntKind.i64.wrap (x_v22-1):Int).toNat*1+k]? = some (c.den e):=fun e k c hk=>f7 k _ (Ai hk)
         refine Ax 16 (IntKind.i64.wrap (x_v22-1)) [.int .i64 x113] (fun _ _ _ _ _ h=>h) rfl rfl (rfl) rfl (by decide) (by kernel_rfl) (by kernel_rfl) hq dg.plOk (by rfl) (by rfl) (by rfl) d5 (by rfl) ew e6 (by kernel_rfl) fun du (hr:Kn 115 (Sm g p q x_v12 s ae x_v22 ah aj ao ap au aw be) ((tP 113 10 0)::(tP 112 9 0)::(tI 111 x110)::(tI 107 x106)::(tI 102 (IntKind.i64.wrap (x_v22-1)))::(tS 100 d a1.length f)::(tI 99 x_v22)::(tS 98 d a1.length f)::(tI 11 x_v22)::(tS 6 d a1.length f)::(tS 5 l an.length m)::(tI 7 x_v12)::(D9 a_words words c_words)) du)=>?_
         obtain⟨a8,fk,aa⟩:=Am aa
         obtain⟨k1,k5,fa⟩:=B9 fk
         refine D3 17 rfl (by kernel_rfl) (by decide) (rfl) (by kernel_rfl) fun K hK=>?_
         refine AS 1 10 0 (0+(IntKind.i64.wrap (x_v22-1):Int).toNat*1) (.c (.int .i64 x110)) hr i1 rfl rfl (by rfl) (by rfl) rfl rfl d5 rfl (by kernel_rfl) (Ar (sz:=1) rfl ck dc) fun ke hs i2=>?_
         have f8:Af aq a8 ((ab.take (0+(x_v22:Int).toNat*1+0)++([.int .i64 x106]:List Value)++ab.drop (0+(x_v22:Int).toNat*1+0+1)).take (0+(IntKind.i64.wrap (x_v22-1):Int).toNat*1+0)++([.int .i64 x110]:List Value)++(ab.take (0+(x_v22:Int).toNat*1+0)++([.int .i64 x106]:List Value)++ab.drop (0+(x_v22:Int).toNat*1+0+1)).drop (0+(IntKind.i64.wrap (x_v22-1):Int).toNat*1+0+1)):=by rw [fa]; exact Cg (sz:=1) rfl ck dc (Ad:rep aq (x110:Int) _)
         have el:a1.length=a8.length:=by rw [fa]; simp
         have ht:Kn 115 [(g,0),(p,q+(x_v12:Int).toNat*3),(s,0),(ae,0+(IntKind.i64.wrap (x_v22-1):Int).toNat*1),(ah,0+(x_v22:Int).toNat*1),(aj,0+(x_v22:Int).toNat*1),(ao,0+(IntKind.i64.wrap (x_v22-1):Int).toNat*1),(ap,0+(IntKind.i64.wrap (x_v22-1):Int).toNat*1),(au,0+(x_v22:Int).toNat*1),(aw,0+(x_v22:Int).toNat*1),(be,0+(IntKind.i64.wrap (x_v22-1):Int).toNat*1)] [(113,.one (.c (.ptr 10 0))),(112,.one (.c (.ptr 9 0))),(111,.one (.c (.int .i64 x110))),(107,.one (.c (.int .i64 x106))),(102,.one (.c (.int .i64 (IntKind.i64.wrap (x_v22-1))))),(100,.one (.c (.slice d a8.length f))),(99,.one (.c (.int .i64 x_v22))),(98,.one (.c (.slice d a8.length f))),(11,.one (.c (.int .i64 x_v22))),(6,.one (.c (.slice d a8.length f))),(5,.one (.c (.slice l an.length m))),(7,.one (.c (.int .i64 x_v12))),(2,.one (.c (.ptr 0 0))),(1,.one (.c (.slice a_words words.length c_words)))] du:=by rw [← el]; exact hs
         have ef:Ak ⟨w,h,AA⟩ aq [(g,0),(p,q+(x_v12:Int).toNat*3),(s,0),(ae,0+(IntKind.i64.wrap (x_v22-1):Int).toNat*1),(ah,0+(x_v22:Int).toNat*1),(aj,0+(x_v22:Int).toNat*1),(ao,0+(IntKind.i64.wrap (x_v22-1):Int).toNat*1),(ap,0+(IntKind.i64.wrap (x_v22-1):Int).toNat*1),(au,0+(x_v22:Int).toNat*1),(aw,0+(x_v22:Int).toNat*1),(be,0+(IntKind.i64.wrap (x_v22-1):Int).toNat*1)] [⟨[.slice ai y.room.length ak,.slice ad y.buses.length ag,.int .i64 y.broken],some 25⟩,⟨[.int .i64 x22.lo,.int .i64 x22.hi,.int .i64 x22.turn],none⟩,⟨[.int .i64 x22.lo,.int .i64 x22.hi,.int .i64 x22.turn],some 49⟩,⟨[],none⟩,⟨[],none⟩,⟨[],none⟩,⟨[],none⟩,⟨[],none⟩,⟨[],none⟩,⟨[],none⟩,⟨[],none⟩] [⟨l,an.length,m,3,1,(u.take (0+(x_v22:Int).toNat*1+0)++([.int .i64 x90]:List Value)++u.drop (0+(x_v22:Int).toNat*1+0+1)).take (0+(IntKind.i64.wrap (x_v22-1):Int).toNat*1+0)++([.int .i64 x94]:List Value)++(u.take (0+(x_v22:Int).toNat*1+0)++([.int .i64 x90]:List Value)++u.drop (0+(x_v22:Int).toNat*1+0+1)).drop (0+(IntKind.i64.wrap (x_v22-1):Int).toNat*1+0+1),0⟩,⟨d,a8.length,f,3,1,(ab.take (0+(x_v22:Int).toNat*1+0)++([.int .i64 x106]:List Value)++ab.drop (0+(x_v22:Int).toNat*1+0+1)).take (0+(IntKind.i64.wrap (x_v22-1):Int).toNat*1+0)++([.int .i64 x110]:List Value)++(ab.take (0+(x_v22:Int).toNat*1+0)++([.int .i64 x106]:List Value)++ab.drop (0+(x_v22:Int).toNat*1+0+1)).drop (0+(IntKind.i64.wrap (x_v22-1):Int).toNat*1+0+1),0⟩,⟨a2,1,1,3,1,([.int .i64 x_v12]:List Value),0⟩,⟨a4,1,1,3,1,([.int .i64 (IntKind.i64.wrap ((IntKind.i64.wrap (2*am))+(Int.tmod x60 2)))]:List Value),0⟩] ke:=by rw [← el]; exact i2
         refine hK _ _ ?_
         have hu:Kn 115 (Sm g p q x_v12 s ae x_v22 ah aj ao ap au aw be) ((tI 11 x_v22)::(tS 6 d a8.length f)::(tS 5 l an.length m)::(tI 7 x_v12)::(D9 a_words words c_words)) du:=ht.kp
         refine Iz (by kernel_rfl) (Aa (Rk 0 3 ((tI 11 (IntKind.i64.wrap (x_v22-1)))::(tS 6 d a8.length f)::(tS 5 l an.length m)::(tI 7 x_v12)::(D9 a_words words c_words)) hu ef fun lv hv=>?_))
         refine wf ?_
         exact XY dm ⟨Nat.lt_succ_self _,XY an ⟨a8,IntKind.i64.wrap (x_v22-1),l,m,(u.take (0+(x_v22:Int).toNat*1+0)++([.int .i64 x90]:List Value)++u.drop (0+(x_v22:Int).toNat*1+0+1)).take (0+(IntKind.i64.wrap (x_v22-1):Int).toNat*1+0)++([.int .i64 x94]:List Value)++(u.take (0+(x_v22:Int).toNat*1+0)++([.int .i64 x90]:List Value)++u.drop (0+(x_v22:Int).toNat*1+0+1)).drop (0+(IntKind.i64.wrap (x_v22-1):Int).toNat*1+0+1),d,f,(ab.take (0+(x_v22:Int).toNat*1+0)++([.int .i64 x106]:List Value)++ab.drop (0+(x_v22:Int).toNat*1+0+1)).take (0+(IntKind.i64.wrap (x_v22-1):Int).toNat*1+0)++([.int .i64 x110]:List Value)++(ab.take (0+(x_v22:Int).toNat*1+0)++([.int .i64 x106]:List Value)++ab.drop (0+(x_v22:Int).toNat*1+0+1)).drop (0+(IntKind.i64.wrap (x_v22-1):Int).toNat*1+0+1),_,_,rfl,(hv.keep [11,6,5,7,2,1] (by rfl)).cut 3 (by kernel_rfl),ef.cutPl 3 (by kernel_rfl),XU bj cl,f3,f8,aa⟩⟩
        ·
         rw [AX c0] at aa
         refine wp_exit ?_
         obtain rfl:=XZ aa
         exact XY l ⟨m,u,d,f,ab,_,_,rfl,c7.kp,bk,XU bj cl,ax,ar⟩
     ·
      rintro _ mg ⟨bz,b2,cp,b1,b3,cq,dq,b5,rfl,hw,eg,ip,fs,ft⟩
      refine Aa (Rk 0 3 ((tI 7 (IntKind.i64.wrap (x_v12+1)))::(tS 6 b1 ay.2.length b3)::(tS 5 bz ay.1.length b2)::(D9 a_words words c_words)) hw eg fun lw hx=>?_)
      refine wf ?_
      exact XY bx ⟨Nat.lt_succ_self _,XY ay.1 ⟨ay.2,IntKind.i64.wrap (x_v12+1),bz,b2,cp,b1,b3,cq,_,_,rfl,(hx.keep [7,6,5,2,1] (by rfl)).cut 1 (by kernel_rfl),(eg.cutRw 2).cutPl 1 (by kernel_rfl),XU cc (XU bs (XU br (XU bi ip))),fs,ft,al⟩⟩
   ·
    rw [c1,XV] at al
    refine wp_exit ?_
    obtain rfl:=XZ al
    exact XY ac ⟨af,bl,x,z,bm,_,_,rfl,c8.kp,co,cc,bp,bq⟩
 ·
  rintro _ kf ⟨bd,bf,cd,ct,cv,cr,dv,b6,rfl,hy,dh,kx,c4,kv⟩
  refine XT (Aa (Rk 0 2 [tS 4 bd az.1.length bf] hy dh fun lx hz=>?_))
  refine wf (wp_ret ?_)
  obtain⟨d0,iq,i7,di⟩:=dh.settle (i:=0) rfl
  replace c4:=c4.mono iq
  replace di:Ak ⟨w,h,AA⟩ d0 [(g,0)] [⟨Hz ai y ak ad ag,some 25⟩] [⟨bd,az.1.length,bf,3,1,cd,(cd:List Value).length⟩,⟨ct,az.2.length,cv,3,1,cr,0⟩] kf:=di
  have i6:Av d0 bd bf az.1:=⟨_,c4,i7,dh.rowCap (i:=0) rfl⟩
  obtain rfl:=XZ H
  exact rt (.one (.c (.slice bd az.1.length bf))) hz di ⟨_,_,rfl,i6⟩
abbrev Lk (g:Option Addr) (y:Aj) (k:Nat) (j:Option Addr) (l:Nat):List SC:=[.slice g y.room.length k,.slice j y.buses.length l,.int .i64 y.broken]
abbrev EF (a_words:Option Addr) (words:List (IK .u16)) (c_words:Nat):TM:=[tP 2 0 0,tS 1 a_words words.length c_words]
set_option maxRecDepth 100000 in
set_option maxHeartbeats 4000000 in
theorem P0 (n:Nat) {h:Ac} {w:World} (hh:CG h w) (y:Aj) {cs_y:List Value} (hx_y:rep h y cs_y) (words:List (IK .u16)) {a_words:Option Addr} {c_words:Nat} (hr_words:Av h a_words c_words words) {r:List Int} (H:HH n y words=some r) :
  Calls Try.prog 28 #[.agg cs_y.toArray,.slice a_words words.length c_words] w (CS (fun h v=>∃ a c,v=.slice a r.length c∧Av h a c r) h w):=by
 obtain⟨_,_,rfl,⟨g,k,rfl,a7⟩,⟨_,_,rfl,⟨j,l,rfl,a8⟩,rfl⟩⟩:=hx_y
 refine enter 33 [.agg (Lk g y k j l),.c (.slice a_words words.length c_words)] Try.func28 rfl rfl rfl rfl fun t hk=>?_
 have hm:=Ak.begin h w hh
 unfold HH at H
 refine XT (Aa (wl fun K hK=>?_))
 refine wb (.agg (Lk g y k j l)) hk hm fun e b8 ca (bg:Kn 33 [(e,0)] [tP 2 0 0,tA 0 (Lk g y k j l),tS 1 a_words words.length c_words] b8) ai=>hK _ _ ?_
 refine Rk 1 1 (EF a_words words c_words) bg ai fun cf bi=>?_
 refine wf (XT (Aa (Rk 0 1 ((tS 5 none 0 0)::(EF a_words words c_words)) bi ai fun cg bj=>?_)))
 refine wf (XT (XT (Aa (Rk 0 1 ((tI 6 0)::(tS 5 none 0 0)::(EF a_words words c_words)) bj ai fun ch bk=>?_))))
 refine wf ?_
 have b2:Ak ⟨w,h,AA⟩ h [(e,0)] [⟨Lk g y k j l,some 25⟩] [⟨none,0,0,3,1,[],0⟩] ca:=ai.nilRow 3 1
 have bd:Af h ([]:List Int) []:=Af.nil
 obtain⟨o,a1,H⟩:=Am H
 refine An (fun a' w'=>∃ (q:Option Addr)(s:Nat)(ae:List Value)(ax:Array Value)(ah:Ac),a' = ⟨ax,[]⟩∧Kn 33 [(e,0)] [tS 5 q o.length s] ax∧Ak ⟨w,h,AA⟩ ah [(e,0)] [⟨Lk g y k j l,some 25⟩] [⟨q,o.length,s,3,1,ae,0⟩] w'∧Ac.le h ah∧Af ah o ae) ?_ ?_
 ·
  refine wp_block ?_
  refine Aq (fun b5 a' w'=>∃ (x_v10:List Int)(x_v11:Int)(b:Option Addr)(d:Nat)(p:List Value)(ay:Array Value)(aa:Ac),a' = ⟨ay,[]⟩∧Kn 33 [(e,0)] ((tI 6 x_v11)::(tS 5 b x_v10.length d)::(EF a_words words c_words)) ay∧Ak ⟨w,h,AA⟩ aa [(e,0)] [⟨Lk g y k j l,some 25⟩] [⟨b,x_v10.length,d,3,1,p,0⟩] w'∧Ac.le h aa∧Af aa x_v10 p∧CK b5 y words x_v10 x_v11=some o) n ?_ ?_
  ·
   exact XY ([]:List Int) ⟨0,none,0,[],_,_,rfl,bk.kp,b2,Ac.le_refl _,bd,a1⟩
  ·
   rintro ad _ cr ⟨x_v10,x_v11,b,d,p,ay,aa,rfl,bl,m,z,ac,f⟩
   clear a1
   obtain _ | ad:=ad
   ·
    rw [CK] at f; cases f
   rw [CK] at f
   replace a7:=a7.mono z
   replace a8:=a8.mono z
   replace hr_words:=hr_words.mono z
   refine XT (XT (Aa (Rk 0 5 ((tB 11 (decide (x_v11<((y.buses.length:Nat):Int))))::(tI 6 x_v11)::(tS 5 b x_v10.length d)::(EF a_words words c_words)) bl m fun ci ao=>?_)))
   refine wf (wC (decide (x_v11<((y.buses.length:Nat):Int))) ao (fun ak=>?_) (fun ak=>?_))
   ·
    rw [ak,XW] at f
    refine wp_skip (XT (wp_block (XT ?_)))
    obtain⟨a9,u,f⟩:=Am f
    refine An (fun a' w'=>∃ (az:Array Value)(x:Ac),a' = ⟨az,[]⟩∧Kn 33 [(e,0)] [tI 6 x_v11,tS 5 b x_v10.length d,tP 2 0 0,tS 1 a_words words.length c_words,tB 27 a9] az∧Ak ⟨w,h,AA⟩ x [(e,0)] [⟨Lk g y k j l,some 25⟩] [⟨b,x_v10.length,d,3,1,p,0⟩] w'∧Ac.le aa x) ?_ ?_
    ·
     refine Aa (Rk 0 6 ((tB 19 (decide (((x_v10.length:Nat):Int)<y.broken)))::(tI 6 x_v11)::(tS 5 b x_v10.length d)::(EF a_words words c_words)) ao m fun ba a3=>?_)
     rcases Bool.eq_false_or_eq_true (decide (((x_v10.length:Nat):Int)<y.broken)) with ab | ab
     ·
      rw [ab,XW] at u
      have bm:Kn 33 [(e,0)] ((tB 19 true)::(tI 6 x_v11)::(tS 5 b x_v10.length d)::(EF a_words words c_words)) ba:=(a3.setB 19 true (by rfl) ab).kp
      refine Rk 6 4 ((tI 23 (IntKind.i64.wrap ((IntKind.i64.wrap (3*x_v11))+2)))::(tS 20 a_words words.length c_words)::(tB 19 true)::(tI 6 x_v11)::(tS 5 b x_v10.length d)::(EF a_words words c_words)) bm m fun cj a4=>?_
      obtain⟨x24,ex24,u⟩:=Am u
      refine AL _ rfl (Al a4 (by kernel_rfl)) fun K hK=>?_
      refine wc [.c (.slice a_words words.length c_words),.c (.int .i64 (IntKind.i64.wrap ((IntKind.i64.wrap (3*x_v11))+2)))] a4 m (Gq ad m.has words hr_words (IntKind.i64.wrap ((IntKind.i64.wrap (3*x_v11))+2)) ex24) fun cq cc cs bc b1 a5=>?_
      obtain rfl:=bc
      refine⟨.one (.c (.int .i64 x24)),rfl,fun b6 (bn:Kn 33 [(e,0)] ((tI 24 x24)::(tI 23 (IntKind.i64.wrap ((IntKind.i64.wrap (3*x_v11))+2)))::(tS 20 a_words words.length c_words)::(tB 19 true)::(tI 6 x_v11)::(tS 5 b x_v10.length d)::(EF a_words words c_words)) b6)=>hK _ _ ?_⟩
      refine Rk 11 3 ((tB 27 ((Int.tmod x24 4) == 0))::(tI 6 x_v11)::(tS 5 b x_v10.length d)::(EF a_words words c_words)) bn a5 fun ck bo=>?_
      refine wf ?_
      obtain rfl:=XZ u
      exact XY _ ⟨_,rfl,bo.kp,a5,b1⟩
     ·
      rw [ab,XV] at u
      have bp:Kn 33 [(e,0)] ((tB 19 false)::(tI 6 x_v11)::(tS 5 b x_v10.length d)::(EF a_words words c_words)) ba:=(a3.setB 19 false (by rfl) ab).kp
      refine Rk 6 8 ((tB 27 false)::(tI 6 x_v11)::(tS 5 b x_v10.length d)::(EF a_words words c_words)) bp m fun cl bq=>?_
      refine wf ?_
      obtain rfl:=XZ u
      exact XY _ ⟨_,rfl,bq.kp,m,Ac.le_refl _⟩
    ·
     rintro _ ct ⟨az,x,rfl,ap,aj,aq⟩
     replace ac:=ac.mono aq
     refine wC (a9) ap (fun al=>?_) (fun al=>?_)
     ·
      rw [AW al] at f
      refine Aa (Rk 0 2 ((tI 29 x_v11)::(tS 28 b x_v10.length d)::(tI 6 x_v11)::(EF a_words words c_words)) ap aj fun cm br=>?_)
      refine wl fun K hK=>?_
      refine wS 3 1 [.int .i64 x_v11] br aj fun a0 b7 cu (bs:Kn 33 [(e,0)] ((tS 30 a0 1 1)::(tI 29 x_v11)::(tS 28 b x_v10.length d)::(tI 6 x_v11)::(EF a_words words c_words)) b7) a6=>?_
      have an:Af x ([x_v11]:List Int) ([.int .i64 x_v11]:List Value):=⟨_,_,rfl,(Ad:rep x (x_v11:Int) _),rfl⟩
      refine hK _ _ ?_
      obtain⟨x31,ex31,f⟩:=Am f
      obtain⟨aw,bz⟩:=Bj ex31
      refine wl fun K hK=>?_
      refine AU 0 8 1 _ (x31.length) _ ([.int .i64 x_v11]:List Value) bs a6 rfl rfl (by decide) rfl (by rfl) (by kernel_rfl) (by rfl) (by rfl) (Af.len an) (a6.rowCell (i:=1) rfl) an.one (by rw [aw]; simp <;> omega) (by rw [aw]; exact bz) (by decide) fun af ag bb b9 cv bf (bt:Kn 33 [(e,0)] ((tS 31 af x31.length ag)::(tS 30 a0 1 1)::(tI 29 x_v11)::(tS 28 b x_v10.length d)::(tI 6 x_v11)::(EF a_words words c_words)) b9) av=>?_
      have be:Af x x31 (p++([.int .i64 x_v11]:List Value)):=by rw [aw]; exact Af.append ac an
      obtain rfl:bb=0:=Nat.le_zero.1 bf
      refine hK _ _ ?_
      refine Rk 4 1 ((tS 5 af x31.length ag)::(tI 6 x_v11)::(EF a_words words c_words)) bt av fun cn bu=>?_
      refine wf (Aa (Rk 0 3 ((tI 6 (IntKind.i64.wrap (x_v11+1)))::(tS 5 af x31.length ag)::(EF a_words words c_words)) bu av fun co bv=>?_))
      refine wf ?_
      exact XY ad ⟨Nat.lt_succ_self _,XY x31 ⟨IntKind.i64.wrap (x_v11+1),af,ag,p++([.int .i64 x_v11]:List Value),_,_,rfl,bv.kp,av.cutRw 1,XU z aq,be,f⟩⟩
     ·
      rw [AX al] at f
      refine wp_skip (Aa (Rk 0 3 ((tI 6 (IntKind.i64.wrap (x_v11+1)))::(tS 5 b x_v10.length d)::(EF a_words words c_words)) ap aj fun cp bw=>?_))
      refine wf ?_
      exact XY ad ⟨Nat.lt_succ_self _,XY x_v10 ⟨IntKind.i64.wrap (x_v11+1),b,d,p,_,_,rfl,bw.kp,aj,XU z aq,ac,f⟩⟩
   ·
    rw [ak,XV] at f
    refine wp_exit ?_
    obtain rfl:=XZ f
    exact XY b ⟨d,p,_,_,rfl,ao.kp,m,z,ac⟩
 ·
  rintro _ cb ⟨q,s,ae,ax,ah,rfl,bx,ar,cd,am⟩
  refine XT (Aa (Rk 0 2 [tS 4 q o.length s] bx ar fun ce bh=>?_))
  refine wf (wp_ret ?_)
  obtain⟨a2,b0,b4,au⟩:=ar.settle (i:=0) rfl
  replace am:=am.mono b0
  replace au:Ak ⟨w,h,AA⟩ a2 [(e,0)] [⟨Lk g y k j l,some 25⟩] [⟨q,o.length,s,3,1,ae,(ae:List Value).length⟩] cb:=au
  have b3:Av a2 q s o:=⟨_,am,b4,ar.rowCap (i:=0) rfl⟩
  obtain rfl:=XZ H
  exact rt (.one (.c (.slice q o.length s))) bh au ⟨_,_,rfl,b3⟩
abbrev GR (s:Option Addr) (y:Aj) (u:Nat) (z:Option Addr) (aa:Nat):List SC:=[.slice s y.room.length u,.slice z y.buses.length aa,.int .i64 y.broken]
abbrev Qs (p ad:Nat) (d:Int) (ag ai aj am:Nat):AC:=[(p,0),(ad,0+(d:Int).toNat*1),(ag,ai+(d:Int).toNat*1),(aj,0+(d:Int).toNat*1),(am,0+(d:Int).toNat*1)]
abbrev Cr (x_v12:Int) (f:Option Addr) (x_v10:List Int) (g:Nat) (l:Option Addr) (x_v11:List Int) (m:Nat) (a_words:Option Addr) (words:List (IK .u16)) (c_words:Nat):TM:=[tI 8 x_v12,tS 7 f x_v10.length g,tS 6 l x_v11.length m,tP 2 0 0,tS 1 a_words words.length c_words]
abbrev Is (a_words:Option Addr) (words:List (IK .u16)) (c_words:Nat):TM:=[tP 2 0 0,tS 1 a_words words.length c_words]
set_option maxRecDepth 100000 in
set_option maxHeartbeats 4000000 in
theorem MZ (n:Nat) {h:Ac} {w:World} (hh:CG h w) (y:Aj) {cs_y:List Value} (hx_y:rep h y cs_y) (words:List (IK .u16)) {a_words:Option Addr} {c_words:Nat} (hr_words:Av h a_words c_words words) {r:(List Int)×Bool} (H:FE n y words=some r) :
  Calls Try.prog 26 #[.agg cs_y.toArray,.slice a_words words.length c_words] w (CS (fun h v=>∃ v0 v1,v=.tuple #[v0,v1]∧(∃ a c,v0=.slice a r.1.length c∧Av h a c r.1)∧(v1=.bool r.2)) h w):=by
 obtain⟨_,_,rfl,⟨s,u,rfl,ak⟩,⟨_,_,rfl,⟨z,aa,rfl,a3⟩,rfl⟩⟩:=hx_y
 refine enter 77 [.agg (GR s y u z aa),.c (.slice a_words words.length c_words)] Try.func26 rfl rfl rfl rfl fun t hk=>?_
 have hm:=Ak.begin h w hh
 unfold FE at H
 refine XT (Aa (wl fun K hK=>?_))
 refine wb (.agg (GR s y u z aa)) hk hm fun p f8 hq (dv:Kn 77 [(p,0)] [tP 2 0 0,tA 0 (GR s y u z aa),tS 1 a_words words.length c_words] f8) bk=>hK _ _ ?_
 refine Rk 1 2 (Is a_words words c_words) dv bk fun gp dy=>?_
 refine wf (XT (Aa (Rk 0 1 ((tS 6 none 0 0)::(Is a_words words c_words)) dy bk fun gu d6=>?_)))
 refine wf (XT (Aa (Rk 0 3 ((tI 13 ((y.room.length:Nat):Int))::(tS 6 none 0 0)::(Is a_words words c_words)) d6 bk fun gz ea=>?_)))
 obtain⟨x14,ex14,H⟩:=Am H
 obtain⟨fd,fg,c6⟩:=L0 ex14
 refine wl fun K hK=>?_
 refine F3 3 1 8 [.int .i64 0] (((y.room.length:Nat):Int)) ea bk rfl rfl (by decide) (by rfl) (by kernel_rfl) (by kernel_rfl) (by rfl) fd fg (by decide) fun az f3 dc (cr:Kn 77 [(p,0)] [(14,.one (.c (.slice az ((((y.room.length:Nat):Int):Int).toNat) ((((y.room.length:Nat):Int):Int).toNat)))),(13,.one (.c (.int .i64 ((y.room.length:Nat):Int)))),(6,.one (.c (.slice none 0 0))),(2,.one (.c (.ptr 0 0))),(1,.one (.c (.slice a_words words.length c_words)))] f3) (bl:Ak ⟨w,h,AA⟩ h [(p,0)] [⟨[.slice s y.room.length u,.slice z y.buses.length aa,.int .i64 y.broken],some 25⟩] [⟨az,(((y.room.length:Nat):Int):Int).toNat,(((y.room.length:Nat):Int):Int).toNat,3,1,List.flatten (List.replicate (((y.room.length:Nat):Int):Int).toNat ([.int .i64 0]:List Value)),0⟩] dc)=>?_
 have cn:Af h x14 (List.flatten (List.replicate (((y.room.length:Nat):Int):Int).toNat ([.int .i64 0]:List Value))):=by rw [c6]; exact Af.replicate (α:=Int) (x:=0) Ad _
 have ct:(((y.room.length:Nat):Int):Int).toNat=x14.length:=by rw [c6]; simp
 rw [ct] at cr bl
 skip
 rw [ct] at cn
 refine hK _ _ ?_
 refine Rk 4 1 ((tS 7 az x14.length x14.length)::(tS 6 none 0 0)::(Is a_words words c_words)) cr bl fun g9 eu=>?_
 refine wf (XT (XT (Aa (Rk 0 1 ((tI 8 0)::(tS 7 az x14.length x14.length)::(tS 6 none 0 0)::(Is a_words words c_words)) eu bl fun ha ev=>?_))))
 refine wf ?_
 have fa:Ak ⟨w,h,AA⟩ h [(p,0)] [⟨GR s y u z aa,some 25⟩] [⟨az,x14.length,x14.length,3,1,List.flatten (List.replicate x14.length ([.int .i64 0]:List Value)),0⟩,⟨none,0,0,3,1,[],0⟩] dc:=bl.nilRow 3 1
 have dt:Af h ([]:List Int) []:=Af.nil
 obtain⟨c9,ch,H⟩:=Am H
 refine An (fun a' w'=>∃ (ae:(List Int)×(List Int))(bn:Option Addr)(bp:Nat)(bm:List Value)(au:Option Addr)(av:Nat)(be:List Value)(ca:Array Value)(a4:Ac),a' = ⟨ca,[]⟩∧Kn 77 [(p,0)] [tS 6 au ae.2.length av] ca∧Ak ⟨w,h,AA⟩ a4 [(p,0)] [⟨GR s y u z aa,some 25⟩] [⟨bn,ae.1.length,bp,3,1,bm,0⟩,⟨au,ae.2.length,av,3,1,be,0⟩] w'∧Ac.le h a4∧Af a4 ae.1 bm∧Af a4 ae.2 be∧c9=.go ae) ?_ ?_
 ·
  refine wp_block ?_
  refine Aq (fun fv a' w'=>∃ (x_v10:List Int)(x_v11:List Int)(x_v12:Int)(f:Option Addr)(g:Nat)(ac:List Value)(l:Option Addr)(m:Nat)(al:List Value)(cb:Array Value)(a5:Ac),a' = ⟨cb,[]⟩∧Kn 77 [(p,0)] (Cr x_v12 f x_v10 g l x_v11 m a_words words c_words) cb∧Ak ⟨w,h,AA⟩ a5 [(p,0)] [⟨GR s y u z aa,some 25⟩] [⟨f,x_v10.length,g,3,1,ac,0⟩,⟨l,x_v11.length,m,3,1,al,0⟩] w'∧Ac.le h a5∧Af a5 x_v10 ac∧Af a5 x_v11 al∧C4 fv y words x14 x_v10 x_v11 x_v12=some c9) n ?_ ?_
  ·
   exact XY x14 ⟨([]:List Int),0,az,x14.length,List.flatten (List.replicate x14.length ([.int .i64 0]:List Value)),none,0,[],_,_,rfl,ev.kp,fa,Ac.le_refl _,cn,dt,ch⟩
  ·
   rintro bd _ ho ⟨x_v10,x_v11,x_v12,f,g,ac,l,m,al,cb,a5,rfl,ew,ay,a7,ab,ar,q⟩
   clear ch
   obtain _ | bd:=bd
   ·
    rw [C4] at q; cases q
   rw [C4] at q
   replace ak:=ak.mono a7
   replace a3:=a3.mono a7
   replace hr_words:=hr_words.mono a7
   refine XT (XT (Aa (Rk 0 5 ((tB 19 (decide (x_v12<((y.buses.length:Nat):Int))))::(Cr x_v12 f x_v10 g l x_v11 m a_words words c_words)) ew ay fun hb b1=>?_)))
   refine wf (wC (decide (x_v12<((y.buses.length:Nat):Int))) b1 (fun bt=>?_) (fun bt=>?_))
   ·
    rw [bt,XW] at q
    refine wp_skip (XT (wp_block (XT (At (by kernel_rfl) ?_))))
    replace ay:=ay.drew
    refine Aw [] [(p,0)] [⟨GR s y u z aa,some 25⟩] ?_
    refine Dr [0,1,2,3,5,6,7] [7,6,5,3,2,1,0] ((tI 29 ((y.room.length:Nat):Int))::(tI 25 (IntKind.i64.wrap ((IntKind.i64.wrap (5*x_v12))+1)))::(tS 22 a_words words.length c_words)::(Cr x_v12 f x_v10 g l x_v11 m a_words words c_words)) b1 ay fun hc ex=>?_
    obtain⟨x26,ex26,q⟩:=Am q
    refine Dl 4 fun K hK=>?_
    refine wc [.c (.slice a_words words.length c_words),.c (.int .i64 (IntKind.i64.wrap ((IntKind.i64.wrap (5*x_v12))+1)))] ex ay (Gq bd ay.has words hr_words (IntKind.i64.wrap ((IntKind.i64.wrap (5*x_v12))+1)) ex26) fun hf ck hp df a1 bc=>?_
    replace ak:=ak.mono a1
    replace a3:=a3.mono a1
    replace hr_words:=hr_words.mono a1
    replace ab:=ab.mono a1
    replace ar:=ar.mono a1
    obtain rfl:=df
    refine⟨.one (.c (.int .i64 x26)),rfl,fun f6 (ey:Kn 77 [(p,0)] ((tI 26 x26)::(tI 29 ((y.room.length:Nat):Int))::(tI 25 (IntKind.i64.wrap ((IntKind.i64.wrap (5*x_v12))+1)))::(tS 22 a_words words.length c_words)::(Cr x_v12 f x_v10 g l x_v11 m a_words words c_words)) f6)=>hK _ _ bc.plOk ?_⟩
    obtain⟨x30,ex30,q⟩:=Am q
    refine RV 8 (fun _ _ _ _ _ h=>h) ey rfl rfl (rfl) rfl (by decide) (by kernel_rfl) (by kernel_rfl) bc.plOk (by rfl) (by rfl) (L3 ex30) fun f7 (ez:Kn 77 [(p,0)] ((tI 30 (Int.tmod x26 ((y.room.length:Nat):Int)))::(tI 26 x26)::(tI 29 ((y.room.length:Nat):Int))::(tI 25 (IntKind.i64.wrap ((IntKind.i64.wrap (5*x_v12))+1)))::(tS 22 a_words words.length c_words)::(Cr x_v12 f x_v10 g l x_v11 m a_words words c_words)) f7)=>?_
    refine Dr [9] [9,8,4,7,6,5,3,2,1,0] ((tI 9 (Int.tmod x26 ((y.room.length:Nat):Int)))::(Cr x_v12 f x_v10 g l x_v11 m a_words words c_words)) ez bc fun hd e0=>?_
    refine AE (by kernel_rfl) (XT (XT (Aa (Rk 0 1 ((tI 10 0)::(tI 9 (Int.tmod x26 ((y.room.length:Nat):Int)))::(Cr x_v12 f x_v10 g l x_v11 m a_words words c_words)) e0 bc fun he e1=>?_))))
    refine wf ?_
    obtain⟨d,ci,q⟩:=Am q
    refine An (fun a' w'=>∃ (cc:Array Value)(an:Ac),a' = ⟨cc,[]⟩∧Kn 77 [(p,0)] ((tI 9 d)::(Cr x_v12 f x_v10 g l x_v11 m a_words words c_words)) cc∧Ak ⟨w,h,AA⟩ an [(p,0)] [⟨GR s y u z aa,some 25⟩] [⟨f,x_v10.length,g,3,1,ac,0⟩,⟨l,x_v11.length,m,3,1,al,0⟩] w'∧Ac.le ck an) ?_ ?_
    ·
     refine wp_block ?_
     refine Aq (fun fw a' w'=>∃ (x_v20:Int)(x_v21:Int)(cd:Array Value)(bh:Ac),a' = ⟨cd,[]⟩∧Kn 77 [(p,0)] ((tI 10 x_v20)::(tI 9 x_v21)::(Cr x_v12 f x_v10 g l x_v11 m a_words words c_words)) cd∧Ak ⟨w,h,AA⟩ bh [(p,0)] [⟨GR s y u z aa,some 25⟩] [⟨f,x_v10.length,g,3,1,ac,0⟩,⟨l,x_v11.length,m,3,1,al,0⟩] w'∧Ac.le ck bh∧C3 fw y x14 x_v10 x_v20 x_v21=some d) bd ?_ ?_
     ·
      exact XY 0 ⟨Int.tmod x26 ((y.room.length:Nat):Int),_,_,rfl,e1.kp,bc,Ac.le_refl _,ci⟩
     ·
      rintro b8 _ hr ⟨x_v20,x_v21,cd,bh,rfl,e2,ap,ax,ah⟩
      clear ci
      obtain _ | b8:=b8
      ·
       rw [C3] at ah; cases ah
      rw [C3] at ah
      replace ak:=ak.mono ax
      replace a3:=a3.mono ax
      replace hr_words:=hr_words.mono ax
      replace ab:=ab.mono ax
      replace ar:=ar.mono ax
      refine XT (XT ?_)
      obtain⟨da,aq,ah⟩:=Am ah
      refine An (fun a' w'=>∃ (ce:Array Value)(bq:Ac),a' = ⟨ce,[]⟩∧Kn 77 [(p,0)] [tI 10 x_v20,tI 9 x_v21,tI 8 x_v12,tS 7 f x_v10.length g,tS 6 l x_v11.length m,tP 2 0 0,tS 1 a_words words.length c_words,tB 47 da] ce∧Ak ⟨w,h,AA⟩ bq [(p,0)] [⟨GR s y u z aa,some 25⟩] [⟨f,x_v10.length,g,3,1,ac,0⟩,⟨l,x_v11.length,m,3,1,al,0⟩] w'∧Ac.le bh bq) ?_ ?_
      ·
       refine At (by kernel_rfl) ?_
       replace ap:=ap.drew
       refine Aw [] [(p,0)] [⟨GR s y u z aa,some 25⟩] ?_
       refine Dr [0,1,2,3,4,5] (dn 5) ((tB 36 (decide (x_v20<((y.room.length:Nat):Int))))::(tI 10 x_v20)::(tI 9 x_v21)::(Cr x_v12 f x_v10 g l x_v11 m a_words words c_words)) e2 ap fun db co=>?_
       rcases Bool.eq_false_or_eq_true (decide (x_v20<((y.room.length:Nat):Int))) with a6 | a6
       ·
        rw [a6,XW] at aq
        have dw:Kn 77 [(p,0)] ((tB 36 true)::(tI 10 x_v20)::(tI 9 x_v21)::(Cr x_v12 f x_v10 g l x_v11 m a_words words c_words)) db:=(co.setB 36 true (by rfl) a6).kp
        refine Dr [6,7] (dn 7) ((tI 38 x_v21)::(tS 37 f x_v10.length g)::(tB 36 true)::(tI 10 x_v20)::(tI 9 x_v21)::(Cr x_v12 f x_v10 g l x_v11 m a_words words c_words)) dw ap fun gn cp=>?_
        obtain⟨x39,ex39,aq⟩:=Am aq
        obtain⟨cy,c2,fp⟩:=Ah ex39
        have e3:=Az cy c2
        obtain⟨gb,fj,di⟩:=A5 (sz:=1) rfl ab fp
        obtain rfl:=fj
        obtain⟨bo,bi⟩:=A7 ap (i:=0) rfl (b0:=0+(x_v21:Int).toNat*1) (Nat.lt_of_lt_of_le (Nat.lt_add_of_pos_right (by decide)) (Ar (sz:=1) rfl ab e3))
        have a8:=ap.addPlc (b:=bo) (o:=0+(x_v21:Int).toNat*1) (cs:=[]) (fun j c hj=>by simp at hj) rfl (by kernel_rfl) (by kernel_rfl)
        have bu:∀ (e:AC) k c,([.int .i64 x39]:List SC)[k]? = some c→(ac)[0+(x_v21:Int).toNat*1+k]? = some (c.den e):=fun e k c hk=>di k _ (Ai hk)
        refine Ax 8 (x_v21) [.int .i64 x39] (fun _ _ _ _ _ h=>h) rfl rfl (Al cp (by kernel_rfl)) rfl (by decide) (by kernel_rfl) (by kernel_rfl) cp ap.plOk (by rfl) (by rfl) (by rfl) bi (by rfl) cy c2 (by kernel_rfl) fun fx (dx:Kn 77 [(p,0),(bo,0+(x_v21:Int).toNat*1)] ((tP 39 1 0)::(tI 38 x_v21)::(tS 37 f x_v10.length g)::(tB 36 true)::(tI 10 x_v20)::(tI 9 x_v21)::(Cr x_v12 f x_v10 g l x_v11 m a_words words c_words)) fx)=>?_
        refine Co [9,10,11,12] [12,11,10,9,8,7,6,5,4,3,2,1,0] [43,42,40,36,10,9,8,7,6,2,1] ((tI 43 x_v21)::(tS 42 s y.room.length u)::(tI 40 x39)::(tB 36 true)::(tI 10 x_v20)::(tI 9 x_v21)::(Cr x_v12 f x_v10 g l x_v11 m a_words words c_words)) (fun _ _ _ _ _ h=>h) dx (A3.peek a8.plOk a8 0 1 rfl rfl bi [.int .i64 x39] (bu _)) (by kernel_rfl) (by rfl) (by kernel_rfl) fun gq cq=>?_
        obtain⟨x44,ex44,aq⟩:=Am aq
        obtain⟨fb,fe,fq⟩:=Ah ex44
        obtain⟨cg,c8,gc,dg,fk,dj⟩:=ak.get (by decide) fq
        obtain rfl:=fk
        have b3:=a8.addPlc (b:=cg) (o:=c8+(x_v21:Int).toNat*1) (cs:=[.int .i64 x44]) (fun j c hj=>dj j _ (Ai hj)) rfl (by kernel_rfl) (by kernel_rfl)
        refine Ax 13 (x_v21) [.int .i64 x44] (fun _ _ _ _ _ h=>h) rfl rfl (Al cq (by kernel_rfl)) rfl (by decide) (by kernel_rfl) (by kernel_rfl) cq (A3.peek a8.plOk a8 0 1 rfl rfl bi [.int .i64 x39] (bu _)) (by rfl) (by rfl) (by rfl) dg (by rfl) fb fe (by kernel_rfl) fun fy (dz:Kn 77 [(p,0),(bo,0+(x_v21:Int).toNat*1),(cg,c8+(x_v21:Int).toNat*1)] ((tP 44 2 0)::(tI 43 x_v21)::(tS 42 s y.room.length u)::(tI 40 x39)::(tB 36 true)::(tI 10 x_v20)::(tI 9 x_v21)::(Cr x_v12 f x_v10 g l x_v11 m a_words words c_words)) fy)=>?_
        refine Co [14,15,16] [16,15,14,13,12,11,10,9,8,7,6,5,4,3,2,1,0] [47,10,9,8,7,6,2,1] ((tB 47 (decide (x39≥x44)))::(tI 10 x_v20)::(tI 9 x_v21)::(Cr x_v12 f x_v10 g l x_v11 m a_words words c_words)) (fun _ _ _ _ _ h=>h) dz (A3.peek b3.plOk b3 0 1 rfl rfl bi [.int .i64 x39] (bu _)) (by kernel_rfl) (by rfl) (by kernel_rfl) fun gr d0=>?_
        refine AE (by kernel_rfl) ?_
        obtain rfl:=XZ aq
        exact XY _ ⟨_,rfl,(d0.keep [10,9,8,7,6,2,1,47] (by rfl)).cut 1 (by kernel_rfl),b3.cutPl 1 (by kernel_rfl),Ac.le_refl _⟩
       ·
        rw [a6,XV] at aq
        have d1:Kn 77 [(p,0)] ((tB 36 false)::(tI 10 x_v20)::(tI 9 x_v21)::(Cr x_v12 f x_v10 g l x_v11 m a_words words c_words)) db:=(co.setB 36 false (by rfl) a6).kp
        refine Dr [6,7,8,9,10,11,12,13,14,15,16] (dn 16) ((tB 47 false)::(tI 10 x_v20)::(tI 9 x_v21)::(Cr x_v12 f x_v10 g l x_v11 m a_words words c_words)) d1 ap fun gs d2=>?_
        refine AE (by kernel_rfl) ?_
        obtain rfl:=XZ aq
        exact XY _ ⟨_,rfl,d2.kp,ap,Ac.le_refl _⟩
      ·
       rintro _ hg ⟨ce,bq,rfl,bx,a9,cu⟩
       refine wC (da) bx (fun br=>?_) (fun br=>?_)
       ·
        rw [AW br] at ah
        refine wp_skip (XT (wp_block (Aa (Rk 0 5 ((tI 54 ((y.room.length:Nat):Int))::(tI 51 (IntKind.i64.wrap (x_v21+1)))::(tI 10 x_v20)::(Cr x_v12 f x_v10 g l x_v11 m a_words words c_words)) bx a9 fun gv d3=>?_))))
        obtain⟨x55,ex55,ah⟩:=Am ah
        refine RU 5 d3 rfl rfl (rfl) rfl (by decide) (by rfl) (by rfl) (L3 ex55) fun fz (d4:Kn 77 [(p,0)] ((tI 55 (Int.tmod (IntKind.i64.wrap (x_v21+1)) ((y.room.length:Nat):Int)))::(tI 54 ((y.room.length:Nat):Int))::(tI 51 (IntKind.i64.wrap (x_v21+1)))::(tI 10 x_v20)::(Cr x_v12 f x_v10 g l x_v11 m a_words words c_words)) fz)=>?_
        refine Rk 6 1 ((tI 9 (Int.tmod (IntKind.i64.wrap (x_v21+1)) ((y.room.length:Nat):Int)))::(tI 10 x_v20)::(Cr x_v12 f x_v10 g l x_v11 m a_words words c_words)) d4 a9 fun gw d5=>?_
        refine wf (Aa (Rk 0 3 ((tI 10 (IntKind.i64.wrap (x_v20+1)))::(tI 9 (Int.tmod (IntKind.i64.wrap (x_v21+1)) ((y.room.length:Nat):Int)))::(Cr x_v12 f x_v10 g l x_v11 m a_words words c_words)) d5 a9 fun gx d7=>?_))
        refine wf ?_
        exact XY b8 ⟨Nat.lt_succ_self _,XY (IntKind.i64.wrap (x_v20+1)) ⟨Int.tmod (IntKind.i64.wrap (x_v21+1)) ((y.room.length:Nat):Int),_,_,rfl,d7.kp,a9,XU ax cu,ah⟩⟩
       ·
        rw [AX br] at ah
        refine wp_exit ?_
        obtain rfl:=XZ ah
        exact XY _ ⟨_,rfl,bx.kp,a9,XU ax cu⟩
    ·
     rintro _ hi ⟨cc,an,rfl,d8,a2,bj⟩
     replace ak:=ak.mono bj
     replace ab:=ab.mono bj
     replace ar:=ar.mono bj
     refine XT (XT (At (by kernel_rfl) ?_))
     replace a2:=a2.drew
     refine Aw [] [(p,0)] [⟨GR s y u z aa,some 25⟩] ?_
     refine Dr [0,1] [1,0] ((tI 57 d)::(tS 56 f x_v10.length g)::(tI 9 d)::(Cr x_v12 f x_v10 g l x_v11 m a_words words c_words)) d8 a2 fun gy d9=>?_
     obtain⟨x58,ex58,q⟩:=Am q
     obtain⟨cz,c3,fr⟩:=Ah ex58
     have e4:=Az cz c3
     obtain⟨gd,fl,dk⟩:=A5 (sz:=1) rfl ab fr
     obtain rfl:=fl
     obtain⟨ad,aw⟩:=A7 a2 (i:=0) rfl (b0:=0+(d:Int).toNat*1) (Nat.lt_of_lt_of_le (Nat.lt_add_of_pos_right (by decide)) (Ar (sz:=1) rfl ab e4))
     have ba:=a2.addPlc (b:=ad) (o:=0+(d:Int).toNat*1) (cs:=[]) (fun j c hj=>by simp at hj) rfl (by kernel_rfl) (by kernel_rfl)
     have a0:∀ (e:AC) k c,([.int .i64 x58]:List SC)[k]? = some c→(ac)[0+(d:Int).toNat*1+k]? = some (c.den e):=fun e k c hk=>dk k _ (Ai hk)
     refine Ax 2 (d) [.int .i64 x58] (fun _ _ _ _ _ h=>h) rfl rfl (rfl) rfl (by decide) (by kernel_rfl) (by kernel_rfl) d9 a2.plOk (by rfl) (by rfl) (by rfl) aw (by rfl) cz c3 (by kernel_rfl) fun f0 (eb:Kn 77 [(p,0),(ad,0+(d:Int).toNat*1)] ((tP 58 1 0)::(tI 57 d)::(tS 56 f x_v10.length g)::(tI 9 d)::(Cr x_v12 f x_v10 g l x_v11 m a_words words c_words)) f0)=>?_
     refine Co [3,4,5,6] [6,5,4,3,2,1,0] [62,61,59,9,8,7,6,2,1] ((tI 62 d)::(tS 61 s y.room.length u)::(tI 59 x58)::(tI 9 d)::(Cr x_v12 f x_v10 g l x_v11 m a_words words c_words)) (fun _ _ _ _ _ h=>h) eb (A3.peek ba.plOk ba 0 1 rfl rfl aw [.int .i64 x58] (a0 _)) (by kernel_rfl) (by rfl) (by kernel_rfl) fun g0 ec=>?_
     obtain⟨x63,ex63,q⟩:=Am q
     obtain⟨fc,ff,fs⟩:=Ah ex63
     obtain⟨ag,ai,gf,dh,fm,dl⟩:=ak.get (by decide) fs
     obtain rfl:=fm
     have ao:=ba.addPlc (b:=ag) (o:=ai+(d:Int).toNat*1) (cs:=[.int .i64 x63]) (fun j c hj=>dl j _ (Ai hj)) rfl (by kernel_rfl) (by kernel_rfl)
     refine Ax 7 (d) [.int .i64 x63] (fun _ _ _ _ _ h=>h) rfl rfl (rfl) rfl (by decide) (by kernel_rfl) (by kernel_rfl) ec (A3.peek ba.plOk ba 0 1 rfl rfl aw [.int .i64 x58] (a0 _)) (by rfl) (by rfl) (by rfl) dh (by rfl) fc ff (by kernel_rfl) fun f1 (ed:Kn 77 [(p,0),(ad,0+(d:Int).toNat*1),(ag,ai+(d:Int).toNat*1)] ((tP 63 2 0)::(tI 62 d)::(tS 61 s y.room.length u)::(tI 59 x58)::(tI 9 d)::(Cr x_v12 f x_v10 g l x_v11 m a_words words c_words)) f1)=>?_
     refine Co [8,9] [9,8,7,6,5,4,3,2,1,0] [65,9,8,7,6,2,1] ((tB 65 (decide (x58≥x63)))::(tI 9 d)::(Cr x_v12 f x_v10 g l x_v11 m a_words words c_words)) (fun _ _ _ _ _ h=>h) ed (A3.peek ao.plOk ao 0 1 rfl rfl aw [.int .i64 x58] (a0 _)) (by kernel_rfl) (by rfl) (by kernel_rfl) fun g1 bz=>?_
     refine AE (by kernel_rfl) (wC (decide (x58≥x63)) bz (fun bs=>?_) (fun bs=>?_))
     ·
      rw [bs,XW] at q
      refine XT (Aa (Cb 0 2 [5,4] [tB 5 false,tS 4 none 0 0] bz (A3.peek ao.plOk ao 0 1 rfl rfl aw [.int .i64 x58] (a0 _)) (by kernel_rfl) fun g2 ee=>?_))
      refine wf (wp_ret ?_)
      obtain rfl:=XZ q
      obtain rfl:=XZ H
      exact rt (.tup [.c (.slice none 0 0),.c (.bool false)]) ee ao ⟨_,_,rfl,⟨_,_,rfl,Av.nil⟩,rfl⟩
     ·
      rw [bs,XV] at q
      refine wp_skip (XT (Aa (Cb 0 2 [67,66,9,8,7,6,2,1] ((tI 67 d)::(tS 66 f x_v10.length g)::(tI 9 d)::(Cr x_v12 f x_v10 g l x_v11 m a_words words c_words)) bz (A3.peek ao.plOk ao 0 1 rfl rfl aw [.int .i64 x58] (a0 _)) (by kernel_rfl) fun g3 ef=>?_)))
      obtain⟨x68,ex68,q⟩:=Am q
      obtain⟨c0,c4,ft⟩:=Ah ex68
      have e5:=Az c0 c4
      obtain⟨gg,fn,dm⟩:=A5 (sz:=1) rfl ab ft
      obtain rfl:=fn
      obtain⟨aj,cl⟩:=A7 ao (i:=0) rfl (b0:=0+(d:Int).toNat*1) (Nat.lt_of_lt_of_le (Nat.lt_add_of_pos_right (by decide)) (Ar (sz:=1) rfl ab e5))
      have bb:=ao.addPlc (b:=aj) (o:=0+(d:Int).toNat*1) (cs:=[]) (fun j c hj=>by simp at hj) rfl (by kernel_rfl) (by kernel_rfl)
      have dp:∀ (e:AC) k c,([.int .i64 x68]:List SC)[k]? = some c→(ac)[0+(d:Int).toNat*1+k]? = some (c.den e):=fun e k c hk=>dm k _ (Ai hk)
      refine A6 2 (d) rfl rfl (rfl) rfl (by decide) ef (by rfl) (by rfl) (by rfl) cl (by rfl) c0 c4 (by kernel_rfl) fun f2 (eg:Kn 77 [(p,0),(ad,0+(d:Int).toNat*1),(ag,ai+(d:Int).toNat*1),(aj,0+(d:Int).toNat*1)] ((tP 68 3 0)::(tI 67 d)::(tS 66 f x_v10.length g)::(tI 9 d)::(Cr x_v12 f x_v10 g l x_v11 m a_words words c_words)) f2)=>?_
      refine Cb 3 2 [70,67,66,9,8,7,6,2,1] ((tI 70 (IntKind.i64.wrap (x68+1)))::(tI 67 d)::(tS 66 f x_v10.length g)::(tI 9 d)::(Cr x_v12 f x_v10 g l x_v11 m a_words words c_words)) eg (A3.peek (A3.peek bb.plOk bb 0 1 rfl rfl aw [.int .i64 x58] (a0 _)) bb 0 3 rfl rfl cl [.int .i64 x68] (dp _)) (by kernel_rfl) fun g4 eh=>?_
      obtain⟨x71,ex71,q⟩:=Am q
      obtain⟨c1,c5,fu⟩:=Ah ex71
      have b2:=Az c1 c5
      obtain⟨gh,fo,dq⟩:=A5 (sz:=1) rfl ab fu
      obtain rfl:=fo
      obtain⟨am,cm⟩:=A7 bb (i:=0) rfl (b0:=0+(d:Int).toNat*1) (Nat.lt_of_lt_of_le (Nat.lt_add_of_pos_right (by decide)) (Ar (sz:=1) rfl ab b2))
      have e8:=bb.addPlc (b:=am) (o:=0+(d:Int).toNat*1) (cs:=[]) (fun j c hj=>by simp at hj) rfl (by kernel_rfl) (by kernel_rfl)
      have gi:∀ (e:AC) k c,([.int .i64 x71]:List SC)[k]? = some c→(ac)[0+(d:Int).toNat*1+k]? = some (c.den e):=fun e k c hk=>dq k _ (Ai hk)
      refine A6 5 (d) rfl rfl (rfl) rfl (by decide) eh (by rfl) (by rfl) (by rfl) cm (by rfl) c1 c5 (by kernel_rfl) fun b9 (ei:Kn 77 (Qs p ad d ag ai aj am) ((tP 71 4 0)::(tI 70 (IntKind.i64.wrap (x68+1)))::(tI 67 d)::(tS 66 f x_v10.length g)::(tI 9 d)::(Cr x_v12 f x_v10 g l x_v11 m a_words words c_words)) b9)=>?_
      obtain⟨af,dd,q⟩:=Am q
      obtain⟨gl,gm,c7⟩:=B9 dd
      refine wl fun K hK=>?_
      refine AS 0 4 0 (0+(d:Int).toNat*1) (.c (.int .i64 (IntKind.i64.wrap (x68+1)))) ei e8 rfl rfl (by rfl) (by rfl) rfl rfl cm rfl (by kernel_rfl) (Ar (sz:=1) rfl ab b2) fun f9 ej e9=>?_
      have dr:Af an af (ac.take (0+(d:Int).toNat*1+0)++([.int .i64 (IntKind.i64.wrap (x68+1))]:List Value)++ac.drop (0+(d:Int).toNat*1+0+1)):=by rw [c7]; exact Cg (sz:=1) rfl ab b2 (Ad:rep an (IntKind.i64.wrap (x68+1):Int) _)
      have cx:x_v10.length=af.length:=by rw [c7]; simp
      have ek:Kn 77 [(p,0),(ad,0+(d:Int).toNat*1),(ag,ai+(d:Int).toNat*1),(aj,0+(d:Int).toNat*1),(am,0+(d:Int).toNat*1)] [(71,.one (.c (.ptr 4 0))),(70,.one (.c (.int .i64 (IntKind.i64.wrap (x68+1))))),(67,.one (.c (.int .i64 d))),(66,.one (.c (.slice f af.length g))),(9,.one (.c (.int .i64 d))),(8,.one (.c (.int .i64 x_v12))),(7,.one (.c (.slice f af.length g))),(6,.one (.c (.slice l x_v11.length m))),(2,.one (.c (.ptr 0 0))),(1,.one (.c (.slice a_words words.length c_words)))] b9:=by rw [← cx]; exact ej
      have cv:Ak ⟨w,h,AA⟩ an [(p,0),(ad,0+(d:Int).toNat*1),(ag,ai+(d:Int).toNat*1),(aj,0+(d:Int).toNat*1),(am,0+(d:Int).toNat*1)] [⟨[.slice s y.room.length u,.slice z y.buses.length aa,.int .i64 y.broken],some 25⟩,⟨[],none⟩,⟨[.int .i64 x63],none⟩,⟨[],none⟩,⟨[],none⟩] [⟨f,af.length,g,3,1,ac.take (0+(d:Int).toNat*1+0)++([.int .i64 (IntKind.i64.wrap (x68+1))]:List Value)++ac.drop (0+(d:Int).toNat*1+0+1),0⟩,⟨l,x_v11.length,m,3,1,al,0⟩] f9:=by rw [← cx]; exact e9
      refine hK _ _ ?_
      have el:Kn 77 (Qs p ad d ag ai aj am) ((tI 9 d)::(tI 8 x_v12)::(tS 7 f af.length g)::(tS 6 l x_v11.length m)::(Is a_words words c_words)) b9:=ek.kp
      refine wf (Aa (Rk 0 2 ((tI 73 d)::(tS 72 l x_v11.length m)::(tI 8 x_v12)::(tS 7 f af.length g)::(Is a_words words c_words)) el cv fun g5 em=>?_))
      refine wl fun K hK=>?_
      refine wS 3 1 [.int .i64 d] em cv fun cf f4 hl (en:Kn 77 (Qs p ad d ag ai aj am) ((tS 74 cf 1 1)::(tI 73 d)::(tS 72 l x_v11.length m)::(tI 8 x_v12)::(tS 7 f af.length g)::(Is a_words words c_words)) f4) cw=>?_
      have bv:Af an ([d]:List Int) ([.int .i64 d]:List Value):=⟨_,_,rfl,(Ad:rep an (d:Int) _),rfl⟩
      refine hK _ _ ?_
      obtain⟨x75,ex75,q⟩:=Am q
      obtain⟨b7,e6⟩:=Bj ex75
      refine wl fun K hK=>?_
      refine AU 1 8 1 _ (x75.length) _ ([.int .i64 d]:List Value) en cw rfl rfl (by decide) rfl (by rfl) (by kernel_rfl) (by rfl) (by rfl) (Af.len bv) (cw.rowCell (i:=2) rfl) bv.one (by rw [b7]; simp <;> omega) (by rw [b7]; exact e6) (by decide) fun bf bg de f5 hn du (eo:Kn 77 (Qs p ad d ag ai aj am) ((tS 75 bf x75.length bg)::(tS 74 cf 1 1)::(tI 73 d)::(tS 72 l x_v11.length m)::(tI 8 x_v12)::(tS 7 f af.length g)::(Is a_words words c_words)) f5) b4=>?_
      have ds:Af an x75 (al++([.int .i64 d]:List Value)):=by rw [b7]; exact Af.append ar bv
      obtain rfl:de=0:=Nat.le_zero.1 du
      refine hK _ _ ?_
      refine Rk 4 1 ((tS 6 bf x75.length bg)::(tI 8 x_v12)::(tS 7 f af.length g)::(Is a_words words c_words)) eo b4 fun g6 ep=>?_
      refine wf (Aa (Rk 0 3 ((tI 8 (IntKind.i64.wrap (x_v12+1)))::(tS 6 bf x75.length bg)::(tS 7 f af.length g)::(Is a_words words c_words)) ep b4 fun g7 er=>?_))
      refine wf ?_
      exact XY bd ⟨Nat.lt_succ_self _,XY af ⟨x75,IntKind.i64.wrap (x_v12+1),f,g,ac.take (0+(d:Int).toNat*1+0)++([.int .i64 (IntKind.i64.wrap (x68+1))]:List Value)++ac.drop (0+(d:Int).toNat*1+0+1),bf,bg,al++([.int .i64 d]:List Value),_,_,rfl,(er.keep [8,7,6,2,1] (by rfl)).cut 1 (by kernel_rfl),(b4.cutRw 2).cutPl 1 (by kernel_rfl),XU a7 (XU a1 bj),dr,ds,q⟩⟩
   ·
    rw [bt,XV] at q
    refine wp_exit ?_
    obtain rfl:=XZ q
    exact XY (x_v10,x_v11) ⟨f,g,ac,l,m,al,_,_,rfl,b1.kp,ay,a7,ab,ar,rfl⟩
 ·
  rintro _ ga ⟨ae,bn,bp,bm,au,av,be,ca,a4,rfl,es,b5,gk,gj,bw,rfl⟩
  rw [Ex.bind_go] at H
  refine XT (Aa (Rk 0 3 [tB 5 true,tS 4 au ae.2.length av] es b5 fun g8 et=>?_))
  refine wf (wp_ret ?_)
  obtain⟨cj,e7,fi,b6⟩:=b5.settle (i:=1) rfl
  replace bw:=bw.mono e7
  replace b6:Ak ⟨w,h,AA⟩ cj [(p,0)] [⟨GR s y u z aa,some 25⟩] [⟨bn,ae.1.length,bp,3,1,bm,0⟩,⟨au,ae.2.length,av,3,1,be,(be:List Value).length⟩] ga:=b6
  have fh:Av cj au av ae.2:=⟨_,bw,fi,b5.rowCap (i:=1) rfl⟩
  obtain rfl:=XZ H
  exact rt (.tup [.c (.slice au ae.2.length av),.c (.bool true)]) et b6 ⟨_,_,rfl,⟨_,_,rfl,fh⟩,rfl⟩
set_option maxRecDepth 100000 in
set_option maxHeartbeats 4000000 in
theorem Ou (n:Nat) {h:Ac} {w:World} (hh:CG h w) (order:List Int) {a_order:Option Addr} {c_order:Nat} (hr_order:Av h a_order c_order order) (bus:Int) {r:Int} (H:G8 n order bus=some r) :
  Calls Try.prog 29 #[.slice a_order order.length c_order,.int .i64 bus] w (CS (fun h v=>v=.int .i64 r) h w):=by
 refine enter 19 [.c (.slice a_order order.length c_order),.c (.int .i64 bus)] Try.func29 rfl rfl rfl rfl fun t hk=>?_
 have hm:=Ak.begin h w hh
 unfold G8 at H
 refine XT (Aa (Rk 0 1 [tS 0 a_order order.length c_order,tI 1 bus] hk hm fun ay ag=>?_))
 refine wf (XT (XT (Aa (Rk 0 1 [tI 5 0,tS 0 a_order order.length c_order,tI 1 bus] ag hm fun a1 aj=>?_))))
 refine wf ?_
 obtain⟨ab,y,H⟩:=Am H
 refine An (fun a' w'=>∃ (ac:Unit)(u:Array Value)(g:Ac),a' = ⟨u,[]⟩∧Kn 19 [] [] u∧Ak ⟨w,h,AA⟩ g [] [] [] w'∧Ac.le h g∧ab=.go ac) ?_ ?_
 ·
  refine wp_block ?_
  refine Aq (fun au a' w'=>∃ (x_v10:Int)(s:Array Value)(f:Ac),a' = ⟨s,[]⟩∧Kn 19 [] [tI 5 x_v10,tS 0 a_order order.length c_order,tI 1 bus] s∧Ak ⟨w,h,AA⟩ f [] [] [] w'∧Ac.le h f∧CR au order bus x_v10=some ab) n ?_ ?_
  ·
   exact XY 0 ⟨_,_,rfl,aj.kp,hm,Ac.le_refl _,y⟩
  ·
   rintro q _ a6 ⟨x_v10,s,f,rfl,af,e,p,a⟩
   clear y
   obtain _ | q:=q
   ·
    rw [CR] at a; cases a
   rw [CR] at a
   replace hr_order:=hr_order.mono p
   refine XT (XT (Aa (Rk 0 4 [tB 9 (decide (x_v10<((order.length:Nat):Int))),tI 5 x_v10,tS 0 a_order order.length c_order,tI 1 bus] af e fun az l=>?_)))
   refine wf (wC (decide (x_v10<((order.length:Nat):Int))) l (fun i=>?_) (fun i=>?_))
   ·
    rw [i,XW] at a
    refine wp_skip (XT (wp_block (XT (Aa (Rk 0 2 [tI 13 x_v10,tS 12 a_order order.length c_order,tI 5 x_v10,tS 0 a_order order.length c_order,tI 1 bus] l e fun a0 ah=>?_)))))
    obtain⟨x14,ex14,a⟩:=Am a
    obtain⟨ao,ap,ar⟩:=Ah ex14
    obtain⟨x,aa,aw,ad,aq,ae⟩:=hr_order.get (by decide) ar
    obtain rfl:=aq
    have d:=e.addPlc (b:=x) (o:=aa+(x_v10:Int).toNat*1) (cs:=[.int .i64 x14]) (fun j c hj=>ae j _ (Ai hj)) rfl (by kernel_rfl) (by kernel_rfl)
    refine A6 2 (x_v10) rfl rfl (rfl) rfl (by decide) ah (by rfl) (by rfl) (by rfl) ad (by rfl) ao ap (by kernel_rfl) fun av (ai:Kn 19 [(x,aa+(x_v10:Int).toNat*1)] [tP 14 0 0,tI 13 x_v10,tS 12 a_order order.length c_order,tI 5 x_v10,tS 0 a_order order.length c_order,tI 1 bus] av)=>?_
    refine Rk 3 3 [tB 17 (x14 == bus),tI 5 x_v10,tS 0 a_order order.length c_order,tI 1 bus] ai d fun a2 m=>?_
    refine wf (wC ((x14 == bus)) m (fun k=>?_) (fun k=>?_))
    ·
     rw [k,XW] at a
     refine XT (Aa (Rk 0 2 [tI 4 x_v10] m d fun a3 ak=>?_))
     refine wf (wp_ret ?_)
     obtain rfl:=XZ a
     obtain rfl:=XZ H
     exact rt (.one (.c (.int .i64 x_v10))) ak d rfl
    ·
     rw [k,XV] at a
     refine wp_skip (Aa (Rk 0 3 [tI 5 (IntKind.i64.wrap (x_v10+1)),tS 0 a_order order.length c_order,tI 1 bus] m d fun a4 al=>?_))
     refine wf ?_
     exact XY q ⟨Nat.lt_succ_self _,XY (IntKind.i64.wrap (x_v10+1)) ⟨_,_,rfl,(al.keep [5,0,1] (by rfl)).cut 0 (by kernel_rfl),d.cutPl 0 (by kernel_rfl),p,a⟩⟩
   ·
    rw [i,XV] at a
    refine wp_exit ?_
    obtain rfl:=XZ a
    exact XY () ⟨_,_,rfl,l.kp,e,p,rfl⟩
 ·
  rintro _ a7 ⟨ac,u,g,rfl,am,z,ax,rfl⟩
  rw [Ex.bind_go] at H
  refine XT (Aa (Rk 0 1 [tI 4 (-1)] am z fun a5 an=>?_))
  refine wf (wp_ret ?_)
  obtain rfl:=XZ H
  exact rt (.one (.c (.int .i64 (-1)))) an z rfl
abbrev Ov (l:Option Addr) (y:Aj) (m:Nat) (g:Option Addr) (x47:List B5) (f:Nat):List SC:=[.slice l y.room.length m,.slice g x47.length f,.int .i64 y.broken]
abbrev EP (l:Option Addr) (y:Aj) (m:Nat) (g:Option Addr) (f:Nat):List SC:=[.slice l y.room.length m,.slice g y.buses.length f,.int .i64 y.broken]
abbrev Na (ax:Option Addr) (x95:Aj) (az:Nat) (ay:Option Addr) (a0:Nat):List SC:=[.slice ax x95.room.length az,.slice ay x95.buses.length a0,.int .i64 x95.broken]
abbrev R4 (bl:Option Addr) (x107:Aj) (bn:Nat) (bm:Option Addr) (bo:Nat):List SC:=[.slice bl x107.room.length bn,.slice bm x107.buses.length bo,.int .i64 x107.broken]
abbrev K7 (l:Option Addr) (y:Aj) (m:Nat) (g:Option Addr) (f:Nat) (x47:List B5):List Cf:=[⟨EP l y m g f,some 25⟩,⟨Ov l y m g x47 f,some 25⟩]
abbrev DL (y:Aj) (d:Option Addr) (e:(Bool×(List Int))) (a:Nat):TM:=[tP 9 1 0,tI 8 (IntKind.i64.wrap (((y.buses.length:Nat):Int)-1)),tS 5 d e.2.length a,tP 2 0 0]
abbrev Nb (af:Option Addr) (ae:List Int) (ag:Nat) (x:Option Addr) (q:List Int) (z:Nat) (y:Aj) (d:Option Addr) (e:(Bool×(List Int))) (a:Nat):TM:=[tS 11 af ae.length ag,tS 10 x q.length z,tP 9 1 0,tI 8 (IntKind.i64.wrap (((y.buses.length:Nat):Int)-1)),tS 5 d e.2.length a]
abbrev Ow (y:Aj) (d:Option Addr) (e:(Bool×(List Int))) (a:Nat) (a_words:Option Addr) (words:List (IK .u16)) (c_words:Nat):TM:=[tI 8 (IntKind.i64.wrap (((y.buses.length:Nat):Int)-1)),tS 5 d e.2.length a,tP 2 0 0,tS 1 a_words words.length c_words]
abbrev Kh (aj:Option Addr) (x114:(List Int)×Int) (ak:Nat) (ac:Option Addr) (x102:(List Int)×Int) (ad:Nat):TM:=[tS 18 aj x114.1.length ak,tS 16 ac x102.1.length ad]
set_option maxRecDepth 100000 in
set_option maxHeartbeats 4000000 in
theorem Lv (n:Nat) {h:Ac} {w:World} (hh:CG h w) (y:Aj) {cs_y:List Value} (hx_y:rep h y cs_y) (words:List (IK .u16)) {a_words:Option Addr} {c_words:Nat} (hr_words:Av h a_words c_words words) {r:Bool} (H:Fy n y words=some r) :
  Calls Try.prog 6 #[.agg cs_y.toArray,.slice a_words words.length c_words] w (CS (fun h v=>v=.bool r) h w):=by
 obtain⟨_,_,rfl,⟨l,m,rfl,ah⟩,⟨_,_,rfl,⟨g,f,rfl,ai⟩,rfl⟩⟩:=hx_y
 refine enter 137 [.agg (EP l y m g f),.c (.slice a_words words.length c_words)] Try.func6 rfl rfl rfl rfl fun t hk=>?_
 have hm:=Ak.begin h w hh
 unfold Fy at H
 refine XT (Aa (wl fun K hK=>?_))
 refine wb (.agg (EP l y m g f)) hk hm fun k ls o9 (g9:Kn 137 [(k,0)] [tP 2 0 0,tA 0 (EP l y m g f),tS 1 a_words words.length c_words] ls) cg=>hK _ _ ?_
 refine Rk 1 1 [tP 2 0 0,tS 1 a_words words.length c_words] g9 cg fun mj hi=>?_
 refine wf (XT (Aa (Rk 0 2 [tB 6 false,tS 5 none 0 0,tP 2 0 0,tS 1 a_words words.length c_words] hi cg fun mn hp=>?_)))
 refine wf (XT (XT (Aa (Rk 0 1 [tA 21 (EP l y m g f),tB 6 false,tS 5 none 0 0,tP 2 0 0,tS 1 a_words words.length c_words] hp cg fun mo hs=>?_))))
 obtain⟨x22,ex22,H⟩:=Am H
 refine wl fun K hK=>?_
 refine wc [.agg (EP l y m g f)] hs cg (Oo n cg.has y ((Ab (Ae ah) (Ab (Ae ai) Ad)):rep h y _) ex22) fun n2 ff oj ga eb c9=>?_
 replace ah:=ah.mono eb
 replace ai:=ai.mono eb
 replace hr_words:=hr_words.mono eb
 obtain rfl:=ga
 refine⟨.one (.c (.bool x22)),rfl,fun f1 (h4:Kn 137 [(k,0)] [tB 22 x22,tA 21 (EP l y m g f),tB 6 false,tS 5 none 0 0,tP 2 0 0,tS 1 a_words words.length c_words] f1)=>hK _ _ ?_⟩
 have d5:Kn 137 [(k,0)] [tB 22 x22,tB 6 false,tS 5 none 0 0,tP 2 0 0,tS 1 a_words words.length c_words] f1:=h4.kp
 refine wf ?_
 obtain⟨e,b1,H⟩:=Am H
 refine An (fun a' w'=>∃ (d:Option Addr)(a:Nat)(e5:Array Value)(b9:Ac),a' = ⟨e5,[]⟩∧Kn 137 [(k,0)] [tB 6 e.1,tS 5 d e.2.length a,tP 2 0 0,tS 1 a_words words.length c_words] e5∧Ak ⟨w,h,AA⟩ b9 [(k,0)] [⟨EP l y m g f,some 25⟩] [] w'∧Ac.le ff b9∧Av b9 d a e.2) ?_ ?_
 ·
  refine wC (x22) d5 (fun dt=>?_) (fun dt=>?_)
  ·
   rw [AW dt] at b1
   refine Aa (Rk 0 2 [tS 25 a_words words.length c_words,tA 24 (EP l y m g f),tP 2 0 0,tS 1 a_words words.length c_words] d5 c9 fun m8 ip=>?_)
   obtain⟨x26,ex26,b1⟩:=Am b1
   refine wl fun K hK=>?_
   refine wc [.agg (EP l y m g f),.c (.slice a_words words.length c_words)] ip c9 (MZ n c9.has y ((Ab (Ae ah) (Ab (Ae ai) Ad)):rep ff y _) words hr_words ex26) fun n6 l4 ox gh j0 fs=>?_
   obtain⟨_,_,rfl,⟨ct,c0,rfl,kk⟩,rfl⟩:=gh
   refine⟨.tup [.c (.slice ct x26.1.length c0),.c (.bool x26.2)],rfl,fun ln (i7:Kn 137 [(k,0)] [(26,.tup [.c (.slice ct x26.1.length c0),.c (.bool x26.2)]),tS 25 a_words words.length c_words,tA 24 (EP l y m g f),tP 2 0 0,tS 1 a_words words.length c_words] ln)=>hK _ _ ?_⟩
   refine Rk 3 5 [tB 6 x26.2,tS 5 ct x26.1.length c0,tP 2 0 0,tS 1 a_words words.length c_words] i7 fs fun nk jb=>?_
   refine wf ?_
   obtain rfl:=XZ b1
   exact XY ct ⟨c0,_,_,rfl,jb.kp,fs,j0,kk⟩
  ·
   rw [AX dt] at b1
   refine wp_skip ?_
   obtain rfl:=XZ b1
   exact XY none ⟨0,_,_,rfl,d5.kp,c9,Ac.le_refl _,Av.nil⟩
 ·
  rintro _ o2 ⟨d,a,e5,b9,rfl,je,b5,ec,aw⟩
  replace ah:=ah.mono ec
  replace ai:=ai.mono ec
  replace hr_words:=hr_words.mono ec
  refine XT (XT (Aa (Rk 0 4 [tI 7 ((y.buses.length:Nat):Int),tB 6 e.1,tS 5 d e.2.length a,tP 2 0 0,tS 1 a_words words.length c_words] je b5 fun nt jm=>?_)))
  refine wf (XT ?_)
  obtain⟨e0,c2,H⟩:=Am H
  refine An (fun a' w'=>∃ (e9:Array Value)(cb:Ac),a' = ⟨e9,[]⟩∧Kn 137 [(k,0)] [tS 5 d e.2.length a,tP 2 0 0,tS 1 a_words words.length c_words,tB 37 e0] e9∧Ak ⟨w,h,AA⟩ cb [(k,0)] [⟨EP l y m g f,some 25⟩] [] w'∧Ac.le b9 cb) ?_ ?_
  ·
   refine Aa (Rk 0 3 [tB 34 (!e.1),tI 7 ((y.buses.length:Nat):Int),tS 5 d e.2.length a,tP 2 0 0,tS 1 a_words words.length c_words] jm b5 fun f3 fk=>?_)
   rcases Bool.eq_false_or_eq_true ((!e.1)) with cd | cd
   ·
    rw [cd,XW] at c2
    have jn:Kn 137 [(k,0)] [tB 34 true,tI 7 ((y.buses.length:Nat):Int),tS 5 d e.2.length a,tP 2 0 0,tS 1 a_words words.length c_words] f3:=(fk.setB 34 true (by rfl) cd).kp
    refine Rk 3 3 [tB 37 true,tS 5 d e.2.length a,tP 2 0 0,tS 1 a_words words.length c_words] jn b5 fun nu jo=>?_
    refine wf ?_
    obtain rfl:=XZ c2
    exact XY _ ⟨_,rfl,jo.kp,b5,Ac.le_refl _⟩
   ·
    rw [cd,XV] at c2
    have jp:Kn 137 [(k,0)] [tB 34 false,tI 7 ((y.buses.length:Nat):Int),tS 5 d e.2.length a,tP 2 0 0,tS 1 a_words words.length c_words] f3:=(fk.setB 34 false (by rfl) cd).kp
    refine Rk 3 3 [tB 37 (((y.buses.length:Nat):Int) == 0),tS 5 d e.2.length a,tP 2 0 0,tS 1 a_words words.length c_words] jp b5 fun nv jq=>?_
    refine wf ?_
    obtain rfl:=XZ c2
    exact XY _ ⟨_,rfl,jq.kp,b5,Ac.le_refl _⟩
  ·
   rintro _ o6 ⟨e9,cb,rfl,ea,ck,c6⟩
   replace ah:=ah.mono c6
   replace ai:=ai.mono c6
   replace hr_words:=hr_words.mono c6
   replace aw:=aw.mono c6
   refine wC (e0) ea (fun dx=>?_) (fun dx=>?_)
   ·
    rw [AW dx] at H
    refine XT (Aa ?_)
    obtain⟨x38,ex38,H⟩:=Am H
    refine wl fun K hK=>?_
    refine wc [] ea ck (E6 n ck.has  ex38) fun oe l9 o7 gn me fv=>?_
    obtain rfl:=gn
    refine⟨.one (.c (.bool x38)),rfl,fun lr (jr:Kn 137 [(k,0)] [tB 38 x38,tS 5 d e.2.length a,tP 2 0 0,tS 1 a_words words.length c_words,tB 37 e0] lr)=>hK _ _ ?_⟩
    refine Rk 1 1 [tB 4 x38] jr fv fun nw js=>?_
    refine wf (wp_ret ?_)
    obtain rfl:=XZ H
    exact rt (.one (.c (.bool x38))) js fv rfl
   ·
    rw [AX dx] at H
    refine wp_skip (XT (Aa (Rk 0 5 (Ow y d e a a_words words c_words) ea ck fun nx jt=>?_)))
    refine wf (XT (Aa (Rk 0 1 ((tA 43 (EP l y m g f))::(Ow y d e a a_words words c_words)) jt ck fun ny ju=>?_)))
    refine wl fun K hK=>?_
    refine wa [.slice none 0 0,.slice none 0 0,.int .i64 0] ju ck fun p f4 o8 (jv:Kn 137 [(k,0),(p,0)] ((tP 9 1 0)::(tA 43 (EP l y m g f))::(Ow y d e a a_words words c_words)) f4) j4=>hK _ _ ?_
    refine wl fun K hK=>?_
    refine DI 1 0 (.agg (EP l y m g f)) (EP l y m g f) jv j4 fun pa jw en=>hK _ _ ?_
    have jx:Kn 137 [(k,0),(p,0)] ((tP 9 1 0)::(Ow y d e a a_words words c_words)) f4:=jw.kp
    refine wf (XT (Aa (Rk 0 3 ((tI 46 (IntKind.i64.wrap (((y.buses.length:Nat):Int)-1)))::(tS 45 g y.buses.length f)::(tP 9 1 0)::(Ow y d e a a_words words c_words)) jx en fun nz fl=>?_)))
    obtain⟨x47,ex47,H⟩:=Am H
    obtain⟨kd,mg,fx⟩:=Jn ex47
    have ma:y.buses.length≤f:=ai.cap
    have av:Av cb g f x47:=by rw [fx]; exact ai.take _
    have j5:(IntKind.i64.wrap (((y.buses.length:Nat):Int)-1):Int).toNat=x47.length:=by rw [fx,List.length_take]; omega
    refine Dj 3 (.one (.c (.slice g x47.length f))) rfl (rfl) rfl (Jo (T:=23) (E:=49) (sz:=3) fl rfl rfl rfl (by kernel_rfl) (by kernel_rfl) kd (by omega) j5) (fl.put (by decide) _) fun k1 (ha:Kn 137 [(k,0),(p,0)] ((tS 47 g x47.length f)::(tI 46 (IntKind.i64.wrap (((y.buses.length:Nat):Int)-1)))::(tS 45 g y.buses.length f)::(tP 9 1 0)::(Ow y d e a a_words words c_words)) k1)=>?_
    refine Rk 4 1 ((tP 48 1 1)::(tS 47 g x47.length f)::(tP 9 1 0)::(Ow y d e a a_words words c_words)) ha en fun k2 hb=>?_
    refine wl fun K hK=>?_
    refine DI 1 1 (.c (.slice g x47.length f)) (Ov l y m g x47 f) hb en fun og hc b4=>hK _ _ ?_
    have hd:Kn 137 [(k,0),(p,0)] ((tP 9 1 0)::(Ow y d e a a_words words c_words)) k2:=hc.kp
    refine wf (XT (Aa (Rk 0 2 ((tS 11 none 0 0)::(tS 10 none 0 0)::(tP 9 1 0)::(Ow y d e a a_words words c_words)) hd b4 fun mh he=>?_)))
    refine wf (XT (At (by kernel_rfl) ?_))
    replace b4:=b4.drew
    refine Aw [] [(k,0),(p,0)] (K7 l y m g f x47) ?_
    refine Dr [0,1,3,4] [4,3,1,0] ((tS 53 a_words words.length c_words)::(tA 52 (EP l y m g f))::(tS 50 a_words words.length c_words)::(tA 49 (EP l y m g f))::(tS 11 none 0 0)::(tS 10 none 0 0)::(DL y d e a)) he b4 fun mi hf=>?_
    obtain⟨x51,ex51,H⟩:=Am H
    refine Dl 2 fun K hK=>?_
    refine wc [.agg (EP l y m g f),.c (.slice a_words words.length c_words)] hf b4 (Pz n b4.has y ((Ab (Ae ah) (Ab (Ae ai) Ad)):rep cb y _) words hr_words ex51) fun n0 gp oh f8 ce ed=>?_
    replace ah:=ah.mono ce
    replace ai:=ai.mono ce
    replace hr_words:=hr_words.mono ce
    obtain⟨aa,ab,rfl,a3⟩:=f8
    refine⟨.one (.c (.slice aa x51.length ab)),rfl,fun k3 (hg:Kn 137 [(k,0),(p,0)] ((tS 51 aa x51.length ab)::(tS 53 a_words words.length c_words)::(tA 52 (EP l y m g f))::(tS 50 a_words words.length c_words)::(tA 49 (EP l y m g f))::(tS 11 none 0 0)::(tS 10 none 0 0)::(DL y d e a)) k3)=>hK _ _ ed.plOk ?_⟩
    obtain⟨x54,ex54,H⟩:=Am H
    refine Dl 5 fun K hK=>?_
    refine wc [.agg (EP l y m g f),.c (.slice a_words words.length c_words)] hg ed (P0 n ed.has y ((Ab (Ae ah) (Ab (Ae ai) Ad)):rep gp y _) words hr_words ex54) fun n1 c3 lu f9 cf c7=>?_
    replace ah:=ah.mono cf
    replace ai:=ai.mono cf
    replace aw:=aw.mono (XU ce cf)
    replace av:=av.mono (XU ce cf)
    replace a3:=a3.mono cf
    obtain⟨s,u,rfl,bc⟩:=f9
    refine⟨.one (.c (.slice s x54.length u)),rfl,fun k4 (hl:Kn 137 [(k,0),(p,0)] ((tS 54 s x54.length u)::(tS 51 aa x51.length ab)::(tS 53 a_words words.length c_words)::(tA 52 (EP l y m g f))::(tS 50 a_words words.length c_words)::(tA 49 (EP l y m g f))::(tS 11 none 0 0)::(tS 10 none 0 0)::(DL y d e a)) k4)=>hK _ _ c7.plOk ?_⟩
    refine Dr [6,7] [7,6,5,2,4,3,1,0] ((tS 13 s x54.length u)::(tS 12 aa x51.length ab)::(tS 11 none 0 0)::(tS 10 none 0 0)::(DL y d e a)) hl c7 fun ml hn=>?_
    refine AE (by kernel_rfl) (XT (XT (Aa (Rk 0 1 ((tI 14 0)::(tS 13 s x54.length u)::(tS 12 aa x51.length ab)::(tS 11 none 0 0)::(tS 10 none 0 0)::(DL y d e a)) hn c7 fun mm ho=>?_))))
    refine wf ?_
    have j2:Ak ⟨w,h,AA⟩ c3 [(k,0),(p,0)] (K7 l y m g f x47) [⟨none,0,0,3,1,[],0⟩] lu:=c7.nilRow 3 1
    have gy:Af c3 ([]:List Int) []:=Af.nil
    obtain⟨q,fc,H⟩:=Am H
    refine An (fun a' w'=>∃ (x:Option Addr)(z:Nat)(an:List Value)(e1:Array Value)(bg:Ac),a' = ⟨e1,[]⟩∧Kn 137 [(k,0),(p,0)] ((tS 13 s x54.length u)::(tS 12 aa x51.length ab)::(tS 11 none 0 0)::(tS 10 x q.length z)::(DL y d e a)) e1∧Ak ⟨w,h,AA⟩ bg [(k,0),(p,0)] (K7 l y m g f x47) [⟨x,q.length,z,3,1,an,0⟩] w'∧Ac.le c3 bg∧Af bg q an) ?_ ?_
    ·
     refine wp_block ?_
     refine Aq (fun ky a' w'=>∃ (x_v10:List Int)(x_v11:Int)(ao:Option Addr)(aq:Nat)(bw:List Value)(e2:Array Value)(bp:Ac),a' = ⟨e2,[]⟩∧Kn 137 [(k,0),(p,0)] ((tI 14 x_v11)::(tS 13 s x54.length u)::(tS 12 aa x51.length ab)::(tS 11 none 0 0)::(tS 10 ao x_v10.length aq)::(DL y d e a)) e2∧Ak ⟨w,h,AA⟩ bp [(k,0),(p,0)] (K7 l y m g f x47) [⟨ao,x_v10.length,aq,3,1,bw,0⟩] w'∧Ac.le c3 bp∧Af bp x_v10 bw∧BB ky y x51 x_v10 x_v11=some q) n ?_ ?_
     ·
      exact XY ([]:List Int) ⟨0,none,0,[],_,_,rfl,ho.kp,j2,Ac.le_refl _,gy,fc⟩
     ·
      rintro df _ oi ⟨x_v10,x_v11,ao,aq,bw,e2,bp,rfl,hq,c8,c4,dy,al⟩
      clear fc
      obtain _ | df:=df
      ·
       rw [BB] at al; cases al
      rw [BB] at al
      replace a3:=a3.mono c4
      refine XT (XT (Aa (Rk 0 4 ((tB 58 (decide (x_v11<((x51.length:Nat):Int))))::(tI 14 x_v11)::(tS 13 s x54.length u)::(tS 12 aa x51.length ab)::(tS 11 none 0 0)::(tS 10 ao x_v10.length aq)::(DL y d e a)) hq c8 fun mp d2=>?_)))
      refine wf (wC (decide (x_v11<((x51.length:Nat):Int))) d2 (fun dp=>?_) (fun dp=>?_))
      ·
       rw [dp,XW] at al
       refine wp_skip (XT (wp_block (XT (Aa (Rk 0 2 ((tI 62 x_v11)::(tS 61 aa x51.length ab)::(tI 14 x_v11)::(tS 13 s x54.length u)::(tS 12 aa x51.length ab)::(tS 11 none 0 0)::(tS 10 ao x_v10.length aq)::(DL y d e a)) d2 c8 fun mq hr=>?_)))))
       obtain⟨x63,ex63,al⟩:=Am al
       obtain⟨j7,ke,kt⟩:=Ah ex63
       obtain⟨b6,cm,lw,gs,kn,gz⟩:=a3.get (by decide) kt
       obtain rfl:=kn
       have ch:=c8.addPlc (b:=b6) (o:=cm+(x_v11:Int).toNat*1) (cs:=[.int .i64 x63]) (fun j c hj=>gz j _ (Ai hj)) rfl (by kernel_rfl) (by kernel_rfl)
       refine A6 2 (x_v11) rfl rfl (rfl) rfl (by decide) hr (by rfl) (by rfl) (by rfl) gs (by rfl) j7 ke (by kernel_rfl) fun k5 (ht:Kn 137 [(k,0),(p,0),(b6,cm+(x_v11:Int).toNat*1)] ((tP 63 2 0)::(tI 62 x_v11)::(tS 61 aa x51.length ab)::(tI 14 x_v11)::(tS 13 s x54.length u)::(tS 12 aa x51.length ab)::(tS 11 none 0 0)::(tS 10 ao x_v10.length aq)::(DL y d e a)) k5)=>?_
       refine Rk 3 3 ((tB 66 (decide (x63<(IntKind.i64.wrap (((y.buses.length:Nat):Int)-1)))))::(tI 14 x_v11)::(tS 13 s x54.length u)::(tS 12 aa x51.length ab)::(tS 11 none 0 0)::(tS 10 ao x_v10.length aq)::(DL y d e a)) ht ch fun mr d3=>?_
       refine wf (wC (decide (x63<(IntKind.i64.wrap (((y.buses.length:Nat):Int)-1)))) d3 (fun dq=>?_) (fun dq=>?_))
       ·
        rw [dq,XW] at al
        refine Aa (Rk 0 3 ((tI 69 x_v11)::(tS 68 aa x51.length ab)::(tS 67 ao x_v10.length aq)::(tI 14 x_v11)::(tS 13 s x54.length u)::(tS 12 aa x51.length ab)::(tS 11 none 0 0)::(DL y d e a)) d3 ch fun ms hu=>?_)
        obtain⟨x70,ex70,al⟩:=Am al
        obtain⟨j8,kf,ku⟩:=Ah ex70
        obtain⟨cu,di,lx,gu,ko,g0⟩:=a3.get (by decide) ku
        obtain rfl:=ko
        have fm:=ch.addPlc (b:=cu) (o:=di+(x_v11:Int).toNat*1) (cs:=[.int .i64 x70]) (fun j c hj=>g0 j _ (Ai hj)) rfl (by kernel_rfl) (by kernel_rfl)
        refine A6 3 (x_v11) rfl rfl (rfl) rfl (by decide) hu (by rfl) (by rfl) (by rfl) gu (by rfl) j8 kf (by kernel_rfl) fun k6 (hv:Kn 137 [(k,0),(p,0),(b6,cm+(x_v11:Int).toNat*1),(cu,di+(x_v11:Int).toNat*1)] ((tP 70 3 0)::(tI 69 x_v11)::(tS 68 aa x51.length ab)::(tS 67 ao x_v10.length aq)::(tI 14 x_v11)::(tS 13 s x54.length u)::(tS 12 aa x51.length ab)::(tS 11 none 0 0)::(DL y d e a)) k6)=>?_
        refine Rk 4 1 ((tI 71 x70)::(tS 67 ao x_v10.length aq)::(tI 14 x_v11)::(tS 13 s x54.length u)::(tS 12 aa x51.length ab)::(tS 11 none 0 0)::(DL y d e a)) hv fm fun mt hw=>?_
        refine wl fun K hK=>?_
        refine wS 3 1 [.int .i64 x70] hw fm fun fa k7 ok (hx:Kn 137 [(k,0),(p,0),(b6,cm+(x_v11:Int).toNat*1),(cu,di+(x_v11:Int).toNat*1)] ((tS 72 fa 1 1)::(tI 71 x70)::(tS 67 ao x_v10.length aq)::(tI 14 x_v11)::(tS 13 s x54.length u)::(tS 12 aa x51.length ab)::(tS 11 none 0 0)::(DL y d e a)) k7) fn=>?_
        have dz:Af bp ([x70]:List Int) ([.int .i64 x70]:List Value):=⟨_,_,rfl,(Ad:rep bp (x70:Int) _),rfl⟩
        refine hK _ _ ?_
        obtain⟨x73,ex73,al⟩:=Am al
        obtain⟨ex,jy⟩:=Bj ex73
        refine wl fun K hK=>?_
        refine AU 0 8 1 _ (x73.length) _ ([.int .i64 x70]:List Value) hx fn rfl rfl (by decide) rfl (by rfl) (by kernel_rfl) (by rfl) (by rfl) (Af.len dz) (fn.rowCell (i:=1) rfl) dz.one (by rw [ex]; simp <;> omega) (by rw [ex]; exact jy) (by decide) fun co cw f6 k8 ol g7 (hy:Kn 137 [(k,0),(p,0),(b6,cm+(x_v11:Int).toNat*1),(cu,di+(x_v11:Int).toNat*1)] ((tS 73 co x73.length cw)::(tS 72 fa 1 1)::(tI 71 x70)::(tS 67 ao x_v10.length aq)::(tI 14 x_v11)::(tS 13 s x54.length u)::(tS 12 aa x51.length ab)::(tS 11 none 0 0)::(DL y d e a)) k8) ee=>?_
        have g1:Af bp x73 (bw++([.int .i64 x70]:List Value)):=by rw [ex]; exact Af.append dy dz
        obtain rfl:f6=0:=Nat.le_zero.1 g7
        refine hK _ _ ?_
        refine Rk 7 1 ((tS 10 co x73.length cw)::(tI 14 x_v11)::(tS 13 s x54.length u)::(tS 12 aa x51.length ab)::(tS 11 none 0 0)::(DL y d e a)) hy ee fun mu hz=>?_
        refine wf (Aa (Rk 0 3 ((tI 14 (IntKind.i64.wrap (x_v11+1)))::(tS 10 co x73.length cw)::(tS 13 s x54.length u)::(tS 12 aa x51.length ab)::(tS 11 none 0 0)::(DL y d e a)) hz ee fun mv h0=>?_))
        refine wf ?_
        exact XY df ⟨Nat.lt_succ_self _,XY x73 ⟨IntKind.i64.wrap (x_v11+1),co,cw,bw++([.int .i64 x70]:List Value),_,_,rfl,(h0.keep [14,13,12,11,10,9,8,5,2] (by rfl)).cut 2 (by kernel_rfl),(ee.cutRw 1).cutPl 2 (by kernel_rfl),c4,g1,al⟩⟩
       ·
        rw [dq,XV] at al
        refine wp_skip (Aa (Rk 0 3 ((tI 14 (IntKind.i64.wrap (x_v11+1)))::(tS 13 s x54.length u)::(tS 12 aa x51.length ab)::(tS 11 none 0 0)::(tS 10 ao x_v10.length aq)::(DL y d e a)) d3 ch fun mw h1=>?_))
        refine wf ?_
        exact XY df ⟨Nat.lt_succ_self _,XY x_v10 ⟨IntKind.i64.wrap (x_v11+1),ao,aq,bw,_,_,rfl,(h1.keep [14,13,12,11,10,9,8,5,2] (by rfl)).cut 2 (by kernel_rfl),ch.cutPl 2 (by kernel_rfl),c4,dy,al⟩⟩
      ·
       rw [dp,XV] at al
       refine wp_exit ?_
       obtain rfl:=XZ al
       exact XY ao ⟨aq,bw,_,_,rfl,d2.kp,c8,c4,dy⟩
    ·
     rintro _ lv ⟨x,z,an,e1,bg,rfl,h2,fo,b2,a8⟩
     replace ah:=ah.mono b2
     replace ai:=ai.mono b2
     replace aw:=aw.mono b2
     replace av:=av.mono b2
     replace a3:=a3.mono b2
     replace bc:=bc.mono b2
     refine XT (XT (Aa (Rk 0 1 ((tI 15 0)::(tS 13 s x54.length u)::(tS 12 aa x51.length ab)::(tS 11 none 0 0)::(tS 10 x q.length z)::(DL y d e a)) h2 fo fun mx h3=>?_)))
     refine wf ?_
     have j3:Ak ⟨w,h,AA⟩ bg [(k,0),(p,0)] (K7 l y m g f x47) [⟨x,q.length,z,3,1,an,0⟩,⟨none,0,0,3,1,[],0⟩] lv:=fo.nilRow 3 1
     have g2:Af bg ([]:List Int) []:=Af.nil
     obtain⟨ae,fd,H⟩:=Am H
     refine An (fun a' w'=>∃ (af:Option Addr)(ag:Nat)(a1:List Value)(e3:Array Value)(b8:Ac),a' = ⟨e3,[]⟩∧Kn 137 [(k,0),(p,0)] ((tS 13 s x54.length u)::(tS 12 aa x51.length ab)::(tS 11 af ae.length ag)::(tS 10 x q.length z)::(DL y d e a)) e3∧Ak ⟨w,h,AA⟩ b8 [(k,0),(p,0)] (K7 l y m g f x47) [⟨x,q.length,z,3,1,an,0⟩,⟨af,ae.length,ag,3,1,a1,0⟩] w'∧Ac.le bg b8∧Af b8 ae a1) ?_ ?_
     ·
      refine wp_block ?_
      refine Aq (fun kz a' w'=>∃ (x_v20:List Int)(x_v21:Int)(ap:Option Addr)(ar:Nat)(bx:List Value)(e4:Array Value)(bq:Ac),a' = ⟨e4,[]⟩∧Kn 137 [(k,0),(p,0)] ((tI 15 x_v21)::(tS 13 s x54.length u)::(tS 12 aa x51.length ab)::(tS 11 ap x_v20.length ar)::(tS 10 x q.length z)::(DL y d e a)) e4∧Ak ⟨w,h,AA⟩ bq [(k,0),(p,0)] (K7 l y m g f x47) [⟨x,q.length,z,3,1,an,0⟩,⟨ap,x_v20.length,ar,3,1,bx,0⟩] w'∧Ac.le bg bq∧Af bq x_v20 bx∧BC kz y x54 x_v20 x_v21=some ae) n ?_ ?_
      ·
       exact XY ([]:List Int) ⟨0,none,0,[],_,_,rfl,h3.kp,j3,Ac.le_refl _,g2,fd⟩
      ·
       rintro dg _ om ⟨x_v20,x_v21,ap,ar,bx,e4,bq,rfl,h5,da,c5,d0,am⟩
       clear fd
       obtain _ | dg:=dg
       ·
        rw [BC] at am; cases am
       rw [BC] at am
       replace bc:=bc.mono c5
       refine XT (XT (Aa (Rk 0 4 ((tB 77 (decide (x_v21<((x54.length:Nat):Int))))::(tI 15 x_v21)::(tS 13 s x54.length u)::(tS 12 aa x51.length ab)::(tS 11 ap x_v20.length ar)::(tS 10 x q.length z)::(DL y d e a)) h5 da fun my d4=>?_)))
       refine wf (wC (decide (x_v21<((x54.length:Nat):Int))) d4 (fun dr=>?_) (fun dr=>?_))
       ·
        rw [dr,XW] at am
        refine wp_skip (XT (wp_block (XT (Aa (Rk 0 2 ((tI 81 x_v21)::(tS 80 s x54.length u)::(tI 15 x_v21)::(tS 13 s x54.length u)::(tS 12 aa x51.length ab)::(tS 11 ap x_v20.length ar)::(tS 10 x q.length z)::(DL y d e a)) d4 da fun mz h6=>?_)))))
        obtain⟨x82,ex82,am⟩:=Am am
        obtain⟨j9,kg,kv⟩:=Ah ex82
        obtain⟨b7,cn,ly,gv,kq,g3⟩:=bc.get (by decide) kv
        obtain rfl:=kq
        have ci:=da.addPlc (b:=b7) (o:=cn+(x_v21:Int).toNat*1) (cs:=[.int .i64 x82]) (fun j c hj=>g3 j _ (Ai hj)) rfl (by kernel_rfl) (by kernel_rfl)
        refine A6 2 (x_v21) rfl rfl (rfl) rfl (by decide) h6 (by rfl) (by rfl) (by rfl) gv (by rfl) j9 kg (by kernel_rfl) fun k9 (h7:Kn 137 [(k,0),(p,0),(b7,cn+(x_v21:Int).toNat*1)] ((tP 82 2 0)::(tI 81 x_v21)::(tS 80 s x54.length u)::(tI 15 x_v21)::(tS 13 s x54.length u)::(tS 12 aa x51.length ab)::(tS 11 ap x_v20.length ar)::(tS 10 x q.length z)::(DL y d e a)) k9)=>?_
        refine Rk 3 3 ((tB 85 (decide (x82<(IntKind.i64.wrap (((y.buses.length:Nat):Int)-1)))))::(tI 15 x_v21)::(tS 13 s x54.length u)::(tS 12 aa x51.length ab)::(tS 11 ap x_v20.length ar)::(tS 10 x q.length z)::(DL y d e a)) h7 ci fun m0 d6=>?_
        refine wf (wC (decide (x82<(IntKind.i64.wrap (((y.buses.length:Nat):Int)-1)))) d6 (fun ds=>?_) (fun ds=>?_))
        ·
         rw [ds,XW] at am
         refine Aa (Rk 0 3 ((tI 88 x_v21)::(tS 87 s x54.length u)::(tS 86 ap x_v20.length ar)::(tI 15 x_v21)::(tS 13 s x54.length u)::(tS 12 aa x51.length ab)::(tS 10 x q.length z)::(DL y d e a)) d6 ci fun m1 h8=>?_)
         obtain⟨x89,ex89,am⟩:=Am am
         obtain⟨ka,kh,kw⟩:=Ah ex89
         obtain⟨cv,dj,lz,gw,kr,g4⟩:=bc.get (by decide) kw
         obtain rfl:=kr
         have fp:=ci.addPlc (b:=cv) (o:=dj+(x_v21:Int).toNat*1) (cs:=[.int .i64 x89]) (fun j c hj=>g4 j _ (Ai hj)) rfl (by kernel_rfl) (by kernel_rfl)
         refine A6 3 (x_v21) rfl rfl (rfl) rfl (by decide) h8 (by rfl) (by rfl) (by rfl) gw (by rfl) ka kh (by kernel_rfl) fun la (h9:Kn 137 [(k,0),(p,0),(b7,cn+(x_v21:Int).toNat*1),(cv,dj+(x_v21:Int).toNat*1)] ((tP 89 3 0)::(tI 88 x_v21)::(tS 87 s x54.length u)::(tS 86 ap x_v20.length ar)::(tI 15 x_v21)::(tS 13 s x54.length u)::(tS 12 aa x51.length ab)::(tS 10 x q.length z)::(DL y d e a)) la)=>?_
         refine Rk 4 1 ((tI 90 x89)::(tS 86 ap x_v20.length ar)::(tI 15 x_v21)::(tS 13 s x54.length u)::(tS 12 aa x51.length ab)::(tS 10 x q.length z)::(DL y d e a)) h9 fp fun m2 ia=>?_
         refine wl fun K hK=>?_
         refine wS 3 1 [.int .i64 x89] ia fp fun fb lb oo (ib:Kn 137 [(k,0),(p,0),(b7,cn+(x_v21:Int).toNat*1),(cv,dj+(x_v21:Int).toNat*1)] ((tS 91 fb 1 1)::(tI 90 x89)::(tS 86 ap x_v20.length ar)::(tI 15 x_v21)::(tS 13 s x54.length u)::(tS 12 aa x51.length ab)::(tS 10 x q.length z)::(DL y d e a)) lb) fq=>?_
         have d1:Af bq ([x89]:List Int) ([.int .i64 x89]:List Value):=⟨_,_,rfl,(Ad:rep bq (x89:Int) _),rfl⟩
         refine hK _ _ ?_
         obtain⟨x92,ex92,am⟩:=Am am
         obtain⟨ey,jz⟩:=Bj ex92
         refine wl fun K hK=>?_
         refine AU 1 8 1 _ (x92.length) _ ([.int .i64 x89]:List Value) ib fq rfl rfl (by decide) rfl (by rfl) (by kernel_rfl) (by rfl) (by rfl) (Af.len d1) (fq.rowCell (i:=2) rfl) d1.one (by rw [ey]; simp <;> omega) (by rw [ey]; exact jz) (by decide) fun cp cx f7 lc op g8 (ic:Kn 137 [(k,0),(p,0),(b7,cn+(x_v21:Int).toNat*1),(cv,dj+(x_v21:Int).toNat*1)] ((tS 92 cp x92.length cx)::(tS 91 fb 1 1)::(tI 90 x89)::(tS 86 ap x_v20.length ar)::(tI 15 x_v21)::(tS 13 s x54.length u)::(tS 12 aa x51.length ab)::(tS 10 x q.length z)::(DL y d e a)) lc) ef=>?_
         have g5:Af bq x92 (bx++([.int .i64 x89]:List Value)):=by rw [ey]; exact Af.append d0 d1
         obtain rfl:f7=0:=Nat.le_zero.1 g8
         refine hK _ _ ?_
         refine Rk 7 1 ((tS 11 cp x92.length cx)::(tI 15 x_v21)::(tS 13 s x54.length u)::(tS 12 aa x51.length ab)::(tS 10 x q.length z)::(DL y d e a)) ic ef fun m3 ie=>?_
         refine wf (Aa (Rk 0 3 ((tI 15 (IntKind.i64.wrap (x_v21+1)))::(tS 11 cp x92.length cx)::(tS 13 s x54.length u)::(tS 12 aa x51.length ab)::(tS 10 x q.length z)::(DL y d e a)) ie ef fun m4 ig=>?_))
         refine wf ?_
         exact XY dg ⟨Nat.lt_succ_self _,XY x92 ⟨IntKind.i64.wrap (x_v21+1),cp,cx,bx++([.int .i64 x89]:List Value),_,_,rfl,(ig.keep [15,13,12,11,10,9,8,5,2] (by rfl)).cut 2 (by kernel_rfl),(ef.cutRw 2).cutPl 2 (by kernel_rfl),c5,g5,am⟩⟩
        ·
         rw [ds,XV] at am
         refine wp_skip (Aa (Rk 0 3 ((tI 15 (IntKind.i64.wrap (x_v21+1)))::(tS 13 s x54.length u)::(tS 12 aa x51.length ab)::(tS 11 ap x_v20.length ar)::(tS 10 x q.length z)::(DL y d e a)) d6 ci fun m5 ih=>?_))
         refine wf ?_
         exact XY dg ⟨Nat.lt_succ_self _,XY x_v20 ⟨IntKind.i64.wrap (x_v21+1),ap,ar,bx,_,_,rfl,(ih.keep [15,13,12,11,10,9,8,5,2] (by rfl)).cut 2 (by kernel_rfl),ci.cutPl 2 (by kernel_rfl),c5,d0,am⟩⟩
       ·
        rw [dr,XV] at am
        refine wp_exit ?_
        obtain rfl:=XZ am
        exact XY ap ⟨ar,bx,_,_,rfl,d4.kp,da,c5,d0⟩
     ·
      rintro _ oq ⟨af,ag,a1,e3,b8,rfl,ii,eg,br,a9⟩
      replace ah:=ah.mono br
      replace ai:=ai.mono br
      refine XT (Aa (Rk 0 1 ((tA 94 (EP l y m g f))::(tS 13 s x54.length u)::(tS 12 aa x51.length ab)::(Nb af ae ag x q z y d e a)) ii eg fun m6 ij=>?_))
      obtain⟨x95,ex95,H⟩:=Am H
      refine wl fun K hK=>?_
      refine wc [.agg (EP l y m g f)] ij eg (Iq n eg.has y ((Ab (Ae ah) (Ab (Ae ai) Ad)):rep b8 y _) ex95) fun n3 l1 os gb bh eh=>?_
      replace aw:=aw.mono (XU br bh)
      obtain⟨_,rfl,⟨_,_,rfl,⟨ax,az,rfl,eo⟩,⟨_,_,rfl,⟨ay,a0,rfl,ep⟩,rfl⟩⟩⟩:=gb
      refine⟨.one (.agg (Na ax x95 az ay a0)),rfl,fun ld (ik:Kn 137 [(k,0),(p,0)] ((tA 95 (Na ax x95 az ay a0))::(tA 94 (EP l y m g f))::(tS 13 s x54.length u)::(tS 12 aa x51.length ab)::(Nb af ae ag x q z y d e a)) ld)=>hK _ _ ?_⟩
      refine Rk 2 1 ((tS 96 d e.2.length a)::(tA 95 (Na ax x95 az ay a0))::(tS 13 s x54.length u)::(tS 12 aa x51.length ab)::(Nb af ae ag x q z y d e a)) ik eh fun m7 il=>?_
      obtain⟨x97,ex97,H⟩:=Am H
      refine wl fun K hK=>?_
      refine wc [.c (.slice d e.2.length a)] il eh (C1 n eh.has e.2 aw ex97) fun n4 l2 ot gc a4 ei=>?_
      replace a3:=a3.mono (XU (XU br bh) a4)
      obtain⟨be,bf,rfl,er⟩:=gc
      refine⟨.one (.c (.slice be x97.length bf)),rfl,fun lf (im:Kn 137 [(k,0),(p,0)] ((tS 97 be x97.length bf)::(tS 96 d e.2.length a)::(tA 95 (Na ax x95 az ay a0))::(tS 13 s x54.length u)::(tS 12 aa x51.length ab)::(Nb af ae ag x q z y d e a)) lf)=>hK _ _ ?_⟩
      refine Rk 4 1 ((tS 98 aa x51.length ab)::(tS 97 be x97.length bf)::(tA 95 (Na ax x95 az ay a0))::(tS 13 s x54.length u)::(Nb af ae ag x q z y d e a)) im ei fun m9 io=>?_
      obtain⟨x99,ex99,H⟩:=Am H
      refine wl fun K hK=>?_
      refine wc [.c (.slice aa x51.length ab)] io ei (C1 n ei.has x51 a3 ex99) fun n5 l3 ou gd a5 ej=>?_
      replace bc:=bc.mono (XU (XU (XU br bh) a4) a5)
      obtain⟨bz,b0,rfl,es⟩:=gd
      refine⟨.one (.c (.slice bz x99.length b0)),rfl,fun lg (iq:Kn 137 [(k,0),(p,0)] ((tS 99 bz x99.length b0)::(tS 98 aa x51.length ab)::(tS 97 be x97.length bf)::(tA 95 (Na ax x95 az ay a0))::(tS 13 s x54.length u)::(Nb af ae ag x q z y d e a)) lg)=>hK _ _ ?_⟩
      refine Rk 6 1 ((tS 100 s x54.length u)::(tS 99 bz x99.length b0)::(tS 97 be x97.length bf)::(tA 95 (Na ax x95 az ay a0))::(Nb af ae ag x q z y d e a)) iq ej fun na ir=>?_
      obtain⟨x101,ex101,H⟩:=Am H
      refine wl fun K hK=>?_
      refine wc [.c (.slice s x54.length u)] ir ej (C1 n ej.has x54 bc ex101) fun n7 gq ov gf a6 fr=>?_
      replace eo:=eo.mono (XU (XU a4 a5) a6)
      replace ep:=ep.mono (XU (XU a4 a5) a6)
      replace er:=er.mono (XU a5 a6)
      replace es:=es.mono a6
      obtain⟨cq,cy,rfl,kj⟩:=gf
      refine⟨.one (.c (.slice cq x101.length cy)),rfl,fun lh (iu:Kn 137 [(k,0),(p,0)] ((tS 101 cq x101.length cy)::(tS 100 s x54.length u)::(tS 99 bz x99.length b0)::(tS 97 be x97.length bf)::(tA 95 (Na ax x95 az ay a0))::(Nb af ae ag x q z y d e a)) lh)=>hK _ _ ?_⟩
      obtain⟨x102,ex102,H⟩:=Am H
      refine wl fun K hK=>?_
      refine wc [.agg (Na ax x95 az ay a0),.c (.slice be x97.length bf),.c (.slice bz x99.length b0),.c (.slice cq x101.length cy)] iu fr (FP n fr.has x95 ((Ab (Ae eo) (Ab (Ae ep) Ad)):rep gq x95 _) x97 er x99 es x101 kj ex102) fun n8 fg ow gg b3 bk=>?_
      replace ah:=ah.mono (XU (XU (XU (XU bh a4) a5) a6) b3)
      replace aw:=aw.mono (XU (XU (XU a4 a5) a6) b3)
      replace av:=av.mono (XU (XU (XU (XU (XU br bh) a4) a5) a6) b3)
      obtain⟨_,_,rfl,⟨ac,ad,rfl,bu⟩,rfl⟩:=gg
      refine⟨.tup [.c (.slice ac x102.1.length ad),.c (.int .i64 x102.2)],rfl,fun li (iv:Kn 137 [(k,0),(p,0)] ((102,.tup [.c (.slice ac x102.1.length ad),.c (.int .i64 x102.2)])::(tS 101 cq x101.length cy)::(tS 100 s x54.length u)::(tS 99 bz x99.length b0)::(tS 97 be x97.length bf)::(tA 95 (Na ax x95 az ay a0))::(Nb af ae ag x q z y d e a)) li)=>hK _ _ ?_⟩
      refine Rk 9 5 ((tI 17 x102.2)::(tS 16 ac x102.1.length ad)::(Nb af ae ag x q z y d e a)) iv bk fun nb iw=>?_
      refine wf (XT (At (by kernel_rfl) ?_))
      replace bk:=bk.drew
      refine Aw [] [(k,0),(p,0)] (K7 l y m g f x47) ?_
      refine Dr [0,2,3] [3,2,0] [tI 109 (IntKind.i64.wrap (((y.buses.length:Nat):Int)-1)),tS 108 d e.2.length a,tA 106 (Ov l y m g x47 f),tI 17 x102.2,tS 16 ac x102.1.length ad,tS 11 af ae.length ag,tS 10 x q.length z] iw bk fun nc fi=>?_
      obtain⟨x110,ex110,H⟩:=Am H
      obtain⟨kb,mf,fw⟩:=Jn ex110
      have mb:e.2.length≤a:=aw.cap
      have et:Av fg d a x110:=by rw [fw]; exact aw.take _
      have j6:(IntKind.i64.wrap (((y.buses.length:Nat):Int)-1):Int).toNat=x110.length:=by rw [fw,List.length_take]; omega
      refine GA 4 (.one (.c (.slice d x110.length a))) (fun _ _ _ _ _ h=>h) rfl (by kernel_rfl) (by kernel_rfl) (rfl) rfl bk.plOk (fun _ h=>h) (fun w=>Jo (T:=22) (E:=3) (sz:=1) fi rfl rfl rfl (by kernel_rfl) (by kernel_rfl) kb (by omega) j6) (fi.put (by decide) _) fun lj (ix:Kn 137 [(k,0),(p,0)] [tS 110 d x110.length a,tI 109 (IntKind.i64.wrap (((y.buses.length:Nat):Int)-1)),tS 108 d e.2.length a,tA 106 (Ov l y m g x47 f),tI 17 x102.2,tS 16 ac x102.1.length ad,tS 11 af ae.length ag,tS 10 x q.length z] lj)=>?_
      refine Dr [6,7] [7,6,4,3,2,0] [tS 113 af ae.length ag,tS 112 x q.length z,tS 110 d x110.length a,tA 106 (Ov l y m g x47 f),tI 17 x102.2,tS 16 ac x102.1.length ad] ix bk fun nd iy=>?_
      obtain⟨x107,ex107,H⟩:=Am H
      refine Dl 1 fun K hK=>?_
      refine wc [.agg (Ov l y m g x47 f)] iy bk (Iq n bk.has (Aj.mk y.room x47 y.broken) ((Ab (Ae ah) (Ab (Ae av) Ad)):rep fg (Aj.mk y.room x47 y.broken) _) ex107) fun n9 l5 oy gi bs ek=>?_
      replace et:=et.mono bs
      obtain⟨_,rfl,⟨_,_,rfl,⟨bl,bn,rfl,eu⟩,⟨_,_,rfl,⟨bm,bo,rfl,ev⟩,rfl⟩⟩⟩:=gi
      refine⟨.one (.agg (R4 bl x107 bn bm bo)),rfl,fun lk (iz:Kn 137 [(k,0),(p,0)] [tA 107 (R4 bl x107 bn bm bo),tS 113 af ae.length ag,tS 112 x q.length z,tS 110 d x110.length a,tA 106 (Ov l y m g x47 f),tI 17 x102.2,tS 16 ac x102.1.length ad] lk)=>hK _ _ ek.plOk ?_⟩
      obtain⟨x111,ex111,H⟩:=Am H
      refine Dl 5 fun K hK=>?_
      refine wc [.c (.slice d x110.length a)] iz ek (C1 n ek.has x110 et ex111) fun oa l6 f5 gj bi el=>?_
      obtain⟨cr,cz,rfl,ew⟩:=gj
      refine⟨.one (.c (.slice cr x111.length cz)),rfl,fun ll (i0:Kn 137 [(k,0),(p,0)] [tS 111 cr x111.length cz,tA 107 (R4 bl x107 bn bm bo),tS 113 af ae.length ag,tS 112 x q.length z,tS 110 d x110.length a,tA 106 (Ov l y m g x47 f),tI 17 x102.2,tS 16 ac x102.1.length ad] ll)=>hK _ _ el.plOk ?_⟩
      obtain⟨fh,ba,kl,db⟩:=el.settle (i:=0) rfl
      replace a8:=a8.mono (XU (XU (XU (XU (XU (XU (XU (XU br bh) a4) a5) a6) b3) bs) bi) ba)
      replace db:Ak ⟨w,h,AA⟩ fh [(k,0),(p,0)] (K7 l y m g f x47) [⟨x,q.length,z,3,1,an,(an:List Value).length⟩,⟨af,ae.length,ag,3,1,a1,0⟩] f5:=db
      have bd:Av fh x z q:=⟨_,a8,kl,el.rowCap (i:=0) rfl⟩
      obtain⟨dl,a7,km,dc⟩:=db.settle (i:=1) rfl
      replace eu:=eu.mono (XU (XU bi ba) a7)
      replace ev:=ev.mono (XU (XU bi ba) a7)
      replace ew:=ew.mono (XU ba a7)
      replace bd:=bd.mono a7
      replace a9:=a9.mono (XU (XU (XU (XU (XU (XU (XU (XU bh a4) a5) a6) b3) bs) bi) ba) a7)
      replace dc:Ak ⟨w,h,AA⟩ dl [(k,0),(p,0)] (K7 l y m g f x47) [⟨x,q.length,z,3,1,an,(an:List Value).length⟩,⟨af,ae.length,ag,3,1,a1,(a1:List Value).length⟩] f5:=dc
      have bv:Av dl af ag ae:=⟨_,a9,km,db.rowCap (i:=1) rfl⟩
      obtain⟨x114,ex114,H⟩:=Am H
      refine Dl 8 fun K hK=>?_
      refine wc [.agg (R4 bl x107 bn bm bo),.c (.slice cr x111.length cz),.c (.slice x q.length z),.c (.slice af ae.length ag)] i0 dc (FP n dc.has x107 ((Ab (Ae eu) (Ab (Ae ev) Ad)):rep dl x107 _) x111 ew q bd ae bv ex114) fun ob gr oz gk bj bt=>?_
      replace ah:=ah.mono (XU (XU (XU (XU bs bi) ba) a7) bj)
      replace ai:=ai.mono (XU (XU (XU (XU (XU (XU (XU (XU (XU bh a4) a5) a6) b3) bs) bi) ba) a7) bj)
      replace av:=av.mono (XU (XU (XU (XU bs bi) ba) a7) bj)
      replace bu:=bu.mono (XU (XU (XU (XU bs bi) ba) a7) bj)
      replace bd:=bd.mono bj
      replace bv:=bv.mono bj
      replace a8:=a8.mono (XU a7 bj)
      replace a9:=a9.mono bj
      obtain⟨_,_,rfl,⟨aj,ak,rfl,cl⟩,rfl⟩:=gk
      refine⟨.tup [.c (.slice aj x114.1.length ak),.c (.int .i64 x114.2)],rfl,fun lm (i1:Kn 137 [(k,0),(p,0)] [(114,.tup [.c (.slice aj x114.1.length ak),.c (.int .i64 x114.2)]),tS 111 cr x111.length cz,tA 107 (R4 bl x107 bn bm bo),tS 113 af ae.length ag,tS 112 x q.length z,tS 110 d x110.length a,tA 106 (Ov l y m g x47 f),tI 17 x102.2,tS 16 ac x102.1.length ad] lm)=>hK _ _ bt.plOk ?_⟩
      refine Dr [9,10,11,12,13] [13,12,11,10,9,8,5,1,7,6,4,3,2,0] [tI 19 x114.2,tS 18 aj x114.1.length ak,tI 17 x102.2,tS 16 ac x102.1.length ad] i1 bt fun nf i2=>?_
      refine AE (by kernel_rfl) (XT (XT ?_))
      obtain⟨fy,c1,H⟩:=Am H
      refine An (fun a' w'=>∃ (e6:Array Value)(ca:Ac),a' = ⟨e6,[]⟩∧Kn 137 [(k,0),(p,0)] [tS 18 aj x114.1.length ak,tS 16 ac x102.1.length ad,tB 122 fy] e6∧Ak ⟨w,h,AA⟩ ca [(k,0),(p,0)] (K7 l y m g f x47) [⟨x,q.length,z,3,1,an,(an:List Value).length⟩,⟨af,ae.length,ag,3,1,a1,(a1:List Value).length⟩] w'∧Ac.le gr ca) ?_ ?_
      ·
       refine Aa (Rk 0 3 ((tB 119 (x102.2 != 0))::(tI 19 x114.2)::(Kh aj x114 ak ac x102 ad)) i2 bt fun f2 fj=>?_)
       rcases Bool.eq_false_or_eq_true ((x102.2 != 0)) with cc | cc
       ·
        rw [cc,XW] at c1
        have i3:Kn 137 [(k,0),(p,0)] ((tB 119 true)::(tI 19 x114.2)::(Kh aj x114 ak ac x102 ad)) f2:=(fj.setB 119 true (by rfl) cc).kp
        refine Rk 3 3 ((tB 122 true)::(Kh aj x114 ak ac x102 ad)) i3 bt fun ng i4=>?_
        refine wf ?_
        obtain rfl:=XZ c1
        exact XY _ ⟨_,rfl,i4.kp,bt,Ac.le_refl _⟩
       ·
        rw [cc,XV] at c1
        have i5:Kn 137 [(k,0),(p,0)] ((tB 119 false)::(tI 19 x114.2)::(Kh aj x114 ak ac x102 ad)) f2:=(fj.setB 119 false (by rfl) cc).kp
        refine Rk 3 3 ((tB 122 (x114.2 != 0))::(Kh aj x114 ak ac x102 ad)) i5 bt fun nh i6=>?_
        refine wf ?_
        obtain rfl:=XZ c1
        exact XY _ ⟨_,rfl,i6.kp,bt,Ac.le_refl _⟩
      ·
       rintro _ o0 ⟨e6,ca,rfl,d7,dd,bb⟩
       replace ah:=ah.mono bb
       replace ai:=ai.mono bb
       replace av:=av.mono bb
       replace bu:=bu.mono bb
       replace bd:=bd.mono bb
       replace bv:=bv.mono bb
       replace cl:=cl.mono bb
       replace a8:=a8.mono bb
       replace a9:=a9.mono bb
       refine wC (fy) d7 (fun du=>?_) (fun du=>?_)
       ·
        rw [AW du] at H
        refine XT (Aa (Rk 0 1 [tB 4 false] d7 dd fun ni i8=>?_))
        refine wf (wp_ret ?_)
        obtain rfl:=XZ H
        exact rt (.one (.c (.bool false))) i8 dd rfl
       ·
        rw [AX du] at H
        refine wp_skip (XT (XT (Aa (Rk 0 1 ((tI 20 0)::(Kh aj x114 ak ac x102 ad)) d7 dd fun nj i9=>?_))))
        refine wf ?_
        obtain⟨fz,fe,H⟩:=Am H
        refine An (fun a' w'=>∃ (f0:Unit)(e7:Array Value)(dm:Ac),a' = ⟨e7,[]⟩∧Kn 137 [(k,0),(p,0)] [] e7∧Ak ⟨w,h,AA⟩ dm [(k,0),(p,0)] (K7 l y m g f x47) [⟨x,q.length,z,3,1,an,(an:List Value).length⟩,⟨af,ae.length,ag,3,1,a1,(a1:List Value).length⟩] w'∧Ac.le ca dm∧fz=.go f0) ?_ ?_
        ·
         refine wp_block ?_
         refine Aq (fun k0 a' w'=>∃ (x_v30:Int)(e8:Array Value)(dn:Ac),a' = ⟨e8,[]⟩∧Kn 137 [(k,0),(p,0)] ((tI 20 x_v30)::(Kh aj x114 ak ac x102 ad)) e8∧Ak ⟨w,h,AA⟩ dn [(k,0),(p,0)] (K7 l y m g f x47) [⟨x,q.length,z,3,1,an,(an:List Value).length⟩,⟨af,ae.length,ag,3,1,a1,(a1:List Value).length⟩] w'∧Ac.le ca dn∧BX k0 x102 x114 x_v30=some fz) n ?_ ?_
         ·
          exact XY 0 ⟨_,_,rfl,i9.kp,dd,Ac.le_refl _,fe⟩
         ·
          rintro dh _ o1 ⟨x_v30,e8,dn,rfl,ja,de,a2,au⟩
          clear fe
          obtain _ | dh:=dh
          ·
           rw [BX] at au; cases au
          rw [BX] at au
          replace ah:=ah.mono a2
          replace ai:=ai.mono a2
          replace av:=av.mono a2
          replace bu:=bu.mono a2
          replace bd:=bd.mono a2
          replace bv:=bv.mono a2
          replace cl:=cl.mono a2
          replace a8:=a8.mono a2
          replace a9:=a9.mono a2
          refine XT (XT (Aa (Rk 0 4 ((tB 126 (decide (x_v30<((x114.1.length:Nat):Int))))::(tI 20 x_v30)::(Kh aj x114 ak ac x102 ad)) ja de fun nl d8=>?_)))
          refine wf (wC (decide (x_v30<((x114.1.length:Nat):Int))) d8 (fun dv=>?_) (fun dv=>?_))
          ·
           rw [dv,XW] at au
           refine wp_skip (XT (wp_block (XT (Aa (Rk 0 3 ((tI 131 x_v30)::(tS 130 aj x114.1.length ak)::(tS 129 ac x102.1.length ad)::(tI 20 x_v30)::(Kh aj x114 ak ac x102 ad)) d8 de fun nm jc=>?_)))))
           obtain⟨x132,ex132,au⟩:=Am au
           obtain⟨kc,ki,kx⟩:=Ah ex132
           obtain⟨dk,ez,l0,gx,ks,g6⟩:=cl.get (by decide) kx
           obtain rfl:=ks
           have em:=de.addPlc (b:=dk) (o:=ez+(x_v30:Int).toNat*1) (cs:=[.int .i64 x132]) (fun j c hj=>g6 j _ (Ai hj)) rfl (by kernel_rfl) (by kernel_rfl)
           refine A6 3 (x_v30) rfl rfl (rfl) rfl (by decide) jc (by rfl) (by rfl) (by rfl) gx (by rfl) kc ki (by kernel_rfl) fun lo (jd:Kn 137 [(k,0),(p,0),(dk,ez+(x_v30:Int).toNat*1)] ((tP 132 2 0)::(tI 131 x_v30)::(tS 130 aj x114.1.length ak)::(tS 129 ac x102.1.length ad)::(tI 20 x_v30)::(Kh aj x114 ak ac x102 ad)) lo)=>?_
           refine Rk 4 1 ((tI 133 x132)::(tS 129 ac x102.1.length ad)::(tI 20 x_v30)::(Kh aj x114 ak ac x102 ad)) jd em fun nn jf=>?_
           obtain⟨x134,ex134,au⟩:=Am au
           refine wl fun K hK=>?_
           refine wc [.c (.slice ac x102.1.length ad),.c (.int .i64 x132)] jf em (Ou dh em.has x102.1 bu x132 ex134) fun oc l7 o3 gl j1 cj=>?_
           obtain rfl:=gl
           refine⟨.one (.c (.int .i64 x134)),rfl,fun lp (jg:Kn 137 [(k,0),(p,0),(dk,ez+(x_v30:Int).toNat*1)] ((tI 134 x134)::(tI 133 x132)::(tS 129 ac x102.1.length ad)::(tI 20 x_v30)::(Kh aj x114 ak ac x102 ad)) lp)=>hK _ _ ?_⟩
           refine Rk 6 1 ((tB 135 (decide (x134<0)))::(tI 20 x_v30)::(Kh aj x114 ak ac x102 ad)) jg cj fun np d9=>?_
           refine wf (wC (decide (x134<0)) d9 (fun dw=>?_) (fun dw=>?_))
           ·
            rw [dw,XW] at au
            refine XT (Aa (Rk 0 1 [tB 4 false] d9 cj fun nq jh=>?_))
            refine wf (wp_ret ?_)
            obtain rfl:=XZ au
            obtain rfl:=XZ H
            exact rt (.one (.c (.bool false))) jh cj rfl
           ·
            rw [dw,XV] at au
            refine wp_skip (Aa (Rk 0 3 ((tI 20 (IntKind.i64.wrap (x_v30+1)))::(Kh aj x114 ak ac x102 ad)) d9 cj fun nr ji=>?_))
            refine wf ?_
            exact XY dh ⟨Nat.lt_succ_self _,XY (IntKind.i64.wrap (x_v30+1)) ⟨_,_,rfl,(ji.keep [20,18,16] (by rfl)).cut 2 (by kernel_rfl),cj.cutPl 2 (by kernel_rfl),XU a2 j1,au⟩⟩
          ·
           rw [dv,XV] at au
           refine wp_exit ?_
           obtain rfl:=XZ au
           exact XY () ⟨_,_,rfl,d8.kp,de,a2,rfl⟩
        ·
         rintro _ o4 ⟨f0,e7,dm,rfl,jj,ft,mc,rfl⟩
         rw [Ex.bind_go] at H
         refine XT (Aa ?_)
         obtain⟨x136,ex136,H⟩:=Am H
         refine wl fun K hK=>?_
         refine wc [] jj ft (E6 n ft.has  ex136) fun od l8 o5 gm md fu=>?_
         obtain rfl:=gm
         refine⟨.one (.c (.bool x136)),rfl,fun lq (jk:Kn 137 [(k,0),(p,0)] [tB 136 x136] lq)=>hK _ _ ?_⟩
         refine Rk 1 1 [tB 4 x136] jk fu fun ns jl=>?_
         refine wf (wp_ret ?_)
         obtain rfl:=XZ H
         exact rt (.one (.c (.bool x136))) jl fu rfl
end Go.Proofs.Ythcbemnflgjadaa
