/- Each call computes its plain function. -/
import Derived.Test.YthcbemnflgjadaaProg
import Derived.Test.YthcbemnflgjadaanbP0
set_option linter.all false
namespace Go.Proofs.Ythcbemnflgjadaa
open Go Go.RowKit
open Rep (rep)
open KRep (kv)
open VRep (rv)
set_option maxRecDepth 100000 in
set_option maxHeartbeats 4000000 in
theorem Gz (n:Nat) {h:Ac} {w:World} (hh:D7 h w) (words:List (IK .u16)) {a_words:Option Addr} {c_words:Nat} (hr_words:A6 h a_words c_words words) (at_:Int) {r:Int} (H:Ff n words at_=some r) :
  Calls Try.prog 60 #[.slice a_words words.length c_words,.int .i64 at_] w (DA (fun h v=>v=.int .i64 r) h w):=by
 refine enter 16 [.c (.slice a_words words.length c_words),.c (.int .i64 at_)] Try.func60 rfl rfl rfl rfl fun t hk=>?_
 have hm:=Al.begin h w hh
 unfold Ff at H
 refine XT (Aa (Rk 0 1 [tS 0 a_words words.length c_words,tI 1 at_] hk hm fun ae m=>?_))
 refine wf (XT (XT (Aa (Rk 0 3 [tB 7 (((words.length:Nat):Int) == 0),tS 0 a_words words.length c_words,tI 1 at_] m hm fun ag d=>?_))))
 refine wf (wC ((((words.length:Nat):Int) == 0)) d (fun a=>?_) (fun a=>?_))
 ·
  rw [a,XW] at H
  refine XT (Aa (Rk 0 1 [tI 4 0] d hm fun ah s=>?_))
  refine wf (wp_ret ?_)
  obtain rfl:=XZ H
  exact rt (.one (.c (.int .i64 0))) s hm rfl
 ·
  rw [a,XV] at H
  refine wp_skip (XT (Aa (Rk 0 4 [tI 11 ((words.length:Nat):Int),tI 9 at_,tS 8 a_words words.length c_words] d hm fun ai u=>?_)))
  obtain⟨x12,ex12,H⟩:=Ap H
  refine T4 4 u rfl rfl (rfl) rfl (by decide) (by rfl) (by rfl) (Mp ex12) fun ab (l:Kn 16 [] [tI 12 (Int.tmod at_ ((words.length:Nat):Int)),tI 11 ((words.length:Nat):Int),tI 9 at_,tS 8 a_words words.length c_words] ab)=>?_
  obtain⟨x13,ex13,H⟩:=Ap H
  obtain⟨x,y,aa⟩:=Ak ex13
  obtain⟨e,g,ad,i,z,k⟩:=hr_words.get (by decide) aa
  obtain rfl:=z
  have f:=hm.addPlc (b:=e) (o:=g+(Int.tmod at_ ((words.length:Nat):Int):Int).toNat*1) (cs:=[.int .u16 x13.n]) (fun j c hj=>k j _ (Am hj)) rfl (by kernel_rfl) (by kernel_rfl)
  refine AI 5 (Int.tmod at_ ((words.length:Nat):Int)) rfl rfl (rfl) rfl (by decide) l (by rfl) (by rfl) (by rfl) i (by rfl) x y (by kernel_rfl) fun ac (p:Kn 16 [(e,g+(Int.tmod at_ ((words.length:Nat):Int):Int).toNat*1)] [tP 13 0 0,tI 12 (Int.tmod at_ ((words.length:Nat):Int)),tI 11 ((words.length:Nat):Int),tI 9 at_,tS 8 a_words words.length c_words] ac)=>?_
  refine Rk 6 3 [tI 4 (IntKind.i64.wrap x13.n)] p f fun af q=>?_
  refine wf (wp_ret ?_)
  obtain rfl:=XZ H
  exact rt (.one (.c (.int .i64 (IntKind.i64.wrap x13.n)))) q f rfl
abbrev Hc (x22:BK):List SC:=[.int .i64 x22.lo,.int .i64 x22.hi,.int .i64 x22.turn]
abbrev Ef (g p q:Nat) (x_v12:Int) (s:Nat):AM:=[(g,0),(p,q+(x_v12:Int).toNat*3),(s,0)]
abbrev HJ (ai:Option Addr) (y:Ag) (ak:Nat) (ad:Option Addr) (ag:Nat):List SC:=[.slice ai y.room.length ak,.slice ad y.buses.length ag,.int .i64 y.broken]
abbrev Ta (g p q:Nat) (x_v12:Int) (s ae:Nat) (x_v22:Int) (ah aj ao:Nat):AM:=[(g,0),(p,q+(x_v12:Int).toNat*3),(s,0),(ae,0+(IntKind.i64.wrap (x_v22-1):Int).toNat*1),(ah,0+(x_v22:Int).toNat*1),(aj,0+(x_v22:Int).toNat*1),(ao,0+(IntKind.i64.wrap (x_v22-1):Int).toNat*1)]
abbrev TK (g p q:Nat) (x_v12:Int) (s ae:Nat) (x_v22:Int) (ah aj ao ap au aw:Nat):AM:=[(g,0),(p,q+(x_v12:Int).toNat*3),(s,0),(ae,0+(IntKind.i64.wrap (x_v22-1):Int).toNat*1),(ah,0+(x_v22:Int).toNat*1),(aj,0+(x_v22:Int).toNat*1),(ao,0+(IntKind.i64.wrap (x_v22-1):Int).toNat*1),(ap,0+(IntKind.i64.wrap (x_v22-1):Int).toNat*1),(au,0+(x_v22:Int).toNat*1),(aw,0+(x_v22:Int).toNat*1)]
abbrev TL (g p q:Nat) (x_v12:Int) (s ae:Nat) (x_v22:Int) (ah aj ao ap au aw be:Nat):AM:=[(g,0),(p,q+(x_v12:Int).toNat*3),(s,0),(ae,0+(IntKind.i64.wrap (x_v22-1):Int).toNat*1),(ah,0+(x_v22:Int).toNat*1),(aj,0+(x_v22:Int).toNat*1),(ao,0+(IntKind.i64.wrap (x_v22-1):Int).toNat*1),(ap,0+(IntKind.i64.wrap (x_v22-1):Int).toNat*1),(au,0+(x_v22:Int).toNat*1),(aw,0+(x_v22:Int).toNat*1),(be,0+(IntKind.i64.wrap (x_v22-1):Int).toNat*1)]
abbrev N9 (ai:Option Addr) (y:Ag) (ak:Nat) (ad:Option Addr) (ag:Nat) (x22:BK):List C3:=[⟨HJ ai y ak ad ag,some 25⟩,⟨Hc x22,none⟩,⟨Hc x22,some 49⟩]
abbrev DR (a_words:Option Addr) (words:List (IK .u16)) (c_words:Nat):TM:=[tP 2 0 0,tS 1 a_words words.length c_words]
abbrev IL (x_v22:Int) (d:Option Addr) (x_v21:List Int) (f:Nat) (l:Option Addr) (x_v20:List Int) (m:Nat) (x_v12:Int) (a_words:Option Addr) (words:List (IK .u16)) (c_words:Nat):TM:=(tI 11 x_v22)::(tS 6 d x_v21.length f)::(tS 5 l x_v20.length m)::(tI 7 x_v12)::(DR a_words words c_words)
abbrev Du (x_v12:Int) (x:Option Addr) (x_v11:List Int) (z:Nat) (ac:Option Addr) (x_v10:List Int) (af:Nat) (a_words:Option Addr) (words:List (IK .u16)) (c_words:Nat):TM:=(tI 7 x_v12)::(tS 6 x x_v11.length z)::(tS 5 ac x_v10.length af)::(DR a_words words c_words)
abbrev Lp (x_v22:Int) (d:Option Addr) (x_v21:List Int) (f:Nat) (l:Option Addr) (an:List Int) (m:Nat) (x_v12:Int) (a_words:Option Addr) (words:List (IK .u16)) (c_words:Nat):TM:=(tI 102 (IntKind.i64.wrap (x_v22-1)))::(tS 100 d x_v21.length f)::(tI 99 x_v22)::(tS 98 d x_v21.length f)::(tI 11 x_v22)::(tS 6 d x_v21.length f)::(tS 5 l an.length m)::(tI 7 x_v12)::(DR a_words words c_words)
abbrev Lq (x_v22:Int) (l:Option Addr) (x_v20:List Int) (m:Nat) (d:Option Addr) (x_v21:List Int) (f:Nat) (x_v12:Int) (a_words:Option Addr) (words:List (IK .u16)) (c_words:Nat):TM:=(tI 86 (IntKind.i64.wrap (x_v22-1)))::(tS 84 l x_v20.length m)::(tI 83 x_v22)::(tS 82 l x_v20.length m)::(IL x_v22 d x_v21 f l x_v20 m x_v12 a_words words c_words)
set_option maxRecDepth 100000 in
set_option maxHeartbeats 4000000 in
theorem Q9 (n:Nat) {h:Ac} {w:World} (hh:D7 h w) (y:Ag) {cs_y:List Value} (hx_y:rep h y cs_y) (words:List (IK .u16)) {a_words:Option Addr} {c_words:Nat} (hr_words:A6 h a_words c_words words) {r:List Int} (H:Ip n y words=some r) :
  Calls Try.prog 27 #[.agg cs_y.toArray,.slice a_words words.length c_words] w (DA (fun h v=>∃ a c,v=.slice a r.length c∧A6 h a c r) h w):=by
 obtain⟨_,_,rfl,⟨ai,ak,rfl,bc⟩,⟨_,_,rfl,⟨ad,ag,rfl,a7⟩,rfl⟩⟩:=hx_y
 refine enter 115 [.agg (HJ ai y ak ad ag),.c (.slice a_words words.length c_words)] Try.func27 rfl rfl rfl rfl fun t hk=>?_
 have hm:=Al.begin h w hh
 unfold Ip at H
 refine XT (Aa (wl fun K hK=>?_))
 refine wb (.agg (HJ ai y ak ad ag)) hk hm fun g j8 fg (gc:Kn 115 [(g,0)] [tP 2 0 0,tA 0 (HJ ai y ak ad ag),tS 1 a_words words.length c_words] j8) cm=>hK _ _ ?_
 refine Rk 1 1 (DR a_words words c_words) gc cm fun lb gj=>?_
 refine wf (XT (Aa (Rk 0 2 ((tS 6 none 0 0)::(tS 5 none 0 0)::(DR a_words words c_words)) gj cm fun ld go=>?_)))
 refine wf (XT (XT (Aa (Rk 0 1 ((tI 7 0)::(tS 6 none 0 0)::(tS 5 none 0 0)::(DR a_words words c_words)) go cm fun lg gs=>?_))))
 refine wf ?_
 have ir:Al ⟨w,h,AT⟩ h [(g,0)] [⟨HJ ai y ak ad ag,some 25⟩] [⟨none,0,0,3,1,[],0⟩] fg:=cm.nilRow 3 1
 have fu:Ah h ([]:List Int) []:=Ah.nil
 have iu:Al ⟨w,h,AT⟩ h [(g,0)] [⟨HJ ai y ak ad ag,some 25⟩] [⟨none,0,0,3,1,[],0⟩,⟨none,0,0,3,1,[],0⟩] fg:=ir.nilRow 3 1
 have fv:Ah h ([]:List Int) []:=Ah.nil
 obtain⟨az,dz,H⟩:=Ap H
 refine Au (fun a' w'=>∃ (bd:Option Addr)(bf:Nat)(cd:List Value)(ct:Option Addr)(cv:Nat)(cr:List Value)(dv:Array Value)(b6:Ac),a' = ⟨dv,[]⟩∧Kn 115 [(g,0)] [tS 5 bd az.1.length bf] dv∧Al ⟨w,h,AT⟩ b6 [(g,0)] [⟨HJ ai y ak ad ag,some 25⟩] [⟨bd,az.1.length,bf,3,1,cd,0⟩,⟨ct,az.2.length,cv,3,1,cr,0⟩] w'∧Ac.le h b6∧Ah b6 az.1 cd∧Ah b6 az.2 cr) ?_ ?_
 ·
  refine wp_block ?_
  refine A3 (fun jv a' w'=>∃ (x_v10:List Int)(x_v11:List Int)(x_v12:Int)(ac:Option Addr)(af:Nat)(bl:List Value)(x:Option Addr)(z:Nat)(bm:List Value)(dw:Array Value)(b7:Ac),a' = ⟨dw,[]⟩∧Kn 115 [(g,0)] (Du x_v12 x x_v11 z ac x_v10 af a_words words c_words) dw∧Al ⟨w,h,AT⟩ b7 [(g,0)] [⟨HJ ai y ak ad ag,some 25⟩] [⟨ac,x_v10.length,af,3,1,bl,0⟩,⟨x,x_v11.length,z,3,1,bm,0⟩] w'∧Ac.le h b7∧Ah b7 x_v10 bl∧Ah b7 x_v11 bm∧DJ jv y words x_v10 x_v11 x_v12=some az) n ?_ ?_
  ·
   exact XY ([]:List Int) ⟨([]:List Int),0,none,0,[],none,0,[],_,_,rfl,gs.kp,iu,Ac.le_refl _,fu,fv,dz⟩
  ·
   rintro bx _ mh ⟨x_v10,x_v11,x_v12,ac,af,bl,x,z,bm,dw,b7,rfl,h0,co,cc,bp,bq,al⟩
   clear dz
   obtain _ | bx:=bx
   ·
    rw [DJ] at al; cases al
   rw [DJ] at al
   replace bc:=bc.mono cc
   replace a7:=a7.mono cc
   replace hr_words:=hr_words.mono cc
   refine XT (XT (Aa (Rk 0 5 ((tB 16 (decide (x_v12<((y.buses.length:Nat):Int))))::(Du x_v12 x x_v11 z ac x_v10 af a_words words c_words)) h0 co fun ly c8=>?_)))
   refine wf (wC (decide (x_v12<((y.buses.length:Nat):Int))) c8 (fun c1=>?_) (fun c1=>?_))
   ·
    rw [c1,XW] at al
    refine wp_skip (XT (wp_block (XT (Aa (Rk 0 3 ((tI 21 x_v12)::(tS 20 ad y.buses.length ag)::(Du x_v12 x x_v11 z ac x_v10 af a_words words c_words)) c8 co fun lz h1=>?_)))))
    obtain⟨x22,ex22,al⟩:=Ap al
    obtain⟨i4,i5,jt⟩:=Ak ex22
    obtain⟨p,q,kr,fq,ji,f9⟩:=a7.get (by decide) jt
    obtain⟨_,_,rfl,rfl,⟨_,_,rfl,rfl,rfl⟩⟩:=ji
    have eh:=co.addPlc (b:=p) (o:=q+(x_v12:Int).toNat*3) (cs:=(Hc x22)) (fun j c hj=>f9 j _ (Am hj)) rfl (by kernel_rfl) (by kernel_rfl)
    refine AI 3 (x_v12) rfl rfl (rfl) rfl (by decide) h1 (by rfl) (by rfl) (by rfl) fq (by rfl) i4 i5 (by kernel_rfl) fun j7 (h2:Kn 115 [(g,0),(p,q+(x_v12:Int).toNat*3)] ((tP 22 1 0)::(tI 21 x_v12)::(tS 20 ad y.buses.length ag)::(Du x_v12 x x_v11 z ac x_v10 af a_words words c_words)) j7)=>?_
    refine Rk 4 1 ((tA 23 (Hc x22))::(Du x_v12 x x_v11 z ac x_v10 af a_words words c_words)) h2 eh fun l0 h3=>?_
    refine wl fun K hK=>?_
    refine wa [.int .i64 0,.int .i64 0,.int .i64 0] h3 eh fun s ff mi (h4:Kn 115 (Ef g p q x_v12 s) ((tP 8 2 0)::(tA 23 (Hc x22))::(Du x_v12 x x_v11 z ac x_v10 af a_words words c_words)) ff) i3=>hK _ _ ?_
    refine wl fun K hK=>?_
    refine Ee 2 0 (.agg (Hc x22)) (Hc x22) h4 i3 fun mj h5 dj=>hK _ _ ?_
    have h6:Kn 115 (Ef g p q x_v12 s) ((tP 8 2 0)::(Du x_v12 x x_v11 z ac x_v10 af a_words words c_words)) ff:=h5.kp
    refine wf (XT (Aa (Rk 0 2 ((tI 25 x_v12)::(tS 24 a_words words.length c_words)::(tP 8 2 0)::(Du x_v12 x x_v11 z ac x_v10 af a_words words c_words)) h6 dj fun l1 h7=>?_)))
    obtain⟨x26,ex26,al⟩:=Ap al
    refine wl fun K hK=>?_
    refine wc [.c (.slice a_words words.length c_words),.c (.int .i64 x_v12)] h7 dj (Gz bx dj.has words hr_words x_v12 ex26) fun l7 fp mk fo bs av=>?_
    replace bc:=bc.mono bs
    replace a7:=a7.mono bs
    replace hr_words:=hr_words.mono bs
    replace bp:=bp.mono bs
    replace bq:=bq.mono bs
    obtain rfl:=fo
    refine⟨.one (.c (.int .i64 x26)),rfl,fun j9 (h8:Kn 115 (Ef g p q x_v12 s) ((tI 26 x26)::(tI 25 x_v12)::(tS 24 a_words words.length c_words)::(tP 8 2 0)::(Du x_v12 x x_v11 z ac x_v10 af a_words words c_words)) j9)=>hK _ _ ?_⟩
    refine Rk 3 1 ((tI 9 x26)::(tP 8 2 0)::(Du x_v12 x x_v11 z ac x_v10 af a_words words c_words)) h8 av fun l2 h9=>?_
    refine wf (XT (Ax (by kernel_rfl) ?_))
    replace av:=av.drew
    refine A5 [] (Ef g p q x_v12 s) (N9 ai y ak ad ag x22) ?_
    refine Dr [0,1,2,3,4,5,6,7,8,9] (dn 9) ((tI 36 (IntKind.i64.wrap ((IntKind.i64.wrap (x22.hi-x22.lo))+1)))::(tI 30 (IntKind.i64.wrap (Int.tdiv x26 3)))::(tI 28 x22.lo)::(tI 9 x26)::(tP 8 2 0)::(Du x_v12 x x_v11 z ac x_v10 af a_words words c_words)) h9 av fun l3 ia=>?_
    obtain⟨x37,ex37,al⟩:=Ap al
    refine T5 10 (fun _ _ _ _ _ h=>h) ia rfl rfl (rfl) rfl (by decide) (by kernel_rfl) (by kernel_rfl) av.plOk (by rfl) (by rfl) (Mp ex37) fun ka (ib:Kn 115 (Ef g p q x_v12 s) ((tI 37 (Int.tmod (IntKind.i64.wrap (Int.tdiv x26 3)) (IntKind.i64.wrap ((IntKind.i64.wrap (x22.hi-x22.lo))+1))))::(tI 36 (IntKind.i64.wrap ((IntKind.i64.wrap (x22.hi-x22.lo))+1)))::(tI 30 (IntKind.i64.wrap (Int.tdiv x26 3)))::(tI 28 x22.lo)::(tI 9 x26)::(tP 8 2 0)::(Du x_v12 x x_v11 z ac x_v10 af a_words words c_words)) ka)=>?_
    refine Dr [11,12] (dn 12) ((tI 10 (IntKind.i64.wrap (x22.lo+(Int.tmod (IntKind.i64.wrap (Int.tdiv x26 3)) (IntKind.i64.wrap ((IntKind.i64.wrap (x22.hi-x22.lo))+1))))))::(tI 9 x26)::(tP 8 2 0)::(Du x_v12 x x_v11 z ac x_v10 af a_words words c_words)) ib av fun l4 ic=>?_
    refine AU (by kernel_rfl) (XT (XT (Aa (Rk 0 2 ((tI 40 (Int.tmod x26 3))::(tI 10 (IntKind.i64.wrap (x22.lo+(Int.tmod (IntKind.i64.wrap (Int.tdiv x26 3)) (IntKind.i64.wrap ((IntKind.i64.wrap (x22.hi-x22.lo))+1))))))::(tP 8 2 0)::(Du x_v12 x x_v11 z ac x_v10 af a_words words c_words)) ic av fun l5 ie=>?_))))
    refine wf (wp_block (XT (Aa (Rk 0 2 ((tB 41 ((Int.tmod x26 3) == 0))::(tI 40 (Int.tmod x26 3))::(tI 10 (IntKind.i64.wrap (x22.lo+(Int.tmod (IntKind.i64.wrap (Int.tdiv x26 3)) (IntKind.i64.wrap ((IntKind.i64.wrap (x22.hi-x22.lo))+1))))))::(tP 8 2 0)::(Du x_v12 x x_v11 z ac x_v10 af a_words words c_words)) ie av fun k6 c5=>?_))))
    refine wf ?_
    obtain⟨am,bg,al⟩:=Ap al
    refine Au (fun a' w'=>∃ (dp:Array Value)(bn:Ac),a' = ⟨dp,[]⟩∧Kn 115 (Ef g p q x_v12 s) ((tI 10 am)::(Du x_v12 x x_v11 z ac x_v10 af a_words words c_words)) dp∧Al ⟨w,h,AT⟩ bn (Ef g p q x_v12 s) (N9 ai y ak ad ag x22) [⟨ac,x_v10.length,af,3,1,bl,0⟩,⟨x,x_v11.length,z,3,1,bm,0⟩] w'∧Ac.le fp bn) ?_ ?_
    ·
     refine wC (((Int.tmod x26 3) == 0)) c5 (fun cy=>?_) (fun cy=>?_)
     ·
      rw [cy,XW] at bg
      refine Aa (Rk 0 3 ((tI 10 x22.lo)::(Du x_v12 x x_v11 z ac x_v10 af a_words words c_words)) c5 av fun k7 gd=>?_)
      refine wf ?_
      obtain rfl:=XZ bg
      exact XY _ ⟨_,rfl,gd.kp,av,Ac.le_refl _⟩
     ·
      rw [cy,XV] at bg
      refine XT (Aa (Rk 0 2 ((tB 45 ((Int.tmod x26 3) == 1))::(tI 10 (IntKind.i64.wrap (x22.lo+(Int.tmod (IntKind.i64.wrap (Int.tdiv x26 3)) (IntKind.i64.wrap ((IntKind.i64.wrap (x22.hi-x22.lo))+1))))))::(tP 8 2 0)::(Du x_v12 x x_v11 z ac x_v10 af a_words words c_words)) c5 av fun k8 c6=>?_))
      refine wf (wC (((Int.tmod x26 3) == 1)) c6 (fun cz=>?_) (fun cz=>?_))
      ·
       rw [cz,XW] at bg
       refine Aa (Rk 0 3 ((tI 10 x22.hi)::(Du x_v12 x x_v11 z ac x_v10 af a_words words c_words)) c6 av fun k9 gf=>?_)
       refine wf ?_
       obtain rfl:=XZ bg
       exact XY _ ⟨_,rfl,gf.kp,av,Ac.le_refl _⟩
      ·
       rw [cz,XV] at bg
       refine wp_skip ?_
       obtain rfl:=XZ bg
       exact XY _ ⟨_,rfl,c6.kp,av,Ac.le_refl _⟩
    ·
     rintro _ l8 ⟨dp,bn,rfl,gg,eb,br⟩
     replace hr_words:=hr_words.mono br
     replace bp:=bp.mono br
     refine XT (Aa (Rk 0 2 ((tI 50 x_v12)::(tS 49 ac x_v10.length af)::(tI 10 am)::(tI 7 x_v12)::(tS 6 x x_v11.length z)::(DR a_words words c_words)) gg eb fun la gh=>?_))
     refine wl fun K hK=>?_
     refine wS 3 1 [.int .i64 x_v12] gh eb fun a2 jw l9 (gi:Kn 115 (Ef g p q x_v12 s) ((tS 51 a2 1 1)::(tI 50 x_v12)::(tS 49 ac x_v10.length af)::(tI 10 am)::(tI 7 x_v12)::(tS 6 x x_v11.length z)::(DR a_words words c_words)) jw) ec=>?_
     have bh:Ah bn ([x_v12]:List Int) ([.int .i64 x_v12]:List Value):=⟨_,_,rfl,(Ad:rep bn (x_v12:Int) _),rfl⟩
     refine hK _ _ ?_
     obtain⟨x52,ex52,al⟩:=Ap al
     obtain⟨dk,ig⟩:=Cq ex52
     refine wl fun K hK=>?_
     refine BR 0 8 1 _ (x52.length) _ ([.int .i64 x_v12]:List Value) gi ec rfl rfl (by decide) rfl (by rfl) (by kernel_rfl) (by rfl) (by rfl) (Ah.len bh) (ec.rowCell (i:=2) rfl) bh.one (by rw [dk]; simp <;> omega) (by rw [dk]; exact ig) (by decide) fun a3 a5 fl jx ma ga (gk:Kn 115 (Ef g p q x_v12 s) ((tS 52 a3 x52.length a5)::(tS 51 a2 1 1)::(tI 50 x_v12)::(tS 49 ac x_v10.length af)::(tI 10 am)::(tI 7 x_v12)::(tS 6 x x_v11.length z)::(DR a_words words c_words)) jx) dd=>?_
     have c2:Ah bn x52 (bl++([.int .i64 x_v12]:List Value)):=by rw [dk]; exact Ah.append bp bh
     obtain rfl:fl=0:=Nat.le_zero.1 ga
     refine hK _ _ ?_
     refine Rk 4 7 ((tI 59 (IntKind.i64.wrap ((IntKind.i64.wrap (2*x_v12))+1)))::(tS 56 a_words words.length c_words)::(tI 55 (IntKind.i64.wrap (2*am)))::(tS 53 x x_v11.length z)::(tS 52 a3 x52.length a5)::(tI 7 x_v12)::(DR a_words words c_words)) gk dd fun lc gl=>?_
     obtain⟨x60,ex60,al⟩:=Ap al
     refine wl fun K hK=>?_
     refine wc [.c (.slice a_words words.length c_words),.c (.int .i64 (IntKind.i64.wrap ((IntKind.i64.wrap (2*x_v12))+1)))] gl dd (Gz bx dd.has words hr_words (IntKind.i64.wrap ((IntKind.i64.wrap (2*x_v12))+1)) ex60) fun l6 b4 mb fn bi ed=>?_
     replace bc:=bc.mono (XU br bi)
     replace a7:=a7.mono (XU br bi)
     replace hr_words:=hr_words.mono bi
     replace c2:=c2.mono bi
     replace bq:=bq.mono (XU br bi)
     replace bh:=bh.mono bi
     obtain rfl:=fn
     refine⟨.one (.c (.int .i64 x60)),rfl,fun jy (gm:Kn 115 (Ef g p q x_v12 s) ((tI 60 x60)::(tI 59 (IntKind.i64.wrap ((IntKind.i64.wrap (2*x_v12))+1)))::(tS 56 a_words words.length c_words)::(tI 55 (IntKind.i64.wrap (2*am)))::(tS 53 x x_v11.length z)::(tS 52 a3 x52.length a5)::(tI 7 x_v12)::(DR a_words words c_words)) jy)=>hK _ _ ?_⟩
     refine Rk 12 2 ((tI 62 (IntKind.i64.wrap ((IntKind.i64.wrap (2*am))+(Int.tmod x60 2))))::(tS 53 x x_v11.length z)::(tS 52 a3 x52.length a5)::(tI 7 x_v12)::(DR a_words words c_words)) gm ed fun lf gn=>?_
     refine wl fun K hK=>?_
     refine wS 3 1 [.int .i64 (IntKind.i64.wrap ((IntKind.i64.wrap (2*am))+(Int.tmod x60 2)))] gn ed fun a4 jz mc (gp:Kn 115 (Ef g p q x_v12 s) ((tS 63 a4 1 1)::(tI 62 (IntKind.i64.wrap ((IntKind.i64.wrap (2*am))+(Int.tmod x60 2))))::(tS 53 x x_v11.length z)::(tS 52 a3 x52.length a5)::(tI 7 x_v12)::(DR a_words words c_words)) jz) ee=>?_
     have cb:Ah b4 ([IntKind.i64.wrap ((IntKind.i64.wrap (2*am))+(Int.tmod x60 2))]:List Int) ([.int .i64 (IntKind.i64.wrap ((IntKind.i64.wrap (2*am))+(Int.tmod x60 2)))]:List Value):=⟨_,_,rfl,(Ad:rep b4 (IntKind.i64.wrap ((IntKind.i64.wrap (2*am))+(Int.tmod x60 2)):Int) _),rfl⟩
     refine hK _ _ ?_
     obtain⟨x64,ex64,al⟩:=Ap al
     obtain⟨dl,ih⟩:=Cq ex64
     refine wl fun K hK=>?_
     refine BR 1 8 1 _ (x64.length) _ ([.int .i64 (IntKind.i64.wrap ((IntKind.i64.wrap (2*am))+(Int.tmod x60 2)))]:List Value) gp ee rfl rfl (by decide) rfl (by rfl) (by kernel_rfl) (by rfl) (by rfl) (Ah.len cb) (ee.rowCell (i:=3) rfl) cb.one (by rw [dl]; simp <;> omega) (by rw [dl]; exact ih) (by decide) fun ce cf fm j0 md gb (gq:Kn 115 (Ef g p q x_v12 s) ((tS 64 ce x64.length cf)::(tS 63 a4 1 1)::(tI 62 (IntKind.i64.wrap ((IntKind.i64.wrap (2*am))+(Int.tmod x60 2))))::(tS 53 x x_v11.length z)::(tS 52 a3 x52.length a5)::(tI 7 x_v12)::(DR a_words words c_words)) j0) de=>?_
     have fr:Ah b4 x64 (bm++([.int .i64 (IntKind.i64.wrap ((IntKind.i64.wrap (2*am))+(Int.tmod x60 2)))]:List Value)):=by rw [dl]; exact Ah.append bq cb
     obtain rfl:fm=0:=Nat.le_zero.1 gb
     refine hK _ _ ?_
     refine Rk 16 2 ((tS 6 ce x64.length cf)::(tS 5 a3 x52.length a5)::(tI 7 x_v12)::(DR a_words words c_words)) gq de fun lh gr=>?_
     refine wf (XT (Aa (Rk 0 2 ((tI 11 x_v12)::(tS 6 ce x64.length cf)::(tS 5 a3 x52.length a5)::(tI 7 x_v12)::(DR a_words words c_words)) gr de fun li gu=>?_)))
     refine wf ?_
     obtain⟨ay,dy,al⟩:=Ap al
     refine Au (fun a' w'=>∃ (bz:Option Addr)(b2:Nat)(cp:List Value)(b1:Option Addr)(b3:Nat)(cq:List Value)(dq:Array Value)(b5:Ac),a' = ⟨dq,[]⟩∧Kn 115 (Ef g p q x_v12 s) ((tS 6 b1 ay.2.length b3)::(tS 5 bz ay.1.length b2)::(tI 7 x_v12)::(DR a_words words c_words)) dq∧Al ⟨w,h,AT⟩ b5 (Ef g p q x_v12 s) (N9 ai y ak ad ag x22) [⟨bz,ay.1.length,b2,3,1,cp,0⟩,⟨b1,ay.2.length,b3,3,1,cq,0⟩,⟨a2,1,1,3,1,([.int .i64 x_v12]:List Value),0⟩,⟨a4,1,1,3,1,([.int .i64 (IntKind.i64.wrap ((IntKind.i64.wrap (2*am))+(Int.tmod x60 2)))]:List Value),0⟩] w'∧Ac.le b4 b5∧Ah b5 ay.1 cp∧Ah b5 ay.2 cq) ?_ ?_
     ·
      refine wp_block ?_
      refine A3 (fun ju a' w'=>∃ (x_v20:List Int)(x_v21:List Int)(x_v22:Int)(l:Option Addr)(m:Nat)(u:List Value)(d:Option Addr)(f:Nat)(ab:List Value)(dr:Array Value)(bo:Ac),a' = ⟨dr,[]⟩∧Kn 115 (Ef g p q x_v12 s) (IL x_v22 d x_v21 f l x_v20 m x_v12 a_words words c_words) dr∧Al ⟨w,h,AT⟩ bo (Ef g p q x_v12 s) (N9 ai y ak ad ag x22) [⟨l,x_v20.length,m,3,1,u,0⟩,⟨d,x_v21.length,f,3,1,ab,0⟩,⟨a2,1,1,3,1,([.int .i64 x_v12]:List Value),0⟩,⟨a4,1,1,3,1,([.int .i64 (IntKind.i64.wrap ((IntKind.i64.wrap (2*am))+(Int.tmod x60 2)))]:List Value),0⟩] w'∧Ac.le b4 bo∧Ah bo x_v20 u∧Ah bo x_v21 ab∧De ju  x_v20 x_v21 x_v22=some ay) bx ?_ ?_
      ·
       exact XY x52 ⟨x64,x_v12,a3,a5,bl++([.int .i64 x_v12]:List Value),ce,cf,bm++([.int .i64 (IntKind.i64.wrap ((IntKind.i64.wrap (2*am))+(Int.tmod x60 2)))]:List Value),_,_,rfl,gu.kp,de,Ac.le_refl _,c2,fr,dy⟩
      ·
       rintro dm _ me ⟨x_v20,x_v21,x_v22,l,m,u,d,f,ab,dr,bo,rfl,gv,a6,bj,ax,ar,aa⟩
       clear dy
       obtain _ | dm:=dm
       ·
        rw [De] at aa; cases aa
       rw [De] at aa
       replace bc:=bc.mono bj
       replace a7:=a7.mono bj
       replace hr_words:=hr_words.mono bj
       replace bh:=bh.mono bj
       replace cb:=cb.mono bj
       refine XT (XT ?_)
       obtain⟨fb,a9,aa⟩:=Ap aa
       refine Au (fun a' w'=>∃ (ds:Array Value)(aq:Ac),a' = ⟨ds,[]⟩∧Kn 115 (Ef g p q x_v12 s) [tI 11 x_v22,tS 6 d x_v21.length f,tS 5 l x_v20.length m,tI 7 x_v12,tP 2 0 0,tS 1 a_words words.length c_words,tB 79 fb] ds∧Al ⟨w,h,AT⟩ aq (Ef g p q x_v12 s) (N9 ai y ak ad ag x22) [⟨l,x_v20.length,m,3,1,u,0⟩,⟨d,x_v21.length,f,3,1,ab,0⟩,⟨a2,1,1,3,1,([.int .i64 x_v12]:List Value),0⟩,⟨a4,1,1,3,1,([.int .i64 (IntKind.i64.wrap ((IntKind.i64.wrap (2*am))+(Int.tmod x60 2)))]:List Value),0⟩] w'∧Ac.le bo aq) ?_ ?_
       ·
        refine Ax (by kernel_rfl) ?_
        replace a6:=a6.drew
        refine A5 [] (Ef g p q x_v12 s) (N9 ai y ak ad ag x22) ?_
        refine Dr [0,1,2] [2,1,0] ((tB 68 (decide (x_v22>0)))::(IL x_v22 d x_v21 f l x_v20 m x_v12 a_words words c_words)) gv a6 fun fc d8=>?_
        rcases Bool.eq_false_or_eq_true (decide (x_v22>0)) with ca | ca
        ·
         rw [ca,XW] at a9
         have gw:Kn 115 (Ef g p q x_v12 s) ((tB 68 true)::(IL x_v22 d x_v21 f l x_v20 m x_v12 a_words words c_words)) fc:=(d8.setB 68 true (by rfl) ca).kp
         refine Dr [3,4] (dn 4) ((tI 70 x_v22)::(tS 69 d x_v21.length f)::(tB 68 true)::(IL x_v22 d x_v21 f l x_v20 m x_v12 a_words words c_words)) gw a6 fun lj d9=>?_
         obtain⟨x71,ex71,a9⟩:=Ap a9
         obtain⟨em,ex,jj⟩:=Ak ex71
         have ii:=A9 em ex
         obtain⟨kg,i8,fw⟩:=AB (sz:=1) rfl ar jj
         obtain rfl:=i8
         obtain⟨cu,cg⟩:=AK a6 (i:=1) rfl (b0:=0+(x_v22:Int).toNat*1) (Nat.lt_of_lt_of_le (Nat.lt_add_of_pos_right (by decide)) (Ay (sz:=1) rfl ar ii))
         have bt:=a6.addPlc (b:=cu) (o:=0+(x_v22:Int).toNat*1) (cs:=[]) (fun j c hj=>by simp at hj) rfl (by kernel_rfl) (by kernel_rfl)
         have c3:∀ (e:AM) k c,([.int .i64 x71]:List SC)[k]? = some c→(ab)[0+(x_v22:Int).toNat*1+k]? = some (c.den e):=fun e k c hk=>fw k _ (Am hk)
         refine AG 5 (x_v22) [.int .i64 x71] (fun _ _ _ _ _ h=>h) rfl rfl (Aj d9 (by kernel_rfl)) rfl (by decide) (by kernel_rfl) (by kernel_rfl) d9 a6.plOk (by rfl) (by rfl) (by rfl) cg (by rfl) em ex (by kernel_rfl) fun j1 (gx:Kn 115 [(g,0),(p,q+(x_v12:Int).toNat*3),(s,0),(cu,0+(x_v22:Int).toNat*1)] ((tP 71 3 0)::(tI 70 x_v22)::(tS 69 d x_v21.length f)::(tB 68 true)::(IL x_v22 d x_v21 f l x_v20 m x_v12 a_words words c_words)) j1)=>?_
         refine Dz [6,7,8,9] [9,8,7,6,5,4,3,2,1,0] [75,73,72,68,11,6,5,7,2,1] ((tI 75 (IntKind.i64.wrap (x_v22-1)))::(tS 73 d x_v21.length f)::(tI 72 x71)::(tB 68 true)::(IL x_v22 d x_v21 f l x_v20 m x_v12 a_words words c_words)) (fun _ _ _ _ _ h=>h) gx (A8.peek bt.plOk bt 1 3 rfl rfl cg [.int .i64 x71] (c3 _)) (by kernel_rfl) (by rfl) (by kernel_rfl) fun lk ea=>?_
         obtain⟨x76,ex76,a9⟩:=Ap a9
         obtain⟨en,ey,jk⟩:=Ak ex76
         have ij:=A9 en ey
         obtain⟨kh,i9,fx⟩:=AB (sz:=1) rfl ar jk
         obtain rfl:=i9
         obtain⟨dx,d1⟩:=AK bt (i:=1) rfl (b0:=0+(IntKind.i64.wrap (x_v22-1):Int).toNat*1) (Nat.lt_of_lt_of_le (Nat.lt_add_of_pos_right (by decide)) (Ay (sz:=1) rfl ar ij))
         have cn:=bt.addPlc (b:=dx) (o:=0+(IntKind.i64.wrap (x_v22-1):Int).toNat*1) (cs:=[]) (fun j c hj=>by simp at hj) rfl (by kernel_rfl) (by kernel_rfl)
         have fy:∀ (e:AM) k c,([.int .i64 x76]:List SC)[k]? = some c→(ab)[0+(IntKind.i64.wrap (x_v22-1):Int).toNat*1+k]? = some (c.den e):=fun e k c hk=>fx k _ (Am hk)
         refine AG 10 (IntKind.i64.wrap (x_v22-1)) [.int .i64 x76] (fun _ _ _ _ _ h=>h) rfl rfl (Aj ea (by kernel_rfl)) rfl (by decide) (by kernel_rfl) (by kernel_rfl) ea (A8.peek bt.plOk bt 1 3 rfl rfl cg [.int .i64 x71] (c3 _)) (by rfl) (by rfl) (by rfl) d1 (by rfl) en ey (by kernel_rfl) fun j2 (gy:Kn 115 [(g,0),(p,q+(x_v12:Int).toNat*3),(s,0),(cu,0+(x_v22:Int).toNat*1),(dx,0+(IntKind.i64.wrap (x_v22-1):Int).toNat*1)] ((tP 76 4 0)::(tI 75 (IntKind.i64.wrap (x_v22-1)))::(tS 73 d x_v21.length f)::(tI 72 x71)::(tB 68 true)::(IL x_v22 d x_v21 f l x_v20 m x_v12 a_words words c_words)) j2)=>?_
         refine Dz [11,12,13] [13,12,11,10,9,8,7,6,5,4,3,2,1,0] [79,11,6,5,7,2,1] ((tB 79 (decide (x71<x76)))::(IL x_v22 d x_v21 f l x_v20 m x_v12 a_words words c_words)) (fun _ _ _ _ _ h=>h) gy (A8.peek (A8.peek cn.plOk cn 1 3 rfl rfl cg [.int .i64 x71] (c3 _)) cn 1 4 rfl rfl d1 [.int .i64 x76] (fy _)) (by kernel_rfl) (by rfl) (by kernel_rfl) fun ll gz=>?_
         refine AU (by kernel_rfl) ?_
         obtain rfl:=XZ a9
         exact XY _ ⟨_,rfl,(gz.keep [11,6,5,7,2,1,79] (by rfl)).cut 3 (by kernel_rfl),cn.cutPl 3 (by kernel_rfl),Ac.le_refl _⟩
        ·
         rw [ca,XV] at a9
         have g0:Kn 115 (Ef g p q x_v12 s) ((tB 68 false)::(IL x_v22 d x_v21 f l x_v20 m x_v12 a_words words c_words)) fc:=(d8.setB 68 false (by rfl) ca).kp
         refine Dr [3,4,5,6,7,8,9,10,11,12,13] (dn 13) ((tB 79 false)::(IL x_v22 d x_v21 f l x_v20 m x_v12 a_words words c_words)) g0 a6 fun lm g1=>?_
         refine AU (by kernel_rfl) ?_
         obtain rfl:=XZ a9
         exact XY _ ⟨_,rfl,g1.kp,a6,Ac.le_refl _⟩
       ·
        rintro _ mf ⟨ds,aq,rfl,c7,bk,cl⟩
        replace ax:=ax.mono cl
        replace ar:=ar.mono cl
        refine wC (fb) c7 (fun c0=>?_) (fun c0=>?_)
        ·
         rw [B7 c0] at aa
         refine wp_skip (XT (wp_block (XT (Ax (by kernel_rfl) ?_))))
         replace bk:=bk.drew
         refine A5 [] (Ef g p q x_v12 s) (N9 ai y ak ad ag x22) ?_
         refine Dr [0,1,2,3,4,5,6,7] (dn 7) ((tI 89 (IntKind.i64.wrap (x_v22-1)))::(tS 87 l x_v20.length m)::(Lq x_v22 l x_v20 m d x_v21 f x_v12 a_words words c_words)) c7 bk fun ln g2=>?_
         obtain⟨x90,ex90,aa⟩:=Ap aa
         obtain⟨eo,ez,jl⟩:=Ak ex90
         have ik:=A9 eo ez
         obtain⟨ki,ja,fz⟩:=AB (sz:=1) rfl ax jl
         obtain rfl:=ja
         obtain⟨ae,b8⟩:=AK bk (i:=0) rfl (b0:=0+(IntKind.i64.wrap (x_v22-1):Int).toNat*1) (Nat.lt_of_lt_of_le (Nat.lt_add_of_pos_right (by decide)) (Ay (sz:=1) rfl ax ik))
         have bu:=bk.addPlc (b:=ae) (o:=0+(IntKind.i64.wrap (x_v22-1):Int).toNat*1) (cs:=[]) (fun j c hj=>by simp at hj) rfl (by kernel_rfl) (by kernel_rfl)
         have ch:∀ (e:AM) k c,([.int .i64 x90]:List SC)[k]? = some c→(u)[0+(IntKind.i64.wrap (x_v22-1):Int).toNat*1+k]? = some (c.den e):=fun e k c hk=>fz k _ (Am hk)
         refine AG 8 (IntKind.i64.wrap (x_v22-1)) [.int .i64 x90] (fun _ _ _ _ _ h=>h) rfl rfl (rfl) rfl (by decide) (by kernel_rfl) (by kernel_rfl) g2 bk.plOk (by rfl) (by rfl) (by rfl) b8 (by rfl) eo ez (by kernel_rfl) fun j3 (g3:Kn 115 [(g,0),(p,q+(x_v12:Int).toNat*3),(s,0),(ae,0+(IntKind.i64.wrap (x_v22-1):Int).toNat*1)] ((tP 90 3 0)::(tI 89 (IntKind.i64.wrap (x_v22-1)))::(tS 87 l x_v20.length m)::(Lq x_v22 l x_v20 m d x_v21 f x_v12 a_words words c_words)) j3)=>?_
         refine Dz [9,10,11] [11,10,9,8,7,6,5,4,3,2,1,0] [93,92,91,86,84,83,82,11,6,5,7,2,1] ((tI 93 x_v22)::(tS 92 l x_v20.length m)::(tI 91 x90)::(Lq x_v22 l x_v20 m d x_v21 f x_v12 a_words words c_words)) (fun _ _ _ _ _ h=>h) g3 (A8.peek bu.plOk bu 0 3 rfl rfl b8 [.int .i64 x90] (ch _)) (by kernel_rfl) (by rfl) (by kernel_rfl) fun lp g4=>?_
         obtain⟨x94,ex94,aa⟩:=Ap aa
         obtain⟨ep,e0,jm⟩:=Ak ex94
         have il:=A9 ep e0
         obtain⟨kj,jb,f0⟩:=AB (sz:=1) rfl ax jm
         obtain rfl:=jb
         obtain⟨ah,cw⟩:=AK bu (i:=0) rfl (b0:=0+(x_v22:Int).toNat*1) (Nat.lt_of_lt_of_le (Nat.lt_add_of_pos_right (by decide)) (Ay (sz:=1) rfl ax il))
         have ba:=bu.addPlc (b:=ah) (o:=0+(x_v22:Int).toNat*1) (cs:=[]) (fun j c hj=>by simp at hj) rfl (by kernel_rfl) (by kernel_rfl)
         have d6:∀ (e:AM) k c,([.int .i64 x94]:List SC)[k]? = some c→(u)[0+(x_v22:Int).toNat*1+k]? = some (c.den e):=fun e k c hk=>f0 k _ (Am hk)
         refine AG 12 (x_v22) [.int .i64 x94] (fun _ _ _ _ _ h=>h) rfl rfl (rfl) rfl (by decide) (by kernel_rfl) (by kernel_rfl) g4 (A8.peek bu.plOk bu 0 3 rfl rfl b8 [.int .i64 x90] (ch _)) (by rfl) (by rfl) (by rfl) cw (by rfl) ep e0 (by kernel_rfl) fun j4 (g5:Kn 115 [(g,0),(p,q+(x_v12:Int).toNat*3),(s,0),(ae,0+(IntKind.i64.wrap (x_v22-1):Int).toNat*1),(ah,0+(x_v22:Int).toNat*1)] ((tP 94 4 0)::(tI 93 x_v22)::(tS 92 l x_v20.length m)::(tI 91 x90)::(Lq x_v22 l x_v20 m d x_v21 f x_v12 a_words words c_words)) j4)=>?_
         refine Dz [13] [13,12,11,10,9,8,7,6,5,4,3,2,1,0] [95,91,86,84,83,82,11,6,5,7,2,1] ((tI 95 x94)::(tI 91 x90)::(Lq x_v22 l x_v20 m d x_v21 f x_v12 a_words words c_words)) (fun _ _ _ _ _ h=>h) g5 (A8.peek (A8.peek ba.plOk ba 0 3 rfl rfl b8 [.int .i64 x90] (ch _)) ba 0 4 rfl rfl cw [.int .i64 x94] (d6 _)) (by kernel_rfl) (by rfl) (by kernel_rfl) fun lq g6=>?_
         obtain⟨x96,ex96,aa⟩:=Ap aa
         obtain⟨er,e1,jn⟩:=Ak ex96
         have c9:=A9 er e1
         obtain⟨kk,jc,f1⟩:=AB (sz:=1) rfl ax jn
         obtain rfl:=jc
         obtain⟨aj,d2⟩:=AK ba (i:=0) rfl (b0:=0+(x_v22:Int).toNat*1) (Nat.lt_of_lt_of_le (Nat.lt_add_of_pos_right (by decide)) (Ay (sz:=1) rfl ax c9))
         have iv:=ba.addPlc (b:=aj) (o:=0+(x_v22:Int).toNat*1) (cs:=[]) (fun j c hj=>by simp at hj) rfl (by kernel_rfl) (by kernel_rfl)
         have ks:∀ (e:AM) k c,([.int .i64 x96]:List SC)[k]? = some c→(u)[0+(x_v22:Int).toNat*1+k]? = some (c.den e):=fun e k c hk=>f1 k _ (Am hk)
         refine AG 14 (x_v22) [.int .i64 x96] (fun _ _ _ _ _ h=>h) rfl rfl (rfl) rfl (by decide) (by kernel_rfl) (by kernel_rfl) g6 (A8.peek (A8.peek ba.plOk ba 0 3 rfl rfl b8 [.int .i64 x90] (ch _)) ba 0 4 rfl rfl cw [.int .i64 x94] (d6 _)) (by rfl) (by rfl) (by rfl) d2 (by rfl) er e1 (by kernel_rfl) fun fd (g7:Kn 115 [(g,0),(p,q+(x_v12:Int).toNat*3),(s,0),(ae,0+(IntKind.i64.wrap (x_v22-1):Int).toNat*1),(ah,0+(x_v22:Int).toNat*1),(aj,0+(x_v22:Int).toNat*1)] ((tP 96 5 0)::(tI 95 x94)::(tI 91 x90)::(Lq x_v22 l x_v20 m d x_v21 f x_v12 a_words words c_words)) fd)=>?_
         obtain⟨a0,fh,aa⟩:=Ap aa
         obtain⟨ky,k2,e7⟩:=Cr fh
         refine Et 15 rfl (by kernel_rfl) (by decide) (rfl) (by kernel_rfl) fun K hK=>?_
         refine BA 0 5 0 (0+(x_v22:Int).toNat*1) (.c (.int .i64 x90)) g7 iv rfl rfl (by rfl) (by rfl) rfl rfl d2 rfl (by kernel_rfl) (Ay (sz:=1) rfl ax c9) fun kb g8 iw=>?_
         have ci:Ah aq a0 (u.take (0+(x_v22:Int).toNat*1+0)++([.int .i64 x90]:List Value)++u.drop (0+(x_v22:Int).toNat*1+0+1)):=by rw [e7]; exact CZ (sz:=1) rfl ax c9 (Ad:rep aq (x90:Int) _)
         have ei:x_v20.length=a0.length:=by rw [e7]; simp
         have g9:Kn 115 [(g,0),(p,q+(x_v12:Int).toNat*3),(s,0),(ae,0+(IntKind.i64.wrap (x_v22-1):Int).toNat*1),(ah,0+(x_v22:Int).toNat*1),(aj,0+(x_v22:Int).toNat*1)] [(96,.one (.c (.ptr 5 0))),(95,.one (.c (.int .i64 x94))),(91,.one (.c (.int .i64 x90))),(86,.one (.c (.int .i64 (IntKind.i64.wrap (x_v22-1))))),(84,.one (.c (.slice l a0.length m))),(83,.one (.c (.int .i64 x_v22))),(82,.one (.c (.slice l a0.length m))),(11,.one (.c (.int .i64 x_v22))),(6,.one (.c (.slice d x_v21.length f))),(5,.one (.c (.slice l a0.length m))),(7,.one (.c (.int .i64 x_v12))),(2,.one (.c (.ptr 0 0))),(1,.one (.c (.slice a_words words.length c_words)))] fd:=by rw [← ei]; exact g8
         have df:Al ⟨w,h,AT⟩ aq [(g,0),(p,q+(x_v12:Int).toNat*3),(s,0),(ae,0+(IntKind.i64.wrap (x_v22-1):Int).toNat*1),(ah,0+(x_v22:Int).toNat*1),(aj,0+(x_v22:Int).toNat*1)] [⟨[.slice ai y.room.length ak,.slice ad y.buses.length ag,.int .i64 y.broken],some 25⟩,⟨[.int .i64 x22.lo,.int .i64 x22.hi,.int .i64 x22.turn],none⟩,⟨[.int .i64 x22.lo,.int .i64 x22.hi,.int .i64 x22.turn],some 49⟩,⟨[],none⟩,⟨[],none⟩,⟨[],none⟩] [⟨l,a0.length,m,3,1,u.take (0+(x_v22:Int).toNat*1+0)++([.int .i64 x90]:List Value)++u.drop (0+(x_v22:Int).toNat*1+0+1),0⟩,⟨d,x_v21.length,f,3,1,ab,0⟩,⟨a2,1,1,3,1,([.int .i64 x_v12]:List Value),0⟩,⟨a4,1,1,3,1,([.int .i64 (IntKind.i64.wrap ((IntKind.i64.wrap (2*am))+(Int.tmod x60 2)))]:List Value),0⟩] kb:=by rw [← ei]; exact iw
         refine hK _ _ ?_
         refine A5 [] [(g,0),(p,q+(x_v12:Int).toNat*3),(s,0),(ae,0+(IntKind.i64.wrap (x_v22-1):Int).toNat*1),(ah,0+(x_v22:Int).toNat*1),(aj,0+(x_v22:Int).toNat*1)] [⟨HJ ai y ak ad ag,some 25⟩,⟨Hc x22,none⟩,⟨Hc x22,some 49⟩,⟨[],none⟩,⟨[],none⟩,⟨[],none⟩] ?_
         obtain⟨x97,ex97,aa⟩:=Ap aa
         obtain⟨es,e2,jo⟩:=Ak ex97
         have da:=A9 es e2
         obtain⟨kl,jd,f2⟩:=AB (sz:=1) rfl ci jo
         obtain rfl:=jd
         obtain⟨ao,d3⟩:=AK df (i:=0) rfl (b0:=0+(IntKind.i64.wrap (x_v22-1):Int).toNat*1) (Nat.lt_of_lt_of_le (Nat.lt_add_of_pos_right (by decide)) (Ay (sz:=1) rfl ci da))
         have ix:=df.addPlc (b:=ao) (o:=0+(IntKind.i64.wrap (x_v22-1):Int).toNat*1) (cs:=[]) (fun j c hj=>by simp at hj) rfl (by kernel_rfl) (by kernel_rfl)
         have kt:∀ (e:AM) k c,([.int .i64 x97]:List SC)[k]? = some c→((u.take (0+(x_v22:Int).toNat*1+0)++([.int .i64 x90]:List Value)++u.drop (0+(x_v22:Int).toNat*1+0+1)))[0+(IntKind.i64.wrap (x_v22-1):Int).toNat*1+k]? = some (c.den e):=fun e k c hk=>f2 k _ (Am hk)
         refine AG 16 (IntKind.i64.wrap (x_v22-1)) [.int .i64 x97] (fun _ _ _ _ _ h=>h) rfl rfl (rfl) rfl (by decide) (by kernel_rfl) (by kernel_rfl) g9 df.plOk (by rfl) (by rfl) (by rfl) d3 (by rfl) es e2 (by kernel_rfl) fun dt (ha:Kn 115 (Ta g p q x_v12 s ae x_v22 ah aj ao) ((tP 97 6 0)::(tP 96 5 0)::(tI 95 x94)::(tI 91 x90)::(tI 86 (IntKind.i64.wrap (x_v22-1)))::(tS 84 l a0.length m)::(tI 83 x_v22)::(tS 82 l a0.length m)::(tI 11 x_v22)::(tS 6 d x_v21.length f)::(tS 5 l a0.length m)::(tI 7 x_v12)::(DR a_words words c_words)) dt)=>?_
         obtain⟨an,fi,aa⟩:=Ap aa
         obtain⟨kz,k3,e8⟩:=Cr fi
         refine Et 17 rfl (by kernel_rfl) (by decide) (rfl) (by kernel_rfl) fun K hK=>?_
         refine BA 0 6 0 (0+(IntKind.i64.wrap (x_v22-1):Int).toNat*1) (.c (.int .i64 x94)) ha ix rfl rfl (by rfl) (by rfl) rfl rfl d3 rfl (by kernel_rfl) (Ay (sz:=1) rfl ci da) fun kc hb iy=>?_
         have f3:Ah aq an ((u.take (0+(x_v22:Int).toNat*1+0)++([.int .i64 x90]:List Value)++u.drop (0+(x_v22:Int).toNat*1+0+1)).take (0+(IntKind.i64.wrap (x_v22-1):Int).toNat*1+0)++([.int .i64 x94]:List Value)++(u.take (0+(x_v22:Int).toNat*1+0)++([.int .i64 x90]:List Value)++u.drop (0+(x_v22:Int).toNat*1+0+1)).drop (0+(IntKind.i64.wrap (x_v22-1):Int).toNat*1+0+1)):=by rw [e8]; exact CZ (sz:=1) rfl ci da (Ad:rep aq (x94:Int) _)
         have ej:a0.length=an.length:=by rw [e8]; simp
         have hc:Kn 115 [(g,0),(p,q+(x_v12:Int).toNat*3),(s,0),(ae,0+(IntKind.i64.wrap (x_v22-1):Int).toNat*1),(ah,0+(x_v22:Int).toNat*1),(aj,0+(x_v22:Int).toNat*1),(ao,0+(IntKind.i64.wrap (x_v22-1):Int).toNat*1)] [(97,.one (.c (.ptr 6 0))),(96,.one (.c (.ptr 5 0))),(95,.one (.c (.int .i64 x94))),(91,.one (.c (.int .i64 x90))),(86,.one (.c (.int .i64 (IntKind.i64.wrap (x_v22-1))))),(84,.one (.c (.slice l an.length m))),(83,.one (.c (.int .i64 x_v22))),(82,.one (.c (.slice l an.length m))),(11,.one (.c (.int .i64 x_v22))),(6,.one (.c (.slice d x_v21.length f))),(5,.one (.c (.slice l an.length m))),(7,.one (.c (.int .i64 x_v12))),(2,.one (.c (.ptr 0 0))),(1,.one (.c (.slice a_words words.length c_words)))] dt:=by rw [← ej]; exact hb
         have bv:Al ⟨w,h,AT⟩ aq [(g,0),(p,q+(x_v12:Int).toNat*3),(s,0),(ae,0+(IntKind.i64.wrap (x_v22-1):Int).toNat*1),(ah,0+(x_v22:Int).toNat*1),(aj,0+(x_v22:Int).toNat*1),(ao,0+(IntKind.i64.wrap (x_v22-1):Int).toNat*1)] [⟨[.slice ai y.room.length ak,.slice ad y.buses.length ag,.int .i64 y.broken],some 25⟩,⟨[.int .i64 x22.lo,.int .i64 x22.hi,.int .i64 x22.turn],none⟩,⟨[.int .i64 x22.lo,.int .i64 x22.hi,.int .i64 x22.turn],some 49⟩,⟨[],none⟩,⟨[],none⟩,⟨[],none⟩,⟨[],none⟩] [⟨l,an.length,m,3,1,(u.take (0+(x_v22:Int).toNat*1+0)++([.int .i64 x90]:List Value)++u.drop (0+(x_v22:Int).toNat*1+0+1)).take (0+(IntKind.i64.wrap (x_v22-1):Int).toNat*1+0)++([.int .i64 x94]:List Value)++(u.take (0+(x_v22:Int).toNat*1+0)++([.int .i64 x90]:List Value)++u.drop (0+(x_v22:Int).toNat*1+0+1)).drop (0+(IntKind.i64.wrap (x_v22-1):Int).toNat*1+0+1),0⟩,⟨d,x_v21.length,f,3,1,ab,0⟩,⟨a2,1,1,3,1,([.int .i64 x_v12]:List Value),0⟩,⟨a4,1,1,3,1,([.int .i64 (IntKind.i64.wrap ((IntKind.i64.wrap (2*am))+(Int.tmod x60 2)))]:List Value),0⟩] kc:=by rw [← ej]; exact iy
         refine hK _ _ ?_
         have hd:Kn 115 (Ta g p q x_v12 s ae x_v22 ah aj ao) ((tI 11 x_v22)::(tS 6 d x_v21.length f)::(tS 5 l an.length m)::(tI 7 x_v12)::(DR a_words words c_words)) dt:=hc.kp
         refine Ko (by kernel_rfl) (Ax (by kernel_rfl) ?_)
         replace bv:=bv.drew
         refine A5 [] (Ta g p q x_v12 s ae x_v22 ah aj ao) [⟨HJ ai y ak ad ag,some 25⟩,⟨Hc x22,none⟩,⟨Hc x22,some 49⟩,⟨[],none⟩,⟨[],none⟩,⟨[],none⟩,⟨[],none⟩] ?_
         refine Dr [0,1,2,3,4,5,6,7] (dn 7) ((tI 105 (IntKind.i64.wrap (x_v22-1)))::(tS 103 d x_v21.length f)::(Lp x_v22 d x_v21 f l an m x_v12 a_words words c_words)) hd bv fun lr he=>?_
         obtain⟨x106,ex106,aa⟩:=Ap aa
         obtain⟨et,e3,jp⟩:=Ak ex106
         have im:=A9 et e3
         obtain⟨km,je,f4⟩:=AB (sz:=1) rfl ar jp
         obtain rfl:=je
         obtain⟨ap,b9⟩:=AK bv (i:=1) rfl (b0:=0+(IntKind.i64.wrap (x_v22-1):Int).toNat*1) (Nat.lt_of_lt_of_le (Nat.lt_add_of_pos_right (by decide)) (Ay (sz:=1) rfl ar im))
         have bw:=bv.addPlc (b:=ap) (o:=0+(IntKind.i64.wrap (x_v22-1):Int).toNat*1) (cs:=[]) (fun j c hj=>by simp at hj) rfl (by kernel_rfl) (by kernel_rfl)
         have cj:∀ (e:AM) k c,([.int .i64 x106]:List SC)[k]? = some c→(ab)[0+(IntKind.i64.wrap (x_v22-1):Int).toNat*1+k]? = some (c.den e):=fun e k c hk=>f4 k _ (Am hk)
         refine AG 8 (IntKind.i64.wrap (x_v22-1)) [.int .i64 x106] (fun _ _ _ _ _ h=>h) rfl rfl (rfl) rfl (by decide) (by kernel_rfl) (by kernel_rfl) he bv.plOk (by rfl) (by rfl) (by rfl) b9 (by rfl) et e3 (by kernel_rfl) fun j5 (hf:Kn 115 [(g,0),(p,q+(x_v12:Int).toNat*3),(s,0),(ae,0+(IntKind.i64.wrap (x_v22-1):Int).toNat*1),(ah,0+(x_v22:Int).toNat*1),(aj,0+(x_v22:Int).toNat*1),(ao,0+(IntKind.i64.wrap (x_v22-1):Int).toNat*1),(ap,0+(IntKind.i64.wrap (x_v22-1):Int).toNat*1)] ((tP 106 7 0)::(tI 105 (IntKind.i64.wrap (x_v22-1)))::(tS 103 d x_v21.length f)::(Lp x_v22 d x_v21 f l an m x_v12 a_words words c_words)) j5)=>?_
         refine Dz [9,10,11] [11,10,9,8,7,6,5,4,3,2,1,0] [109,108,107,102,100,99,98,11,6,5,7,2,1] ((tI 109 x_v22)::(tS 108 d x_v21.length f)::(tI 107 x106)::(Lp x_v22 d x_v21 f l an m x_v12 a_words words c_words)) (fun _ _ _ _ _ h=>h) hf (A8.peek bw.plOk bw 1 7 rfl rfl b9 [.int .i64 x106] (cj _)) (by kernel_rfl) (by rfl) (by kernel_rfl) fun ls hg=>?_
         obtain⟨x110,ex110,aa⟩:=Ap aa
         obtain⟨eu,e4,jq⟩:=Ak ex110
         have io:=A9 eu e4
         obtain⟨kn,jf,f5⟩:=AB (sz:=1) rfl ar jq
         obtain rfl:=jf
         obtain⟨au,cx⟩:=AK bw (i:=1) rfl (b0:=0+(x_v22:Int).toNat*1) (Nat.lt_of_lt_of_le (Nat.lt_add_of_pos_right (by decide)) (Ay (sz:=1) rfl ar io))
         have bb:=bw.addPlc (b:=au) (o:=0+(x_v22:Int).toNat*1) (cs:=[]) (fun j c hj=>by simp at hj) rfl (by kernel_rfl) (by kernel_rfl)
         have d7:∀ (e:AM) k c,([.int .i64 x110]:List SC)[k]? = some c→(ab)[0+(x_v22:Int).toNat*1+k]? = some (c.den e):=fun e k c hk=>f5 k _ (Am hk)
         refine AG 12 (x_v22) [.int .i64 x110] (fun _ _ _ _ _ h=>h) rfl rfl (rfl) rfl (by decide) (by kernel_rfl) (by kernel_rfl) hg (A8.peek bw.plOk bw 1 7 rfl rfl b9 [.int .i64 x106] (cj _)) (by rfl) (by rfl) (by rfl) cx (by rfl) eu e4 (by kernel_rfl) fun j6 (hl:Kn 115 [(g,0),(p,q+(x_v12:Int).toNat*3),(s,0),(ae,0+(IntKind.i64.wrap (x_v22-1):Int).toNat*1),(ah,0+(x_v22:Int).toNat*1),(aj,0+(x_v22:Int).toNat*1),(ao,0+(IntKind.i64.wrap (x_v22-1):Int).toNat*1),(ap,0+(IntKind.i64.wrap (x_v22-1):Int).toNat*1),(au,0+(x_v22:Int).toNat*1)] ((tP 110 8 0)::(tI 109 x_v22)::(tS 108 d x_v21.length f)::(tI 107 x106)::(Lp x_v22 d x_v21 f l an m x_v12 a_words words c_words)) j6)=>?_
         refine Dz [13] [13,12,11,10,9,8,7,6,5,4,3,2,1,0] [111,107,102,100,99,98,11,6,5,7,2,1] ((tI 111 x110)::(tI 107 x106)::(Lp x_v22 d x_v21 f l an m x_v12 a_words words c_words)) (fun _ _ _ _ _ h=>h) hl (A8.peek (A8.peek bb.plOk bb 1 7 rfl rfl b9 [.int .i64 x106] (cj _)) bb 1 8 rfl rfl cx [.int .i64 x110] (d7 _)) (by kernel_rfl) (by rfl) (by kernel_rfl) fun lu hn=>?_
         obtain⟨x112,ex112,aa⟩:=Ap aa
         obtain⟨ev,e5,jr⟩:=Ak ex112
         have db:=A9 ev e5
         obtain⟨ko,jg,f6⟩:=AB (sz:=1) rfl ar jr
         obtain rfl:=jg
         obtain⟨aw,d4⟩:=AK bb (i:=1) rfl (b0:=0+(x_v22:Int).toNat*1) (Nat.lt_of_lt_of_le (Nat.lt_add_of_pos_right (by decide)) (Ay (sz:=1) rfl ar db))
         have iz:=bb.addPlc (b:=aw) (o:=0+(x_v22:Int).toNat*1) (cs:=[]) (fun j c hj=>by simp at hj) rfl (by kernel_rfl) (by kernel_rfl)
         have ku:∀ (e:AM) k c,([.int .i64 x112]:List SC)[k]? = some c→(ab)[0+(x_v22:Int).toNat*1+k]? = some (c.den e):=fun e k c hk=>f6 k _ (Am hk)
         refine AG 14 (x_v22) [.int .i64 x112] (fun _ _ _ _ _ h=>h) rfl rfl (rfl) rfl (by decide) (by kernel_rfl) (by kernel_rfl) hn (A8.peek (A8.peek bb.plOk bb 1 7 rfl rfl b9 [.int .i64 x106] (cj _)) bb 1 8 rfl rfl cx [.int .i64 x110] (d7 _)) (by rfl) (by rfl) (by rfl) d4 (by rfl) ev e5 (by kernel_rfl) fun fe (ho:Kn 115 (TK g p q x_v12 s ae x_v22 ah aj ao ap au aw) ((tP 112 9 0)::(tI 111 x110)::(tI 107 x106)::(Lp x_v22 d x_v21 f l an m x_v12 a_words words c_words)) fe)=>?_
         obtain⟨a1,fj,aa⟩:=Ap aa
         obtain⟨k0,k4,e9⟩:=Cr fj
         refine Et 15 rfl (by kernel_rfl) (by decide) (rfl) (by kernel_rfl) fun K hK=>?_
         refine BA 1 9 0 (0+(x_v22:Int).toNat*1) (.c (.int .i64 x106)) ho iz rfl rfl (by rfl) (by rfl) rfl rfl d4 rfl (by kernel_rfl) (Ay (sz:=1) rfl ar db) fun kd hp i0=>?_
         have ck:Ah aq a1 (ab.take (0+(x_v22:Int).toNat*1+0)++([.int .i64 x106]:List Value)++ab.drop (0+(x_v22:Int).toNat*1+0+1)):=by rw [e9]; exact CZ (sz:=1) rfl ar db (Ad:rep aq (x106:Int) _)
         have ek:x_v21.length=a1.length:=by rw [e9]; simp
         have hq:Kn 115 [(g,0),(p,q+(x_v12:Int).toNat*3),(s,0),(ae,0+(IntKind.i64.wrap (x_v22-1):Int).toNat*1),(ah,0+(x_v22:Int).toNat*1),(aj,0+(x_v22:Int).toNat*1),(ao,0+(IntKind.i64.wrap (x_v22-1):Int).toNat*1),(ap,0+(IntKind.i64.wrap (x_v22-1):Int).toNat*1),(au,0+(x_v22:Int).toNat*1),(aw,0+(x_v22:Int).toNat*1)] [(112,.one (.c (.ptr 9 0))),(111,.one (.c (.int .i64 x110))),(107,.one (.c (.int .i64 x106))),(102,.one (.c (.int .i64 (IntKind.i64.wrap (x_v22-1))))),(100,.one (.c (.slice d a1.length f))),(99,.one (.c (.int .i64 x_v22))),(98,.one (.c (.slice d a1.length f))),(11,.one (.c (.int .i64 x_v22))),(6,.one (.c (.slice d a1.length f))),(5,.one (.c (.slice l an.length m))),(7,.one (.c (.int .i64 x_v12))),(2,.one (.c (.ptr 0 0))),(1,.one (.c (.slice a_words words.length c_words)))] fe:=by rw [← ek]; exact hp
         have dg:Al ⟨w,h,AT⟩ aq [(g,0),(p,q+(x_v12:Int).toNat*3),(s,0),(ae,0+(IntKind.i64.wrap (x_v22-1):Int).toNat*1),(ah,0+(x_v22:Int).toNat*1),(aj,0+(x_v22:Int).toNat*1),(ao,0+(IntKind.i64.wrap (x_v22-1):Int).toNat*1),(ap,0+(IntKind.i64.wrap (x_v22-1):Int).toNat*1),(au,0+(x_v22:Int).toNat*1),(aw,0+(x_v22:Int).toNat*1)] [⟨[.slice ai y.room.length ak,.slice ad y.buses.length ag,.int .i64 y.broken],some 25⟩,⟨[.int .i64 x22.lo,.int .i64 x22.hi,.int .i64 x22.turn],none⟩,⟨[.int .i64 x22.lo,.int .i64 x22.hi,.int .i64 x22.turn],some 49⟩,⟨[],none⟩,⟨[],none⟩,⟨[],none⟩,⟨[],none⟩,⟨[],none⟩,⟨[],none⟩,⟨[],none⟩] [⟨l,an.length,m,3,1,(u.take (0+(x_v22:Int).toNat*1+0)++([.int .i64 x90]:List Value)++u.drop (0+(x_v22:Int).toNat*1+0+1)).take (0+(IntKind.i64.wrap (x_v22-1):Int).toNat*1+0)++([.int .i64 x94]:List Value)++(u.take (0+(x_v22:Int).toNat*1+0)++([.int .i64 x90]:List Value)++u.drop (0+(x_v22:Int).toNat*1+0+1)).drop (0+(IntKind.i64.wrap (x_v22-1):Int).toNat*1+0+1),0⟩,⟨d,a1.length,f,3,1,ab.take (0+(x_v22:Int).toNat*1+0)++([.int .i64 x106]:List Value)++ab.drop (0+(x_v22:Int).toNat*1+0+1),0⟩,⟨a2,1,1,3,1,([.int .i64 x_v12]:List Value),0⟩,⟨a4,1,1,3,1,([.int .i64 (IntKind.i64.wrap ((IntKind.i64.wrap (2*am))+(Int.tmod x60 2)))]:List Value),0⟩] kd:=by rw [← ek]; exact i0
         refine hK _ _ ?_
         refine A5 [] (TK g p q x_v12 s ae x_v22 ah aj ao ap au aw) [⟨HJ ai y ak ad ag,some 25⟩,⟨Hc x22,none⟩,⟨Hc x22,some 49⟩,⟨[],none⟩,⟨[],none⟩,⟨[],none⟩,⟨[],none⟩,⟨[],none⟩,⟨[],none⟩,⟨[],none⟩] ?_
         obtain⟨x113,ex113,aa⟩:=Ap aa
         obtain⟨ew,e6,js⟩:=Ak ex113
         have dc:=A9 ew e6
         obtain⟨kq,jh,f7⟩:=AB (sz:=1) rfl ck js
         obtain rfl:=jh
         obtain⟨be,d5⟩:=AK dg (i:=1) rfl (b0:=0+(IntKind.i64.wrap (x_v22-1):Int).toNat*1) (Nat.lt_of_lt_of_le (Nat.lt_add_of_pos_right (by decide)) (Ay (sz:=1) rfl ck dc))
         have i1:=dg.addPlc (b:=be) (o:=0+(IntKind.i64.wrap (x_v22-1):Int).toNat*1) (cs:=[]) (fun j c hj=>by simp at hj) rfl (by kernel_rfl) (by kernel_rfl)
         have kw:∀ (e:AM) k c,([.int .i64 x113]:List SC)[k]? = some c→((ab.take (0+(x_v22:Int).toNat*1+0)++([.int .i64 x106]:List Value)++ab.drop (0+(x_v22:Int).toNat*1+0+1)))[0+(IntKind.i64.wrap (x_v22-1):Int).toNat*1+k]? = some (c.den e):=fun e k c hk=>f7 k _ (Am hk)
         refine AG 16 (IntKind.i64.wrap (x_v22-1)) [.int .i64 x113] (fun _ _ _ _ _ h=>h) rfl rfl (rfl) rfl (by decide) (by kernel_rfl) (by kernel_rfl) hq dg.plOk (by rfl) (by rfl) (by rfl) d5 (by rfl) ew e6 (by kernel_rfl) fun du (hr:Kn 115 (TL g p q x_v12 s ae x_v22 ah aj ao ap au aw be) ((tP 113 10 0)::(tP 112 9 0)::(tI 111 x110)::(tI 107 x106)::(tI 102 (IntKind.i64.wrap (x_v22-1)))::(tS 100 d a1.length f)::(tI 99 x_v22)::(tS 98 d a1.length f)::(tI 11 x_v22)::(tS 6 d a1.length f)::(tS 5 l an.length m)::(tI 7 x_v12)::(DR a_words words c_words)) du)=>?_
         obtain⟨a8,fk,aa⟩:=Ap aa
         obtain⟨k1,k5,fa⟩:=Cr fk
         refine Et 17 rfl (by kernel_rfl) (by decide) (rfl) (by kernel_rfl) fun K hK=>?_
         refine BA 1 10 0 (0+(IntKind.i64.wrap (x_v22-1):Int).toNat*1) (.c (.int .i64 x110)) hr i1 rfl rfl (by rfl) (by rfl) rfl rfl d5 rfl (by kernel_rfl) (Ay (sz:=1) rfl ck dc) fun ke hs i2=>?_
         have f8:Ah aq a8 ((ab.take (0+(x_v22:Int).toNat*1+0)++([.int .i64 x106]:List Value)++ab.drop (0+(x_v22:Int).toNat*1+0+1)).take (0+(IntKind.i64.wrap (x_v22-1):Int).toNat*1+0)++([.int .i64 x110]:List Value)++(ab.take (0+(x_v22:Int).toNat*1+0)++([.int .i64 x106]:List Value)++ab.drop (0+(x_v22:Int).toNat*1+0+1)).drop (0+(IntKind.i64.wrap (x_v22-1):Int).toNat*1+0+1)):=by rw [fa]; exact CZ (sz:=1) rfl ck dc (Ad:rep aq (x110:Int) _)
         have el:a1.length=a8.length:=by rw [fa]; simp
         have ht:Kn 115 [(g,0),(p,q+(x_v12:Int).toNat*3),(s,0),(ae,0+(IntKind.i64.wrap (x_v22-1):Int).toNat*1),(ah,0+(x_v22:Int).toNat*1),(aj,0+(x_v22:Int).toNat*1),(ao,0+(IntKind.i64.wrap (x_v22-1):Int).toNat*1),(ap,0+(IntKind.i64.wrap (x_v22-1):Int).toNat*1),(au,0+(x_v22:Int).toNat*1),(aw,0+(x_v22:Int).toNat*1),(be,0+(IntKind.i64.wrap (x_v22-1):Int).toNat*1)] [(113,.one (.c (.ptr 10 0))),(112,.one (.c (.ptr 9 0))),(111,.one (.c (.int .i64 x110))),(107,.one (.c (.int .i64 x106))),(102,.one (.c (.int .i64 (IntKind.i64.wrap (x_v22-1))))),(100,.one (.c (.slice d a8.length f))),(99,.one (.c (.int .i64 x_v22))),(98,.one (.c (.slice d a8.length f))),(11,.one (.c (.int .i64 x_v22))),(6,.one (.c (.slice d a8.length f))),(5,.one (.c (.slice l an.length m))),(7,.one (.c (.int .i64 x_v12))),(2,.one (.c (.ptr 0 0))),(1,.one (.c (.slice a_words words.length c_words)))] du:=by rw [← el]; exact hs
         have ef:Al ⟨w,h,AT⟩ aq [(g,0),(p,q+(x_v12:Int).toNat*3),(s,0),(ae,0+(IntKind.i64.wrap (x_v22-1):Int).toNat*1),(ah,0+(x_v22:Int).toNat*1),(aj,0+(x_v22:Int).toNat*1),(ao,0+(IntKind.i64.wrap (x_v22-1):Int).toNat*1),(ap,0+(IntKind.i64.wrap (x_v22-1):Int).toNat*1),(au,0+(x_v22:Int).toNat*1),(aw,0+(x_v22:Int).toNat*1),(be,0+(IntKind.i64.wrap (x_v22-1):Int).toNat*1)] [⟨[.slice ai y.room.length ak,.slice ad y.buses.length ag,.int .i64 y.broken],some 25⟩,⟨[.int .i64 x22.lo,.int .i64 x22.hi,.int .i64 x22.turn],none⟩,⟨[.int .i64 x22.lo,.int .i64 x22.hi,.int .i64 x22.turn],some 49⟩,⟨[],none⟩,⟨[],none⟩,⟨[],none⟩,⟨[],none⟩,⟨[],none⟩,⟨[],none⟩,⟨[],none⟩,⟨[],none⟩] [⟨l,an.length,m,3,1,(u.take (0+(x_v22:Int).toNat*1+0)++([.int .i64 x90]:List Value)++u.drop (0+(x_v22:Int).toNat*1+0+1)).take (0+(IntKind.i64.wrap (x_v22-1):Int).toNat*1+0)++([.int .i64 x94]:List Value)++(u.take (0+(x_v22:Int).toNat*1+0)++([.int .i64 x90]:List Value)++u.drop (0+(x_v22:Int).toNat*1+0+1)).drop (0+(IntKind.i64.wrap (x_v22-1):Int).toNat*1+0+1),0⟩,⟨d,a8.length,f,3,1,(ab.take (0+(x_v22:Int).toNat*1+0)++([.int .i64 x106]:List Value)++ab.drop (0+(x_v22:Int).toNat*1+0+1)).take (0+(IntKind.i64.wrap (x_v22-1):Int).toNat*1+0)++([.int .i64 x110]:List Value)++(ab.take (0+(x_v22:Int).toNat*1+0)++([.int .i64 x106]:List Value)++ab.drop (0+(x_v22:Int).toNat*1+0+1)).drop (0+(IntKind.i64.wrap (x_v22-1):Int).toNat*1+0+1),0⟩,⟨a2,1,1,3,1,([.int .i64 x_v12]:List Value),0⟩,⟨a4,1,1,3,1,([.int .i64 (IntKind.i64.wrap ((IntKind.i64.wrap (2*am))+(Int.tmod x60 2)))]:List Value),0⟩] ke:=by rw [← el]; exact i2
         refine hK _ _ ?_
         have hu:Kn 115 (TL g p q x_v12 s ae x_v22 ah aj ao ap au aw be) ((tI 11 x_v22)::(tS 6 d a8.length f)::(tS 5 l an.length m)::(tI 7 x_v12)::(DR a_words words c_words)) du:=ht.kp
         refine Ko (by kernel_rfl) (Aa (Rk 0 3 ((tI 11 (IntKind.i64.wrap (x_v22-1)))::(tS 6 d a8.length f)::(tS 5 l an.length m)::(tI 7 x_v12)::(DR a_words words c_words)) hu ef fun lv hv=>?_))
         refine wf ?_
         exact XY dm ⟨Nat.lt_succ_self _,XY an ⟨a8,IntKind.i64.wrap (x_v22-1),l,m,(u.take (0+(x_v22:Int).toNat*1+0)++([.int .i64 x90]:List Value)++u.drop (0+(x_v22:Int).toNat*1+0+1)).take (0+(IntKind.i64.wrap (x_v22-1):Int).toNat*1+0)++([.int .i64 x94]:List Value)++(u.take (0+(x_v22:Int).toNat*1+0)++([.int .i64 x90]:List Value)++u.drop (0+(x_v22:Int).toNat*1+0+1)).drop (0+(IntKind.i64.wrap (x_v22-1):Int).toNat*1+0+1),d,f,(ab.take (0+(x_v22:Int).toNat*1+0)++([.int .i64 x106]:List Value)++ab.drop (0+(x_v22:Int).toNat*1+0+1)).take (0+(IntKind.i64.wrap (x_v22-1):Int).toNat*1+0)++([.int .i64 x110]:List Value)++(ab.take (0+(x_v22:Int).toNat*1+0)++([.int .i64 x106]:List Value)++ab.drop (0+(x_v22:Int).toNat*1+0+1)).drop (0+(IntKind.i64.wrap (x_v22-1):Int).toNat*1+0+1),_,_,rfl,(hv.keep [11,6,5,7,2,1] (by rfl)).cut 3 (by kernel_rfl),ef.cutPl 3 (by kernel_rfl),XU bj cl,f3,f8,aa⟩⟩
        ·
         rw [B8 c0] at aa
         refine wp_exit ?_
         obtain rfl:=XZ aa
         exact XY l ⟨m,u,d,f,ab,_,_,rfl,c7.kp,bk,XU bj cl,ax,ar⟩
     ·
      rintro _ mg ⟨bz,b2,cp,b1,b3,cq,dq,b5,rfl,hw,eg,ip,fs,ft⟩
      refine Aa (Rk 0 3 ((tI 7 (IntKind.i64.wrap (x_v12+1)))::(tS 6 b1 ay.2.length b3)::(tS 5 bz ay.1.length b2)::(DR a_words words c_words)) hw eg fun lw hx=>?_)
      refine wf ?_
      exact XY bx ⟨Nat.lt_succ_self _,XY ay.1 ⟨ay.2,IntKind.i64.wrap (x_v12+1),bz,b2,cp,b1,b3,cq,_,_,rfl,(hx.keep [7,6,5,2,1] (by rfl)).cut 1 (by kernel_rfl),(eg.cutRw 2).cutPl 1 (by kernel_rfl),XU cc (XU bs (XU br (XU bi ip))),fs,ft,al⟩⟩
   ·
    rw [c1,XV] at al
    refine wp_exit ?_
    obtain rfl:=XZ al
    exact XY ac ⟨af,bl,x,z,bm,_,_,rfl,c8.kp,co,cc,bp,bq⟩
 ·
  rintro _ kf ⟨bd,bf,cd,ct,cv,cr,dv,b6,rfl,hy,dh,kx,c4,kv⟩
  refine XT (Aa (Rk 0 2 [tS 4 bd az.1.length bf] hy dh fun lx hz=>?_))
  refine wf (wp_ret ?_)
  obtain⟨d0,iq,i7,di⟩:=dh.settle (i:=0) rfl
  replace c4:=c4.mono iq
  replace di:Al ⟨w,h,AT⟩ d0 [(g,0)] [⟨HJ ai y ak ad ag,some 25⟩] [⟨bd,az.1.length,bf,3,1,cd,(cd:List Value).length⟩,⟨ct,az.2.length,cv,3,1,cr,0⟩] kf:=di
  have i6:A6 d0 bd bf az.1:=⟨_,c4,i7,dh.rowCap (i:=0) rfl⟩
  obtain rfl:=XZ H
  exact rt (.one (.c (.slice bd az.1.length bf))) hz di ⟨_,_,rfl,i6⟩
abbrev LZ (g:Option Addr) (y:Ag) (k:Nat) (j:Option Addr) (l:Nat):List SC:=[.slice g y.room.length k,.slice j y.buses.length l,.int .i64 y.broken]
abbrev EJ (a_words:Option Addr) (words:List (IK .u16)) (c_words:Nat):TM:=[tP 2 0 0,tS 1 a_words words.length c_words]
set_option maxRecDepth 100000 in
set_option maxHeartbeats 4000000 in
theorem QA (n:Nat) {h:Ac} {w:World} (hh:D7 h w) (y:Ag) {cs_y:List Value} (hx_y:rep h y cs_y) (words:List (IK .u16)) {a_words:Option Addr} {c_words:Nat} (hr_words:A6 h a_words c_words words) {r:List Int} (H:Iq n y words=some r) :
  Calls Try.prog 28 #[.agg cs_y.toArray,.slice a_words words.length c_words] w (DA (fun h v=>∃ a c,v=.slice a r.length c∧A6 h a c r) h w):=by
 obtain⟨_,_,rfl,⟨g,k,rfl,a7⟩,⟨_,_,rfl,⟨j,l,rfl,a8⟩,rfl⟩⟩:=hx_y
 refine enter 33 [.agg (LZ g y k j l),.c (.slice a_words words.length c_words)] Try.func28 rfl rfl rfl rfl fun t hk=>?_
 have hm:=Al.begin h w hh
 unfold Iq at H
 refine XT (Aa (wl fun K hK=>?_))
 refine wb (.agg (LZ g y k j l)) hk hm fun e b8 ca (bg:Kn 33 [(e,0)] [tP 2 0 0,tA 0 (LZ g y k j l),tS 1 a_words words.length c_words] b8) ai=>hK _ _ ?_
 refine Rk 1 1 (EJ a_words words c_words) bg ai fun cf bi=>?_
 refine wf (XT (Aa (Rk 0 1 ((tS 5 none 0 0)::(EJ a_words words c_words)) bi ai fun cg bj=>?_)))
 refine wf (XT (XT (Aa (Rk 0 1 ((tI 6 0)::(tS 5 none 0 0)::(EJ a_words words c_words)) bj ai fun ch bk=>?_))))
 refine wf ?_
 have b2:Al ⟨w,h,AT⟩ h [(e,0)] [⟨LZ g y k j l,some 25⟩] [⟨none,0,0,3,1,[],0⟩] ca:=ai.nilRow 3 1
 have bd:Ah h ([]:List Int) []:=Ah.nil
 obtain⟨o,a1,H⟩:=Ap H
 refine Au (fun a' w'=>∃ (q:Option Addr)(s:Nat)(ae:List Value)(ax:Array Value)(ah:Ac),a' = ⟨ax,[]⟩∧Kn 33 [(e,0)] [tS 5 q o.length s] ax∧Al ⟨w,h,AT⟩ ah [(e,0)] [⟨LZ g y k j l,some 25⟩] [⟨q,o.length,s,3,1,ae,0⟩] w'∧Ac.le h ah∧Ah ah o ae) ?_ ?_
 ·
  refine wp_block ?_
  refine A3 (fun b5 a' w'=>∃ (x_v10:List Int)(x_v11:Int)(b:Option Addr)(d:Nat)(p:List Value)(ay:Array Value)(aa:Ac),a' = ⟨ay,[]⟩∧Kn 33 [(e,0)] ((tI 6 x_v11)::(tS 5 b x_v10.length d)::(EJ a_words words c_words)) ay∧Al ⟨w,h,AT⟩ aa [(e,0)] [⟨LZ g y k j l,some 25⟩] [⟨b,x_v10.length,d,3,1,p,0⟩] w'∧Ac.le h aa∧Ah aa x_v10 p∧Df b5 y words x_v10 x_v11=some o) n ?_ ?_
  ·
   exact XY ([]:List Int) ⟨0,none,0,[],_,_,rfl,bk.kp,b2,Ac.le_refl _,bd,a1⟩
  ·
   rintro ad _ cr ⟨x_v10,x_v11,b,d,p,ay,aa,rfl,bl,m,z,ac,f⟩
   clear a1
   obtain _ | ad:=ad
   ·
    rw [Df] at f; cases f
   rw [Df] at f
   replace a7:=a7.mono z
   replace a8:=a8.mono z
   replace hr_words:=hr_words.mono z
   refine XT (XT (Aa (Rk 0 5 ((tB 11 (decide (x_v11<((y.buses.length:Nat):Int))))::(tI 6 x_v11)::(tS 5 b x_v10.length d)::(EJ a_words words c_words)) bl m fun ci ao=>?_)))
   refine wf (wC (decide (x_v11<((y.buses.length:Nat):Int))) ao (fun ak=>?_) (fun ak=>?_))
   ·
    rw [ak,XW] at f
    refine wp_skip (XT (wp_block (XT ?_)))
    obtain⟨a9,u,f⟩:=Ap f
    refine Au (fun a' w'=>∃ (az:Array Value)(x:Ac),a' = ⟨az,[]⟩∧Kn 33 [(e,0)] [tI 6 x_v11,tS 5 b x_v10.length d,tP 2 0 0,tS 1 a_words words.length c_words,tB 27 a9] az∧Al ⟨w,h,AT⟩ x [(e,0)] [⟨LZ g y k j l,some 25⟩] [⟨b,x_v10.length,d,3,1,p,0⟩] w'∧Ac.le aa x) ?_ ?_
    ·
     refine Aa (Rk 0 6 ((tB 19 (decide (((x_v10.length:Nat):Int)<y.broken)))::(tI 6 x_v11)::(tS 5 b x_v10.length d)::(EJ a_words words c_words)) ao m fun ba a3=>?_)
     rcases Bool.eq_false_or_eq_true (decide (((x_v10.length:Nat):Int)<y.broken)) with ab | ab
     ·
      rw [ab,XW] at u
      have bm:Kn 33 [(e,0)] ((tB 19 true)::(tI 6 x_v11)::(tS 5 b x_v10.length d)::(EJ a_words words c_words)) ba:=(a3.setB 19 true (by rfl) ab).kp
      refine Rk 6 4 ((tI 23 (IntKind.i64.wrap ((IntKind.i64.wrap (3*x_v11))+2)))::(tS 20 a_words words.length c_words)::(tB 19 true)::(tI 6 x_v11)::(tS 5 b x_v10.length d)::(EJ a_words words c_words)) bm m fun cj a4=>?_
      obtain⟨x24,ex24,u⟩:=Ap u
      refine Aw _ rfl (Aj a4 (by kernel_rfl)) fun K hK=>?_
      refine wc [.c (.slice a_words words.length c_words),.c (.int .i64 (IntKind.i64.wrap ((IntKind.i64.wrap (3*x_v11))+2)))] a4 m (Gz ad m.has words hr_words (IntKind.i64.wrap ((IntKind.i64.wrap (3*x_v11))+2)) ex24) fun cq cc cs bc b1 a5=>?_
      obtain rfl:=bc
      refine⟨.one (.c (.int .i64 x24)),rfl,fun b6 (bn:Kn 33 [(e,0)] ((tI 24 x24)::(tI 23 (IntKind.i64.wrap ((IntKind.i64.wrap (3*x_v11))+2)))::(tS 20 a_words words.length c_words)::(tB 19 true)::(tI 6 x_v11)::(tS 5 b x_v10.length d)::(EJ a_words words c_words)) b6)=>hK _ _ ?_⟩
      refine Rk 11 3 ((tB 27 ((Int.tmod x24 4) == 0))::(tI 6 x_v11)::(tS 5 b x_v10.length d)::(EJ a_words words c_words)) bn a5 fun ck bo=>?_
      refine wf ?_
      obtain rfl:=XZ u
      exact XY _ ⟨_,rfl,bo.kp,a5,b1⟩
     ·
      rw [ab,XV] at u
      have bp:Kn 33 [(e,0)] ((tB 19 false)::(tI 6 x_v11)::(tS 5 b x_v10.length d)::(EJ a_words words c_words)) ba:=(a3.setB 19 false (by rfl) ab).kp
      refine Rk 6 8 ((tB 27 false)::(tI 6 x_v11)::(tS 5 b x_v10.length d)::(EJ a_words words c_words)) bp m fun cl bq=>?_
      refine wf ?_
      obtain rfl:=XZ u
      exact XY _ ⟨_,rfl,bq.kp,m,Ac.le_refl _⟩
    ·
     rintro _ ct ⟨az,x,rfl,ap,aj,aq⟩
     replace ac:=ac.mono aq
     refine wC (a9) ap (fun al=>?_) (fun al=>?_)
     ·
      rw [B7 al] at f
      refine Aa (Rk 0 2 ((tI 29 x_v11)::(tS 28 b x_v10.length d)::(tI 6 x_v11)::(EJ a_words words c_words)) ap aj fun cm br=>?_)
      refine wl fun K hK=>?_
      refine wS 3 1 [.int .i64 x_v11] br aj fun a0 b7 cu (bs:Kn 33 [(e,0)] ((tS 30 a0 1 1)::(tI 29 x_v11)::(tS 28 b x_v10.length d)::(tI 6 x_v11)::(EJ a_words words c_words)) b7) a6=>?_
      have an:Ah x ([x_v11]:List Int) ([.int .i64 x_v11]:List Value):=⟨_,_,rfl,(Ad:rep x (x_v11:Int) _),rfl⟩
      refine hK _ _ ?_
      obtain⟨x31,ex31,f⟩:=Ap f
      obtain⟨aw,bz⟩:=Cq ex31
      refine wl fun K hK=>?_
      refine BR 0 8 1 _ (x31.length) _ ([.int .i64 x_v11]:List Value) bs a6 rfl rfl (by decide) rfl (by rfl) (by kernel_rfl) (by rfl) (by rfl) (Ah.len an) (a6.rowCell (i:=1) rfl) an.one (by rw [aw]; simp <;> omega) (by rw [aw]; exact bz) (by decide) fun af ag bb b9 cv bf (bt:Kn 33 [(e,0)] ((tS 31 af x31.length ag)::(tS 30 a0 1 1)::(tI 29 x_v11)::(tS 28 b x_v10.length d)::(tI 6 x_v11)::(EJ a_words words c_words)) b9) av=>?_
      have be:Ah x x31 (p++([.int .i64 x_v11]:List Value)):=by rw [aw]; exact Ah.append ac an
      obtain rfl:bb=0:=Nat.le_zero.1 bf
      refine hK _ _ ?_
      refine Rk 4 1 ((tS 5 af x31.length ag)::(tI 6 x_v11)::(EJ a_words words c_words)) bt av fun cn bu=>?_
      refine wf (Aa (Rk 0 3 ((tI 6 (IntKind.i64.wrap (x_v11+1)))::(tS 5 af x31.length ag)::(EJ a_words words c_words)) bu av fun co bv=>?_))
      refine wf ?_
      exact XY ad ⟨Nat.lt_succ_self _,XY x31 ⟨IntKind.i64.wrap (x_v11+1),af,ag,p++([.int .i64 x_v11]:List Value),_,_,rfl,bv.kp,av.cutRw 1,XU z aq,be,f⟩⟩
     ·
      rw [B8 al] at f
      refine wp_skip (Aa (Rk 0 3 ((tI 6 (IntKind.i64.wrap (x_v11+1)))::(tS 5 b x_v10.length d)::(EJ a_words words c_words)) ap aj fun cp bw=>?_))
      refine wf ?_
      exact XY ad ⟨Nat.lt_succ_self _,XY x_v10 ⟨IntKind.i64.wrap (x_v11+1),b,d,p,_,_,rfl,bw.kp,aj,XU z aq,ac,f⟩⟩
   ·
    rw [ak,XV] at f
    refine wp_exit ?_
    obtain rfl:=XZ f
    exact XY b ⟨d,p,_,_,rfl,ao.kp,m,z,ac⟩
 ·
  rintro _ cb ⟨q,s,ae,ax,ah,rfl,bx,ar,cd,am⟩
  refine XT (Aa (Rk 0 2 [tS 4 q o.length s] bx ar fun ce bh=>?_))
  refine wf (wp_ret ?_)
  obtain⟨a2,b0,b4,au⟩:=ar.settle (i:=0) rfl
  replace am:=am.mono b0
  replace au:Al ⟨w,h,AT⟩ a2 [(e,0)] [⟨LZ g y k j l,some 25⟩] [⟨q,o.length,s,3,1,ae,(ae:List Value).length⟩] cb:=au
  have b3:A6 a2 q s o:=⟨_,am,b4,ar.rowCap (i:=0) rfl⟩
  obtain rfl:=XZ H
  exact rt (.one (.c (.slice q o.length s))) bh au ⟨_,_,rfl,b3⟩
abbrev Hd (s:Option Addr) (y:Ag) (u:Nat) (z:Option Addr) (aa:Nat):List SC:=[.slice s y.room.length u,.slice z y.buses.length aa,.int .i64 y.broken]
abbrev RE (p ad:Nat) (d:Int) (ag ai aj am:Nat):AM:=[(p,0),(ad,0+(d:Int).toNat*1),(ag,ai+(d:Int).toNat*1),(aj,0+(d:Int).toNat*1),(am,0+(d:Int).toNat*1)]
abbrev CC (x_v12:Int) (f:Option Addr) (x_v10:List Int) (g:Nat) (l:Option Addr) (x_v11:List Int) (m:Nat) (a_words:Option Addr) (words:List (IK .u16)) (c_words:Nat):TM:=[tI 8 x_v12,tS 7 f x_v10.length g,tS 6 l x_v11.length m,tP 2 0 0,tS 1 a_words words.length c_words]
abbrev IM (a_words:Option Addr) (words:List (IK .u16)) (c_words:Nat):TM:=[tP 2 0 0,tS 1 a_words words.length c_words]
set_option maxRecDepth 100000 in
set_option maxHeartbeats 4000000 in
theorem NN (n:Nat) {h:Ac} {w:World} (hh:D7 h w) (y:Ag) {cs_y:List Value} (hx_y:rep h y cs_y) (words:List (IK .u16)) {a_words:Option Addr} {c_words:Nat} (hr_words:A6 h a_words c_words words) {r:(List Int)×Bool} (H:FQ n y words=some r) :
  Calls Try.prog 26 #[.agg cs_y.toArray,.slice a_words words.length c_words] w (DA (fun h v=>∃ v0 v1,v=.tuple #[v0,v1]∧(∃ a c,v0=.slice a r.1.length c∧A6 h a c r.1)∧(v1=.bool r.2)) h w):=by
 obtain⟨_,_,rfl,⟨s,u,rfl,ak⟩,⟨_,_,rfl,⟨z,aa,rfl,a3⟩,rfl⟩⟩:=hx_y
 refine enter 77 [.agg (Hd s y u z aa),.c (.slice a_words words.length c_words)] Try.func26 rfl rfl rfl rfl fun t hk=>?_
 have hm:=Al.begin h w hh
 unfold FQ at H
 refine XT (Aa (wl fun K hK=>?_))
 refine wb (.agg (Hd s y u z aa)) hk hm fun p f8 hq (dv:Kn 77 [(p,0)] [tP 2 0 0,tA 0 (Hd s y u z aa),tS 1 a_words words.length c_words] f8) bk=>hK _ _ ?_
 refine Rk 1 2 (IM a_words words c_words) dv bk fun gp dy=>?_
 refine wf (XT (Aa (Rk 0 1 ((tS 6 none 0 0)::(IM a_words words c_words)) dy bk fun gu d6=>?_)))
 refine wf (XT (Aa (Rk 0 3 ((tI 13 ((y.room.length:Nat):Int))::(tS 6 none 0 0)::(IM a_words words c_words)) d6 bk fun gz ea=>?_)))
 obtain⟨x14,ex14,H⟩:=Ap H
 obtain⟨fd,fg,c6⟩:=OY ex14
 refine wl fun K hK=>?_
 refine Hv 3 1 8 [.int .i64 0] (((y.room.length:Nat):Int)) ea bk rfl rfl (by decide) (by rfl) (by kernel_rfl) (by kernel_rfl) (by rfl) fd fg (by decide) fun az f3 dc (cr:Kn 77 [(p,0)] [(14,.one (.c (.slice az ((((y.room.length:Nat):Int):Int).toNat) ((((y.room.length:Nat):Int):Int).toNat)))),(13,.one (.c (.int .i64 ((y.room.length:Nat):Int)))),(6,.one (.c (.slice none 0 0))),(2,.one (.c (.ptr 0 0))),(1,.one (.c (.slice a_words words.length c_words)))] f3) (bl:Al ⟨w,h,AT⟩ h [(p,0)] [⟨[.slice s y.room.length u,.slice z y.buses.length aa,.int .i64 y.broken],some 25⟩] [⟨az,(((y.room.length:Nat):Int):Int).toNat,(((y.room.length:Nat):Int):Int).toNat,3,1,List.flatten (List.replicate (((y.room.length:Nat):Int):Int).toNat ([.int .i64 0]:List Value)),0⟩] dc)=>?_
 have cn:Ah h x14 (List.flatten (List.replicate (((y.room.length:Nat):Int):Int).toNat ([.int .i64 0]:List Value))):=by rw [c6]; exact Ah.replicate (α:=Int) (x:=0) Ad _
 have ct:(((y.room.length:Nat):Int):Int).toNat=x14.length:=by rw [c6]; simp
 rw [ct] at cr bl
 skip
 rw [ct] at cn
 refine hK _ _ ?_
 refine Rk 4 1 ((tS 7 az x14.length x14.length)::(tS 6 none 0 0)::(IM a_words words c_words)) cr bl fun g9 eu=>?_
 refine wf (XT (XT (Aa (Rk 0 1 ((tI 8 0)::(tS 7 az x14.length x14.length)::(tS 6 none 0 0)::(IM a_words words c_words)) eu bl fun ha ev=>?_))))
 refine wf ?_
 have fa:Al ⟨w,h,AT⟩ h [(p,0)] [⟨Hd s y u z aa,some 25⟩] [⟨az,x14.length,x14.length,3,1,List.flatten (List.replicate x14.length ([.int .i64 0]:List Value)),0⟩,⟨none,0,0,3,1,[],0⟩] dc:=bl.nilRow 3 1
 have dt:Ah h ([]:List Int) []:=Ah.nil
 obtain⟨c8,ch,H⟩:=Ap H
 refine Au (fun a' w'=>∃ (ae:(List Int)×(List Int))(bn:Option Addr)(bp:Nat)(bm:List Value)(au:Option Addr)(av:Nat)(be:List Value)(ca:Array Value)(a4:Ac),a' = ⟨ca,[]⟩∧Kn 77 [(p,0)] [tS 6 au ae.2.length av] ca∧Al ⟨w,h,AT⟩ a4 [(p,0)] [⟨Hd s y u z aa,some 25⟩] [⟨bn,ae.1.length,bp,3,1,bm,0⟩,⟨au,ae.2.length,av,3,1,be,0⟩] w'∧Ac.le h a4∧Ah a4 ae.1 bm∧Ah a4 ae.2 be∧c8=.go ae) ?_ ?_
 ·
  refine wp_block ?_
  refine A3 (fun fv a' w'=>∃ (x_v10:List Int)(x_v11:List Int)(x_v12:Int)(f:Option Addr)(g:Nat)(ac:List Value)(l:Option Addr)(m:Nat)(al:List Value)(cb:Array Value)(a5:Ac),a' = ⟨cb,[]⟩∧Kn 77 [(p,0)] (CC x_v12 f x_v10 g l x_v11 m a_words words c_words) cb∧Al ⟨w,h,AT⟩ a5 [(p,0)] [⟨Hd s y u z aa,some 25⟩] [⟨f,x_v10.length,g,3,1,ac,0⟩,⟨l,x_v11.length,m,3,1,al,0⟩] w'∧Ac.le h a5∧Ah a5 x_v10 ac∧Ah a5 x_v11 al∧CP fv y words x14 x_v10 x_v11 x_v12=some c8) n ?_ ?_
  ·
   exact XY x14 ⟨([]:List Int),0,az,x14.length,List.flatten (List.replicate x14.length ([.int .i64 0]:List Value)),none,0,[],_,_,rfl,ev.kp,fa,Ac.le_refl _,cn,dt,ch⟩
  ·
   rintro bd _ ho ⟨x_v10,x_v11,x_v12,f,g,ac,l,m,al,cb,a5,rfl,ew,ay,a7,ab,ar,q⟩
   clear ch
   obtain _ | bd:=bd
   ·
    rw [CP] at q; cases q
   rw [CP] at q
   replace ak:=ak.mono a7
   replace a3:=a3.mono a7
   replace hr_words:=hr_words.mono a7
   refine XT (XT (Aa (Rk 0 5 ((tB 19 (decide (x_v12<((y.buses.length:Nat):Int))))::(CC x_v12 f x_v10 g l x_v11 m a_words words c_words)) ew ay fun hb b1=>?_)))
   refine wf (wC (decide (x_v12<((y.buses.length:Nat):Int))) b1 (fun bt=>?_) (fun bt=>?_))
   ·
    rw [bt,XW] at q
    refine wp_skip (XT (wp_block (XT (Ax (by kernel_rfl) ?_))))
    replace ay:=ay.drew
    refine A5 [] [(p,0)] [⟨Hd s y u z aa,some 25⟩] ?_
    refine Dr [0,1,2,3,5,6,7] [7,6,5,3,2,1,0] ((tI 29 ((y.room.length:Nat):Int))::(tI 25 (IntKind.i64.wrap ((IntKind.i64.wrap (5*x_v12))+1)))::(tS 22 a_words words.length c_words)::(CC x_v12 f x_v10 g l x_v11 m a_words words c_words)) b1 ay fun hc ex=>?_
    obtain⟨x26,ex26,q⟩:=Ap q
    refine Dl 4 fun K hK=>?_
    refine wc [.c (.slice a_words words.length c_words),.c (.int .i64 (IntKind.i64.wrap ((IntKind.i64.wrap (5*x_v12))+1)))] ex ay (Gz bd ay.has words hr_words (IntKind.i64.wrap ((IntKind.i64.wrap (5*x_v12))+1)) ex26) fun hf ck hp df a1 bc=>?_
    replace ak:=ak.mono a1
    replace a3:=a3.mono a1
    replace hr_words:=hr_words.mono a1
    replace ab:=ab.mono a1
    replace ar:=ar.mono a1
    obtain rfl:=df
    refine⟨.one (.c (.int .i64 x26)),rfl,fun f6 (ey:Kn 77 [(p,0)] ((tI 26 x26)::(tI 29 ((y.room.length:Nat):Int))::(tI 25 (IntKind.i64.wrap ((IntKind.i64.wrap (5*x_v12))+1)))::(tS 22 a_words words.length c_words)::(CC x_v12 f x_v10 g l x_v11 m a_words words c_words)) f6)=>hK _ _ bc.plOk ?_⟩
    obtain⟨x30,ex30,q⟩:=Ap q
    refine T5 8 (fun _ _ _ _ _ h=>h) ey rfl rfl (rfl) rfl (by decide) (by kernel_rfl) (by kernel_rfl) bc.plOk (by rfl) (by rfl) (Mp ex30) fun f7 (ez:Kn 77 [(p,0)] ((tI 30 (Int.tmod x26 ((y.room.length:Nat):Int)))::(tI 26 x26)::(tI 29 ((y.room.length:Nat):Int))::(tI 25 (IntKind.i64.wrap ((IntKind.i64.wrap (5*x_v12))+1)))::(tS 22 a_words words.length c_words)::(CC x_v12 f x_v10 g l x_v11 m a_words words c_words)) f7)=>?_
    refine Dr [9] [9,8,4,7,6,5,3,2,1,0] ((tI 9 (Int.tmod x26 ((y.room.length:Nat):Int)))::(CC x_v12 f x_v10 g l x_v11 m a_words words c_words)) ez bc fun hd e0=>?_
    refine AU (by kernel_rfl) (XT (XT (Aa (Rk 0 1 ((tI 10 0)::(tI 9 (Int.tmod x26 ((y.room.length:Nat):Int)))::(CC x_v12 f x_v10 g l x_v11 m a_words words c_words)) e0 bc fun he e1=>?_))))
    refine wf ?_
    obtain⟨d,ci,q⟩:=Ap q
    refine Au (fun a' w'=>∃ (cc:Array Value)(an:Ac),a' = ⟨cc,[]⟩∧Kn 77 [(p,0)] ((tI 9 d)::(CC x_v12 f x_v10 g l x_v11 m a_words words c_words)) cc∧Al ⟨w,h,AT⟩ an [(p,0)] [⟨Hd s y u z aa,some 25⟩] [⟨f,x_v10.length,g,3,1,ac,0⟩,⟨l,x_v11.length,m,3,1,al,0⟩] w'∧Ac.le ck an) ?_ ?_
    ·
     refine wp_block ?_
     refine A3 (fun fw a' w'=>∃ (x_v20:Int)(x_v21:Int)(cd:Array Value)(bh:Ac),a' = ⟨cd,[]⟩∧Kn 77 [(p,0)] ((tI 10 x_v20)::(tI 9 x_v21)::(CC x_v12 f x_v10 g l x_v11 m a_words words c_words)) cd∧Al ⟨w,h,AT⟩ bh [(p,0)] [⟨Hd s y u z aa,some 25⟩] [⟨f,x_v10.length,g,3,1,ac,0⟩,⟨l,x_v11.length,m,3,1,al,0⟩] w'∧Ac.le ck bh∧CO fw y x14 x_v10 x_v20 x_v21=some d) bd ?_ ?_
     ·
      exact XY 0 ⟨Int.tmod x26 ((y.room.length:Nat):Int),_,_,rfl,e1.kp,bc,Ac.le_refl _,ci⟩
     ·
      rintro b8 _ hr ⟨x_v20,x_v21,cd,bh,rfl,e2,ap,ax,ah⟩
      clear ci
      obtain _ | b8:=b8
      ·
       rw [CO] at ah; cases ah
      rw [CO] at ah
      replace ak:=ak.mono ax
      replace a3:=a3.mono ax
      replace hr_words:=hr_words.mono ax
      replace ab:=ab.mono ax
      replace ar:=ar.mono ax
      refine XT (XT ?_)
      obtain⟨c9,aq,ah⟩:=Ap ah
      refine Au (fun a' w'=>∃ (ce:Array Value)(bq:Ac),a' = ⟨ce,[]⟩∧Kn 77 [(p,0)] [tI 10 x_v20,tI 9 x_v21,tI 8 x_v12,tS 7 f x_v10.length g,tS 6 l x_v11.length m,tP 2 0 0,tS 1 a_words words.length c_words,tB 47 c9] ce∧Al ⟨w,h,AT⟩ bq [(p,0)] [⟨Hd s y u z aa,some 25⟩] [⟨f,x_v10.length,g,3,1,ac,0⟩,⟨l,x_v11.length,m,3,1,al,0⟩] w'∧Ac.le bh bq) ?_ ?_
      ·
       refine Ax (by kernel_rfl) ?_
       replace ap:=ap.drew
       refine A5 [] [(p,0)] [⟨Hd s y u z aa,some 25⟩] ?_
       refine Dr [0,1,2,3,4,5] (dn 5) ((tB 36 (decide (x_v20<((y.room.length:Nat):Int))))::(tI 10 x_v20)::(tI 9 x_v21)::(CC x_v12 f x_v10 g l x_v11 m a_words words c_words)) e2 ap fun db co=>?_
       rcases Bool.eq_false_or_eq_true (decide (x_v20<((y.room.length:Nat):Int))) with a6 | a6
       ·
        rw [a6,XW] at aq
        have dw:Kn 77 [(p,0)] ((tB 36 true)::(tI 10 x_v20)::(tI 9 x_v21)::(CC x_v12 f x_v10 g l x_v11 m a_words words c_words)) db:=(co.setB 36 true (by rfl) a6).kp
        refine Dr [6,7] (dn 7) ((tI 38 x_v21)::(tS 37 f x_v10.length g)::(tB 36 true)::(tI 10 x_v20)::(tI 9 x_v21)::(CC x_v12 f x_v10 g l x_v11 m a_words words c_words)) dw ap fun gn cp=>?_
        obtain⟨x39,ex39,aq⟩:=Ap aq
        obtain⟨cy,c2,fp⟩:=Ak ex39
        have e3:=A9 cy c2
        obtain⟨gb,fj,di⟩:=AB (sz:=1) rfl ab fp
        obtain rfl:=fj
        obtain⟨bo,bi⟩:=AK ap (i:=0) rfl (b0:=0+(x_v21:Int).toNat*1) (Nat.lt_of_lt_of_le (Nat.lt_add_of_pos_right (by decide)) (Ay (sz:=1) rfl ab e3))
        have a8:=ap.addPlc (b:=bo) (o:=0+(x_v21:Int).toNat*1) (cs:=[]) (fun j c hj=>by simp at hj) rfl (by kernel_rfl) (by kernel_rfl)
        have bu:∀ (e:AM) k c,([.int .i64 x39]:List SC)[k]? = some c→(ac)[0+(x_v21:Int).toNat*1+k]? = some (c.den e):=fun e k c hk=>di k _ (Am hk)
        refine AG 8 (x_v21) [.int .i64 x39] (fun _ _ _ _ _ h=>h) rfl rfl (Aj cp (by kernel_rfl)) rfl (by decide) (by kernel_rfl) (by kernel_rfl) cp ap.plOk (by rfl) (by rfl) (by rfl) bi (by rfl) cy c2 (by kernel_rfl) fun fx (dx:Kn 77 [(p,0),(bo,0+(x_v21:Int).toNat*1)] ((tP 39 1 0)::(tI 38 x_v21)::(tS 37 f x_v10.length g)::(tB 36 true)::(tI 10 x_v20)::(tI 9 x_v21)::(CC x_v12 f x_v10 g l x_v11 m a_words words c_words)) fx)=>?_
        refine Dz [9,10,11,12] [12,11,10,9,8,7,6,5,4,3,2,1,0] [43,42,40,36,10,9,8,7,6,2,1] ((tI 43 x_v21)::(tS 42 s y.room.length u)::(tI 40 x39)::(tB 36 true)::(tI 10 x_v20)::(tI 9 x_v21)::(CC x_v12 f x_v10 g l x_v11 m a_words words c_words)) (fun _ _ _ _ _ h=>h) dx (A8.peek a8.plOk a8 0 1 rfl rfl bi [.int .i64 x39] (bu _)) (by kernel_rfl) (by rfl) (by kernel_rfl) fun gq cq=>?_
        obtain⟨x44,ex44,aq⟩:=Ap aq
        obtain⟨fb,fe,fq⟩:=Ak ex44
        obtain⟨cg,da,gc,dg,fk,dj⟩:=ak.get (by decide) fq
        obtain rfl:=fk
        have b3:=a8.addPlc (b:=cg) (o:=da+(x_v21:Int).toNat*1) (cs:=[.int .i64 x44]) (fun j c hj=>dj j _ (Am hj)) rfl (by kernel_rfl) (by kernel_rfl)
        refine AG 13 (x_v21) [.int .i64 x44] (fun _ _ _ _ _ h=>h) rfl rfl (Aj cq (by kernel_rfl)) rfl (by decide) (by kernel_rfl) (by kernel_rfl) cq (A8.peek a8.plOk a8 0 1 rfl rfl bi [.int .i64 x39] (bu _)) (by rfl) (by rfl) (by rfl) dg (by rfl) fb fe (by kernel_rfl) fun fy (dz:Kn 77 [(p,0),(bo,0+(x_v21:Int).toNat*1),(cg,da+(x_v21:Int).toNat*1)] ((tP 44 2 0)::(tI 43 x_v21)::(tS 42 s y.room.length u)::(tI 40 x39)::(tB 36 true)::(tI 10 x_v20)::(tI 9 x_v21)::(CC x_v12 f x_v10 g l x_v11 m a_words words c_words)) fy)=>?_
        refine Dz [14,15,16] [16,15,14,13,12,11,10,9,8,7,6,5,4,3,2,1,0] [47,10,9,8,7,6,2,1] ((tB 47 (decide (x39≥x44)))::(tI 10 x_v20)::(tI 9 x_v21)::(CC x_v12 f x_v10 g l x_v11 m a_words words c_words)) (fun _ _ _ _ _ h=>h) dz (A8.peek b3.plOk b3 0 1 rfl rfl bi [.int .i64 x39] (bu _)) (by kernel_rfl) (by rfl) (by kernel_rfl) fun gr d0=>?_
        refine AU (by kernel_rfl) ?_
        obtain rfl:=XZ aq
        exact XY _ ⟨_,rfl,(d0.keep [10,9,8,7,6,2,1,47] (by rfl)).cut 1 (by kernel_rfl),b3.cutPl 1 (by kernel_rfl),Ac.le_refl _⟩
       ·
        rw [a6,XV] at aq
        have d1:Kn 77 [(p,0)] ((tB 36 false)::(tI 10 x_v20)::(tI 9 x_v21)::(CC x_v12 f x_v10 g l x_v11 m a_words words c_words)) db:=(co.setB 36 false (by rfl) a6).kp
        refine Dr [6,7,8,9,10,11,12,13,14,15,16] (dn 16) ((tB 47 false)::(tI 10 x_v20)::(tI 9 x_v21)::(CC x_v12 f x_v10 g l x_v11 m a_words words c_words)) d1 ap fun gs d2=>?_
        refine AU (by kernel_rfl) ?_
        obtain rfl:=XZ aq
        exact XY _ ⟨_,rfl,d2.kp,ap,Ac.le_refl _⟩
      ·
       rintro _ hg ⟨ce,bq,rfl,bx,a9,cu⟩
       refine wC (c9) bx (fun br=>?_) (fun br=>?_)
       ·
        rw [B7 br] at ah
        refine wp_skip (XT (wp_block (Aa (Rk 0 5 ((tI 54 ((y.room.length:Nat):Int))::(tI 51 (IntKind.i64.wrap (x_v21+1)))::(tI 10 x_v20)::(CC x_v12 f x_v10 g l x_v11 m a_words words c_words)) bx a9 fun gv d3=>?_))))
        obtain⟨x55,ex55,ah⟩:=Ap ah
        refine T4 5 d3 rfl rfl (rfl) rfl (by decide) (by rfl) (by rfl) (Mp ex55) fun fz (d4:Kn 77 [(p,0)] ((tI 55 (Int.tmod (IntKind.i64.wrap (x_v21+1)) ((y.room.length:Nat):Int)))::(tI 54 ((y.room.length:Nat):Int))::(tI 51 (IntKind.i64.wrap (x_v21+1)))::(tI 10 x_v20)::(CC x_v12 f x_v10 g l x_v11 m a_words words c_words)) fz)=>?_
        refine Rk 6 1 ((tI 9 (Int.tmod (IntKind.i64.wrap (x_v21+1)) ((y.room.length:Nat):Int)))::(tI 10 x_v20)::(CC x_v12 f x_v10 g l x_v11 m a_words words c_words)) d4 a9 fun gw d5=>?_
        refine wf (Aa (Rk 0 3 ((tI 10 (IntKind.i64.wrap (x_v20+1)))::(tI 9 (Int.tmod (IntKind.i64.wrap (x_v21+1)) ((y.room.length:Nat):Int)))::(CC x_v12 f x_v10 g l x_v11 m a_words words c_words)) d5 a9 fun gx d7=>?_))
        refine wf ?_
        exact XY b8 ⟨Nat.lt_succ_self _,XY (IntKind.i64.wrap (x_v20+1)) ⟨Int.tmod (IntKind.i64.wrap (x_v21+1)) ((y.room.length:Nat):Int),_,_,rfl,d7.kp,a9,XU ax cu,ah⟩⟩
       ·
        rw [B8 br] at ah
        refine wp_exit ?_
        obtain rfl:=XZ ah
        exact XY _ ⟨_,rfl,bx.kp,a9,XU ax cu⟩
    ·
     rintro _ hi ⟨cc,an,rfl,d8,a2,bj⟩
     replace ak:=ak.mono bj
     replace ab:=ab.mono bj
     replace ar:=ar.mono bj
     refine XT (XT (Ax (by kernel_rfl) ?_))
     replace a2:=a2.drew
     refine A5 [] [(p,0)] [⟨Hd s y u z aa,some 25⟩] ?_
     refine Dr [0,1] [1,0] ((tI 57 d)::(tS 56 f x_v10.length g)::(tI 9 d)::(CC x_v12 f x_v10 g l x_v11 m a_words words c_words)) d8 a2 fun gy d9=>?_
     obtain⟨x58,ex58,q⟩:=Ap q
     obtain⟨cz,c3,fr⟩:=Ak ex58
     have e4:=A9 cz c3
     obtain⟨gd,fl,dk⟩:=AB (sz:=1) rfl ab fr
     obtain rfl:=fl
     obtain⟨ad,aw⟩:=AK a2 (i:=0) rfl (b0:=0+(d:Int).toNat*1) (Nat.lt_of_lt_of_le (Nat.lt_add_of_pos_right (by decide)) (Ay (sz:=1) rfl ab e4))
     have ba:=a2.addPlc (b:=ad) (o:=0+(d:Int).toNat*1) (cs:=[]) (fun j c hj=>by simp at hj) rfl (by kernel_rfl) (by kernel_rfl)
     have a0:∀ (e:AM) k c,([.int .i64 x58]:List SC)[k]? = some c→(ac)[0+(d:Int).toNat*1+k]? = some (c.den e):=fun e k c hk=>dk k _ (Am hk)
     refine AG 2 (d) [.int .i64 x58] (fun _ _ _ _ _ h=>h) rfl rfl (rfl) rfl (by decide) (by kernel_rfl) (by kernel_rfl) d9 a2.plOk (by rfl) (by rfl) (by rfl) aw (by rfl) cz c3 (by kernel_rfl) fun f0 (eb:Kn 77 [(p,0),(ad,0+(d:Int).toNat*1)] ((tP 58 1 0)::(tI 57 d)::(tS 56 f x_v10.length g)::(tI 9 d)::(CC x_v12 f x_v10 g l x_v11 m a_words words c_words)) f0)=>?_
     refine Dz [3,4,5,6] [6,5,4,3,2,1,0] [62,61,59,9,8,7,6,2,1] ((tI 62 d)::(tS 61 s y.room.length u)::(tI 59 x58)::(tI 9 d)::(CC x_v12 f x_v10 g l x_v11 m a_words words c_words)) (fun _ _ _ _ _ h=>h) eb (A8.peek ba.plOk ba 0 1 rfl rfl aw [.int .i64 x58] (a0 _)) (by kernel_rfl) (by rfl) (by kernel_rfl) fun g0 ec=>?_
     obtain⟨x63,ex63,q⟩:=Ap q
     obtain⟨fc,ff,fs⟩:=Ak ex63
     obtain⟨ag,ai,gf,dh,fm,dl⟩:=ak.get (by decide) fs
     obtain rfl:=fm
     have ao:=ba.addPlc (b:=ag) (o:=ai+(d:Int).toNat*1) (cs:=[.int .i64 x63]) (fun j c hj=>dl j _ (Am hj)) rfl (by kernel_rfl) (by kernel_rfl)
     refine AG 7 (d) [.int .i64 x63] (fun _ _ _ _ _ h=>h) rfl rfl (rfl) rfl (by decide) (by kernel_rfl) (by kernel_rfl) ec (A8.peek ba.plOk ba 0 1 rfl rfl aw [.int .i64 x58] (a0 _)) (by rfl) (by rfl) (by rfl) dh (by rfl) fc ff (by kernel_rfl) fun f1 (ed:Kn 77 [(p,0),(ad,0+(d:Int).toNat*1),(ag,ai+(d:Int).toNat*1)] ((tP 63 2 0)::(tI 62 d)::(tS 61 s y.room.length u)::(tI 59 x58)::(tI 9 d)::(CC x_v12 f x_v10 g l x_v11 m a_words words c_words)) f1)=>?_
     refine Dz [8,9] [9,8,7,6,5,4,3,2,1,0] [65,9,8,7,6,2,1] ((tB 65 (decide (x58≥x63)))::(tI 9 d)::(CC x_v12 f x_v10 g l x_v11 m a_words words c_words)) (fun _ _ _ _ _ h=>h) ed (A8.peek ao.plOk ao 0 1 rfl rfl aw [.int .i64 x58] (a0 _)) (by kernel_rfl) (by rfl) (by kernel_rfl) fun g1 bz=>?_
     refine AU (by kernel_rfl) (wC (decide (x58≥x63)) bz (fun bs=>?_) (fun bs=>?_))
     ·
      rw [bs,XW] at q
      refine XT (Aa (CY 0 2 [5,4] [tB 5 false,tS 4 none 0 0] bz (A8.peek ao.plOk ao 0 1 rfl rfl aw [.int .i64 x58] (a0 _)) (by kernel_rfl) fun g2 ee=>?_))
      refine wf (wp_ret ?_)
      obtain rfl:=XZ q
      obtain rfl:=XZ H
      exact rt (.tup [.c (.slice none 0 0),.c (.bool false)]) ee ao ⟨_,_,rfl,⟨_,_,rfl,A6.nil⟩,rfl⟩
     ·
      rw [bs,XV] at q
      refine wp_skip (XT (Aa (CY 0 2 [67,66,9,8,7,6,2,1] ((tI 67 d)::(tS 66 f x_v10.length g)::(tI 9 d)::(CC x_v12 f x_v10 g l x_v11 m a_words words c_words)) bz (A8.peek ao.plOk ao 0 1 rfl rfl aw [.int .i64 x58] (a0 _)) (by kernel_rfl) fun g3 ef=>?_)))
      obtain⟨x68,ex68,q⟩:=Ap q
      obtain⟨c0,c4,ft⟩:=Ak ex68
      have e5:=A9 c0 c4
      obtain⟨gg,fn,dm⟩:=AB (sz:=1) rfl ab ft
      obtain rfl:=fn
      obtain⟨aj,cl⟩:=AK ao (i:=0) rfl (b0:=0+(d:Int).toNat*1) (Nat.lt_of_lt_of_le (Nat.lt_add_of_pos_right (by decide)) (Ay (sz:=1) rfl ab e5))
      have bb:=ao.addPlc (b:=aj) (o:=0+(d:Int).toNat*1) (cs:=[]) (fun j c hj=>by simp at hj) rfl (by kernel_rfl) (by kernel_rfl)
      have dp:∀ (e:AM) k c,([.int .i64 x68]:List SC)[k]? = some c→(ac)[0+(d:Int).toNat*1+k]? = some (c.den e):=fun e k c hk=>dm k _ (Am hk)
      refine AI 2 (d) rfl rfl (rfl) rfl (by decide) ef (by rfl) (by rfl) (by rfl) cl (by rfl) c0 c4 (by kernel_rfl) fun f2 (eg:Kn 77 [(p,0),(ad,0+(d:Int).toNat*1),(ag,ai+(d:Int).toNat*1),(aj,0+(d:Int).toNat*1)] ((tP 68 3 0)::(tI 67 d)::(tS 66 f x_v10.length g)::(tI 9 d)::(CC x_v12 f x_v10 g l x_v11 m a_words words c_words)) f2)=>?_
      refine CY 3 2 [70,67,66,9,8,7,6,2,1] ((tI 70 (IntKind.i64.wrap (x68+1)))::(tI 67 d)::(tS 66 f x_v10.length g)::(tI 9 d)::(CC x_v12 f x_v10 g l x_v11 m a_words words c_words)) eg (A8.peek (A8.peek bb.plOk bb 0 1 rfl rfl aw [.int .i64 x58] (a0 _)) bb 0 3 rfl rfl cl [.int .i64 x68] (dp _)) (by kernel_rfl) fun g4 eh=>?_
      obtain⟨x71,ex71,q⟩:=Ap q
      obtain⟨c1,c5,fu⟩:=Ak ex71
      have b2:=A9 c1 c5
      obtain⟨gh,fo,dq⟩:=AB (sz:=1) rfl ab fu
      obtain rfl:=fo
      obtain⟨am,cm⟩:=AK bb (i:=0) rfl (b0:=0+(d:Int).toNat*1) (Nat.lt_of_lt_of_le (Nat.lt_add_of_pos_right (by decide)) (Ay (sz:=1) rfl ab b2))
      have e8:=bb.addPlc (b:=am) (o:=0+(d:Int).toNat*1) (cs:=[]) (fun j c hj=>by simp at hj) rfl (by kernel_rfl) (by kernel_rfl)
      have gi:∀ (e:AM) k c,([.int .i64 x71]:List SC)[k]? = some c→(ac)[0+(d:Int).toNat*1+k]? = some (c.den e):=fun e k c hk=>dq k _ (Am hk)
      refine AI 5 (d) rfl rfl (rfl) rfl (by decide) eh (by rfl) (by rfl) (by rfl) cm (by rfl) c1 c5 (by kernel_rfl) fun b9 (ei:Kn 77 (RE p ad d ag ai aj am) ((tP 71 4 0)::(tI 70 (IntKind.i64.wrap (x68+1)))::(tI 67 d)::(tS 66 f x_v10.length g)::(tI 9 d)::(CC x_v12 f x_v10 g l x_v11 m a_words words c_words)) b9)=>?_
      obtain⟨af,dd,q⟩:=Ap q
      obtain⟨gl,gm,c7⟩:=Cr dd
      refine wl fun K hK=>?_
      refine BA 0 4 0 (0+(d:Int).toNat*1) (.c (.int .i64 (IntKind.i64.wrap (x68+1)))) ei e8 rfl rfl (by rfl) (by rfl) rfl rfl cm rfl (by kernel_rfl) (Ay (sz:=1) rfl ab b2) fun f9 ej e9=>?_
      have dr:Ah an af (ac.take (0+(d:Int).toNat*1+0)++([.int .i64 (IntKind.i64.wrap (x68+1))]:List Value)++ac.drop (0+(d:Int).toNat*1+0+1)):=by rw [c7]; exact CZ (sz:=1) rfl ab b2 (Ad:rep an (IntKind.i64.wrap (x68+1):Int) _)
      have cx:x_v10.length=af.length:=by rw [c7]; simp
      have ek:Kn 77 [(p,0),(ad,0+(d:Int).toNat*1),(ag,ai+(d:Int).toNat*1),(aj,0+(d:Int).toNat*1),(am,0+(d:Int).toNat*1)] [(71,.one (.c (.ptr 4 0))),(70,.one (.c (.int .i64 (IntKind.i64.wrap (x68+1))))),(67,.one (.c (.int .i64 d))),(66,.one (.c (.slice f af.length g))),(9,.one (.c (.int .i64 d))),(8,.one (.c (.int .i64 x_v12))),(7,.one (.c (.slice f af.length g))),(6,.one (.c (.slice l x_v11.length m))),(2,.one (.c (.ptr 0 0))),(1,.one (.c (.slice a_words words.length c_words)))] b9:=by rw [← cx]; exact ej
      have cv:Al ⟨w,h,AT⟩ an [(p,0),(ad,0+(d:Int).toNat*1),(ag,ai+(d:Int).toNat*1),(aj,0+(d:Int).toNat*1),(am,0+(d:Int).toNat*1)] [⟨[.slice s y.room.length u,.slice z y.buses.length aa,.int .i64 y.broken],some 25⟩,⟨[],none⟩,⟨[.int .i64 x63],none⟩,⟨[],none⟩,⟨[],none⟩] [⟨f,af.length,g,3,1,ac.take (0+(d:Int).toNat*1+0)++([.int .i64 (IntKind.i64.wrap (x68+1))]:List Value)++ac.drop (0+(d:Int).toNat*1+0+1),0⟩,⟨l,x_v11.length,m,3,1,al,0⟩] f9:=by rw [← cx]; exact e9
      refine hK _ _ ?_
      have el:Kn 77 (RE p ad d ag ai aj am) ((tI 9 d)::(tI 8 x_v12)::(tS 7 f af.length g)::(tS 6 l x_v11.length m)::(IM a_words words c_words)) b9:=ek.kp
      refine wf (Aa (Rk 0 2 ((tI 73 d)::(tS 72 l x_v11.length m)::(tI 8 x_v12)::(tS 7 f af.length g)::(IM a_words words c_words)) el cv fun g5 em=>?_))
      refine wl fun K hK=>?_
      refine wS 3 1 [.int .i64 d] em cv fun cf f4 hl (en:Kn 77 (RE p ad d ag ai aj am) ((tS 74 cf 1 1)::(tI 73 d)::(tS 72 l x_v11.length m)::(tI 8 x_v12)::(tS 7 f af.length g)::(IM a_words words c_words)) f4) cw=>?_
      have bv:Ah an ([d]:List Int) ([.int .i64 d]:List Value):=⟨_,_,rfl,(Ad:rep an (d:Int) _),rfl⟩
      refine hK _ _ ?_
      obtain⟨x75,ex75,q⟩:=Ap q
      obtain⟨b7,e6⟩:=Cq ex75
      refine wl fun K hK=>?_
      refine BR 1 8 1 _ (x75.length) _ ([.int .i64 d]:List Value) en cw rfl rfl (by decide) rfl (by rfl) (by kernel_rfl) (by rfl) (by rfl) (Ah.len bv) (cw.rowCell (i:=2) rfl) bv.one (by rw [b7]; simp <;> omega) (by rw [b7]; exact e6) (by decide) fun bf bg de f5 hn du (eo:Kn 77 (RE p ad d ag ai aj am) ((tS 75 bf x75.length bg)::(tS 74 cf 1 1)::(tI 73 d)::(tS 72 l x_v11.length m)::(tI 8 x_v12)::(tS 7 f af.length g)::(IM a_words words c_words)) f5) b4=>?_
      have ds:Ah an x75 (al++([.int .i64 d]:List Value)):=by rw [b7]; exact Ah.append ar bv
      obtain rfl:de=0:=Nat.le_zero.1 du
      refine hK _ _ ?_
      refine Rk 4 1 ((tS 6 bf x75.length bg)::(tI 8 x_v12)::(tS 7 f af.length g)::(IM a_words words c_words)) eo b4 fun g6 ep=>?_
      refine wf (Aa (Rk 0 3 ((tI 8 (IntKind.i64.wrap (x_v12+1)))::(tS 6 bf x75.length bg)::(tS 7 f af.length g)::(IM a_words words c_words)) ep b4 fun g7 er=>?_))
      refine wf ?_
      exact XY bd ⟨Nat.lt_succ_self _,XY af ⟨x75,IntKind.i64.wrap (x_v12+1),f,g,ac.take (0+(d:Int).toNat*1+0)++([.int .i64 (IntKind.i64.wrap (x68+1))]:List Value)++ac.drop (0+(d:Int).toNat*1+0+1),bf,bg,al++([.int .i64 d]:List Value),_,_,rfl,(er.keep [8,7,6,2,1] (by rfl)).cut 1 (by kernel_rfl),(b4.cutRw 2).cutPl 1 (by kernel_rfl),XU a7 (XU a1 bj),dr,ds,q⟩⟩
   ·
    rw [bt,XV] at q
    refine wp_exit ?_
    obtain rfl:=XZ q
    exact XY (x_v10,x_v11) ⟨f,g,ac,l,m,al,_,_,rfl,b1.kp,ay,a7,ab,ar,rfl⟩
 ·
  rintro _ ga ⟨ae,bn,bp,bm,au,av,be,ca,a4,rfl,es,b5,gk,gj,bw,rfl⟩
  rw [Ex.bind_go] at H
  refine XT (Aa (Rk 0 3 [tB 5 true,tS 4 au ae.2.length av] es b5 fun g8 et=>?_))
  refine wf (wp_ret ?_)
  obtain⟨cj,e7,fi,b6⟩:=b5.settle (i:=1) rfl
  replace bw:=bw.mono e7
  replace b6:Al ⟨w,h,AT⟩ cj [(p,0)] [⟨Hd s y u z aa,some 25⟩] [⟨bn,ae.1.length,bp,3,1,bm,0⟩,⟨au,ae.2.length,av,3,1,be,(be:List Value).length⟩] ga:=b6
  have fh:A6 cj au av ae.2:=⟨_,bw,fi,b5.rowCap (i:=1) rfl⟩
  obtain rfl:=XZ H
  exact rt (.tup [.c (.slice au ae.2.length av),.c (.bool true)]) et b6 ⟨_,_,rfl,⟨_,_,rfl,fh⟩,rfl⟩
end Go.Proofs.Ythcbemnflgjadaa
