/- Each call computes its plain function. -/
import Derived.Test.YthcbemnflgjadaaProg
import Derived.Test.YthcbemnflgjadaaknP0
import Derived.Test.YthcbemnflgjadaaknWF
import Derived.Test.YthcbemnflgjadaaknWG
import Derived.Test.YthcbemnflgjadaaknWH
import Derived.Test.YthcbemnflgjadaaknWJ
import Derived.Test.YthcbemnflgjadaaknWK
set_option linter.all false
namespace Go.Proofs.Ythcbemnflgjadaa
open Go Go.RowKit
open Rep (rep)
open KRep (kv)
open VRep (rv)
abbrev QN (x96:Bb):List SC:=[.int .i64 x96.lo,.int .i64 x96.hi,.int .i64 x96.turn]
abbrev Dy (l:Option Addr) (y:Ag) (m:Nat) (f:Option Addr) (g:Nat):List SC:=[.slice l y.room.length m,.slice f y.buses.length g,.int .i64 y.broken]
abbrev JI (x:Option Addr) (p:((List Bb)×(List Int)×Int)) (aa:Nat) (z:Option Addr) (ab:Nat):List SC:=[.slice x p.2.1.length aa,.slice z p.1.length ab,.int .i64 p.2.2]
abbrev RJ (a8:Option Addr) (x165:Ag) (bc:Nat) (a9:Option Addr) (bd:Nat):List SC:=[.slice a8 x165.room.length bc,.slice a9 x165.buses.length bd,.int .i64 x165.broken]
abbrev RK (ba:Option Addr) (x175:Ag) (be:Nat) (bb:Option Addr) (bf:Nat):List SC:=[.slice ba x175.room.length be,.slice bb x175.buses.length bf,.int .i64 x175.broken]
abbrev SN (a d av:Nat) (at_:IK .u8) (x42:List Bb):AJ:=[(a,0),(d,0),(av,0+(Int.tmod (IntKind.i64.wrap at_.n) ((x42.length:Nat):Int):Int).toNat*3)]
abbrev RL (l:Option Addr) (y:Ag) (m:Nat) (f:Option Addr) (g:Nat):List Cw:=[⟨Dy l y m f g,some 25⟩,⟨Dy l y m f g,some 25⟩]
abbrev H0 (which at_:IK .u8) (by_:IK .u16) (a_words:Option Addr) (words:List (IK .u16)) (c_words:Nat):TM:=[tP 5 0 0,(1,.one (.c (.int .u8 which.n))),(2,.one (.c (.int .u8 at_.n))),(3,.one (.c (.int .u16 by_.n))),tS 4 a_words words.length c_words]
abbrev F2 (a_words:Option Addr) (words:List (IK .u16)) (c_words:Nat):TM:=[tP 11 1 0,tP 5 0 0,tS 4 a_words words.length c_words]
abbrev SO (x42:List Bb) (at_:IK .u8) (ac:Option Addr) (ad:Nat) (by_:IK .u16) (which:IK .u8) (a_words:Option Addr) (words:List (IK .u16)) (c_words:Nat):TM:=[tI 94 ((x42.length:Nat):Int),tI 91 (IntKind.i64.wrap at_.n),tS 89 ac x42.length ad,tI 12 (Int.tmod (IntKind.i64.wrap by_.n) 40),tP 11 1 0,tP 5 0 0,(1,.one (.c (.int .u8 which.n))),tS 4 a_words words.length c_words]
abbrev Ru (by_:IK .u16) (which at_:IK .u8) (a_words:Option Addr) (words:List (IK .u16)) (c_words:Nat):TM:=[tI 12 (Int.tmod (IntKind.i64.wrap by_.n) 40),tP 11 1 0,tP 5 0 0,(1,.one (.c (.int .u8 which.n))),(2,.one (.c (.int .u8 at_.n))),tS 4 a_words words.length c_words]
abbrev O0 (x160:(List Int)×Bool) (af:Option Addr) (ag:Nat) (x138 x131:(List Int)×Int×Int):TM:=[tB 22 x160.2,tS 21 af x160.1.length ag,tI 20 x138.2.2,tI 19 x138.2.1,tI 16 x131.2.1,tP 11 1 0]
abbrev EG (x138 x131:(List Int)×Int×Int):TM:=[tI 19 x138.2.1,tI 16 x131.2.1]
set_option maxRecDepth 100000 in
set_option maxHeartbeats 4000000 in
theorem Lq (n:Nat) {h:Ac} {w:World} (hh:Dz h w) (y:Ag) {cs_y:List Value} (hx_y:rep h y cs_y) (which:IK .u8) (at_:IK .u8) (by_:IK .u16) (words:List (IK .u16)) {a_words:Option Addr} {c_words:Nat} (hr_words:A5 h a_words c_words words) {r:Bool} (H:EY n y which at_ by_ words=some r) :
  Calls Try.prog 5 #[.agg cs_y.toArray,.int .u8 which.n,.int .u8 at_.n,.int .u16 by_.n,.slice a_words words.length c_words] w (DI (fun h v=>v=.bool r) h w):=by
 obtain⟨_,_,rfl,⟨l,m,rfl,ak⟩,⟨_,_,rfl,⟨f,g,rfl,am⟩,rfl⟩⟩:=hx_y
 refine enter 209 [.agg (Dy l y m f g),.c (.int .u8 which.n),.c (.int .u8 at_.n),.c (.int .u16 by_.n),.c (.slice a_words words.length c_words)] Try.func5 rfl rfl rfl rfl fun t hk=>?_
 have hm:=Am.begin h w hh
 unfold EY at H
 refine XT (Aa (wl fun K hK=>?_))
 refine wb (.agg (Dy l y m f g)) hk hm fun a ml p7 (hs:Kn 209 [(a,0)] [tP 5 0 0,tA 0 (Dy l y m f g),(1,.one (.c (.int .u8 which.n))),(2,.one (.c (.int .u8 at_.n))),(3,.one (.c (.int .u16 by_.n))),tS 4 a_words words.length c_words] ml) c1=>hK _ _ ?_
 refine Rk 1 1 (H0 which at_ by_ a_words words c_words) hs c1 fun nt h0=>?_
 refine wf (XT (XT (Aa (Rk 0 1 ((tA 31 (Dy l y m f g))::(H0 which at_ by_ a_words words c_words)) h0 c1 fun nx h3=>?_))))
 obtain⟨x32,ex32,H⟩:=Aq H
 refine wl fun K hK=>?_
 refine wc [.agg (Dy l y m f g)] h3 c1 (KO n c1.has y ((Ab (Ae ak) (Ab (Ae am) Ad)):rep h y _) ex32) fun o2 cz pl gm dz ck=>?_
 replace ak:=ak.mono dz
 replace am:=am.mono dz
 replace hr_words:=hr_words.mono dz
 obtain rfl:=gm
 refine⟨.one (.c (.bool x32)),rfl,fun lz (ip:Kn 209 [(a,0)] ((tB 32 x32)::(tA 31 (Dy l y m f g))::(H0 which at_ by_ a_words words c_words)) lz)=>hK _ _ ?_⟩
 refine Rk 2 1 ((tB 33 (!x32))::(H0 which at_ by_ a_words words c_words)) ip ck fun n3 dv=>?_
 refine wf (wC ((!x32)) dv (fun dp=>?_) (fun dp=>?_))
 ·
  rw [dp,XW] at H
  refine XT (Aa ?_)
  obtain⟨x34,ex34,H⟩:=Aq H
  refine wl fun K hK=>?_
  refine wc [] dv ck (BS n ck.has  ex34) fun o6 mx pq gr m6 fj=>?_
  obtain rfl:=gr
  refine⟨.one (.c (.bool x34)),rfl,fun l6 (jb:Kn 209 [(a,0)] ((tB 34 x34)::(tB 33 (!x32))::(H0 which at_ by_ a_words words c_words)) l6)=>hK _ _ ?_⟩
  refine Rk 1 1 [tB 10 x34] jb fj fun oe jg=>?_
  refine wf (wp_ret ?_)
  obtain rfl:=XZ H
  exact rt (.one (.c (.bool x34))) jg fj rfl
 ·
  rw [dp,XV] at H
  refine wp_skip (XT (Aa (Rk 0 1 ((tA 35 (Dy l y m f g))::(H0 which at_ by_ a_words words c_words)) dv ck fun oi jj=>?_)))
  refine wl fun K hK=>?_
  refine wa [.slice none 0 0,.slice none 0 0,.int .i64 0] jj ck fun d f5 px (jo:Kn 209 [(a,0),(d,0)] ((tP 11 1 0)::(tA 35 (Dy l y m f g))::(H0 which at_ by_ a_words words c_words)) f5) k7=>hK _ _ ?_
  refine wl fun K hK=>?_
  refine D8 1 0 (.agg (Dy l y m f g)) (Dy l y m f g) jo k7 fun mq js db=>hK _ _ ?_
  have jx:Kn 209 [(a,0),(d,0)] ((tP 11 1 0)::(H0 which at_ by_ a_words words c_words)) f5:=js.kp
  refine wf (XT (As (by kernel_rfl) ?_))
  replace db:=db.drew
  refine Aw [] [(a,0),(d,0)] (RL l y m f g) ?_
  refine Dr [0,1,4,5] [5,4,1,0] ((tS 41 f y.buses.length g)::(tS 37 l y.room.length m)::(tP 11 1 0)::(H0 which at_ by_ a_words words c_words)) jx db fun op fe=>?_
  obtain⟨x38,ex38,H⟩:=Aq H
  obtain⟨x42,ex42,H⟩:=Aq H
  have d5:Am ⟨w,h,AP⟩ cz [(a,0),(d,0)] (RL l y m f g) [⟨none,0,0,49,3,[],0⟩] (World.drew mq):=db.nilRow 49 3
  have m5:Ah cz ([]:List Bb) []:=Ah.nil
  refine Mn (fun W=>∀ (ct:Option Addr),∀ (cy:Nat),∀ (ai:List Value),∀ (q:Option Addr),∀ (s:Nat),∀ (ao:List Value),∀ a' w',(∃ (eh:Array Value)(ap:Ac),a' = ⟨eh,[]⟩∧Kn 209 [(a,0),(d,0)] ((tS 39 ct 0 cy)::(tP 43 1 0)::(tS 38 q x38.length s)::(tS 41 f y.buses.length g)::(tP 11 1 0)::(H0 which at_ by_ a_words words c_words)) eh∧Am ⟨w,h,AP⟩ ap [(a,0),(d,0)] (RL l y m f g) [⟨ct,0,cy,49,3,ai,0⟩,⟨q,x38.length,s,3,1,ao,0⟩] w'∧Ac.le cz ap∧Ah ap ([]:List Bb) ai∧Ah ap x38 ao)→W [(a,0),(d,0)] (RL l y m f g) [7,2,3,5,4,1,0] a' w') ?_ (fun f0=>?_)
  ·
   intro ct cy ai q s ao
   rintro _ p3 ⟨eh,ap,rfl,kl,fn,d1,hq,ax⟩
   replace ak:=ak.mono d1
   replace am:=am.mono d1
   replace hr_words:=hr_words.mono d1
   refine Dl 6 fun K hK=>?_
   obtain⟨aj,c0,lj,_⟩:=id am
   obtain⟨ed,ku⟩:=Ce ex42
   refine BG 0 24 y.buses.length _ (x42.length) _ aj kl fn rfl rfl (by decide) rfl (by rfl) (by kernel_rfl) (by rfl) (by rfl) (Ah.len c0) (lj.cell fn.has c0.one) c0.one (by rw [ed]; simp <;> omega) (by rw [ed]; exact ku) (by decide) fun ac ad gl mj p4 hr (km:Kn 209 [(a,0),(d,0)] ((tS 42 ac x42.length ad)::(tS 39 ct 0 cy)::(tP 43 1 0)::(tS 38 q x38.length s)::(tS 41 f y.buses.length g)::(tP 11 1 0)::(H0 which at_ by_ a_words words c_words)) mj) fo=>?_
   have a4:Ah ap x42 (ai++aj):=by rw [ed]; exact Ah.append hq c0
   obtain rfl:gl=0:=Nat.le_zero.1 hr
   refine hK _ _ fo.plOk ?_
   refine CM 8 rfl (by kernel_rfl) (by decide) (rfl) (by kernel_rfl) fun K hK=>?_
   refine D8 1 0 (.c (.slice q x38.length s)) [.slice q x38.length s,.slice f y.buses.length g,.int .i64 y.broken] km fo fun p5 kn fp=>hK _ _ ?_
   refine Aw [] [(a,0),(d,0)] [⟨Dy l y m f g,some 25⟩,⟨[.slice q x38.length s,.slice f y.buses.length g,.int .i64 y.broken],some 25⟩] ?_
   refine Dr [9] [9,8,6,7,2,3,5,4,1,0] ((tP 44 1 1)::(tS 42 ac x42.length ad)::(tP 11 1 0)::(H0 which at_ by_ a_words words c_words)) kn fp fun mm ko=>?_
   refine CM 10 rfl (by kernel_rfl) (by decide) (rfl) (by kernel_rfl) fun K hK=>?_
   refine D8 1 1 (.c (.slice ac x42.length ad)) [.slice q x38.length s,.slice ac x42.length ad,.int .i64 y.broken] ko fp fun p6 kq ae=>hK _ _ ?_
   refine Aw [] [(a,0),(d,0)] [⟨Dy l y m f g,some 25⟩,⟨[.slice q x38.length s,.slice ac x42.length ad,.int .i64 y.broken],some 25⟩] ?_
   have kr:Kn 209 [(a,0),(d,0)] ((tP 11 1 0)::(H0 which at_ by_ a_words words c_words)) mm:=kq.kp
   refine AQ (by kernel_rfl) (XT (Aa (Rk 0 4 (Ru by_ which at_ a_words words c_words) kr ae fun o0 ks=>?_)))
   refine wf (XT (wp_block (XT (Aa (Rk 0 4 ((tB 48 ((Int.tmod which.n 4) == 0))::(Ru by_ which at_ a_words words c_words)) ks ae fun o1 dx=>?_)))))
   refine wf ?_
   obtain⟨p,u,H⟩:=Aq H
   refine Au (fun a' w'=>∃ (z:Option Addr)(ab:Nat)(aq:List Value)(x:Option Addr)(aa:Nat)(an:List Value)(ee:Array Value)(bt:Ac),a' = ⟨ee,[]⟩∧Kn 209 [(a,0),(d,0)] (F2 a_words words c_words) ee∧Am ⟨w,h,AP⟩ bt [(a,0),(d,0)] [⟨Dy l y m f g,some 25⟩,⟨JI x p aa z ab,some 25⟩] [⟨z,p.1.length,ab,49,3,aq,0⟩,⟨x,p.2.1.length,aa,3,1,an,0⟩] w'∧Ac.le ap bt∧Ah bt p.1 aq∧Ah bt p.2.1 an) ?_ ?_
   ·
    refine wC (((Int.tmod which.n 4) == 0)) dx (fun dj=>?_) (fun dj=>?_)
    ·
     rw [dj,XW] at u
     refine Aa (Rk 0 8 ((tP 59 1 2)::(tI 58 (if (IntKind.i64.wrap ((IntKind.i64.wrap (y.broken-1))-(Int.tmod (Int.tmod (IntKind.i64.wrap by_.n) 40) 2)))>0 then(IntKind.i64.wrap ((IntKind.i64.wrap (y.broken-1))-(Int.tmod (Int.tmod (IntKind.i64.wrap by_.n) 40) 2))) else 0))::(F2 a_words words c_words)) dx ae fun lr ht=>?_)
     refine wl fun K hK=>?_
     refine D8 1 2 (.c (.int .i64 (if (IntKind.i64.wrap ((IntKind.i64.wrap (y.broken-1))-(Int.tmod (Int.tmod (IntKind.i64.wrap by_.n) 40) 2)))>0 then(IntKind.i64.wrap ((IntKind.i64.wrap (y.broken-1))-(Int.tmod (Int.tmod (IntKind.i64.wrap by_.n) 40) 2))) else 0))) [.slice q x38.length s,.slice ac x42.length ad,.int .i64 (if (IntKind.i64.wrap ((IntKind.i64.wrap (y.broken-1))-(Int.tmod (Int.tmod (IntKind.i64.wrap by_.n) 40) 2)))>0 then(IntKind.i64.wrap ((IntKind.i64.wrap (y.broken-1))-(Int.tmod (Int.tmod (IntKind.i64.wrap by_.n) 40) 2))) else 0)] ht ae fun pk hu ky=>hK _ _ ?_
     have hv:Kn 209 [(a,0),(d,0)] (F2 a_words words c_words) lr:=hu.kp
     refine wf ?_
     obtain rfl:=XZ u
     exact XY ac ⟨ad,ai++aj,q,s,ao,_,_,rfl,hv.kp,ky,Ac.le_refl _,a4,ax⟩
    ·
     rw [dj,XV] at u
     refine XT (Aa (Rk 0 4 ((tB 60 ((Int.tmod which.n 4) == 1))::(Ru by_ which at_ a_words words c_words)) dx ae fun nr ds=>?_))
     refine wf (wC (((Int.tmod which.n 4) == 1)) ds (fun dk=>?_) (fun dk=>?_))
     ·
      rw [dk,XW] at u
      refine XT (Aa (Rk 0 5 ((tI 68 ((x38.length:Nat):Int))::(tI 65 (IntKind.i64.wrap at_.n))::(tI 12 (Int.tmod (IntKind.i64.wrap by_.n) 40))::(F2 a_words words c_words)) ds ae fun ns hw=>?_))
      obtain⟨x69,ex69,u⟩:=Aq u
      refine S0 5 hw rfl rfl (rfl) rfl (by decide) (by rfl) (by rfl) (Kw ex69) fun ls (hx:Kn 209 [(a,0),(d,0)] ((tI 69 (Int.tmod (IntKind.i64.wrap at_.n) ((x38.length:Nat):Int)))::(tI 68 ((x38.length:Nat):Int))::(tI 65 (IntKind.i64.wrap at_.n))::(tI 12 (Int.tmod (IntKind.i64.wrap by_.n) 40))::(F2 a_words words c_words)) ls)=>?_
      refine Rk 6 1 ((tI 13 (Int.tmod (IntKind.i64.wrap at_.n) ((x38.length:Nat):Int)))::(tI 12 (Int.tmod (IntKind.i64.wrap by_.n) 40))::(F2 a_words words c_words)) hx ae fun nu hy=>?_
      refine wf (As (by kernel_rfl) ?_)
      replace ae:=ae.drew
      refine Aw [] [(a,0),(d,0)] [⟨Dy l y m f g,some 25⟩,⟨[.slice q x38.length s,.slice ac x42.length ad,.int .i64 y.broken],some 25⟩] ?_
      refine Dr [0,1,2,3,4,5] (dn 5) ((tI 75 (Int.tmod (IntKind.i64.wrap at_.n) ((x38.length:Nat):Int)))::(tS 74 q x38.length s)::(tI 72 (Int.tmod (IntKind.i64.wrap at_.n) ((x38.length:Nat):Int)))::(tS 71 q x38.length s)::(tI 12 (Int.tmod (IntKind.i64.wrap by_.n) 40))::(F2 a_words words c_words)) hy ae fun nv hz=>?_
      obtain⟨x76,ex76,u⟩:=Aq u
      obtain⟨fr,fu,ln⟩:=Ak ex76
      have kt:=AG fr fu
      obtain⟨mt,lk,hc⟩:=AL (sz:=1) rfl ax ln
      obtain rfl:=lk
      obtain⟨br,di⟩:=AV ae (i:=1) rfl (b0:=0+(Int.tmod (IntKind.i64.wrap at_.n) ((x38.length:Nat):Int):Int).toNat*1) (Nat.lt_of_lt_of_le (Nat.lt_add_of_pos_right (by decide)) (A0 (sz:=1) rfl ax kt))
      have bx:=ae.addPlc (b:=br) (o:=0+(Int.tmod (IntKind.i64.wrap at_.n) ((x38.length:Nat):Int):Int).toNat*1) (cs:=[]) (fun j c hj=>by simp at hj) rfl (by kernel_rfl) (by kernel_rfl)
      have e1:∀ (e:AJ) k c,([.int .i64 x76]:List SC)[k]? = some c→(ao)[0+(Int.tmod (IntKind.i64.wrap at_.n) ((x38.length:Nat):Int):Int).toNat*1+k]? = some (c.den e):=fun e k c hk=>hc k _ (Al hk)
      refine A6 6 (Int.tmod (IntKind.i64.wrap at_.n) ((x38.length:Nat):Int)) [.int .i64 x76] (fun _ _ _ _ _ h=>h) rfl rfl (rfl) rfl (by decide) (by kernel_rfl) (by kernel_rfl) hz ae.plOk (by rfl) (by rfl) (by rfl) di (by rfl) fr fu (by kernel_rfl) fun lu (h1:Kn 209 [(a,0),(d,0),(br,0+(Int.tmod (IntKind.i64.wrap at_.n) ((x38.length:Nat):Int):Int).toNat*1)] ((tP 76 2 0)::(tI 75 (Int.tmod (IntKind.i64.wrap at_.n) ((x38.length:Nat):Int)))::(tS 74 q x38.length s)::(tI 72 (Int.tmod (IntKind.i64.wrap at_.n) ((x38.length:Nat):Int)))::(tS 71 q x38.length s)::(tI 12 (Int.tmod (IntKind.i64.wrap by_.n) 40))::(F2 a_words words c_words)) lu)=>?_
      refine CA [7,8,9,10,11] [11,10,9,8,7,6,5,4,3,2,1,0] [81,72,71,11,5,4] ((tI 81 (if (IntKind.i64.wrap (x76+(Int.tmod (Int.tmod (IntKind.i64.wrap by_.n) 40) 3)))<8 then(IntKind.i64.wrap (x76+(Int.tmod (Int.tmod (IntKind.i64.wrap by_.n) 40) 3))) else 8))::(tI 72 (Int.tmod (IntKind.i64.wrap at_.n) ((x38.length:Nat):Int)))::(tS 71 q x38.length s)::(F2 a_words words c_words)) (fun _ _ _ _ _ h=>h) h1 (A9.peek bx.plOk bx 1 2 rfl rfl di [.int .i64 x76] (e1 _)) (by kernel_rfl) (by rfl) (by kernel_rfl) fun nw h2=>?_
      obtain⟨x82,ex82,u⟩:=Aq u
      obtain⟨fs,fv,lp⟩:=Ak ex82
      have dy:=AG fs fv
      obtain⟨mu,ll,hd⟩:=AL (sz:=1) rfl ax lp
      obtain rfl:=ll
      obtain⟨b3,e0⟩:=AV bx (i:=1) rfl (b0:=0+(Int.tmod (IntKind.i64.wrap at_.n) ((x38.length:Nat):Int):Int).toNat*1) (Nat.lt_of_lt_of_le (Nat.lt_add_of_pos_right (by decide)) (A0 (sz:=1) rfl ax dy))
      have kz:=bx.addPlc (b:=b3) (o:=0+(Int.tmod (IntKind.i64.wrap at_.n) ((x38.length:Nat):Int):Int).toNat*1) (cs:=[]) (fun j c hj=>by simp at hj) rfl (by kernel_rfl) (by kernel_rfl)
      have m4:∀ (e:AJ) k c,([.int .i64 x82]:List SC)[k]? = some c→(ao)[0+(Int.tmod (IntKind.i64.wrap at_.n) ((x38.length:Nat):Int):Int).toNat*1+k]? = some (c.den e):=fun e k c hk=>hd k _ (Al hk)
      refine A6 12 (Int.tmod (IntKind.i64.wrap at_.n) ((x38.length:Nat):Int)) [.int .i64 x82] (fun _ _ _ _ _ h=>h) rfl rfl (rfl) rfl (by decide) (by kernel_rfl) (by kernel_rfl) h2 (A9.peek bx.plOk bx 1 2 rfl rfl di [.int .i64 x76] (e1 _)) (by rfl) (by rfl) (by rfl) e0 (by rfl) fs fv (by kernel_rfl) fun ef (h4:Kn 209 [(a,0),(d,0),(br,0+(Int.tmod (IntKind.i64.wrap at_.n) ((x38.length:Nat):Int):Int).toNat*1),(b3,0+(Int.tmod (IntKind.i64.wrap at_.n) ((x38.length:Nat):Int):Int).toNat*1)] ((tP 82 3 0)::(tI 81 (if (IntKind.i64.wrap (x76+(Int.tmod (Int.tmod (IntKind.i64.wrap by_.n) 40) 3)))<8 then(IntKind.i64.wrap (x76+(Int.tmod (Int.tmod (IntKind.i64.wrap by_.n) 40) 3))) else 8))::(tI 72 (Int.tmod (IntKind.i64.wrap at_.n) ((x38.length:Nat):Int)))::(tS 71 q x38.length s)::(F2 a_words words c_words)) ef)=>?_
      obtain⟨cn,gi,u⟩:=Aq u
      obtain⟨m9,nc,fx⟩:=BR gi
      refine CM 13 rfl (by kernel_rfl) (by decide) (rfl) (by kernel_rfl) fun K hK=>?_
      refine Bg 1 3 0 (0+(Int.tmod (IntKind.i64.wrap at_.n) ((x38.length:Nat):Int):Int).toNat*1) (.c (.int .i64 (if (IntKind.i64.wrap (x76+(Int.tmod (Int.tmod (IntKind.i64.wrap by_.n) 40) 3)))<8 then(IntKind.i64.wrap (x76+(Int.tmod (Int.tmod (IntKind.i64.wrap by_.n) 40) 3))) else 8))) h4 kz rfl rfl (by rfl) (by rfl) rfl rfl e0 rfl (by kernel_rfl) (A0 (sz:=1) rfl ax dy) fun mn h5 k0=>?_
      have he:Ah ap cn (ao.take (0+(Int.tmod (IntKind.i64.wrap at_.n) ((x38.length:Nat):Int):Int).toNat*1+0)++([.int .i64 (if (IntKind.i64.wrap (x76+(Int.tmod (Int.tmod (IntKind.i64.wrap by_.n) 40) 3)))<8 then(IntKind.i64.wrap (x76+(Int.tmod (Int.tmod (IntKind.i64.wrap by_.n) 40) 3))) else 8)]:List Value)++ao.drop (0+(Int.tmod (IntKind.i64.wrap at_.n) ((x38.length:Nat):Int):Int).toNat*1+0+1)):=by rw [fx]; exact Dm (sz:=1) rfl ax dy (Ad:rep ap (if (IntKind.i64.wrap (x76+(Int.tmod (Int.tmod (IntKind.i64.wrap by_.n) 40) 3)))<8 then(IntKind.i64.wrap (x76+(Int.tmod (Int.tmod (IntKind.i64.wrap by_.n) 40) 3))) else 8:Int) _)
      have fq:x38.length=cn.length:=by rw [fx]; simp
      have h6:Kn 209 [(a,0),(d,0),(br,0+(Int.tmod (IntKind.i64.wrap at_.n) ((x38.length:Nat):Int):Int).toNat*1),(b3,0+(Int.tmod (IntKind.i64.wrap at_.n) ((x38.length:Nat):Int):Int).toNat*1)] [(82,.one (.c (.ptr 3 0))),(81,.one (.c (.int .i64 (if (IntKind.i64.wrap (x76+(Int.tmod (Int.tmod (IntKind.i64.wrap by_.n) 40) 3)))<8 then(IntKind.i64.wrap (x76+(Int.tmod (Int.tmod (IntKind.i64.wrap by_.n) 40) 3))) else 8)))),(72,.one (.c (.int .i64 (Int.tmod (IntKind.i64.wrap at_.n) ((x38.length:Nat):Int))))),(71,.one (.c (.slice q cn.length s))),(11,.one (.c (.ptr 1 0))),(5,.one (.c (.ptr 0 0))),(4,.one (.c (.slice a_words words.length c_words)))] ef:=by rw [← fq]; exact h5
      have k1:Am ⟨w,h,AP⟩ ap [(a,0),(d,0),(br,0+(Int.tmod (IntKind.i64.wrap at_.n) ((x38.length:Nat):Int):Int).toNat*1),(b3,0+(Int.tmod (IntKind.i64.wrap at_.n) ((x38.length:Nat):Int):Int).toNat*1)] [⟨[.slice l y.room.length m,.slice f y.buses.length g,.int .i64 y.broken],some 25⟩,⟨[.slice q cn.length s,.slice ac x42.length ad,.int .i64 y.broken],some 25⟩,⟨[],none⟩,⟨[],none⟩] [⟨ac,x42.length,ad,49,3,ai++aj,0⟩,⟨q,cn.length,s,3,1,ao.take (0+(Int.tmod (IntKind.i64.wrap at_.n) ((x38.length:Nat):Int):Int).toNat*1+0)++([.int .i64 (if (IntKind.i64.wrap (x76+(Int.tmod (Int.tmod (IntKind.i64.wrap by_.n) 40) 3)))<8 then(IntKind.i64.wrap (x76+(Int.tmod (Int.tmod (IntKind.i64.wrap by_.n) 40) 3))) else 8)]:List Value)++ao.drop (0+(Int.tmod (IntKind.i64.wrap at_.n) ((x38.length:Nat):Int):Int).toNat*1+0+1),0⟩] mn:=by rw [← fq]; exact k0
      refine hK _ _ ?_
      have h7:Kn 209 [(a,0),(d,0),(br,0+(Int.tmod (IntKind.i64.wrap at_.n) ((x38.length:Nat):Int):Int).toNat*1),(b3,0+(Int.tmod (IntKind.i64.wrap at_.n) ((x38.length:Nat):Int):Int).toNat*1)] (F2 a_words words c_words) ef:=h6.kp
      refine Gy (by kernel_rfl) ?_
      obtain rfl:=XZ u
      exact XY ac ⟨ad,ai++aj,q,s,ao.take (0+(Int.tmod (IntKind.i64.wrap at_.n) ((x38.length:Nat):Int):Int).toNat*1+0)++([.int .i64 (if (IntKind.i64.wrap (x76+(Int.tmod (Int.tmod (IntKind.i64.wrap by_.n) 40) 3)))<8 then(IntKind.i64.wrap (x76+(Int.tmod (Int.tmod (IntKind.i64.wrap by_.n) 40) 3))) else 8)]:List Value)++ao.drop (0+(Int.tmod (IntKind.i64.wrap at_.n) ((x38.length:Nat):Int):Int).toNat*1+0+1),_,_,rfl,(h7.keep [11,5,4] (by rfl)).cut 2 (by kernel_rfl),k1.cutPl 2 (by kernel_rfl),Ac.le_refl _,a4,he⟩
     ·
      rw [dk,XV] at u
      refine XT (Aa (Rk 0 5 ((tB 83 (decide (((x42.length:Nat):Int)>0)))::(Ru by_ which at_ a_words words c_words)) ds ae fun ny dt=>?_))
      refine wf (wC (decide (((x42.length:Nat):Int)>0)) dt (fun dl=>?_) (fun dl=>?_))
      ·
       rw [dl,XW] at u
       refine XT (As (by kernel_rfl) ?_)
       replace ae:=ae.drew
       refine Aw [] [(a,0),(d,0)] [⟨Dy l y m f g,some 25⟩,⟨[.slice q x38.length s,.slice ac x42.length ad,.int .i64 y.broken],some 25⟩] ?_
       refine Dr [0,1,2,3,4,5,6] (dn 6) (SO x42 at_ ac ad by_ which a_words words c_words) dt ae fun nz h8=>?_
       obtain⟨x95,ex95,u⟩:=Aq u
       refine Tv 7 (fun _ _ _ _ _ h=>h) h8 rfl rfl (rfl) rfl (by decide) (by kernel_rfl) (by kernel_rfl) ae.plOk (by rfl) (by rfl) (Kw ex95) fun lv (h9:Kn 209 [(a,0),(d,0)] ((tI 95 (Int.tmod (IntKind.i64.wrap at_.n) ((x42.length:Nat):Int)))::(SO x42 at_ ac ad by_ which a_words words c_words)) lv)=>?_
       obtain⟨x96,ex96,u⟩:=Aq u
       obtain⟨ft,fw,lq⟩:=Ak ex96
       have cg:=AG ft fw
       obtain⟨mv,lm,hf⟩:=AL (sz:=3) rfl a4 lq
       obtain⟨_,_,rfl,rfl,⟨_,_,rfl,rfl,rfl⟩⟩:=lm
       obtain⟨av,bj⟩:=AV ae (i:=0) rfl (b0:=0+(Int.tmod (IntKind.i64.wrap at_.n) ((x42.length:Nat):Int):Int).toNat*3) (Nat.lt_of_lt_of_le (Nat.lt_add_of_pos_right (by decide)) (A0 (sz:=3) rfl a4 cg))
       have au:=ae.addPlc (b:=av) (o:=0+(Int.tmod (IntKind.i64.wrap at_.n) ((x42.length:Nat):Int):Int).toNat*3) (cs:=[]) (fun j c hj=>by simp at hj) rfl (by kernel_rfl) (by kernel_rfl)
       have bu:∀ (e:AJ) k c,([.int .i64 x96.lo,.int .i64 x96.hi,.int .i64 x96.turn]:List SC)[k]? = some c→((ai++aj))[0+(Int.tmod (IntKind.i64.wrap at_.n) ((x42.length:Nat):Int):Int).toNat*3+k]? = some (c.den e):=fun e k c hk=>hf k _ (Al hk)
       refine A6 8 (Int.tmod (IntKind.i64.wrap at_.n) ((x42.length:Nat):Int)) (QN x96) (fun _ _ _ _ _ h=>h) rfl rfl (rfl) rfl (by decide) (by kernel_rfl) (by kernel_rfl) h9 ae.plOk (by rfl) (by rfl) (by rfl) bj (by rfl) ft fw (by kernel_rfl) fun lw (ia:Kn 209 (SN a d av at_ x42) ((tP 96 2 0)::(tI 95 (Int.tmod (IntKind.i64.wrap at_.n) ((x42.length:Nat):Int)))::(SO x42 at_ ac ad by_ which a_words words c_words)) lw)=>?_
       refine CA [9] [9,8,7,6,5,4,3,2,1,0] [14,12,11,5,1,4] [tP 14 2 0,tI 12 (Int.tmod (IntKind.i64.wrap by_.n) 40),tP 11 1 0,tP 5 0 0,(1,.one (.c (.int .u8 which.n))),tS 4 a_words words.length c_words] (fun _ _ _ _ _ h=>h) ia (A9.peek au.plOk au 0 2 rfl rfl bj (QN x96) (bu _)) (by kernel_rfl) (by rfl) (by kernel_rfl) fun n0 ib=>?_
       refine AQ (by kernel_rfl) (XT (Aa (Dg 0 3 [99,14,12,11,5,4] ((tB 99 ((Int.tmod which.n 4) == 2))::(tP 14 2 0)::(tI 12 (Int.tmod (IntKind.i64.wrap by_.n) 40))::(F2 a_words words c_words)) ib (A9.peek au.plOk au 0 2 rfl rfl bj (QN x96) (bu _)) (by kernel_rfl) fun n1 du=>?_)))
       refine wf (wC (((Int.tmod which.n 4) == 2)) du (fun dm=>?_) (fun dm=>?_))
       ·
        rw [dm,XW] at u
        refine As (by kernel_rfl) ?_
        replace au:=au.drew
        refine Aw [] (SN a d av at_ x42) [⟨Dy l y m f g,some 25⟩,⟨[.slice q x38.length s,.slice ac x42.length ad,.int .i64 y.broken],some 25⟩,⟨QN x96,none⟩] ?_
        refine CA [0,1,2,3,4,5,6,7,8,9,10,11,12,13] [13,12,11,10,9,8,7,6,5,4,3,2,1,0] [113,111,11,5,4] ((tP 113 2 0)::(tI 111 (if (IntKind.i64.wrap (x96.lo+(Int.tmod (IntKind.i64.wrap by_.n) 40)))<x96.hi then(IntKind.i64.wrap (x96.lo+(Int.tmod (IntKind.i64.wrap by_.n) 40))) else x96.hi))::(F2 a_words words c_words)) (fun _ _ _ _ _ h=>h) du (A9.peek au.plOk au 0 2 rfl rfl bj (QN x96) (bu _)) (by kernel_rfl) (by rfl) (by kernel_rfl) fun lx ic=>?_
        obtain⟨dc,gj,u⟩:=Aq u
        obtain⟨na,nd,fy⟩:=BR gj
        refine CM 14 rfl (by kernel_rfl) (by decide) (rfl) (by kernel_rfl) fun K hK=>?_
        refine Bg 0 2 0 (0+(Int.tmod (IntKind.i64.wrap at_.n) ((x42.length:Nat):Int):Int).toNat*3) (.c (.int .i64 (if (IntKind.i64.wrap (x96.lo+(Int.tmod (IntKind.i64.wrap by_.n) 40)))<x96.hi then(IntKind.i64.wrap (x96.lo+(Int.tmod (IntKind.i64.wrap by_.n) 40))) else x96.hi))) ic au rfl rfl (by rfl) (by rfl) rfl rfl bj rfl (by kernel_rfl) (FY (sz:=3) 0 1 rfl a4 cg (Nat.le_of_ble_eq_true rfl)) fun mo ie k2=>?_
        have hg:Ah ap dc ((ai++aj).take (0+(Int.tmod (IntKind.i64.wrap at_.n) ((x42.length:Nat):Int):Int).toNat*3+0)++([.int .i64 (if (IntKind.i64.wrap (x96.lo+(Int.tmod (IntKind.i64.wrap by_.n) 40)))<x96.hi then(IntKind.i64.wrap (x96.lo+(Int.tmod (IntKind.i64.wrap by_.n) 40))) else x96.hi)]:List Value)++(ai++aj).drop (0+(Int.tmod (IntKind.i64.wrap at_.n) ((x42.length:Nat):Int):Int).toNat*3+0+1)):=by rw [fy]; exact DW (sz:=3) (cs:=[.int .i64 x96.lo,.int .i64 x96.hi,.int .i64 x96.turn]) [(a,0),(d,0),(av,0+(Int.tmod (IntKind.i64.wrap at_.n) ((x42.length:Nat):Int):Int).toNat*3)] 0 rfl a4 cg (bu _) rfl (Nat.le_of_ble_eq_true rfl) ((Ab Ad (Ab Ad Ad)):rep ap ((Bb.mk (if (IntKind.i64.wrap (x96.lo+(Int.tmod (IntKind.i64.wrap by_.n) 40)))<x96.hi then(IntKind.i64.wrap (x96.lo+(Int.tmod (IntKind.i64.wrap by_.n) 40))) else x96.hi) x96.hi x96.turn):Bb) _)
        have k8:x42.length=dc.length:=by rw [fy]; simp
        have ig:=ie
        have k3:Am ⟨w,h,AP⟩ ap [(a,0),(d,0),(av,0+(Int.tmod (IntKind.i64.wrap at_.n) ((x42.length:Nat):Int):Int).toNat*3)] [⟨[.slice l y.room.length m,.slice f y.buses.length g,.int .i64 y.broken],some 25⟩,⟨[.slice q x38.length s,.slice ac dc.length ad,.int .i64 y.broken],some 25⟩,⟨[],none⟩] [⟨ac,dc.length,ad,49,3,(ai++aj).take (0+(Int.tmod (IntKind.i64.wrap at_.n) ((x42.length:Nat):Int):Int).toNat*3+0)++([.int .i64 (if (IntKind.i64.wrap (x96.lo+(Int.tmod (IntKind.i64.wrap by_.n) 40)))<x96.hi then(IntKind.i64.wrap (x96.lo+(Int.tmod (IntKind.i64.wrap by_.n) 40))) else x96.hi)]:List Value)++(ai++aj).drop (0+(Int.tmod (IntKind.i64.wrap at_.n) ((x42.length:Nat):Int):Int).toNat*3+0+1),0⟩,⟨q,x38.length,s,3,1,ao,0⟩] mo:=by rw [← k8]; exact k2
        refine hK _ _ ?_
        have ih:Kn 209 (SN a d av at_ x42) (F2 a_words words c_words) lx:=ig.kp
        refine Gy (by kernel_rfl) ?_
        obtain rfl:=XZ u
        exact XY ac ⟨ad,(ai++aj).take (0+(Int.tmod (IntKind.i64.wrap at_.n) ((x42.length:Nat):Int):Int).toNat*3+0)++([.int .i64 (if (IntKind.i64.wrap (x96.lo+(Int.tmod (IntKind.i64.wrap by_.n) 40)))<x96.hi then(IntKind.i64.wrap (x96.lo+(Int.tmod (IntKind.i64.wrap by_.n) 40))) else x96.hi)]:List Value)++(ai++aj).drop (0+(Int.tmod (IntKind.i64.wrap at_.n) ((x42.length:Nat):Int):Int).toNat*3+0+1),q,s,ao,_,_,rfl,(ih.keep [11,5,4] (by rfl)).cut 2 (by kernel_rfl),k3.cutPl 2 (by kernel_rfl),Ac.le_refl _,hg,ax⟩
       ·
        rw [dm,XV] at u
        refine As (by kernel_rfl) ?_
        replace au:=au.drew
        refine Aw [] (SN a d av at_ x42) [⟨Dy l y m f g,some 25⟩,⟨[.slice q x38.length s,.slice ac x42.length ad,.int .i64 y.broken],some 25⟩,⟨QN x96,none⟩] ?_
        refine CA [0,1,2,3,4,5,6,7,8,9,10,11,12,13] [13,12,11,10,9,8,7,6,5,4,3,2,1,0] [127,125,11,5,4] ((tP 127 2 1)::(tI 125 (if (IntKind.i64.wrap (x96.hi-(Int.tmod (IntKind.i64.wrap by_.n) 40)))>x96.lo then(IntKind.i64.wrap (x96.hi-(Int.tmod (IntKind.i64.wrap by_.n) 40))) else x96.lo))::(F2 a_words words c_words)) (fun _ _ _ _ _ h=>h) du (A9.peek au.plOk au 0 2 rfl rfl bj (QN x96) (bu _)) (by kernel_rfl) (by rfl) (by kernel_rfl) fun ly ii=>?_
        obtain⟨dd,gk,u⟩:=Aq u
        obtain⟨nb,nf,fz⟩:=BR gk
        refine CM 14 rfl (by kernel_rfl) (by decide) (rfl) (by kernel_rfl) fun K hK=>?_
        refine Bg 0 2 1 (0+(Int.tmod (IntKind.i64.wrap at_.n) ((x42.length:Nat):Int):Int).toNat*3) (.c (.int .i64 (if (IntKind.i64.wrap (x96.hi-(Int.tmod (IntKind.i64.wrap by_.n) 40)))>x96.lo then(IntKind.i64.wrap (x96.hi-(Int.tmod (IntKind.i64.wrap by_.n) 40))) else x96.lo))) ii au rfl rfl (by rfl) (by rfl) rfl rfl bj rfl (by kernel_rfl) (FY (sz:=3) 1 1 rfl a4 cg (Nat.le_of_ble_eq_true rfl)) fun mp ij k4=>?_
        have hl:Ah ap dd ((ai++aj).take (0+(Int.tmod (IntKind.i64.wrap at_.n) ((x42.length:Nat):Int):Int).toNat*3+1)++([.int .i64 (if (IntKind.i64.wrap (x96.hi-(Int.tmod (IntKind.i64.wrap by_.n) 40)))>x96.lo then(IntKind.i64.wrap (x96.hi-(Int.tmod (IntKind.i64.wrap by_.n) 40))) else x96.lo)]:List Value)++(ai++aj).drop (0+(Int.tmod (IntKind.i64.wrap at_.n) ((x42.length:Nat):Int):Int).toNat*3+1+1)):=by rw [fz]; exact DW (sz:=3) (cs:=[.int .i64 x96.lo,.int .i64 x96.hi,.int .i64 x96.turn]) [(a,0),(d,0),(av,0+(Int.tmod (IntKind.i64.wrap at_.n) ((x42.length:Nat):Int):Int).toNat*3)] 1 rfl a4 cg (bu _) rfl (Nat.le_of_ble_eq_true rfl) ((Ab Ad (Ab Ad Ad)):rep ap ((Bb.mk x96.lo (if (IntKind.i64.wrap (x96.hi-(Int.tmod (IntKind.i64.wrap by_.n) 40)))>x96.lo then(IntKind.i64.wrap (x96.hi-(Int.tmod (IntKind.i64.wrap by_.n) 40))) else x96.lo) x96.turn):Bb) _)
        have k9:x42.length=dd.length:=by rw [fz]; simp
        have ik:=ij
        have k5:Am ⟨w,h,AP⟩ ap [(a,0),(d,0),(av,0+(Int.tmod (IntKind.i64.wrap at_.n) ((x42.length:Nat):Int):Int).toNat*3)] [⟨[.slice l y.room.length m,.slice f y.buses.length g,.int .i64 y.broken],some 25⟩,⟨[.slice q x38.length s,.slice ac dd.length ad,.int .i64 y.broken],some 25⟩,⟨[],none⟩] [⟨ac,dd.length,ad,49,3,(ai++aj).take (0+(Int.tmod (IntKind.i64.wrap at_.n) ((x42.length:Nat):Int):Int).toNat*3+1)++([.int .i64 (if (IntKind.i64.wrap (x96.hi-(Int.tmod (IntKind.i64.wrap by_.n) 40)))>x96.lo then(IntKind.i64.wrap (x96.hi-(Int.tmod (IntKind.i64.wrap by_.n) 40))) else x96.lo)]:List Value)++(ai++aj).drop (0+(Int.tmod (IntKind.i64.wrap at_.n) ((x42.length:Nat):Int):Int).toNat*3+1+1),0⟩,⟨q,x38.length,s,3,1,ao,0⟩] mp:=by rw [← k9]; exact k4
        refine hK _ _ ?_
        have il:Kn 209 (SN a d av at_ x42) (F2 a_words words c_words) ly:=ik.kp
        refine Gy (by kernel_rfl) ?_
        obtain rfl:=XZ u
        exact XY ac ⟨ad,(ai++aj).take (0+(Int.tmod (IntKind.i64.wrap at_.n) ((x42.length:Nat):Int):Int).toNat*3+1)++([.int .i64 (if (IntKind.i64.wrap (x96.hi-(Int.tmod (IntKind.i64.wrap by_.n) 40)))>x96.lo then(IntKind.i64.wrap (x96.hi-(Int.tmod (IntKind.i64.wrap by_.n) 40))) else x96.lo)]:List Value)++(ai++aj).drop (0+(Int.tmod (IntKind.i64.wrap at_.n) ((x42.length:Nat):Int):Int).toNat*3+1+1),q,s,ao,_,_,rfl,(il.keep [11,5,4] (by rfl)).cut 2 (by kernel_rfl),k5.cutPl 2 (by kernel_rfl),Ac.le_refl _,hl,ax⟩
      ·
       rw [dl,XV] at u
       refine wp_skip ?_
       obtain rfl:=XZ u
       exact XY ac ⟨ad,ai++aj,q,s,ao,_,_,rfl,dt.kp,ae,Ac.le_refl _,a4,ax⟩
   ·
    rintro _ pm ⟨z,ab,aq,x,aa,an,ee,bt,rfl,im,d2,d0,bl,bk⟩
    replace ak:=ak.mono d0
    replace am:=am.mono d0
    refine XT (Aa (Rk 0 1 ((tA 129 (Dy l y m f g))::(F2 a_words words c_words)) im d2 fun n2 io=>?_))
    obtain⟨x130,ex130,H⟩:=Aq H
    refine wl fun K hK=>?_
    refine wc [.agg (Dy l y m f g)] io d2 (CZ n d2.has y ((Ab (Ae ak) (Ab (Ae am) Ad)):rep bt y _) ex130) fun o3 g5 pn gn ch fg=>?_
    obtain⟨_,rfl,⟨_,_,rfl,⟨co,cu,rfl,la⟩,⟨_,_,rfl,⟨cp,cv,rfl,lb⟩,rfl⟩⟩⟩:=gn
    refine⟨.one (.agg [.slice co x130.room.length cu,.slice cp x130.buses.length cv,.int .i64 x130.broken]),rfl,fun l0 (iq:Kn 209 [(a,0),(d,0)] ((tA 130 [.slice co x130.room.length cu,.slice cp x130.buses.length cv,.int .i64 x130.broken])::(tA 129 (Dy l y m f g))::(F2 a_words words c_words)) l0)=>hK _ _ ?_⟩
    obtain⟨x131,ex131,H⟩:=Aq H
    refine wl fun K hK=>?_
    refine wc [.agg [.slice co x130.room.length cu,.slice cp x130.buses.length cv,.int .i64 x130.broken]] iq fg (E9 n fg.has x130 ((Ab (Ae la) (Ab (Ae lb) Ad)):rep g5 x130 _) ex131) fun o4 mw gf go ci c2=>?_
    obtain⟨_,_,_,rfl,⟨ej,er,rfl,ng⟩,rfl,rfl⟩:=go
    refine⟨.tup [.c (.slice ej x131.1.length er),.c (.int .i64 x131.2.1),.c (.int .i64 x131.2.2)],rfl,fun l1 (ir:Kn 209 [(a,0),(d,0)] ((131,.tup [.c (.slice ej x131.1.length er),.c (.int .i64 x131.2.1),.c (.int .i64 x131.2.2)])::(tA 130 [.slice co x130.room.length cu,.slice cp x130.buses.length cv,.int .i64 x130.broken])::(tA 129 (Dy l y m f g))::(F2 a_words words c_words)) l1)=>hK _ _ ?_⟩
    refine Rk 3 7 ((tI 17 x131.2.2)::(tI 16 x131.2.1)::(F2 a_words words c_words)) ir c2 fun n4 iu=>?_
    refine wf (XT (Aa (Rk 0 1 ((tA 136 (JI x p aa z ab))::(tI 17 x131.2.2)::(tI 16 x131.2.1)::(F2 a_words words c_words)) iu c2 fun n5 iv=>?_)))
    obtain⟨ex,cj,lf,c3⟩:=c2.settle (i:=1) rfl
    replace bk:=bk.mono (XU (XU ch ci) cj)
    replace c3:Am ⟨w,h,AP⟩ ex [(a,0),(d,0)] [⟨Dy l y m f g,some 25⟩,⟨JI x p aa z ab,some 25⟩] [⟨z,p.1.length,ab,49,3,aq,0⟩,⟨x,p.2.1.length,aa,3,1,an,(an:List Value).length⟩] gf:=c3
    have a1:A5 ex x aa p.2.1:=⟨_,bk,lf,c2.rowCap (i:=1) rfl⟩
    obtain⟨de,bv,lg,c4⟩:=c3.settle (i:=0) rfl
    replace a1:=a1.mono bv
    replace bl:=bl.mono (XU (XU (XU ch ci) cj) bv)
    replace c4:Am ⟨w,h,AP⟩ de [(a,0),(d,0)] [⟨Dy l y m f g,some 25⟩,⟨JI x p aa z ab,some 25⟩] [⟨z,p.1.length,ab,49,3,aq,(aq:List Value).length⟩,⟨x,p.2.1.length,aa,3,1,an,(an:List Value).length⟩] gf:=c4
    have bg:A5 de z ab p.1:=⟨_,bl,lg,c3.rowCap (i:=0) rfl⟩
    obtain⟨x137,ex137,H⟩:=Aq H
    refine wl fun K hK=>?_
    refine wc [.agg (JI x p aa z ab)] iv c4 (CZ n c4.has (Ag.mk p.2.1 p.1 p.2.2) ((Ab (Ae a1) (Ab (Ae bg) Ad)):rep de (Ag.mk p.2.1 p.1 p.2.2) _) ex137) fun o5 g6 po gp bm fh=>?_
    obtain⟨_,rfl,⟨_,_,rfl,⟨cq,cw,rfl,lc⟩,⟨_,_,rfl,⟨cr,cx,rfl,ld⟩,rfl⟩⟩⟩:=gp
    refine⟨.one (.agg [.slice cq x137.room.length cw,.slice cr x137.buses.length cx,.int .i64 x137.broken]),rfl,fun l2 (iw:Kn 209 [(a,0),(d,0)] ((tA 137 [.slice cq x137.room.length cw,.slice cr x137.buses.length cx,.int .i64 x137.broken])::(tA 136 (JI x p aa z ab))::(tI 17 x131.2.2)::(tI 16 x131.2.1)::(F2 a_words words c_words)) l2)=>hK _ _ ?_⟩
    obtain⟨x138,ex138,H⟩:=Aq H
    refine wl fun K hK=>?_
    refine wc [.agg [.slice cq x137.room.length cw,.slice cr x137.buses.length cx,.int .i64 x137.broken]] iw fh (E9 n fh.has x137 ((Ab (Ae lc) (Ab (Ae ld) Ad)):rep g6 x137 _) ex138) fun o7 ey pp gq bn al=>?_
    replace ak:=ak.mono (XU (XU (XU (XU (XU ch ci) cj) bv) bm) bn)
    replace am:=am.mono (XU (XU (XU (XU (XU ch ci) cj) bv) bm) bn)
    replace hr_words:=hr_words.mono (XU (XU (XU (XU (XU (XU d0 ch) ci) cj) bv) bm) bn)
    replace a1:=a1.mono (XU bm bn)
    replace bg:=bg.mono (XU bm bn)
    replace bl:=bl.mono (XU bm bn)
    replace bk:=bk.mono (XU (XU bv bm) bn)
    obtain⟨_,_,_,rfl,⟨ek,es,rfl,nh⟩,rfl,rfl⟩:=gq
    refine⟨.tup [.c (.slice ek x138.1.length es),.c (.int .i64 x138.2.1),.c (.int .i64 x138.2.2)],rfl,fun l3 (ix:Kn 209 [(a,0),(d,0)] ((138,.tup [.c (.slice ek x138.1.length es),.c (.int .i64 x138.2.1),.c (.int .i64 x138.2.2)])::(tA 137 [.slice cq x137.room.length cw,.slice cr x137.buses.length cx,.int .i64 x137.broken])::(tA 136 (JI x p aa z ab))::(tI 17 x131.2.2)::(tI 16 x131.2.1)::(F2 a_words words c_words)) l3)=>hK _ _ ?_⟩
    refine Rk 3 7 ((tI 20 x138.2.2)::(tI 19 x138.2.1)::(tI 17 x131.2.2)::(tI 16 x131.2.1)::(F2 a_words words c_words)) ix al fun n6 iy=>?_
    refine wf (XT (XT (Aa (Rk 0 2 ((tB 143 (x131.2.2 != 0))::(tI 20 x138.2.2)::(tI 19 x138.2.1)::(tI 17 x131.2.2)::(tI 16 x131.2.1)::(F2 a_words words c_words)) iy al fun n7 dw=>?_))))
    refine wf (wC ((x131.2.2 != 0)) dw (fun dq=>?_) (fun dq=>?_))
    ·
     rw [dq,XW] at H
     refine XT ?_
     obtain⟨f1,ar,H⟩:=Aq H
     refine Au (fun a' w'=>∃ (eg:Array Value)(df:Ac),a' = ⟨eg,[]⟩∧Kn 209 [(a,0),(d,0)] [tB 10 f1] eg∧Am ⟨w,h,AP⟩ df [(a,0),(d,0)] [⟨Dy l y m f g,some 25⟩,⟨JI x p aa z ab,some 25⟩] [⟨z,p.1.length,ab,49,3,aq,(aq:List Value).length⟩,⟨x,p.2.1.length,aa,3,1,an,(an:List Value).length⟩] w'∧Ac.le ey df) ?_ ?_
     ·
      refine Aa (Rk 0 3 [tB 146 (x131.2.2 == 9),tI 20 x138.2.2] dw al fun f2 e2=>?_)
      rcases Bool.eq_false_or_eq_true ((x131.2.2 == 9)) with b5 | b5
      ·
       rw [b5,XW] at ar
       have iz:Kn 209 [(a,0),(d,0)] [tB 146 true,tI 20 x138.2.2] f2:=(e2.setB 146 true (by rfl) b5).kp
       refine Rk 3 3 [tB 149 (x138.2.2 == 0),tB 146 true,tI 20 x138.2.2] iz al fun f3 e3=>?_
       rcases Bool.eq_false_or_eq_true ((x138.2.2 == 0)) with b6 | b6
       ·
        rw [b6,XW] at ar
        have i0:Kn 209 [(a,0),(d,0)] [tB 149 true,tB 146 true,tI 20 x138.2.2] f3:=(e3.setB 149 true (by rfl) b6).kp
        refine Rk 6 5 [tB 154 true] i0 al fun n8 e4=>?_
        obtain⟨x155,ex155,ar⟩:=Aq ar
        refine AC _ rfl (Aj e4 (by kernel_rfl)) fun K hK=>?_
        refine wc [] e4 al (BS n al.has  ex155) fun o8 my pr gs kv fi=>?_
        obtain rfl:=gs
        refine⟨.one (.c (.bool x155)),rfl,fun l4 (i1:Kn 209 [(a,0),(d,0)] [tB 155 x155,tB 154 true] l4)=>hK _ _ ?_⟩
        refine Rk 12 2 [tB 10 x155] i1 fi fun n9 i2=>?_
        refine wf ?_
        obtain rfl:=XZ ar
        exact XY _ ⟨_,rfl,i2.kp,fi,kv⟩
       ·
        rw [b6,XV] at ar
        have i3:Kn 209 [(a,0),(d,0)] [tB 149 false,tB 146 true,tI 20 x138.2.2] f3:=(e3.setB 149 false (by rfl) b6).kp
        refine Rk 6 5 [tB 154 (x138.2.2 == 9)] i3 al fun f4 e5=>?_
        rcases Bool.eq_false_or_eq_true ((x138.2.2 == 9)) with b7 | b7
        ·
         rw [b7,XW] at ar
         have e6:Kn 209 [(a,0),(d,0)] [tB 154 true] f4:=(e5.setB 154 true (by rfl) b7).kp
         obtain⟨x155,ex155,ar⟩:=Aq ar
         refine AC _ rfl (Aj e6 (by kernel_rfl)) fun K hK=>?_
         refine wc [] e6 al (BS n al.has  ex155) fun o9 mz ps gu kw fk=>?_
         obtain rfl:=gu
         refine⟨.one (.c (.bool x155)),rfl,fun l5 (i4:Kn 209 [(a,0),(d,0)] [tB 155 x155,tB 154 true] l5)=>hK _ _ ?_⟩
         refine Rk 12 2 [tB 10 x155] i4 fk fun oa i5=>?_
         refine wf ?_
         obtain rfl:=XZ ar
         exact XY _ ⟨_,rfl,i5.kp,fk,kw⟩
        ·
         rw [b7,XV] at ar
         have i6:Kn 209 [(a,0),(d,0)] [tB 154 false] f4:=(e5.setB 154 false (by rfl) b7).kp
         refine Rk 11 3 [tB 10 false] i6 al fun ob i7=>?_
         refine wf ?_
         obtain rfl:=XZ ar
         exact XY _ ⟨_,rfl,i7.kp,al,Ac.le_refl _⟩
      ·
       rw [b5,XV] at ar
       have i8:Kn 209 [(a,0),(d,0)] [tB 146 false,tI 20 x138.2.2] f2:=(e2.setB 146 false (by rfl) b5).kp
       refine Rk 3 11 [tB 10 false] i8 al fun oc i9=>?_
       refine wf ?_
       obtain rfl:=XZ ar
       exact XY _ ⟨_,rfl,i9.kp,al,Ac.le_refl _⟩
     ·
      rintro _ pt ⟨eg,df,rfl,ja,k6,m7⟩
      refine wp_ret ?_
      obtain rfl:=XZ H
      exact rt (.one (.c (.bool f1))) ja k6 rfl
    ·
     rw [dq,XV] at H
     refine wp_skip (XT (Aa (Rk 0 2 [tS 159 a_words words.length c_words,tA 158 (Dy l y m f g),tI 20 x138.2.2,tI 19 x138.2.1,tI 16 x131.2.1,tP 11 1 0,tP 5 0 0] dw al fun od jc=>?_)))
     obtain⟨x160,ex160,H⟩:=Aq H
     refine wl fun K hK=>?_
     refine wc [.agg (Dy l y m f g),.c (.slice a_words words.length c_words)] jc al (Jt n al.has y ((Ab (Ae ak) (Ab (Ae am) Ad)):rep ey y _) words hr_words ex160) fun pa g7 pu gv bw c5=>?_
     replace ak:=ak.mono bw
     replace am:=am.mono bw
     obtain⟨_,_,rfl,⟨af,ag,rfl,bz⟩,rfl⟩:=gv
     refine⟨.tup [.c (.slice af x160.1.length ag),.c (.bool x160.2)],rfl,fun l7 (jd:Kn 209 [(a,0),(d,0)] [(160,.tup [.c (.slice af x160.1.length ag),.c (.bool x160.2)]),tS 159 a_words words.length c_words,tA 158 (Dy l y m f g),tI 20 x138.2.2,tI 19 x138.2.1,tI 16 x131.2.1,tP 11 1 0,tP 5 0 0] l7)=>hK _ _ ?_⟩
     refine Rk 3 5 [tB 22 x160.2,tS 21 af x160.1.length ag,tI 20 x138.2.2,tI 19 x138.2.1,tI 16 x131.2.1,tP 11 1 0,tP 5 0 0] jd c5 fun og je=>?_
     refine wf (XT (Aa (Rk 0 1 ((tA 164 (Dy l y m f g))::(O0 x160 af ag x138 x131)) je c5 fun oh jf=>?_)))
     obtain⟨x165,ex165,H⟩:=Aq H
     refine wl fun K hK=>?_
     refine wc [.agg (Dy l y m f g)] jf c5 (CZ n c5.has y ((Ab (Ae ak) (Ab (Ae am) Ad)):rep g7 y _) ex165) fun pb m0 pv gw bo d3=>?_
     replace bz:=bz.mono bo
     obtain⟨_,rfl,⟨_,_,rfl,⟨a8,bc,rfl,d7⟩,⟨_,_,rfl,⟨a9,bd,rfl,d8⟩,rfl⟩⟩⟩:=gw
     refine⟨.one (.agg (RJ a8 x165 bc a9 bd)),rfl,fun l8 (jh:Kn 209 [(a,0),(d,0)] ((tA 165 (RJ a8 x165 bc a9 bd))::(tA 164 (Dy l y m f g))::(O0 x160 af ag x138 x131)) l8)=>hK _ _ ?_⟩
     refine Rk 2 1 ((tS 166 af x160.1.length ag)::(tA 165 (RJ a8 x165 bc a9 bd))::(O0 x160 af ag x138 x131)) jh d3 fun oj ji=>?_
     obtain⟨x167,ex167,H⟩:=Aq H
     refine wl fun K hK=>?_
     refine DY [.c (.slice af x160.1.length ag)] _ ji d3 rfl rfl (by decide) (by rfl) rfl (fun _ _=>by kernel_rfl) (DM n d3.has x160.1 bz ex167) fun pc g8 gg nm gx a5 c6=>?_
     obtain⟨a2,a3,bp,rfl,rfl,ce⟩:=gx
     replace c6:Am ⟨w,h,AP⟩ g8 [(a,0),(d,0)] [⟨Dy l y m f g,some 25⟩,⟨JI x p aa z ab,some 25⟩] [⟨z,p.1.length,ab,49,3,aq,(aq:List Value).length⟩,⟨x,p.2.1.length,aa,3,1,an,(an:List Value).length⟩,⟨a2,x167.length,a3,3,1,bp,0⟩] gg:=c6
     refine⟨.one (.c (.slice a2 x167.length a3)),rfl,fun l9 (jk:Kn 209 [(a,0),(d,0)] ((tS 167 a2 x167.length a3)::(tS 166 af x160.1.length ag)::(tA 165 (RJ a8 x165 bc a9 bd))::(O0 x160 af ag x138 x131)) l9)=>hK _ _ ?_⟩
     obtain⟨dg,ay,lh,c7⟩:=c6.settle (i:=2) rfl
     replace d7:=d7.mono (XU a5 ay)
     replace d8:=d8.mono (XU a5 ay)
     replace ce:=ce.mono ay
     replace c7:Am ⟨w,h,AP⟩ dg [(a,0),(d,0)] [⟨Dy l y m f g,some 25⟩,⟨JI x p aa z ab,some 25⟩] [⟨z,p.1.length,ab,49,3,aq,(aq:List Value).length⟩,⟨x,p.2.1.length,aa,3,1,an,(an:List Value).length⟩,⟨a2,x167.length,a3,3,1,bp,(bp:List Value).length⟩] gg:=c7
     have d9:A5 dg a2 a3 x167:=⟨_,ce,lh,c6.rowCap (i:=2) rfl⟩
     obtain⟨x168,ex168,H⟩:=Aq H
     refine wl fun K hK=>?_
     refine wc [.agg (RJ a8 x165 bc a9 bd),.c (.slice a2 x167.length a3)] jk c7 (Eb n c7.has x165 ((Ab (Ae d7) (Ab (Ae d8) Ad)):rep dg x165 _) x167 d9 ex168) fun pd g9 pw gy a6 c8=>?_
     replace a1:=a1.mono (XU (XU (XU (XU bw bo) a5) ay) a6)
     replace bg:=bg.mono (XU (XU (XU (XU bw bo) a5) ay) a6)
     obtain⟨_,_,_,_,rfl,⟨el,et,rfl,ni⟩,⟨em,eu,rfl,nj⟩,rfl,rfl⟩:=gy
     refine⟨.tup [.c (.slice el x168.1.length et),.c (.slice em x168.2.1.length eu),.c (.int .i64 x168.2.2.1),.c (.int .i64 x168.2.2.2)],rfl,fun ma (jl:Kn 209 [(a,0),(d,0)] ((168,.tup [.c (.slice el x168.1.length et),.c (.slice em x168.2.1.length eu),.c (.int .i64 x168.2.2.1),.c (.int .i64 x168.2.2.2)])::(tS 167 a2 x167.length a3)::(tS 166 af x160.1.length ag)::(tA 165 (RJ a8 x165 bc a9 bd))::(O0 x160 af ag x138 x131)) ma)=>hK _ _ ?_⟩
     refine Rk 5 9 ((tI 26 x168.2.2.2)::(tI 25 x168.2.2.1)::(O0 x160 af ag x138 x131)) jl c8 fun ok jm=>?_
     refine wf (XT (Aa (Rk 0 1 ((tA 174 (JI x p aa z ab))::(tI 26 x168.2.2.2)::(tI 25 x168.2.2.1)::(tB 22 x160.2)::(tS 21 af x160.1.length ag)::(tI 20 x138.2.2)::(EG x138 x131)) jm c8 fun ol jn=>?_)))
     obtain⟨x175,ex175,H⟩:=Aq H
     refine wl fun K hK=>?_
     refine wc [.agg (JI x p aa z ab)] jn c8 (CZ n c8.has (Ag.mk p.2.1 p.1 p.2.2) ((Ab (Ae a1) (Ab (Ae bg) Ad)):rep g9 (Ag.mk p.2.1 p.1 p.2.2) _) ex175) fun pe m1 py gz a7 d4=>?_
     replace bz:=bz.mono (XU (XU (XU a5 ay) a6) a7)
     obtain⟨_,rfl,⟨_,_,rfl,⟨ba,be,rfl,ea⟩,⟨_,_,rfl,⟨bb,bf,rfl,eb⟩,rfl⟩⟩⟩:=gz
     refine⟨.one (.agg (RK ba x175 be bb bf)),rfl,fun mb (jp:Kn 209 [(a,0),(d,0)] ((tA 175 (RK ba x175 be bb bf))::(tA 174 (JI x p aa z ab))::(tI 26 x168.2.2.2)::(tI 25 x168.2.2.1)::(tB 22 x160.2)::(tS 21 af x160.1.length ag)::(tI 20 x138.2.2)::(EG x138 x131)) mb)=>hK _ _ ?_⟩
     refine Rk 2 1 ((tS 176 af x160.1.length ag)::(tA 175 (RK ba x175 be bb bf))::(tI 26 x168.2.2.2)::(tI 25 x168.2.2.1)::(tB 22 x160.2)::(tI 20 x138.2.2)::(EG x138 x131)) jp d4 fun om jq=>?_
     obtain⟨x177,ex177,H⟩:=Aq H
     refine wl fun K hK=>?_
     refine DY [.c (.slice af x160.1.length ag)] _ jq d4 rfl rfl (by decide) (by rfl) rfl (fun _ _=>by kernel_rfl) (DM n d4.has x160.1 bz ex177) fun pf ha gh nn g0 az c9=>?_
     obtain⟨bh,bi,ei,rfl,rfl,cf⟩:=g0
     replace c9:Am ⟨w,h,AP⟩ ha [(a,0),(d,0)] [⟨Dy l y m f g,some 25⟩,⟨JI x p aa z ab,some 25⟩] [⟨z,p.1.length,ab,49,3,aq,(aq:List Value).length⟩,⟨x,p.2.1.length,aa,3,1,an,(an:List Value).length⟩,⟨a2,x167.length,a3,3,1,bp,(bp:List Value).length⟩,⟨bh,x177.length,bi,3,1,ei,0⟩] gh:=c9
     refine⟨.one (.c (.slice bh x177.length bi)),rfl,fun mc (jr:Kn 209 [(a,0),(d,0)] ((tS 177 bh x177.length bi)::(tS 176 af x160.1.length ag)::(tA 175 (RK ba x175 be bb bf))::(tI 26 x168.2.2.2)::(tI 25 x168.2.2.1)::(tB 22 x160.2)::(tI 20 x138.2.2)::(EG x138 x131)) mc)=>hK _ _ ?_⟩
     obtain⟨dh,aw,li,da⟩:=c9.settle (i:=3) rfl
     replace ea:=ea.mono (XU az aw)
     replace eb:=eb.mono (XU az aw)
     replace cf:=cf.mono aw
     replace da:Am ⟨w,h,AP⟩ dh [(a,0),(d,0)] [⟨Dy l y m f g,some 25⟩,⟨JI x p aa z ab,some 25⟩] [⟨z,p.1.length,ab,49,3,aq,(aq:List Value).length⟩,⟨x,p.2.1.length,aa,3,1,an,(an:List Value).length⟩,⟨a2,x167.length,a3,3,1,bp,(bp:List Value).length⟩,⟨bh,x177.length,bi,3,1,ei,(ei:List Value).length⟩] gh:=da
     have ec:A5 dh bh bi x177:=⟨_,cf,li,c9.rowCap (i:=3) rfl⟩
     obtain⟨x178,ex178,H⟩:=Aq H
     refine wl fun K hK=>?_
     refine wc [.agg (RK ba x175 be bb bf),.c (.slice bh x177.length bi)] jr da (Eb n da.has x175 ((Ab (Ae ea) (Ab (Ae eb) Ad)):rep dh x175 _) x177 ec ex178) fun pg m2 pz g1 a0 ah=>?_
     replace ak:=ak.mono (XU (XU (XU (XU (XU (XU (XU bo a5) ay) a6) a7) az) aw) a0)
     replace am:=am.mono (XU (XU (XU (XU (XU (XU (XU bo a5) ay) a6) a7) az) aw) a0)
     replace a1:=a1.mono (XU (XU (XU a7 az) aw) a0)
     replace bg:=bg.mono (XU (XU (XU a7 az) aw) a0)
     replace d9:=d9.mono (XU (XU (XU (XU a6 a7) az) aw) a0)
     replace ec:=ec.mono a0
     replace bl:=bl.mono (XU (XU (XU (XU (XU (XU (XU (XU bw bo) a5) ay) a6) a7) az) aw) a0)
     replace bk:=bk.mono (XU (XU (XU (XU (XU (XU (XU (XU bw bo) a5) ay) a6) a7) az) aw) a0)
     replace ce:=ce.mono (XU (XU (XU (XU a6 a7) az) aw) a0)
     replace cf:=cf.mono a0
     obtain⟨_,_,_,_,rfl,⟨en,ev,rfl,nk⟩,⟨eo,ew,rfl,nl⟩,rfl,rfl⟩:=g1
     refine⟨.tup [.c (.slice en x178.1.length ev),.c (.slice eo x178.2.1.length ew),.c (.int .i64 x178.2.2.1),.c (.int .i64 x178.2.2.2)],rfl,fun md (jt:Kn 209 [(a,0),(d,0)] ((178,.tup [.c (.slice en x178.1.length ev),.c (.slice eo x178.2.1.length ew),.c (.int .i64 x178.2.2.1),.c (.int .i64 x178.2.2.2)])::(tS 177 bh x177.length bi)::(tS 176 af x160.1.length ag)::(tA 175 (RK ba x175 be bb bf))::(tI 26 x168.2.2.2)::(tI 25 x168.2.2.1)::(tB 22 x160.2)::(tI 20 x138.2.2)::(EG x138 x131)) md)=>hK _ _ ?_⟩
     refine Rk 5 9 ((tI 30 x178.2.2.2)::(tI 29 x178.2.2.1)::(tI 26 x168.2.2.2)::(tI 25 x168.2.2.1)::(tB 22 x160.2)::(tI 20 x138.2.2)::(EG x138 x131)) jt ah fun oo ju=>?_
     refine wf (XT (Aa (Rk 0 3 ((tB 185 (x138.2.2 == 0))::(tI 30 x178.2.2.2)::(tI 29 x178.2.2.1)::(tI 26 x168.2.2.2)::(tI 25 x168.2.2.1)::(tB 22 x160.2)::(EG x138 x131)) ju ah fun f6 e7=>?_)))
     rcases Bool.eq_false_or_eq_true ((x138.2.2 == 0)) with b8 | b8
     ·
      rw [b8,XW] at H
      have jv:Kn 209 [(a,0),(d,0)] ((tB 185 true)::(tI 30 x178.2.2.2)::(tI 29 x178.2.2.1)::(tI 26 x168.2.2.2)::(tI 25 x168.2.2.1)::(tB 22 x160.2)::(EG x138 x131)) f6:=(e7.setB 185 true (by rfl) b8).kp
      refine Rk 3 3 ((tB 188 x160.2)::(tI 30 x178.2.2.2)::(tI 29 x178.2.2.1)::(tI 26 x168.2.2.2)::(tI 25 x168.2.2.1)::(EG x138 x131)) jv ah fun f7 e8=>?_
      rcases Bool.eq_false_or_eq_true (x160.2) with b9 | b9
      ·
       rw [Br b9] at H
       have jw:Kn 209 [(a,0),(d,0)] ((tB 188 true)::(tI 30 x178.2.2.2)::(tI 29 x178.2.2.1)::(tI 26 x168.2.2.2)::(tI 25 x168.2.2.1)::(EG x138 x131)) f7:=(e8.setB 188 true (by rfl) b9).kp
       refine Rk 6 4 ((tB 192 (x168.2.2.2 == 0))::(tI 30 x178.2.2.2)::(tI 29 x178.2.2.1)::(tI 25 x168.2.2.1)::(EG x138 x131)) jw ah fun f8 e9=>?_
       rcases Bool.eq_false_or_eq_true ((x168.2.2.2 == 0)) with ca | ca
       ·
        rw [ca,XW] at H
        have jy:Kn 209 [(a,0),(d,0)] ((tB 192 true)::(tI 30 x178.2.2.2)::(tI 29 x178.2.2.1)::(tI 25 x168.2.2.1)::(EG x138 x131)) f8:=(e9.setB 192 true (by rfl) ca).kp
        refine Rk 10 4 ((tB 196 (x178.2.2.2 == 0))::(tI 29 x178.2.2.1)::(tI 25 x168.2.2.1)::(EG x138 x131)) jy ah fun f9 fa=>?_
        rcases Bool.eq_false_or_eq_true ((x178.2.2.2 == 0)) with cb | cb
        ·
         rw [cb,XW] at H
         have jz:Kn 209 [(a,0),(d,0)] ((tB 196 true)::(tI 29 x178.2.2.1)::(tI 25 x168.2.2.1)::(EG x138 x131)) f9:=(fa.setB 196 true (by rfl) cb).kp
         refine Rk 14 5 [tB 201 (decide (x138.2.1≤x131.2.1)),tI 29 x178.2.2.1,tI 25 x168.2.2.1] jz ah fun ga fb=>?_
         rcases Bool.eq_false_or_eq_true (decide (x138.2.1≤x131.2.1)) with cc | cc
         ·
          rw [cc,XW] at H
          have j0:Kn 209 [(a,0),(d,0)] [tB 201 true,tI 29 x178.2.2.1,tI 25 x168.2.2.1] ga:=(fb.setB 201 true (by rfl) cc).kp
          refine Rk 19 5 [tB 206 (decide (x178.2.2.1≤x168.2.2.1))] j0 ah fun gb fc=>?_
          rcases Bool.eq_false_or_eq_true (decide (x178.2.2.1≤x168.2.2.1)) with cd | cd
          ·
           rw [cd,XW] at H
           have fd:Kn 209 [(a,0),(d,0)] [tB 206 true] gb:=(fc.setB 206 true (by rfl) cd).kp
           obtain⟨x207,ex207,H⟩:=Aq H
           refine AC _ rfl (Aj fd (by kernel_rfl)) fun K hK=>?_
           refine wc [] fd ah (BS n ah.has  ex207) fun ph m3 p0 g2 m8 fl=>?_
           obtain rfl:=g2
           refine⟨.one (.c (.bool x207)),rfl,fun me (j1:Kn 209 [(a,0),(d,0)] [tB 207 x207,tB 206 true] me)=>hK _ _ ?_⟩
           refine Rk 25 2 [tB 10 x207] j1 fl fun oq j2=>?_
           refine wf (wp_ret ?_)
           obtain rfl:=XZ H
           exact rt (.one (.c (.bool x207))) j2 fl rfl
          ·
           rw [cd,XV] at H
           have j3:Kn 209 [(a,0),(d,0)] [tB 206 false] gb:=(fc.setB 206 false (by rfl) cd).kp
           refine Rk 24 3 [tB 10 false] j3 ah fun os j4=>?_
           refine wf (wp_ret ?_)
           obtain rfl:=XZ H
           exact rt (.one (.c (.bool false))) j4 ah rfl
         ·
          rw [cc,XV] at H
          have j5:Kn 209 [(a,0),(d,0)] [tB 201 false,tI 29 x178.2.2.1,tI 25 x168.2.2.1] ga:=(fb.setB 201 false (by rfl) cc).kp
          refine Rk 19 8 [tB 10 false] j5 ah fun ot j6=>?_
          refine wf (wp_ret ?_)
          obtain rfl:=XZ H
          exact rt (.one (.c (.bool false))) j6 ah rfl
        ·
         rw [cb,XV] at H
         have j7:Kn 209 [(a,0),(d,0)] ((tB 196 false)::(tI 29 x178.2.2.1)::(tI 25 x168.2.2.1)::(EG x138 x131)) f9:=(fa.setB 196 false (by rfl) cb).kp
         refine Rk 14 13 [tB 10 false] j7 ah fun ou j8=>?_
         refine wf (wp_ret ?_)
         obtain rfl:=XZ H
         exact rt (.one (.c (.bool false))) j8 ah rfl
       ·
        rw [ca,XV] at H
        have j9:Kn 209 [(a,0),(d,0)] ((tB 192 false)::(tI 30 x178.2.2.2)::(tI 29 x178.2.2.1)::(tI 25 x168.2.2.1)::(EG x138 x131)) f8:=(e9.setB 192 false (by rfl) ca).kp
        refine Rk 10 17 [tB 10 false] j9 ah fun ov ka=>?_
        refine wf (wp_ret ?_)
        obtain rfl:=XZ H
        exact rt (.one (.c (.bool false))) ka ah rfl
      ·
       rw [Bs b9] at H
       have kb:Kn 209 [(a,0),(d,0)] ((tB 188 false)::(tI 30 x178.2.2.2)::(tI 29 x178.2.2.1)::(tI 26 x168.2.2.2)::(tI 25 x168.2.2.1)::(EG x138 x131)) f7:=(e8.setB 188 false (by rfl) b9).kp
       refine Rk 6 21 [tB 10 false] kb ah fun ow kc=>?_
       refine wf (wp_ret ?_)
       obtain rfl:=XZ H
       exact rt (.one (.c (.bool false))) kc ah rfl
     ·
      rw [b8,XV] at H
      have kd:Kn 209 [(a,0),(d,0)] ((tB 185 false)::(tI 30 x178.2.2.2)::(tI 29 x178.2.2.1)::(tI 26 x168.2.2.2)::(tI 25 x168.2.2.1)::(tB 22 x160.2)::(EG x138 x131)) f6:=(e7.setB 185 false (by rfl) b8).kp
      refine Rk 3 24 [tB 10 false] kd ah fun ox ke=>?_
      refine wf (wp_ret ?_)
      obtain rfl:=XZ H
      exact rt (.one (.c (.bool false))) ke ah rfl
  refine Ra 2 3 rfl rfl (by kernel_rfl) (by decide) (rfl) (rfl) (fun K hK=>?_) (fun K hK=>?_)
  ·
   refine DY [.c (.slice l y.room.length m)] _ fe d5 rfl rfl (by decide) (by rfl) rfl (fun _ _=>by kernel_rfl) (DM n d5.has y.room ak ex38) fun pi ez mr np g3 kx cl=>?_
   obtain⟨bq,bs,gc,rfl,rfl,hn⟩:=g3
   replace cl:Am ⟨w,h,AP⟩ ez [(a,0),(d,0)] (RL l y m f g) [⟨none,0,0,49,3,[],0⟩,⟨bq,x38.length,bs,3,1,gc,0⟩] mr:=cl
   refine⟨.one (.c (.slice bq x38.length bs)),rfl,fun mf (kf:Kn 209 [(a,0),(d,0)] ((tS 38 bq x38.length bs)::(tS 41 f y.buses.length g)::(tS 37 l y.room.length m)::(tP 11 1 0)::(H0 which at_ by_ a_words words c_words)) mf)=>hK _ _ cl.plOk ?_⟩
   refine Dr [7] [7,2,5,4,1,0] ((tP 43 1 0)::(tS 38 bq x38.length bs)::(tS 41 f y.buses.length g)::(tP 11 1 0)::(H0 which at_ by_ a_words words c_words)) kf cl fun oy kg=>?_
   refine Dl 3 fun K hK=>?_
   refine GO 0 rfl rfl 49 3 [] kg cl rfl rfl (by decide) (by kernel_rfl) (by rfl) (by rfl) rfl (by decide) fun ep mg p1 (kh:Kn 209 [(a,0),(d,0)] ((tS 39 ep 0 0)::(tP 43 1 0)::(tS 38 bq x38.length bs)::(tS 41 f y.buses.length g)::(tP 11 1 0)::(H0 which at_ by_ a_words words c_words)) mg) fm=>?_
   have ho:Ah ez ([]:List Bb) ([]:List Value):=Ah.nil
   refine hK _ _ fm.plOk ?_
   refine Io [7,2,3,5,4,1,0] (by kernel_rfl) (by rfl) (f0 ep 0 ([]:List Value) bq bs gc _ _ ?_)
   exact XY _ ⟨_,rfl,kh.kp,fm,kx,ho,hn⟩
  ·
   refine GO 0 rfl rfl 49 3 [] fe d5 rfl rfl (by decide) (by kernel_rfl) (by rfl) (by rfl) rfl (by decide) fun b1 mh p2 (ki:Kn 209 [(a,0),(d,0)] ((tS 39 b1 0 0)::(tS 41 f y.buses.length g)::(tS 37 l y.room.length m)::(tP 11 1 0)::(H0 which at_ by_ a_words words c_words)) mh) d6=>?_
   have dr:Ah cz ([]:List Bb) ([]:List Value):=Ah.nil
   refine hK _ _ d6.plOk ?_
   refine Dl 2 fun K hK=>?_
   refine DY [.c (.slice l y.room.length m)] _ ki d6 rfl rfl (by decide) (by rfl) rfl (fun _ _=>by kernel_rfl) (DM n d6.has y.room ak ex38) fun pj hb ms nq g4 ff cm=>?_
   replace dr:=dr.mono ff
   obtain⟨b2,b4,gd,rfl,rfl,hp⟩:=g4
   replace cm:Am ⟨w,h,AP⟩ hb [(a,0),(d,0)] (RL l y m f g) [⟨b1,0,0,49,3,([]:List Value),0⟩,⟨b2,x38.length,b4,3,1,gd,0⟩] ms:=cm
   refine⟨.one (.c (.slice b2 x38.length b4)),rfl,fun mi (kj:Kn 209 [(a,0),(d,0)] ((tS 38 b2 x38.length b4)::(tS 39 b1 0 0)::(tS 41 f y.buses.length g)::(tS 37 l y.room.length m)::(tP 11 1 0)::(H0 which at_ by_ a_words words c_words)) mi)=>hK _ _ cm.plOk ?_⟩
   refine Dr [7] [7,2,3,5,4,1,0] ((tP 43 1 0)::(tS 38 b2 x38.length b4)::(tS 39 b1 0 0)::(tS 41 f y.buses.length g)::(tP 11 1 0)::(H0 which at_ by_ a_words words c_words)) kj cm fun oz kk=>?_
   refine Io [7,2,3,5,4,1,0] (by kernel_rfl) (by rfl) (f0 b1 0 ([]:List Value) b2 b4 gd _ _ ?_)
   exact XY _ ⟨_,rfl,kk.kp,cm,ff,dr,hp⟩
abbrev SP (x62:Bb):List SC:=[.int .i64 x62.lo,.int .i64 x62.hi,.int .i64 x62.turn]
abbrev Tn (x194:Bb):List SC:=[.int .i64 x194.lo,.int .i64 x194.hi,.int .i64 x194.turn]
abbrev To (x203:Bb):List SC:=[.int .i64 x203.lo,.int .i64 x203.hi,.int .i64 x203.turn]
abbrev Ew (q:Option Addr) (y:Ag) (s:Nat) (u:Option Addr) (x:Nat):List SC:=[.slice q y.room.length s,.slice u y.buses.length x,.int .i64 y.broken]
abbrev Ny (q:Option Addr) (y:Ag) (s:Nat) (aa:Option Addr) (z:List Bb) (ab:Nat):List SC:=[.slice q y.room.length s,.slice aa z.length ab,.int .i64 y.broken]
abbrev RM (b5:Option Addr) (x91:Ag) (b9:Nat) (b6:Option Addr) (ca:Nat):List SC:=[.slice b5 x91.room.length b9,.slice b6 x91.buses.length ca,.int .i64 x91.broken]
abbrev RN (b7:Option Addr) (x106:Ag) (cb:Nat) (b8:Option Addr) (cc:Nat):List SC:=[.slice b7 x106.room.length cb,.slice b8 x106.buses.length cc,.int .i64 x106.broken]
abbrev SQ (m p a5 a9:Nat) (x_v11:Int) (ba:Nat) (x60:Int):AJ:=[(m,0),(p,0),(a5,a9+(x_v11:Int).toNat*1),(ba,0+(x60:Int).toNat*3)]
abbrev TQ (x62:Bb) (by_:IK .u16):List SC:=[.int .i64 (IntKind.i64.wrap (x62.lo+(IntKind.i64.wrap by_.n))),.int .i64 x62.hi,.int .i64 x62.turn]
abbrev SR (x62:Bb) (by_:IK .u16):List SC:=[.int .i64 (IntKind.i64.wrap (x62.lo+(IntKind.i64.wrap by_.n))),.int .i64 (IntKind.i64.wrap (x62.hi+(IntKind.i64.wrap by_.n))),.int .i64 x62.turn]
abbrev DB (q:Option Addr) (y:Ag) (s:Nat) (u:Option Addr) (x:Nat) (aa:Option Addr) (z:List Bb) (ab:Nat):List Cw:=[⟨Ew q y s u x,some 25⟩,⟨Ny q y s aa z ab,some 25⟩]
abbrev O1 (aa:Option Addr) (z:List Bb) (ab:Nat) (ah:List Value) (ai:Option Addr) (x93:List Int) (ak:Nat) (am:List Value):List Cp:=[⟨aa,z.length,ab,49,3,ah,(ah:List Value).length⟩,⟨ai,x93.length,ak,3,1,am,(am:List Value).length⟩]
abbrev Nz (aa:Option Addr) (z:List Bb) (ab:Nat) (ah:List Value) (ai:Option Addr) (x93:List Int) (ak:Nat) (am:List Value) (a4:Option Addr) (x108:List Int) (a6:Nat) (bm:List Value):List Cp:=[⟨aa,z.length,ab,49,3,ah,(ah:List Value).length⟩,⟨ai,x93.length,ak,3,1,am,(am:List Value).length⟩,⟨a4,x108.length,a6,3,1,bm,(bm:List Value).length⟩]
abbrev Ax (x94:(List Int)×(List Int)×Int×Int) (g:Option Addr) (x49:List Int) (l:Nat) (d:Option Addr) (a:(Bool×(List Int))) (f:Nat):TM:=[tI 15 x94.2.2.1,tS 10 g x49.length l,tS 7 d a.2.length f,tP 3 0 0]
abbrev Fo (d:Option Addr) (a:(Bool×(List Int))) (f:Nat) (by_:IK .u16):TM:=[tS 7 d a.2.length f,tP 3 0 0,(2,.one (.c (.int .u16 by_.n)))]
abbrev Ee (g:Option Addr) (x49:List Int) (l:Nat) (d:Option Addr) (a:(Bool×(List Int))) (f:Nat):TM:=[tS 10 g x49.length l,tP 9 1 0,tS 7 d a.2.length f,tP 3 0 0]
abbrev IB (x_v11:Int) (g:Option Addr) (x49:List Int) (l:Nat) (d:Option Addr) (a:(Bool×(List Int))) (f:Nat) (by_:IK .u16):TM:=(tI 11 x_v11)::(tS 10 g x49.length l)::(tP 9 1 0)::(Fo d a f by_)
set_option maxRecDepth 100000 in
set_option maxHeartbeats 4000000 in
theorem JJ (n:Nat) {h:Ac} {w:World} (hh:Dz h w) (y:Ag) {cs_y:List Value} (hx_y:rep h y cs_y) (words:List (IK .u16)) {a_words:Option Addr} {c_words:Nat} (hr_words:A5 h a_words c_words words) (by_:IK .u16) {r:Bool} (H:Ef n y words by_=some r) :
  Calls Try.prog 8 #[.agg cs_y.toArray,.slice a_words words.length c_words,.int .u16 by_.n] w (DI (fun h v=>v=.bool r) h w):=by
 obtain⟨_,_,rfl,⟨q,s,rfl,ae⟩,⟨_,_,rfl,⟨u,x,rfl,ad⟩,rfl⟩⟩:=hx_y
 refine enter 221 [.agg (Ew q y s u x),.c (.slice a_words words.length c_words),.c (.int .u16 by_.n)] Try.func8 rfl rfl rfl rfl fun t hk=>?_
 have hm:=Am.begin h w hh
 unfold Ef at H
 refine XT (Aa (wl fun K hK=>?_))
 refine wb (.agg (Ew q y s u x)) hk hm fun m vs abt (m9:Kn 221 [(m,0)] [tP 3 0 0,tA 0 (Ew q y s u x),tS 1 a_words words.length c_words,(2,.one (.c (.int .u16 by_.n)))] vs) dt=>hK _ _ ?_
 refine Rk 1 1 [tP 3 0 0,tS 1 a_words words.length c_words,(2,.one (.c (.int .u16 by_.n)))] m9 dt fun xs ni=>?_
 refine wf (XT (Aa (Rk 0 2 [tB 8 false,tS 7 none 0 0,tP 3 0 0,tS 1 a_words words.length c_words,(2,.one (.c (.int .u16 by_.n)))] ni dt fun xu nl=>?_)))
 refine wf (XT (XT (Aa (Rk 0 1 [tA 31 (Ew q y s u x),tB 8 false,tS 7 none 0 0,tP 3 0 0,tS 1 a_words words.length c_words,(2,.one (.c (.int .u16 by_.n)))] nl dt fun xx np=>?_))))
 obtain⟨x32,ex32,H⟩:=Aq H
 refine wl fun K hK=>?_
 refine wc [.agg (Ew q y s u x)] np dt (KO n dt.has y ((Ab (Ae ae) (Ab (Ae ad) Ad)):rep h y _) ex32) fun aac ih aa0 la gc eo=>?_
 replace ae:=ae.mono gc
 replace ad:=ad.mono gc
 replace hr_words:=hr_words.mono gc
 obtain rfl:=la
 refine⟨.one (.c (.bool x32)),rfl,fun kj (n7:Kn 221 [(m,0)] [tB 32 x32,tA 31 (Ew q y s u x),tB 8 false,tS 7 none 0 0,tP 3 0 0,tS 1 a_words words.length c_words,(2,.one (.c (.int .u16 by_.n)))] kj)=>hK _ _ ?_⟩
 have f2:Kn 221 [(m,0)] [tB 32 x32,tB 8 false,tS 7 none 0 0,tP 3 0 0,tS 1 a_words words.length c_words,(2,.one (.c (.int .u16 by_.n)))] kj:=n7.kp
 refine wf ?_
 obtain⟨a,cu,H⟩:=Aq H
 refine Au (fun a' w'=>∃ (d:Option Addr)(f:Nat)(hf:Array Value)(ch:Ac),a' = ⟨hf,[]⟩∧Kn 221 [(m,0)] ((tB 8 a.1)::(Fo d a f by_)) hf∧Am ⟨w,h,AP⟩ ch [(m,0)] [⟨Ew q y s u x,some 25⟩] [] w'∧Ac.le ih ch∧A5 ch d f a.2) ?_ ?_
 ·
  refine wC (x32) f2 (fun fp=>?_) (fun fp=>?_)
  ·
   rw [Br fp] at cu
   refine Aa (Rk 0 2 [tS 35 a_words words.length c_words,tA 34 (Ew q y s u x),tP 3 0 0,(2,.one (.c (.int .u16 by_.n)))] f2 eo fun yc oj=>?_)
   obtain⟨x36,ex36,cu⟩:=Aq cu
   refine wl fun K hK=>?_
   refine wc [.agg (Ew q y s u x),.c (.slice a_words words.length c_words)] oj eo (Jt n eo.has y ((Ab (Ae ae) (Ab (Ae ad) Ad)):rep ih y _) words hr_words ex36) fun aak wx aa8 ll r4 js=>?_
   obtain⟨_,_,rfl,⟨d3,ec,rfl,ti⟩,rfl⟩:=ll
   refine⟨.tup [.c (.slice d3 x36.1.length ec),.c (.bool x36.2)],rfl,fun vb (pb:Kn 221 [(m,0)] [(36,.tup [.c (.slice d3 x36.1.length ec),.c (.bool x36.2)]),tS 35 a_words words.length c_words,tA 34 (Ew q y s u x),tP 3 0 0,(2,.one (.c (.int .u16 by_.n)))] vb)=>hK _ _ ?_⟩
   refine Rk 3 5 [tB 8 x36.2,tS 7 d3 x36.1.length ec,tP 3 0 0,(2,.one (.c (.int .u16 by_.n)))] pb js fun yp ph=>?_
   refine wf ?_
   obtain rfl:=XZ cu
   exact XY d3 ⟨ec,_,_,rfl,ph.kp,js,r4,ti⟩
  ·
   rw [Bs fp] at cu
   refine wp_skip ?_
   obtain rfl:=XZ cu
   exact XY none ⟨0,_,_,rfl,f2.kp,eo,Ac.le_refl _,A5.nil⟩
 ·
  rintro _ abe ⟨d,f,hf,ch,rfl,pk,du,jp,ag⟩
  replace ae:=ae.mono jp
  replace ad:=ad.mono jp
  refine XT (XT (Aa (Rk 0 2 ((tB 40 (!a.1))::(Fo d a f by_)) pk du fun yx f8=>?_)))
  refine wf (wC ((!a.1)) f8 (fun ft=>?_) (fun ft=>?_))
  ·
   rw [ft,XW] at H
   refine XT (Aa ?_)
   obtain⟨x41,ex41,H⟩:=Aq H
   refine wl fun K hK=>?_
   refine wc [] f8 du (BS n du.has  ex41) fun aaq wz abg lq w7 jv=>?_
   obtain rfl:=lq
   refine⟨.one (.c (.bool x41)),rfl,fun vj (pz:Kn 221 [(m,0)] ((tB 41 x41)::(tB 40 (!a.1))::(Fo d a f by_)) vj)=>hK _ _ ?_⟩
   refine Rk 1 1 [tB 6 x41] pz jv fun y7 p5=>?_
   refine wf (wp_ret ?_)
   obtain rfl:=XZ H
   exact rt (.one (.c (.bool x41))) p5 jv rfl
  ·
   rw [ft,XV] at H
   refine wp_skip (XT (Aa (Rk 0 1 ((tA 42 (Ew q y s u x))::(Fo d a f by_)) f8 du fun zd qc=>?_)))
   refine wl fun K hK=>?_
   refine wa [.slice none 0 0,.slice none 0 0,.int .i64 0] qc du fun p kv abm (qm:Kn 221 [(m,0),(p,0)] ((tP 9 1 0)::(tA 42 (Ew q y s u x))::(Fo d a f by_)) kv) sb=>hK _ _ ?_
   refine wl fun K hK=>?_
   refine D8 1 0 (.agg (Ew q y s u x)) (Ew q y s u x) qm sb fun abo qu sc=>hK _ _ ?_
   have qx:Kn 221 [(m,0),(p,0)] ((tP 9 1 0)::(Fo d a f by_)) kv:=qu.kp
   refine wf (XT (Aa (wl fun K hK=>?_)))
   refine wS 49 3 [] qx sc fun e7 vq abr (q1:Kn 221 [(m,0),(p,0)] ((tS 43 e7 0 0)::(tP 9 1 0)::(Fo d a f by_)) vq) gx=>?_
   have m3:Ah ch ([]:List Bb) ([]:List Value):=Ah.nil
   refine hK _ _ ?_
   refine Rk 1 2 ((tS 45 u y.buses.length x)::(tS 43 e7 0 0)::(tP 9 1 0)::(Fo d a f by_)) q1 gx fun zv q9=>?_
   obtain⟨hw,eg,tm,_⟩:=id ad
   obtain⟨x46,ex46,H⟩:=Aq H
   obtain⟨g7,r3⟩:=Ce ex46
   refine wl fun K hK=>?_
   refine BG 0 24 y.buses.length _ (x46.length) _ hw q9 gx rfl rfl (by decide) rfl (by rfl) (by kernel_rfl) (by rfl) (by rfl) (Ah.len eg) (tm.cell gx.has eg.one) eg.one (by rw [g7]; simp <;> omega) (by rw [g7]; exact r3) (by decide) fun cy c3 k8 v1 abz m8 (r2:Kn 221 [(m,0),(p,0)] ((tS 46 cy x46.length c3)::(tS 45 u y.buses.length x)::(tS 43 e7 0 0)::(tP 9 1 0)::(Fo d a f by_)) v1) j5=>?_
   have f0:Ah ch x46 (([]:List Value)++hw):=by rw [g7]; exact Ah.append m3 eg
   obtain rfl:k8=0:=Nat.le_zero.1 m8
   refine hK _ _ ?_
   refine Rk 4 1 ((tP 47 1 1)::(tS 46 cy x46.length c3)::(tP 9 1 0)::(Fo d a f by_)) r2 j5 fun uv na=>?_
   refine wl fun K hK=>?_
   refine D8 1 1 (.c (.slice cy x46.length c3)) [.slice q y.room.length s,.slice cy x46.length c3,.int .i64 y.broken] na j5 fun aax nb gd=>hK _ _ ?_
   have nc:Kn 221 [(m,0),(p,0)] ((tP 9 1 0)::(Fo d a f by_)) uv:=nb.kp
   refine wf (XT (Aa (Rk 0 1 ((tA 48 (Ew q y s u x))::(tP 9 1 0)::(Fo d a f by_)) nc gd fun xq nd=>?_)))
   obtain⟨x49,ex49,H⟩:=Aq H
   refine wl fun K hK=>?_
   refine wc [.agg (Ew q y s u x),.c (.slice none 0 0)] nd gd (OX n gd.has y ((Ab (Ae ae) (Ab (Ae ad) Ad)):rep ch y _) ([]:List Int) A5.nil ex49) fun aab ig aay k9 ej gf=>?_
   replace ae:=ae.mono ej
   replace ad:=ad.mono ej
   replace ag:=ag.mono ej
   replace f0:=f0.mono ej
   obtain⟨g,l,rfl,af⟩:=k9
   refine⟨.one (.c (.slice g x49.length l)),rfl,fun uw (nf:Kn 221 [(m,0),(p,0)] ((tS 49 g x49.length l)::(tA 48 (Ew q y s u x))::(tP 9 1 0)::(Fo d a f by_)) uw)=>hK _ _ ?_⟩
   refine Rk 2 1 ((tS 10 g x49.length l)::(tP 9 1 0)::(Fo d a f by_)) nf gf fun xr ng=>?_
   refine wf (XT (XT (Aa (Rk 0 1 ((tI 11 0)::(tS 10 g x49.length l)::(tP 9 1 0)::(Fo d a f by_)) ng gf fun xt nh=>?_))))
   refine wf ?_
   obtain⟨z,h9,H⟩:=Aq H
   refine Au (fun a' w'=>∃ (aa:Option Addr)(ab:Nat)(ah:List Value)(hd:Array Value)(c4:Ac),a' = ⟨hd,[]⟩∧Kn 221 [(m,0),(p,0)] (Ee g x49 l d a f) hd∧Am ⟨w,h,AP⟩ c4 [(m,0),(p,0)] (DB q y s u x aa z ab) [⟨aa,z.length,ab,49,3,ah,0⟩] w'∧Ac.le ig c4∧Ah c4 z ah) ?_ ?_
   ·
    refine wp_block ?_
    refine Ay (fun uo a' w'=>∃ (x_v10:List Bb)(x_v11:Int)(ax:Option Addr)(ay:Nat)(ac:List Value)(he:Array Value)(bb:Ac),a' = ⟨he,[]⟩∧Kn 221 [(m,0),(p,0)] (IB x_v11 g x49 l d a f by_) he∧Am ⟨w,h,AP⟩ bb [(m,0),(p,0)] [⟨Ew q y s u x,some 25⟩,⟨[.slice q y.room.length s,.slice ax x_v10.length ay,.int .i64 y.broken],some 25⟩] [⟨ax,x_v10.length,ay,49,3,ac,0⟩] w'∧Ac.le ig bb∧Ah bb x_v10 ac∧BC uo by_ x49 x_v10 x_v11=some z) n ?_ ?_
    ·
     exact XY x46 ⟨0,cy,c3,([]:List Value)++hw,_,_,rfl,nh.kp,gf,Ac.le_refl _,f0,h9⟩
    ·
     rintro g8 _ aaz ⟨x_v10,x_v11,ax,ay,ac,he,bb,rfl,nj,cl,gb,cv,a3⟩
     clear h9
     obtain _ | g8:=g8
     ·
      rw [BC] at a3; cases a3
     rw [BC] at a3
     replace af:=af.mono gb
     refine XT (XT (Aa (Rk 0 4 ((tB 53 (decide (x_v11<((x49.length:Nat):Int))))::(IB x_v11 g x49 l d a f by_)) nj cl fun xv f1=>?_)))
     refine wf (wC (decide (x_v11<((x49.length:Nat):Int))) f1 (fun fm=>?_) (fun fm=>?_))
     ·
      rw [fm,XW] at a3
      refine wp_skip (XT (wp_block (XT (As (by kernel_rfl) ?_))))
      replace cl:=cl.drew
      refine Aw [] [(m,0),(p,0)] [⟨Ew q y s u x,some 25⟩,⟨[.slice q y.room.length s,.slice ax x_v10.length ay,.int .i64 y.broken],some 25⟩] ?_
      refine Dr [0,1,2,3] (dn 3) ((tI 59 x_v11)::(tS 58 g x49.length l)::(tS 57 ax x_v10.length ay)::(IB x_v11 g x49 l d a f by_)) f1 cl fun xw nk=>?_
      obtain⟨x60,ex60,a3⟩:=Aq a3
      obtain⟨sd,sv,t6⟩:=Ak ex60
      obtain⟨a5,a9,v7,l5,tn,mn⟩:=af.get (by decide) t6
      obtain rfl:=tn
      have en:=cl.addPlc (b:=a5) (o:=a9+(x_v11:Int).toNat*1) (cs:=[.int .i64 x60]) (fun j c hj=>mn j _ (Al hj)) rfl (by kernel_rfl) (by kernel_rfl)
      refine A6 4 (x_v11) [.int .i64 x60] (fun _ _ _ _ _ h=>h) rfl rfl (rfl) rfl (by decide) (by kernel_rfl) (by kernel_rfl) nk cl.plOk (by rfl) (by rfl) (by rfl) l5 (by rfl) sd sv (by kernel_rfl) fun ux (nm:Kn 221 [(m,0),(p,0),(a5,a9+(x_v11:Int).toNat*1)] ((tP 60 2 0)::(tI 59 x_v11)::(tS 58 g x49.length l)::(tS 57 ax x_v10.length ay)::(IB x_v11 g x49 l d a f by_)) ux)=>?_
      refine Dr [5] (dn 5) ((tI 61 x60)::(tS 57 ax x_v10.length ay)::(IB x_v11 g x49 l d a f by_)) nm en fun xy nn=>?_
      obtain⟨x62,ex62,a3⟩:=Aq a3
      obtain⟨j9,ka,t7⟩:=Ak ex62
      have dr:=AG j9 ka
      obtain⟨v8,tp,mo⟩:=AL (sz:=3) rfl cv t7
      obtain⟨_,_,rfl,rfl,⟨_,_,rfl,rfl,rfl⟩⟩:=tp
      obtain⟨ba,bx⟩:=AV en (i:=0) rfl (b0:=0+(x60:Int).toNat*3) (Nat.lt_of_lt_of_le (Nat.lt_add_of_pos_right (by decide)) (A0 (sz:=3) rfl cv dr))
      have cm:=en.addPlc (b:=ba) (o:=0+(x60:Int).toNat*3) (cs:=[]) (fun j c hj=>by simp at hj) rfl (by kernel_rfl) (by kernel_rfl)
      have ef:∀ (e:AJ) k c,([.int .i64 x62.lo,.int .i64 x62.hi,.int .i64 x62.turn]:List SC)[k]? = some c→(ac)[0+(x60:Int).toNat*3+k]? = some (c.den e):=fun e k c hk=>mo k _ (Al hk)
      refine A6 6 (x60) (SP x62) (fun _ _ _ _ _ h=>h) rfl rfl (rfl) rfl (by decide) (by kernel_rfl) (by kernel_rfl) nn en.plOk (by rfl) (by rfl) (by rfl) bx (by rfl) j9 ka (by kernel_rfl) fun uy (nq:Kn 221 (SQ m p a5 a9 x_v11 ba x60) ((tP 62 3 0)::(tI 61 x60)::(tS 57 ax x_v10.length ay)::(IB x_v11 g x49 l d a f by_)) uy)=>?_
      refine CA [7] [7,6,5,4,3,2,1,0] [12,11,10,9,7,3,2] ((tP 12 3 0)::(IB x_v11 g x49 l d a f by_)) (fun _ _ _ _ _ h=>h) nq (A9.peek cm.plOk cm 0 3 rfl rfl bx (SP x62) (ef _)) (by kernel_rfl) (by rfl) (by kernel_rfl) fun xz nr=>?_
      refine AQ (by kernel_rfl) (As (by kernel_rfl) ?_)
      replace cm:=cm.drew
      refine Aw [] (SQ m p a5 a9 x_v11 ba x60) [⟨Ew q y s u x,some 25⟩,⟨[.slice q y.room.length s,.slice ax x_v10.length ay,.int .i64 y.broken],some 25⟩,⟨[.int .i64 x60],none⟩,⟨SP x62,none⟩] ?_
      refine CA [0,1,2,3,4,5,6,7,8,9,10,11,12,13,14,15,16,17,18,19,20,21] [21,20,19,18,17,16,15,14,13,12,11,10,9,8,7,6,5,4,3,2,1,0] [84,82,79,72,65,64,11,10,9,7,3,2] ((tP 84 3 0)::(tI 82 (IntKind.i64.wrap ((IntKind.i64.wrap (3*x_v11))+1)))::(tI 79 (IntKind.i64.wrap (x62.hi+(IntKind.i64.wrap by_.n))))::(tI 72 (IntKind.i64.wrap (x62.lo+(IntKind.i64.wrap by_.n))))::(tP 65 3 0)::(tP 64 3 0)::(IB x_v11 g x49 l d a f by_)) (fun _ _ _ _ _ h=>h) nr (A9.peek cm.plOk cm 0 3 rfl rfl bx (SP x62) (ef _)) (by kernel_rfl) (by rfl) (by kernel_rfl) fun x0 ns=>?_
      obtain⟨cr,k5,a3⟩:=Aq a3
      obtain⟨xe,xh,kb⟩:=BR k5
      refine CM 22 rfl (by kernel_rfl) (by decide) (rfl) (by kernel_rfl) fun K hK=>?_
      refine Bg 0 3 0 (0+(x60:Int).toNat*3) (.c (.int .i64 (IntKind.i64.wrap (x62.lo+(IntKind.i64.wrap by_.n))))) ns cm rfl rfl (by rfl) (by rfl) rfl rfl bx rfl (by kernel_rfl) (FY (sz:=3) 0 1 rfl cv dr (Nat.le_of_ble_eq_true rfl)) fun v3 nt r8=>?_
      have fw:Ah bb cr (ac.take (0+(x60:Int).toNat*3+0)++([.int .i64 (IntKind.i64.wrap (x62.lo+(IntKind.i64.wrap by_.n)))]:List Value)++ac.drop (0+(x60:Int).toNat*3+0+1)):=by rw [kb]; exact DW (sz:=3) (cs:=[.int .i64 x62.lo,.int .i64 x62.hi,.int .i64 x62.turn]) [(m,0),(p,0),(a5,a9+(x_v11:Int).toNat*1),(ba,0+(x60:Int).toNat*3)] 0 rfl cv dr (ef _) rfl (Nat.le_of_ble_eq_true rfl) ((Ab Ad (Ab Ad Ad)):rep bb ((Bb.mk (IntKind.i64.wrap (x62.lo+(IntKind.i64.wrap by_.n))) x62.hi x62.turn):Bb) _)
      have j6:x_v10.length=cr.length:=by rw [kb]; simp
      have nu:=nt
      have gg:Am ⟨w,h,AP⟩ bb [(m,0),(p,0),(a5,a9+(x_v11:Int).toNat*1),(ba,0+(x60:Int).toNat*3)] [⟨[.slice q y.room.length s,.slice u y.buses.length x,.int .i64 y.broken],some 25⟩,⟨[.slice q y.room.length s,.slice ax cr.length ay,.int .i64 y.broken],some 25⟩,⟨[.int .i64 x60],none⟩,⟨[],none⟩] [⟨ax,cr.length,ay,49,3,ac.take (0+(x60:Int).toNat*3+0)++([.int .i64 (IntKind.i64.wrap (x62.lo+(IntKind.i64.wrap by_.n)))]:List Value)++ac.drop (0+(x60:Int).toNat*3+0+1),0⟩] v3:=by rw [← j6]; exact r8
      have fx:∀ (e:AJ) k c,([.int .i64 (IntKind.i64.wrap (x62.lo+(IntKind.i64.wrap by_.n))),.int .i64 x62.hi,.int .i64 x62.turn]:List SC)[k]? = some c→((ac.take (0+(x60:Int).toNat*3+0)++([.int .i64 (IntKind.i64.wrap (x62.lo+(IntKind.i64.wrap by_.n)))]:List Value)++ac.drop (0+(x60:Int).toNat*3+0+1)))[0+(x60:Int).toNat*3+k]? = some (c.den e):=Iu (cs:=(SP x62)) (ps:=[.int .i64 (IntKind.i64.wrap (x62.lo+(IntKind.i64.wrap by_.n)))]) 0 (A0 (sz:=3) rfl cv dr) ef (fun _=>rfl) (Nat.le_of_ble_eq_true rfl)
      have eh:(x60:Int).toNat<cr.length:=by rw [← j6]; exact dr
      refine hK _ _ ?_
      refine Aw [] (SQ m p a5 a9 x_v11 ba x60) [⟨Ew q y s u x,some 25⟩,⟨[.slice q y.room.length s,.slice ax cr.length ay,.int .i64 y.broken],some 25⟩,⟨[.int .i64 x60],none⟩,⟨TQ x62 by_,none⟩] ?_
      refine CA [23,24] [24,23,22,21,20,19,18,17,16,15,14,13,12,11,10,9,8,7,6,5,4,3,2,1,0] [86,82,79,65,11,10,9,7,3,2] ((tP 86 3 1)::(tI 82 (IntKind.i64.wrap ((IntKind.i64.wrap (3*x_v11))+1)))::(tI 79 (IntKind.i64.wrap (x62.hi+(IntKind.i64.wrap by_.n))))::(tP 65 3 0)::(IB x_v11 g x49 l d a f by_)) (fun _ _ _ _ _ h=>h) nu (A9.peek gg.plOk gg 0 3 rfl rfl bx (TQ x62 by_) (fx _)) (by kernel_rfl) (by rfl) (by kernel_rfl) fun x1 nv=>?_
      obtain⟨ct,k6,a3⟩:=Aq a3
      obtain⟨xf,xi,kc⟩:=BR k6
      refine CM 25 rfl (by kernel_rfl) (by decide) (rfl) (by kernel_rfl) fun K hK=>?_
      refine Bg 0 3 1 (0+(x60:Int).toNat*3) (.c (.int .i64 (IntKind.i64.wrap (x62.hi+(IntKind.i64.wrap by_.n))))) nv gg rfl rfl (by rfl) (by rfl) rfl rfl bx rfl (by kernel_rfl) (FY (sz:=3) 1 1 rfl fw eh (Nat.le_of_ble_eq_true rfl)) fun v4 nw r9=>?_
      have fy:Ah bb ct ((ac.take (0+(x60:Int).toNat*3+0)++([.int .i64 (IntKind.i64.wrap (x62.lo+(IntKind.i64.wrap by_.n)))]:List Value)++ac.drop (0+(x60:Int).toNat*3+0+1)).take (0+(x60:Int).toNat*3+1)++([.int .i64 (IntKind.i64.wrap (x62.hi+(IntKind.i64.wrap by_.n)))]:List Value)++(ac.take (0+(x60:Int).toNat*3+0)++([.int .i64 (IntKind.i64.wrap (x62.lo+(IntKind.i64.wrap by_.n)))]:List Value)++ac.drop (0+(x60:Int).toNat*3+0+1)).drop (0+(x60:Int).toNat*3+1+1)):=by rw [kc]; exact DW (sz:=3) (cs:=[.int .i64 (IntKind.i64.wrap (x62.lo+(IntKind.i64.wrap by_.n))),.int .i64 x62.hi,.int .i64 x62.turn]) [(m,0),(p,0),(a5,a9+(x_v11:Int).toNat*1),(ba,0+(x60:Int).toNat*3)] 1 rfl fw eh (fx _) rfl (Nat.le_of_ble_eq_true rfl) ((Ab Ad (Ab Ad Ad)):rep bb ((Bb.mk (IntKind.i64.wrap (x62.lo+(IntKind.i64.wrap by_.n))) (IntKind.i64.wrap (x62.hi+(IntKind.i64.wrap by_.n))) x62.turn):Bb) _)
      have j7:cr.length=ct.length:=by rw [kc]; simp
      have nx:=nw
      have gh:Am ⟨w,h,AP⟩ bb [(m,0),(p,0),(a5,a9+(x_v11:Int).toNat*1),(ba,0+(x60:Int).toNat*3)] [⟨[.slice q y.room.length s,.slice u y.buses.length x,.int .i64 y.broken],some 25⟩,⟨[.slice q y.room.length s,.slice ax ct.length ay,.int .i64 y.broken],some 25⟩,⟨[.int .i64 x60],none⟩,⟨[],none⟩] [⟨ax,ct.length,ay,49,3,(ac.take (0+(x60:Int).toNat*3+0)++([.int .i64 (IntKind.i64.wrap (x62.lo+(IntKind.i64.wrap by_.n)))]:List Value)++ac.drop (0+(x60:Int).toNat*3+0+1)).take (0+(x60:Int).toNat*3+1)++([.int .i64 (IntKind.i64.wrap (x62.hi+(IntKind.i64.wrap by_.n)))]:List Value)++(ac.take (0+(x60:Int).toNat*3+0)++([.int .i64 (IntKind.i64.wrap (x62.lo+(IntKind.i64.wrap by_.n)))]:List Value)++ac.drop (0+(x60:Int).toNat*3+0+1)).drop (0+(x60:Int).toNat*3+1+1),0⟩] v4:=by rw [← j7]; exact r9
      have fz:∀ (e:AJ) k c,([.int .i64 (IntKind.i64.wrap (x62.lo+(IntKind.i64.wrap by_.n))),.int .i64 (IntKind.i64.wrap (x62.hi+(IntKind.i64.wrap by_.n))),.int .i64 x62.turn]:List SC)[k]? = some c→(((ac.take (0+(x60:Int).toNat*3+0)++([.int .i64 (IntKind.i64.wrap (x62.lo+(IntKind.i64.wrap by_.n)))]:List Value)++ac.drop (0+(x60:Int).toNat*3+0+1)).take (0+(x60:Int).toNat*3+1)++([.int .i64 (IntKind.i64.wrap (x62.hi+(IntKind.i64.wrap by_.n)))]:List Value)++(ac.take (0+(x60:Int).toNat*3+0)++([.int .i64 (IntKind.i64.wrap (x62.lo+(IntKind.i64.wrap by_.n)))]:List Value)++ac.drop (0+(x60:Int).toNat*3+0+1)).drop (0+(x60:Int).toNat*3+1+1)))[0+(x60:Int).toNat*3+k]? = some (c.den e):=Iu (cs:=(TQ x62 by_)) (ps:=[.int .i64 (IntKind.i64.wrap (x62.hi+(IntKind.i64.wrap by_.n)))]) 1 (A0 (sz:=3) rfl fw eh) fx (fun _=>rfl) (Nat.le_of_ble_eq_true rfl)
      have ei:(x60:Int).toNat<ct.length:=by rw [← j7]; exact eh
      refine hK _ _ ?_
      refine Aw [] (SQ m p a5 a9 x_v11 ba x60) [⟨Ew q y s u x,some 25⟩,⟨[.slice q y.room.length s,.slice ax ct.length ay,.int .i64 y.broken],some 25⟩,⟨[.int .i64 x60],none⟩,⟨SR x62 by_,none⟩] ?_
      refine CA [26,27] [27,26,25,24,23,22,21,20,19,18,17,16,15,14,13,12,11,10,9,8,7,6,5,4,3,2,1,0] [88,82,11,10,9,7,3,2] ((tP 88 3 2)::(tI 82 (IntKind.i64.wrap ((IntKind.i64.wrap (3*x_v11))+1)))::(IB x_v11 g x49 l d a f by_)) (fun _ _ _ _ _ h=>h) nx (A9.peek gh.plOk gh 0 3 rfl rfl bx (SR x62 by_) (fz _)) (by kernel_rfl) (by rfl) (by kernel_rfl) fun uz ny=>?_
      obtain⟨cx,k7,a3⟩:=Aq a3
      obtain⟨xg,xj,kd⟩:=BR k7
      refine CM 28 rfl (by kernel_rfl) (by decide) (rfl) (by kernel_rfl) fun K hK=>?_
      refine Bg 0 3 2 (0+(x60:Int).toNat*3) (.c (.int .i64 (IntKind.i64.wrap ((IntKind.i64.wrap (3*x_v11))+1)))) ny gh rfl rfl (by rfl) (by rfl) rfl rfl bx rfl (by kernel_rfl) (FY (sz:=3) 2 1 rfl fy ei (Nat.le_of_ble_eq_true rfl)) fun v5 nz sa=>?_
      have mp:Ah bb cx (((ac.take (0+(x60:Int).toNat*3+0)++([.int .i64 (IntKind.i64.wrap (x62.lo+(IntKind.i64.wrap by_.n)))]:List Value)++ac.drop (0+(x60:Int).toNat*3+0+1)).take (0+(x60:Int).toNat*3+1)++([.int .i64 (IntKind.i64.wrap (x62.hi+(IntKind.i64.wrap by_.n)))]:List Value)++(ac.take (0+(x60:Int).toNat*3+0)++([.int .i64 (IntKind.i64.wrap (x62.lo+(IntKind.i64.wrap by_.n)))]:List Value)++ac.drop (0+(x60:Int).toNat*3+0+1)).drop (0+(x60:Int).toNat*3+1+1)).take (0+(x60:Int).toNat*3+2)++([.int .i64 (IntKind.i64.wrap ((IntKind.i64.wrap (3*x_v11))+1))]:List Value)++((ac.take (0+(x60:Int).toNat*3+0)++([.int .i64 (IntKind.i64.wrap (x62.lo+(IntKind.i64.wrap by_.n)))]:List Value)++ac.drop (0+(x60:Int).toNat*3+0+1)).take (0+(x60:Int).toNat*3+1)++([.int .i64 (IntKind.i64.wrap (x62.hi+(IntKind.i64.wrap by_.n)))]:List Value)++(ac.take (0+(x60:Int).toNat*3+0)++([.int .i64 (IntKind.i64.wrap (x62.lo+(IntKind.i64.wrap by_.n)))]:List Value)++ac.drop (0+(x60:Int).toNat*3+0+1)).drop (0+(x60:Int).toNat*3+1+1)).drop (0+(x60:Int).toNat*3+2+1)):=by rw [kd]; exact DW (sz:=3) (cs:=[.int .i64 (IntKind.i64.wrap (x62.lo+(IntKind.i64.wrap by_.n))),.int .i64 (IntKind.i64.wrap (x62.hi+(IntKind.i64.wrap by_.n))),.int .i64 x62.turn]) [(m,0),(p,0),(a5,a9+(x_v11:Int).toNat*1),(ba,0+(x60:Int).toNat*3)] 2 rfl fy ei (fz _) rfl (Nat.le_of_ble_eq_true rfl) ((Ab Ad (Ab Ad Ad)):rep bb ((Bb.mk (IntKind.i64.wrap (x62.lo+(IntKind.i64.wrap by_.n))) (IntKind.i64.wrap (x62.hi+(IntKind.i64.wrap by_.n))) (IntKind.i64.wrap ((IntKind.i64.wrap (3*x_v11))+1))):Bb) _)
      have j8:ct.length=cx.length:=by rw [kd]; simp
      have n0:=nz
      have gi:Am ⟨w,h,AP⟩ bb [(m,0),(p,0),(a5,a9+(x_v11:Int).toNat*1),(ba,0+(x60:Int).toNat*3)] [⟨[.slice q y.room.length s,.slice u y.buses.length x,.int .i64 y.broken],some 25⟩,⟨[.slice q y.room.length s,.slice ax cx.length ay,.int .i64 y.broken],some 25⟩,⟨[.int .i64 x60],none⟩,⟨[],none⟩] [⟨ax,cx.length,ay,49,3,((ac.take (0+(x60:Int).toNat*3+0)++([.int .i64 (IntKind.i64.wrap (x62.lo+(IntKind.i64.wrap by_.n)))]:List Value)++ac.drop (0+(x60:Int).toNat*3+0+1)).take (0+(x60:Int).toNat*3+1)++([.int .i64 (IntKind.i64.wrap (x62.hi+(IntKind.i64.wrap by_.n)))]:List Value)++(ac.take (0+(x60:Int).toNat*3+0)++([.int .i64 (IntKind.i64.wrap (x62.lo+(IntKind.i64.wrap by_.n)))]:List Value)++ac.drop (0+(x60:Int).toNat*3+0+1)).drop (0+(x60:Int).toNat*3+1+1)).take (0+(x60:Int).toNat*3+2)++([.int .i64 (IntKind.i64.wrap ((IntKind.i64.wrap (3*x_v11))+1))]:List Value)++((ac.take (0+(x60:Int).toNat*3+0)++([.int .i64 (IntKind.i64.wrap (x62.lo+(IntKind.i64.wrap by_.n)))]:List Value)++ac.drop (0+(x60:Int).toNat*3+0+1)).take (0+(x60:Int).toNat*3+1)++([.int .i64 (IntKind.i64.wrap (x62.hi+(IntKind.i64.wrap by_.n)))]:List Value)++(ac.take (0+(x60:Int).toNat*3+0)++([.int .i64 (IntKind.i64.wrap (x62.lo+(IntKind.i64.wrap by_.n)))]:List Value)++ac.drop (0+(x60:Int).toNat*3+0+1)).drop (0+(x60:Int).toNat*3+1+1)).drop (0+(x60:Int).toNat*3+2+1),0⟩] v5:=by rw [← j8]; exact sa
      have mq:∀ (e:AJ) k c,([.int .i64 (IntKind.i64.wrap (x62.lo+(IntKind.i64.wrap by_.n))),.int .i64 (IntKind.i64.wrap (x62.hi+(IntKind.i64.wrap by_.n))),.int .i64 (IntKind.i64.wrap ((IntKind.i64.wrap (3*x_v11))+1))]:List SC)[k]? = some c→((((ac.take (0+(x60:Int).toNat*3+0)++([.int .i64 (IntKind.i64.wrap (x62.lo+(IntKind.i64.wrap by_.n)))]:List Value)++ac.drop (0+(x60:Int).toNat*3+0+1)).take (0+(x60:Int).toNat*3+1)++([.int .i64 (IntKind.i64.wrap (x62.hi+(IntKind.i64.wrap by_.n)))]:List Value)++(ac.take (0+(x60:Int).toNat*3+0)++([.int .i64 (IntKind.i64.wrap (x62.lo+(IntKind.i64.wrap by_.n)))]:List Value)++ac.drop (0+(x60:Int).toNat*3+0+1)).drop (0+(x60:Int).toNat*3+1+1)).take (0+(x60:Int).toNat*3+2)++([.int .i64 (IntKind.i64.wrap ((IntKind.i64.wrap (3*x_v11))+1))]:List Value)++((ac.take (0+(x60:Int).toNat*3+0)++([.int .i64 (IntKind.i64.wrap (x62.lo+(IntKind.i64.wrap by_.n)))]:List Value)++ac.drop (0+(x60:Int).toNat*3+0+1)).take (0+(x60:Int).toNat*3+1)++([.int .i64 (IntKind.i64.wrap (x62.hi+(IntKind.i64.wrap by_.n)))]:List Value)++(ac.take (0+(x60:Int).toNat*3+0)++([.int .i64 (IntKind.i64.wrap (x62.lo+(IntKind.i64.wrap by_.n)))]:List Value)++ac.drop (0+(x60:Int).toNat*3+0+1)).drop (0+(x60:Int).toNat*3+1+1)).drop (0+(x60:Int).toNat*3+2+1)))[0+(x60:Int).toNat*3+k]? = some (c.den e):=Iu (cs:=(SR x62 by_)) (ps:=[.int .i64 (IntKind.i64.wrap ((IntKind.i64.wrap (3*x_v11))+1))]) 2 (A0 (sz:=3) rfl fy ei) fz (fun _=>rfl) (Nat.le_of_ble_eq_true rfl)
      have w6:(x60:Int).toNat<cx.length:=by rw [← j8]; exact ei
      refine hK _ _ ?_
      have n1:Kn 221 (SQ m p a5 a9 x_v11 ba x60) (IB x_v11 g x49 l d a f by_) uz:=n0.kp
      refine Gy (by kernel_rfl) (Aa (Dg 0 3 [11,10,9,7,3,2] ((tI 11 (IntKind.i64.wrap (x_v11+1)))::(tS 10 g x49.length l)::(tP 9 1 0)::(Fo d a f by_)) n1 (A9.peek gi.plOk gi 0 3 rfl rfl bx [.int .i64 (IntKind.i64.wrap (x62.lo+(IntKind.i64.wrap by_.n))),.int .i64 (IntKind.i64.wrap (x62.hi+(IntKind.i64.wrap by_.n))),.int .i64 (IntKind.i64.wrap ((IntKind.i64.wrap (3*x_v11))+1))] (mq _)) (by kernel_rfl) fun x2 n2=>?_))
      refine wf ?_
      exact XY g8 ⟨Nat.lt_succ_self _,XY cx ⟨IntKind.i64.wrap (x_v11+1),ax,ay,((ac.take (0+(x60:Int).toNat*3+0)++([.int .i64 (IntKind.i64.wrap (x62.lo+(IntKind.i64.wrap by_.n)))]:List Value)++ac.drop (0+(x60:Int).toNat*3+0+1)).take (0+(x60:Int).toNat*3+1)++([.int .i64 (IntKind.i64.wrap (x62.hi+(IntKind.i64.wrap by_.n)))]:List Value)++(ac.take (0+(x60:Int).toNat*3+0)++([.int .i64 (IntKind.i64.wrap (x62.lo+(IntKind.i64.wrap by_.n)))]:List Value)++ac.drop (0+(x60:Int).toNat*3+0+1)).drop (0+(x60:Int).toNat*3+1+1)).take (0+(x60:Int).toNat*3+2)++([.int .i64 (IntKind.i64.wrap ((IntKind.i64.wrap (3*x_v11))+1))]:List Value)++((ac.take (0+(x60:Int).toNat*3+0)++([.int .i64 (IntKind.i64.wrap (x62.lo+(IntKind.i64.wrap by_.n)))]:List Value)++ac.drop (0+(x60:Int).toNat*3+0+1)).take (0+(x60:Int).toNat*3+1)++([.int .i64 (IntKind.i64.wrap (x62.hi+(IntKind.i64.wrap by_.n)))]:List Value)++(ac.take (0+(x60:Int).toNat*3+0)++([.int .i64 (IntKind.i64.wrap (x62.lo+(IntKind.i64.wrap by_.n)))]:List Value)++ac.drop (0+(x60:Int).toNat*3+0+1)).drop (0+(x60:Int).toNat*3+1+1)).drop (0+(x60:Int).toNat*3+2+1),_,_,rfl,(n2.keep [11,10,9,7,3,2] (by rfl)).cut 2 (by kernel_rfl),gi.cutPl 2 (by kernel_rfl),gb,mp,a3⟩⟩
     ·
      rw [fm,XV] at a3
      refine wp_exit ?_
      obtain rfl:=XZ a3
      exact XY ax ⟨ay,ac,_,_,rfl,f1.kp,cl,gb,cv⟩
   ·
    rintro _ aa1 ⟨aa,ab,ah,hd,c4,rfl,n3,gj,ek,an⟩
    replace ae:=ae.mono ek
    replace ad:=ad.mono ek
    refine XT (Aa (Rk 0 1 ((tA 90 (Ew q y s u x))::(Ee g x49 l d a f)) n3 gj fun x3 n4=>?_))
    obtain⟨x91,ex91,H⟩:=Aq H
    refine wl fun K hK=>?_
    refine wc [.agg (Ew q y s u x)] n4 gj (CZ n gj.has y ((Ab (Ae ae) (Ab (Ae ad) Ad)):rep c4 y _) ex91) fun aad wu aa2 lb ds gk=>?_
    replace ag:=ag.mono (XU ek ds)
    obtain⟨_,rfl,⟨_,_,rfl,⟨b5,b9,rfl,g2⟩,⟨_,_,rfl,⟨b6,ca,rfl,g3⟩,rfl⟩⟩⟩:=lb
    refine⟨.one (.agg (RM b5 x91 b9 b6 ca)),rfl,fun u0 (n5:Kn 221 [(m,0),(p,0)] ((tA 91 (RM b5 x91 b9 b6 ca))::(tA 90 (Ew q y s u x))::(Ee g x49 l d a f)) u0)=>hK _ _ ?_⟩
    refine Rk 2 1 ((tS 92 d a.2.length f)::(tA 91 (RM b5 x91 b9 b6 ca))::(Ee g x49 l d a f)) n5 gk fun x4 n6=>?_
    obtain⟨x93,ex93,H⟩:=Aq H
    refine wl fun K hK=>?_
    refine DY [.c (.slice d a.2.length f)] _ n6 gk rfl rfl (by decide) (by rfl) rfl (fun _ _=>by kernel_rfl) (DM n gk.has a.2 ag ex93) fun aae ly k3 xo lc ci ep=>?_
    obtain⟨ai,ak,am,rfl,rfl,ao⟩:=lc
    replace ep:Am ⟨w,h,AP⟩ ly [(m,0),(p,0)] (DB q y s u x aa z ab) [⟨aa,z.length,ab,49,3,ah,0⟩,⟨ai,x93.length,ak,3,1,am,0⟩] k3:=ep
    refine⟨.one (.c (.slice ai x93.length ak)),rfl,fun u1 (n8:Kn 221 [(m,0),(p,0)] ((tS 93 ai x93.length ak)::(tS 92 d a.2.length f)::(tA 91 (RM b5 x91 b9 b6 ca))::(Ee g x49 l d a f)) u1)=>hK _ _ ?_⟩
    obtain⟨fc,cd,tj,er⟩:=ep.settle (i:=1) rfl
    replace g2:=g2.mono (XU ci cd)
    replace g3:=g3.mono (XU ci cd)
    replace ao:=ao.mono cd
    replace er:Am ⟨w,h,AP⟩ fc [(m,0),(p,0)] (DB q y s u x aa z ab) [⟨aa,z.length,ab,49,3,ah,0⟩,⟨ai,x93.length,ak,3,1,am,(am:List Value).length⟩] k3:=er
    have au:A5 fc ai ak x93:=⟨_,ao,tj,ep.rowCap (i:=1) rfl⟩
    obtain⟨x94,ex94,H⟩:=Aq H
    refine wl fun K hK=>?_
    refine wc [.agg (RM b5 x91 b9 b6 ca),.c (.slice ai x93.length ak)] n8 er (Eb n er.has x91 ((Ab (Ae g2) (Ab (Ae g3) Ad)):rep fc x91 _) x93 au ex94) fun aaf wv v6 ld cj cn=>?_
    replace ae:=ae.mono (XU (XU (XU ds ci) cd) cj)
    replace ad:=ad.mono (XU (XU (XU ds ci) cd) cj)
    replace ag:=ag.mono (XU (XU ci cd) cj)
    replace af:=af.mono (XU (XU (XU (XU ek ds) ci) cd) cj)
    replace au:=au.mono cj
    replace an:=an.mono (XU (XU (XU ds ci) cd) cj)
    replace ao:=ao.mono cj
    obtain⟨_,_,_,_,rfl,⟨hx,h5,rfl,xk⟩,⟨hy,h6,rfl,xl⟩,rfl,rfl⟩:=ld
    refine⟨.tup [.c (.slice hx x94.1.length h5),.c (.slice hy x94.2.1.length h6),.c (.int .i64 x94.2.2.1),.c (.int .i64 x94.2.2.2)],rfl,fun u2 (n9:Kn 221 [(m,0),(p,0)] ((94,.tup [.c (.slice hx x94.1.length h5),.c (.slice hy x94.2.1.length h6),.c (.int .i64 x94.2.2.1),.c (.int .i64 x94.2.2.2)])::(tS 93 ai x93.length ak)::(tS 92 d a.2.length f)::(tA 91 (RM b5 x91 b9 b6 ca))::(Ee g x49 l d a f)) u2)=>hK _ _ ?_⟩
    refine Rk 5 9 ((tI 16 x94.2.2.2)::(tI 15 x94.2.2.1)::(Ee g x49 l d a f)) n9 cn fun x5 oa=>?_
    refine wf (XT (XT (Aa (Rk 0 2 ((tB 100 (x94.2.2.2 != 0))::(tI 15 x94.2.2.1)::(Ee g x49 l d a f)) oa cn fun x6 f3=>?_))))
    refine wf (wC ((x94.2.2.2 != 0)) f3 (fun fn=>?_) (fun fn=>?_))
    ·
     rw [fn,XW] at H
     refine XT (Aa (Rk 0 1 [tB 6 false] f3 cn fun x7 ob=>?_))
     refine wf (wp_ret ?_)
     obtain rfl:=XZ H
     exact rt (.one (.c (.bool false))) ob cn rfl
    ·
     rw [fn,XV] at H
     refine wp_skip (XT (XT (Aa (Rk 0 1 ((tA 101 (Ny q y s aa z ab))::(tI 15 x94.2.2.1)::(Ee g x49 l d a f)) f3 cn fun x8 oc=>?_))))
     obtain⟨fd,ck,tk,es⟩:=cn.settle (i:=0) rfl
     replace ae:=ae.mono ck
     replace an:=an.mono ck
     replace es:Am ⟨w,h,AP⟩ fd [(m,0),(p,0)] (DB q y s u x aa z ab) (O1 aa z ab ah ai x93 ak am) v6:=es
     have ap:A5 fd aa ab z:=⟨_,an,tk,cn.rowCap (i:=0) rfl⟩
     obtain⟨x102,ex102,H⟩:=Aq H
     refine wl fun K hK=>?_
     refine wc [.agg (Ny q y s aa z ab)] oc es (KM n es.has (Ag.mk y.room z y.broken) ((Ab (Ae ae) (Ab (Ae ap) Ad)):rep fd (Ag.mk y.room z y.broken) _) ex102) fun aag fe aa3 lf ce b2=>?_
     replace ae:=ae.mono ce
     replace ad:=ad.mono (XU ck ce)
     replace ag:=ag.mono (XU ck ce)
     replace af:=af.mono (XU ck ce)
     replace au:=au.mono (XU ck ce)
     replace ap:=ap.mono ce
     replace an:=an.mono ce
     replace ao:=ao.mono (XU ck ce)
     obtain rfl:=lf
     refine⟨.one (.c (.int .i64 x102)),rfl,fun u3 (od:Kn 221 [(m,0),(p,0)] ((tI 102 x102)::(tA 101 (Ny q y s aa z ab))::(tI 15 x94.2.2.1)::(Ee g x49 l d a f)) u3)=>hK _ _ ?_⟩
     refine Rk 2 1 ((tB 103 (x102 == 0))::(tI 15 x94.2.2.1)::(Ee g x49 l d a f)) od b2 fun x9 f4=>?_
     refine wf (wC ((x102 == 0)) f4 (fun fo=>?_) (fun fo=>?_))
     ·
      rw [fo,XW] at H
      refine XT (Aa (Rk 0 1 ((tA 105 (Ny q y s aa z ab))::(tI 15 x94.2.2.1)::(Ee g x49 l d a f)) f4 b2 fun ya oe=>?_))
      obtain⟨x106,ex106,H⟩:=Aq H
      refine wl fun K hK=>?_
      refine wc [.agg (Ny q y s aa z ab)] oe b2 (CZ n b2.has (Ag.mk y.room z y.broken) ((Ab (Ae ae) (Ab (Ae ap) Ad)):rep fe (Ag.mk y.room z y.broken) _) ex106) fun aah ww aa4 lg cf gl=>?_
      replace ag:=ag.mono cf
      obtain⟨_,rfl,⟨_,_,rfl,⟨b7,cb,rfl,g4⟩,⟨_,_,rfl,⟨b8,cc,rfl,g5⟩,rfl⟩⟩⟩:=lg
      refine⟨.one (.agg (RN b7 x106 cb b8 cc)),rfl,fun u4 (og:Kn 221 [(m,0),(p,0)] ((tA 106 (RN b7 x106 cb b8 cc))::(tA 105 (Ny q y s aa z ab))::(tI 15 x94.2.2.1)::(Ee g x49 l d a f)) u4)=>hK _ _ ?_⟩
      refine Rk 2 1 ((tS 107 d a.2.length f)::(tA 106 (RN b7 x106 cb b8 cc))::(tI 15 x94.2.2.1)::(Ee g x49 l d a f)) og gl fun yb oh=>?_
      obtain⟨x108,ex108,H⟩:=Aq H
      refine wl fun K hK=>?_
      refine DY [.c (.slice d a.2.length f)] _ oh gl rfl rfl (by decide) (by rfl) rfl (fun _ _=>by kernel_rfl) (DM n gl.has a.2 ag ex108) fun aai lz k4 xp lh bn et=>?_
      obtain⟨a4,a6,bm,rfl,rfl,bc⟩:=lh
      replace et:Am ⟨w,h,AP⟩ lz [(m,0),(p,0)] (DB q y s u x aa z ab) [⟨aa,z.length,ab,49,3,ah,(ah:List Value).length⟩,⟨ai,x93.length,ak,3,1,am,(am:List Value).length⟩,⟨a4,x108.length,a6,3,1,bm,0⟩] k4:=et
      refine⟨.one (.c (.slice a4 x108.length a6)),rfl,fun u5 (oi:Kn 221 [(m,0),(p,0)] ((tS 108 a4 x108.length a6)::(tS 107 d a.2.length f)::(tA 106 (RN b7 x106 cb b8 cc))::(tI 15 x94.2.2.1)::(Ee g x49 l d a f)) u5)=>hK _ _ ?_⟩
      obtain⟨ff,bh,tl,eu⟩:=et.settle (i:=2) rfl
      replace g4:=g4.mono (XU bn bh)
      replace g5:=g5.mono (XU bn bh)
      replace bc:=bc.mono bh
      replace eu:Am ⟨w,h,AP⟩ ff [(m,0),(p,0)] (DB q y s u x aa z ab) (Nz aa z ab ah ai x93 ak am a4 x108 a6 bm) k4:=eu
      have bl:A5 ff a4 a6 x108:=⟨_,bc,tl,et.rowCap (i:=2) rfl⟩
      obtain⟨x109,ex109,H⟩:=Aq H
      refine wl fun K hK=>?_
      refine wc [.agg (RN b7 x106 cb b8 cc),.c (.slice a4 x108.length a6)] oi eu (Eb n eu.has x106 ((Ab (Ae g4) (Ab (Ae g5) Ad)):rep ff x106 _) x108 bl ex109) fun aaj l0 aa5 li bo ev=>?_
      replace ae:=ae.mono (XU (XU (XU cf bn) bh) bo)
      replace ad:=ad.mono (XU (XU (XU cf bn) bh) bo)
      obtain⟨_,_,_,_,rfl,⟨hz,h7,rfl,xm⟩,⟨h0,h8,rfl,xn⟩,rfl,rfl⟩:=li
      refine⟨.tup [.c (.slice hz x109.1.length h7),.c (.slice h0 x109.2.1.length h8),.c (.int .i64 x109.2.2.1),.c (.int .i64 x109.2.2.2)],rfl,fun u6 (ok:Kn 221 [(m,0),(p,0)] ((109,.tup [.c (.slice hz x109.1.length h7),.c (.slice h0 x109.2.1.length h8),.c (.int .i64 x109.2.2.1),.c (.int .i64 x109.2.2.2)])::(tS 108 a4 x108.length a6)::(tS 107 d a.2.length f)::(tA 106 (RN b7 x106 cb b8 cc))::(tI 15 x94.2.2.1)::(Ee g x49 l d a f)) u6)=>hK _ _ ?_⟩
      refine Rk 5 9 ((tI 20 x109.2.2.2)::(tI 19 x109.2.2.1)::(tI 15 x94.2.2.1)::(Ee g x49 l d a f)) ok ev fun yd ol=>?_
      refine wf (XT (Aa (Rk 0 1 ((tA 115 (Ew q y s u x))::(tI 20 x109.2.2.2)::(tI 19 x109.2.2.1)::(tI 15 x94.2.2.1)::(Ee g x49 l d a f)) ol ev fun ye om=>?_)))
      obtain⟨x116,ex116,H⟩:=Aq H
      refine wl fun K hK=>?_
      refine wc [.agg (Ew q y s u x)] om ev (CZ n ev.has y ((Ab (Ae ae) (Ab (Ae ad) Ad)):rep l0 y _) ex116) fun aal l1 aa6 lj bp jq=>?_
      obtain⟨_,rfl,⟨_,_,rfl,⟨dz,d8,rfl,td⟩,⟨_,_,rfl,⟨d0,d9,rfl,te⟩,rfl⟩⟩⟩:=lj
      refine⟨.one (.agg [.slice dz x116.room.length d8,.slice d0 x116.buses.length d9,.int .i64 x116.broken]),rfl,fun u7 (oo:Kn 221 [(m,0),(p,0)] ((tA 116 [.slice dz x116.room.length d8,.slice d0 x116.buses.length d9,.int .i64 x116.broken])::(tA 115 (Ew q y s u x))::(tI 20 x109.2.2.2)::(tI 19 x109.2.2.1)::(tI 15 x94.2.2.1)::(Ee g x49 l d a f)) u7)=>hK _ _ ?_⟩
      obtain⟨x117,ex117,H⟩:=Aq H
      refine wl fun K hK=>?_
      refine wc [.agg [.slice dz x116.room.length d8,.slice d0 x116.buses.length d9,.int .i64 x116.broken]] oo jq (E9 n jq.has x116 ((Ab (Ae td) (Ab (Ae te) Ad)):rep l1 x116 _) ex117) fun aam l2 aa7 lk bq ew=>?_
      replace ae:=ae.mono (XU bp bq)
      replace ap:=ap.mono (XU (XU (XU (XU (XU cf bn) bh) bo) bp) bq)
      obtain⟨_,_,_,rfl,⟨aj,al,rfl,g6⟩,rfl,rfl⟩:=lk
      refine⟨.tup [.c (.slice aj x117.1.length al),.c (.int .i64 x117.2.1),.c (.int .i64 x117.2.2)],rfl,fun u8 (op:Kn 221 [(m,0),(p,0)] ((117,.tup [.c (.slice aj x117.1.length al),.c (.int .i64 x117.2.1),.c (.int .i64 x117.2.2)])::(tA 116 [.slice dz x116.room.length d8,.slice d0 x116.buses.length d9,.int .i64 x116.broken])::(tA 115 (Ew q y s u x))::(tI 20 x109.2.2.2)::(tI 19 x109.2.2.1)::(tI 15 x94.2.2.1)::(Ee g x49 l d a f)) u8)=>hK _ _ ?_⟩
      refine Rk 3 7 ((tI 23 x117.2.2)::(tI 22 x117.2.1)::(tS 21 aj x117.1.length al)::(tI 20 x109.2.2.2)::(tI 19 x109.2.2.1)::(tI 15 x94.2.2.1)::(Ee g x49 l d a f)) op ew fun yf oq=>?_
      refine wf (XT (Aa (Rk 0 1 ((tA 122 (Ny q y s aa z ab))::(tI 23 x117.2.2)::(tI 22 x117.2.1)::(tS 21 aj x117.1.length al)::(tI 20 x109.2.2.2)::(tI 19 x109.2.2.1)::(Ax x94 g x49 l d a f)) oq ew fun yg os=>?_)))
      obtain⟨x123,ex123,H⟩:=Aq H
      refine wl fun K hK=>?_
      refine wc [.agg (Ny q y s aa z ab)] os ew (CZ n ew.has (Ag.mk y.room z y.broken) ((Ab (Ae ae) (Ab (Ae ap) Ad)):rep l2 (Ag.mk y.room z y.broken) _) ex123) fun aan l3 aa9 lm bi jr=>?_
      obtain⟨_,rfl,⟨_,_,rfl,⟨d1,ea,rfl,tf⟩,⟨_,_,rfl,⟨d2,eb,rfl,tg⟩,rfl⟩⟩⟩:=lm
      refine⟨.one (.agg [.slice d1 x123.room.length ea,.slice d2 x123.buses.length eb,.int .i64 x123.broken]),rfl,fun u9 (ot:Kn 221 [(m,0),(p,0)] ((tA 123 [.slice d1 x123.room.length ea,.slice d2 x123.buses.length eb,.int .i64 x123.broken])::(tA 122 (Ny q y s aa z ab))::(tI 23 x117.2.2)::(tI 22 x117.2.1)::(tS 21 aj x117.1.length al)::(tI 20 x109.2.2.2)::(tI 19 x109.2.2.1)::(Ax x94 g x49 l d a f)) u9)=>hK _ _ ?_⟩
      obtain⟨x124,ex124,H⟩:=Aq H
      refine wl fun K hK=>?_
      refine wc [.agg [.slice d1 x123.room.length ea,.slice d2 x123.buses.length eb,.int .i64 x123.broken]] ot jr (E9 n jr.has x123 ((Ab (Ae tf) (Ab (Ae tg) Ad)):rep l3 x123 _) ex124) fun aao l4 aba ln bj az=>?_
      replace ae:=ae.mono (XU bi bj)
      replace ad:=ad.mono (XU (XU (XU bp bq) bi) bj)
      replace ag:=ag.mono (XU (XU (XU (XU (XU (XU bn bh) bo) bp) bq) bi) bj)
      replace af:=af.mono (XU (XU (XU (XU (XU (XU (XU cf bn) bh) bo) bp) bq) bi) bj)
      replace au:=au.mono (XU (XU (XU (XU (XU (XU (XU cf bn) bh) bo) bp) bq) bi) bj)
      replace ap:=ap.mono (XU bi bj)
      replace bl:=bl.mono (XU (XU (XU (XU bo bp) bq) bi) bj)
      replace g6:=g6.mono (XU bi bj)
      replace an:=an.mono (XU (XU (XU (XU (XU (XU (XU cf bn) bh) bo) bp) bq) bi) bj)
      replace ao:=ao.mono (XU (XU (XU (XU (XU (XU (XU cf bn) bh) bo) bp) bq) bi) bj)
      replace bc:=bc.mono (XU (XU (XU (XU bo bp) bq) bi) bj)
      obtain⟨_,_,_,rfl,⟨aq,ar,rfl,th⟩,rfl,rfl⟩:=ln
      refine⟨.tup [.c (.slice aq x124.1.length ar),.c (.int .i64 x124.2.1),.c (.int .i64 x124.2.2)],rfl,fun va (ou:Kn 221 [(m,0),(p,0)] ((124,.tup [.c (.slice aq x124.1.length ar),.c (.int .i64 x124.2.1),.c (.int .i64 x124.2.2)])::(tA 123 [.slice d1 x123.room.length ea,.slice d2 x123.buses.length eb,.int .i64 x123.broken])::(tA 122 (Ny q y s aa z ab))::(tI 23 x117.2.2)::(tI 22 x117.2.1)::(tS 21 aj x117.1.length al)::(tI 20 x109.2.2.2)::(tI 19 x109.2.2.1)::(Ax x94 g x49 l d a f)) va)=>hK _ _ ?_⟩
      refine Rk 3 7 ((tI 26 x124.2.2)::(tI 25 x124.2.1)::(tS 24 aq x124.1.length ar)::(tI 23 x117.2.2)::(tI 22 x117.2.1)::(tS 21 aj x117.1.length al)::(tI 20 x109.2.2.2)::(tI 19 x109.2.2.1)::(Ax x94 g x49 l d a f)) ou az fun yh ov=>?_
      refine wf (XT ?_)
      obtain⟨ke,a0,H⟩:=Aq H
      refine Au (fun a' w'=>∃ (hg:Array Value)(c5:Ac),a' = ⟨hg,[]⟩∧Kn 221 [(m,0),(p,0)] [tI 15 x94.2.2.1,tS 10 g x49.length l,tS 7 d a.2.length f,tP 3 0 0,tB 153 ke] hg∧Am ⟨w,h,AP⟩ c5 [(m,0),(p,0)] (DB q y s u x aa z ab) (Nz aa z ab ah ai x93 ak am a4 x108 a6 bm) w'∧Ac.le l4 c5) ?_ ?_
      ·
       refine Aa (Rk 0 3 ((tB 130 (x109.2.2.2 != 0))::(tI 26 x124.2.2)::(tI 25 x124.2.1)::(tS 24 aq x124.1.length ar)::(tI 23 x117.2.2)::(tI 22 x117.2.1)::(tS 21 aj x117.1.length al)::(tI 19 x109.2.2.1)::(Ax x94 g x49 l d a f)) ov az fun kk ii=>?_)
       rcases Bool.eq_false_or_eq_true ((x109.2.2.2 != 0)) with c8 | c8
       ·
        rw [c8,XW] at a0
        have ow:Kn 221 [(m,0),(p,0)] ((tB 130 true)::(tI 26 x124.2.2)::(tI 25 x124.2.1)::(tS 24 aq x124.1.length ar)::(tI 23 x117.2.2)::(tI 22 x117.2.1)::(tS 21 aj x117.1.length al)::(tI 19 x109.2.2.1)::(Ax x94 g x49 l d a f)) kk:=(ii.setB 130 true (by rfl) c8).kp
        refine Rk 3 23 ((tB 153 true)::(Ax x94 g x49 l d a f)) ow az fun yi ox=>?_
        refine wf ?_
        obtain rfl:=XZ a0
        exact XY _ ⟨_,rfl,ox.kp,az,Ac.le_refl _⟩
       ·
        rw [c8,XV] at a0
        have oy:Kn 221 [(m,0),(p,0)] ((tB 130 false)::(tI 26 x124.2.2)::(tI 25 x124.2.1)::(tS 24 aq x124.1.length ar)::(tI 23 x117.2.2)::(tI 22 x117.2.1)::(tS 21 aj x117.1.length al)::(tI 19 x109.2.2.1)::(Ax x94 g x49 l d a f)) kk:=(ii.setB 130 false (by rfl) c8).kp
        refine Rk 3 5 ((tB 135 (x109.2.2.1 != x94.2.2.1))::(tI 26 x124.2.2)::(tI 25 x124.2.1)::(tS 24 aq x124.1.length ar)::(tI 23 x117.2.2)::(tI 22 x117.2.1)::(tS 21 aj x117.1.length al)::(Ax x94 g x49 l d a f)) oy az fun kl ij=>?_
        rcases Bool.eq_false_or_eq_true ((x109.2.2.1 != x94.2.2.1)) with c9 | c9
        ·
         rw [c9,XW] at a0
         have oz:Kn 221 [(m,0),(p,0)] ((tB 135 true)::(tI 26 x124.2.2)::(tI 25 x124.2.1)::(tS 24 aq x124.1.length ar)::(tI 23 x117.2.2)::(tI 22 x117.2.1)::(tS 21 aj x117.1.length al)::(Ax x94 g x49 l d a f)) kl:=(ij.setB 135 true (by rfl) c9).kp
         refine Rk 8 18 ((tB 153 true)::(Ax x94 g x49 l d a f)) oz az fun yj o0=>?_
         refine wf ?_
         obtain rfl:=XZ a0
         exact XY _ ⟨_,rfl,o0.kp,az,Ac.le_refl _⟩
        ·
         rw [c9,XV] at a0
         have o1:Kn 221 [(m,0),(p,0)] ((tB 135 false)::(tI 26 x124.2.2)::(tI 25 x124.2.1)::(tS 24 aq x124.1.length ar)::(tI 23 x117.2.2)::(tI 22 x117.2.1)::(tS 21 aj x117.1.length al)::(Ax x94 g x49 l d a f)) kl:=(ij.setB 135 false (by rfl) c9).kp
         refine Rk 8 4 ((tB 139 (x117.2.2 != 0))::(tI 26 x124.2.2)::(tI 25 x124.2.1)::(tS 24 aq x124.1.length ar)::(tI 22 x117.2.1)::(tS 21 aj x117.1.length al)::(Ax x94 g x49 l d a f)) o1 az fun km ik=>?_
         rcases Bool.eq_false_or_eq_true ((x117.2.2 != 0)) with da | da
         ·
          rw [da,XW] at a0
          have o2:Kn 221 [(m,0),(p,0)] ((tB 139 true)::(tI 26 x124.2.2)::(tI 25 x124.2.1)::(tS 24 aq x124.1.length ar)::(tI 22 x117.2.1)::(tS 21 aj x117.1.length al)::(Ax x94 g x49 l d a f)) km:=(ik.setB 139 true (by rfl) da).kp
          refine Rk 12 14 ((tB 153 true)::(Ax x94 g x49 l d a f)) o2 az fun yk o3=>?_
          refine wf ?_
          obtain rfl:=XZ a0
          exact XY _ ⟨_,rfl,o3.kp,az,Ac.le_refl _⟩
         ·
          rw [da,XV] at a0
          have o4:Kn 221 [(m,0),(p,0)] ((tB 139 false)::(tI 26 x124.2.2)::(tI 25 x124.2.1)::(tS 24 aq x124.1.length ar)::(tI 22 x117.2.1)::(tS 21 aj x117.1.length al)::(Ax x94 g x49 l d a f)) km:=(ik.setB 139 false (by rfl) da).kp
          refine Rk 12 4 ((tB 143 (x124.2.2 != 0))::(tI 25 x124.2.1)::(tS 24 aq x124.1.length ar)::(tI 22 x117.2.1)::(tS 21 aj x117.1.length al)::(Ax x94 g x49 l d a f)) o4 az fun kn il=>?_
          rcases Bool.eq_false_or_eq_true ((x124.2.2 != 0)) with db | db
          ·
           rw [db,XW] at a0
           have o5:Kn 221 [(m,0),(p,0)] ((tB 143 true)::(tI 25 x124.2.1)::(tS 24 aq x124.1.length ar)::(tI 22 x117.2.1)::(tS 21 aj x117.1.length al)::(Ax x94 g x49 l d a f)) kn:=(il.setB 143 true (by rfl) db).kp
           refine Rk 16 10 ((tB 153 true)::(Ax x94 g x49 l d a f)) o5 az fun yl o6=>?_
           refine wf ?_
           obtain rfl:=XZ a0
           exact XY _ ⟨_,rfl,o6.kp,az,Ac.le_refl _⟩
          ·
           rw [db,XV] at a0
           have o7:Kn 221 [(m,0),(p,0)] ((tB 143 false)::(tI 25 x124.2.1)::(tS 24 aq x124.1.length ar)::(tI 22 x117.2.1)::(tS 21 aj x117.1.length al)::(Ax x94 g x49 l d a f)) kn:=(il.setB 143 false (by rfl) db).kp
           refine Rk 16 5 ((tB 148 (x117.2.1 != x124.2.1))::(tS 24 aq x124.1.length ar)::(tS 21 aj x117.1.length al)::(Ax x94 g x49 l d a f)) o7 az fun ko im=>?_
           rcases Bool.eq_false_or_eq_true ((x117.2.1 != x124.2.1)) with dc | dc
           ·
            rw [dc,XW] at a0
            have o8:Kn 221 [(m,0),(p,0)] ((tB 148 true)::(tS 24 aq x124.1.length ar)::(tS 21 aj x117.1.length al)::(Ax x94 g x49 l d a f)) ko:=(im.setB 148 true (by rfl) dc).kp
            refine Rk 21 5 ((tB 153 true)::(Ax x94 g x49 l d a f)) o8 az fun ym o9=>?_
            refine wf ?_
            obtain rfl:=XZ a0
            exact XY _ ⟨_,rfl,o9.kp,az,Ac.le_refl _⟩
           ·
            rw [dc,XV] at a0
            have pa:Kn 221 [(m,0),(p,0)] ((tB 148 false)::(tS 24 aq x124.1.length ar)::(tS 21 aj x117.1.length al)::(Ax x94 g x49 l d a f)) ko:=(im.setB 148 false (by rfl) dc).kp
            refine Rk 21 2 ((tS 150 aq x124.1.length ar)::(tS 149 aj x117.1.length al)::(tB 148 false)::(Ax x94 g x49 l d a f)) pa az fun yn io=>?_
            obtain⟨x151,ex151,a0⟩:=Aq a0
            refine AC _ rfl (Aj io (by kernel_rfl)) fun K hK=>?_
            refine wc [.c (.slice aj x117.1.length al),.c (.slice aq x124.1.length ar)] io az (I8 n az.has x117.1 g6 x124.1 th ex151) fun aap wy abb lp r5 jt=>?_
            obtain rfl:=lp
            refine⟨.one (.c (.bool x151)),rfl,fun vc (pc:Kn 221 [(m,0),(p,0)] ((tB 151 x151)::(tS 150 aq x124.1.length ar)::(tS 149 aj x117.1.length al)::(tB 148 false)::(Ax x94 g x49 l d a f)) vc)=>hK _ _ ?_⟩
            refine Rk 24 2 ((tB 153 (!x151))::(Ax x94 g x49 l d a f)) pc jt fun yo pd=>?_
            refine wf ?_
            obtain rfl:=XZ a0
            exact XY _ ⟨_,rfl,pd.kp,jt,r5⟩
      ·
       rintro _ abc ⟨hg,c5,rfl,f5,co,br⟩
       replace ae:=ae.mono br
       replace ad:=ad.mono br
       replace ag:=ag.mono br
       replace af:=af.mono br
       replace au:=au.mono br
       replace ap:=ap.mono br
       replace bl:=bl.mono br
       replace an:=an.mono br
       replace ao:=ao.mono br
       replace bc:=bc.mono br
       refine wC (ke) f5 (fun fq=>?_) (fun fq=>?_)
       ·
        rw [Br fq] at H
        refine XT (Aa (Rk 0 1 [tB 6 false] f5 co fun yq pe=>?_))
        refine wf (wp_ret ?_)
        obtain rfl:=XZ H
        exact rt (.one (.c (.bool false))) pe co rfl
       ·
        rw [Bs fq] at H
        refine wp_skip (XT (As (by kernel_rfl) ?_))
        replace co:=co.drew
        refine Aw [] [(m,0),(p,0)] (DB q y s u x aa z ab) ?_
        refine Dr [0,1,2,3,4] (dn 4) ((tB 28 (y.broken == 0))::(tB 27 true)::(Ax x94 g x49 l d a f)) f5 co fun yr pf=>?_
        refine AQ (by kernel_rfl) (XT (XT (Aa (Rk 0 1 ((tI 29 0)::(tB 28 (y.broken == 0))::(tB 27 true)::(Ax x94 g x49 l d a f)) pf co fun ys pg=>?_))))
        refine wf ?_
        obtain⟨bv,ia,H⟩:=Aq H
        refine Au (fun a' w'=>∃ (hl:Array Value)(fg:Ac),a' = ⟨hl,[]⟩∧Kn 221 [(m,0),(p,0)] [tB 28 bv.1,tB 27 bv.2,tI 15 x94.2.2.1] hl∧Am ⟨w,h,AP⟩ fg [(m,0),(p,0)] (DB q y s u x aa z ab) (Nz aa z ab ah ai x93 ak am a4 x108 a6 bm) w'∧Ac.le c5 fg) ?_ ?_
        ·
         refine wp_block ?_
         refine Ay (fun uq a' w'=>∃ (x_v20:Int)(x_v21:Bool)(x_v22:Bool)(hn:Array Value)(c6:Ac),a' = ⟨hn,[]⟩∧Kn 221 [(m,0),(p,0)] ((tI 29 x_v20)::(tB 28 x_v21)::(tB 27 x_v22)::(Ax x94 g x49 l d a f)) hn∧Am ⟨w,h,AP⟩ c6 [(m,0),(p,0)] (DB q y s u x aa z ab) (Nz aa z ab ah ai x93 ak am a4 x108 a6 bm) w'∧Ac.le c5 c6∧Bj uq y a x49 x_v20 x_v21 x_v22=some bv) n ?_ ?_
         ·
          exact XY 0 ⟨y.broken == 0,true,_,_,rfl,pg.kp,co,Ac.le_refl _,ia⟩
         ·
          rintro ez _ abd ⟨x_v20,x_v21,x_v22,hn,c6,rfl,pi,ex,bg,bz⟩
          clear ia
          obtain _ | ez:=ez
          ·
           rw [Bj] at bz; cases bz
          rw [Bj] at bz
          replace ae:=ae.mono bg
          replace ad:=ad.mono bg
          replace ag:=ag.mono bg
          replace af:=af.mono bg
          replace au:=au.mono bg
          replace ap:=ap.mono bg
          replace bl:=bl.mono bg
          replace an:=an.mono bg
          replace ao:=ao.mono bg
          replace bc:=bc.mono bg
          refine XT (XT (Aa (Rk 0 4 ((tB 160 (decide (x_v20<((x49.length:Nat):Int))))::(tI 29 x_v20)::(tB 28 x_v21)::(tB 27 x_v22)::(Ax x94 g x49 l d a f)) pi ex fun yt f6=>?_)))
          refine wf (wC (decide (x_v20<((x49.length:Nat):Int))) f6 (fun fr=>?_) (fun fr=>?_))
          ·
           rw [fr,XW] at bz
           refine wp_skip (XT (wp_block (XT (Aa (Rk 0 1 ((tI 30 0)::(tI 29 x_v20)::(tB 28 x_v21)::(tB 27 x_v22)::(Ax x94 g x49 l d a f)) f6 ex fun yu pj=>?_)))))
           refine wf ?_
           obtain⟨cp,ib,bz⟩:=Aq bz
           refine Au (fun a' w'=>∃ (ho:Array Value)(fh:Ac),a' = ⟨ho,[]⟩∧Kn 221 [(m,0),(p,0)] ((tI 29 x_v20)::(tB 28 cp.1)::(tB 27 cp.2)::(Ax x94 g x49 l d a f)) ho∧Am ⟨w,h,AP⟩ fh [(m,0),(p,0)] (DB q y s u x aa z ab) (Nz aa z ab ah ai x93 ak am a4 x108 a6 bm) w'∧Ac.le c6 fh) ?_ ?_
           ·
            refine wp_block ?_
            refine Ay (fun ur a' w'=>∃ (x_v30:Int)(x_v31:Bool)(x_v32:Bool)(hp:Array Value)(ed:Ac),a' = ⟨hp,[]⟩∧Kn 221 [(m,0),(p,0)] ((tI 30 x_v30)::(tI 29 x_v20)::(tB 28 x_v31)::(tB 27 x_v32)::(Ax x94 g x49 l d a f)) hp∧Am ⟨w,h,AP⟩ ed [(m,0),(p,0)] (DB q y s u x aa z ab) (Nz aa z ab ah ai x93 ak am a4 x108 a6 bm) w'∧Ac.le c6 ed∧AF ur y a x49 x_v20 x_v30 x_v31 x_v32=some cp) ez ?_ ?_
            ·
             exact XY 0 ⟨x_v21,x_v22,_,_,rfl,pj.kp,ex,Ac.le_refl _,ib⟩
            ·
             rintro e0 _ abf ⟨x_v30,x_v31,x_v32,hp,ed,rfl,pl,bt,bd,av⟩
             clear ib
             obtain _ | e0:=e0
             ·
              rw [AF] at av; cases av
             rw [AF] at av
             replace ae:=ae.mono bd
             replace ad:=ad.mono bd
             replace ag:=ag.mono bd
             replace af:=af.mono bd
             replace au:=au.mono bd
             replace ap:=ap.mono bd
             replace bl:=bl.mono bd
             replace an:=an.mono bd
             replace ao:=ao.mono bd
             replace bc:=bc.mono bd
             refine XT (XT (Aa (Rk 0 3 ((tB 165 (decide (x_v30<x_v20)))::(tI 30 x_v30)::(tI 29 x_v20)::(tB 28 x_v31)::(tB 27 x_v32)::(Ax x94 g x49 l d a f)) pl bt fun yv f7=>?_)))
             refine wf (wC (decide (x_v30<x_v20)) f7 (fun fs=>?_) (fun fs=>?_))
             ·
              rw [fs,XW] at av
              refine wp_skip (XT (wp_block (XT ?_)))
              obtain⟨a1,be,av⟩:=Aq av
              refine Au (fun a' w'=>∃ (hq:Array Value)(fi:Ac),a' = ⟨hq,[]⟩∧Kn 221 [(m,0),(p,0)] ((tI 30 x_v30)::(tI 29 x_v20)::(tB 28 x_v31)::(tB 27 a1)::(Ax x94 g x49 l d a f)) hq∧Am ⟨w,h,AP⟩ fi [(m,0),(p,0)] (DB q y s u x aa z ab) (Nz aa z ab ah ai x93 ak am a4 x108 a6 bm) w'∧Ac.le ed fi) ?_ ?_
              ·
               refine As (by kernel_rfl) ?_
               replace bt:=bt.drew
               refine Aw [] [(m,0),(p,0)] (DB q y s u x aa z ab) ?_
               refine Dr [0,1] [1,0] ((tB 169 x_v32)::(tI 30 x_v30)::(tI 29 x_v20)::(tB 28 x_v31)::(Ax x94 g x49 l d a f)) f7 bt fun kq ip=>?_
               rcases Bool.eq_false_or_eq_true (x_v32) with dd | dd
               ·
                rw [Br dd] at be
                have pm:Kn 221 [(m,0),(p,0)] ((tB 169 true)::(tI 30 x_v30)::(tI 29 x_v20)::(tB 28 x_v31)::(Ax x94 g x49 l d a f)) kq:=(ip.setB 169 true (by rfl) dd).kp
                refine Dr [2,3,4] (dn 4) ((tI 172 x_v20)::(tS 171 g x49.length l)::(tS 170 d a.2.length f)::(tB 169 true)::(tI 30 x_v30)::(tI 29 x_v20)::(tB 28 x_v31)::(Ax x94 g x49 l d a f)) pm bt fun yw iq=>?_
                obtain⟨x173,ex173,be⟩:=Aq be
                obtain⟨se,sw,t8⟩:=Ak ex173
                obtain⟨cz,dv,v9,l6,tq,mr⟩:=af.get (by decide) t8
                obtain rfl:=tq
                have gm:=bt.addPlc (b:=cz) (o:=dv+(x_v20:Int).toNat*1) (cs:=[.int .i64 x173]) (fun j c hj=>mr j _ (Al hj)) rfl (by kernel_rfl) (by kernel_rfl)
                refine A6 5 (x_v20) [.int .i64 x173] (fun _ _ _ _ _ h=>h) rfl rfl (Aj iq (by kernel_rfl)) rfl (by decide) (by kernel_rfl) (by kernel_rfl) iq bt.plOk (by rfl) (by rfl) (by rfl) l6 (by rfl) se sw (by kernel_rfl) fun vd (pn:Kn 221 [(m,0),(p,0),(cz,dv+(x_v20:Int).toNat*1)] ((tP 173 2 0)::(tI 172 x_v20)::(tS 171 g x49.length l)::(tS 170 d a.2.length f)::(tB 169 true)::(tI 30 x_v30)::(tI 29 x_v20)::(tB 28 x_v31)::(Ax x94 g x49 l d a f)) vd)=>?_
                refine Dr [6] (dn 6) ((tI 174 x173)::(tS 170 d a.2.length f)::(tB 169 true)::(tI 30 x_v30)::(tI 29 x_v20)::(tB 28 x_v31)::(Ax x94 g x49 l d a f)) pn gm fun yy ir=>?_
                obtain⟨x175,ex175,be⟩:=Aq be
                obtain⟨sf,sx,t9⟩:=Ak ex175
                obtain⟨d4,e3,wd,l7,tr,ms⟩:=ag.get (by decide) t9
                obtain rfl:=tr
                have gn:=gm.addPlc (b:=d4) (o:=e3+(x173:Int).toNat*1) (cs:=[.int .i64 x175]) (fun j c hj=>ms j _ (Al hj)) rfl (by kernel_rfl) (by kernel_rfl)
                refine A6 7 (x173) [.int .i64 x175] (fun _ _ _ _ _ h=>h) rfl rfl (Aj ir (by kernel_rfl)) rfl (by decide) (by kernel_rfl) (by kernel_rfl) ir gm.plOk (by rfl) (by rfl) (by rfl) l7 (by rfl) sf sx (by kernel_rfl) fun ve (po:Kn 221 [(m,0),(p,0),(cz,dv+(x_v20:Int).toNat*1),(d4,e3+(x173:Int).toNat*1)] ((tP 175 3 0)::(tI 174 x173)::(tS 170 d a.2.length f)::(tB 169 true)::(tI 30 x_v30)::(tI 29 x_v20)::(tB 28 x_v31)::(Ax x94 g x49 l d a f)) ve)=>?_
                refine Dr [8,9,10,11] (dn 11) ((tI 179 x_v30)::(tS 178 g x49.length l)::(tS 177 d a.2.length f)::(tI 176 x175)::(tB 169 true)::(tI 30 x_v30)::(tI 29 x_v20)::(tB 28 x_v31)::(Ax x94 g x49 l d a f)) po gn fun yz iu=>?_
                obtain⟨x180,ex180,be⟩:=Aq be
                obtain⟨sg,sy,ua⟩:=Ak ex180
                obtain⟨e8,g9,we,l8,ts,mt⟩:=af.get (by decide) ua
                obtain rfl:=ts
                have go:=gn.addPlc (b:=e8) (o:=g9+(x_v30:Int).toNat*1) (cs:=[.int .i64 x180]) (fun j c hj=>mt j _ (Al hj)) rfl (by kernel_rfl) (by kernel_rfl)
                refine A6 12 (x_v30) [.int .i64 x180] (fun _ _ _ _ _ h=>h) rfl rfl (Aj iu (by kernel_rfl)) rfl (by decide) (by kernel_rfl) (by kernel_rfl) iu gn.plOk (by rfl) (by rfl) (by rfl) l8 (by rfl) sg sy (by kernel_rfl) fun vf (pp:Kn 221 [(m,0),(p,0),(cz,dv+(x_v20:Int).toNat*1),(d4,e3+(x173:Int).toNat*1),(e8,g9+(x_v30:Int).toNat*1)] ((tP 180 4 0)::(tI 179 x_v30)::(tS 178 g x49.length l)::(tS 177 d a.2.length f)::(tI 176 x175)::(tB 169 true)::(tI 30 x_v30)::(tI 29 x_v20)::(tB 28 x_v31)::(Ax x94 g x49 l d a f)) vf)=>?_
                refine Dr [13] (dn 13) ((tI 181 x180)::(tS 177 d a.2.length f)::(tI 176 x175)::(tB 169 true)::(tI 30 x_v30)::(tI 29 x_v20)::(tB 28 x_v31)::(Ax x94 g x49 l d a f)) pp go fun y0 iv=>?_
                obtain⟨x182,ex182,be⟩:=Aq be
                obtain⟨sh,s0,ub⟩:=Ak ex182
                obtain⟨h1,kf,wg,l9,tt,mu⟩:=ag.get (by decide) ub
                obtain rfl:=tt
                have ju:=go.addPlc (b:=h1) (o:=kf+(x180:Int).toNat*1) (cs:=[.int .i64 x182]) (fun j c hj=>mu j _ (Al hj)) rfl (by kernel_rfl) (by kernel_rfl)
                refine A6 14 (x180) [.int .i64 x182] (fun _ _ _ _ _ h=>h) rfl rfl (Aj iv (by kernel_rfl)) rfl (by decide) (by kernel_rfl) (by kernel_rfl) iv go.plOk (by rfl) (by rfl) (by rfl) l9 (by rfl) sh s0 (by kernel_rfl) fun vg (pq:Kn 221 [(m,0),(p,0),(cz,dv+(x_v20:Int).toNat*1),(d4,e3+(x173:Int).toNat*1),(e8,g9+(x_v30:Int).toNat*1),(h1,kf+(x180:Int).toNat*1)] ((tP 182 5 0)::(tI 181 x180)::(tS 177 d a.2.length f)::(tI 176 x175)::(tB 169 true)::(tI 30 x_v30)::(tI 29 x_v20)::(tB 28 x_v31)::(Ax x94 g x49 l d a f)) vg)=>?_
                refine Dr [15,16,17,18] (dn 18) ((tB 27 (x175 != x182))::(tI 30 x_v30)::(tI 29 x_v20)::(tB 28 x_v31)::(Ax x94 g x49 l d a f)) pq ju fun y1 pr=>?_
                refine AQ (by kernel_rfl) ?_
                obtain rfl:=XZ be
                exact XY _ ⟨_,rfl,(pr.keep [30,29,28,27,15,10,7,3] (by rfl)).cut 2 (by kernel_rfl),ju.cutPl 2 (by kernel_rfl),Ac.le_refl _⟩
               ·
                rw [Bs dd] at be
                have pt:Kn 221 [(m,0),(p,0)] ((tB 169 false)::(tI 30 x_v30)::(tI 29 x_v20)::(tB 28 x_v31)::(Ax x94 g x49 l d a f)) kq:=(ip.setB 169 false (by rfl) dd).kp
                refine Dr [2,3,4,5,6,7,8,9,10,11,12,13,14,15,16,17,18] (dn 18) ((tB 27 false)::(tI 30 x_v30)::(tI 29 x_v20)::(tB 28 x_v31)::(Ax x94 g x49 l d a f)) pt bt fun y2 pu=>?_
                refine AQ (by kernel_rfl) ?_
                obtain rfl:=XZ be
                exact XY _ ⟨_,rfl,pu.kp,bt,Ac.le_refl _⟩
              ·
               rintro _ abh ⟨hq,fi,rfl,pv,b3,el⟩
               replace ad:=ad.mono el
               replace af:=af.mono el
               refine As (by kernel_rfl) ?_
               replace b3:=b3.drew
               refine Aw [] [(m,0),(p,0)] (DB q y s u x aa z ab) ?_
               refine Dr [0,1] [1,0] ((tB 187 x_v31)::(tI 30 x_v30)::(tI 29 x_v20)::(tB 27 a1)::(Ax x94 g x49 l d a f)) pv b3 fun kr iw=>?_
               rcases Bool.eq_false_or_eq_true (x_v31) with de | de
               ·
                rw [Br de] at av
                have pw:Kn 221 [(m,0),(p,0)] ((tB 187 true)::(tI 30 x_v30)::(tI 29 x_v20)::(tB 27 a1)::(Ax x94 g x49 l d a f)) kr:=(iw.setB 187 true (by rfl) de).kp
                refine Dr [2,3,4,5] (dn 5) ((tI 191 x_v30)::(tS 190 g x49.length l)::(tS 189 u y.buses.length x)::(tB 187 true)::(tI 30 x_v30)::(tI 29 x_v20)::(tB 27 a1)::(Ax x94 g x49 l d a f)) pw b3 fun y3 ix=>?_
                obtain⟨x192,ex192,av⟩:=Aq av
                obtain⟨si,s1,uc⟩:=Ak ex192
                obtain⟨c0,dw,wh,ma,tu,mv⟩:=af.get (by decide) uc
                obtain rfl:=tu
                have gp:=b3.addPlc (b:=c0) (o:=dw+(x_v30:Int).toNat*1) (cs:=[.int .i64 x192]) (fun j c hj=>mv j _ (Al hj)) rfl (by kernel_rfl) (by kernel_rfl)
                refine A6 6 (x_v30) [.int .i64 x192] (fun _ _ _ _ _ h=>h) rfl rfl (Aj ix (by kernel_rfl)) rfl (by decide) (by kernel_rfl) (by kernel_rfl) ix b3.plOk (by rfl) (by rfl) (by rfl) ma (by rfl) si s1 (by kernel_rfl) fun vh (px:Kn 221 [(m,0),(p,0),(c0,dw+(x_v30:Int).toNat*1)] ((tP 192 2 0)::(tI 191 x_v30)::(tS 190 g x49.length l)::(tS 189 u y.buses.length x)::(tB 187 true)::(tI 30 x_v30)::(tI 29 x_v20)::(tB 27 a1)::(Ax x94 g x49 l d a f)) vh)=>?_
                refine Dr [7] (dn 7) ((tI 193 x192)::(tS 189 u y.buses.length x)::(tB 187 true)::(tI 30 x_v30)::(tI 29 x_v20)::(tB 27 a1)::(Ax x94 g x49 l d a f)) px gp fun y4 iy=>?_
                obtain⟨x194,ex194,av⟩:=Aq av
                obtain⟨sj,s2,ud⟩:=Ak ex194
                obtain⟨d5,e4,wi,mb,tv,mw⟩:=ad.get (by decide) ud
                obtain⟨_,_,rfl,rfl,⟨_,_,rfl,rfl,rfl⟩⟩:=tv
                have gq:=gp.addPlc (b:=d5) (o:=e4+(x192:Int).toNat*3) (cs:=(Tn x194)) (fun j c hj=>mw j _ (Al hj)) rfl (by kernel_rfl) (by kernel_rfl)
                refine A6 8 (x192) (Tn x194) (fun _ _ _ _ _ h=>h) rfl rfl (Aj iy (by kernel_rfl)) rfl (by decide) (by kernel_rfl) (by kernel_rfl) iy gp.plOk (by rfl) (by rfl) (by rfl) mb (by rfl) sj s2 (by kernel_rfl) fun vi (py:Kn 221 [(m,0),(p,0),(c0,dw+(x_v30:Int).toNat*1),(d5,e4+(x192:Int).toNat*3)] ((tP 194 3 0)::(tI 193 x192)::(tS 189 u y.buses.length x)::(tB 187 true)::(tI 30 x_v30)::(tI 29 x_v20)::(tB 27 a1)::(Ax x94 g x49 l d a f)) vi)=>?_
                refine Dr [9,10,11,12,13,14] (dn 14) ((tI 200 x_v20)::(tS 199 g x49.length l)::(tS 198 u y.buses.length x)::(tI 196 x194.hi)::(tB 187 true)::(tI 30 x_v30)::(tI 29 x_v20)::(tB 27 a1)::(Ax x94 g x49 l d a f)) py gq fun y5 iz=>?_
                obtain⟨x201,ex201,av⟩:=Aq av
                obtain⟨sk,s3,ue⟩:=Ak ex201
                obtain⟨e9,ha,wj,mc,tw,mx⟩:=af.get (by decide) ue
                obtain rfl:=tw
                have gr:=gq.addPlc (b:=e9) (o:=ha+(x_v20:Int).toNat*1) (cs:=[.int .i64 x201]) (fun j c hj=>mx j _ (Al hj)) rfl (by kernel_rfl) (by kernel_rfl)
                refine A6 15 (x_v20) [.int .i64 x201] (fun _ _ _ _ _ h=>h) rfl rfl (Aj iz (by kernel_rfl)) rfl (by decide) (by kernel_rfl) (by kernel_rfl) iz gq.plOk (by rfl) (by rfl) (by rfl) mc (by rfl) sk s3 (by kernel_rfl) fun vk (p0:Kn 221 [(m,0),(p,0),(c0,dw+(x_v30:Int).toNat*1),(d5,e4+(x192:Int).toNat*3),(e9,ha+(x_v20:Int).toNat*1)] ((tP 201 4 0)::(tI 200 x_v20)::(tS 199 g x49.length l)::(tS 198 u y.buses.length x)::(tI 196 x194.hi)::(tB 187 true)::(tI 30 x_v30)::(tI 29 x_v20)::(tB 27 a1)::(Ax x94 g x49 l d a f)) vk)=>?_
                refine Dr [16] (dn 16) ((tI 202 x201)::(tS 198 u y.buses.length x)::(tI 196 x194.hi)::(tB 187 true)::(tI 30 x_v30)::(tI 29 x_v20)::(tB 27 a1)::(Ax x94 g x49 l d a f)) p0 gr fun y6 i0=>?_
                obtain⟨x203,ex203,av⟩:=Aq av
                obtain⟨sl,s4,uf⟩:=Ak ex203
                obtain⟨h2,kg,wk,md,tx,my⟩:=ad.get (by decide) uf
                obtain⟨_,_,rfl,rfl,⟨_,_,rfl,rfl,rfl⟩⟩:=tx
                have gs:=gr.addPlc (b:=h2) (o:=kg+(x201:Int).toNat*3) (cs:=(To x203)) (fun j c hj=>my j _ (Al hj)) rfl (by kernel_rfl) (by kernel_rfl)
                refine A6 17 (x201) (To x203) (fun _ _ _ _ _ h=>h) rfl rfl (Aj i0 (by kernel_rfl)) rfl (by decide) (by kernel_rfl) (by kernel_rfl) i0 gr.plOk (by rfl) (by rfl) (by rfl) md (by rfl) sl s4 (by kernel_rfl) fun vl (p1:Kn 221 [(m,0),(p,0),(c0,dw+(x_v30:Int).toNat*1),(d5,e4+(x192:Int).toNat*3),(e9,ha+(x_v20:Int).toNat*1),(h2,kg+(x201:Int).toNat*3)] ((tP 203 5 0)::(tI 202 x201)::(tS 198 u y.buses.length x)::(tI 196 x194.hi)::(tB 187 true)::(tI 30 x_v30)::(tI 29 x_v20)::(tB 27 a1)::(Ax x94 g x49 l d a f)) vl)=>?_
                refine Dr [18,19,20,21,22] (dn 22) ((tB 28 (decide (x194.hi<x203.lo)))::(tI 30 x_v30)::(tI 29 x_v20)::(tB 27 a1)::(Ax x94 g x49 l d a f)) p1 gs fun y8 p2=>?_
                refine AQ (by kernel_rfl) (Aa (Rk 0 3 ((tI 30 (IntKind.i64.wrap (x_v30+1)))::(tB 28 (decide (x194.hi<x203.lo)))::(tI 29 x_v20)::(tB 27 a1)::(Ax x94 g x49 l d a f)) p2 gs fun y9 p3=>?_))
                refine wf ?_
                exact XY e0 ⟨Nat.lt_succ_self _,XY (IntKind.i64.wrap (x_v30+1)) ⟨decide (x194.hi<x203.lo),a1,_,_,rfl,(p3.keep [30,29,28,27,15,10,7,3] (by rfl)).cut 2 (by kernel_rfl),gs.cutPl 2 (by kernel_rfl),XU bd el,av⟩⟩
               ·
                rw [Bs de] at av
                have p4:Kn 221 [(m,0),(p,0)] ((tB 187 false)::(tI 30 x_v30)::(tI 29 x_v20)::(tB 27 a1)::(Ax x94 g x49 l d a f)) kr:=(iw.setB 187 false (by rfl) de).kp
                refine Dr [2,3,4,5,6,7,8,9,10,11,12,13,14,15,16,17,18,19,20,21,22] (dn 22) ((tB 28 false)::(tI 30 x_v30)::(tI 29 x_v20)::(tB 27 a1)::(Ax x94 g x49 l d a f)) p4 b3 fun za p6=>?_
                refine AQ (by kernel_rfl) (Aa (Rk 0 3 ((tI 30 (IntKind.i64.wrap (x_v30+1)))::(tB 28 false)::(tI 29 x_v20)::(tB 27 a1)::(Ax x94 g x49 l d a f)) p6 b3 fun zb p7=>?_))
                refine wf ?_
                exact XY e0 ⟨Nat.lt_succ_self _,XY (IntKind.i64.wrap (x_v30+1)) ⟨false,a1,_,_,rfl,p7.kp,b3,XU bd el,av⟩⟩
             ·
              rw [fs,XV] at av
              refine wp_exit ?_
              obtain rfl:=XZ av
              exact XY _ ⟨_,rfl,f7.kp,bt,bd⟩
           ·
            rintro _ abi ⟨ho,fh,rfl,p8,jw,r6⟩
            refine Aa (Rk 0 3 ((tI 29 (IntKind.i64.wrap (x_v20+1)))::(tB 28 cp.1)::(tB 27 cp.2)::(Ax x94 g x49 l d a f)) p8 jw fun zc p9=>?_)
            refine wf ?_
            exact XY ez ⟨Nat.lt_succ_self _,XY (IntKind.i64.wrap (x_v20+1)) ⟨cp.1,cp.2,_,_,rfl,p9.kp,jw,XU bg r6,bz⟩⟩
          ·
           rw [fr,XV] at bz
           refine wp_exit ?_
           obtain rfl:=XZ bz
           exact XY _ ⟨_,rfl,f6.kp,ex,bg⟩
        ·
         rintro _ abj ⟨hl,fg,rfl,qa,a7,cg⟩
         replace ae:=ae.mono cg
         replace ad:=ad.mono cg
         replace au:=au.mono cg
         replace ap:=ap.mono cg
         replace bl:=bl.mono cg
         replace an:=an.mono cg
         replace ao:=ao.mono cg
         replace bc:=bc.mono cg
         refine XT (Aa (Rk 0 3 [tB 210 (!bv.2),tB 28 bv.1,tI 15 x94.2.2.1] qa a7 fun ks i1=>?_))
         rcases Bool.eq_false_or_eq_true ((!bv.2)) with df | df
         ·
          rw [df,XW] at H
          have qb:Kn 221 [(m,0),(p,0)] [tB 210 true,tB 28 bv.1,tI 15 x94.2.2.1] ks:=(i1.setB 210 true (by rfl) df).kp
          refine Rk 3 4 [tB 214 (!bv.1),tI 15 x94.2.2.1] qb a7 fun kt i2=>?_
          rcases Bool.eq_false_or_eq_true ((!bv.1)) with dg | dg
          ·
           rw [dg,XW] at H
           have qd:Kn 221 [(m,0),(p,0)] [tB 214 true,tI 15 x94.2.2.1] kt:=(i2.setB 214 true (by rfl) dg).kp
           refine Rk 7 4 [tB 218 true] qd a7 fun ze i3=>?_
           obtain⟨x219,ex219,H⟩:=Aq H
           refine AC _ rfl (Aj i3 (by kernel_rfl)) fun K hK=>?_
           refine wc [] i3 a7 (BS n a7.has  ex219) fun aar w0 abk lr w8 jx=>?_
           obtain rfl:=lr
           refine⟨.one (.c (.bool x219)),rfl,fun vm (qe:Kn 221 [(m,0),(p,0)] [tB 219 x219,tB 218 true] vm)=>hK _ _ ?_⟩
           refine Rk 12 2 [tB 6 x219] qe jx fun zf qf=>?_
           refine wf (wp_ret ?_)
           obtain rfl:=XZ H
           exact rt (.one (.c (.bool x219))) qf jx rfl
          ·
           rw [dg,XV] at H
           have qg:Kn 221 [(m,0),(p,0)] [tB 214 false,tI 15 x94.2.2.1] kt:=(i2.setB 214 false (by rfl) dg).kp
           refine Rk 7 4 [tB 218 (x94.2.2.1 == 0)] qg a7 fun ku i4=>?_
           rcases Bool.eq_false_or_eq_true ((x94.2.2.1 == 0)) with dh | dh
           ·
            rw [dh,XW] at H
            have i5:Kn 221 [(m,0),(p,0)] [tB 218 true] ku:=(i4.setB 218 true (by rfl) dh).kp
            obtain⟨x219,ex219,H⟩:=Aq H
            refine AC _ rfl (Aj i5 (by kernel_rfl)) fun K hK=>?_
            refine wc [] i5 a7 (BS n a7.has  ex219) fun aas w1 abl ls w9 jy=>?_
            obtain rfl:=ls
            refine⟨.one (.c (.bool x219)),rfl,fun vn (qh:Kn 221 [(m,0),(p,0)] [tB 219 x219,tB 218 true] vn)=>hK _ _ ?_⟩
            refine Rk 12 2 [tB 6 x219] qh jy fun zg qi=>?_
            refine wf (wp_ret ?_)
            obtain rfl:=XZ H
            exact rt (.one (.c (.bool x219))) qi jy rfl
           ·
            rw [dh,XV] at H
            have qj:Kn 221 [(m,0),(p,0)] [tB 218 false] ku:=(i4.setB 218 false (by rfl) dh).kp
            refine Rk 11 3 [tB 6 false] qj a7 fun zh qk=>?_
            refine wf (wp_ret ?_)
            obtain rfl:=XZ H
            exact rt (.one (.c (.bool false))) qk a7 rfl
         ·
          rw [df,XV] at H
          have ql:Kn 221 [(m,0),(p,0)] [tB 210 false,tB 28 bv.1,tI 15 x94.2.2.1] ks:=(i1.setB 210 false (by rfl) df).kp
          refine Rk 3 8 [tB 218 (x94.2.2.1 == 0)] ql a7 fun kw i6=>?_
          rcases Bool.eq_false_or_eq_true ((x94.2.2.1 == 0)) with di | di
          ·
           rw [di,XW] at H
           have i7:Kn 221 [(m,0),(p,0)] [tB 218 true] kw:=(i6.setB 218 true (by rfl) di).kp
           obtain⟨x219,ex219,H⟩:=Aq H
           refine AC _ rfl (Aj i7 (by kernel_rfl)) fun K hK=>?_
           refine wc [] i7 a7 (BS n a7.has  ex219) fun aat w2 abn lu xa jz=>?_
           obtain rfl:=lu
           refine⟨.one (.c (.bool x219)),rfl,fun vo (qn:Kn 221 [(m,0),(p,0)] [tB 219 x219,tB 218 true] vo)=>hK _ _ ?_⟩
           refine Rk 12 2 [tB 6 x219] qn jz fun zi qo=>?_
           refine wf (wp_ret ?_)
           obtain rfl:=XZ H
           exact rt (.one (.c (.bool x219))) qo jz rfl
          ·
           rw [di,XV] at H
           have qp:Kn 221 [(m,0),(p,0)] [tB 218 false] kw:=(i6.setB 218 false (by rfl) di).kp
           refine Rk 11 3 [tB 6 false] qp a7 fun zj qq=>?_
           refine wf (wp_ret ?_)
           obtain rfl:=XZ H
           exact rt (.one (.c (.bool false))) qq a7 rfl
     ·
      rw [fo,XV] at H
      refine wp_skip (XT (As (by kernel_rfl) ?_))
      replace b2:=b2.drew
      refine Aw [] [(m,0),(p,0)] (DB q y s u x aa z ab) ?_
      refine Dr [0,1,2,3,4] (dn 4) ((tB 28 (y.broken == 0))::(tB 27 true)::(Ax x94 g x49 l d a f)) f4 b2 fun zk qr=>?_
      refine AQ (by kernel_rfl) (XT (XT (Aa (Rk 0 1 ((tI 29 0)::(tB 28 (y.broken == 0))::(tB 27 true)::(Ax x94 g x49 l d a f)) qr b2 fun zl qs=>?_))))
      refine wf ?_
      obtain⟨bw,ic,H⟩:=Aq H
      refine Au (fun a' w'=>∃ (hr:Array Value)(fj:Ac),a' = ⟨hr,[]⟩∧Kn 221 [(m,0),(p,0)] [tB 28 bw.1,tB 27 bw.2,tI 15 x94.2.2.1] hr∧Am ⟨w,h,AP⟩ fj [(m,0),(p,0)] (DB q y s u x aa z ab) (O1 aa z ab ah ai x93 ak am) w'∧Ac.le fe fj) ?_ ?_
      ·
       refine wp_block ?_
       refine Ay (fun ut a' w'=>∃ (x_v40:Int)(x_v41:Bool)(x_v42:Bool)(hs:Array Value)(c7:Ac),a' = ⟨hs,[]⟩∧Kn 221 [(m,0),(p,0)] ((tI 29 x_v40)::(tB 28 x_v41)::(tB 27 x_v42)::(Ax x94 g x49 l d a f)) hs∧Am ⟨w,h,AP⟩ c7 [(m,0),(p,0)] (DB q y s u x aa z ab) (O1 aa z ab ah ai x93 ak am) w'∧Ac.le fe c7∧BD ut y a x49 x_v40 x_v41 x_v42=some bw) n ?_ ?_
       ·
        exact XY 0 ⟨y.broken == 0,true,_,_,rfl,qs.kp,b2,Ac.le_refl _,ic⟩
       ·
        rintro e1 _ abp ⟨x_v40,x_v41,x_v42,hs,c7,rfl,qt,ey,bs,b1⟩
        clear ic
        obtain _ | e1:=e1
        ·
         rw [BD] at b1; cases b1
        rw [BD] at b1
        replace ae:=ae.mono bs
        replace ad:=ad.mono bs
        replace ag:=ag.mono bs
        replace af:=af.mono bs
        replace au:=au.mono bs
        replace ap:=ap.mono bs
        replace an:=an.mono bs
        replace ao:=ao.mono bs
        refine XT (XT (Aa (Rk 0 4 ((tB 160 (decide (x_v40<((x49.length:Nat):Int))))::(tI 29 x_v40)::(tB 28 x_v41)::(tB 27 x_v42)::(Ax x94 g x49 l d a f)) qt ey fun zm f9=>?_)))
        refine wf (wC (decide (x_v40<((x49.length:Nat):Int))) f9 (fun fu=>?_) (fun fu=>?_))
        ·
         rw [fu,XW] at b1
         refine wp_skip (XT (wp_block (XT (Aa (Rk 0 1 ((tI 30 0)::(tI 29 x_v40)::(tB 28 x_v41)::(tB 27 x_v42)::(Ax x94 g x49 l d a f)) f9 ey fun zn qv=>?_)))))
         refine wf ?_
         obtain⟨cq,ie,b1⟩:=Aq b1
         refine Au (fun a' w'=>∃ (ht:Array Value)(fk:Ac),a' = ⟨ht,[]⟩∧Kn 221 [(m,0),(p,0)] ((tI 29 x_v40)::(tB 28 cq.1)::(tB 27 cq.2)::(Ax x94 g x49 l d a f)) ht∧Am ⟨w,h,AP⟩ fk [(m,0),(p,0)] (DB q y s u x aa z ab) (O1 aa z ab ah ai x93 ak am) w'∧Ac.le c7 fk) ?_ ?_
         ·
          refine wp_block ?_
          refine Ay (fun uu a' w'=>∃ (x_v50:Int)(x_v51:Bool)(x_v52:Bool)(hu:Array Value)(ee:Ac),a' = ⟨hu,[]⟩∧Kn 221 [(m,0),(p,0)] ((tI 30 x_v50)::(tI 29 x_v40)::(tB 28 x_v51)::(tB 27 x_v52)::(Ax x94 g x49 l d a f)) hu∧Am ⟨w,h,AP⟩ ee [(m,0),(p,0)] (DB q y s u x aa z ab) (O1 aa z ab ah ai x93 ak am) w'∧Ac.le c7 ee∧B1 uu y a x49 x_v40 x_v50 x_v51 x_v52=some cq) e1 ?_ ?_
          ·
           exact XY 0 ⟨x_v41,x_v42,_,_,rfl,qv.kp,ey,Ac.le_refl _,ie⟩
          ·
           rintro e2 _ abq ⟨x_v50,x_v51,x_v52,hu,ee,rfl,qw,bu,bk,aw⟩
           clear ie
           obtain _ | e2:=e2
           ·
            rw [B1] at aw; cases aw
           rw [B1] at aw
           replace ae:=ae.mono bk
           replace ad:=ad.mono bk
           replace ag:=ag.mono bk
           replace af:=af.mono bk
           replace au:=au.mono bk
           replace ap:=ap.mono bk
           replace an:=an.mono bk
           replace ao:=ao.mono bk
           refine XT (XT (Aa (Rk 0 3 ((tB 165 (decide (x_v50<x_v40)))::(tI 30 x_v50)::(tI 29 x_v40)::(tB 28 x_v51)::(tB 27 x_v52)::(Ax x94 g x49 l d a f)) qw bu fun zo ga=>?_)))
           refine wf (wC (decide (x_v50<x_v40)) ga (fun fv=>?_) (fun fv=>?_))
           ·
            rw [fv,XW] at aw
            refine wp_skip (XT (wp_block (XT ?_)))
            obtain⟨a2,bf,aw⟩:=Aq aw
            refine Au (fun a' w'=>∃ (hv:Array Value)(fl:Ac),a' = ⟨hv,[]⟩∧Kn 221 [(m,0),(p,0)] ((tI 30 x_v50)::(tI 29 x_v40)::(tB 28 x_v51)::(tB 27 a2)::(Ax x94 g x49 l d a f)) hv∧Am ⟨w,h,AP⟩ fl [(m,0),(p,0)] (DB q y s u x aa z ab) (O1 aa z ab ah ai x93 ak am) w'∧Ac.le ee fl) ?_ ?_
            ·
             refine As (by kernel_rfl) ?_
             replace bu:=bu.drew
             refine Aw [] [(m,0),(p,0)] (DB q y s u x aa z ab) ?_
             refine Dr [0,1] [1,0] ((tB 169 x_v52)::(tI 30 x_v50)::(tI 29 x_v40)::(tB 28 x_v51)::(Ax x94 g x49 l d a f)) ga bu fun kx i8=>?_
             rcases Bool.eq_false_or_eq_true (x_v52) with dj | dj
             ·
              rw [Br dj] at bf
              have qy:Kn 221 [(m,0),(p,0)] ((tB 169 true)::(tI 30 x_v50)::(tI 29 x_v40)::(tB 28 x_v51)::(Ax x94 g x49 l d a f)) kx:=(i8.setB 169 true (by rfl) dj).kp
              refine Dr [2,3,4] (dn 4) ((tI 172 x_v40)::(tS 171 g x49.length l)::(tS 170 d a.2.length f)::(tB 169 true)::(tI 30 x_v50)::(tI 29 x_v40)::(tB 28 x_v51)::(Ax x94 g x49 l d a f)) qy bu fun zp i9=>?_
              obtain⟨x173,ex173,bf⟩:=Aq bf
              obtain⟨sm,s5,ug⟩:=Ak ex173
              obtain⟨c1,dx,wm,me,ty,mz⟩:=af.get (by decide) ug
              obtain rfl:=ty
              have gu:=bu.addPlc (b:=c1) (o:=dx+(x_v40:Int).toNat*1) (cs:=[.int .i64 x173]) (fun j c hj=>mz j _ (Al hj)) rfl (by kernel_rfl) (by kernel_rfl)
              refine A6 5 (x_v40) [.int .i64 x173] (fun _ _ _ _ _ h=>h) rfl rfl (Aj i9 (by kernel_rfl)) rfl (by decide) (by kernel_rfl) (by kernel_rfl) i9 bu.plOk (by rfl) (by rfl) (by rfl) me (by rfl) sm s5 (by kernel_rfl) fun vp (qz:Kn 221 [(m,0),(p,0),(c1,dx+(x_v40:Int).toNat*1)] ((tP 173 2 0)::(tI 172 x_v40)::(tS 171 g x49.length l)::(tS 170 d a.2.length f)::(tB 169 true)::(tI 30 x_v50)::(tI 29 x_v40)::(tB 28 x_v51)::(Ax x94 g x49 l d a f)) vp)=>?_
              refine Dr [6] (dn 6) ((tI 174 x173)::(tS 170 d a.2.length f)::(tB 169 true)::(tI 30 x_v50)::(tI 29 x_v40)::(tB 28 x_v51)::(Ax x94 g x49 l d a f)) qz gu fun zq ja=>?_
              obtain⟨x175,ex175,bf⟩:=Aq bf
              obtain⟨sn,s6,uh⟩:=Ak ex175
              obtain⟨d6,e5,wn,mf,tz,m0⟩:=ag.get (by decide) uh
              obtain rfl:=tz
              have gv:=gu.addPlc (b:=d6) (o:=e5+(x173:Int).toNat*1) (cs:=[.int .i64 x175]) (fun j c hj=>m0 j _ (Al hj)) rfl (by kernel_rfl) (by kernel_rfl)
              refine A6 7 (x173) [.int .i64 x175] (fun _ _ _ _ _ h=>h) rfl rfl (Aj ja (by kernel_rfl)) rfl (by decide) (by kernel_rfl) (by kernel_rfl) ja gu.plOk (by rfl) (by rfl) (by rfl) mf (by rfl) sn s6 (by kernel_rfl) fun vr (q0:Kn 221 [(m,0),(p,0),(c1,dx+(x_v40:Int).toNat*1),(d6,e5+(x173:Int).toNat*1)] ((tP 175 3 0)::(tI 174 x173)::(tS 170 d a.2.length f)::(tB 169 true)::(tI 30 x_v50)::(tI 29 x_v40)::(tB 28 x_v51)::(Ax x94 g x49 l d a f)) vr)=>?_
              refine Dr [8,9,10,11] (dn 11) ((tI 179 x_v50)::(tS 178 g x49.length l)::(tS 177 d a.2.length f)::(tI 176 x175)::(tB 169 true)::(tI 30 x_v50)::(tI 29 x_v40)::(tB 28 x_v51)::(Ax x94 g x49 l d a f)) q0 gv fun zr jb=>?_
              obtain⟨x180,ex180,bf⟩:=Aq bf
              obtain⟨sp,s7,ui⟩:=Ak ex180
              obtain⟨fa,hb,wo,mg,t0,m1⟩:=af.get (by decide) ui
              obtain rfl:=t0
              have gw:=gv.addPlc (b:=fa) (o:=hb+(x_v50:Int).toNat*1) (cs:=[.int .i64 x180]) (fun j c hj=>m1 j _ (Al hj)) rfl (by kernel_rfl) (by kernel_rfl)
              refine A6 12 (x_v50) [.int .i64 x180] (fun _ _ _ _ _ h=>h) rfl rfl (Aj jb (by kernel_rfl)) rfl (by decide) (by kernel_rfl) (by kernel_rfl) jb gv.plOk (by rfl) (by rfl) (by rfl) mg (by rfl) sp s7 (by kernel_rfl) fun vt (q2:Kn 221 [(m,0),(p,0),(c1,dx+(x_v40:Int).toNat*1),(d6,e5+(x173:Int).toNat*1),(fa,hb+(x_v50:Int).toNat*1)] ((tP 180 4 0)::(tI 179 x_v50)::(tS 178 g x49.length l)::(tS 177 d a.2.length f)::(tI 176 x175)::(tB 169 true)::(tI 30 x_v50)::(tI 29 x_v40)::(tB 28 x_v51)::(Ax x94 g x49 l d a f)) vt)=>?_
              refine Dr [13] (dn 13) ((tI 181 x180)::(tS 177 d a.2.length f)::(tI 176 x175)::(tB 169 true)::(tI 30 x_v50)::(tI 29 x_v40)::(tB 28 x_v51)::(Ax x94 g x49 l d a f)) q2 gw fun zs jc=>?_
              obtain⟨x182,ex182,bf⟩:=Aq bf
              obtain⟨sq,s8,uj⟩:=Ak ex182
              obtain⟨h3,kh,wp,mh,t1,m2⟩:=ag.get (by decide) uj
              obtain rfl:=t1
              have j0:=gw.addPlc (b:=h3) (o:=kh+(x180:Int).toNat*1) (cs:=[.int .i64 x182]) (fun j c hj=>m2 j _ (Al hj)) rfl (by kernel_rfl) (by kernel_rfl)
              refine A6 14 (x180) [.int .i64 x182] (fun _ _ _ _ _ h=>h) rfl rfl (Aj jc (by kernel_rfl)) rfl (by decide) (by kernel_rfl) (by kernel_rfl) jc gw.plOk (by rfl) (by rfl) (by rfl) mh (by rfl) sq s8 (by kernel_rfl) fun vu (q3:Kn 221 [(m,0),(p,0),(c1,dx+(x_v40:Int).toNat*1),(d6,e5+(x173:Int).toNat*1),(fa,hb+(x_v50:Int).toNat*1),(h3,kh+(x180:Int).toNat*1)] ((tP 182 5 0)::(tI 181 x180)::(tS 177 d a.2.length f)::(tI 176 x175)::(tB 169 true)::(tI 30 x_v50)::(tI 29 x_v40)::(tB 28 x_v51)::(Ax x94 g x49 l d a f)) vu)=>?_
              refine Dr [15,16,17,18] (dn 18) ((tB 27 (x175 != x182))::(tI 30 x_v50)::(tI 29 x_v40)::(tB 28 x_v51)::(Ax x94 g x49 l d a f)) q3 j0 fun zt q4=>?_
              refine AQ (by kernel_rfl) ?_
              obtain rfl:=XZ bf
              exact XY _ ⟨_,rfl,(q4.keep [30,29,28,27,15,10,7,3] (by rfl)).cut 2 (by kernel_rfl),j0.cutPl 2 (by kernel_rfl),Ac.le_refl _⟩
             ·
              rw [Bs dj] at bf
              have q5:Kn 221 [(m,0),(p,0)] ((tB 169 false)::(tI 30 x_v50)::(tI 29 x_v40)::(tB 28 x_v51)::(Ax x94 g x49 l d a f)) kx:=(i8.setB 169 false (by rfl) dj).kp
              refine Dr [2,3,4,5,6,7,8,9,10,11,12,13,14,15,16,17,18] (dn 18) ((tB 27 false)::(tI 30 x_v50)::(tI 29 x_v40)::(tB 28 x_v51)::(Ax x94 g x49 l d a f)) q5 bu fun zu q6=>?_
              refine AQ (by kernel_rfl) ?_
              obtain rfl:=XZ bf
              exact XY _ ⟨_,rfl,q6.kp,bu,Ac.le_refl _⟩
            ·
             rintro _ abs ⟨hv,fl,rfl,q7,b4,em⟩
             replace ad:=ad.mono em
             replace af:=af.mono em
             refine As (by kernel_rfl) ?_
             replace b4:=b4.drew
             refine Aw [] [(m,0),(p,0)] (DB q y s u x aa z ab) ?_
             refine Dr [0,1] [1,0] ((tB 187 x_v51)::(tI 30 x_v50)::(tI 29 x_v40)::(tB 27 a2)::(Ax x94 g x49 l d a f)) q7 b4 fun ky jd=>?_
             rcases Bool.eq_false_or_eq_true (x_v51) with dk | dk
             ·
              rw [Br dk] at aw
              have q8:Kn 221 [(m,0),(p,0)] ((tB 187 true)::(tI 30 x_v50)::(tI 29 x_v40)::(tB 27 a2)::(Ax x94 g x49 l d a f)) ky:=(jd.setB 187 true (by rfl) dk).kp
              refine Dr [2,3,4,5] (dn 5) ((tI 191 x_v50)::(tS 190 g x49.length l)::(tS 189 u y.buses.length x)::(tB 187 true)::(tI 30 x_v50)::(tI 29 x_v40)::(tB 27 a2)::(Ax x94 g x49 l d a f)) q8 b4 fun zw je=>?_
              obtain⟨x192,ex192,aw⟩:=Aq aw
              obtain⟨sr,s9,uk⟩:=Ak ex192
              obtain⟨c2,dy,wq,mi,t2,m4⟩:=af.get (by decide) uk
              obtain rfl:=t2
              have gy:=b4.addPlc (b:=c2) (o:=dy+(x_v50:Int).toNat*1) (cs:=[.int .i64 x192]) (fun j c hj=>m4 j _ (Al hj)) rfl (by kernel_rfl) (by kernel_rfl)
              refine A6 6 (x_v50) [.int .i64 x192] (fun _ _ _ _ _ h=>h) rfl rfl (Aj je (by kernel_rfl)) rfl (by decide) (by kernel_rfl) (by kernel_rfl) je b4.plOk (by rfl) (by rfl) (by rfl) mi (by rfl) sr s9 (by kernel_rfl) fun vv (ra:Kn 221 [(m,0),(p,0),(c2,dy+(x_v50:Int).toNat*1)] ((tP 192 2 0)::(tI 191 x_v50)::(tS 190 g x49.length l)::(tS 189 u y.buses.length x)::(tB 187 true)::(tI 30 x_v50)::(tI 29 x_v40)::(tB 27 a2)::(Ax x94 g x49 l d a f)) vv)=>?_
              refine Dr [7] (dn 7) ((tI 193 x192)::(tS 189 u y.buses.length x)::(tB 187 true)::(tI 30 x_v50)::(tI 29 x_v40)::(tB 27 a2)::(Ax x94 g x49 l d a f)) ra gy fun zx jf=>?_
              obtain⟨x194,ex194,aw⟩:=Aq aw
              obtain⟨ss,ta,ul⟩:=Ak ex194
              obtain⟨d7,e6,wr,mj,t3,m5⟩:=ad.get (by decide) ul
              obtain⟨_,_,rfl,rfl,⟨_,_,rfl,rfl,rfl⟩⟩:=t3
              have gz:=gy.addPlc (b:=d7) (o:=e6+(x192:Int).toNat*3) (cs:=(Tn x194)) (fun j c hj=>m5 j _ (Al hj)) rfl (by kernel_rfl) (by kernel_rfl)
              refine A6 8 (x192) (Tn x194) (fun _ _ _ _ _ h=>h) rfl rfl (Aj jf (by kernel_rfl)) rfl (by decide) (by kernel_rfl) (by kernel_rfl) jf gy.plOk (by rfl) (by rfl) (by rfl) mj (by rfl) ss ta (by kernel_rfl) fun vw (rb:Kn 221 [(m,0),(p,0),(c2,dy+(x_v50:Int).toNat*1),(d7,e6+(x192:Int).toNat*3)] ((tP 194 3 0)::(tI 193 x192)::(tS 189 u y.buses.length x)::(tB 187 true)::(tI 30 x_v50)::(tI 29 x_v40)::(tB 27 a2)::(Ax x94 g x49 l d a f)) vw)=>?_
              refine Dr [9,10,11,12,13,14] (dn 14) ((tI 200 x_v40)::(tS 199 g x49.length l)::(tS 198 u y.buses.length x)::(tI 196 x194.hi)::(tB 187 true)::(tI 30 x_v50)::(tI 29 x_v40)::(tB 27 a2)::(Ax x94 g x49 l d a f)) rb gz fun zy jg=>?_
              obtain⟨x201,ex201,aw⟩:=Aq aw
              obtain⟨st,tb,um⟩:=Ak ex201
              obtain⟨fb,hc,ws,ml,t4,m6⟩:=af.get (by decide) um
              obtain rfl:=t4
              have g0:=gz.addPlc (b:=fb) (o:=hc+(x_v40:Int).toNat*1) (cs:=[.int .i64 x201]) (fun j c hj=>m6 j _ (Al hj)) rfl (by kernel_rfl) (by kernel_rfl)
              refine A6 15 (x_v40) [.int .i64 x201] (fun _ _ _ _ _ h=>h) rfl rfl (Aj jg (by kernel_rfl)) rfl (by decide) (by kernel_rfl) (by kernel_rfl) jg gz.plOk (by rfl) (by rfl) (by rfl) ml (by rfl) st tb (by kernel_rfl) fun vx (rc:Kn 221 [(m,0),(p,0),(c2,dy+(x_v50:Int).toNat*1),(d7,e6+(x192:Int).toNat*3),(fb,hc+(x_v40:Int).toNat*1)] ((tP 201 4 0)::(tI 200 x_v40)::(tS 199 g x49.length l)::(tS 198 u y.buses.length x)::(tI 196 x194.hi)::(tB 187 true)::(tI 30 x_v50)::(tI 29 x_v40)::(tB 27 a2)::(Ax x94 g x49 l d a f)) vx)=>?_
              refine Dr [16] (dn 16) ((tI 202 x201)::(tS 198 u y.buses.length x)::(tI 196 x194.hi)::(tB 187 true)::(tI 30 x_v50)::(tI 29 x_v40)::(tB 27 a2)::(Ax x94 g x49 l d a f)) rc g0 fun zz jh=>?_
              obtain⟨x203,ex203,aw⟩:=Aq aw
              obtain⟨su,tc,un⟩:=Ak ex203
              obtain⟨h4,ki,wt,mm,t5,m7⟩:=ad.get (by decide) un
              obtain⟨_,_,rfl,rfl,⟨_,_,rfl,rfl,rfl⟩⟩:=t5
              have g1:=g0.addPlc (b:=h4) (o:=ki+(x201:Int).toNat*3) (cs:=(To x203)) (fun j c hj=>m7 j _ (Al hj)) rfl (by kernel_rfl) (by kernel_rfl)
              refine A6 17 (x201) (To x203) (fun _ _ _ _ _ h=>h) rfl rfl (Aj jh (by kernel_rfl)) rfl (by decide) (by kernel_rfl) (by kernel_rfl) jh g0.plOk (by rfl) (by rfl) (by rfl) mm (by rfl) su tc (by kernel_rfl) fun vy (rd:Kn 221 [(m,0),(p,0),(c2,dy+(x_v50:Int).toNat*1),(d7,e6+(x192:Int).toNat*3),(fb,hc+(x_v40:Int).toNat*1),(h4,ki+(x201:Int).toNat*3)] ((tP 203 5 0)::(tI 202 x201)::(tS 198 u y.buses.length x)::(tI 196 x194.hi)::(tB 187 true)::(tI 30 x_v50)::(tI 29 x_v40)::(tB 27 a2)::(Ax x94 g x49 l d a f)) vy)=>?_
              refine Dr [18,19,20,21,22] (dn 22) ((tB 28 (decide (x194.hi<x203.lo)))::(tI 30 x_v50)::(tI 29 x_v40)::(tB 27 a2)::(Ax x94 g x49 l d a f)) rd g1 fun z0 re=>?_
              refine AQ (by kernel_rfl) (Aa (Rk 0 3 ((tI 30 (IntKind.i64.wrap (x_v50+1)))::(tB 28 (decide (x194.hi<x203.lo)))::(tI 29 x_v40)::(tB 27 a2)::(Ax x94 g x49 l d a f)) re g1 fun z1 rf=>?_))
              refine wf ?_
              exact XY e2 ⟨Nat.lt_succ_self _,XY (IntKind.i64.wrap (x_v50+1)) ⟨decide (x194.hi<x203.lo),a2,_,_,rfl,(rf.keep [30,29,28,27,15,10,7,3] (by rfl)).cut 2 (by kernel_rfl),g1.cutPl 2 (by kernel_rfl),XU bk em,aw⟩⟩
             ·
              rw [Bs dk] at aw
              have rg:Kn 221 [(m,0),(p,0)] ((tB 187 false)::(tI 30 x_v50)::(tI 29 x_v40)::(tB 27 a2)::(Ax x94 g x49 l d a f)) ky:=(jd.setB 187 false (by rfl) dk).kp
              refine Dr [2,3,4,5,6,7,8,9,10,11,12,13,14,15,16,17,18,19,20,21,22] (dn 22) ((tB 28 false)::(tI 30 x_v50)::(tI 29 x_v40)::(tB 27 a2)::(Ax x94 g x49 l d a f)) rg b4 fun z2 rh=>?_
              refine AQ (by kernel_rfl) (Aa (Rk 0 3 ((tI 30 (IntKind.i64.wrap (x_v50+1)))::(tB 28 false)::(tI 29 x_v40)::(tB 27 a2)::(Ax x94 g x49 l d a f)) rh b4 fun z3 ri=>?_))
              refine wf ?_
              exact XY e2 ⟨Nat.lt_succ_self _,XY (IntKind.i64.wrap (x_v50+1)) ⟨false,a2,_,_,rfl,ri.kp,b4,XU bk em,aw⟩⟩
           ·
            rw [fv,XV] at aw
            refine wp_exit ?_
            obtain rfl:=XZ aw
            exact XY _ ⟨_,rfl,ga.kp,bu,bk⟩
         ·
          rintro _ abu ⟨ht,fk,rfl,rj,j1,r7⟩
          refine Aa (Rk 0 3 ((tI 29 (IntKind.i64.wrap (x_v40+1)))::(tB 28 cq.1)::(tB 27 cq.2)::(Ax x94 g x49 l d a f)) rj j1 fun z4 rk=>?_)
          refine wf ?_
          exact XY e1 ⟨Nat.lt_succ_self _,XY (IntKind.i64.wrap (x_v40+1)) ⟨cq.1,cq.2,_,_,rfl,rk.kp,j1,XU bs r7,b1⟩⟩
        ·
         rw [fu,XV] at b1
         refine wp_exit ?_
         obtain rfl:=XZ b1
         exact XY _ ⟨_,rfl,f9.kp,ey,bs⟩
      ·
       rintro _ abv ⟨hr,fj,rfl,rl,a8,cw⟩
       replace ae:=ae.mono cw
       replace ad:=ad.mono cw
       replace au:=au.mono cw
       replace ap:=ap.mono cw
       replace an:=an.mono cw
       replace ao:=ao.mono cw
       refine XT (Aa (Rk 0 3 [tB 210 (!bw.2),tB 28 bw.1,tI 15 x94.2.2.1] rl a8 fun kz ji=>?_))
       rcases Bool.eq_false_or_eq_true ((!bw.2)) with dl | dl
       ·
        rw [dl,XW] at H
        have rm:Kn 221 [(m,0),(p,0)] [tB 210 true,tB 28 bw.1,tI 15 x94.2.2.1] kz:=(ji.setB 210 true (by rfl) dl).kp
        refine Rk 3 4 [tB 214 (!bw.1),tI 15 x94.2.2.1] rm a8 fun k0 jj=>?_
        rcases Bool.eq_false_or_eq_true ((!bw.1)) with dm | dm
        ·
         rw [dm,XW] at H
         have rn:Kn 221 [(m,0),(p,0)] [tB 214 true,tI 15 x94.2.2.1] k0:=(jj.setB 214 true (by rfl) dm).kp
         refine Rk 7 4 [tB 218 true] rn a8 fun z5 jk=>?_
         obtain⟨x219,ex219,H⟩:=Aq H
         refine AC _ rfl (Aj jk (by kernel_rfl)) fun K hK=>?_
         refine wc [] jk a8 (BS n a8.has  ex219) fun aau w3 abw lv xb j2=>?_
         obtain rfl:=lv
         refine⟨.one (.c (.bool x219)),rfl,fun vz (ro:Kn 221 [(m,0),(p,0)] [tB 219 x219,tB 218 true] vz)=>hK _ _ ?_⟩
         refine Rk 12 2 [tB 6 x219] ro j2 fun z6 rp=>?_
         refine wf (wp_ret ?_)
         obtain rfl:=XZ H
         exact rt (.one (.c (.bool x219))) rp j2 rfl
        ·
         rw [dm,XV] at H
         have rq:Kn 221 [(m,0),(p,0)] [tB 214 false,tI 15 x94.2.2.1] k0:=(jj.setB 214 false (by rfl) dm).kp
         refine Rk 7 4 [tB 218 (x94.2.2.1 == 0)] rq a8 fun k1 jl=>?_
         rcases Bool.eq_false_or_eq_true ((x94.2.2.1 == 0)) with dp | dp
         ·
          rw [dp,XW] at H
          have jm:Kn 221 [(m,0),(p,0)] [tB 218 true] k1:=(jl.setB 218 true (by rfl) dp).kp
          obtain⟨x219,ex219,H⟩:=Aq H
          refine AC _ rfl (Aj jm (by kernel_rfl)) fun K hK=>?_
          refine wc [] jm a8 (BS n a8.has  ex219) fun aav w4 abx lw xc j3=>?_
          obtain rfl:=lw
          refine⟨.one (.c (.bool x219)),rfl,fun v0 (rr:Kn 221 [(m,0),(p,0)] [tB 219 x219,tB 218 true] v0)=>hK _ _ ?_⟩
          refine Rk 12 2 [tB 6 x219] rr j3 fun z7 rs=>?_
          refine wf (wp_ret ?_)
          obtain rfl:=XZ H
          exact rt (.one (.c (.bool x219))) rs j3 rfl
         ·
          rw [dp,XV] at H
          have ru:Kn 221 [(m,0),(p,0)] [tB 218 false] k1:=(jl.setB 218 false (by rfl) dp).kp
          refine Rk 11 3 [tB 6 false] ru a8 fun z8 rv=>?_
          refine wf (wp_ret ?_)
          obtain rfl:=XZ H
          exact rt (.one (.c (.bool false))) rv a8 rfl
       ·
        rw [dl,XV] at H
        have rx:Kn 221 [(m,0),(p,0)] [tB 210 false,tB 28 bw.1,tI 15 x94.2.2.1] kz:=(ji.setB 210 false (by rfl) dl).kp
        refine Rk 3 8 [tB 218 (x94.2.2.1 == 0)] rx a8 fun k2 jn=>?_
        rcases Bool.eq_false_or_eq_true ((x94.2.2.1 == 0)) with dq | dq
        ·
         rw [dq,XW] at H
         have jo:Kn 221 [(m,0),(p,0)] [tB 218 true] k2:=(jn.setB 218 true (by rfl) dq).kp
         obtain⟨x219,ex219,H⟩:=Aq H
         refine AC _ rfl (Aj jo (by kernel_rfl)) fun K hK=>?_
         refine wc [] jo a8 (BS n a8.has  ex219) fun aaw w5 aby lx xd j4=>?_
         obtain rfl:=lx
         refine⟨.one (.c (.bool x219)),rfl,fun v2 (ry:Kn 221 [(m,0),(p,0)] [tB 219 x219,tB 218 true] v2)=>hK _ _ ?_⟩
         refine Rk 12 2 [tB 6 x219] ry j4 fun z9 rz=>?_
         refine wf (wp_ret ?_)
         obtain rfl:=XZ H
         exact rt (.one (.c (.bool x219))) rz j4 rfl
        ·
         rw [dq,XV] at H
         have r0:Kn 221 [(m,0),(p,0)] [tB 218 false] k2:=(jn.setB 218 false (by rfl) dq).kp
         refine Rk 11 3 [tB 6 false] r0 a8 fun aaa r1=>?_
         refine wf (wp_ret ?_)
         obtain rfl:=XZ H
         exact rt (.one (.c (.bool false))) r1 a8 rfl
end Go.Proofs.Ythcbemnflgjadaa
