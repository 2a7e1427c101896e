/- Each call computes its plain function. -/
import Derived.Test.YthcbemnflgjadaaGreatProg
import Derived.Test.YthcbemnflgjadaaGreatzbP0
import Derived.Test.YthcbemnflgjadaaGreatzbWH
import Derived.Test.YthcbemnflgjadaaGreatzbWI
set_option linter.all false
namespace Go.Proofs.YthcbemnflgjadaaGreat
open Go Go.RowKit
open Rep (rep)
open KRep (kv)
open VRep (rv)
abbrev Oh (m:Option Addr) (y:Ag) (p:Nat) (ab:Option Addr) (ad:Nat):List SC:=[.slice m y.room.length p,.slice ab y.buses.length ad,.int .i64 y.broken]
abbrev F0 (a_lanes:Option Addr) (lanes:List Int) (c_lanes:Nat):TM:=[tP 2 0 0,tS 1 a_lanes lanes.length c_lanes]
abbrev Ht (x_v11:Int) (a:Option Addr) (x_v10:List Int) (d:Nat) (a_lanes:Option Addr) (lanes:List Int) (c_lanes:Nat):TM:=(tI 6 x_v11)::(tS 5 a x_v10.length d)::(F0 a_lanes lanes c_lanes)
set_option maxRecDepth 100000 in
set_option maxHeartbeats 4000000 in
theorem Jn (n:Nat) {h:Ac} {w:World} (hh:Db h w) (y:Ag) {cs_y:List Value} (hx_y:rep h y cs_y) (lanes:List Int) {a_lanes:Option Addr} {c_lanes:Nat} (hr_lanes:At h a_lanes c_lanes lanes) {r:Bool} (H:Et n y lanes=some r) :
  Calls Tryz.prog 11 #[.agg cs_y.toArray,.slice a_lanes lanes.length c_lanes] w (Dd (fun h v=>v=.bool r) h w):=by
 obtain⟨_,_,rfl,⟨m,p,rfl,au⟩,⟨_,_,rfl,⟨ab,ad,rfl,b7⟩,rfl⟩⟩:=hx_y
 refine enter 58 [.agg (Oh m y p ab ad),.c (.slice a_lanes lanes.length c_lanes)] Tryz.func11 rfl rfl rfl rfl fun t hk=>?_
 have hm:=Aj.begin h w hh
 unfold Et at H
 refine XT (Aa (wl fun K hK=>?_))
 refine wb (.agg (Oh m y p ab ad)) hk hm fun g ey f5 (ct:Kn 58 [(g,0)] [tP 2 0 0,tA 0 (Oh m y p ab ad),tS 1 a_lanes lanes.length c_lanes] ey) ak=>hK _ _ ?_
 refine Rk 1 1 (F0 a_lanes lanes c_lanes) ct ak fun fh cy=>?_
 refine wf (XT (XT (Aa (Rk 0 6 ((tB 12 (((lanes.length:Nat):Int) != ((y.buses.length:Nat):Int)))::(F0 a_lanes lanes c_lanes)) cy ak fun fi bc=>?_))))
 refine wf (wC ((((lanes.length:Nat):Int) != ((y.buses.length:Nat):Int))) bc (fun a7=>?_) (fun a7=>?_))
 ·
  rw [a7,XW] at H
  refine XT (Aa (Rk 0 1 [tB 4 false] bc ak fun fl c8=>?_))
  refine wf (wp_ret ?_)
  obtain rfl:=XZ H
  exact rt (.one (.c (.bool false))) c8 ak rfl
 ·
  rw [a7,XV] at H
  refine wp_skip (XT (Aa (Rk 0 3 ((tI 15 ((y.room.length:Nat):Int))::(F0 a_lanes lanes c_lanes)) bc ak fun fo db=>?_)))
  obtain⟨x16,ex16,H⟩:=Ap H
  obtain⟨dz,d5,b9⟩:=PF ex16
  refine wl fun K hK=>?_
  refine HH 3 1 8 [.int .i64 0] (((y.room.length:Nat):Int)) db ak rfl rfl (by decide) (by rfl) (by kernel_rfl) (by kernel_rfl) (by rfl) dz d5 (by decide) fun am ew e1 (bv:Kn 58 [(g,0)] [(16,.one (.c (.slice am ((((y.room.length:Nat):Int):Int).toNat) ((((y.room.length:Nat):Int):Int).toNat)))),(15,.one (.c (.int .i64 ((y.room.length:Nat):Int)))),(2,.one (.c (.ptr 0 0))),(1,.one (.c (.slice a_lanes lanes.length c_lanes)))] ew) (a2:Aj ⟨w,h,A9⟩ h [(g,0)] [⟨[.slice m y.room.length p,.slice ab y.buses.length ad,.int .i64 y.broken],some 25⟩] [⟨am,(((y.room.length:Nat):Int):Int).toNat,(((y.room.length:Nat):Int):Int).toNat,3,1,List.flatten (List.replicate (((y.room.length:Nat):Int):Int).toNat ([.int .i64 0]:List Value)),0⟩] e1)=>?_
  have bu:Af h x16 (List.flatten (List.replicate (((y.room.length:Nat):Int):Int).toNat ([.int .i64 0]:List Value))):=by rw [b9]; exact Af.replicate (α:=Int) (x:=0) Ad _
  have bw:(((y.room.length:Nat):Int):Int).toNat=x16.length:=by rw [b9]; simp
  rw [bw] at bv a2
  skip
  rw [bw] at bu
  refine hK _ _ ?_
  refine Rk 4 1 ((tS 5 am x16.length x16.length)::(F0 a_lanes lanes c_lanes)) bv a2 fun ft dh=>?_
  refine wf (XT (XT (Aa (Rk 0 1 ((tI 6 0)::(tS 5 am x16.length x16.length)::(F0 a_lanes lanes c_lanes)) dh a2 fun fu di=>?_))))
  refine wf ?_
  obtain⟨ca,br,H⟩:=Ap H
  refine Aq (fun a' w'=>∃ (a4:List Int)(bo:Option Addr)(bq:Nat)(bn:List Value)(bl:Array Value)(ax:Ac),a' = ⟨bl,[]⟩∧Kn 58 [(g,0)] [] bl∧Aj ⟨w,h,A9⟩ ax [(g,0)] [⟨Oh m y p ab ad,some 25⟩] [⟨bo,a4.length,bq,3,1,bn,0⟩] w'∧Ac.le h ax∧Af ax a4 bn∧ca=.go a4) ?_ ?_
  ·
   refine wp_block ?_
   refine Au (fun eo a' w'=>∃ (x_v10:List Int)(x_v11:Int)(a:Option Addr)(d:Nat)(u:List Value)(bm:Array Value)(ay:Ac),a' = ⟨bm,[]⟩∧Kn 58 [(g,0)] (Ht x_v11 a x_v10 d a_lanes lanes c_lanes) bm∧Aj ⟨w,h,A9⟩ ay [(g,0)] [⟨Oh m y p ab ad,some 25⟩] [⟨a,x_v10.length,d,3,1,u,0⟩] w'∧Ac.le h ay∧Af ay x_v10 u∧C4 eo y lanes x_v10 x_v11=some ca) n ?_ ?_
   ·
    exact XY x16 ⟨0,am,x16.length,List.flatten (List.replicate x16.length ([.int .i64 0]:List Value)),_,_,rfl,di.kp,a2,Ac.le_refl _,bu,br⟩
   ·
    rintro a3 _ f3 ⟨x_v10,x_v11,a,d,u,bm,ay,rfl,dj,aj,ao,af,f⟩
    clear br
    obtain _ | a3:=a3
    ·
     rw [C4] at f; cases f
    rw [C4] at f
    replace au:=au.mono ao
    replace b7:=b7.mono ao
    replace hr_lanes:=hr_lanes.mono ao
    refine XT (XT (Aa (Rk 0 4 ((tB 20 (decide (x_v11<((lanes.length:Nat):Int))))::(Ht x_v11 a x_v10 d a_lanes lanes c_lanes)) dj aj fun fv be=>?_)))
    refine wf (wC (decide (x_v11<((lanes.length:Nat):Int))) be (fun a9=>?_) (fun a9=>?_))
    ·
     rw [a9,XW] at f
     refine wp_skip (XT (wp_block (XT (XT (Ax (by kernel_rfl) ?_)))))
     replace aj:=aj.drew
     refine A3 [] [(g,0)] [⟨Oh m y p ab ad,some 25⟩] ?_
     refine Dr [0,1] [1,0] ((tI 24 x_v11)::(tS 23 a_lanes lanes.length c_lanes)::(Ht x_v11 a x_v10 d a_lanes lanes c_lanes)) be aj fun fw dk=>?_
     obtain⟨x25,ex25,f⟩:=Ap f
     obtain⟨d0,d6,en⟩:=Ak ex25
     obtain⟨q,s,e8,ch,ee,cq⟩:=hr_lanes.get (by decide) en
     obtain rfl:=ee
     have bi:=aj.addPlc (b:=q) (o:=s+(x_v11:Int).toNat*1) (cs:=[.int .i64 x25]) (fun j c hj=>cq j _ (Am hj)) rfl (by kernel_rfl) (by kernel_rfl)
     refine AA 2 (x_v11) [.int .i64 x25] (fun _ _ _ _ _ h=>h) rfl rfl (rfl) rfl (by decide) (by kernel_rfl) (by kernel_rfl) dk aj.plOk (by rfl) (by rfl) (by rfl) ch (by rfl) d0 d6 (by kernel_rfl) fun ex (dl:Kn 58 [(g,0),(q,s+(x_v11:Int).toNat*1)] ((tP 25 1 0)::(tI 24 x_v11)::(tS 23 a_lanes lanes.length c_lanes)::(Ht x_v11 a x_v10 d a_lanes lanes c_lanes)) ex)=>?_
     refine Dr [3,4,5,6,7] (dn 7) ((tI 30 (IntKind.i64.wrap (((y.room.length:Nat):Int)-1)))::(tI 26 x25)::(Ht x_v11 a x_v10 d a_lanes lanes c_lanes)) dl bi fun fx dm=>?_
     obtain⟨x31,ex31,f⟩:=Ap f
     refine Dl 8 fun K hK=>?_
     refine wc [.c (.int .i64 x25),.c (.int .i64 0),.c (.int .i64 (IntKind.i64.wrap (((y.room.length:Nat):Int)-1)))] dm bi (Fe a3 bi.has x25 0 (IntKind.i64.wrap (((y.room.length:Nat):Int)-1)) ex31) fun f1 a6 f4 cd az al=>?_
     replace au:=au.mono az
     replace hr_lanes:=hr_lanes.mono az
     replace af:=af.mono az
     obtain rfl:=cd
     refine⟨.one (.c (.bool x31)),rfl,fun ez (dp:Kn 58 [(g,0),(q,s+(x_v11:Int).toNat*1)] ((tB 31 x31)::(tI 30 (IntKind.i64.wrap (((y.room.length:Nat):Int)-1)))::(tI 26 x25)::(Ht x_v11 a x_v10 d a_lanes lanes c_lanes)) ez)=>hK _ _ al.plOk ?_⟩
     refine Dr [9] (dn 9) ((tB 32 (!x31))::(Ht x_v11 a x_v10 d a_lanes lanes c_lanes)) dp al fun fy bf=>?_
     refine AE (by kernel_rfl) (wC ((!x31)) bf (fun ba=>?_) (fun ba=>?_))
     ·
      rw [ba,XW] at f
      refine XT (Aa (Rk 0 1 [tB 4 false] bf al fun fz dq=>?_))
      refine wf (wp_ret ?_)
      obtain rfl:=XZ f
      obtain rfl:=XZ H
      exact rt (.one (.c (.bool false))) dq al rfl
     ·
      rw [ba,XV] at f
      refine wp_skip (XT (Aa (Rk 0 3 ((tI 35 x_v11)::(tS 34 a_lanes lanes.length c_lanes)::(tS 33 a x_v10.length d)::(Ht x_v11 a x_v10 d a_lanes lanes c_lanes)) bf al fun f0 dr=>?_)))
      obtain⟨x36,ex36,f⟩:=Ap f
      obtain⟨d1,d7,eg⟩:=Ak ex36
      obtain⟨z,aa,e9,ci,ef,cr⟩:=hr_lanes.get (by decide) eg
      obtain rfl:=ef
      have bh:=al.addPlc (b:=z) (o:=aa+(x_v11:Int).toNat*1) (cs:=[.int .i64 x36]) (fun j c hj=>cr j _ (Am hj)) rfl (by kernel_rfl) (by kernel_rfl)
      refine AC 3 (x_v11) rfl rfl (rfl) rfl (by decide) dr (by rfl) (by rfl) (by rfl) ci (by rfl) d1 d7 (by kernel_rfl) fun ep (cu:Kn 58 [(g,0),(q,s+(x_v11:Int).toNat*1),(z,aa+(x_v11:Int).toNat*1)] ((tP 36 2 0)::(tI 35 x_v11)::(tS 34 a_lanes lanes.length c_lanes)::(tS 33 a x_v10.length d)::(Ht x_v11 a x_v10 d a_lanes lanes c_lanes)) ep)=>?_
      refine Rk 4 1 ((tI 37 x36)::(tS 33 a x_v10.length d)::(Ht x_v11 a x_v10 d a_lanes lanes c_lanes)) cu bh fun ff cv=>?_
      obtain⟨x38,ex38,f⟩:=Ap f
      obtain⟨b1,b4,eh⟩:=Ak ex38
      have ds:=AL b1 b4
      obtain⟨e2,d8,cj⟩:=Ba (sz:=1) rfl af eh
      obtain rfl:=d8
      obtain⟨ac,bs⟩:=AZ bh (i:=0) rfl (b0:=0+(x36:Int).toNat*1) (Nat.lt_of_lt_of_le (Nat.lt_add_of_pos_right (by decide)) (AB (sz:=1) rfl af ds))
      have a0:=bh.addPlc (b:=ac) (o:=0+(x36:Int).toNat*1) (cs:=[]) (fun j c hj=>by simp at hj) rfl (by kernel_rfl) (by kernel_rfl)
      have ck:∀ (e:AG) k c,([.int .i64 x38]:List SC)[k]? = some c→(u)[0+(x36:Int).toNat*1+k]? = some (c.den e):=fun e k c hk=>cj k _ (Am hk)
      refine AC 5 (x36) rfl rfl (rfl) rfl (by decide) cv (by rfl) (by rfl) (by rfl) bs (by rfl) b1 b4 (by kernel_rfl) fun er (cw:Kn 58 [(g,0),(q,s+(x_v11:Int).toNat*1),(z,aa+(x_v11:Int).toNat*1),(ac,0+(x36:Int).toNat*1)] ((tP 38 3 0)::(tI 37 x36)::(tS 33 a x_v10.length d)::(Ht x_v11 a x_v10 d a_lanes lanes c_lanes)) er)=>?_
      refine CP 6 2 [40,37,33,6,5,2,1] ((tI 40 (IntKind.i64.wrap (x38+1)))::(tI 37 x36)::(tS 33 a x_v10.length d)::(Ht x_v11 a x_v10 d a_lanes lanes c_lanes)) cw (A7.peek a0.plOk a0 0 3 rfl rfl bs [.int .i64 x38] (ck _)) (by kernel_rfl) fun fg cx=>?_
      obtain⟨x41,ex41,f⟩:=Ap f
      obtain⟨b2,b5,ei⟩:=Ak ex41
      have bg:=AL b2 b5
      obtain⟨e3,d9,cl⟩:=Ba (sz:=1) rfl af ei
      obtain rfl:=d9
      obtain⟨ae,bt⟩:=AZ a0 (i:=0) rfl (b0:=0+(x36:Int).toNat*1) (Nat.lt_of_lt_of_le (Nat.lt_add_of_pos_right (by decide)) (AB (sz:=1) rfl af bg))
      have du:=a0.addPlc (b:=ae) (o:=0+(x36:Int).toNat*1) (cs:=[]) (fun j c hj=>by simp at hj) rfl (by kernel_rfl) (by kernel_rfl)
      have fa:∀ (e:AG) k c,([.int .i64 x41]:List SC)[k]? = some c→(u)[0+(x36:Int).toNat*1+k]? = some (c.den e):=fun e k c hk=>cl k _ (Am hk)
      refine AC 8 (x36) rfl rfl (rfl) rfl (by decide) cx (by rfl) (by rfl) (by rfl) bt (by rfl) b2 b5 (by kernel_rfl) fun bk (cz:Kn 58 [(g,0),(q,s+(x_v11:Int).toNat*1),(z,aa+(x_v11:Int).toNat*1),(ac,0+(x36:Int).toNat*1),(ae,0+(x36:Int).toNat*1)] ((tP 41 4 0)::(tI 40 (IntKind.i64.wrap (x38+1)))::(tI 37 x36)::(tS 33 a x_v10.length d)::(Ht x_v11 a x_v10 d a_lanes lanes c_lanes)) bk)=>?_
      obtain⟨l,cc,f⟩:=Ap f
      obtain⟨fd,fe,b8⟩:=CK cc
      refine wl fun K hK=>?_
      refine BS 0 4 0 (0+(x36:Int).toNat*1) (.c (.int .i64 (IntKind.i64.wrap (x38+1)))) cz du rfl rfl (by rfl) (by rfl) rfl rfl bt rfl (by kernel_rfl) (AB (sz:=1) rfl af bg) fun e0 c0 dv=>?_
      have bb:Af a6 l (u.take (0+(x36:Int).toNat*1+0)++([.int .i64 (IntKind.i64.wrap (x38+1))]:List Value)++u.drop (0+(x36:Int).toNat*1+0+1)):=by rw [b8]; exact Eu (sz:=1) rfl af bg (Ad:rep a6 (IntKind.i64.wrap (x38+1):Int) _)
      have bz:x_v10.length=l.length:=by rw [b8]; simp
      have c1:Kn 58 [(g,0),(q,s+(x_v11:Int).toNat*1),(z,aa+(x_v11:Int).toNat*1),(ac,0+(x36:Int).toNat*1),(ae,0+(x36:Int).toNat*1)] [(41,.one (.c (.ptr 4 0))),(40,.one (.c (.int .i64 (IntKind.i64.wrap (x38+1))))),(37,.one (.c (.int .i64 x36))),(33,.one (.c (.slice a l.length d))),(6,.one (.c (.int .i64 x_v11))),(5,.one (.c (.slice a l.length d))),(2,.one (.c (.ptr 0 0))),(1,.one (.c (.slice a_lanes lanes.length c_lanes)))] bk:=by rw [← bz]; exact c0
      have ap:Aj ⟨w,h,A9⟩ a6 [(g,0),(q,s+(x_v11:Int).toNat*1),(z,aa+(x_v11:Int).toNat*1),(ac,0+(x36:Int).toNat*1),(ae,0+(x36:Int).toNat*1)] [⟨[.slice m y.room.length p,.slice ab y.buses.length ad,.int .i64 y.broken],some 25⟩,⟨[.int .i64 x25],none⟩,⟨[.int .i64 x36],none⟩,⟨[],none⟩,⟨[],none⟩] [⟨a,l.length,d,3,1,u.take (0+(x36:Int).toNat*1+0)++([.int .i64 (IntKind.i64.wrap (x38+1))]:List Value)++u.drop (0+(x36:Int).toNat*1+0+1),0⟩] e0:=by rw [← bz]; exact dv
      refine hK _ _ ?_
      have c2:Kn 58 [(g,0),(q,s+(x_v11:Int).toNat*1),(z,aa+(x_v11:Int).toNat*1),(ac,0+(x36:Int).toNat*1),(ae,0+(x36:Int).toNat*1)] ((tI 6 x_v11)::(tS 5 a l.length d)::(F0 a_lanes lanes c_lanes)) bk:=c1.kp
      refine wf (XT (Ax (by kernel_rfl) ?_))
      replace ap:=ap.drew
      refine A3 [] [(g,0),(q,s+(x_v11:Int).toNat*1),(z,aa+(x_v11:Int).toNat*1),(ac,0+(x36:Int).toNat*1),(ae,0+(x36:Int).toNat*1)] [⟨Oh m y p ab ad,some 25⟩,⟨[.int .i64 x25],none⟩,⟨[.int .i64 x36],none⟩,⟨[],none⟩,⟨[],none⟩] ?_
      refine Dr [0,1,2] [2,1,0] ((tI 44 x_v11)::(tS 43 a_lanes lanes.length c_lanes)::(tS 42 a l.length d)::(tI 6 x_v11)::(tS 5 a l.length d)::(F0 a_lanes lanes c_lanes)) c2 ap fun fj c3=>?_
      obtain⟨x45,ex45,f⟩:=Ap f
      obtain⟨dw,d2,ej⟩:=Ak ex45
      obtain⟨an,av,e4,ce,ea,cm⟩:=hr_lanes.get (by decide) ej
      obtain rfl:=ea
      have a1:=ap.addPlc (b:=an) (o:=av+(x_v11:Int).toNat*1) (cs:=[.int .i64 x45]) (fun j c hj=>cm j _ (Am hj)) rfl (by kernel_rfl) (by kernel_rfl)
      refine AA 3 (x_v11) [.int .i64 x45] (fun _ _ _ _ _ h=>h) rfl rfl (rfl) rfl (by decide) (by kernel_rfl) (by kernel_rfl) c3 ap.plOk (by rfl) (by rfl) (by rfl) ce (by rfl) dw d2 (by kernel_rfl) fun es (c4:Kn 58 [(g,0),(q,s+(x_v11:Int).toNat*1),(z,aa+(x_v11:Int).toNat*1),(ac,0+(x36:Int).toNat*1),(ae,0+(x36:Int).toNat*1),(an,av+(x_v11:Int).toNat*1)] ((tP 45 5 0)::(tI 44 x_v11)::(tS 43 a_lanes lanes.length c_lanes)::(tS 42 a l.length d)::(tI 6 x_v11)::(tS 5 a l.length d)::(F0 a_lanes lanes c_lanes)) es)=>?_
      refine Dr [4] (dn 4) ((tI 46 x45)::(tS 42 a l.length d)::(tI 6 x_v11)::(tS 5 a l.length d)::(F0 a_lanes lanes c_lanes)) c4 a1 fun fk c5=>?_
      obtain⟨x47,ex47,f⟩:=Ap f
      obtain⟨b3,b6,ek⟩:=Ak ex47
      have dt:=AL b3 b6
      obtain⟨e5,eb,cn⟩:=Ba (sz:=1) rfl bb ek
      obtain rfl:=eb
      obtain⟨aw,ag⟩:=AZ a1 (i:=0) rfl (b0:=0+(x45:Int).toNat*1) (Nat.lt_of_lt_of_le (Nat.lt_add_of_pos_right (by decide)) (AB (sz:=1) rfl bb dt))
      have aq:=a1.addPlc (b:=aw) (o:=0+(x45:Int).toNat*1) (cs:=[]) (fun j c hj=>by simp at hj) rfl (by kernel_rfl) (by kernel_rfl)
      have ai:∀ (e:AG) k c,([.int .i64 x47]:List SC)[k]? = some c→((u.take (0+(x36:Int).toNat*1+0)++([.int .i64 (IntKind.i64.wrap (x38+1))]:List Value)++u.drop (0+(x36:Int).toNat*1+0+1)))[0+(x45:Int).toNat*1+k]? = some (c.den e):=fun e k c hk=>cn k _ (Am hk)
      refine AA 5 (x45) [.int .i64 x47] (fun _ _ _ _ _ h=>h) rfl rfl (rfl) rfl (by decide) (by kernel_rfl) (by kernel_rfl) c5 a1.plOk (by rfl) (by rfl) (by rfl) ag (by rfl) b3 b6 (by kernel_rfl) fun et (c6:Kn 58 [(g,0),(q,s+(x_v11:Int).toNat*1),(z,aa+(x_v11:Int).toNat*1),(ac,0+(x36:Int).toNat*1),(ae,0+(x36:Int).toNat*1),(an,av+(x_v11:Int).toNat*1),(aw,0+(x45:Int).toNat*1)] ((tP 47 6 0)::(tI 46 x45)::(tS 42 a l.length d)::(tI 6 x_v11)::(tS 5 a l.length d)::(F0 a_lanes lanes c_lanes)) et)=>?_
      refine DZ [6,7,8,9,10] [10,9,8,7,6,5,4,3,2,1,0] [52,51,50,48,6,5,2,1] ((tI 52 x_v11)::(tS 51 a_lanes lanes.length c_lanes)::(tS 50 m y.room.length p)::(tI 48 x47)::(tI 6 x_v11)::(tS 5 a l.length d)::(F0 a_lanes lanes c_lanes)) (fun _ _ _ _ _ h=>h) c6 (A7.peek aq.plOk aq 0 6 rfl rfl ag [.int .i64 x47] (ai _)) (by kernel_rfl) (by rfl) (by kernel_rfl) fun fm c7=>?_
      obtain⟨x53,ex53,f⟩:=Ap f
      obtain⟨dx,d3,el⟩:=Ak ex53
      obtain⟨a5,bj,e6,cf,ec,co⟩:=hr_lanes.get (by decide) el
      obtain rfl:=ec
      have ar:=aq.addPlc (b:=a5) (o:=bj+(x_v11:Int).toNat*1) (cs:=[.int .i64 x53]) (fun j c hj=>co j _ (Am hj)) rfl (by kernel_rfl) (by kernel_rfl)
      refine AA 11 (x_v11) [.int .i64 x53] (fun _ _ _ _ _ h=>h) rfl rfl (rfl) rfl (by decide) (by kernel_rfl) (by kernel_rfl) c7 (A7.peek aq.plOk aq 0 6 rfl rfl ag [.int .i64 x47] (ai _)) (by rfl) (by rfl) (by rfl) cf (by rfl) dx d3 (by kernel_rfl) fun eu (c9:Kn 58 [(g,0),(q,s+(x_v11:Int).toNat*1),(z,aa+(x_v11:Int).toNat*1),(ac,0+(x36:Int).toNat*1),(ae,0+(x36:Int).toNat*1),(an,av+(x_v11:Int).toNat*1),(aw,0+(x45:Int).toNat*1),(a5,bj+(x_v11:Int).toNat*1)] ((tP 53 7 0)::(tI 52 x_v11)::(tS 51 a_lanes lanes.length c_lanes)::(tS 50 m y.room.length p)::(tI 48 x47)::(tI 6 x_v11)::(tS 5 a l.length d)::(F0 a_lanes lanes c_lanes)) eu)=>?_
      refine DZ [12] [12,11,10,9,8,7,6,5,4,3,2,1,0] [54,50,48,6,5,2,1] ((tI 54 x53)::(tS 50 m y.room.length p)::(tI 48 x47)::(tI 6 x_v11)::(tS 5 a l.length d)::(F0 a_lanes lanes c_lanes)) (fun _ _ _ _ _ h=>h) c9 (A7.peek ar.plOk ar 0 6 rfl rfl ag [.int .i64 x47] (ai _)) (by kernel_rfl) (by rfl) (by kernel_rfl) fun fn da=>?_
      obtain⟨x55,ex55,f⟩:=Ap f
      obtain⟨dy,d4,em⟩:=Ak ex55
      obtain⟨bp,cb,e7,cg,ed,cp⟩:=au.get (by decide) em
      obtain rfl:=ed
      have ah:=ar.addPlc (b:=bp) (o:=cb+(x53:Int).toNat*1) (cs:=[.int .i64 x55]) (fun j c hj=>cp j _ (Am hj)) rfl (by kernel_rfl) (by kernel_rfl)
      refine AA 13 (x53) [.int .i64 x55] (fun _ _ _ _ _ h=>h) rfl rfl (rfl) rfl (by decide) (by kernel_rfl) (by kernel_rfl) da (A7.peek ar.plOk ar 0 6 rfl rfl ag [.int .i64 x47] (ai _)) (by rfl) (by rfl) (by rfl) cg (by rfl) dy d4 (by kernel_rfl) fun ev (dc:Kn 58 [(g,0),(q,s+(x_v11:Int).toNat*1),(z,aa+(x_v11:Int).toNat*1),(ac,0+(x36:Int).toNat*1),(ae,0+(x36:Int).toNat*1),(an,av+(x_v11:Int).toNat*1),(aw,0+(x45:Int).toNat*1),(a5,bj+(x_v11:Int).toNat*1),(bp,cb+(x53:Int).toNat*1)] ((tP 55 8 0)::(tI 54 x53)::(tS 50 m y.room.length p)::(tI 48 x47)::(tI 6 x_v11)::(tS 5 a l.length d)::(F0 a_lanes lanes c_lanes)) ev)=>?_
      refine DZ [14,15] [15,14,13,12,11,10,9,8,7,6,5,4,3,2,1,0] [57,6,5,2,1] ((tB 57 (decide (x47>x55)))::(tI 6 x_v11)::(tS 5 a l.length d)::(F0 a_lanes lanes c_lanes)) (fun _ _ _ _ _ h=>h) dc (A7.peek ah.plOk ah 0 6 rfl rfl ag [.int .i64 x47] (ai _)) (by kernel_rfl) (by rfl) (by kernel_rfl) fun fp bd=>?_
      refine AE (by kernel_rfl) (wC (decide (x47>x55)) bd (fun a8=>?_) (fun a8=>?_))
      ·
       rw [a8,XW] at f
       refine XT (Aa (CP 0 1 [4] [tB 4 false] bd (A7.peek ah.plOk ah 0 6 rfl rfl ag [.int .i64 x47] (ai _)) (by kernel_rfl) fun fq dd=>?_))
       refine wf (wp_ret ?_)
       obtain rfl:=XZ f
       obtain rfl:=XZ H
       exact rt (.one (.c (.bool false))) dd ah rfl
      ·
       rw [a8,XV] at f
       refine wp_skip (Aa (CP 0 3 [6,5,2,1] ((tI 6 (IntKind.i64.wrap (x_v11+1)))::(tS 5 a l.length d)::(F0 a_lanes lanes c_lanes)) bd (A7.peek ah.plOk ah 0 6 rfl rfl ag [.int .i64 x47] (ai _)) (by kernel_rfl) fun fr de=>?_))
       refine wf ?_
       exact XY a3 ⟨Nat.lt_succ_self _,XY l ⟨IntKind.i64.wrap (x_v11+1),a,d,u.take (0+(x36:Int).toNat*1+0)++([.int .i64 (IntKind.i64.wrap (x38+1))]:List Value)++u.drop (0+(x36:Int).toNat*1+0+1),_,_,rfl,(de.keep [6,5,2,1] (by rfl)).cut 1 (by kernel_rfl),ah.cutPl 1 (by kernel_rfl),XU ao az,bb,f⟩⟩
    ·
     rw [a9,XV] at f
     refine wp_exit ?_
     obtain rfl:=XZ f
     exact XY x_v10 ⟨a,d,u,_,_,rfl,be.kp,aj,ao,af,rfl⟩
  ·
   rintro _ f2 ⟨a4,bo,bq,bn,bl,ax,rfl,df,bx,fc,fb,rfl⟩
   rw [Ex.bind_go] at H
   refine XT (Aa (Rk 0 1 [tB 4 true] df bx fun fs dg=>?_))
   refine wf (wp_ret ?_)
   obtain rfl:=XZ H
   exact rt (.one (.c (.bool true))) dg bx rfl
abbrev Ps (i:Option Addr) (y:Ag) (l:Nat) (k:Option Addr) (m:Nat):List SC:=[.slice i y.room.length l,.slice k y.buses.length m,.int .i64 y.broken]
abbrev EB (x_v10:Int) (a_broken:Option Addr) (broken:List Int) (c_broken:Nat):TM:=[tI 5 x_v10,tP 2 0 0,tS 1 a_broken broken.length c_broken]
set_option maxRecDepth 100000 in
set_option maxHeartbeats 4000000 in
theorem MH (n:Nat) {h:Ac} {w:World} (hh:Db h w) (y:Ag) {cs_y:List Value} (hx_y:rep h y cs_y) (broken:List Int) {a_broken:Option Addr} {c_broken:Nat} (hr_broken:At h a_broken c_broken broken) {r:Bool} (H:E4 n y broken=some r) :
  Calls Tryz.prog 13 #[.agg cs_y.toArray,.slice a_broken broken.length c_broken] w (Dd (fun h v=>v=.bool r) h w):=by
 obtain⟨_,_,rfl,⟨i,l,rfl,az⟩,⟨_,_,rfl,⟨k,m,rfl,a0⟩,rfl⟩⟩:=hx_y
 refine enter 43 [.agg (Ps i y l k m),.c (.slice a_broken broken.length c_broken)] Tryz.func13 rfl rfl rfl rfl fun t hk=>?_
 have hm:=Aj.begin h w hh
 unfold E4 at H
 refine XT (Aa (wl fun K hK=>?_))
 refine wb (.agg (Ps i y l k m)) hk hm fun d cd c5 (bd:Kn 43 [(d,0)] [tP 2 0 0,tA 0 (Ps i y l k m),tS 1 a_broken broken.length c_broken] cd) ai=>hK _ _ ?_
 refine Rk 1 1 [tP 2 0 0,tS 1 a_broken broken.length c_broken] bd ai fun cq bk=>?_
 refine wf (XT (XT (Aa (Rk 0 1 [tI 5 0,tP 2 0 0,tS 1 a_broken broken.length c_broken] bk ai fun cr bl=>?_))))
 refine wf ?_
 obtain⟨a1,ap,H⟩:=Ap H
 refine Aq (fun a' w'=>∃ (a3:Unit)(am:Array Value)(ab:Ac),a' = ⟨am,[]⟩∧Kn 43 [(d,0)] [tP 2 0 0,tS 1 a_broken broken.length c_broken] am∧Aj ⟨w,h,A9⟩ ab [(d,0)] [⟨Ps i y l k m,some 25⟩] [] w'∧Ac.le h ab∧a1=.go a3) ?_ ?_
 ·
  refine wp_block ?_
  refine Au (fun ca a' w'=>∃ (x_v10:Int)(an:Array Value)(ac:Ac),a' = ⟨an,[]⟩∧Kn 43 [(d,0)] (EB x_v10 a_broken broken c_broken) an∧Aj ⟨w,h,A9⟩ ac [(d,0)] [⟨Ps i y l k m,some 25⟩] [] w'∧Ac.le h ac∧BQ ca y broken x_v10=some a1) n ?_ ?_
  ·
   exact XY 0 ⟨_,_,rfl,bl.kp,ai,Ac.le_refl _,ap⟩
  ·
   rintro z _ c3 ⟨x_v10,an,ac,rfl,bm,p,q,a⟩
   clear ap
   obtain _ | z:=z
   ·
    rw [BQ] at a; cases a
   rw [BQ] at a
   replace az:=az.mono q
   replace a0:=a0.mono q
   replace hr_broken:=hr_broken.mono q
   refine XT (XT (Aa (Rk 0 4 ((tB 9 (decide (x_v10<((broken.length:Nat):Int))))::(EB x_v10 a_broken broken c_broken)) bm p fun ct ag=>?_)))
   refine wf (wC (decide (x_v10<((broken.length:Nat):Int))) ag (fun ae=>?_) (fun ae=>?_))
   ·
    rw [ae,XW] at a
    refine wp_skip (XT (wp_block (XT (Ax (by kernel_rfl) ?_))))
    replace p:=p.drew
    refine A3 [] [(d,0)] [⟨Ps i y l k m,some 25⟩] ?_
    refine Dr [0,1] [1,0] ((tI 13 x_v10)::(tS 12 a_broken broken.length c_broken)::(EB x_v10 a_broken broken c_broken)) ag p fun cu bn=>?_
    obtain⟨x14,ex14,a⟩:=Ap a
    obtain⟨bx,b1,b7⟩:=Ak ex14
    obtain⟨f,g,cg,a7,b4,ba⟩:=hr_broken.get (by decide) b7
    obtain rfl:=b4
    have aj:=p.addPlc (b:=f) (o:=g+(x_v10:Int).toNat*1) (cs:=[.int .i64 x14]) (fun j c hj=>ba j _ (Am hj)) rfl (by kernel_rfl) (by kernel_rfl)
    refine AA 2 (x_v10) [.int .i64 x14] (fun _ _ _ _ _ h=>h) rfl rfl (rfl) rfl (by decide) (by kernel_rfl) (by kernel_rfl) bn p.plOk (by rfl) (by rfl) (by rfl) a7 (by rfl) bx b1 (by kernel_rfl) fun cb (bo:Kn 43 [(d,0),(f,g+(x_v10:Int).toNat*1)] ((tP 14 1 0)::(tI 13 x_v10)::(tS 12 a_broken broken.length c_broken)::(EB x_v10 a_broken broken c_broken)) cb)=>?_
    refine Dr [3,4,5,6,7] (dn 7) ((tI 19 (IntKind.i64.wrap (((y.buses.length:Nat):Int)-1)))::(tI 15 x14)::(EB x_v10 a_broken broken c_broken)) bo aj fun cv bp=>?_
    obtain⟨x20,ex20,a⟩:=Ap a
    refine Dl 8 fun K hK=>?_
    refine wc [.c (.int .i64 x14),.c (.int .i64 0),.c (.int .i64 (IntKind.i64.wrap (((y.buses.length:Nat):Int)-1)))] bp aj (Fe z aj.has x14 0 (IntKind.i64.wrap (((y.buses.length:Nat):Int)-1)) ex20) fun c1 cj c4 a6 ah e=>?_
    replace hr_broken:=hr_broken.mono ah
    obtain rfl:=a6
    refine⟨.one (.c (.bool x20)),rfl,fun cc (bq:Kn 43 [(d,0),(f,g+(x_v10:Int).toNat*1)] ((tB 20 x20)::(tI 19 (IntKind.i64.wrap (((y.buses.length:Nat):Int)-1)))::(tI 15 x14)::(EB x_v10 a_broken broken c_broken)) cc)=>hK _ _ e.plOk ?_⟩
    refine Dr [9,10] (dn 10) ((tB 22 (!x20))::(EB x_v10 a_broken broken c_broken)) bq e fun a4 ar=>?_
    rcases Bool.eq_false_or_eq_true ((!x20)) with s | s
    ·
     rw [s,XW] at a
     have br:Kn 43 [(d,0),(f,g+(x_v10:Int).toNat*1)] ((tB 22 true)::(EB x_v10 a_broken broken c_broken)) a4:=(ar.setB 22 true (by rfl) s).kp
     refine Dr [11,12,13,14,15,16,17,18,19,20,21,22,23,24,25] (dn 25) ((tB 37 true)::(EB x_v10 a_broken broken c_broken)) br e fun cw au=>?_
     refine AE (by kernel_rfl) (wC true au (fun hb=>?_) (fun hb=>?_))
     rotate_left
     ·
      cases hb
     refine XT (Aa (Rk 0 1 [tB 4 false] au e fun cx bs=>?_))
     refine wf (wp_ret ?_)
     obtain rfl:=XZ a
     obtain rfl:=XZ H
     exact rt (.one (.c (.bool false))) bs e rfl
    ·
     rw [s,XV] at a
     have bt:Kn 43 [(d,0),(f,g+(x_v10:Int).toNat*1)] ((tB 22 false)::(EB x_v10 a_broken broken c_broken)) a4:=(ar.setB 22 false (by rfl) s).kp
     refine Dr [11,12,13] (dn 13) ((tB 25 (decide (x_v10>0)))::(tB 22 false)::(EB x_v10 a_broken broken c_broken)) bt e fun a5 av=>?_
     rcases Bool.eq_false_or_eq_true (decide (x_v10>0)) with u | u
     ·
      rw [u,XW] at a
      have bu:Kn 43 [(d,0),(f,g+(x_v10:Int).toNat*1)] ((tB 25 true)::(tB 22 false)::(EB x_v10 a_broken broken c_broken)) a5:=(av.setB 25 true (by rfl) u).kp
      refine Dr [14,15] (dn 15) ((tI 27 x_v10)::(tS 26 a_broken broken.length c_broken)::(tB 25 true)::(tB 22 false)::(EB x_v10 a_broken broken c_broken)) bu e fun cy aw=>?_
      obtain⟨x28,ex28,a⟩:=Ap a
      obtain⟨bz,b2,b8⟩:=Ak ex28
      obtain⟨aa,al,ch,a8,b5,bb⟩:=hr_broken.get (by decide) b8
      obtain rfl:=b5
      have ak:=e.addPlc (b:=aa) (o:=al+(x_v10:Int).toNat*1) (cs:=[.int .i64 x28]) (fun j c hj=>bb j _ (Am hj)) rfl (by kernel_rfl) (by kernel_rfl)
      refine AA 16 (x_v10) [.int .i64 x28] (fun _ _ _ _ _ h=>h) rfl rfl (Al aw (by kernel_rfl)) rfl (by decide) (by kernel_rfl) (by kernel_rfl) aw e.plOk (by rfl) (by rfl) (by rfl) a8 (by rfl) bz b2 (by kernel_rfl) fun ce (bv:Kn 43 [(d,0),(f,g+(x_v10:Int).toNat*1),(aa,al+(x_v10:Int).toNat*1)] ((tP 28 2 0)::(tI 27 x_v10)::(tS 26 a_broken broken.length c_broken)::(tB 25 true)::(tB 22 false)::(EB x_v10 a_broken broken c_broken)) ce)=>?_
      refine Dr [17,18,19,20] (dn 20) ((tI 32 (IntKind.i64.wrap (x_v10-1)))::(tS 30 a_broken broken.length c_broken)::(tI 29 x28)::(tB 25 true)::(tB 22 false)::(EB x_v10 a_broken broken c_broken)) bv ak fun cz ax=>?_
      obtain⟨x33,ex33,a⟩:=Ap a
      obtain⟨b0,b3,b9⟩:=Ak ex33
      obtain⟨ao,a2,ci,a9,b6,bc⟩:=hr_broken.get (by decide) b9
      obtain rfl:=b6
      have x:=ak.addPlc (b:=ao) (o:=a2+(IntKind.i64.wrap (x_v10-1):Int).toNat*1) (cs:=[.int .i64 x33]) (fun j c hj=>bc j _ (Am hj)) rfl (by kernel_rfl) (by kernel_rfl)
      refine AA 21 (IntKind.i64.wrap (x_v10-1)) [.int .i64 x33] (fun _ _ _ _ _ h=>h) rfl rfl (Al ax (by kernel_rfl)) rfl (by decide) (by kernel_rfl) (by kernel_rfl) ax ak.plOk (by rfl) (by rfl) (by rfl) a9 (by rfl) b0 b3 (by kernel_rfl) fun cf (bw:Kn 43 [(d,0),(f,g+(x_v10:Int).toNat*1),(aa,al+(x_v10:Int).toNat*1),(ao,a2+(IntKind.i64.wrap (x_v10-1):Int).toNat*1)] ((tP 33 3 0)::(tI 32 (IntKind.i64.wrap (x_v10-1)))::(tS 30 a_broken broken.length c_broken)::(tI 29 x28)::(tB 25 true)::(tB 22 false)::(EB x_v10 a_broken broken c_broken)) cf)=>?_
      refine Dr [22,23,24,25] (dn 25) ((tB 37 (decide (x28≤x33)))::(EB x_v10 a_broken broken c_broken)) bw x fun c0 af=>?_
      refine AE (by kernel_rfl) (wC (decide (x28≤x33)) af (fun ad=>?_) (fun ad=>?_))
      ·
       rw [ad,XW] at a
       refine XT (Aa (Rk 0 1 [tB 4 false] af x fun cl be=>?_))
       refine wf (wp_ret ?_)
       obtain rfl:=XZ a
       obtain rfl:=XZ H
       exact rt (.one (.c (.bool false))) be x rfl
      ·
       rw [ad,XV] at a
       refine wp_skip (Aa (Rk 0 3 [tI 5 (IntKind.i64.wrap (x_v10+1)),tP 2 0 0,tS 1 a_broken broken.length c_broken] af x fun cm bf=>?_))
       refine wf ?_
       exact XY z ⟨Nat.lt_succ_self _,XY (IntKind.i64.wrap (x_v10+1)) ⟨_,_,rfl,(bf.keep [5,2,1] (by rfl)).cut 1 (by kernel_rfl),x.cutPl 1 (by kernel_rfl),XU q ah,a⟩⟩
     ·
      rw [u,XV] at a
      have bg:Kn 43 [(d,0),(f,g+(x_v10:Int).toNat*1)] ((tB 25 false)::(tB 22 false)::(EB x_v10 a_broken broken c_broken)) a5:=(av.setB 25 false (by rfl) u).kp
      refine Dr [14,15,16,17,18,19,20,21,22,23,24,25] (dn 25) ((tB 37 false)::(EB x_v10 a_broken broken c_broken)) bg e fun cn aq=>?_
      refine AE (by kernel_rfl) (wC false aq (fun hb=>?_) (fun hb=>?_))
      ·
       cases hb
      refine wp_skip (Aa (Rk 0 3 [tI 5 (IntKind.i64.wrap (x_v10+1)),tP 2 0 0,tS 1 a_broken broken.length c_broken] aq e fun co bh=>?_))
      refine wf ?_
      exact XY z ⟨Nat.lt_succ_self _,XY (IntKind.i64.wrap (x_v10+1)) ⟨_,_,rfl,(bh.keep [5,2,1] (by rfl)).cut 1 (by kernel_rfl),e.cutPl 1 (by kernel_rfl),XU q ah,a⟩⟩
   ·
    rw [ae,XV] at a
    refine wp_exit ?_
    obtain rfl:=XZ a
    exact XY () ⟨_,_,rfl,ag.kp,p,q,rfl⟩
 ·
  rintro _ c2 ⟨a3,am,ab,rfl,bi,ay,ck,rfl⟩
  rw [Ex.bind_go] at H
  refine XT (Aa (Rk 0 6 [tB 4 (decide (((broken.length:Nat):Int)≤y.broken))] bi ay fun cp bj=>?_))
  refine wf (wp_ret ?_)
  obtain rfl:=XZ H
  exact rt (.one (.c (.bool (decide (((broken.length:Nat):Int)≤y.broken))))) bj ay rfl
abbrev Hu (s:Option Addr) (y:Ag) (u:Nat) (m:Option Addr) (p:Nat):List SC:=[.slice s y.room.length u,.slice m y.buses.length p,.int .i64 y.broken]
abbrev G3 (x_v21:Int) (d:Option Addr) (x_v20:List Int) (f:Nat) (x_v11:Int) (a_broken:Option Addr) (broken:List Int) (c_broken:Nat):TM:=[tI 7 x_v21,tS 5 d x_v20.length f,tI 6 x_v11,tP 2 0 0,tS 1 a_broken broken.length c_broken]
abbrev ED (a_broken:Option Addr) (broken:List Int) (c_broken:Nat):TM:=[tP 2 0 0,tS 1 a_broken broken.length c_broken]
abbrev Pt (x_v21:Int) (d:Option Addr) (x_v20:List Int) (f:Nat) (x_v11:Int) (a_broken:Option Addr) (broken:List Int) (c_broken:Nat):TM:=(tI 55 (IntKind.i64.wrap (x_v21-1)))::(tS 53 d x_v20.length f)::(tI 52 x_v21)::(tS 51 d x_v20.length f)::(G3 x_v21 d x_v20 f x_v11 a_broken broken c_broken)
set_option maxRecDepth 100000 in
set_option maxHeartbeats 4000000 in
theorem PR (n:Nat) {h:Ac} {w:World} (hh:Db h w) (y:Ag) {cs_y:List Value} (hx_y:rep h y cs_y) (broken:List Int) {a_broken:Option Addr} {c_broken:Nat} (hr_broken:At h a_broken c_broken broken) {r:List Int} (H:Hc n y broken=some r) :
  Calls Tryz.prog 53 #[.agg cs_y.toArray,.slice a_broken broken.length c_broken] w (Dd (fun h v=>∃ a c,v=.slice a r.length c∧At h a c r) h w):=by
 obtain⟨_,_,rfl,⟨s,u,rfl,a2⟩,⟨_,_,rfl,⟨m,p,rfl,am⟩,rfl⟩⟩:=hx_y
 refine enter 68 [.agg (Hu s y u m p),.c (.slice a_broken broken.length c_broken)] Tryz.func53 rfl rfl rfl rfl fun t hk=>?_
 have hm:=Aj.begin h w hh
 unfold Hc at H
 refine XT (Aa (wl fun K hK=>?_))
 refine wb (.agg (Hu s y u m p)) hk hm fun g gm gq (d9:Kn 68 [(g,0)] [tP 2 0 0,tA 0 (Hu s y u m p),tS 1 a_broken broken.length c_broken] gm) br=>hK _ _ ?_
 refine Rk 1 1 (ED a_broken broken c_broken) d9 br fun g8 ed=>?_
 refine wf (XT (Aa (Rk 0 1 ((tS 5 none 0 0)::(ED a_broken broken c_broken)) ed br fun ha ef=>?_)))
 refine wf (XT (XT (Aa (Rk 0 1 ((tI 6 0)::(tS 5 none 0 0)::(ED a_broken broken c_broken)) ef br fun hd ei=>?_))))
 refine wf ?_
 have fk:Aj ⟨w,h,A9⟩ h [(g,0)] [⟨Hu s y u m p,some 25⟩] [⟨none,0,0,3,1,[],0⟩] gq:=br.nilRow 3 1
 have d1:Af h ([]:List Int) []:=Af.nil
 obtain⟨an,co,H⟩:=Ap H
 refine Aq (fun a' w'=>∃ (ao:Option Addr)(aq:Nat)(bh:List Value)(cj:Array Value)(bl:Ac),a' = ⟨cj,[]⟩∧Kn 68 [(g,0)] [tS 5 ao an.length aq] cj∧Aj ⟨w,h,A9⟩ bl [(g,0)] [⟨Hu s y u m p,some 25⟩] [⟨ao,an.length,aq,3,1,bh,0⟩] w'∧Ac.le h bl∧Af bl an bh) ?_ ?_
 ·
  refine wp_block ?_
  refine Au (fun gb a' w'=>∃ (x_v10:List Int)(x_v11:Int)(aa:Option Addr)(ab:Nat)(aw:List Value)(ck:Array Value)(bm:Ac),a' = ⟨ck,[]⟩∧Kn 68 [(g,0)] ((tI 6 x_v11)::(tS 5 aa x_v10.length ab)::(ED a_broken broken c_broken)) ck∧Aj ⟨w,h,A9⟩ bm [(g,0)] [⟨Hu s y u m p,some 25⟩] [⟨aa,x_v10.length,ab,3,1,aw,0⟩] w'∧Ac.le h bm∧Af bm x_v10 aw∧CJ gb y broken x_v10 x_v11=some an) n ?_ ?_
  ·
   exact XY ([]:List Int) ⟨0,none,0,[],_,_,rfl,ei.kp,fk,Ac.le_refl _,d1,co⟩
  ·
   rintro a3 _ h1 ⟨x_v10,x_v11,aa,ab,aw,ck,bm,rfl,e4,bg,ay,bd,x⟩
   clear co
   obtain _ | a3:=a3
   ·
    rw [CJ] at x; cases x
   rw [CJ] at x
   replace a2:=a2.mono ay
   replace am:=am.mono ay
   replace hr_broken:=hr_broken.mono ay
   refine XT (XT (Aa (Rk 0 5 ((tB 12 (decide (x_v11<((y.buses.length:Nat):Int))))::(tI 6 x_v11)::(tS 5 aa x_v10.length ab)::(ED a_broken broken c_broken)) e4 bg fun hr b6=>?_)))
   refine wf (wC (decide (x_v11<((y.buses.length:Nat):Int))) b6 (fun b1=>?_) (fun b1=>?_))
   ·
    rw [b1,XW] at x
    refine wp_skip (XT (wp_block (XT (XT (Aa (Rk 0 2 ((tI 16 x_v11)::(tS 15 a_broken broken.length c_broken)::(tI 6 x_v11)::(tS 5 aa x_v10.length ab)::(ED a_broken broken c_broken)) b6 bg fun hs e5=>?_))))))
    obtain⟨x17,ex17,x⟩:=Ap x
    refine wl fun K hK=>?_
    refine wc [.c (.slice a_broken broken.length c_broken),.c (.int .i64 x_v11)] e5 bg (G2 a3 bg.has broken hr_broken x_v11 ex17) fun hx a9 h2 dt az bt=>?_
    replace a2:=a2.mono az
    replace am:=am.mono az
    replace hr_broken:=hr_broken.mono az
    replace bd:=bd.mono az
    obtain rfl:=dt
    refine⟨.one (.c (.bool x17)),rfl,fun dp (e6:Kn 68 [(g,0)] ((tB 17 x17)::(tI 16 x_v11)::(tS 15 a_broken broken.length c_broken)::(tI 6 x_v11)::(tS 5 aa x_v10.length ab)::(ED a_broken broken c_broken)) dp)=>hK _ _ ?_⟩
    have b7:Kn 68 [(g,0)] ((tB 17 x17)::(tI 6 x_v11)::(tS 5 aa x_v10.length ab)::(ED a_broken broken c_broken)) dp:=e6.kp
    refine wf (wC (x17) b7 (fun b2=>?_) (fun b2=>?_))
    ·
     rw [Bc b2] at x
     refine wp_exit (Aa (Rk 0 3 ((tI 6 (IntKind.i64.wrap (x_v11+1)))::(tS 5 aa x_v10.length ab)::(ED a_broken broken c_broken)) b7 bt fun ht e7=>?_))
     refine wf ?_
     exact XY a3 ⟨Nat.lt_succ_self _,XY x_v10 ⟨IntKind.i64.wrap (x_v11+1),aa,ab,aw,_,_,rfl,e7.kp,bt,XU ay az,bd,x⟩⟩
    ·
     rw [Bd b2] at x
     refine wp_skip (XT (Aa (Rk 0 2 ((tI 19 x_v11)::(tS 18 aa x_v10.length ab)::(tI 6 x_v11)::(ED a_broken broken c_broken)) b7 bt fun hu e8=>?_)))
     refine wl fun K hK=>?_
     refine wS 3 1 [.int .i64 x_v11] e8 bt fun ap gk h3 (e9:Kn 68 [(g,0)] ((tS 20 ap 1 1)::(tI 19 x_v11)::(tS 18 aa x_v10.length ab)::(tI 6 x_v11)::(ED a_broken broken c_broken)) gk) c2=>?_
     have be:Af a9 ([x_v11]:List Int) ([.int .i64 x_v11]:List Value):=⟨_,_,rfl,(Ad:rep a9 (x_v11:Int) _),rfl⟩
     refine hK _ _ ?_
     obtain⟨x21,ex21,x⟩:=Ap x
     obtain⟨cf,fh⟩:=AS ex21
     refine wl fun K hK=>?_
     refine AI 0 8 1 _ (x21.length) _ ([.int .i64 x_v11]:List Value) e9 c2 rfl rfl (by decide) rfl (by rfl) (by kernel_rfl) (by rfl) (by rfl) (Af.len be) (c2.rowCell (i:=1) rfl) be.one (by rw [cf]; simp <;> omega) (by rw [cf]; exact fh) (by decide) fun bi bk ds gl h4 d8 (fa:Kn 68 [(g,0)] ((tS 21 bi x21.length bk)::(tS 20 ap 1 1)::(tI 19 x_v11)::(tS 18 aa x_v10.length ab)::(tI 6 x_v11)::(ED a_broken broken c_broken)) gl) ce=>?_
     have d6:Af a9 x21 (aw++([.int .i64 x_v11]:List Value)):=by rw [cf]; exact Af.append bd be
     obtain rfl:ds=0:=Nat.le_zero.1 d8
     refine hK _ _ ?_
     refine Rk 4 1 ((tS 5 bi x21.length bk)::(tI 6 x_v11)::(ED a_broken broken c_broken)) fa ce fun hv fb=>?_
     refine wf (XT (Aa (Rk 0 4 ((tI 7 (IntKind.i64.wrap (((x21.length:Nat):Int)-1)))::(tS 5 bi x21.length bk)::(tI 6 x_v11)::(ED a_broken broken c_broken)) fb ce fun hw fc=>?_)))
     refine wf ?_
     obtain⟨a4,cp,x⟩:=Ap x
     refine Aq (fun a' w'=>∃ (a5:Option Addr)(a8:Nat)(bv:List Value)(cl:Array Value)(bn:Ac),a' = ⟨cl,[]⟩∧Kn 68 [(g,0)] ((tS 5 a5 a4.length a8)::(tI 6 x_v11)::(ED a_broken broken c_broken)) cl∧Aj ⟨w,h,A9⟩ bn [(g,0)] [⟨Hu s y u m p,some 25⟩] [⟨a5,a4.length,a8,3,1,bv,0⟩,⟨ap,1,1,3,1,([.int .i64 x_v11]:List Value),0⟩] w'∧Ac.le a9 bn∧Af bn a4 bv) ?_ ?_
     ·
      refine wp_block ?_
      refine Au (fun gc a' w'=>∃ (x_v20:List Int)(x_v21:Int)(d:Option Addr)(f:Nat)(l:List Value)(cm:Array Value)(ba:Ac),a' = ⟨cm,[]⟩∧Kn 68 [(g,0)] (G3 x_v21 d x_v20 f x_v11 a_broken broken c_broken) cm∧Aj ⟨w,h,A9⟩ ba [(g,0)] [⟨Hu s y u m p,some 25⟩] [⟨d,x_v20.length,f,3,1,l,0⟩,⟨ap,1,1,3,1,([.int .i64 x_v11]:List Value),0⟩] w'∧Ac.le a9 ba∧Af ba x_v20 l∧CI gc y x_v20 x_v21=some a4) a3 ?_ ?_
      ·
       exact XY x21 ⟨IntKind.i64.wrap (((x21.length:Nat):Int)-1),bi,bk,aw++([.int .i64 x_v11]:List Value),_,_,rfl,fc.kp,ce,Ac.le_refl _,d6,cp⟩
      ·
       rintro cg _ hy ⟨x_v20,x_v21,d,f,l,cm,ba,rfl,ea,ai,ax,z,q⟩
       clear cp
       obtain _ | cg:=cg
       ·
        rw [CI] at q; cases q
       rw [CI] at q
       replace a2:=a2.mono ax
       replace am:=am.mono ax
       replace hr_broken:=hr_broken.mono ax
       replace be:=be.mono ax
       refine XT (XT ?_)
       obtain⟨dj,ac,q⟩:=Ap q
       refine Aq (fun a' w'=>∃ (ch:Array Value)(ah:Ac),a' = ⟨ch,[]⟩∧Kn 68 [(g,0)] [tI 7 x_v21,tS 5 d x_v20.length f,tI 6 x_v11,tP 2 0 0,tS 1 a_broken broken.length c_broken,tB 48 dj] ch∧Aj ⟨w,h,A9⟩ ah [(g,0)] [⟨Hu s y u m p,some 25⟩] [⟨d,x_v20.length,f,3,1,l,0⟩,⟨ap,1,1,3,1,([.int .i64 x_v11]:List Value),0⟩] w'∧Ac.le ba ah) ?_ ?_
       ·
        refine Ax (by kernel_rfl) ?_
        replace ai:=ai.drew
        refine A3 [] [(g,0)] [⟨Hu s y u m p,some 25⟩] ?_
        refine Dr [0,1,2] [2,1,0] ((tB 27 (decide (x_v21>0)))::(G3 x_v21 d x_v20 f x_v11 a_broken broken c_broken)) ea ai fun dl cv=>?_
        rcases Bool.eq_false_or_eq_true (decide (x_v21>0)) with bc | bc
        ·
         rw [bc,XW] at ac
         have eb:Kn 68 [(g,0)] ((tB 27 true)::(G3 x_v21 d x_v20 f x_v11 a_broken broken c_broken)) dl:=(cv.setB 27 true (by rfl) bc).kp
         refine Dr [3,4,5,6] (dn 6) ((tI 31 x_v21)::(tS 30 d x_v20.length f)::(tS 29 m y.buses.length p)::(tB 27 true)::(G3 x_v21 d x_v20 f x_v11 a_broken broken c_broken)) eb ai fun g7 cw=>?_
         obtain⟨x32,ex32,ac⟩:=Ap ac
         obtain⟨c5,db,f3⟩:=Ak ex32
         have fd:=AL c5 db
         obtain⟨gr,fv,dw⟩:=Ba (sz:=1) rfl z f3
         obtain rfl:=fv
         obtain⟨a6,ak⟩:=AZ ai (i:=0) rfl (b0:=0+(x_v21:Int).toNat*1) (Nat.lt_of_lt_of_le (Nat.lt_add_of_pos_right (by decide)) (AB (sz:=1) rfl z fd))
         have bf:=ai.addPlc (b:=a6) (o:=0+(x_v21:Int).toNat*1) (cs:=[]) (fun j c hj=>by simp at hj) rfl (by kernel_rfl) (by kernel_rfl)
         have ar:∀ (e:AG) k c,([.int .i64 x32]:List SC)[k]? = some c→(l)[0+(x_v21:Int).toNat*1+k]? = some (c.den e):=fun e k c hk=>dw k _ (Am hk)
         refine AA 7 (x_v21) [.int .i64 x32] (fun _ _ _ _ _ h=>h) rfl rfl (Al cw (by kernel_rfl)) rfl (by decide) (by kernel_rfl) (by kernel_rfl) cw ai.plOk (by rfl) (by rfl) (by rfl) ak (by rfl) c5 db (by kernel_rfl) fun gd (ec:Kn 68 [(g,0),(a6,0+(x_v21:Int).toNat*1)] ((tP 32 1 0)::(tI 31 x_v21)::(tS 30 d x_v20.length f)::(tS 29 m y.buses.length p)::(tB 27 true)::(G3 x_v21 d x_v20 f x_v11 a_broken broken c_broken)) gd)=>?_
         refine DZ [8] [8,7,6,5,4,3,2,1,0] [33,29,27,7,5,6,2,1] ((tI 33 x32)::(tS 29 m y.buses.length p)::(tB 27 true)::(G3 x_v21 d x_v20 f x_v11 a_broken broken c_broken)) (fun _ _ _ _ _ h=>h) ec (A7.peek bf.plOk bf 0 1 rfl rfl ak [.int .i64 x32] (ar _)) (by kernel_rfl) (by rfl) (by kernel_rfl) fun g9 cx=>?_
         obtain⟨x34,ex34,ac⟩:=Ap ac
         obtain⟨fp,fr,f4⟩:=Ak ex34
         obtain⟨bj,bu,gs,du,fw,dx⟩:=am.get (by decide) f4
         obtain⟨_,_,rfl,rfl,⟨_,_,rfl,rfl,rfl⟩⟩:=fw
         have a0:=bf.addPlc (b:=bj) (o:=bu+(x32:Int).toNat*3) (cs:=[.int .i64 x34.lo,.int .i64 x34.hi,.int .i64 x34.turn]) (fun j c hj=>dx j _ (Am hj)) rfl (by kernel_rfl) (by kernel_rfl)
         refine AA 9 (x32) [.int .i64 x34.lo,.int .i64 x34.hi,.int .i64 x34.turn] (fun _ _ _ _ _ h=>h) rfl rfl (Al cx (by kernel_rfl)) rfl (by decide) (by kernel_rfl) (by kernel_rfl) cx (A7.peek bf.plOk bf 0 1 rfl rfl ak [.int .i64 x32] (ar _)) (by rfl) (by rfl) (by rfl) du (by rfl) fp fr (by kernel_rfl) fun gf (ee:Kn 68 [(g,0),(a6,0+(x_v21:Int).toNat*1),(bj,bu+(x32:Int).toNat*3)] ((tP 34 2 0)::(tI 33 x32)::(tS 29 m y.buses.length p)::(tB 27 true)::(G3 x_v21 d x_v20 f x_v11 a_broken broken c_broken)) gf)=>?_
         refine DZ [10,11,12,13,14,15,16] [16,15,14,13,12,11,10,9,8,7,6,5,4,3,2,1,0] [41,39,38,36,27,7,5,6,2,1] ((tI 41 (IntKind.i64.wrap (x_v21-1)))::(tS 39 d x_v20.length f)::(tS 38 m y.buses.length p)::(tI 36 x34.turn)::(tB 27 true)::(G3 x_v21 d x_v20 f x_v11 a_broken broken c_broken)) (fun _ _ _ _ _ h=>h) ee (A7.peek a0.plOk a0 0 1 rfl rfl ak [.int .i64 x32] (ar _)) (by kernel_rfl) (by rfl) (by kernel_rfl) fun hb cy=>?_
         obtain⟨x42,ex42,ac⟩:=Ap ac
         obtain⟨c6,dc,f5⟩:=Ak ex42
         have fe:=AL c6 dc
         obtain⟨gu,fx,dy⟩:=Ba (sz:=1) rfl z f5
         obtain rfl:=fx
         obtain⟨bw,bo⟩:=AZ a0 (i:=0) rfl (b0:=0+(IntKind.i64.wrap (x_v21-1):Int).toNat*1) (Nat.lt_of_lt_of_le (Nat.lt_add_of_pos_right (by decide)) (AB (sz:=1) rfl z fe))
         have au:=a0.addPlc (b:=bw) (o:=0+(IntKind.i64.wrap (x_v21-1):Int).toNat*1) (cs:=[]) (fun j c hj=>by simp at hj) rfl (by kernel_rfl) (by kernel_rfl)
         have b3:∀ (e:AG) k c,([.int .i64 x42]:List SC)[k]? = some c→(l)[0+(IntKind.i64.wrap (x_v21-1):Int).toNat*1+k]? = some (c.den e):=fun e k c hk=>dy k _ (Am hk)
         refine AA 17 (IntKind.i64.wrap (x_v21-1)) [.int .i64 x42] (fun _ _ _ _ _ h=>h) rfl rfl (Al cy (by kernel_rfl)) rfl (by decide) (by kernel_rfl) (by kernel_rfl) cy (A7.peek a0.plOk a0 0 1 rfl rfl ak [.int .i64 x32] (ar _)) (by rfl) (by rfl) (by rfl) bo (by rfl) c6 dc (by kernel_rfl) fun gg (eg:Kn 68 [(g,0),(a6,0+(x_v21:Int).toNat*1),(bj,bu+(x32:Int).toNat*3),(bw,0+(IntKind.i64.wrap (x_v21-1):Int).toNat*1)] ((tP 42 3 0)::(tI 41 (IntKind.i64.wrap (x_v21-1)))::(tS 39 d x_v20.length f)::(tS 38 m y.buses.length p)::(tI 36 x34.turn)::(tB 27 true)::(G3 x_v21 d x_v20 f x_v11 a_broken broken c_broken)) gg)=>?_
         refine DZ [18] [18,17,16,15,14,13,12,11,10,9,8,7,6,5,4,3,2,1,0] [43,38,36,27,7,5,6,2,1] ((tI 43 x42)::(tS 38 m y.buses.length p)::(tI 36 x34.turn)::(tB 27 true)::(G3 x_v21 d x_v20 f x_v11 a_broken broken c_broken)) (fun _ _ _ _ _ h=>h) eg (A7.peek (A7.peek au.plOk au 0 1 rfl rfl ak [.int .i64 x32] (ar _)) au 0 3 rfl rfl bo [.int .i64 x42] (b3 _)) (by kernel_rfl) (by rfl) (by kernel_rfl) fun hc cz=>?_
         obtain⟨x44,ex44,ac⟩:=Ap ac
         obtain⟨fq,fs,f6⟩:=Ak ex44
         obtain⟨cn,dk,gv,dv,fy,dz⟩:=am.get (by decide) f6
         obtain⟨_,_,rfl,rfl,⟨_,_,rfl,rfl,rfl⟩⟩:=fy
         have bs:=au.addPlc (b:=cn) (o:=dk+(x42:Int).toNat*3) (cs:=[.int .i64 x44.lo,.int .i64 x44.hi,.int .i64 x44.turn]) (fun j c hj=>dz j _ (Am hj)) rfl (by kernel_rfl) (by kernel_rfl)
         refine AA 19 (x42) [.int .i64 x44.lo,.int .i64 x44.hi,.int .i64 x44.turn] (fun _ _ _ _ _ h=>h) rfl rfl (Al cz (by kernel_rfl)) rfl (by decide) (by kernel_rfl) (by kernel_rfl) cz (A7.peek (A7.peek au.plOk au 0 1 rfl rfl ak [.int .i64 x32] (ar _)) au 0 3 rfl rfl bo [.int .i64 x42] (b3 _)) (by rfl) (by rfl) (by rfl) dv (by rfl) fq fs (by kernel_rfl) fun gh (eh:Kn 68 [(g,0),(a6,0+(x_v21:Int).toNat*1),(bj,bu+(x32:Int).toNat*3),(bw,0+(IntKind.i64.wrap (x_v21-1):Int).toNat*1),(cn,dk+(x42:Int).toNat*3)] ((tP 44 4 0)::(tI 43 x42)::(tS 38 m y.buses.length p)::(tI 36 x34.turn)::(tB 27 true)::(G3 x_v21 d x_v20 f x_v11 a_broken broken c_broken)) gh)=>?_
         refine DZ [20,21,22,23] [23,22,21,20,19,18,17,16,15,14,13,12,11,10,9,8,7,6,5,4,3,2,1,0] [48,7,5,6,2,1] ((tB 48 (decide (x34.turn<x44.turn)))::(G3 x_v21 d x_v20 f x_v11 a_broken broken c_broken)) (fun _ _ _ _ _ h=>h) eh (A7.peek (A7.peek bs.plOk bs 0 1 rfl rfl ak [.int .i64 x32] (ar _)) bs 0 3 rfl rfl bo [.int .i64 x42] (b3 _)) (by kernel_rfl) (by rfl) (by kernel_rfl) fun he ej=>?_
         refine AE (by kernel_rfl) ?_
         obtain rfl:=XZ ac
         exact XY _ ⟨_,rfl,(ej.keep [7,5,6,2,1,48] (by rfl)).cut 1 (by kernel_rfl),bs.cutPl 1 (by kernel_rfl),Ac.le_refl _⟩
        ·
         rw [bc,XV] at ac
         have ek:Kn 68 [(g,0)] ((tB 27 false)::(G3 x_v21 d x_v20 f x_v11 a_broken broken c_broken)) dl:=(cv.setB 27 false (by rfl) bc).kp
         refine Dr [3,4,5,6,7,8,9,10,11,12,13,14,15,16,17,18,19,20,21,22,23] (dn 23) ((tB 48 false)::(G3 x_v21 d x_v20 f x_v11 a_broken broken c_broken)) ek ai fun hf el=>?_
         refine AE (by kernel_rfl) ?_
         obtain rfl:=XZ ac
         exact XY _ ⟨_,rfl,el.kp,ai,Ac.le_refl _⟩
       ·
        rintro _ hz ⟨ch,ah,rfl,b5,av,ca⟩
        replace z:=z.mono ca
        refine wC (dj) b5 (fun bz=>?_) (fun bz=>?_)
        ·
         rw [Bc bz] at q
         refine wp_skip (XT (wp_block (Ax (by kernel_rfl) ?_)))
         replace av:=av.drew
         refine A3 [] [(g,0)] [⟨Hu s y u m p,some 25⟩] ?_
         refine Dr [0,1,2,3,4,5,6,7] (dn 7) ((tI 58 (IntKind.i64.wrap (x_v21-1)))::(tS 56 d x_v20.length f)::(Pt x_v21 d x_v20 f x_v11 a_broken broken c_broken)) b5 av fun hg em=>?_
         obtain⟨x59,ex59,q⟩:=Ap q
         obtain⟨c7,dd,f7⟩:=Ak ex59
         have ff:=AL c7 dd
         obtain⟨gw,fz,d0⟩:=Ba (sz:=1) rfl z f7
         obtain rfl:=fz
         obtain⟨ad,bb⟩:=AZ av (i:=0) rfl (b0:=0+(IntKind.i64.wrap (x_v21-1):Int).toNat*1) (Nat.lt_of_lt_of_le (Nat.lt_add_of_pos_right (by decide)) (AB (sz:=1) rfl z ff))
         have a1:=av.addPlc (b:=ad) (o:=0+(IntKind.i64.wrap (x_v21-1):Int).toNat*1) (cs:=[]) (fun j c hj=>by simp at hj) rfl (by kernel_rfl) (by kernel_rfl)
         have bp:∀ (e:AG) k c,([.int .i64 x59]:List SC)[k]? = some c→(l)[0+(IntKind.i64.wrap (x_v21-1):Int).toNat*1+k]? = some (c.den e):=fun e k c hk=>d0 k _ (Am hk)
         refine AA 8 (IntKind.i64.wrap (x_v21-1)) [.int .i64 x59] (fun _ _ _ _ _ h=>h) rfl rfl (rfl) rfl (by decide) (by kernel_rfl) (by kernel_rfl) em av.plOk (by rfl) (by rfl) (by rfl) bb (by rfl) c7 dd (by kernel_rfl) fun gi (en:Kn 68 [(g,0),(ad,0+(IntKind.i64.wrap (x_v21-1):Int).toNat*1)] ((tP 59 1 0)::(tI 58 (IntKind.i64.wrap (x_v21-1)))::(tS 56 d x_v20.length f)::(Pt x_v21 d x_v20 f x_v11 a_broken broken c_broken)) gi)=>?_
         refine DZ [9,10,11] [11,10,9,8,7,6,5,4,3,2,1,0] [62,61,60,55,53,52,51,7,5,6,2,1] ((tI 62 x_v21)::(tS 61 d x_v20.length f)::(tI 60 x59)::(Pt x_v21 d x_v20 f x_v11 a_broken broken c_broken)) (fun _ _ _ _ _ h=>h) en (A7.peek a1.plOk a1 0 1 rfl rfl bb [.int .i64 x59] (bp _)) (by kernel_rfl) (by rfl) (by kernel_rfl) fun hl eo=>?_
         obtain⟨x63,ex63,q⟩:=Ap q
         obtain⟨c8,de,f8⟩:=Ak ex63
         have fg:=AL c8 de
         obtain⟨gx,f0,d2⟩:=Ba (sz:=1) rfl z f8
         obtain rfl:=f0
         obtain⟨ae,bx⟩:=AZ a1 (i:=0) rfl (b0:=0+(x_v21:Int).toNat*1) (Nat.lt_of_lt_of_le (Nat.lt_add_of_pos_right (by decide)) (AB (sz:=1) rfl z fg))
         have al:=a1.addPlc (b:=ae) (o:=0+(x_v21:Int).toNat*1) (cs:=[]) (fun j c hj=>by simp at hj) rfl (by kernel_rfl) (by kernel_rfl)
         have cu:∀ (e:AG) k c,([.int .i64 x63]:List SC)[k]? = some c→(l)[0+(x_v21:Int).toNat*1+k]? = some (c.den e):=fun e k c hk=>d2 k _ (Am hk)
         refine AA 12 (x_v21) [.int .i64 x63] (fun _ _ _ _ _ h=>h) rfl rfl (rfl) rfl (by decide) (by kernel_rfl) (by kernel_rfl) eo (A7.peek a1.plOk a1 0 1 rfl rfl bb [.int .i64 x59] (bp _)) (by rfl) (by rfl) (by rfl) bx (by rfl) c8 de (by kernel_rfl) fun gj (ep:Kn 68 [(g,0),(ad,0+(IntKind.i64.wrap (x_v21-1):Int).toNat*1),(ae,0+(x_v21:Int).toNat*1)] ((tP 63 2 0)::(tI 62 x_v21)::(tS 61 d x_v20.length f)::(tI 60 x59)::(Pt x_v21 d x_v20 f x_v11 a_broken broken c_broken)) gj)=>?_
         refine DZ [13] [13,12,11,10,9,8,7,6,5,4,3,2,1,0] [64,60,55,53,52,51,7,5,6,2,1] ((tI 64 x63)::(tI 60 x59)::(Pt x_v21 d x_v20 f x_v11 a_broken broken c_broken)) (fun _ _ _ _ _ h=>h) ep (A7.peek (A7.peek al.plOk al 0 1 rfl rfl bb [.int .i64 x59] (bp _)) al 0 2 rfl rfl bx [.int .i64 x63] (cu _)) (by kernel_rfl) (by rfl) (by kernel_rfl) fun hn er=>?_
         obtain⟨x65,ex65,q⟩:=Ap q
         obtain⟨c9,df,f9⟩:=Ak ex65
         have b8:=AL c9 df
         obtain⟨gy,f1,d3⟩:=Ba (sz:=1) rfl z f9
         obtain rfl:=f1
         obtain⟨ag,cr⟩:=AZ al (i:=0) rfl (b0:=0+(x_v21:Int).toNat*1) (Nat.lt_of_lt_of_le (Nat.lt_add_of_pos_right (by decide)) (AB (sz:=1) rfl z b8))
         have fl:=al.addPlc (b:=ag) (o:=0+(x_v21:Int).toNat*1) (cs:=[]) (fun j c hj=>by simp at hj) rfl (by kernel_rfl) (by kernel_rfl)
         have g0:∀ (e:AG) k c,([.int .i64 x65]:List SC)[k]? = some c→(l)[0+(x_v21:Int).toNat*1+k]? = some (c.den e):=fun e k c hk=>d3 k _ (Am hk)
         refine AA 14 (x_v21) [.int .i64 x65] (fun _ _ _ _ _ h=>h) rfl rfl (rfl) rfl (by decide) (by kernel_rfl) (by kernel_rfl) er (A7.peek (A7.peek al.plOk al 0 1 rfl rfl bb [.int .i64 x59] (bp _)) al 0 2 rfl rfl bx [.int .i64 x63] (cu _)) (by rfl) (by rfl) (by rfl) cr (by rfl) c9 df (by kernel_rfl) fun dm (es:Kn 68 [(g,0),(ad,0+(IntKind.i64.wrap (x_v21-1):Int).toNat*1),(ae,0+(x_v21:Int).toNat*1),(ag,0+(x_v21:Int).toNat*1)] ((tP 65 3 0)::(tI 64 x63)::(tI 60 x59)::(Pt x_v21 d x_v20 f x_v11 a_broken broken c_broken)) dm)=>?_
         obtain⟨af,dq,q⟩:=Ap q
         obtain⟨g3,g5,dh⟩:=CK dq
         refine EZ 15 rfl (by kernel_rfl) (by decide) (rfl) (by kernel_rfl) fun K hK=>?_
         refine BS 0 3 0 (0+(x_v21:Int).toNat*1) (.c (.int .i64 x59)) es fl rfl rfl (by rfl) (by rfl) rfl rfl cr rfl (by kernel_rfl) (AB (sz:=1) rfl z b8) fun gn et fm=>?_
         have bq:Af ah af (l.take (0+(x_v21:Int).toNat*1+0)++([.int .i64 x59]:List Value)++l.drop (0+(x_v21:Int).toNat*1+0+1)):=by rw [dh]; exact Eu (sz:=1) rfl z b8 (Ad:rep ah (x59:Int) _)
         have c3:x_v20.length=af.length:=by rw [dh]; simp
         have eu:Kn 68 [(g,0),(ad,0+(IntKind.i64.wrap (x_v21-1):Int).toNat*1),(ae,0+(x_v21:Int).toNat*1),(ag,0+(x_v21:Int).toNat*1)] [(65,.one (.c (.ptr 3 0))),(64,.one (.c (.int .i64 x63))),(60,.one (.c (.int .i64 x59))),(55,.one (.c (.int .i64 (IntKind.i64.wrap (x_v21-1))))),(53,.one (.c (.slice d af.length f))),(52,.one (.c (.int .i64 x_v21))),(51,.one (.c (.slice d af.length f))),(7,.one (.c (.int .i64 x_v21))),(5,.one (.c (.slice d af.length f))),(6,.one (.c (.int .i64 x_v11))),(2,.one (.c (.ptr 0 0))),(1,.one (.c (.slice a_broken broken.length c_broken)))] dm:=by rw [← c3]; exact et
         have cb:Aj ⟨w,h,A9⟩ ah [(g,0),(ad,0+(IntKind.i64.wrap (x_v21-1):Int).toNat*1),(ae,0+(x_v21:Int).toNat*1),(ag,0+(x_v21:Int).toNat*1)] [⟨[.slice s y.room.length u,.slice m y.buses.length p,.int .i64 y.broken],some 25⟩,⟨[],none⟩,⟨[],none⟩,⟨[],none⟩] [⟨d,af.length,f,3,1,l.take (0+(x_v21:Int).toNat*1+0)++([.int .i64 x59]:List Value)++l.drop (0+(x_v21:Int).toNat*1+0+1),0⟩,⟨ap,1,1,3,1,([.int .i64 x_v11]:List Value),0⟩] gn:=by rw [← c3]; exact fm
         refine hK _ _ ?_
         refine A3 [] [(g,0),(ad,0+(IntKind.i64.wrap (x_v21-1):Int).toNat*1),(ae,0+(x_v21:Int).toNat*1),(ag,0+(x_v21:Int).toNat*1)] [⟨Hu s y u m p,some 25⟩,⟨[],none⟩,⟨[],none⟩,⟨[],none⟩] ?_
         obtain⟨x66,ex66,q⟩:=Ap q
         obtain⟨da,dg,ga⟩:=Ak ex66
         have b9:=AL da dg
         obtain⟨gz,f2,d4⟩:=Ba (sz:=1) rfl bq ga
         obtain rfl:=f2
         obtain⟨a7,ct⟩:=AZ cb (i:=0) rfl (b0:=0+(IntKind.i64.wrap (x_v21-1):Int).toNat*1) (Nat.lt_of_lt_of_le (Nat.lt_add_of_pos_right (by decide)) (AB (sz:=1) rfl bq b9))
         have fn:=cb.addPlc (b:=a7) (o:=0+(IntKind.i64.wrap (x_v21-1):Int).toNat*1) (cs:=[]) (fun j c hj=>by simp at hj) rfl (by kernel_rfl) (by kernel_rfl)
         have g1:∀ (e:AG) k c,([.int .i64 x66]:List SC)[k]? = some c→((l.take (0+(x_v21:Int).toNat*1+0)++([.int .i64 x59]:List Value)++l.drop (0+(x_v21:Int).toNat*1+0+1)))[0+(IntKind.i64.wrap (x_v21-1):Int).toNat*1+k]? = some (c.den e):=fun e k c hk=>d4 k _ (Am hk)
         refine AA 16 (IntKind.i64.wrap (x_v21-1)) [.int .i64 x66] (fun _ _ _ _ _ h=>h) rfl rfl (rfl) rfl (by decide) (by kernel_rfl) (by kernel_rfl) eu cb.plOk (by rfl) (by rfl) (by rfl) ct (by rfl) da dg (by kernel_rfl) fun ci (ev:Kn 68 [(g,0),(ad,0+(IntKind.i64.wrap (x_v21-1):Int).toNat*1),(ae,0+(x_v21:Int).toNat*1),(ag,0+(x_v21:Int).toNat*1),(a7,0+(IntKind.i64.wrap (x_v21-1):Int).toNat*1)] ((tP 66 4 0)::(tP 65 3 0)::(tI 64 x63)::(tI 60 x59)::(tI 55 (IntKind.i64.wrap (x_v21-1)))::(tS 53 d af.length f)::(tI 52 x_v21)::(tS 51 d af.length f)::(tI 7 x_v21)::(tS 5 d af.length f)::(tI 6 x_v11)::(ED a_broken broken c_broken)) ci)=>?_
         obtain⟨aj,dr,q⟩:=Ap q
         obtain⟨g4,g6,di⟩:=CK dr
         refine EZ 17 rfl (by kernel_rfl) (by decide) (rfl) (by kernel_rfl) fun K hK=>?_
         refine BS 0 4 0 (0+(IntKind.i64.wrap (x_v21-1):Int).toNat*1) (.c (.int .i64 x63)) ev fn rfl rfl (by rfl) (by rfl) rfl rfl ct rfl (by kernel_rfl) (AB (sz:=1) rfl bq b9) fun go ew fo=>?_
         have d5:Af ah aj ((l.take (0+(x_v21:Int).toNat*1+0)++([.int .i64 x59]:List Value)++l.drop (0+(x_v21:Int).toNat*1+0+1)).take (0+(IntKind.i64.wrap (x_v21-1):Int).toNat*1+0)++([.int .i64 x63]:List Value)++(l.take (0+(x_v21:Int).toNat*1+0)++([.int .i64 x59]:List Value)++l.drop (0+(x_v21:Int).toNat*1+0+1)).drop (0+(IntKind.i64.wrap (x_v21-1):Int).toNat*1+0+1)):=by rw [di]; exact Eu (sz:=1) rfl bq b9 (Ad:rep ah (x63:Int) _)
         have c4:af.length=aj.length:=by rw [di]; simp
         have ex:Kn 68 [(g,0),(ad,0+(IntKind.i64.wrap (x_v21-1):Int).toNat*1),(ae,0+(x_v21:Int).toNat*1),(ag,0+(x_v21:Int).toNat*1),(a7,0+(IntKind.i64.wrap (x_v21-1):Int).toNat*1)] [(66,.one (.c (.ptr 4 0))),(65,.one (.c (.ptr 3 0))),(64,.one (.c (.int .i64 x63))),(60,.one (.c (.int .i64 x59))),(55,.one (.c (.int .i64 (IntKind.i64.wrap (x_v21-1))))),(53,.one (.c (.slice d aj.length f))),(52,.one (.c (.int .i64 x_v21))),(51,.one (.c (.slice d aj.length f))),(7,.one (.c (.int .i64 x_v21))),(5,.one (.c (.slice d aj.length f))),(6,.one (.c (.int .i64 x_v11))),(2,.one (.c (.ptr 0 0))),(1,.one (.c (.slice a_broken broken.length c_broken)))] ci:=by rw [← c4]; exact ew
         have c0:Aj ⟨w,h,A9⟩ ah [(g,0),(ad,0+(IntKind.i64.wrap (x_v21-1):Int).toNat*1),(ae,0+(x_v21:Int).toNat*1),(ag,0+(x_v21:Int).toNat*1),(a7,0+(IntKind.i64.wrap (x_v21-1):Int).toNat*1)] [⟨[.slice s y.room.length u,.slice m y.buses.length p,.int .i64 y.broken],some 25⟩,⟨[],none⟩,⟨[],none⟩,⟨[],none⟩,⟨[],none⟩] [⟨d,aj.length,f,3,1,(l.take (0+(x_v21:Int).toNat*1+0)++([.int .i64 x59]:List Value)++l.drop (0+(x_v21:Int).toNat*1+0+1)).take (0+(IntKind.i64.wrap (x_v21-1):Int).toNat*1+0)++([.int .i64 x63]:List Value)++(l.take (0+(x_v21:Int).toNat*1+0)++([.int .i64 x59]:List Value)++l.drop (0+(x_v21:Int).toNat*1+0+1)).drop (0+(IntKind.i64.wrap (x_v21-1):Int).toNat*1+0+1),0⟩,⟨ap,1,1,3,1,([.int .i64 x_v11]:List Value),0⟩] go:=by rw [← c4]; exact fo
         refine hK _ _ ?_
         have ey:Kn 68 [(g,0),(ad,0+(IntKind.i64.wrap (x_v21-1):Int).toNat*1),(ae,0+(x_v21:Int).toNat*1),(ag,0+(x_v21:Int).toNat*1),(a7,0+(IntKind.i64.wrap (x_v21-1):Int).toNat*1)] ((tI 7 x_v21)::(tS 5 d aj.length f)::(tI 6 x_v11)::(ED a_broken broken c_broken)) ci:=ex.kp
         refine MO (by kernel_rfl) (Aa (Rk 0 3 ((tI 7 (IntKind.i64.wrap (x_v21-1)))::(tS 5 d aj.length f)::(tI 6 x_v11)::(ED a_broken broken c_broken)) ey c0 fun ho ez=>?_))
         refine wf ?_
         exact XY cg ⟨Nat.lt_succ_self _,XY aj ⟨IntKind.i64.wrap (x_v21-1),d,f,(l.take (0+(x_v21:Int).toNat*1+0)++([.int .i64 x59]:List Value)++l.drop (0+(x_v21:Int).toNat*1+0+1)).take (0+(IntKind.i64.wrap (x_v21-1):Int).toNat*1+0)++([.int .i64 x63]:List Value)++(l.take (0+(x_v21:Int).toNat*1+0)++([.int .i64 x59]:List Value)++l.drop (0+(x_v21:Int).toNat*1+0+1)).drop (0+(IntKind.i64.wrap (x_v21-1):Int).toNat*1+0+1),_,_,rfl,(ez.keep [7,5,6,2,1] (by rfl)).cut 1 (by kernel_rfl),c0.cutPl 1 (by kernel_rfl),XU ax ca,d5,q⟩⟩
        ·
         rw [Bd bz] at q
         refine wp_exit ?_
         obtain rfl:=XZ q
         exact XY d ⟨f,l,_,_,rfl,b5.kp,av,XU ax ca,z⟩
     ·
      rintro _ h0 ⟨a5,a8,bv,cl,bn,rfl,e0,c1,fi,d7⟩
      refine Aa (Rk 0 3 ((tI 6 (IntKind.i64.wrap (x_v11+1)))::(tS 5 a5 a4.length a8)::(ED a_broken broken c_broken)) e0 c1 fun hp e1=>?_)
      refine wf ?_
      exact XY a3 ⟨Nat.lt_succ_self _,XY a4 ⟨IntKind.i64.wrap (x_v11+1),a5,a8,bv,_,_,rfl,e1.kp,c1.cutRw 1,XU ay (XU az fi),d7,x⟩⟩
   ·
    rw [b1,XV] at x
    refine wp_exit ?_
    obtain rfl:=XZ x
    exact XY aa ⟨ab,aw,_,_,rfl,b6.kp,bg,ay,bd⟩
 ·
  rintro _ gp ⟨ao,aq,bh,cj,bl,rfl,e2,cc,g2,b4⟩
  refine XT (Aa (Rk 0 2 [tS 4 ao an.length aq] e2 cc fun hq e3=>?_))
  refine wf (wp_ret ?_)
  obtain⟨cq,fj,fu,cd⟩:=cc.settle (i:=0) rfl
  replace b4:=b4.mono fj
  replace cd:Aj ⟨w,h,A9⟩ cq [(g,0)] [⟨Hu s y u m p,some 25⟩] [⟨ao,an.length,aq,3,1,bh,(bh:List Value).length⟩] gp:=cd
  have ft:At cq ao aq an:=⟨_,b4,fu,cc.rowCap (i:=0) rfl⟩
  obtain rfl:=XZ H
  exact rt (.one (.c (.slice ao an.length aq))) e3 cd ⟨_,_,rfl,ft⟩
abbrev Ig (q s u:Nat) (x_v12:Int):AG:=[(q,0),(s,u+(x_v12:Int).toNat*1)]
abbrev Eg (ad:Option Addr) (y:Ag) (af:Nat) (ae:Option Addr) (ag:Nat):List SC:=[.slice ad y.room.length af,.slice ae y.buses.length ag,.int .i64 y.broken]
abbrev S0 (q s u:Nat) (x_v12:Int) (ab ac:Nat) (x_v22:Int) (ap:Nat):AG:=[(q,0),(s,u+(x_v12:Int).toNat*1),(ab,ac+(x_v22:Int).toNat*1),(ap,0+(x_v12:Int).toNat*1)]
abbrev Rt (q s u:Nat) (x_v12:Int) (ab ac:Nat) (x_v22:Int) (ap ay:Nat):AG:=[(q,0),(s,u+(x_v12:Int).toNat*1),(ab,ac+(x_v22:Int).toNat*1),(ap,0+(x_v12:Int).toNat*1),(ay,0+(x_v12:Int).toNat*1)]
abbrev Ru (q s u:Nat) (x_v12:Int) (ab ac:Nat) (x_v22:Int) (a9 bg:Nat) (x48:Int) (bl bs:Nat) (x30:Int):AG:=[(q,0),(s,u+(x_v12:Int).toNat*1),(ab,ac+(x_v22:Int).toNat*1),(a9,bg+(x48:Int).toNat*1),(bl,bs+(x30:Int).toNat*1)]
abbrev DU (x_v22 x30 x_v12:Int) (m:Option Addr) (x_v20:List (List Int)) (p:Nat) (d:Option Addr) (x18:List Int) (l:Nat) (z:Option Addr) (x_v21:List Int) (aa:Nat) (a_lanes:Option Addr) (lanes:List Int) (c_lanes:Nat) (a_order:Option Addr) (order:List Int) (c_order:Nat):TM:=[tI 14 x_v22,tI 13 x30,tI 12 x_v12,tS 11 m x_v20.length p,tS 10 d x18.length l,tS 9 z x_v21.length aa,tS 1 a_lanes lanes.length c_lanes,tS 2 a_order order.length c_order]
abbrev Df (a_lanes:Option Addr) (lanes:List Int) (c_lanes:Nat) (a_order:Option Addr) (order:List Int) (c_order:Nat):TM:=[tS 1 a_lanes lanes.length c_lanes,tS 2 a_order order.length c_order]
abbrev Pu (x_v12:Int) (m:Option Addr) (x_v20:List (List Int)) (p:Nat) (x48 x_v22 x30:Int) (d:Option Addr) (x18:List Int) (l:Nat) (ak:Option Addr) (ai:((List Int)×Bool)) (al:Nat) (a_lanes:Option Addr) (lanes:List Int) (c_lanes:Nat) (a_order:Option Addr) (order:List Int) (c_order:Nat):TM:=(tI 66 x_v12)::(tS 65 m x_v20.length p)::(tI 15 x48)::(tI 14 x_v22)::(tI 13 x30)::(tI 12 x_v12)::(tS 11 m x_v20.length p)::(tS 10 d x18.length l)::(tS 9 ak ai.1.length al)::(Df a_lanes lanes c_lanes a_order order c_order)
set_option maxRecDepth 100000 in
set_option maxHeartbeats 4000000 in
theorem Oi (n:Nat) {h:Ac} {w:World} (hh:Db h w) (y:Ag) {cs_y:List Value} (hx_y:rep h y cs_y) (lanes:List Int) {a_lanes:Option Addr} {c_lanes:Nat} (hr_lanes:At h a_lanes c_lanes lanes) (order:List Int) {a_order:Option Addr} {c_order:Nat} (hr_order:At h a_order c_order order) (broken:List Int) {a_broken:Option Addr} {c_broken:Nat} (hr_broken:At h a_broken c_broken broken) {r:List (List Int)} (H:Fu n y lanes order broken=some r) :
  Calls Tryz.prog 34 #[.agg cs_y.toArray,.slice a_lanes lanes.length c_lanes,.slice a_order order.length c_order,.slice a_broken broken.length c_broken] w (Dd (fun h v=>∃ a c,v=.slice a r.length c∧At h a c r) h w):=by
 obtain⟨_,_,rfl,⟨ad,af,rfl,be⟩,⟨_,_,rfl,⟨ae,ag,rfl,bf⟩,rfl⟩⟩:=hx_y
 refine enter 84 [.agg (Eg ad y af ae ag),.c (.slice a_lanes lanes.length c_lanes),.c (.slice a_order order.length c_order),.c (.slice a_broken broken.length c_broken)] Tryz.func34 rfl rfl rfl rfl fun t hk=>?_
 have hm:=Aj.begin h w hh
 unfold Fu at H
 refine XT (Aa (wl fun K hK=>?_))
 refine wb (.agg (Eg ad y af ae ag)) hk hm fun q jl li (f5:Kn 84 [(q,0)] [tP 4 0 0,tA 0 (Eg ad y af ae ag),tS 1 a_lanes lanes.length c_lanes,tS 2 a_order order.length c_order,tS 3 a_broken broken.length c_broken] jl) cj=>hK _ _ ?_
 refine Rk 1 1 [tP 4 0 0,tS 1 a_lanes lanes.length c_lanes,tS 2 a_order order.length c_order,tS 3 a_broken broken.length c_broken] f5 cj fun ka f8=>?_
 refine wf (XT (Aa (Rk 0 1 [tS 9 none 0 0,tP 4 0 0,tS 1 a_lanes lanes.length c_lanes,tS 2 a_order order.length c_order,tS 3 a_broken broken.length c_broken] f8 cj fun kb gb=>?_)))
 refine wf (XT (Aa (Rk 0 2 ((tS 17 a_broken broken.length c_broken)::(tA 16 (Eg ad y af ae ag))::(tS 9 none 0 0)::(Df a_lanes lanes c_lanes a_order order c_order)) gb cj fun ke gi=>?_)))
 obtain⟨x18,ex18,H⟩:=Ap H
 refine wl fun K hK=>?_
 refine wc [.agg (Eg ad y af ae ag),.c (.slice a_broken broken.length c_broken)] gi cj (PR n cj.has y ((Ab (Ae be) (Ab (Ae bf) Ad)):rep h y _) broken hr_broken ex18) fun k4 b3 k9 fg c0 dk=>?_
 replace be:=be.mono c0
 replace bf:=bf.mono c0
 replace hr_lanes:=hr_lanes.mono c0
 replace hr_order:=hr_order.mono c0
 obtain⟨d,l,rfl,bw⟩:=fg
 refine⟨.one (.c (.slice d x18.length l)),rfl,fun je (gz:Kn 84 [(q,0)] ((tS 18 d x18.length l)::(tS 17 a_broken broken.length c_broken)::(tA 16 (Eg ad y af ae ag))::(tS 9 none 0 0)::(Df a_lanes lanes c_lanes a_order order c_order)) je)=>hK _ _ ?_⟩
 refine Rk 3 1 ((tS 10 d x18.length l)::(tS 9 none 0 0)::(Df a_lanes lanes c_lanes a_order order c_order)) gz dk fun kq g2=>?_
 refine wf (XT (Aa (Rk 0 2 ((tI 20 ((x18.length:Nat):Int))::(tS 10 d x18.length l)::(tS 9 none 0 0)::(Df a_lanes lanes c_lanes a_order order c_order)) g2 dk fun kr g5=>?_)))
 obtain⟨x21,ex21,H⟩:=Ap H
 obtain⟨ie,il,e5⟩:=PF ex21
 refine wl fun K hK=>?_
 refine HH 22 1 24 [.slice none 0 0] (((x18.length:Nat):Int)) g5 dk rfl rfl (by decide) (by rfl) (by kernel_rfl) (by kernel_rfl) (by rfl) ie il (by decide) fun bk jk d5 (eo:Kn 84 [(q,0)] [(21,.one (.c (.slice bk ((((x18.length:Nat):Int):Int).toNat) ((((x18.length:Nat):Int):Int).toNat)))),(20,.one (.c (.int .i64 ((x18.length:Nat):Int)))),(10,.one (.c (.slice d x18.length l))),(9,.one (.c (.slice none 0 0))),(1,.one (.c (.slice a_lanes lanes.length c_lanes))),(2,.one (.c (.slice a_order order.length c_order)))] jk) (h7:Aj ⟨w,h,A9⟩ b3 [(q,0)] [⟨[.slice ad y.room.length af,.slice ae y.buses.length ag,.int .i64 y.broken],some 25⟩] [⟨bk,(((x18.length:Nat):Int):Int).toNat,(((x18.length:Nat):Int):Int).toNat,22,1,List.flatten (List.replicate (((x18.length:Nat):Int):Int).toNat ([.slice none 0 0]:List Value)),0⟩] d5)=>?_
 have hx:(((x18.length:Nat):Int):Int).toNat=x21.length:=by rw [e5]; simp
 obtain⟨bz,f2,cn⟩:=D6.make (g:=J5) (pr:=UE) (rw:=[]) (x:=(([]:List Int):List Int)) 3 1 rfl rfl e5 h7
 rw [hx] at eo
 replace cn:Aj ⟨w,h,A9⟩ b3 [(q,0)] [⟨Eg ad y af ae ag,some 25⟩] (⟨bk,x21.length,x21.length,22,1,AT J5 bz x21,0⟩::bz) d5:=cn
 refine hK _ _ ?_
 refine Rk 3 1 ((tS 11 bk x21.length x21.length)::(tS 10 d x18.length l)::(tS 9 none 0 0)::(Df a_lanes lanes c_lanes a_order order c_order)) eo cn fun k0 hp=>?_
 refine wf (XT (XT (Aa (Rk 0 1 ((tI 12 0)::(tS 11 bk x21.length x21.length)::(tS 10 d x18.length l)::(tS 9 none 0 0)::(Df a_lanes lanes c_lanes a_order order c_order)) hp cn fun k1 hq=>?_))))
 refine wf ?_
 have h8:Aj ⟨w,h,A9⟩ b3 [(q,0)] [⟨Eg ad y af ae ag,some 25⟩] (⟨bk,x21.length,x21.length,22,1,AT J5 bz x21,0⟩::⟨none,0,0,3,1,[],0⟩::bz) d5:=Aj.famIn [⟨bk,x21.length,x21.length,22,1,AT J5 bz x21,0⟩] (cn.nilRow 3 1)
 have fy:Af b3 ([]:List Int) []:=Af.nil
 obtain⟨ao,d8,H⟩:=Ap H
 refine Aq (fun a' w'=>∃ (a8:Option Addr)(ba:Nat)(bq:List BH)(b9:Option Addr)(cc:Nat)(b6:List Value)(ce:Nat)(d3:Array Value)(cf:Ac),a' = ⟨d3,[]⟩∧Kn 84 [(q,0)] [tS 11 a8 ao.1.length ba] d3∧Aj ⟨w,h,A9⟩ cf [(q,0)] [⟨Eg ad y af ae ag,some 25⟩] (⟨a8,ao.1.length,ba,22,1,AT J5 bq ao.1,0⟩::⟨b9,ao.2.length,cc,3,1,b6,ce⟩::bq) w'∧Ac.le b3 cf∧D6 UE 3 1 cf bq ao.1∧Af cf ao.2 b6) ?_ ?_
 ·
  refine wp_block ?_
  refine Au (fun i6 a' w'=>∃ (x_v10:List (List Int))(x_v11:List Int)(x_v12:Int)(a0:Option Addr)(a2:Nat)(b1:List BH)(a1:Option Addr)(a3:Nat)(cq:List Value)(cx:Nat)(d4:Array Value)(bu:Ac),a' = ⟨d4,[]⟩∧Kn 84 [(q,0)] ((tI 12 x_v12)::(tS 11 a0 x_v10.length a2)::(tS 10 d x18.length l)::(tS 9 a1 x_v11.length a3)::(Df a_lanes lanes c_lanes a_order order c_order)) d4∧Aj ⟨w,h,A9⟩ bu [(q,0)] [⟨Eg ad y af ae ag,some 25⟩] (⟨a0,x_v10.length,a2,22,1,AT J5 b1 x_v10,0⟩::⟨a1,x_v11.length,a3,3,1,cq,cx⟩::b1) w'∧Ac.le b3 bu∧D6 UE 3 1 bu b1 x_v10∧Af bu x_v11 cq∧C5 i6 lanes order x18 x_v10 x_v11 x_v12=some ao) n ?_ ?_
  ·
   exact XY x21 ⟨([]:List Int),0,bk,x21.length,bz,none,0,[],0,_,_,rfl,hq.kp,h8,Ac.le_refl _,f2,fy,d8⟩
  ·
   rintro c5 _ lh ⟨x_v10,x_v11,x_v12,a0,a2,b1,a1,a3,cq,cx,d4,bu,rfl,hr,c3,bv,eh,ef,ar⟩
   clear d8
   obtain _ | c5:=c5
   ·
    rw [C5] at ar; cases ar
   rw [C5] at ar
   replace be:=be.mono bv
   replace bf:=bf.mono bv
   replace hr_lanes:=hr_lanes.mono bv
   replace hr_order:=hr_order.mono bv
   replace bw:=bw.mono bv
   refine XT (XT (Aa (Rk 0 4 ((tB 25 (decide (x_v12<((x18.length:Nat):Int))))::(tI 12 x_v12)::(tS 11 a0 x_v10.length a2)::(tS 10 d x18.length l)::(tS 9 a1 x_v11.length a3)::(Df a_lanes lanes c_lanes a_order order c_order)) hr c3 fun k2 dg=>?_)))
   refine wf (wC (decide (x_v12<((x18.length:Nat):Int))) dg (fun c8=>?_) (fun c8=>?_))
   ·
    rw [c8,XW] at ar
    refine wp_skip (XT (wp_block (XT (Aa (Rk 0 2 ((tI 29 x_v12)::(tS 28 d x18.length l)::(tI 12 x_v12)::(tS 11 a0 x_v10.length a2)::(tS 10 d x18.length l)::(tS 9 a1 x_v11.length a3)::(Df a_lanes lanes c_lanes a_order order c_order)) dg c3 fun k3 hs=>?_)))))
    obtain⟨x30,ex30,ar⟩:=Ap ar
    obtain⟨ig,im,i4⟩:=Ak ex30
    obtain⟨s,u,jv,fn,iz,fz⟩:=bw.get (by decide) i4
    obtain rfl:=iz
    have ds:=c3.addPlc (b:=s) (o:=u+(x_v12:Int).toNat*1) (cs:=[.int .i64 x30]) (fun j c hj=>fz j _ (Am hj)) rfl (by kernel_rfl) (by kernel_rfl)
    refine AC 2 (x_v12) rfl rfl (rfl) rfl (by decide) hs (by rfl) (by rfl) (by rfl) fn (by rfl) ig im (by kernel_rfl) fun jm (ht:Kn 84 (Ig q s u x_v12) ((tP 30 1 0)::(tI 29 x_v12)::(tS 28 d x18.length l)::(tI 12 x_v12)::(tS 11 a0 x_v10.length a2)::(tS 10 d x18.length l)::(tS 9 a1 x_v11.length a3)::(Df a_lanes lanes c_lanes a_order order c_order)) jm)=>?_
    refine Rk 3 2 ((tI 13 x30)::(tI 12 x_v12)::(tS 11 a0 x_v10.length a2)::(tS 10 d x18.length l)::(tS 9 a1 x_v11.length a3)::(Df a_lanes lanes c_lanes a_order order c_order)) ht ds fun j8 f6=>?_
    refine wf (XT (XT (Aa (Rk 0 1 ((tI 14 0)::(tI 13 x30)::(tI 12 x_v12)::(tS 11 a0 x_v10.length a2)::(tS 10 d x18.length l)::(tS 9 a1 x_v11.length a3)::(Df a_lanes lanes c_lanes a_order order c_order)) f6 ds fun j9 f7=>?_))))
    refine wf ?_
    obtain⟨aj,d7,ar⟩:=Ap ar
    refine Aq (fun a' w'=>∃ (av:Option Addr)(aw:Nat)(bc:List BH)(bh:Option Addr)(bm:Nat)(bt:List Value)(cw:Nat)(dy:Array Value)(bd:Ac),a' = ⟨dy,[]⟩∧Kn 84 (Ig q s u x_v12) ((tI 13 x30)::(tI 12 x_v12)::(tS 11 av aj.1.length aw)::(tS 10 d x18.length l)::(tS 9 bh aj.2.length bm)::(Df a_lanes lanes c_lanes a_order order c_order)) dy∧Aj ⟨w,h,A9⟩ bd (Ig q s u x_v12) [⟨Eg ad y af ae ag,some 25⟩,⟨[.int .i64 x30],none⟩] (⟨av,aj.1.length,aw,22,1,AT J5 bc aj.1,0⟩::⟨bh,aj.2.length,bm,3,1,bt,cw⟩::bc) w'∧Ac.le bu bd∧D6 UE 3 1 bd bc aj.1∧Af bd aj.2 bt) ?_ ?_
    ·
     refine wp_block ?_
     refine Au (fun i5 a' w'=>∃ (x_v20:List (List Int))(x_v21:List Int)(x_v22:Int)(m:Option Addr)(p:Nat)(an:List BH)(z:Option Addr)(aa:Nat)(a7:List Value)(cd:Nat)(dz:Array Value)(b2:Ac),a' = ⟨dz,[]⟩∧Kn 84 (Ig q s u x_v12) (DU x_v22 x30 x_v12 m x_v20 p d x18 l z x_v21 aa a_lanes lanes c_lanes a_order order c_order) dz∧Aj ⟨w,h,A9⟩ b2 (Ig q s u x_v12) [⟨Eg ad y af ae ag,some 25⟩,⟨[.int .i64 x30],none⟩] (⟨m,x_v20.length,p,22,1,AT J5 an x_v20,0⟩::⟨z,x_v21.length,aa,3,1,a7,cd⟩::an) w'∧Ac.le bu b2∧D6 UE 3 1 b2 an x_v20∧Af b2 x_v21 a7∧Cj i5 lanes order x_v12 x30 x_v20 x_v21 x_v22=some aj) c5 ?_ ?_
     ·
      exact XY x_v10 ⟨x_v11,0,a0,a2,b1,a1,a3,cq,cx,_,_,rfl,f7.kp,ds,Ac.le_refl _,eh,ef,d7⟩
     ·
      rintro co _ k8 ⟨x_v20,x_v21,x_v22,m,p,an,z,aa,a7,cd,dz,b2,rfl,f9,ck,br,ax,a5,ah⟩
      clear d7
      obtain _ | co:=co
      ·
       rw [Cj] at ah; cases ah
      rw [Cj] at ah
      replace be:=be.mono br
      replace bf:=bf.mono br
      replace hr_lanes:=hr_lanes.mono br
      replace hr_order:=hr_order.mono br
      replace bw:=bw.mono br
      refine XT (XT ?_)
      obtain⟨e6,bx,ah⟩:=Ap ah
      refine Aq (fun a' w'=>∃ (d0:Array Value)(cy:Ac),a' = ⟨d0,[]⟩∧Kn 84 (Ig q s u x_v12) [tI 14 x_v22,tI 13 x30,tI 12 x_v12,tS 11 m x_v20.length p,tS 10 d x18.length l,tS 9 z x_v21.length aa,tS 1 a_lanes lanes.length c_lanes,tS 2 a_order order.length c_order,tB 43 e6] d0∧Aj ⟨w,h,A9⟩ cy (Ig q s u x_v12) [⟨Eg ad y af ae ag,some 25⟩,⟨[.int .i64 x30],none⟩] (⟨m,x_v20.length,p,22,1,AT J5 an x_v20,0⟩::⟨z,x_v21.length,aa,3,1,a7,cd⟩::an) w'∧Ac.le b2 cy) ?_ ?_
      ·
       refine Aa (Rk 0 5 ((tB 36 (decide (x_v22<((order.length:Nat):Int))))::(DU x_v22 x30 x_v12 m x_v20 p d x18 l z x_v21 aa a_lanes lanes c_lanes a_order order c_order)) f9 ck fun e8 ek=>?_)
       rcases Bool.eq_false_or_eq_true (decide (x_v22<((order.length:Nat):Int))) with ch | ch
       ·
        rw [ch,XW] at bx
        have ga:Kn 84 (Ig q s u x_v12) ((tB 36 true)::(DU x_v22 x30 x_v12 m x_v20 p d x18 l z x_v21 aa a_lanes lanes c_lanes a_order order c_order)) e8:=(ek.setB 36 true (by rfl) ch).kp
        refine Rk 5 2 ((tI 38 x_v22)::(tS 37 a_order order.length c_order)::(tB 36 true)::(DU x_v22 x30 x_v12 m x_v20 p d x18 l z x_v21 aa a_lanes lanes c_lanes a_order order c_order)) ga ck fun kc el=>?_
        obtain⟨x39,ex39,bx⟩:=Ap bx
        obtain⟨h9,ih,i0⟩:=Ak ex39
        obtain⟨d6,e7,jr,fj,iu,fp⟩:=hr_order.get (by decide) i0
        obtain rfl:=iu
        have es:=ck.addPlc (b:=d6) (o:=e7+(x_v22:Int).toNat*1) (cs:=[.int .i64 x39]) (fun j c hj=>fp j _ (Am hj)) rfl (by kernel_rfl) (by kernel_rfl)
        refine AC 7 (x_v22) rfl rfl (Al el (by kernel_rfl)) rfl (by decide) el (by rfl) (by rfl) (by rfl) fj (by rfl) h9 ih (by kernel_rfl) fun i7 (gc:Kn 84 [(q,0),(s,u+(x_v12:Int).toNat*1),(d6,e7+(x_v22:Int).toNat*1)] ((tP 39 2 0)::(tI 38 x_v22)::(tS 37 a_order order.length c_order)::(tB 36 true)::(DU x_v22 x30 x_v12 m x_v20 p d x18 l z x_v21 aa a_lanes lanes c_lanes a_order order c_order)) i7)=>?_
        refine Rk 8 4 ((tB 43 (x39 != x30))::(DU x_v22 x30 x_v12 m x_v20 p d x18 l z x_v21 aa a_lanes lanes c_lanes a_order order c_order)) gc es fun kd gd=>?_
        refine wf ?_
        obtain rfl:=XZ bx
        exact XY _ ⟨_,rfl,(gd.keep [14,13,12,11,10,9,1,2,43] (by rfl)).cut 2 (by kernel_rfl),es.cutPl 2 (by kernel_rfl),Ac.le_refl _⟩
       ·
        rw [ch,XV] at bx
        have gf:Kn 84 (Ig q s u x_v12) ((tB 36 false)::(DU x_v22 x30 x_v12 m x_v20 p d x18 l z x_v21 aa a_lanes lanes c_lanes a_order order c_order)) e8:=(ek.setB 36 false (by rfl) ch).kp
        refine Rk 5 7 ((tB 43 false)::(DU x_v22 x30 x_v12 m x_v20 p d x18 l z x_v21 aa a_lanes lanes c_lanes a_order order c_order)) gf ck fun kf gg=>?_
        refine wf ?_
        obtain rfl:=XZ bx
        exact XY _ ⟨_,rfl,gg.kp,ck,Ac.le_refl _⟩
      ·
       rintro _ jn ⟨d0,cy,rfl,de,di,a6⟩
       replace be:=be.mono a6
       replace bf:=bf.mono a6
       replace hr_lanes:=hr_lanes.mono a6
       replace hr_order:=hr_order.mono a6
       replace bw:=bw.mono a6
       replace ax:=ax.mono a6
       replace a5:=a5.mono a6
       refine wC (e6) de (fun c6=>?_) (fun c6=>?_)
       ·
        rw [Bc c6] at ah
        refine wp_skip (XT (wp_block (XT (Aa (Rk 0 2 ((tI 47 x_v22)::(tS 46 a_order order.length c_order)::(DU x_v22 x30 x_v12 m x_v20 p d x18 l z x_v21 aa a_lanes lanes c_lanes a_order order c_order)) de di fun kg gh=>?_)))))
        obtain⟨x48,ex48,ah⟩:=Ap ah
        obtain⟨ia,ii,i1⟩:=Ak ex48
        obtain⟨ab,ac,js,fk,iv,fq⟩:=hr_order.get (by decide) i1
        obtain rfl:=iv
        have b4:=di.addPlc (b:=ab) (o:=ac+(x_v22:Int).toNat*1) (cs:=[.int .i64 x48]) (fun j c hj=>fq j _ (Am hj)) rfl (by kernel_rfl) (by kernel_rfl)
        refine AC 2 (x_v22) rfl rfl (rfl) rfl (by decide) gh (by rfl) (by rfl) (by rfl) fk (by rfl) ia ii (by kernel_rfl) fun i8 (gj:Kn 84 [(q,0),(s,u+(x_v12:Int).toNat*1),(ab,ac+(x_v22:Int).toNat*1)] ((tP 48 2 0)::(tI 47 x_v22)::(tS 46 a_order order.length c_order)::(DU x_v22 x30 x_v12 m x_v20 p d x18 l z x_v21 aa a_lanes lanes c_lanes a_order order c_order)) i8)=>?_
        refine Rk 3 2 ((tI 15 x48)::(DU x_v22 x30 x_v12 m x_v20 p d x18 l z x_v21 aa a_lanes lanes c_lanes a_order order c_order)) gj b4 fun kh gk=>?_
        refine wf (XT ?_)
        obtain⟨ai,a4,ah⟩:=Ap ah
        refine Aq (fun a' w'=>∃ (ak:Option Addr)(al:Nat)(au:List Value)(bb:Nat)(d1:Array Value)(aq:Ac),a' = ⟨d1,[]⟩∧Kn 84 [(q,0),(s,u+(x_v12:Int).toNat*1),(ab,ac+(x_v22:Int).toNat*1)] [tI 15 x48,tI 14 x_v22,tI 13 x30,tI 12 x_v12,tS 11 m x_v20.length p,tS 10 d x18.length l,tS 9 ak ai.1.length al,tS 1 a_lanes lanes.length c_lanes,tS 2 a_order order.length c_order,tB 64 ai.2] d1∧Aj ⟨w,h,A9⟩ aq [(q,0),(s,u+(x_v12:Int).toNat*1),(ab,ac+(x_v22:Int).toNat*1)] [⟨Eg ad y af ae ag,some 25⟩,⟨[.int .i64 x30],none⟩,⟨[.int .i64 x48],none⟩] (⟨m,x_v20.length,p,22,1,AT J5 an x_v20,0⟩::⟨ak,ai.1.length,al,3,1,au,bb⟩::an) w'∧Ac.le cy aq∧Af aq ai.1 au) ?_ ?_
        ·
         refine Ax (by kernel_rfl) ?_
         replace b4:=b4.drew
         refine A3 [] [(q,0),(s,u+(x_v12:Int).toNat*1),(ab,ac+(x_v22:Int).toNat*1)] [⟨Eg ad y af ae ag,some 25⟩,⟨[.int .i64 x30],none⟩,⟨[.int .i64 x48],none⟩] ?_
         refine Dr [0,1] [1,0] ((tI 51 x48)::(tS 50 a_lanes lanes.length c_lanes)::(tI 15 x48)::(DU x_v22 x30 x_v12 m x_v20 p d x18 l z x_v21 aa a_lanes lanes c_lanes a_order order c_order)) gk b4 fun ki gl=>?_
         obtain⟨x52,ex52,a4⟩:=Ap a4
         obtain⟨ib,ij,i2⟩:=Ak ex52
         obtain⟨a9,bg,jt,fl,iw,fr⟩:=hr_lanes.get (by decide) i2
         obtain rfl:=iw
         have dj:=b4.addPlc (b:=a9) (o:=bg+(x48:Int).toNat*1) (cs:=[.int .i64 x52]) (fun j c hj=>fr j _ (Am hj)) rfl (by kernel_rfl) (by kernel_rfl)
         refine AA 2 (x48) [.int .i64 x52] (fun _ _ _ _ _ h=>h) rfl rfl (rfl) rfl (by decide) (by kernel_rfl) (by kernel_rfl) gl b4.plOk (by rfl) (by rfl) (by rfl) fl (by rfl) ib ij (by kernel_rfl) fun i9 (gm:Kn 84 [(q,0),(s,u+(x_v12:Int).toNat*1),(ab,ac+(x_v22:Int).toNat*1),(a9,bg+(x48:Int).toNat*1)] ((tP 52 3 0)::(tI 51 x48)::(tS 50 a_lanes lanes.length c_lanes)::(tI 15 x48)::(DU x_v22 x30 x_v12 m x_v20 p d x18 l z x_v21 aa a_lanes lanes c_lanes a_order order c_order)) i9)=>?_
         refine Dr [3,4,5] (dn 5) ((tI 55 x30)::(tS 54 a_lanes lanes.length c_lanes)::(tI 53 x52)::(tI 15 x48)::(DU x_v22 x30 x_v12 m x_v20 p d x18 l z x_v21 aa a_lanes lanes c_lanes a_order order c_order)) gm dj fun kj gn=>?_
         obtain⟨x56,ex56,a4⟩:=Ap a4
         obtain⟨ic,ik,i3⟩:=Ak ex56
         obtain⟨bl,bs,ju,fm,ix,fs⟩:=hr_lanes.get (by decide) i3
         obtain rfl:=ix
         have b5:=dj.addPlc (b:=bl) (o:=bs+(x30:Int).toNat*1) (cs:=[.int .i64 x56]) (fun j c hj=>fs j _ (Am hj)) rfl (by kernel_rfl) (by kernel_rfl)
         refine AA 6 (x30) [.int .i64 x56] (fun _ _ _ _ _ h=>h) rfl rfl (rfl) rfl (by decide) (by kernel_rfl) (by kernel_rfl) gn dj.plOk (by rfl) (by rfl) (by rfl) fm (by rfl) ic ik (by kernel_rfl) fun ja (go:Kn 84 (Ru q s u x_v12 ab ac x_v22 a9 bg x48 bl bs x30) ((tP 56 4 0)::(tI 55 x30)::(tS 54 a_lanes lanes.length c_lanes)::(tI 53 x52)::(tI 15 x48)::(DU x_v22 x30 x_v12 m x_v20 p d x18 l z x_v21 aa a_lanes lanes c_lanes a_order order c_order)) ja)=>?_
         refine Dr [7,8,9] (dn 9) ((tB 59 (x52 == x56))::(tI 15 x48)::(DU x_v22 x30 x_v12 m x_v20 p d x18 l z x_v21 aa a_lanes lanes c_lanes a_order order c_order)) go b5 fun e9 em=>?_
         rcases Bool.eq_false_or_eq_true ((x52 == x56)) with ci | ci
         ·
          rw [ci,XW] at a4
          have gp:Kn 84 (Ru q s u x_v12 ab ac x_v22 a9 bg x48 bl bs x30) ((tB 59 true)::(tI 15 x48)::(DU x_v22 x30 x_v12 m x_v20 p d x18 l z x_v21 aa a_lanes lanes c_lanes a_order order c_order)) e9:=(em.setB 59 true (by rfl) ci).kp
          refine Dr [10,11] (dn 11) ((tI 61 x48)::(tS 60 z x_v21.length aa)::(tB 59 true)::(tI 15 x48)::(DU x_v22 x30 x_v12 m x_v20 p d x18 l z x_v21 aa a_lanes lanes c_lanes a_order order c_order)) gp b5 fun kk en=>?_
          obtain⟨eb,ep,iq,c1⟩:=b5.settle (i:=1) rfl
          replace a5:=a5.mono ep
          replace c1:Aj ⟨w,h,A9⟩ eb (Ru q s u x_v12 ab ac x_v22 a9 bg x48 bl bs x30) [⟨Eg ad y af ae ag,some 25⟩,⟨[.int .i64 x30],none⟩,⟨[.int .i64 x48],none⟩,⟨[.int .i64 x52],none⟩,⟨[.int .i64 x56],none⟩] (⟨m,x_v20.length,p,22,1,AT J5 an x_v20,0⟩::⟨z,x_v21.length,aa,3,1,a7,(a7:List Value).length⟩::an) (World.drew jn):=c1
          have io:At eb z aa x_v21:=⟨_,a5,iq,b5.rowCap (i:=1) rfl⟩
          obtain⟨x62,ex62,a4⟩:=Ap a4
          refine DV 12 rfl (by kernel_rfl) (by decide) (Al en (by kernel_rfl)) fun K hK=>?_
          refine wc [.c (.slice z x_v21.length aa),.c (.int .i64 x48)] en c1 (G2 co c1.has x_v21 io x48 ex62) fun k5 jw la fh er dl=>?_
          replace a5:=a5.mono er
          obtain rfl:=fh
          refine⟨.one (.c (.bool x62)),rfl,fun jb (gq:Kn 84 (Ru q s u x_v12 ab ac x_v22 a9 bg x48 bl bs x30) ((tB 62 x62)::(tI 61 x48)::(tS 60 z x_v21.length aa)::(tB 59 true)::(tI 15 x48)::(DU x_v22 x30 x_v12 m x_v20 p d x18 l z x_v21 aa a_lanes lanes c_lanes a_order order c_order)) jb)=>hK _ _ dl.plOk ?_⟩
          refine Dr [13,14] (dn 14) ((tB 64 (!x62))::(tI 15 x48)::(DU x_v22 x30 x_v12 m x_v20 p d x18 l z x_v21 aa a_lanes lanes c_lanes a_order order c_order)) gq dl fun kl gr=>?_
          refine AE (by kernel_rfl) ?_
          obtain rfl:=XZ a4
          exact XY z ⟨aa,a7,(a7:List Value).length,_,_,rfl,(gr.keep [15,14,13,12,11,10,9,1,2,64] (by rfl)).cut 3 (by kernel_rfl),dl.cutPl 3 (by kernel_rfl),XU ep er,a5⟩
         ·
          rw [ci,XV] at a4
          have gs:Kn 84 (Ru q s u x_v12 ab ac x_v22 a9 bg x48 bl bs x30) ((tB 59 false)::(tI 15 x48)::(DU x_v22 x30 x_v12 m x_v20 p d x18 l z x_v21 aa a_lanes lanes c_lanes a_order order c_order)) e9:=(em.setB 59 false (by rfl) ci).kp
          refine Dr [10,11,12,13,14] (dn 14) ((tB 64 false)::(tI 15 x48)::(DU x_v22 x30 x_v12 m x_v20 p d x18 l z x_v21 aa a_lanes lanes c_lanes a_order order c_order)) gs b5 fun km gu=>?_
          refine AE (by kernel_rfl) ?_
          obtain rfl:=XZ a4
          exact XY z ⟨aa,a7,cd,_,_,rfl,(gu.keep [15,14,13,12,11,10,9,1,2,64] (by rfl)).cut 3 (by kernel_rfl),b5.cutPl 3 (by kernel_rfl),Ac.le_refl _,a5⟩
        ·
         rintro _ lb ⟨ak,al,au,bb,d1,aq,rfl,df,cl,dh,ee⟩
         replace ax:=ax.mono dh
         refine wC (ai.2) df (fun c7=>?_) (fun c7=>?_)
         ·
          rw [Bc c7] at ah
          refine XT (Aa (Rk 0 4 ((tI 68 x_v12)::(tS 67 m x_v20.length p)::(Pu x_v12 m x_v20 p x48 x_v22 x30 d x18 l ak ai al a_lanes lanes c_lanes a_order order c_order)) df cl fun kn gv=>?_))
          obtain⟨x69,ex69,ah⟩:=Ap ah
          obtain⟨ez,e1,e3⟩:=Ak ex69
          have hu:=AL ez e1
          obtain⟨ap,ed⟩:=AZ cl (i:=0) rfl (b0:=0+(x_v12:Int).toNat*1) (MT HL (by decide) ax.len hu)
          have dm:=cl.addPlc (b:=ap) (o:=0+(x_v12:Int).toNat*1) (cs:=[]) (fun j c hj=>by simp at hj) rfl (by kernel_rfl) (by kernel_rfl)
          obtain⟨bi,bn,cp,ei,ft⟩:=ax.get e3
          have fu:∀ (e:AG) k c,([.slice bi x69.length bn]:List SC)[k]? = some c→((AT J5 an x_v20))[0+(x_v12:Int).toNat*1+k]? = some (c.den e):=fun e k c hk=>E9 HL ei e3 k _ (Am hk)
          refine AC 4 (x_v12) rfl rfl (rfl) rfl (by decide) gv (by rfl) (by rfl) (by rfl) ed (by rfl) ez e1 (by kernel_rfl) fun jc (gw:Kn 84 (S0 q s u x_v12 ab ac x_v22 ap) ((tP 69 3 0)::(tI 68 x_v12)::(tS 67 m x_v20.length p)::(Pu x_v12 m x_v20 p x48 x_v22 x30 d x18 l ak ai al a_lanes lanes c_lanes a_order order c_order)) jc)=>?_
          refine CP 5 2 [71,70,66,65,15,14,13,12,11,10,9,1,2] ((tI 71 x48)::(tS 70 bi x69.length bn)::(Pu x_v12 m x_v20 p x48 x_v22 x30 d x18 l ak ai al a_lanes lanes c_lanes a_order order c_order)) gw (A7.peek dm.plOk dm 0 3 rfl rfl ed [.slice bi x69.length bn] (fu _)) (by kernel_rfl) fun ko gx=>?_
          refine wl fun K hK=>?_
          refine wS 3 1 [.int .i64 x48] gx dm fun az jd jo (gy:Kn 84 (S0 q s u x_v12 ab ac x_v22 ap) ((tS 72 az 1 1)::(tI 71 x48)::(tS 70 bi x69.length bn)::(Pu x_v12 m x_v20 p x48 x_v22 x30 d x18 l ak ai al a_lanes lanes c_lanes a_order order c_order)) jd) h1=>?_
          have et:Aj ⟨w,h,A9⟩ aq (S0 q s u x_v12 ab ac x_v22 ap) [⟨Eg ad y af ae ag,some 25⟩,⟨[.int .i64 x30],none⟩,⟨[.int .i64 x48],none⟩,⟨[],none⟩] (⟨m,x_v20.length,p,22,1,AT J5 an x_v20,0⟩::⟨ak,ai.1.length,al,3,1,au,bb⟩::⟨az,1,1,3,1,([.int .i64 x48]:List Value),0⟩::an) jo:=Aj.famIn [⟨m,x_v20.length,p,22,1,AT J5 an x_v20,0⟩,⟨ak,ai.1.length,al,3,1,au,bb⟩] h1
          have c9:Af aq ([x48]:List Int) ([.int .i64 x48]:List Value):=⟨_,_,rfl,(Ad:rep aq (x48:Int) _),rfl⟩
          refine hK _ _ ?_
          obtain⟨x73,ex73,ah⟩:=Ap ah
          obtain⟨du,hv⟩:=AS ex73
          refine wl fun K hK=>?_
          refine AI (r:=⟨bi,x69.length,bn,3,1,cp,0⟩) ((x_v12:Int).toNat+3) 8 1 _ (x73.length) _ ([.int .i64 x48]:List Value) gy et rfl rfl (by decide) (by exact ei) (by rfl) (by kernel_rfl) (by rfl) (by rfl) (Af.len c9) (et.rowCell (i:=2) rfl) c9.one (by rw [du]; simp <;> omega) (by rw [du]; exact hv) (by decide) fun bj bo ff jf lc f1 (g0:Kn 84 (S0 q s u x_v12 ab ac x_v22 ap) ((tS 73 bj x73.length bo)::(tS 72 az 1 1)::(tI 71 x48)::(tS 70 bi x69.length bn)::(Pu x_v12 m x_v20 p x48 x_v22 x30 d x18 l ak ai al a_lanes lanes c_lanes a_order order c_order)) jf) eu=>?_
          have fv:Af aq x73 (cp++([.int .i64 x48]:List Value)):=by rw [du]; exact Af.append ft c9
          obtain rfl:ff=0:=Nat.le_zero.1 f1
          refine hK _ _ ?_
          obtain⟨x74,ex74,ah⟩:=Ap ah
          obtain⟨e0,e2,dx⟩:=Ak ex74
          have cz:=AL e0 e2
          obtain⟨ay,cg⟩:=AZ eu (i:=0) rfl (b0:=0+(x_v12:Int).toNat*1) (MT HL (by decide) ax.len cz)
          have h2:=eu.addPlc (b:=ay) (o:=0+(x_v12:Int).toNat*1) (cs:=[]) (fun j c hj=>by simp at hj) rfl (by kernel_rfl) (by kernel_rfl)
          obtain⟨fc,fd,k6,ej,jx⟩:=ax.get dx
          have jy:∀ (e:AG) k c,([.slice fc x74.length fd]:List SC)[k]? = some c→((AT J5 an x_v20))[0+(x_v12:Int).toNat*1+k]? = some (c.den e):=fun e k c hk=>E9 HL ej dx k _ (Am hk)
          refine AC 9 (x_v12) rfl rfl (rfl) rfl (by decide) g0 (by rfl) (by rfl) (by rfl) cg (by rfl) e0 e2 (by kernel_rfl) fun d2 (g1:Kn 84 (Rt q s u x_v12 ab ac x_v22 ap ay) ((tP 74 4 0)::(tS 73 bj x73.length bo)::(tS 72 az 1 1)::(tI 71 x48)::(tS 70 bi x69.length bn)::(Pu x_v12 m x_v20 p x48 x_v22 x30 d x18 l ak ai al a_lanes lanes c_lanes a_order order c_order)) d2)=>?_
          obtain⟨am,fe,ah⟩:=Ap ah
          obtain⟨j6,j7,c4⟩:=CK fe
          refine wl fun K hK=>?_
          refine BS 0 4 0 (0+(x_v12:Int).toNat*1) (.c (.slice bj x73.length bo)) g1 h2 rfl rfl (by rfl) (by rfl) rfl rfl cg rfl (by kernel_rfl) (Lj HL ax.len cz (Nat.le_of_ble_eq_true rfl)) fun fa g3 h3=>?_
          have iy:((AT J5 an x_v20).take (0+(x_v12:Int).toNat*1+0)++([.slice bj x73.length bo]:List Value)++(AT J5 an x_v20).drop (0+(x_v12:Int).toNat*1+0+1))=(AT J5 (List.set an (x_v12:Int).toNat ⟨bj,x73.length,bo,3,1,cp++([.int .i64 x48]:List Value),0⟩) am):=by rw [c4]; exact IX (r':=⟨bj,x73.length,bo,3,1,cp++([.int .i64 x48]:List Value),0⟩) HL ej dx rfl (Nat.le_of_ble_eq_true rfl)
          have dt:x_v20.length=am.length:=by rw [c4]; simp
          obtain⟨bp,eg,h4⟩:∃ f,D6 UE 3 1 aq f am∧Aj ⟨w,h,A9⟩ aq [(q,0),(s,u+(x_v12:Int).toNat*1),(ab,ac+(x_v22:Int).toNat*1),(ap,0+(x_v12:Int).toNat*1),(ay,0+(x_v12:Int).toNat*1)] [⟨[.slice ad y.room.length af,.slice ae y.buses.length ag,.int .i64 y.broken],some 25⟩,⟨[.int .i64 x30],none⟩,⟨[.int .i64 x48],none⟩,⟨[],none⟩,⟨[],none⟩] (⟨m,x_v20.length,p,22,1,AT J5 f am,0⟩::⟨ak,ai.1.length,al,3,1,au,bb⟩::⟨az,1,1,3,1,([.int .i64 x48]:List Value),0⟩::f) fa:=⟨List.set an (x_v12:Int).toNat ⟨bj,x73.length,bo,3,1,cp++([.int .i64 x48]:List Value),0⟩,(by rw [c4]; exact ax.set ⟨rfl,rfl,rfl,rfl,fv⟩),by rw [← iy]; exact h3⟩
          have g4:Kn 84 [(q,0),(s,u+(x_v12:Int).toNat*1),(ab,ac+(x_v22:Int).toNat*1),(ap,0+(x_v12:Int).toNat*1),(ay,0+(x_v12:Int).toNat*1)] [(74,.one (.c (.ptr 4 0))),(73,.one (.c (.slice bj x73.length bo))),(72,.one (.c (.slice az 1 1))),(71,.one (.c (.int .i64 x48))),(70,.one (.c (.slice bi x69.length bn))),(66,.one (.c (.int .i64 x_v12))),(65,.one (.c (.slice m am.length p))),(15,.one (.c (.int .i64 x48))),(14,.one (.c (.int .i64 x_v22))),(13,.one (.c (.int .i64 x30))),(12,.one (.c (.int .i64 x_v12))),(11,.one (.c (.slice m am.length p))),(10,.one (.c (.slice d x18.length l))),(9,.one (.c (.slice ak ai.1.length al))),(1,.one (.c (.slice a_lanes lanes.length c_lanes))),(2,.one (.c (.slice a_order order.length c_order)))] d2:=by rw [← dt]; exact g3
          have dp:Aj ⟨w,h,A9⟩ aq [(q,0),(s,u+(x_v12:Int).toNat*1),(ab,ac+(x_v22:Int).toNat*1),(ap,0+(x_v12:Int).toNat*1),(ay,0+(x_v12:Int).toNat*1)] [⟨[.slice ad y.room.length af,.slice ae y.buses.length ag,.int .i64 y.broken],some 25⟩,⟨[.int .i64 x30],none⟩,⟨[.int .i64 x48],none⟩,⟨[],none⟩,⟨[],none⟩] (⟨m,am.length,p,22,1,AT J5 bp am,0⟩::⟨ak,ai.1.length,al,3,1,au,bb⟩::⟨az,1,1,3,1,([.int .i64 x48]:List Value),0⟩::bp) fa:=by rw [← dt]; exact h4
          have j3:(x_v12:Int).toNat<am.length:=by rw [← dt]; exact cz
          have e4:am[(x_v12:Int).toNat]? = some x73:=by rw [c4]; exact List.getElem?_set_self cz
          obtain⟨cr,cv,k7,f4,jz⟩:=eg.get e4
          have da:∀ (e:AG) k c,([.slice cr x73.length cv]:List SC)[k]? = some c→((AT J5 bp am))[0+(x_v12:Int).toNat*1+k]? = some (c.den e):=fun e k c hk=>E9 HL f4 e4 k _ (Am hk)
          refine hK _ _ ?_
          have g6:Kn 84 (Rt q s u x_v12 ab ac x_v22 ap ay) ((tI 15 x48)::(tI 14 x_v22)::(tI 13 x30)::(tI 12 x_v12)::(tS 11 m am.length p)::(tS 10 d x18.length l)::(tS 9 ak ai.1.length al)::(Df a_lanes lanes c_lanes a_order order c_order)) d2:=g4.kp
          refine wf (Aa (CP 0 2 [76,75,14,13,12,11,10,1,2] ((tI 76 x48)::(tS 75 ak ai.1.length al)::(tI 14 x_v22)::(tI 13 x30)::(tI 12 x_v12)::(tS 11 m am.length p)::(tS 10 d x18.length l)::(Df a_lanes lanes c_lanes a_order order c_order)) g6 (A7.peek dp.plOk dp 0 4 rfl rfl cg [.slice cr x73.length cv] (da _)) (by kernel_rfl) fun ks g7=>?_))
          refine wl fun K hK=>?_
          refine wS 3 1 [.int .i64 x48] g7 dp fun ct jg jp (g8:Kn 84 (Rt q s u x_v12 ab ac x_v22 ap ay) ((tS 77 ct 1 1)::(tI 76 x48)::(tS 75 ak ai.1.length al)::(tI 14 x_v22)::(tI 13 x30)::(tI 12 x_v12)::(tS 11 m am.length p)::(tS 10 d x18.length l)::(Df a_lanes lanes c_lanes a_order order c_order)) jg) h5=>?_
          have ev:Aj ⟨w,h,A9⟩ aq (Rt q s u x_v12 ab ac x_v22 ap ay) [⟨Eg ad y af ae ag,some 25⟩,⟨[.int .i64 x30],none⟩,⟨[.int .i64 x48],none⟩,⟨[],none⟩,⟨[],none⟩] (⟨m,am.length,p,22,1,AT J5 bp am,0⟩::⟨ak,ai.1.length,al,3,1,au,bb⟩::⟨az,1,1,3,1,([.int .i64 x48]:List Value),0⟩::⟨ct,1,1,3,1,([.int .i64 x48]:List Value),0⟩::bp) jp:=Aj.famIn [⟨m,am.length,p,22,1,AT J5 bp am,0⟩,⟨ak,ai.1.length,al,3,1,au,bb⟩,⟨az,1,1,3,1,([.int .i64 x48]:List Value),0⟩] h5
          have db:Af aq ([x48]:List Int) ([.int .i64 x48]:List Value):=⟨_,_,rfl,(Ad:rep aq (x48:Int) _),rfl⟩
          refine hK _ _ ?_
          obtain⟨x78,ex78,ah⟩:=Ap ah
          obtain⟨dv,hw⟩:=AS ex78
          refine wl fun K hK=>?_
          refine AI 1 8 1 _ (x78.length) _ ([.int .i64 x48]:List Value) g8 ev rfl rfl (by decide) rfl (by rfl) (by kernel_rfl) (by rfl) (by rfl) (Af.len db) (ev.rowCell (i:=3) rfl) db.one (by rw [dv]; simp <;> omega) (by rw [dv]; exact hw) (by decide) fun b7 ca d9 jh ld j1 (g9:Kn 84 (Rt q s u x_v12 ab ac x_v22 ap ay) ((tS 78 b7 x78.length ca)::(tS 77 ct 1 1)::(tI 76 x48)::(tS 75 ak ai.1.length al)::(tI 14 x_v22)::(tI 13 x30)::(tI 12 x_v12)::(tS 11 m am.length p)::(tS 10 d x18.length l)::(Df a_lanes lanes c_lanes a_order order c_order)) jh) cm=>?_
          have fw:Af aq x78 (au++([.int .i64 x48]:List Value)):=by rw [dv]; exact Af.append ee db
          refine hK _ _ ?_
          refine CP 4 1 [9,14,13,12,11,10,1,2] ((tS 9 b7 x78.length ca)::(tI 14 x_v22)::(tI 13 x30)::(tI 12 x_v12)::(tS 11 m am.length p)::(tS 10 d x18.length l)::(Df a_lanes lanes c_lanes a_order order c_order)) g9 (A7.peek cm.plOk cm 0 4 rfl rfl cg [.slice cr x73.length cv] (da _)) (by kernel_rfl) fun kt ha=>?_
          refine wf (Aa (CP 0 3 [14,9,13,12,11,10,1,2] ((tI 14 (IntKind.i64.wrap (x_v22+1)))::(tS 9 b7 x78.length ca)::(tI 13 x30)::(tI 12 x_v12)::(tS 11 m am.length p)::(tS 10 d x18.length l)::(Df a_lanes lanes c_lanes a_order order c_order)) ha (A7.peek cm.plOk cm 0 4 rfl rfl cg [.slice cr x73.length cv] (da _)) (by kernel_rfl) fun ku hb=>?_))
          refine wf ?_
          exact XY co ⟨Nat.lt_succ_self _,XY am ⟨x78,IntKind.i64.wrap (x_v22+1),m,p,bp,b7,ca,au++([.int .i64 x48]:List Value),d9,_,_,rfl,(hb.keep [14,13,12,11,10,9,1,2] (by rfl)).cut 2 (by kernel_rfl),(Aj.famCut [⟨m,am.length,p,22,1,AT J5 bp am,0⟩,⟨b7,x78.length,ca,3,1,au++([.int .i64 x48]:List Value),d9⟩] [⟨az,1,1,3,1,([.int .i64 x48]:List Value),0⟩,⟨ct,1,1,3,1,([.int .i64 x48]:List Value),0⟩] cm).cutPl 2 (by kernel_rfl),XU br (XU a6 dh),eg,fw,ah⟩⟩
         ·
          rw [Bd c7] at ah
          refine wp_skip (Aa (Rk 0 3 ((tI 14 (IntKind.i64.wrap (x_v22+1)))::(tI 13 x30)::(tI 12 x_v12)::(tS 11 m x_v20.length p)::(tS 10 d x18.length l)::(tS 9 ak ai.1.length al)::(Df a_lanes lanes c_lanes a_order order c_order)) df cl fun kv hc=>?_))
          refine wf ?_
          exact XY co ⟨Nat.lt_succ_self _,XY x_v20 ⟨ai.1,IntKind.i64.wrap (x_v22+1),m,p,an,ak,al,au,bb,_,_,rfl,(hc.keep [14,13,12,11,10,9,1,2] (by rfl)).cut 2 (by kernel_rfl),cl.cutPl 2 (by kernel_rfl),XU br (XU a6 dh),ax,ee,ah⟩⟩
       ·
        rw [Bd c6] at ah
        refine wp_exit ?_
        obtain rfl:=XZ ah
        exact XY m ⟨p,an,z,aa,a7,cd,_,_,rfl,de.kp,di,XU br a6,ax,a5⟩
    ·
     rintro _ lf ⟨av,aw,bc,bh,bm,bt,cw,dy,bd,rfl,hd,ew,hz,f0,fo⟩
     refine Aa (Rk 0 2 ((tI 80 x30)::(tS 79 bh aj.2.length bm)::(tI 12 x_v12)::(tS 11 av aj.1.length aw)::(tS 10 d x18.length l)::(Df a_lanes lanes c_lanes a_order order c_order)) hd ew fun kw he=>?_)
     refine wl fun K hK=>?_
     refine wS 3 1 [.int .i64 x30] he ew fun cu ji jq (hf:Kn 84 (Ig q s u x_v12) ((tS 81 cu 1 1)::(tI 80 x30)::(tS 79 bh aj.2.length bm)::(tI 12 x_v12)::(tS 11 av aj.1.length aw)::(tS 10 d x18.length l)::(Df a_lanes lanes c_lanes a_order order c_order)) ji) h6=>?_
     have ex:Aj ⟨w,h,A9⟩ bd (Ig q s u x_v12) [⟨Eg ad y af ae ag,some 25⟩,⟨[.int .i64 x30],none⟩] (⟨av,aj.1.length,aw,22,1,AT J5 bc aj.1,0⟩::⟨bh,aj.2.length,bm,3,1,bt,cw⟩::⟨cu,1,1,3,1,([.int .i64 x30]:List Value),0⟩::bc) jq:=Aj.famIn [⟨av,aj.1.length,aw,22,1,AT J5 bc aj.1,0⟩,⟨bh,aj.2.length,bm,3,1,bt,cw⟩] h6
     have dc:Af bd ([x30]:List Int) ([.int .i64 x30]:List Value):=⟨_,_,rfl,(Ad:rep bd (x30:Int) _),rfl⟩
     refine hK _ _ ?_
     obtain⟨x82,ex82,ar⟩:=Ap ar
     obtain⟨dw,hy⟩:=AS ex82
     refine wl fun K hK=>?_
     refine AI 1 8 1 _ (x82.length) _ ([.int .i64 x30]:List Value) hf ex rfl rfl (by decide) rfl (by rfl) (by kernel_rfl) (by rfl) (by rfl) (Af.len dc) (ex.rowCell (i:=2) rfl) dc.one (by rw [dw]; simp <;> omega) (by rw [dw]; exact hy) (by decide) fun b8 cb ea jj lg j2 (hg:Kn 84 (Ig q s u x_v12) ((tS 82 b8 x82.length cb)::(tS 81 cu 1 1)::(tI 80 x30)::(tS 79 bh aj.2.length bm)::(tI 12 x_v12)::(tS 11 av aj.1.length aw)::(tS 10 d x18.length l)::(Df a_lanes lanes c_lanes a_order order c_order)) jj) dq=>?_
     have fx:Af bd x82 (bt++([.int .i64 x30]:List Value)):=by rw [dw]; exact Af.append fo dc
     refine hK _ _ ?_
     refine Rk 4 1 ((tS 9 b8 x82.length cb)::(tI 12 x_v12)::(tS 11 av aj.1.length aw)::(tS 10 d x18.length l)::(Df a_lanes lanes c_lanes a_order order c_order)) hg dq fun kx hi=>?_
     refine wf (Aa (Rk 0 3 ((tI 12 (IntKind.i64.wrap (x_v12+1)))::(tS 9 b8 x82.length cb)::(tS 11 av aj.1.length aw)::(tS 10 d x18.length l)::(Df a_lanes lanes c_lanes a_order order c_order)) hi dq fun ky hl=>?_))
     refine wf ?_
     exact XY c5 ⟨Nat.lt_succ_self _,XY aj.1 ⟨x82,IntKind.i64.wrap (x_v12+1),av,aw,bc,b8,cb,bt++([.int .i64 x30]:List Value),ea,_,_,rfl,(hl.keep [12,11,10,9,1,2] (by rfl)).cut 1 (by kernel_rfl),(Aj.famCut [⟨av,aj.1.length,aw,22,1,AT J5 bc aj.1,0⟩,⟨b8,x82.length,cb,3,1,bt++([.int .i64 x30]:List Value),ea⟩] [⟨cu,1,1,3,1,([.int .i64 x30]:List Value),0⟩] dq).cutPl 1 (by kernel_rfl),XU bv hz,f0,fx,ar⟩⟩
   ·
    rw [c8,XV] at ar
    refine wp_exit ?_
    obtain rfl:=XZ ar
    exact XY a0 ⟨a2,b1,a1,a3,cq,cx,_,_,rfl,dg.kp,c3,bv,eh,ef⟩
 ·
  rintro _ fb ⟨a8,ba,bq,b9,cc,b6,ce,d3,cf,rfl,hn,ey,j4,f3,j0⟩
  refine XT (Aa (Rk 0 2 [tS 8 a8 ao.1.length ba] hn ey fun kz ho=>?_))
  refine wf (wp_ret ?_)
  obtain⟨fi,j5,c2,dd⟩:=D6.settleAll [⟨a8,ao.1.length,ba,22,1,AT J5 bq ao.1,0⟩,⟨b9,ao.2.length,cc,3,1,b6,ce⟩] f3 U4 ey
  replace c2:Aj ⟨w,h,A9⟩ fi [(q,0)] [⟨Eg ad y af ae ag,some 25⟩] [⟨a8,ao.1.length,ba,22,1,AT J5 bq ao.1,0⟩,⟨b9,ao.2.length,cc,3,1,b6,ce⟩] fb:=c2
  obtain⟨ec,h0,ir,dr⟩:=c2.settle (i:=0) rfl
  replace dd:=dd.mono h0
  replace dr:Aj ⟨w,h,A9⟩ ec [(q,0)] [⟨Eg ad y af ae ag,some 25⟩] [⟨a8,ao.1.length,ba,22,1,AT J5 bq ao.1,((AT J5 bq ao.1):List Value).length⟩,⟨b9,ao.2.length,cc,3,1,b6,ce⟩] fb:=dr
  have ip:At ec a8 ba ao.1:=⟨_,dd,ir,c2.rowCap (i:=0) rfl⟩
  obtain rfl:=XZ H
  exact rt (.one (.c (.slice a8 ao.1.length ba))) ho dr ⟨_,_,rfl,ip⟩
abbrev GO (g:Option Addr) (y:Ag) (l:Nat) (k:Option Addr) (m:Nat):List SC:=[.slice g y.room.length l,.slice k y.buses.length m,.int .i64 y.broken]
abbrev Jo (d:Option Addr) (x_v20:List Int) (e:Nat):TM:=[tS 9 d x_v20.length e,tP 4 0 0]
set_option maxRecDepth 100000 in
set_option maxHeartbeats 4000000 in
theorem JW (n:Nat) {h:Ac} {w:World} (hh:Db h w) (y:Ag) {cs_y:List Value} (hx_y:rep h y cs_y) (lanes:List Int) {a_lanes:Option Addr} {c_lanes:Nat} (hr_lanes:At h a_lanes c_lanes lanes) (order:List Int) {a_order:Option Addr} {c_order:Nat} (hr_order:At h a_order c_order order) (broken:List Int) {a_broken:Option Addr} {c_broken:Nat} (hr_broken:At h a_broken c_broken broken) {r:List Int} (H:EX n y lanes order broken=some r) :
  Calls Tryz.prog 14 #[.agg cs_y.toArray,.slice a_lanes lanes.length c_lanes,.slice a_order order.length c_order,.slice a_broken broken.length c_broken] w (Dd (fun h v=>∃ a c,v=.slice a r.length c∧At h a c r) h w):=by
 obtain⟨_,_,rfl,⟨g,l,rfl,aj⟩,⟨_,_,rfl,⟨k,m,rfl,ak⟩,rfl⟩⟩:=hx_y
 refine enter 46 [.agg (GO g y l k m),.c (.slice a_lanes lanes.length c_lanes),.c (.slice a_order order.length c_order),.c (.slice a_broken broken.length c_broken)] Tryz.func14 rfl rfl rfl rfl fun t hk=>?_
 have hm:=Aj.begin h w hh
 unfold EX at H
 refine XT (Aa (wl fun K hK=>?_))
 refine wb (.agg (GO g y l k m)) hk hm fun f ed fb (c0:Kn 46 [(f,0)] [tP 4 0 0,tA 0 (GO g y l k m),tS 1 a_lanes lanes.length c_lanes,tS 2 a_order order.length c_order,tS 3 a_broken broken.length c_broken] ed) aw=>hK _ _ ?_
 refine Rk 1 1 [tP 4 0 0,tS 1 a_lanes lanes.length c_lanes,tS 2 a_order order.length c_order,tS 3 a_broken broken.length c_broken] c0 aw fun en c2=>?_
 refine wf (XT (Aa (Rk 0 2 [tS 10 none 0 0,tS 9 none 0 0,tP 4 0 0,tS 1 a_lanes lanes.length c_lanes,tS 2 a_order order.length c_order,tS 3 a_broken broken.length c_broken] c2 aw fun ep c5=>?_)))
 refine wf (XT (Aa (Rk 0 4 [tS 17 a_broken broken.length c_broken,tS 16 a_order order.length c_order,tS 15 a_lanes lanes.length c_lanes,tA 14 (GO g y l k m),tS 10 none 0 0,tS 9 none 0 0,tP 4 0 0] c5 aw fun et c9=>?_)))
 obtain⟨x18,ex18,H⟩:=Ap H
 refine wl fun K hK=>?_
 refine wc [.agg (GO g y l k m),.c (.slice a_lanes lanes.length c_lanes),.c (.slice a_order order.length c_order),.c (.slice a_broken broken.length c_broken)] c9 aw (Oi n aw.has y ((Ab (Ae aj) (Ab (Ae ak) Ad)):rep h y _) lanes hr_lanes order hr_order broken hr_broken ex18) fun e6 a5 eh cp ci bx=>?_
 replace aj:=aj.mono ci
 replace ak:=ak.mono ci
 obtain⟨q,u,rfl,b1⟩:=cp
 refine⟨.one (.c (.slice q x18.length u)),rfl,fun eb (dg:Kn 46 [(f,0)] [tS 18 q x18.length u,tS 17 a_broken broken.length c_broken,tS 16 a_order order.length c_order,tS 15 a_lanes lanes.length c_lanes,tA 14 (GO g y l k m),tS 10 none 0 0,tS 9 none 0 0,tP 4 0 0] eb)=>hK _ _ ?_⟩
 refine Rk 5 1 [tS 11 q x18.length u,tS 10 none 0 0,tS 9 none 0 0,tP 4 0 0] dg bx fun ey dh=>?_
 refine wf (XT (XT (Aa (Rk 0 1 [tI 12 0,tS 11 q x18.length u,tS 10 none 0 0,tS 9 none 0 0,tP 4 0 0] dh bx fun ez di=>?_))))
 refine wf ?_
 have dw:Aj ⟨w,h,A9⟩ a5 [(f,0)] [⟨GO g y l k m,some 25⟩] [⟨none,0,0,3,1,[],0⟩] eh:=bx.nilRow 3 1
 have cu:Af a5 ([]:List Int) []:=Af.nil
 obtain⟨al,cd,H⟩:=Ap H
 refine Aq (fun a' w'=>∃ (am:Option Addr)(an:Nat)(a0:List Value)(b8:Array Value)(ae:Ac),a' = ⟨b8,[]⟩∧Kn 46 [(f,0)] [tS 10 none 0 0,tS 9 am al.length an,tP 4 0 0] b8∧Aj ⟨w,h,A9⟩ ae [(f,0)] [⟨GO g y l k m,some 25⟩] [⟨am,al.length,an,3,1,a0,0⟩] w'∧Ac.le a5 ae∧Af ae al a0) ?_ ?_
 ·
  refine wp_block ?_
  refine Au (fun d8 a' w'=>∃ (x_v10:List Int)(x_v11:Int)(ac:Option Addr)(ad:Nat)(ao:List Value)(b9:Array Value)(ar:Ac),a' = ⟨b9,[]⟩∧Kn 46 [(f,0)] [tI 12 x_v11,tS 11 q x18.length u,tS 10 none 0 0,tS 9 ac x_v10.length ad,tP 4 0 0] b9∧Aj ⟨w,h,A9⟩ ar [(f,0)] [⟨GO g y l k m,some 25⟩] [⟨ac,x_v10.length,ad,3,1,ao,0⟩] w'∧Ac.le a5 ar∧Af ar x_v10 ao∧CO d8 x18 x_v10 x_v11=some al) n ?_ ?_
  ·
   exact XY ([]:List Int) ⟨0,none,0,[],_,_,rfl,di.kp,dw,Ac.le_refl _,cu,cd⟩
  ·
   rintro b4 _ fa ⟨x_v10,x_v11,ac,ad,ao,b9,ar,rfl,dj,bb,bt,cg,z⟩
   clear cd
   obtain _ | b4:=b4
   ·
    rw [CO] at z; cases z
   rw [CO] at z
   replace b1:=b1.mono bt
   refine XT (XT (Aa (Rk 0 4 [tB 22 (decide (x_v11<((x18.length:Nat):Int))),tI 12 x_v11,tS 11 q x18.length u,tS 10 none 0 0,tS 9 ac x_v10.length ad,tP 4 0 0] dj bb fun e0 bs=>?_)))
   refine wf (wC (decide (x_v11<((x18.length:Nat):Int))) bs (fun bn=>?_) (fun bn=>?_))
   ·
    rw [bn,XW] at z
    refine wp_skip (XT (wp_block (Aa (Rk 0 3 [tI 27 x_v11,tS 26 q x18.length u,tS 25 ac x_v10.length ad,tI 12 x_v11,tS 11 q x18.length u,tS 10 none 0 0,tP 4 0 0] bs bb fun e1 dk=>?_))))
    obtain⟨x28,ex28,z⟩:=Ap z
    obtain⟨dx,dy,d6⟩:=Ak ex28
    obtain⟨bf,b5,ej,cq,d5,cw⟩:=b1.get (by decide) d6
    obtain⟨be,bh,rfl,d1⟩:=d5
    have bz:=bb.addPlc (b:=bf) (o:=b5+(x_v11:Int).toNat*1) (cs:=[.slice be x28.length bh]) (fun j c hj=>cw j _ (Am hj)) rfl (by kernel_rfl) (by kernel_rfl)
    refine AC 3 (x_v11) rfl rfl (rfl) rfl (by decide) dk (by rfl) (by rfl) (by rfl) cq (by rfl) dx dy (by kernel_rfl) fun ec (dl:Kn 46 [(f,0),(bf,b5+(x_v11:Int).toNat*1)] [tP 28 1 0,tI 27 x_v11,tS 26 q x18.length u,tS 25 ac x_v10.length ad,tI 12 x_v11,tS 11 q x18.length u,tS 10 none 0 0,tP 4 0 0] ec)=>?_
    refine Rk 4 1 [tS 29 be x28.length bh,tS 25 ac x_v10.length ad,tI 12 x_v11,tS 11 q x18.length u,tS 10 none 0 0,tP 4 0 0] dl bz fun e2 dm=>?_
    obtain⟨ca,a6,d4,_⟩:=id d1
    obtain⟨x30,ex30,z⟩:=Ap z
    obtain⟨b3,dt⟩:=AS ex30
    refine wl fun K hK=>?_
    refine AI 0 8 x28.length _ (x30.length) _ ca dm bz rfl rfl (by decide) rfl (by rfl) (by kernel_rfl) (by rfl) (by rfl) (Af.len a6) (d4.cell bz.has a6.one) a6.one (by rw [b3]; simp <;> omega) (by rw [b3]; exact dt) (by decide) fun a2 a4 cn ee fc cz (dn:Kn 46 [(f,0),(bf,b5+(x_v11:Int).toNat*1)] [tS 30 a2 x30.length a4,tS 29 be x28.length bh,tS 25 ac x_v10.length ad,tI 12 x_v11,tS 11 q x18.length u,tS 10 none 0 0,tP 4 0 0] ee) b0=>?_
    have cx:Af ar x30 (ao++ca):=by rw [b3]; exact Af.append cg a6
    obtain rfl:cn=0:=Nat.le_zero.1 cz
    refine hK _ _ ?_
    refine Rk 6 1 [tS 9 a2 x30.length a4,tI 12 x_v11,tS 11 q x18.length u,tS 10 none 0 0,tP 4 0 0] dn b0 fun e3 dp=>?_
    refine wf (Aa (Rk 0 3 [tI 12 (IntKind.i64.wrap (x_v11+1)),tS 9 a2 x30.length a4,tS 11 q x18.length u,tS 10 none 0 0,tP 4 0 0] dp b0 fun e4 dq=>?_))
    refine wf ?_
    exact XY b4 ⟨Nat.lt_succ_self _,XY x30 ⟨IntKind.i64.wrap (x_v11+1),a2,a4,ao++ca,_,_,rfl,(dq.keep [12,11,10,9,4] (by rfl)).cut 1 (by kernel_rfl),b0.cutPl 1 (by kernel_rfl),bt,cx,z⟩⟩
   ·
    rw [bn,XV] at z
    refine wp_exit ?_
    obtain rfl:=XZ z
    exact XY ac ⟨ad,ao,_,_,rfl,bs.kp,bb,bt,cg⟩
 ·
  rintro _ ei ⟨am,an,a0,b8,ae,rfl,dr,cj,ch,cv⟩
  replace aj:=aj.mono ch
  replace ak:=ak.mono ch
  refine XT (XT (Aa (Rk 0 1 [tI 13 0,tS 10 none 0 0,tS 9 am al.length an,tP 4 0 0] dr cj fun em c1=>?_)))
  refine wf ?_
  have dv:Aj ⟨w,h,A9⟩ ae [(f,0)] [⟨GO g y l k m,some 25⟩] [⟨am,al.length,an,3,1,a0,0⟩,⟨none,0,0,3,1,[],0⟩] ei:=cj.nilRow 3 1
  have cr:Af ae ([]:List Int) []:=Af.nil
  obtain⟨aa,cc,H⟩:=Ap H
  refine Aq (fun a' w'=>∃ (bd:Option Addr)(bg:Nat)(bc:List Value)(bj:Nat)(ah:Option Addr)(ai:Nat)(az:List Value)(b6:Array Value)(ap:Ac),a' = ⟨b6,[]⟩∧Kn 46 [(f,0)] [tS 10 ah aa.2.length ai] b6∧Aj ⟨w,h,A9⟩ ap [(f,0)] [⟨GO g y l k m,some 25⟩] [⟨bd,aa.1.length,bg,3,1,bc,bj⟩,⟨ah,aa.2.length,ai,3,1,az,0⟩] w'∧Ac.le ae ap∧Af ap aa.1 bc∧Af ap aa.2 az) ?_ ?_
  ·
   refine wp_block ?_
   refine Au (fun d7 a' w'=>∃ (x_v20:List Int)(x_v21:List Int)(x_v22:Int)(d:Option Addr)(e:Nat)(ab:List Value)(bi:Nat)(p:Option Addr)(s:Nat)(ag:List Value)(b7:Array Value)(aq:Ac),a' = ⟨b7,[]⟩∧Kn 46 [(f,0)] ((tI 13 x_v22)::(tS 10 p x_v21.length s)::(Jo d x_v20 e)) b7∧Aj ⟨w,h,A9⟩ aq [(f,0)] [⟨GO g y l k m,some 25⟩] [⟨d,x_v20.length,e,3,1,ab,bi⟩,⟨p,x_v21.length,s,3,1,ag,0⟩] w'∧Ac.le ae aq∧Af aq x_v20 ab∧Af aq x_v21 ag∧Cx d7 y x_v20 x_v21 x_v22=some aa) n ?_ ?_
   ·
    exact XY al ⟨([]:List Int),0,am,an,a0,0,none,0,[],_,_,rfl,c1.kp,dv,Ac.le_refl _,cv,cr,cc⟩
   ·
    rintro ay _ ef ⟨x_v20,x_v21,x_v22,d,e,ab,bi,p,s,ag,b7,aq,rfl,c3,ax,av,af,au,x⟩
    clear cc
    obtain _ | ay:=ay
    ·
     rw [Cx] at x; cases x
    rw [Cx] at x
    replace aj:=aj.mono av
    replace ak:=ak.mono av
    refine XT (XT (Aa (Rk 0 5 ((tB 35 (decide (x_v22<((y.buses.length:Nat):Int))))::(tI 13 x_v22)::(tS 10 p x_v21.length s)::(Jo d x_v20 e)) c3 ax fun eo bq=>?_)))
    refine wf (wC (decide (x_v22<((y.buses.length:Nat):Int))) bq (fun bl=>?_) (fun bl=>?_))
    ·
     rw [bl,XW] at x
     refine wp_skip (XT (wp_block (XT (Aa (Rk 0 2 ((tI 39 x_v22)::(tS 38 d x_v20.length e)::(tI 13 x_v22)::(tS 10 p x_v21.length s)::(Jo d x_v20 e)) bq ax fun er c4=>?_)))))
     obtain⟨ce,a7,d2,a9⟩:=ax.settle (i:=0) rfl
     replace af:=af.mono a7
     replace a9:Aj ⟨w,h,A9⟩ ce [(f,0)] [⟨GO g y l k m,some 25⟩] [⟨d,x_v20.length,e,3,1,ab,(ab:List Value).length⟩,⟨p,x_v21.length,s,3,1,ag,0⟩] ef:=a9
     have dz:At ce d e x_v20:=⟨_,af,d2,ax.rowCap (i:=0) rfl⟩
     obtain⟨x40,ex40,x⟩:=Ap x
     refine wl fun K hK=>?_
     refine wc [.c (.slice d x_v20.length e),.c (.int .i64 x_v22)] c4 a9 (G2 ay a9.has x_v20 dz x_v22 ex40) fun e5 bk e7 co a8 ba=>?_
     replace af:=af.mono a8
     replace au:=au.mono (XU a7 a8)
     obtain rfl:=co
     refine⟨.one (.c (.bool x40)),rfl,fun cl (c6:Kn 46 [(f,0)] ((tB 40 x40)::(tI 39 x_v22)::(tS 38 d x_v20.length e)::(tI 13 x_v22)::(tS 10 p x_v21.length s)::(Jo d x_v20 e)) cl)=>hK _ _ ?_⟩
     have br:Kn 46 [(f,0)] ((tB 40 x40)::(tI 13 x_v22)::(tS 10 p x_v21.length s)::(Jo d x_v20 e)) cl:=c6.kp
     refine wf (wC (x40) br (fun bm=>?_) (fun bm=>?_))
     ·
      rw [Bc bm] at x
      refine Aa (Rk 0 2 ((tI 42 x_v22)::(tS 41 p x_v21.length s)::(tI 13 x_v22)::(Jo d x_v20 e)) br ba fun es c7=>?_)
      refine wl fun K hK=>?_
      refine wS 3 1 [.int .i64 x_v22] c7 ba fun cb d9 e8 (c8:Kn 46 [(f,0)] ((tS 43 cb 1 1)::(tI 42 x_v22)::(tS 41 p x_v21.length s)::(tI 13 x_v22)::(Jo d x_v20 e)) d9) ck=>?_
      have bp:Af bk ([x_v22]:List Int) ([.int .i64 x_v22]:List Value):=⟨_,_,rfl,(Ad:rep bk (x_v22:Int) _),rfl⟩
      refine hK _ _ ?_
      obtain⟨x44,ex44,x⟩:=Ap x
      obtain⟨b2,ds⟩:=AS ex44
      refine wl fun K hK=>?_
      refine AI 1 8 1 _ (x44.length) _ ([.int .i64 x_v22]:List Value) c8 ck rfl rfl (by decide) rfl (by rfl) (by kernel_rfl) (by rfl) (by rfl) (Af.len bp) (ck.rowCell (i:=2) rfl) bp.one (by rw [b2]; simp <;> omega) (by rw [b2]; exact ds) (by decide) fun a1 a3 cm ea e9 cy (da:Kn 46 [(f,0)] ((tS 44 a1 x44.length a3)::(tS 43 cb 1 1)::(tI 42 x_v22)::(tS 41 p x_v21.length s)::(tI 13 x_v22)::(Jo d x_v20 e)) ea) bu=>?_
      have ct:Af bk x44 (ag++([.int .i64 x_v22]:List Value)):=by rw [b2]; exact Af.append au bp
      obtain rfl:cm=0:=Nat.le_zero.1 cy
      refine hK _ _ ?_
      refine Rk 4 1 ((tS 10 a1 x44.length a3)::(tI 13 x_v22)::(Jo d x_v20 e)) da bu fun eu db=>?_
      refine wf (Aa (Rk 0 3 ((tI 13 (IntKind.i64.wrap (x_v22+1)))::(tS 10 a1 x44.length a3)::(Jo d x_v20 e)) db bu fun ev dc=>?_))
      refine wf ?_
      exact XY ay ⟨Nat.lt_succ_self _,XY x_v20 ⟨x44,IntKind.i64.wrap (x_v22+1),d,e,ab,(ab:List Value).length,a1,a3,ag++([.int .i64 x_v22]:List Value),_,_,rfl,dc.kp,bu.cutRw 2,XU av (XU a7 a8),af,ct,x⟩⟩
     ·
      rw [Bd bm] at x
      refine wp_skip (Aa (Rk 0 3 ((tI 13 (IntKind.i64.wrap (x_v22+1)))::(tS 10 p x_v21.length s)::(Jo d x_v20 e)) br ba fun ew dd=>?_))
      refine wf ?_
      exact XY ay ⟨Nat.lt_succ_self _,XY x_v20 ⟨x_v21,IntKind.i64.wrap (x_v22+1),d,e,ab,(ab:List Value).length,p,s,ag,_,_,rfl,dd.kp,ba,XU av (XU a7 a8),af,au,x⟩⟩
    ·
     rw [bl,XV] at x
     refine wp_exit ?_
     obtain rfl:=XZ x
     exact XY d ⟨e,ab,bi,p,s,ag,_,_,rfl,bq.kp,ax,av,af,au⟩
  ·
   rintro _ eg ⟨bd,bg,bc,bj,ah,ai,az,b6,ap,rfl,de,bv,el,ek,bo⟩
   refine XT (Aa (Rk 0 2 [tS 8 ah aa.2.length ai] de bv fun ex df=>?_))
   refine wf (wp_ret ?_)
   obtain⟨cf,du,d3,bw⟩:=bv.settle (i:=1) rfl
   replace bo:=bo.mono du
   replace bw:Aj ⟨w,h,A9⟩ cf [(f,0)] [⟨GO g y l k m,some 25⟩] [⟨bd,aa.1.length,bg,3,1,bc,bj⟩,⟨ah,aa.2.length,ai,3,1,az,(az:List Value).length⟩] eg:=bw
   have d0:At cf ah ai aa.2:=⟨_,bo,d3,bv.rowCap (i:=1) rfl⟩
   obtain rfl:=XZ H
   exact rt (.one (.c (.slice ah aa.2.length ai))) df bw ⟨_,_,rfl,d0⟩
end Go.Proofs.YthcbemnflgjadaaGreat
