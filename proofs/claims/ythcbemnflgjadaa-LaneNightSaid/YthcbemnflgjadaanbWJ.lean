/- Each call computes its plain function. -/
import Derived.Test.YthcbemnflgjadaaProg
import Derived.Test.YthcbemnflgjadaanbP0
import Derived.Test.YthcbemnflgjadaanbWH
set_option linter.all false
namespace Go.Proofs.Ythcbemnflgjadaa
open Go Go.RowKit
open Rep (rep)
open KRep (kv)
open VRep (rv)
abbrev N7 (m:Option Addr) (y:Ag) (p:Nat) (ab:Option Addr) (ad:Nat):List SC:=[.slice m y.room.length p,.slice ab y.buses.length ad,.int .i64 y.broken]
abbrev Fo (a_lanes:Option Addr) (lanes:List Int) (c_lanes:Nat):TM:=[tP 2 0 0,tS 1 a_lanes lanes.length c_lanes]
abbrev Hb (x_v11:Int) (a:Option Addr) (x_v10:List Int) (d:Nat) (a_lanes:Option Addr) (lanes:List Int) (c_lanes:Nat):TM:=(tI 6 x_v11)::(tS 5 a x_v10.length d)::(Fo a_lanes lanes c_lanes)
set_option maxRecDepth 100000 in
set_option maxHeartbeats 4000000 in
theorem N8 (n:Nat) {h:Ac} {w:World} (hh:D7 h w) (y:Ag) {cs_y:List Value} (hx_y:rep h y cs_y) (lanes:List Int) {a_lanes:Option Addr} {c_lanes:Nat} (hr_lanes:A6 h a_lanes c_lanes lanes) {r:Bool} (H:Fe n y lanes=some r) :
  Calls Try.prog 25 #[.agg cs_y.toArray,.slice a_lanes lanes.length c_lanes] w (DA (fun h v=>v=.bool r) h w):=by
 obtain⟨_,_,rfl,⟨m,p,rfl,au⟩,⟨_,_,rfl,⟨ab,ad,rfl,b7⟩,rfl⟩⟩:=hx_y
 refine enter 58 [.agg (N7 m y p ab ad),.c (.slice a_lanes lanes.length c_lanes)] Try.func25 rfl rfl rfl rfl fun t hk=>?_
 have hm:=Al.begin h w hh
 unfold Fe at H
 refine XT (Aa (wl fun K hK=>?_))
 refine wb (.agg (N7 m y p ab ad)) hk hm fun g ey f5 (ct:Kn 58 [(g,0)] [tP 2 0 0,tA 0 (N7 m y p ab ad),tS 1 a_lanes lanes.length c_lanes] ey) ak=>hK _ _ ?_
 refine Rk 1 1 (Fo a_lanes lanes c_lanes) ct ak fun fh cy=>?_
 refine wf (XT (XT (Aa (Rk 0 6 ((tB 12 (((lanes.length:Nat):Int) != ((y.buses.length:Nat):Int)))::(Fo a_lanes lanes c_lanes)) cy ak fun fi bc=>?_))))
 refine wf (wC ((((lanes.length:Nat):Int) != ((y.buses.length:Nat):Int))) bc (fun a7=>?_) (fun a7=>?_))
 ·
  rw [a7,XW] at H
  refine XT (Aa (Rk 0 1 [tB 4 false] bc ak fun fl c8=>?_))
  refine wf (wp_ret ?_)
  obtain rfl:=XZ H
  exact rt (.one (.c (.bool false))) c8 ak rfl
 ·
  rw [a7,XV] at H
  refine wp_skip (XT (Aa (Rk 0 3 ((tI 15 ((y.room.length:Nat):Int))::(Fo a_lanes lanes c_lanes)) bc ak fun fo db=>?_)))
  obtain⟨x16,ex16,H⟩:=Ap H
  obtain⟨dz,d5,b9⟩:=OY ex16
  refine wl fun K hK=>?_
  refine Hv 3 1 8 [.int .i64 0] (((y.room.length:Nat):Int)) db ak rfl rfl (by decide) (by rfl) (by kernel_rfl) (by kernel_rfl) (by rfl) dz d5 (by decide) fun am ew e1 (bv:Kn 58 [(g,0)] [(16,.one (.c (.slice am ((((y.room.length:Nat):Int):Int).toNat) ((((y.room.length:Nat):Int):Int).toNat)))),(15,.one (.c (.int .i64 ((y.room.length:Nat):Int)))),(2,.one (.c (.ptr 0 0))),(1,.one (.c (.slice a_lanes lanes.length c_lanes)))] ew) (a2:Al ⟨w,h,AT⟩ h [(g,0)] [⟨[.slice m y.room.length p,.slice ab y.buses.length ad,.int .i64 y.broken],some 25⟩] [⟨am,(((y.room.length:Nat):Int):Int).toNat,(((y.room.length:Nat):Int):Int).toNat,3,1,List.flatten (List.replicate (((y.room.length:Nat):Int):Int).toNat ([.int .i64 0]:List Value)),0⟩] e1)=>?_
  have bu:Ah h x16 (List.flatten (List.replicate (((y.room.length:Nat):Int):Int).toNat ([.int .i64 0]:List Value))):=by rw [b9]; exact Ah.replicate (α:=Int) (x:=0) Ad _
  have bw:(((y.room.length:Nat):Int):Int).toNat=x16.length:=by rw [b9]; simp
  rw [bw] at bv a2
  skip
  rw [bw] at bu
  refine hK _ _ ?_
  refine Rk 4 1 ((tS 5 am x16.length x16.length)::(Fo a_lanes lanes c_lanes)) bv a2 fun ft dh=>?_
  refine wf (XT (XT (Aa (Rk 0 1 ((tI 6 0)::(tS 5 am x16.length x16.length)::(Fo a_lanes lanes c_lanes)) dh a2 fun fu di=>?_))))
  refine wf ?_
  obtain⟨ca,br,H⟩:=Ap H
  refine Au (fun a' w'=>∃ (a4:List Int)(bo:Option Addr)(bq:Nat)(bn:List Value)(bl:Array Value)(ax:Ac),a' = ⟨bl,[]⟩∧Kn 58 [(g,0)] [] bl∧Al ⟨w,h,AT⟩ ax [(g,0)] [⟨N7 m y p ab ad,some 25⟩] [⟨bo,a4.length,bq,3,1,bn,0⟩] w'∧Ac.le h ax∧Ah ax a4 bn∧ca=.go a4) ?_ ?_
  ·
   refine wp_block ?_
   refine A3 (fun eo a' w'=>∃ (x_v10:List Int)(x_v11:Int)(a:Option Addr)(d:Nat)(u:List Value)(bm:Array Value)(ay:Ac),a' = ⟨bm,[]⟩∧Kn 58 [(g,0)] (Hb x_v11 a x_v10 d a_lanes lanes c_lanes) bm∧Al ⟨w,h,AT⟩ ay [(g,0)] [⟨N7 m y p ab ad,some 25⟩] [⟨a,x_v10.length,d,3,1,u,0⟩] w'∧Ac.le h ay∧Ah ay x_v10 u∧CA eo y lanes x_v10 x_v11=some ca) n ?_ ?_
   ·
    exact XY x16 ⟨0,am,x16.length,List.flatten (List.replicate x16.length ([.int .i64 0]:List Value)),_,_,rfl,di.kp,a2,Ac.le_refl _,bu,br⟩
   ·
    rintro a3 _ f3 ⟨x_v10,x_v11,a,d,u,bm,ay,rfl,dj,aj,ao,af,f⟩
    clear br
    obtain _ | a3:=a3
    ·
     rw [CA] at f; cases f
    rw [CA] at f
    replace au:=au.mono ao
    replace b7:=b7.mono ao
    replace hr_lanes:=hr_lanes.mono ao
    refine XT (XT (Aa (Rk 0 4 ((tB 20 (decide (x_v11<((lanes.length:Nat):Int))))::(Hb x_v11 a x_v10 d a_lanes lanes c_lanes)) dj aj fun fv be=>?_)))
    refine wf (wC (decide (x_v11<((lanes.length:Nat):Int))) be (fun a9=>?_) (fun a9=>?_))
    ·
     rw [a9,XW] at f
     refine wp_skip (XT (wp_block (XT (XT (Ax (by kernel_rfl) ?_)))))
     replace aj:=aj.drew
     refine A5 [] [(g,0)] [⟨N7 m y p ab ad,some 25⟩] ?_
     refine Dr [0,1] [1,0] ((tI 24 x_v11)::(tS 23 a_lanes lanes.length c_lanes)::(Hb x_v11 a x_v10 d a_lanes lanes c_lanes)) be aj fun fw dk=>?_
     obtain⟨x25,ex25,f⟩:=Ap f
     obtain⟨d0,d6,en⟩:=Ak ex25
     obtain⟨q,s,e8,ch,ee,cq⟩:=hr_lanes.get (by decide) en
     obtain rfl:=ee
     have bi:=aj.addPlc (b:=q) (o:=s+(x_v11:Int).toNat*1) (cs:=[.int .i64 x25]) (fun j c hj=>cq j _ (Am hj)) rfl (by kernel_rfl) (by kernel_rfl)
     refine AG 2 (x_v11) [.int .i64 x25] (fun _ _ _ _ _ h=>h) rfl rfl (rfl) rfl (by decide) (by kernel_rfl) (by kernel_rfl) dk aj.plOk (by rfl) (by rfl) (by rfl) ch (by rfl) d0 d6 (by kernel_rfl) fun ex (dl:Kn 58 [(g,0),(q,s+(x_v11:Int).toNat*1)] ((tP 25 1 0)::(tI 24 x_v11)::(tS 23 a_lanes lanes.length c_lanes)::(Hb x_v11 a x_v10 d a_lanes lanes c_lanes)) ex)=>?_
     refine Dr [3,4,5,6,7] (dn 7) ((tI 30 (IntKind.i64.wrap (((y.room.length:Nat):Int)-1)))::(tI 26 x25)::(Hb x_v11 a x_v10 d a_lanes lanes c_lanes)) dl bi fun fx dm=>?_
     obtain⟨x31,ex31,f⟩:=Ap f
     refine Dl 8 fun K hK=>?_
     refine wc [.c (.int .i64 x25),.c (.int .i64 0),.c (.int .i64 (IntKind.i64.wrap (((y.room.length:Nat):Int)-1)))] dm bi (FG a3 bi.has x25 0 (IntKind.i64.wrap (((y.room.length:Nat):Int)-1)) ex31) fun f1 a6 f4 cd az al=>?_
     replace au:=au.mono az
     replace hr_lanes:=hr_lanes.mono az
     replace af:=af.mono az
     obtain rfl:=cd
     refine⟨.one (.c (.bool x31)),rfl,fun ez (dp:Kn 58 [(g,0),(q,s+(x_v11:Int).toNat*1)] ((tB 31 x31)::(tI 30 (IntKind.i64.wrap (((y.room.length:Nat):Int)-1)))::(tI 26 x25)::(Hb x_v11 a x_v10 d a_lanes lanes c_lanes)) ez)=>hK _ _ al.plOk ?_⟩
     refine Dr [9] (dn 9) ((tB 32 (!x31))::(Hb x_v11 a x_v10 d a_lanes lanes c_lanes)) dp al fun fy bf=>?_
     refine AU (by kernel_rfl) (wC ((!x31)) bf (fun ba=>?_) (fun ba=>?_))
     ·
      rw [ba,XW] at f
      refine XT (Aa (Rk 0 1 [tB 4 false] bf al fun fz dq=>?_))
      refine wf (wp_ret ?_)
      obtain rfl:=XZ f
      obtain rfl:=XZ H
      exact rt (.one (.c (.bool false))) dq al rfl
     ·
      rw [ba,XV] at f
      refine wp_skip (XT (Aa (Rk 0 3 ((tI 35 x_v11)::(tS 34 a_lanes lanes.length c_lanes)::(tS 33 a x_v10.length d)::(Hb x_v11 a x_v10 d a_lanes lanes c_lanes)) bf al fun f0 dr=>?_)))
      obtain⟨x36,ex36,f⟩:=Ap f
      obtain⟨d1,d7,eg⟩:=Ak ex36
      obtain⟨z,aa,e9,ci,ef,cr⟩:=hr_lanes.get (by decide) eg
      obtain rfl:=ef
      have bh:=al.addPlc (b:=z) (o:=aa+(x_v11:Int).toNat*1) (cs:=[.int .i64 x36]) (fun j c hj=>cr j _ (Am hj)) rfl (by kernel_rfl) (by kernel_rfl)
      refine AI 3 (x_v11) rfl rfl (rfl) rfl (by decide) dr (by rfl) (by rfl) (by rfl) ci (by rfl) d1 d7 (by kernel_rfl) fun ep (cu:Kn 58 [(g,0),(q,s+(x_v11:Int).toNat*1),(z,aa+(x_v11:Int).toNat*1)] ((tP 36 2 0)::(tI 35 x_v11)::(tS 34 a_lanes lanes.length c_lanes)::(tS 33 a x_v10.length d)::(Hb x_v11 a x_v10 d a_lanes lanes c_lanes)) ep)=>?_
      refine Rk 4 1 ((tI 37 x36)::(tS 33 a x_v10.length d)::(Hb x_v11 a x_v10 d a_lanes lanes c_lanes)) cu bh fun ff cv=>?_
      obtain⟨x38,ex38,f⟩:=Ap f
      obtain⟨b1,b4,eh⟩:=Ak ex38
      have ds:=A9 b1 b4
      obtain⟨e2,d8,cj⟩:=AB (sz:=1) rfl af eh
      obtain rfl:=d8
      obtain⟨ac,bs⟩:=AK bh (i:=0) rfl (b0:=0+(x36:Int).toNat*1) (Nat.lt_of_lt_of_le (Nat.lt_add_of_pos_right (by decide)) (Ay (sz:=1) rfl af ds))
      have a0:=bh.addPlc (b:=ac) (o:=0+(x36:Int).toNat*1) (cs:=[]) (fun j c hj=>by simp at hj) rfl (by kernel_rfl) (by kernel_rfl)
      have ck:∀ (e:AM) k c,([.int .i64 x38]:List SC)[k]? = some c→(u)[0+(x36:Int).toNat*1+k]? = some (c.den e):=fun e k c hk=>cj k _ (Am hk)
      refine AI 5 (x36) rfl rfl (rfl) rfl (by decide) cv (by rfl) (by rfl) (by rfl) bs (by rfl) b1 b4 (by kernel_rfl) fun er (cw:Kn 58 [(g,0),(q,s+(x_v11:Int).toNat*1),(z,aa+(x_v11:Int).toNat*1),(ac,0+(x36:Int).toNat*1)] ((tP 38 3 0)::(tI 37 x36)::(tS 33 a x_v10.length d)::(Hb x_v11 a x_v10 d a_lanes lanes c_lanes)) er)=>?_
      refine CY 6 2 [40,37,33,6,5,2,1] ((tI 40 (IntKind.i64.wrap (x38+1)))::(tI 37 x36)::(tS 33 a x_v10.length d)::(Hb x_v11 a x_v10 d a_lanes lanes c_lanes)) cw (A8.peek a0.plOk a0 0 3 rfl rfl bs [.int .i64 x38] (ck _)) (by kernel_rfl) fun fg cx=>?_
      obtain⟨x41,ex41,f⟩:=Ap f
      obtain⟨b2,b5,ei⟩:=Ak ex41
      have bg:=A9 b2 b5
      obtain⟨e3,d9,cl⟩:=AB (sz:=1) rfl af ei
      obtain rfl:=d9
      obtain⟨ae,bt⟩:=AK a0 (i:=0) rfl (b0:=0+(x36:Int).toNat*1) (Nat.lt_of_lt_of_le (Nat.lt_add_of_pos_right (by decide)) (Ay (sz:=1) rfl af bg))
      have du:=a0.addPlc (b:=ae) (o:=0+(x36:Int).toNat*1) (cs:=[]) (fun j c hj=>by simp at hj) rfl (by kernel_rfl) (by kernel_rfl)
      have fa:∀ (e:AM) k c,([.int .i64 x41]:List SC)[k]? = some c→(u)[0+(x36:Int).toNat*1+k]? = some (c.den e):=fun e k c hk=>cl k _ (Am hk)
      refine AI 8 (x36) rfl rfl (rfl) rfl (by decide) cx (by rfl) (by rfl) (by rfl) bt (by rfl) b2 b5 (by kernel_rfl) fun bk (cz:Kn 58 [(g,0),(q,s+(x_v11:Int).toNat*1),(z,aa+(x_v11:Int).toNat*1),(ac,0+(x36:Int).toNat*1),(ae,0+(x36:Int).toNat*1)] ((tP 41 4 0)::(tI 40 (IntKind.i64.wrap (x38+1)))::(tI 37 x36)::(tS 33 a x_v10.length d)::(Hb x_v11 a x_v10 d a_lanes lanes c_lanes)) bk)=>?_
      obtain⟨l,cc,f⟩:=Ap f
      obtain⟨fd,fe,b8⟩:=Cr cc
      refine wl fun K hK=>?_
      refine BA 0 4 0 (0+(x36:Int).toNat*1) (.c (.int .i64 (IntKind.i64.wrap (x38+1)))) cz du rfl rfl (by rfl) (by rfl) rfl rfl bt rfl (by kernel_rfl) (Ay (sz:=1) rfl af bg) fun e0 c0 dv=>?_
      have bb:Ah a6 l (u.take (0+(x36:Int).toNat*1+0)++([.int .i64 (IntKind.i64.wrap (x38+1))]:List Value)++u.drop (0+(x36:Int).toNat*1+0+1)):=by rw [b8]; exact CZ (sz:=1) rfl af bg (Ad:rep a6 (IntKind.i64.wrap (x38+1):Int) _)
      have bz:x_v10.length=l.length:=by rw [b8]; simp
      have c1:Kn 58 [(g,0),(q,s+(x_v11:Int).toNat*1),(z,aa+(x_v11:Int).toNat*1),(ac,0+(x36:Int).toNat*1),(ae,0+(x36:Int).toNat*1)] [(41,.one (.c (.ptr 4 0))),(40,.one (.c (.int .i64 (IntKind.i64.wrap (x38+1))))),(37,.one (.c (.int .i64 x36))),(33,.one (.c (.slice a l.length d))),(6,.one (.c (.int .i64 x_v11))),(5,.one (.c (.slice a l.length d))),(2,.one (.c (.ptr 0 0))),(1,.one (.c (.slice a_lanes lanes.length c_lanes)))] bk:=by rw [← bz]; exact c0
      have ap:Al ⟨w,h,AT⟩ a6 [(g,0),(q,s+(x_v11:Int).toNat*1),(z,aa+(x_v11:Int).toNat*1),(ac,0+(x36:Int).toNat*1),(ae,0+(x36:Int).toNat*1)] [⟨[.slice m y.room.length p,.slice ab y.buses.length ad,.int .i64 y.broken],some 25⟩,⟨[.int .i64 x25],none⟩,⟨[.int .i64 x36],none⟩,⟨[],none⟩,⟨[],none⟩] [⟨a,l.length,d,3,1,u.take (0+(x36:Int).toNat*1+0)++([.int .i64 (IntKind.i64.wrap (x38+1))]:List Value)++u.drop (0+(x36:Int).toNat*1+0+1),0⟩] e0:=by rw [← bz]; exact dv
      refine hK _ _ ?_
      have c2:Kn 58 [(g,0),(q,s+(x_v11:Int).toNat*1),(z,aa+(x_v11:Int).toNat*1),(ac,0+(x36:Int).toNat*1),(ae,0+(x36:Int).toNat*1)] ((tI 6 x_v11)::(tS 5 a l.length d)::(Fo a_lanes lanes c_lanes)) bk:=c1.kp
      refine wf (XT (Ax (by kernel_rfl) ?_))
      replace ap:=ap.drew
      refine A5 [] [(g,0),(q,s+(x_v11:Int).toNat*1),(z,aa+(x_v11:Int).toNat*1),(ac,0+(x36:Int).toNat*1),(ae,0+(x36:Int).toNat*1)] [⟨N7 m y p ab ad,some 25⟩,⟨[.int .i64 x25],none⟩,⟨[.int .i64 x36],none⟩,⟨[],none⟩,⟨[],none⟩] ?_
      refine Dr [0,1,2] [2,1,0] ((tI 44 x_v11)::(tS 43 a_lanes lanes.length c_lanes)::(tS 42 a l.length d)::(tI 6 x_v11)::(tS 5 a l.length d)::(Fo a_lanes lanes c_lanes)) c2 ap fun fj c3=>?_
      obtain⟨x45,ex45,f⟩:=Ap f
      obtain⟨dw,d2,ej⟩:=Ak ex45
      obtain⟨an,av,e4,ce,ea,cm⟩:=hr_lanes.get (by decide) ej
      obtain rfl:=ea
      have a1:=ap.addPlc (b:=an) (o:=av+(x_v11:Int).toNat*1) (cs:=[.int .i64 x45]) (fun j c hj=>cm j _ (Am hj)) rfl (by kernel_rfl) (by kernel_rfl)
      refine AG 3 (x_v11) [.int .i64 x45] (fun _ _ _ _ _ h=>h) rfl rfl (rfl) rfl (by decide) (by kernel_rfl) (by kernel_rfl) c3 ap.plOk (by rfl) (by rfl) (by rfl) ce (by rfl) dw d2 (by kernel_rfl) fun es (c4:Kn 58 [(g,0),(q,s+(x_v11:Int).toNat*1),(z,aa+(x_v11:Int).toNat*1),(ac,0+(x36:Int).toNat*1),(ae,0+(x36:Int).toNat*1),(an,av+(x_v11:Int).toNat*1)] ((tP 45 5 0)::(tI 44 x_v11)::(tS 43 a_lanes lanes.length c_lanes)::(tS 42 a l.length d)::(tI 6 x_v11)::(tS 5 a l.length d)::(Fo a_lanes lanes c_lanes)) es)=>?_
      refine Dr [4] (dn 4) ((tI 46 x45)::(tS 42 a l.length d)::(tI 6 x_v11)::(tS 5 a l.length d)::(Fo a_lanes lanes c_lanes)) c4 a1 fun fk c5=>?_
      obtain⟨x47,ex47,f⟩:=Ap f
      obtain⟨b3,b6,ek⟩:=Ak ex47
      have dt:=A9 b3 b6
      obtain⟨e5,eb,cn⟩:=AB (sz:=1) rfl bb ek
      obtain rfl:=eb
      obtain⟨aw,ag⟩:=AK a1 (i:=0) rfl (b0:=0+(x45:Int).toNat*1) (Nat.lt_of_lt_of_le (Nat.lt_add_of_pos_right (by decide)) (Ay (sz:=1) rfl bb dt))
      have aq:=a1.addPlc (b:=aw) (o:=0+(x45:Int).toNat*1) (cs:=[]) (fun j c hj=>by simp at hj) rfl (by kernel_rfl) (by kernel_rfl)
      have ai:∀ (e:AM) k c,([.int .i64 x47]:List SC)[k]? = some c→((u.take (0+(x36:Int).toNat*1+0)++([.int .i64 (IntKind.i64.wrap (x38+1))]:List Value)++u.drop (0+(x36:Int).toNat*1+0+1)))[0+(x45:Int).toNat*1+k]? = some (c.den e):=fun e k c hk=>cn k _ (Am hk)
      refine AG 5 (x45) [.int .i64 x47] (fun _ _ _ _ _ h=>h) rfl rfl (rfl) rfl (by decide) (by kernel_rfl) (by kernel_rfl) c5 a1.plOk (by rfl) (by rfl) (by rfl) ag (by rfl) b3 b6 (by kernel_rfl) fun et (c6:Kn 58 [(g,0),(q,s+(x_v11:Int).toNat*1),(z,aa+(x_v11:Int).toNat*1),(ac,0+(x36:Int).toNat*1),(ae,0+(x36:Int).toNat*1),(an,av+(x_v11:Int).toNat*1),(aw,0+(x45:Int).toNat*1)] ((tP 47 6 0)::(tI 46 x45)::(tS 42 a l.length d)::(tI 6 x_v11)::(tS 5 a l.length d)::(Fo a_lanes lanes c_lanes)) et)=>?_
      refine Dz [6,7,8,9,10] [10,9,8,7,6,5,4,3,2,1,0] [52,51,50,48,6,5,2,1] ((tI 52 x_v11)::(tS 51 a_lanes lanes.length c_lanes)::(tS 50 m y.room.length p)::(tI 48 x47)::(tI 6 x_v11)::(tS 5 a l.length d)::(Fo a_lanes lanes c_lanes)) (fun _ _ _ _ _ h=>h) c6 (A8.peek aq.plOk aq 0 6 rfl rfl ag [.int .i64 x47] (ai _)) (by kernel_rfl) (by rfl) (by kernel_rfl) fun fm c7=>?_
      obtain⟨x53,ex53,f⟩:=Ap f
      obtain⟨dx,d3,el⟩:=Ak ex53
      obtain⟨a5,bj,e6,cf,ec,co⟩:=hr_lanes.get (by decide) el
      obtain rfl:=ec
      have ar:=aq.addPlc (b:=a5) (o:=bj+(x_v11:Int).toNat*1) (cs:=[.int .i64 x53]) (fun j c hj=>co j _ (Am hj)) rfl (by kernel_rfl) (by kernel_rfl)
      refine AG 11 (x_v11) [.int .i64 x53] (fun _ _ _ _ _ h=>h) rfl rfl (rfl) rfl (by decide) (by kernel_rfl) (by kernel_rfl) c7 (A8.peek aq.plOk aq 0 6 rfl rfl ag [.int .i64 x47] (ai _)) (by rfl) (by rfl) (by rfl) cf (by rfl) dx d3 (by kernel_rfl) fun eu (c9:Kn 58 [(g,0),(q,s+(x_v11:Int).toNat*1),(z,aa+(x_v11:Int).toNat*1),(ac,0+(x36:Int).toNat*1),(ae,0+(x36:Int).toNat*1),(an,av+(x_v11:Int).toNat*1),(aw,0+(x45:Int).toNat*1),(a5,bj+(x_v11:Int).toNat*1)] ((tP 53 7 0)::(tI 52 x_v11)::(tS 51 a_lanes lanes.length c_lanes)::(tS 50 m y.room.length p)::(tI 48 x47)::(tI 6 x_v11)::(tS 5 a l.length d)::(Fo a_lanes lanes c_lanes)) eu)=>?_
      refine Dz [12] [12,11,10,9,8,7,6,5,4,3,2,1,0] [54,50,48,6,5,2,1] ((tI 54 x53)::(tS 50 m y.room.length p)::(tI 48 x47)::(tI 6 x_v11)::(tS 5 a l.length d)::(Fo a_lanes lanes c_lanes)) (fun _ _ _ _ _ h=>h) c9 (A8.peek ar.plOk ar 0 6 rfl rfl ag [.int .i64 x47] (ai _)) (by kernel_rfl) (by rfl) (by kernel_rfl) fun fn da=>?_
      obtain⟨x55,ex55,f⟩:=Ap f
      obtain⟨dy,d4,em⟩:=Ak ex55
      obtain⟨bp,cb,e7,cg,ed,cp⟩:=au.get (by decide) em
      obtain rfl:=ed
      have ah:=ar.addPlc (b:=bp) (o:=cb+(x53:Int).toNat*1) (cs:=[.int .i64 x55]) (fun j c hj=>cp j _ (Am hj)) rfl (by kernel_rfl) (by kernel_rfl)
      refine AG 13 (x53) [.int .i64 x55] (fun _ _ _ _ _ h=>h) rfl rfl (rfl) rfl (by decide) (by kernel_rfl) (by kernel_rfl) da (A8.peek ar.plOk ar 0 6 rfl rfl ag [.int .i64 x47] (ai _)) (by rfl) (by rfl) (by rfl) cg (by rfl) dy d4 (by kernel_rfl) fun ev (dc:Kn 58 [(g,0),(q,s+(x_v11:Int).toNat*1),(z,aa+(x_v11:Int).toNat*1),(ac,0+(x36:Int).toNat*1),(ae,0+(x36:Int).toNat*1),(an,av+(x_v11:Int).toNat*1),(aw,0+(x45:Int).toNat*1),(a5,bj+(x_v11:Int).toNat*1),(bp,cb+(x53:Int).toNat*1)] ((tP 55 8 0)::(tI 54 x53)::(tS 50 m y.room.length p)::(tI 48 x47)::(tI 6 x_v11)::(tS 5 a l.length d)::(Fo a_lanes lanes c_lanes)) ev)=>?_
      refine Dz [14,15] [15,14,13,12,11,10,9,8,7,6,5,4,3,2,1,0] [57,6,5,2,1] ((tB 57 (decide (x47>x55)))::(tI 6 x_v11)::(tS 5 a l.length d)::(Fo a_lanes lanes c_lanes)) (fun _ _ _ _ _ h=>h) dc (A8.peek ah.plOk ah 0 6 rfl rfl ag [.int .i64 x47] (ai _)) (by kernel_rfl) (by rfl) (by kernel_rfl) fun fp bd=>?_
      refine AU (by kernel_rfl) (wC (decide (x47>x55)) bd (fun a8=>?_) (fun a8=>?_))
      ·
       rw [a8,XW] at f
       refine XT (Aa (CY 0 1 [4] [tB 4 false] bd (A8.peek ah.plOk ah 0 6 rfl rfl ag [.int .i64 x47] (ai _)) (by kernel_rfl) fun fq dd=>?_))
       refine wf (wp_ret ?_)
       obtain rfl:=XZ f
       obtain rfl:=XZ H
       exact rt (.one (.c (.bool false))) dd ah rfl
      ·
       rw [a8,XV] at f
       refine wp_skip (Aa (CY 0 3 [6,5,2,1] ((tI 6 (IntKind.i64.wrap (x_v11+1)))::(tS 5 a l.length d)::(Fo a_lanes lanes c_lanes)) bd (A8.peek ah.plOk ah 0 6 rfl rfl ag [.int .i64 x47] (ai _)) (by kernel_rfl) fun fr de=>?_))
       refine wf ?_
       exact XY a3 ⟨Nat.lt_succ_self _,XY l ⟨IntKind.i64.wrap (x_v11+1),a,d,u.take (0+(x36:Int).toNat*1+0)++([.int .i64 (IntKind.i64.wrap (x38+1))]:List Value)++u.drop (0+(x36:Int).toNat*1+0+1),_,_,rfl,(de.keep [6,5,2,1] (by rfl)).cut 1 (by kernel_rfl),ah.cutPl 1 (by kernel_rfl),XU ao az,bb,f⟩⟩
    ·
     rw [a9,XV] at f
     refine wp_exit ?_
     obtain rfl:=XZ f
     exact XY x_v10 ⟨a,d,u,_,_,rfl,be.kp,aj,ao,af,rfl⟩
  ·
   rintro _ f2 ⟨a4,bo,bq,bn,bl,ax,rfl,df,bx,fc,fb,rfl⟩
   rw [Ex.bind_go] at H
   refine XT (Aa (Rk 0 1 [tB 4 true] df bx fun fs dg=>?_))
   refine wf (wp_ret ?_)
   obtain rfl:=XZ H
   exact rt (.one (.c (.bool true))) dg bx rfl
abbrev O7 (i:Option Addr) (y:Ag) (l:Nat) (k:Option Addr) (m:Nat):List SC:=[.slice i y.room.length l,.slice k y.buses.length m,.int .i64 y.broken]
abbrev EB (x_v10:Int) (a_broken:Option Addr) (broken:List Int) (c_broken:Nat):TM:=[tI 5 x_v10,tP 2 0 0,tS 1 a_broken broken.length c_broken]
set_option maxRecDepth 100000 in
set_option maxHeartbeats 4000000 in
theorem HI (n:Nat) {h:Ac} {w:World} (hh:D7 h w) (y:Ag) {cs_y:List Value} (hx_y:rep h y cs_y) (broken:List Int) {a_broken:Option Addr} {c_broken:Nat} (hr_broken:A6 h a_broken c_broken broken) {r:Bool} (H:DX n y broken=some r) :
  Calls Try.prog 36 #[.agg cs_y.toArray,.slice a_broken broken.length c_broken] w (DA (fun h v=>v=.bool r) h w):=by
 obtain⟨_,_,rfl,⟨i,l,rfl,az⟩,⟨_,_,rfl,⟨k,m,rfl,a0⟩,rfl⟩⟩:=hx_y
 refine enter 43 [.agg (O7 i y l k m),.c (.slice a_broken broken.length c_broken)] Try.func36 rfl rfl rfl rfl fun t hk=>?_
 have hm:=Al.begin h w hh
 unfold DX at H
 refine XT (Aa (wl fun K hK=>?_))
 refine wb (.agg (O7 i y l k m)) hk hm fun d cd c5 (bd:Kn 43 [(d,0)] [tP 2 0 0,tA 0 (O7 i y l k m),tS 1 a_broken broken.length c_broken] cd) ai=>hK _ _ ?_
 refine Rk 1 1 [tP 2 0 0,tS 1 a_broken broken.length c_broken] bd ai fun cq bk=>?_
 refine wf (XT (XT (Aa (Rk 0 1 [tI 5 0,tP 2 0 0,tS 1 a_broken broken.length c_broken] bk ai fun cr bl=>?_))))
 refine wf ?_
 obtain⟨a1,ap,H⟩:=Ap H
 refine Au (fun a' w'=>∃ (a3:Unit)(am:Array Value)(ab:Ac),a' = ⟨am,[]⟩∧Kn 43 [(d,0)] [tP 2 0 0,tS 1 a_broken broken.length c_broken] am∧Al ⟨w,h,AT⟩ ab [(d,0)] [⟨O7 i y l k m,some 25⟩] [] w'∧Ac.le h ab∧a1=.go a3) ?_ ?_
 ·
  refine wp_block ?_
  refine A3 (fun ca a' w'=>∃ (x_v10:Int)(an:Array Value)(ac:Ac),a' = ⟨an,[]⟩∧Kn 43 [(d,0)] (EB x_v10 a_broken broken c_broken) an∧Al ⟨w,h,AT⟩ ac [(d,0)] [⟨O7 i y l k m,some 25⟩] [] w'∧Ac.le h ac∧BX ca y broken x_v10=some a1) n ?_ ?_
  ·
   exact XY 0 ⟨_,_,rfl,bl.kp,ai,Ac.le_refl _,ap⟩
  ·
   rintro z _ c3 ⟨x_v10,an,ac,rfl,bm,p,q,a⟩
   clear ap
   obtain _ | z:=z
   ·
    rw [BX] at a; cases a
   rw [BX] at a
   replace az:=az.mono q
   replace a0:=a0.mono q
   replace hr_broken:=hr_broken.mono q
   refine XT (XT (Aa (Rk 0 4 ((tB 9 (decide (x_v10<((broken.length:Nat):Int))))::(EB x_v10 a_broken broken c_broken)) bm p fun ct ag=>?_)))
   refine wf (wC (decide (x_v10<((broken.length:Nat):Int))) ag (fun ae=>?_) (fun ae=>?_))
   ·
    rw [ae,XW] at a
    refine wp_skip (XT (wp_block (XT (Ax (by kernel_rfl) ?_))))
    replace p:=p.drew
    refine A5 [] [(d,0)] [⟨O7 i y l k m,some 25⟩] ?_
    refine Dr [0,1] [1,0] ((tI 13 x_v10)::(tS 12 a_broken broken.length c_broken)::(EB x_v10 a_broken broken c_broken)) ag p fun cu bn=>?_
    obtain⟨x14,ex14,a⟩:=Ap a
    obtain⟨bx,b1,b7⟩:=Ak ex14
    obtain⟨f,g,cg,a7,b4,ba⟩:=hr_broken.get (by decide) b7
    obtain rfl:=b4
    have aj:=p.addPlc (b:=f) (o:=g+(x_v10:Int).toNat*1) (cs:=[.int .i64 x14]) (fun j c hj=>ba j _ (Am hj)) rfl (by kernel_rfl) (by kernel_rfl)
    refine AG 2 (x_v10) [.int .i64 x14] (fun _ _ _ _ _ h=>h) rfl rfl (rfl) rfl (by decide) (by kernel_rfl) (by kernel_rfl) bn p.plOk (by rfl) (by rfl) (by rfl) a7 (by rfl) bx b1 (by kernel_rfl) fun cb (bo:Kn 43 [(d,0),(f,g+(x_v10:Int).toNat*1)] ((tP 14 1 0)::(tI 13 x_v10)::(tS 12 a_broken broken.length c_broken)::(EB x_v10 a_broken broken c_broken)) cb)=>?_
    refine Dr [3,4,5,6,7] (dn 7) ((tI 19 (IntKind.i64.wrap (((y.buses.length:Nat):Int)-1)))::(tI 15 x14)::(EB x_v10 a_broken broken c_broken)) bo aj fun cv bp=>?_
    obtain⟨x20,ex20,a⟩:=Ap a
    refine Dl 8 fun K hK=>?_
    refine wc [.c (.int .i64 x14),.c (.int .i64 0),.c (.int .i64 (IntKind.i64.wrap (((y.buses.length:Nat):Int)-1)))] bp aj (FG z aj.has x14 0 (IntKind.i64.wrap (((y.buses.length:Nat):Int)-1)) ex20) fun c1 cj c4 a6 ah e=>?_
    replace hr_broken:=hr_broken.mono ah
    obtain rfl:=a6
    refine⟨.one (.c (.bool x20)),rfl,fun cc (bq:Kn 43 [(d,0),(f,g+(x_v10:Int).toNat*1)] ((tB 20 x20)::(tI 19 (IntKind.i64.wrap (((y.buses.length:Nat):Int)-1)))::(tI 15 x14)::(EB x_v10 a_broken broken c_broken)) cc)=>hK _ _ e.plOk ?_⟩
    refine Dr [9,10] (dn 10) ((tB 22 (!x20))::(EB x_v10 a_broken broken c_broken)) bq e fun a4 ar=>?_
    rcases Bool.eq_false_or_eq_true ((!x20)) with s | s
    ·
     rw [s,XW] at a
     have br:Kn 43 [(d,0),(f,g+(x_v10:Int).toNat*1)] ((tB 22 true)::(EB x_v10 a_broken broken c_broken)) a4:=(ar.setB 22 true (by rfl) s).kp
     refine Dr [11,12,13,14,15,16,17,18,19,20,21,22,23,24,25] (dn 25) ((tB 37 true)::(EB x_v10 a_broken broken c_broken)) br e fun cw au=>?_
     refine AU (by kernel_rfl) (wC true au (fun hb=>?_) (fun hb=>?_))
     rotate_left
     ·
      cases hb
     refine XT (Aa (Rk 0 1 [tB 4 false] au e fun cx bs=>?_))
     refine wf (wp_ret ?_)
     obtain rfl:=XZ a
     obtain rfl:=XZ H
     exact rt (.one (.c (.bool false))) bs e rfl
    ·
     rw [s,XV] at a
     have bt:Kn 43 [(d,0),(f,g+(x_v10:Int).toNat*1)] ((tB 22 false)::(EB x_v10 a_broken broken c_broken)) a4:=(ar.setB 22 false (by rfl) s).kp
     refine Dr [11,12,13] (dn 13) ((tB 25 (decide (x_v10>0)))::(tB 22 false)::(EB x_v10 a_broken broken c_broken)) bt e fun a5 av=>?_
     rcases Bool.eq_false_or_eq_true (decide (x_v10>0)) with u | u
     ·
      rw [u,XW] at a
      have bu:Kn 43 [(d,0),(f,g+(x_v10:Int).toNat*1)] ((tB 25 true)::(tB 22 false)::(EB x_v10 a_broken broken c_broken)) a5:=(av.setB 25 true (by rfl) u).kp
      refine Dr [14,15] (dn 15) ((tI 27 x_v10)::(tS 26 a_broken broken.length c_broken)::(tB 25 true)::(tB 22 false)::(EB x_v10 a_broken broken c_broken)) bu e fun cy aw=>?_
      obtain⟨x28,ex28,a⟩:=Ap a
      obtain⟨bz,b2,b8⟩:=Ak ex28
      obtain⟨aa,al,ch,a8,b5,bb⟩:=hr_broken.get (by decide) b8
      obtain rfl:=b5
      have ak:=e.addPlc (b:=aa) (o:=al+(x_v10:Int).toNat*1) (cs:=[.int .i64 x28]) (fun j c hj=>bb j _ (Am hj)) rfl (by kernel_rfl) (by kernel_rfl)
      refine AG 16 (x_v10) [.int .i64 x28] (fun _ _ _ _ _ h=>h) rfl rfl (Aj aw (by kernel_rfl)) rfl (by decide) (by kernel_rfl) (by kernel_rfl) aw e.plOk (by rfl) (by rfl) (by rfl) a8 (by rfl) bz b2 (by kernel_rfl) fun ce (bv:Kn 43 [(d,0),(f,g+(x_v10:Int).toNat*1),(aa,al+(x_v10:Int).toNat*1)] ((tP 28 2 0)::(tI 27 x_v10)::(tS 26 a_broken broken.length c_broken)::(tB 25 true)::(tB 22 false)::(EB x_v10 a_broken broken c_broken)) ce)=>?_
      refine Dr [17,18,19,20] (dn 20) ((tI 32 (IntKind.i64.wrap (x_v10-1)))::(tS 30 a_broken broken.length c_broken)::(tI 29 x28)::(tB 25 true)::(tB 22 false)::(EB x_v10 a_broken broken c_broken)) bv ak fun cz ax=>?_
      obtain⟨x33,ex33,a⟩:=Ap a
      obtain⟨b0,b3,b9⟩:=Ak ex33
      obtain⟨ao,a2,ci,a9,b6,bc⟩:=hr_broken.get (by decide) b9
      obtain rfl:=b6
      have x:=ak.addPlc (b:=ao) (o:=a2+(IntKind.i64.wrap (x_v10-1):Int).toNat*1) (cs:=[.int .i64 x33]) (fun j c hj=>bc j _ (Am hj)) rfl (by kernel_rfl) (by kernel_rfl)
      refine AG 21 (IntKind.i64.wrap (x_v10-1)) [.int .i64 x33] (fun _ _ _ _ _ h=>h) rfl rfl (Aj ax (by kernel_rfl)) rfl (by decide) (by kernel_rfl) (by kernel_rfl) ax ak.plOk (by rfl) (by rfl) (by rfl) a9 (by rfl) b0 b3 (by kernel_rfl) fun cf (bw:Kn 43 [(d,0),(f,g+(x_v10:Int).toNat*1),(aa,al+(x_v10:Int).toNat*1),(ao,a2+(IntKind.i64.wrap (x_v10-1):Int).toNat*1)] ((tP 33 3 0)::(tI 32 (IntKind.i64.wrap (x_v10-1)))::(tS 30 a_broken broken.length c_broken)::(tI 29 x28)::(tB 25 true)::(tB 22 false)::(EB x_v10 a_broken broken c_broken)) cf)=>?_
      refine Dr [22,23,24,25] (dn 25) ((tB 37 (decide (x28≤x33)))::(EB x_v10 a_broken broken c_broken)) bw x fun c0 af=>?_
      refine AU (by kernel_rfl) (wC (decide (x28≤x33)) af (fun ad=>?_) (fun ad=>?_))
      ·
       rw [ad,XW] at a
       refine XT (Aa (Rk 0 1 [tB 4 false] af x fun cl be=>?_))
       refine wf (wp_ret ?_)
       obtain rfl:=XZ a
       obtain rfl:=XZ H
       exact rt (.one (.c (.bool false))) be x rfl
      ·
       rw [ad,XV] at a
       refine wp_skip (Aa (Rk 0 3 [tI 5 (IntKind.i64.wrap (x_v10+1)),tP 2 0 0,tS 1 a_broken broken.length c_broken] af x fun cm bf=>?_))
       refine wf ?_
       exact XY z ⟨Nat.lt_succ_self _,XY (IntKind.i64.wrap (x_v10+1)) ⟨_,_,rfl,(bf.keep [5,2,1] (by rfl)).cut 1 (by kernel_rfl),x.cutPl 1 (by kernel_rfl),XU q ah,a⟩⟩
     ·
      rw [u,XV] at a
      have bg:Kn 43 [(d,0),(f,g+(x_v10:Int).toNat*1)] ((tB 25 false)::(tB 22 false)::(EB x_v10 a_broken broken c_broken)) a5:=(av.setB 25 false (by rfl) u).kp
      refine Dr [14,15,16,17,18,19,20,21,22,23,24,25] (dn 25) ((tB 37 false)::(EB x_v10 a_broken broken c_broken)) bg e fun cn aq=>?_
      refine AU (by kernel_rfl) (wC false aq (fun hb=>?_) (fun hb=>?_))
      ·
       cases hb
      refine wp_skip (Aa (Rk 0 3 [tI 5 (IntKind.i64.wrap (x_v10+1)),tP 2 0 0,tS 1 a_broken broken.length c_broken] aq e fun co bh=>?_))
      refine wf ?_
      exact XY z ⟨Nat.lt_succ_self _,XY (IntKind.i64.wrap (x_v10+1)) ⟨_,_,rfl,(bh.keep [5,2,1] (by rfl)).cut 1 (by kernel_rfl),e.cutPl 1 (by kernel_rfl),XU q ah,a⟩⟩
   ·
    rw [ae,XV] at a
    refine wp_exit ?_
    obtain rfl:=XZ a
    exact XY () ⟨_,_,rfl,ag.kp,p,q,rfl⟩
 ·
  rintro _ c2 ⟨a3,am,ab,rfl,bi,ay,ck,rfl⟩
  rw [Ex.bind_go] at H
  refine XT (Aa (Rk 0 6 [tB 4 (decide (((broken.length:Nat):Int)≤y.broken))] bi ay fun cp bj=>?_))
  refine wf (wp_ret ?_)
  obtain rfl:=XZ H
  exact rt (.one (.c (.bool (decide (((broken.length:Nat):Int)≤y.broken))))) bj ay rfl
end Go.Proofs.Ythcbemnflgjadaa
