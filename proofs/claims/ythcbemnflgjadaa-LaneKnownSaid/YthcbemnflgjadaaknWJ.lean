/- Each call computes its plain function. -/
import Derived.Test.YthcbemnflgjadaaProg
import Derived.Test.YthcbemnflgjadaaknP0
import Derived.Test.YthcbemnflgjadaaknWI
set_option linter.all false
namespace Go.Proofs.Ythcbemnflgjadaa
open Go Go.RowKit
open Rep (rep)
open KRep (kv)
open VRep (rv)
abbrev Hc (s:Option Addr) (y:Ag) (u:Nat) (m:Option Addr) (p:Nat):List SC:=[.slice s y.room.length u,.slice m y.buses.length p,.int .i64 y.broken]
abbrev Gm (x_v21:Int) (d:Option Addr) (x_v20:List Int) (f:Nat) (x_v11:Int) (a_broken:Option Addr) (broken:List Int) (c_broken:Nat):TM:=[tI 7 x_v21,tS 5 d x_v20.length f,tI 6 x_v11,tP 2 0 0,tS 1 a_broken broken.length c_broken]
abbrev EA (a_broken:Option Addr) (broken:List Int) (c_broken:Nat):TM:=[tP 2 0 0,tS 1 a_broken broken.length c_broken]
abbrev Oz (x_v21:Int) (d:Option Addr) (x_v20:List Int) (f:Nat) (x_v11:Int) (a_broken:Option Addr) (broken:List Int) (c_broken:Nat):TM:=(tI 55 (IntKind.i64.wrap (x_v21-1)))::(tS 53 d x_v20.length f)::(tI 52 x_v21)::(tS 51 d x_v20.length f)::(Gm x_v21 d x_v20 f x_v11 a_broken broken c_broken)
set_option maxRecDepth 100000 in
set_option maxHeartbeats 4000000 in
theorem OX (n:Nat) {h:Ac} {w:World} (hh:Dz h w) (y:Ag) {cs_y:List Value} (hx_y:rep h y cs_y) (broken:List Int) {a_broken:Option Addr} {c_broken:Nat} (hr_broken:A5 h a_broken c_broken broken) {r:List Int} (H:GL n y broken=some r) :
  Calls Try.prog 31 #[.agg cs_y.toArray,.slice a_broken broken.length c_broken] w (DI (fun h v=>∃ a c,v=.slice a r.length c∧A5 h a c r) h w):=by
 obtain⟨_,_,rfl,⟨s,u,rfl,a2⟩,⟨_,_,rfl,⟨m,p,rfl,am⟩,rfl⟩⟩:=hx_y
 refine enter 68 [.agg (Hc s y u m p),.c (.slice a_broken broken.length c_broken)] Try.func31 rfl rfl rfl rfl fun t hk=>?_
 have hm:=Am.begin h w hh
 unfold GL at H
 refine XT (Aa (wl fun K hK=>?_))
 refine wb (.agg (Hc s y u m p)) hk hm fun g gm gq (d9:Kn 68 [(g,0)] [tP 2 0 0,tA 0 (Hc s y u m p),tS 1 a_broken broken.length c_broken] gm) br=>hK _ _ ?_
 refine Rk 1 1 (EA a_broken broken c_broken) d9 br fun g8 ed=>?_
 refine wf (XT (Aa (Rk 0 1 ((tS 5 none 0 0)::(EA a_broken broken c_broken)) ed br fun ha ef=>?_)))
 refine wf (XT (XT (Aa (Rk 0 1 ((tI 6 0)::(tS 5 none 0 0)::(EA a_broken broken c_broken)) ef br fun hd ei=>?_))))
 refine wf ?_
 have fk:Am ⟨w,h,AP⟩ h [(g,0)] [⟨Hc s y u m p,some 25⟩] [⟨none,0,0,3,1,[],0⟩] gq:=br.nilRow 3 1
 have d1:Ah h ([]:List Int) []:=Ah.nil
 obtain⟨an,co,H⟩:=Aq H
 refine Au (fun a' w'=>∃ (ao:Option Addr)(aq:Nat)(bh:List Value)(cj:Array Value)(bl:Ac),a' = ⟨cj,[]⟩∧Kn 68 [(g,0)] [tS 5 ao an.length aq] cj∧Am ⟨w,h,AP⟩ bl [(g,0)] [⟨Hc s y u m p,some 25⟩] [⟨ao,an.length,aq,3,1,bh,0⟩] w'∧Ac.le h bl∧Ah bl an bh) ?_ ?_
 ·
  refine wp_block ?_
  refine Ay (fun gb a' w'=>∃ (x_v10:List Int)(x_v11:Int)(aa:Option Addr)(ab:Nat)(aw:List Value)(ck:Array Value)(bm:Ac),a' = ⟨ck,[]⟩∧Kn 68 [(g,0)] ((tI 6 x_v11)::(tS 5 aa x_v10.length ab)::(EA a_broken broken c_broken)) ck∧Am ⟨w,h,AP⟩ bm [(g,0)] [⟨Hc s y u m p,some 25⟩] [⟨aa,x_v10.length,ab,3,1,aw,0⟩] w'∧Ac.le h bm∧Ah bm x_v10 aw∧CJ gb y broken x_v10 x_v11=some an) n ?_ ?_
  ·
   exact XY ([]:List Int) ⟨0,none,0,[],_,_,rfl,ei.kp,fk,Ac.le_refl _,d1,co⟩
  ·
   rintro a3 _ h1 ⟨x_v10,x_v11,aa,ab,aw,ck,bm,rfl,e4,bg,ay,bd,x⟩
   clear co
   obtain _ | a3:=a3
   ·
    rw [CJ] at x; cases x
   rw [CJ] at x
   replace a2:=a2.mono ay
   replace am:=am.mono ay
   replace hr_broken:=hr_broken.mono ay
   refine XT (XT (Aa (Rk 0 5 ((tB 12 (decide (x_v11<((y.buses.length:Nat):Int))))::(tI 6 x_v11)::(tS 5 aa x_v10.length ab)::(EA a_broken broken c_broken)) e4 bg fun hr b6=>?_)))
   refine wf (wC (decide (x_v11<((y.buses.length:Nat):Int))) b6 (fun b1=>?_) (fun b1=>?_))
   ·
    rw [b1,XW] at x
    refine wp_skip (XT (wp_block (XT (XT (Aa (Rk 0 2 ((tI 16 x_v11)::(tS 15 a_broken broken.length c_broken)::(tI 6 x_v11)::(tS 5 aa x_v10.length ab)::(EA a_broken broken c_broken)) b6 bg fun hs e5=>?_))))))
    obtain⟨x17,ex17,x⟩:=Aq x
    refine wl fun K hK=>?_
    refine wc [.c (.slice a_broken broken.length c_broken),.c (.int .i64 x_v11)] e5 bg (QM a3 bg.has broken hr_broken x_v11 ex17) fun hx a9 h2 dt az bt=>?_
    replace a2:=a2.mono az
    replace am:=am.mono az
    replace hr_broken:=hr_broken.mono az
    replace bd:=bd.mono az
    obtain rfl:=dt
    refine⟨.one (.c (.bool x17)),rfl,fun dp (e6:Kn 68 [(g,0)] ((tB 17 x17)::(tI 16 x_v11)::(tS 15 a_broken broken.length c_broken)::(tI 6 x_v11)::(tS 5 aa x_v10.length ab)::(EA a_broken broken c_broken)) dp)=>hK _ _ ?_⟩
    have b7:Kn 68 [(g,0)] ((tB 17 x17)::(tI 6 x_v11)::(tS 5 aa x_v10.length ab)::(EA a_broken broken c_broken)) dp:=e6.kp
    refine wf (wC (x17) b7 (fun b2=>?_) (fun b2=>?_))
    ·
     rw [Br b2] at x
     refine wp_exit (Aa (Rk 0 3 ((tI 6 (IntKind.i64.wrap (x_v11+1)))::(tS 5 aa x_v10.length ab)::(EA a_broken broken c_broken)) b7 bt fun ht e7=>?_))
     refine wf ?_
     exact XY a3 ⟨Nat.lt_succ_self _,XY x_v10 ⟨IntKind.i64.wrap (x_v11+1),aa,ab,aw,_,_,rfl,e7.kp,bt,XU ay az,bd,x⟩⟩
    ·
     rw [Bs b2] at x
     refine wp_skip (XT (Aa (Rk 0 2 ((tI 19 x_v11)::(tS 18 aa x_v10.length ab)::(tI 6 x_v11)::(EA a_broken broken c_broken)) b7 bt fun hu e8=>?_)))
     refine wl fun K hK=>?_
     refine wS 3 1 [.int .i64 x_v11] e8 bt fun ap gk h3 (e9:Kn 68 [(g,0)] ((tS 20 ap 1 1)::(tI 19 x_v11)::(tS 18 aa x_v10.length ab)::(tI 6 x_v11)::(EA a_broken broken c_broken)) gk) c2=>?_
     have be:Ah a9 ([x_v11]:List Int) ([.int .i64 x_v11]:List Value):=⟨_,_,rfl,(Ad:rep a9 (x_v11:Int) _),rfl⟩
     refine hK _ _ ?_
     obtain⟨x21,ex21,x⟩:=Aq x
     obtain⟨cf,fh⟩:=Ce ex21
     refine wl fun K hK=>?_
     refine BG 0 8 1 _ (x21.length) _ ([.int .i64 x_v11]:List Value) e9 c2 rfl rfl (by decide) rfl (by rfl) (by kernel_rfl) (by rfl) (by rfl) (Ah.len be) (c2.rowCell (i:=1) rfl) be.one (by rw [cf]; simp <;> omega) (by rw [cf]; exact fh) (by decide) fun bi bk ds gl h4 d8 (fa:Kn 68 [(g,0)] ((tS 21 bi x21.length bk)::(tS 20 ap 1 1)::(tI 19 x_v11)::(tS 18 aa x_v10.length ab)::(tI 6 x_v11)::(EA a_broken broken c_broken)) gl) ce=>?_
     have d6:Ah a9 x21 (aw++([.int .i64 x_v11]:List Value)):=by rw [cf]; exact Ah.append bd be
     obtain rfl:ds=0:=Nat.le_zero.1 d8
     refine hK _ _ ?_
     refine Rk 4 1 ((tS 5 bi x21.length bk)::(tI 6 x_v11)::(EA a_broken broken c_broken)) fa ce fun hv fb=>?_
     refine wf (XT (Aa (Rk 0 4 ((tI 7 (IntKind.i64.wrap (((x21.length:Nat):Int)-1)))::(tS 5 bi x21.length bk)::(tI 6 x_v11)::(EA a_broken broken c_broken)) fb ce fun hw fc=>?_)))
     refine wf ?_
     obtain⟨a4,cp,x⟩:=Aq x
     refine Au (fun a' w'=>∃ (a5:Option Addr)(a8:Nat)(bv:List Value)(cl:Array Value)(bn:Ac),a' = ⟨cl,[]⟩∧Kn 68 [(g,0)] ((tS 5 a5 a4.length a8)::(tI 6 x_v11)::(EA a_broken broken c_broken)) cl∧Am ⟨w,h,AP⟩ bn [(g,0)] [⟨Hc s y u m p,some 25⟩] [⟨a5,a4.length,a8,3,1,bv,0⟩,⟨ap,1,1,3,1,([.int .i64 x_v11]:List Value),0⟩] w'∧Ac.le a9 bn∧Ah bn a4 bv) ?_ ?_
     ·
      refine wp_block ?_
      refine Ay (fun gc a' w'=>∃ (x_v20:List Int)(x_v21:Int)(d:Option Addr)(f:Nat)(l:List Value)(cm:Array Value)(ba:Ac),a' = ⟨cm,[]⟩∧Kn 68 [(g,0)] (Gm x_v21 d x_v20 f x_v11 a_broken broken c_broken) cm∧Am ⟨w,h,AP⟩ ba [(g,0)] [⟨Hc s y u m p,some 25⟩] [⟨d,x_v20.length,f,3,1,l,0⟩,⟨ap,1,1,3,1,([.int .i64 x_v11]:List Value),0⟩] w'∧Ac.le a9 ba∧Ah ba x_v20 l∧CI gc y x_v20 x_v21=some a4) a3 ?_ ?_
      ·
       exact XY x21 ⟨IntKind.i64.wrap (((x21.length:Nat):Int)-1),bi,bk,aw++([.int .i64 x_v11]:List Value),_,_,rfl,fc.kp,ce,Ac.le_refl _,d6,cp⟩
      ·
       rintro cg _ hy ⟨x_v20,x_v21,d,f,l,cm,ba,rfl,ea,ai,ax,z,q⟩
       clear cp
       obtain _ | cg:=cg
       ·
        rw [CI] at q; cases q
       rw [CI] at q
       replace a2:=a2.mono ax
       replace am:=am.mono ax
       replace hr_broken:=hr_broken.mono ax
       replace be:=be.mono ax
       refine XT (XT ?_)
       obtain⟨dj,ac,q⟩:=Aq q
       refine Au (fun a' w'=>∃ (ch:Array Value)(ah:Ac),a' = ⟨ch,[]⟩∧Kn 68 [(g,0)] [tI 7 x_v21,tS 5 d x_v20.length f,tI 6 x_v11,tP 2 0 0,tS 1 a_broken broken.length c_broken,tB 48 dj] ch∧Am ⟨w,h,AP⟩ ah [(g,0)] [⟨Hc s y u m p,some 25⟩] [⟨d,x_v20.length,f,3,1,l,0⟩,⟨ap,1,1,3,1,([.int .i64 x_v11]:List Value),0⟩] w'∧Ac.le ba ah) ?_ ?_
       ·
        refine As (by kernel_rfl) ?_
        replace ai:=ai.drew
        refine Aw [] [(g,0)] [⟨Hc s y u m p,some 25⟩] ?_
        refine Dr [0,1,2] [2,1,0] ((tB 27 (decide (x_v21>0)))::(Gm x_v21 d x_v20 f x_v11 a_broken broken c_broken)) ea ai fun dl cv=>?_
        rcases Bool.eq_false_or_eq_true (decide (x_v21>0)) with bc | bc
        ·
         rw [bc,XW] at ac
         have eb:Kn 68 [(g,0)] ((tB 27 true)::(Gm x_v21 d x_v20 f x_v11 a_broken broken c_broken)) dl:=(cv.setB 27 true (by rfl) bc).kp
         refine Dr [3,4,5,6] (dn 6) ((tI 31 x_v21)::(tS 30 d x_v20.length f)::(tS 29 m y.buses.length p)::(tB 27 true)::(Gm x_v21 d x_v20 f x_v11 a_broken broken c_broken)) eb ai fun g7 cw=>?_
         obtain⟨x32,ex32,ac⟩:=Aq ac
         obtain⟨c5,db,f3⟩:=Ak ex32
         have fd:=AG c5 db
         obtain⟨gr,fv,dw⟩:=AL (sz:=1) rfl z f3
         obtain rfl:=fv
         obtain⟨a6,ak⟩:=AV ai (i:=0) rfl (b0:=0+(x_v21:Int).toNat*1) (Nat.lt_of_lt_of_le (Nat.lt_add_of_pos_right (by decide)) (A0 (sz:=1) rfl z fd))
         have bf:=ai.addPlc (b:=a6) (o:=0+(x_v21:Int).toNat*1) (cs:=[]) (fun j c hj=>by simp at hj) rfl (by kernel_rfl) (by kernel_rfl)
         have ar:∀ (e:AJ) k c,([.int .i64 x32]:List SC)[k]? = some c→(l)[0+(x_v21:Int).toNat*1+k]? = some (c.den e):=fun e k c hk=>dw k _ (Al hk)
         refine A6 7 (x_v21) [.int .i64 x32] (fun _ _ _ _ _ h=>h) rfl rfl (Aj cw (by kernel_rfl)) rfl (by decide) (by kernel_rfl) (by kernel_rfl) cw ai.plOk (by rfl) (by rfl) (by rfl) ak (by rfl) c5 db (by kernel_rfl) fun gd (ec:Kn 68 [(g,0),(a6,0+(x_v21:Int).toNat*1)] ((tP 32 1 0)::(tI 31 x_v21)::(tS 30 d x_v20.length f)::(tS 29 m y.buses.length p)::(tB 27 true)::(Gm x_v21 d x_v20 f x_v11 a_broken broken c_broken)) gd)=>?_
         refine CA [8] [8,7,6,5,4,3,2,1,0] [33,29,27,7,5,6,2,1] ((tI 33 x32)::(tS 29 m y.buses.length p)::(tB 27 true)::(Gm x_v21 d x_v20 f x_v11 a_broken broken c_broken)) (fun _ _ _ _ _ h=>h) ec (A9.peek bf.plOk bf 0 1 rfl rfl ak [.int .i64 x32] (ar _)) (by kernel_rfl) (by rfl) (by kernel_rfl) fun g9 cx=>?_
         obtain⟨x34,ex34,ac⟩:=Aq ac
         obtain⟨fp,fr,f4⟩:=Ak ex34
         obtain⟨bj,bu,gs,du,fw,dx⟩:=am.get (by decide) f4
         obtain⟨_,_,rfl,rfl,⟨_,_,rfl,rfl,rfl⟩⟩:=fw
         have a0:=bf.addPlc (b:=bj) (o:=bu+(x32:Int).toNat*3) (cs:=[.int .i64 x34.lo,.int .i64 x34.hi,.int .i64 x34.turn]) (fun j c hj=>dx j _ (Al hj)) rfl (by kernel_rfl) (by kernel_rfl)
         refine A6 9 (x32) [.int .i64 x34.lo,.int .i64 x34.hi,.int .i64 x34.turn] (fun _ _ _ _ _ h=>h) rfl rfl (Aj cx (by kernel_rfl)) rfl (by decide) (by kernel_rfl) (by kernel_rfl) cx (A9.peek bf.plOk bf 0 1 rfl rfl ak [.int .i64 x32] (ar _)) (by rfl) (by rfl) (by rfl) du (by rfl) fp fr (by kernel_rfl) fun gf (ee:Kn 68 [(g,0),(a6,0+(x_v21:Int).toNat*1),(bj,bu+(x32:Int).toNat*3)] ((tP 34 2 0)::(tI 33 x32)::(tS 29 m y.buses.length p)::(tB 27 true)::(Gm x_v21 d x_v20 f x_v11 a_broken broken c_broken)) gf)=>?_
         refine CA [10,11,12,13,14,15,16] [16,15,14,13,12,11,10,9,8,7,6,5,4,3,2,1,0] [41,39,38,36,27,7,5,6,2,1] ((tI 41 (IntKind.i64.wrap (x_v21-1)))::(tS 39 d x_v20.length f)::(tS 38 m y.buses.length p)::(tI 36 x34.turn)::(tB 27 true)::(Gm x_v21 d x_v20 f x_v11 a_broken broken c_broken)) (fun _ _ _ _ _ h=>h) ee (A9.peek a0.plOk a0 0 1 rfl rfl ak [.int .i64 x32] (ar _)) (by kernel_rfl) (by rfl) (by kernel_rfl) fun hb cy=>?_
         obtain⟨x42,ex42,ac⟩:=Aq ac
         obtain⟨c6,dc,f5⟩:=Ak ex42
         have fe:=AG c6 dc
         obtain⟨gu,fx,dy⟩:=AL (sz:=1) rfl z f5
         obtain rfl:=fx
         obtain⟨bw,bo⟩:=AV a0 (i:=0) rfl (b0:=0+(IntKind.i64.wrap (x_v21-1):Int).toNat*1) (Nat.lt_of_lt_of_le (Nat.lt_add_of_pos_right (by decide)) (A0 (sz:=1) rfl z fe))
         have au:=a0.addPlc (b:=bw) (o:=0+(IntKind.i64.wrap (x_v21-1):Int).toNat*1) (cs:=[]) (fun j c hj=>by simp at hj) rfl (by kernel_rfl) (by kernel_rfl)
         have b3:∀ (e:AJ) k c,([.int .i64 x42]:List SC)[k]? = some c→(l)[0+(IntKind.i64.wrap (x_v21-1):Int).toNat*1+k]? = some (c.den e):=fun e k c hk=>dy k _ (Al hk)
         refine A6 17 (IntKind.i64.wrap (x_v21-1)) [.int .i64 x42] (fun _ _ _ _ _ h=>h) rfl rfl (Aj cy (by kernel_rfl)) rfl (by decide) (by kernel_rfl) (by kernel_rfl) cy (A9.peek a0.plOk a0 0 1 rfl rfl ak [.int .i64 x32] (ar _)) (by rfl) (by rfl) (by rfl) bo (by rfl) c6 dc (by kernel_rfl) fun gg (eg:Kn 68 [(g,0),(a6,0+(x_v21:Int).toNat*1),(bj,bu+(x32:Int).toNat*3),(bw,0+(IntKind.i64.wrap (x_v21-1):Int).toNat*1)] ((tP 42 3 0)::(tI 41 (IntKind.i64.wrap (x_v21-1)))::(tS 39 d x_v20.length f)::(tS 38 m y.buses.length p)::(tI 36 x34.turn)::(tB 27 true)::(Gm x_v21 d x_v20 f x_v11 a_broken broken c_broken)) gg)=>?_
         refine CA [18] [18,17,16,15,14,13,12,11,10,9,8,7,6,5,4,3,2,1,0] [43,38,36,27,7,5,6,2,1] ((tI 43 x42)::(tS 38 m y.buses.length p)::(tI 36 x34.turn)::(tB 27 true)::(Gm x_v21 d x_v20 f x_v11 a_broken broken c_broken)) (fun _ _ _ _ _ h=>h) eg (A9.peek (A9.peek au.plOk au 0 1 rfl rfl ak [.int .i64 x32] (ar _)) au 0 3 rfl rfl bo [.int .i64 x42] (b3 _)) (by kernel_rfl) (by rfl) (by kernel_rfl) fun hc cz=>?_
         obtain⟨x44,ex44,ac⟩:=Aq ac
         obtain⟨fq,fs,f6⟩:=Ak ex44
         obtain⟨cn,dk,gv,dv,fy,dz⟩:=am.get (by decide) f6
         obtain⟨_,_,rfl,rfl,⟨_,_,rfl,rfl,rfl⟩⟩:=fy
         have bs:=au.addPlc (b:=cn) (o:=dk+(x42:Int).toNat*3) (cs:=[.int .i64 x44.lo,.int .i64 x44.hi,.int .i64 x44.turn]) (fun j c hj=>dz j _ (Al hj)) rfl (by kernel_rfl) (by kernel_rfl)
         refine A6 19 (x42) [.int .i64 x44.lo,.int .i64 x44.hi,.int .i64 x44.turn] (fun _ _ _ _ _ h=>h) rfl rfl (Aj cz (by kernel_rfl)) rfl (by decide) (by kernel_rfl) (by kernel_rfl) cz (A9.peek (A9.peek au.plOk au 0 1 rfl rfl ak [.int .i64 x32] (ar _)) au 0 3 rfl rfl bo [.int .i64 x42] (b3 _)) (by rfl) (by rfl) (by rfl) dv (by rfl) fq fs (by kernel_rfl) fun gh (eh:Kn 68 [(g,0),(a6,0+(x_v21:Int).toNat*1),(bj,bu+(x32:Int).toNat*3),(bw,0+(IntKind.i64.wrap (x_v21-1):Int).toNat*1),(cn,dk+(x42:Int).toNat*3)] ((tP 44 4 0)::(tI 43 x42)::(tS 38 m y.buses.length p)::(tI 36 x34.turn)::(tB 27 true)::(Gm x_v21 d x_v20 f x_v11 a_broken broken c_broken)) gh)=>?_
         refine CA [20,21,22,23] [23,22,21,20,19,18,17,16,15,14,13,12,11,10,9,8,7,6,5,4,3,2,1,0] [48,7,5,6,2,1] ((tB 48 (decide (x34.turn<x44.turn)))::(Gm x_v21 d x_v20 f x_v11 a_broken broken c_broken)) (fun _ _ _ _ _ h=>h) eh (A9.peek (A9.peek bs.plOk bs 0 1 rfl rfl ak [.int .i64 x32] (ar _)) bs 0 3 rfl rfl bo [.int .i64 x42] (b3 _)) (by kernel_rfl) (by rfl) (by kernel_rfl) fun he ej=>?_
         refine AQ (by kernel_rfl) ?_
         obtain rfl:=XZ ac
         exact XY _ ⟨_,rfl,(ej.keep [7,5,6,2,1,48] (by rfl)).cut 1 (by kernel_rfl),bs.cutPl 1 (by kernel_rfl),Ac.le_refl _⟩
        ·
         rw [bc,XV] at ac
         have ek:Kn 68 [(g,0)] ((tB 27 false)::(Gm x_v21 d x_v20 f x_v11 a_broken broken c_broken)) dl:=(cv.setB 27 false (by rfl) bc).kp
         refine Dr [3,4,5,6,7,8,9,10,11,12,13,14,15,16,17,18,19,20,21,22,23] (dn 23) ((tB 48 false)::(Gm x_v21 d x_v20 f x_v11 a_broken broken c_broken)) ek ai fun hf el=>?_
         refine AQ (by kernel_rfl) ?_
         obtain rfl:=XZ ac
         exact XY _ ⟨_,rfl,el.kp,ai,Ac.le_refl _⟩
       ·
        rintro _ hz ⟨ch,ah,rfl,b5,av,ca⟩
        replace z:=z.mono ca
        refine wC (dj) b5 (fun bz=>?_) (fun bz=>?_)
        ·
         rw [Br bz] at q
         refine wp_skip (XT (wp_block (As (by kernel_rfl) ?_)))
         replace av:=av.drew
         refine Aw [] [(g,0)] [⟨Hc s y u m p,some 25⟩] ?_
         refine Dr [0,1,2,3,4,5,6,7] (dn 7) ((tI 58 (IntKind.i64.wrap (x_v21-1)))::(tS 56 d x_v20.length f)::(Oz x_v21 d x_v20 f x_v11 a_broken broken c_broken)) b5 av fun hg em=>?_
         obtain⟨x59,ex59,q⟩:=Aq q
         obtain⟨c7,dd,f7⟩:=Ak ex59
         have ff:=AG c7 dd
         obtain⟨gw,fz,d0⟩:=AL (sz:=1) rfl z f7
         obtain rfl:=fz
         obtain⟨ad,bb⟩:=AV av (i:=0) rfl (b0:=0+(IntKind.i64.wrap (x_v21-1):Int).toNat*1) (Nat.lt_of_lt_of_le (Nat.lt_add_of_pos_right (by decide)) (A0 (sz:=1) rfl z ff))
         have a1:=av.addPlc (b:=ad) (o:=0+(IntKind.i64.wrap (x_v21-1):Int).toNat*1) (cs:=[]) (fun j c hj=>by simp at hj) rfl (by kernel_rfl) (by kernel_rfl)
         have bp:∀ (e:AJ) k c,([.int .i64 x59]:List SC)[k]? = some c→(l)[0+(IntKind.i64.wrap (x_v21-1):Int).toNat*1+k]? = some (c.den e):=fun e k c hk=>d0 k _ (Al hk)
         refine A6 8 (IntKind.i64.wrap (x_v21-1)) [.int .i64 x59] (fun _ _ _ _ _ h=>h) rfl rfl (rfl) rfl (by decide) (by kernel_rfl) (by kernel_rfl) em av.plOk (by rfl) (by rfl) (by rfl) bb (by rfl) c7 dd (by kernel_rfl) fun gi (en:Kn 68 [(g,0),(ad,0+(IntKind.i64.wrap (x_v21-1):Int).toNat*1)] ((tP 59 1 0)::(tI 58 (IntKind.i64.wrap (x_v21-1)))::(tS 56 d x_v20.length f)::(Oz x_v21 d x_v20 f x_v11 a_broken broken c_broken)) gi)=>?_
         refine CA [9,10,11] [11,10,9,8,7,6,5,4,3,2,1,0] [62,61,60,55,53,52,51,7,5,6,2,1] ((tI 62 x_v21)::(tS 61 d x_v20.length f)::(tI 60 x59)::(Oz x_v21 d x_v20 f x_v11 a_broken broken c_broken)) (fun _ _ _ _ _ h=>h) en (A9.peek a1.plOk a1 0 1 rfl rfl bb [.int .i64 x59] (bp _)) (by kernel_rfl) (by rfl) (by kernel_rfl) fun hl eo=>?_
         obtain⟨x63,ex63,q⟩:=Aq q
         obtain⟨c8,de,f8⟩:=Ak ex63
         have fg:=AG c8 de
         obtain⟨gx,f0,d2⟩:=AL (sz:=1) rfl z f8
         obtain rfl:=f0
         obtain⟨ae,bx⟩:=AV a1 (i:=0) rfl (b0:=0+(x_v21:Int).toNat*1) (Nat.lt_of_lt_of_le (Nat.lt_add_of_pos_right (by decide)) (A0 (sz:=1) rfl z fg))
         have al:=a1.addPlc (b:=ae) (o:=0+(x_v21:Int).toNat*1) (cs:=[]) (fun j c hj=>by simp at hj) rfl (by kernel_rfl) (by kernel_rfl)
         have cu:∀ (e:AJ) k c,([.int .i64 x63]:List SC)[k]? = some c→(l)[0+(x_v21:Int).toNat*1+k]? = some (c.den e):=fun e k c hk=>d2 k _ (Al hk)
         refine A6 12 (x_v21) [.int .i64 x63] (fun _ _ _ _ _ h=>h) rfl rfl (rfl) rfl (by decide) (by kernel_rfl) (by kernel_rfl) eo (A9.peek a1.plOk a1 0 1 rfl rfl bb [.int .i64 x59] (bp _)) (by rfl) (by rfl) (by rfl) bx (by rfl) c8 de (by kernel_rfl) fun gj (ep:Kn 68 [(g,0),(ad,0+(IntKind.i64.wrap (x_v21-1):Int).toNat*1),(ae,0+(x_v21:Int).toNat*1)] ((tP 63 2 0)::(tI 62 x_v21)::(tS 61 d x_v20.length f)::(tI 60 x59)::(Oz x_v21 d x_v20 f x_v11 a_broken broken c_broken)) gj)=>?_
         refine CA [13] [13,12,11,10,9,8,7,6,5,4,3,2,1,0] [64,60,55,53,52,51,7,5,6,2,1] ((tI 64 x63)::(tI 60 x59)::(Oz x_v21 d x_v20 f x_v11 a_broken broken c_broken)) (fun _ _ _ _ _ h=>h) ep (A9.peek (A9.peek al.plOk al 0 1 rfl rfl bb [.int .i64 x59] (bp _)) al 0 2 rfl rfl bx [.int .i64 x63] (cu _)) (by kernel_rfl) (by rfl) (by kernel_rfl) fun hn er=>?_
         obtain⟨x65,ex65,q⟩:=Aq q
         obtain⟨c9,df,f9⟩:=Ak ex65
         have b8:=AG c9 df
         obtain⟨gy,f1,d3⟩:=AL (sz:=1) rfl z f9
         obtain rfl:=f1
         obtain⟨ag,cr⟩:=AV al (i:=0) rfl (b0:=0+(x_v21:Int).toNat*1) (Nat.lt_of_lt_of_le (Nat.lt_add_of_pos_right (by decide)) (A0 (sz:=1) rfl z b8))
         have fl:=al.addPlc (b:=ag) (o:=0+(x_v21:Int).toNat*1) (cs:=[]) (fun j c hj=>by simp at hj) rfl (by kernel_rfl) (by kernel_rfl)
         have g0:∀ (e:AJ) k c,([.int .i64 x65]:List SC)[k]? = some c→(l)[0+(x_v21:Int).toNat*1+k]? = some (c.den e):=fun e k c hk=>d3 k _ (Al hk)
         refine A6 14 (x_v21) [.int .i64 x65] (fun _ _ _ _ _ h=>h) rfl rfl (rfl) rfl (by decide) (by kernel_rfl) (by kernel_rfl) er (A9.peek (A9.peek al.plOk al 0 1 rfl rfl bb [.int .i64 x59] (bp _)) al 0 2 rfl rfl bx [.int .i64 x63] (cu _)) (by rfl) (by rfl) (by rfl) cr (by rfl) c9 df (by kernel_rfl) fun dm (es:Kn 68 [(g,0),(ad,0+(IntKind.i64.wrap (x_v21-1):Int).toNat*1),(ae,0+(x_v21:Int).toNat*1),(ag,0+(x_v21:Int).toNat*1)] ((tP 65 3 0)::(tI 64 x63)::(tI 60 x59)::(Oz x_v21 d x_v20 f x_v11 a_broken broken c_broken)) dm)=>?_
         obtain⟨af,dq,q⟩:=Aq q
         obtain⟨g3,g5,dh⟩:=BR dq
         refine CM 15 rfl (by kernel_rfl) (by decide) (rfl) (by kernel_rfl) fun K hK=>?_
         refine Bg 0 3 0 (0+(x_v21:Int).toNat*1) (.c (.int .i64 x59)) es fl rfl rfl (by rfl) (by rfl) rfl rfl cr rfl (by kernel_rfl) (A0 (sz:=1) rfl z b8) fun gn et fm=>?_
         have bq:Ah ah af (l.take (0+(x_v21:Int).toNat*1+0)++([.int .i64 x59]:List Value)++l.drop (0+(x_v21:Int).toNat*1+0+1)):=by rw [dh]; exact Dm (sz:=1) rfl z b8 (Ad:rep ah (x59:Int) _)
         have c3:x_v20.length=af.length:=by rw [dh]; simp
         have eu:Kn 68 [(g,0),(ad,0+(IntKind.i64.wrap (x_v21-1):Int).toNat*1),(ae,0+(x_v21:Int).toNat*1),(ag,0+(x_v21:Int).toNat*1)] [(65,.one (.c (.ptr 3 0))),(64,.one (.c (.int .i64 x63))),(60,.one (.c (.int .i64 x59))),(55,.one (.c (.int .i64 (IntKind.i64.wrap (x_v21-1))))),(53,.one (.c (.slice d af.length f))),(52,.one (.c (.int .i64 x_v21))),(51,.one (.c (.slice d af.length f))),(7,.one (.c (.int .i64 x_v21))),(5,.one (.c (.slice d af.length f))),(6,.one (.c (.int .i64 x_v11))),(2,.one (.c (.ptr 0 0))),(1,.one (.c (.slice a_broken broken.length c_broken)))] dm:=by rw [← c3]; exact et
         have cb:Am ⟨w,h,AP⟩ ah [(g,0),(ad,0+(IntKind.i64.wrap (x_v21-1):Int).toNat*1),(ae,0+(x_v21:Int).toNat*1),(ag,0+(x_v21:Int).toNat*1)] [⟨[.slice s y.room.length u,.slice m y.buses.length p,.int .i64 y.broken],some 25⟩,⟨[],none⟩,⟨[],none⟩,⟨[],none⟩] [⟨d,af.length,f,3,1,l.take (0+(x_v21:Int).toNat*1+0)++([.int .i64 x59]:List Value)++l.drop (0+(x_v21:Int).toNat*1+0+1),0⟩,⟨ap,1,1,3,1,([.int .i64 x_v11]:List Value),0⟩] gn:=by rw [← c3]; exact fm
         refine hK _ _ ?_
         refine Aw [] [(g,0),(ad,0+(IntKind.i64.wrap (x_v21-1):Int).toNat*1),(ae,0+(x_v21:Int).toNat*1),(ag,0+(x_v21:Int).toNat*1)] [⟨Hc s y u m p,some 25⟩,⟨[],none⟩,⟨[],none⟩,⟨[],none⟩] ?_
         obtain⟨x66,ex66,q⟩:=Aq q
         obtain⟨da,dg,ga⟩:=Ak ex66
         have b9:=AG da dg
         obtain⟨gz,f2,d4⟩:=AL (sz:=1) rfl bq ga
         obtain rfl:=f2
         obtain⟨a7,ct⟩:=AV cb (i:=0) rfl (b0:=0+(IntKind.i64.wrap (x_v21-1):Int).toNat*1) (Nat.lt_of_lt_of_le (Nat.lt_add_of_pos_right (by decide)) (A0 (sz:=1) rfl bq b9))
         have fn:=cb.addPlc (b:=a7) (o:=0+(IntKind.i64.wrap (x_v21-1):Int).toNat*1) (cs:=[]) (fun j c hj=>by simp at hj) rfl (by kernel_rfl) (by kernel_rfl)
         have g1:∀ (e:AJ) k c,([.int .i64 x66]:List SC)[k]? = some c→((l.take (0+(x_v21:Int).toNat*1+0)++([.int .i64 x59]:List Value)++l.drop (0+(x_v21:Int).toNat*1+0+1)))[0+(IntKind.i64.wrap (x_v21-1):Int).toNat*1+k]? = some (c.den e):=fun e k c hk=>d4 k _ (Al hk)
         refine A6 16 (IntKind.i64.wrap (x_v21-1)) [.int .i64 x66] (fun _ _ _ _ _ h=>h) rfl rfl (rfl) rfl (by decide) (by kernel_rfl) (by kernel_rfl) eu cb.plOk (by rfl) (by rfl) (by rfl) ct (by rfl) da dg (by kernel_rfl) fun ci (ev:Kn 68 [(g,0),(ad,0+(IntKind.i64.wrap (x_v21-1):Int).toNat*1),(ae,0+(x_v21:Int).toNat*1),(ag,0+(x_v21:Int).toNat*1),(a7,0+(IntKind.i64.wrap (x_v21-1):Int).toNat*1)] ((tP 66 4 0)::(tP 65 3 0)::(tI 64 x63)::(tI 60 x59)::(tI 55 (IntKind.i64.wrap (x_v21-1)))::(tS 53 d af.length f)::(tI 52 x_v21)::(tS 51 d af.length f)::(tI 7 x_v21)::(tS 5 d af.length f)::(tI 6 x_v11)::(EA a_broken broken c_broken)) ci)=>?_
         obtain⟨aj,dr,q⟩:=Aq q
         obtain⟨g4,g6,di⟩:=BR dr
         refine CM 17 rfl (by kernel_rfl) (by decide) (rfl) (by kernel_rfl) fun K hK=>?_
         refine Bg 0 4 0 (0+(IntKind.i64.wrap (x_v21-1):Int).toNat*1) (.c (.int .i64 x63)) ev fn rfl rfl (by rfl) (by rfl) rfl rfl ct rfl (by kernel_rfl) (A0 (sz:=1) rfl bq b9) fun go ew fo=>?_
         have d5:Ah ah aj ((l.take (0+(x_v21:Int).toNat*1+0)++([.int .i64 x59]:List Value)++l.drop (0+(x_v21:Int).toNat*1+0+1)).take (0+(IntKind.i64.wrap (x_v21-1):Int).toNat*1+0)++([.int .i64 x63]:List Value)++(l.take (0+(x_v21:Int).toNat*1+0)++([.int .i64 x59]:List Value)++l.drop (0+(x_v21:Int).toNat*1+0+1)).drop (0+(IntKind.i64.wrap (x_v21-1):Int).toNat*1+0+1)):=by rw [di]; exact Dm (sz:=1) rfl bq b9 (Ad:rep ah (x63:Int) _)
         have c4:af.length=aj.length:=by rw [di]; simp
         have ex:Kn 68 [(g,0),(ad,0+(IntKind.i64.wrap (x_v21-1):Int).toNat*1),(ae,0+(x_v21:Int).toNat*1),(ag,0+(x_v21:Int).toNat*1),(a7,0+(IntKind.i64.wrap (x_v21-1):Int).toNat*1)] [(66,.one (.c (.ptr 4 0))),(65,.one (.c (.ptr 3 0))),(64,.one (.c (.int .i64 x63))),(60,.one (.c (.int .i64 x59))),(55,.one (.c (.int .i64 (IntKind.i64.wrap (x_v21-1))))),(53,.one (.c (.slice d aj.length f))),(52,.one (.c (.int .i64 x_v21))),(51,.one (.c (.slice d aj.length f))),(7,.one (.c (.int .i64 x_v21))),(5,.one (.c (.slice d aj.length f))),(6,.one (.c (.int .i64 x_v11))),(2,.one (.c (.ptr 0 0))),(1,.one (.c (.slice a_broken broken.length c_broken)))] ci:=by rw [← c4]; exact ew
         have c0:Am ⟨w,h,AP⟩ ah [(g,0),(ad,0+(IntKind.i64.wrap (x_v21-1):Int).toNat*1),(ae,0+(x_v21:Int).toNat*1),(ag,0+(x_v21:Int).toNat*1),(a7,0+(IntKind.i64.wrap (x_v21-1):Int).toNat*1)] [⟨[.slice s y.room.length u,.slice m y.buses.length p,.int .i64 y.broken],some 25⟩,⟨[],none⟩,⟨[],none⟩,⟨[],none⟩,⟨[],none⟩] [⟨d,aj.length,f,3,1,(l.take (0+(x_v21:Int).toNat*1+0)++([.int .i64 x59]:List Value)++l.drop (0+(x_v21:Int).toNat*1+0+1)).take (0+(IntKind.i64.wrap (x_v21-1):Int).toNat*1+0)++([.int .i64 x63]:List Value)++(l.take (0+(x_v21:Int).toNat*1+0)++([.int .i64 x59]:List Value)++l.drop (0+(x_v21:Int).toNat*1+0+1)).drop (0+(IntKind.i64.wrap (x_v21-1):Int).toNat*1+0+1),0⟩,⟨ap,1,1,3,1,([.int .i64 x_v11]:List Value),0⟩] go:=by rw [← c4]; exact fo
         refine hK _ _ ?_
         have ey:Kn 68 [(g,0),(ad,0+(IntKind.i64.wrap (x_v21-1):Int).toNat*1),(ae,0+(x_v21:Int).toNat*1),(ag,0+(x_v21:Int).toNat*1),(a7,0+(IntKind.i64.wrap (x_v21-1):Int).toNat*1)] ((tI 7 x_v21)::(tS 5 d aj.length f)::(tI 6 x_v11)::(EA a_broken broken c_broken)) ci:=ex.kp
         refine Gy (by kernel_rfl) (Aa (Rk 0 3 ((tI 7 (IntKind.i64.wrap (x_v21-1)))::(tS 5 d aj.length f)::(tI 6 x_v11)::(EA a_broken broken c_broken)) ey c0 fun ho ez=>?_))
         refine wf ?_
         exact XY cg ⟨Nat.lt_succ_self _,XY aj ⟨IntKind.i64.wrap (x_v21-1),d,f,(l.take (0+(x_v21:Int).toNat*1+0)++([.int .i64 x59]:List Value)++l.drop (0+(x_v21:Int).toNat*1+0+1)).take (0+(IntKind.i64.wrap (x_v21-1):Int).toNat*1+0)++([.int .i64 x63]:List Value)++(l.take (0+(x_v21:Int).toNat*1+0)++([.int .i64 x59]:List Value)++l.drop (0+(x_v21:Int).toNat*1+0+1)).drop (0+(IntKind.i64.wrap (x_v21-1):Int).toNat*1+0+1),_,_,rfl,(ez.keep [7,5,6,2,1] (by rfl)).cut 1 (by kernel_rfl),c0.cutPl 1 (by kernel_rfl),XU ax ca,d5,q⟩⟩
        ·
         rw [Bs bz] at q
         refine wp_exit ?_
         obtain rfl:=XZ q
         exact XY d ⟨f,l,_,_,rfl,b5.kp,av,XU ax ca,z⟩
     ·
      rintro _ h0 ⟨a5,a8,bv,cl,bn,rfl,e0,c1,fi,d7⟩
      refine Aa (Rk 0 3 ((tI 6 (IntKind.i64.wrap (x_v11+1)))::(tS 5 a5 a4.length a8)::(EA a_broken broken c_broken)) e0 c1 fun hp e1=>?_)
      refine wf ?_
      exact XY a3 ⟨Nat.lt_succ_self _,XY a4 ⟨IntKind.i64.wrap (x_v11+1),a5,a8,bv,_,_,rfl,e1.kp,c1.cutRw 1,XU ay (XU az fi),d7,x⟩⟩
   ·
    rw [b1,XV] at x
    refine wp_exit ?_
    obtain rfl:=XZ x
    exact XY aa ⟨ab,aw,_,_,rfl,b6.kp,bg,ay,bd⟩
 ·
  rintro _ gp ⟨ao,aq,bh,cj,bl,rfl,e2,cc,g2,b4⟩
  refine XT (Aa (Rk 0 2 [tS 4 ao an.length aq] e2 cc fun hq e3=>?_))
  refine wf (wp_ret ?_)
  obtain⟨cq,fj,fu,cd⟩:=cc.settle (i:=0) rfl
  replace b4:=b4.mono fj
  replace cd:Am ⟨w,h,AP⟩ cq [(g,0)] [⟨Hc s y u m p,some 25⟩] [⟨ao,an.length,aq,3,1,bh,(bh:List Value).length⟩] gp:=cd
  have ft:A5 cq ao aq an:=⟨_,b4,fu,cc.rowCap (i:=0) rfl⟩
  obtain rfl:=XZ H
  exact rt (.one (.c (.slice ao an.length aq))) e3 cd ⟨_,_,rfl,ft⟩
end Go.Proofs.Ythcbemnflgjadaa
