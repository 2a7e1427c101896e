/- Each call computes its plain function. -/
import Derived.Test.YthcbemnflgjadaaGreatProg
import Derived.Shelf.Small.Bits
import Derived.Test.YthcbemnflgjadaaGreatzbP0
import Derived.Test.YthcbemnflgjadaaGreatzbS6
set_option linter.all false
namespace Go.Proofs.YthcbemnflgjadaaGreat
open Go Go.RowKit
open Rep (rep)
open KRep (kv)
open VRep (rv)
abbrev GL (x_v11:Int) (a_data:Option Addr) (data:List Int) (c_data:Nat) (a b:Int) (fn_cmp:Fn) (fa_cmp fc_cmp:Array Value):TM:=[tI 8 x_v11,tS 0 a_data data.length c_data,tI 1 a,tI 2 b,(3,.one (.c (.func fn_cmp fa_cmp fc_cmp)))]
abbrev NT (x_v21:Int) (a_data:Option Addr) (data:List Int) (c_data:Nat) (x_v11 a b:Int) (fn_cmp:Fn) (fa_cmp fc_cmp:Array Value):TM:=(tI 41 (IntKind.i64.wrap (x_v21-1)))::(tS 39 a_data data.length c_data)::(tI 38 x_v21)::(tS 37 a_data data.length c_data)::(tI 9 x_v21)::(GL x_v11 a_data data c_data a b fn_cmp fa_cmp fc_cmp)
abbrev Ph (fn_cmp:Fn) (fa_cmp fc_cmp:Array Value) (x_v21 x_v11:Int) (a_data:Option Addr) (data:List Int) (c_data:Nat) (a b:Int):TM:=(22,.one (.c (.func fn_cmp fa_cmp fc_cmp)))::(tB 21 true)::(tI 9 x_v21)::(GL x_v11 a_data data c_data a b fn_cmp fa_cmp fc_cmp)
set_option maxRecDepth 100000 in
set_option maxHeartbeats 4000000 in
theorem Ep (n:Nat) {F:Fr} {h:Ac} {w:World} (data:List Int) {a_data:Option Addr} {c_data:Nat} {vs_data:List Value} (hc_data:Af h data vs_data) (a:Int) (b:Int) (cmp:Int→Int→Option Int) {fn_cmp:Fn} {fa_cmp fc_cmp:Array Value} (hf_cmp:T4 h (.func fn_cmp fa_cmp fc_cmp) cmp) (hm:Aj F h [] [] [⟨a_data,data.length,c_data,3,1,vs_data,0⟩] w) {r:List Int} (H:AW n data a b cmp=some r) :
  Calls Tryz.prog 69 #[.slice a_data data.length c_data,.int .i64 a,.int .i64 b,.func fn_cmp fa_cmp fc_cmp] w (Kp fun v w'=>∃ (h':Ac)(cp:List Value),Ac.le h h'∧(v=.tuple #[])∧r.length=data.length∧Af h' r cp∧Aj F h' [] [] [⟨a_data,data.length,c_data,3,1,cp,0⟩] w'):=by
 refine E7 (e:=[]) 53 [.c (.slice a_data data.length c_data),.c (.int .i64 a),.c (.int .i64 b),.c (.func fn_cmp fa_cmp fc_cmp)] Tryz.func69 rfl rfl rfl rfl fun t hk=>?_
 unfold AW at H
 refine XT (Aa (Rk 0 3 [tI 8 (IntKind.i64.wrap (a+1)),tS 0 a_data data.length c_data,tI 1 a,tI 2 b,(3,.one (.c (.func fn_cmp fa_cmp fc_cmp)))] hk hm fun e5 di=>?_))
 refine wf ?_
 obtain⟨be,bl,H⟩:=Ap H
 refine Aq (fun a' w'=>∃ (ay:List Value)(bf:Array Value)(ag:Ac),a' = ⟨bf,[]⟩∧Kn 53 [] [] bf∧Aj F ag [] [] [⟨a_data,data.length,c_data,3,1,ay,0⟩] w'∧Ac.le h ag∧Af ag be ay∧be.length=data.length) ?_ ?_
 ·
  refine wp_block ?_
  refine Au (fun ei a' w'=>∃ (x_v10:List Int)(x_v11:Int)(am:List Value)(bg:Array Value)(ab:Ac),a' = ⟨bg,[]⟩∧Kn 53 [] (GL x_v11 a_data data c_data a b fn_cmp fa_cmp fc_cmp) bg∧Aj F ab [] [] [⟨a_data,data.length,c_data,3,1,am,0⟩] w'∧Ac.le h ab∧Af ab x_v10 am∧x_v10.length=data.length∧A1 ei a b cmp x_v10 x_v11=some be) n ?_ ?_
  ·
   exact XY data ⟨IntKind.i64.wrap (a+1),vs_data,_,_,rfl,di.kp,hm,Ac.le_refl _,hc_data,rfl,bl⟩
  ·
   rintro av _ fl ⟨x_v10,x_v11,am,bg,ab,rfl,df,au,ba,bq,bv,m⟩
   clear bl
   obtain _ | av:=av
   ·
    rw [A1] at m; cases m
   rw [A1] at m
   replace hf_cmp:=hf_cmp.mono ba
   refine XT (XT (Aa (Rk 0 3 ((tB 14 (decide (x_v11<b)))::(GL x_v11 a_data data c_data a b fn_cmp fa_cmp fc_cmp)) df au fun fc a6=>?_)))
   refine wf (wC (decide (x_v11<b)) a6 (fun a3=>?_) (fun a3=>?_))
   ·
    rw [a3,XW] at m
    refine wp_skip (XT (wp_block (XT (Aa (Rk 0 2 ((tI 9 x_v11)::(GL x_v11 a_data data c_data a b fn_cmp fa_cmp fc_cmp)) a6 au fun fd dj=>?_)))))
    refine wf ?_
    obtain⟨aw,bm,m⟩:=Ap m
    refine Aq (fun a' w'=>∃ (ax:List Value)(bh:Array Value)(ao:Ac),a' = ⟨bh,[]⟩∧Kn 53 [] (GL x_v11 a_data data c_data a b fn_cmp fa_cmp fc_cmp) bh∧Aj F ao [] [] [⟨a_data,data.length,c_data,3,1,ax,0⟩] w'∧Ac.le ab ao∧Af ao aw ax∧aw.length=data.length) ?_ ?_
    ·
     refine wp_block ?_
     refine Au (fun ej a' w'=>∃ (x_v20:List Int)(x_v21:Int)(d:List Value)(bi:Array Value)(ah:Ac),a' = ⟨bi,[]⟩∧Kn 53 [] ((tI 9 x_v21)::(GL x_v11 a_data data c_data a b fn_cmp fa_cmp fc_cmp)) bi∧Aj F ah [] [] [⟨a_data,data.length,c_data,3,1,d,0⟩] w'∧Ac.le ab ah∧Af ah x_v20 d∧x_v20.length=data.length∧A0 ej a cmp x_v20 x_v21=some aw) av ?_ ?_
     ·
      exact XY x_v10 ⟨x_v11,am,_,_,rfl,dj.kp,au,Ac.le_refl _,bq,bv,bm⟩
     ·
      rintro bd _ fp ⟨x_v20,x_v21,d,bi,ah,rfl,dk,p,bb,g,x,f⟩
      clear bm
      obtain _ | bd:=bd
      ·
       rw [A0] at f; cases f
      rw [A0] at f
      replace hf_cmp:=hf_cmp.mono bb
      refine XT (XT ?_)
      obtain⟨cl,l,f⟩:=Ap f
      refine Aq (fun a' w'=>∃ (bj:Array Value)(u:Ac),a' = ⟨bj,[]⟩∧Kn 53 [] [tI 9 x_v21,tI 8 x_v11,tS 0 a_data data.length c_data,tI 1 a,tI 2 b,(3,.one (.c (.func fn_cmp fa_cmp fc_cmp))),tB 34 cl] bj∧Aj F u [] [] [⟨a_data,data.length,c_data,3,1,d,0⟩] w'∧Ac.le ah u) ?_ ?_
      ·
       refine Ax (by kernel_rfl) ?_
       replace p:=p.drew
       refine A3 [] [] [] ?_
       refine Dr [0,1,2,3] (dn 3) ((tB 21 (decide (x_v21>a)))::(tI 9 x_v21)::(GL x_v11 a_data data c_data a b fn_cmp fa_cmp fc_cmp)) dk p fun cn br=>?_
       rcases Bool.eq_false_or_eq_true (decide (x_v21>a)) with aj | aj
       ·
        rw [aj,XW] at l
        have dl:Kn 53 [] ((tB 21 true)::(tI 9 x_v21)::(GL x_v11 a_data data c_data a b fn_cmp fa_cmp fc_cmp)) cn:=(br.setB 21 true (by rfl) aj).kp
        refine Dr [4,5,6] (dn 6) ((tI 24 x_v21)::(tS 23 a_data data.length c_data)::(Ph fn_cmp fa_cmp fc_cmp x_v21 x_v11 a_data data c_data a b)) dl p fun fe bs=>?_
        obtain⟨x25,ex25,l⟩:=Ap l
        obtain⟨b5,cf,eg⟩:=Ak ex25
        have dw:=AL b5 cf
        obtain⟨ev,ea,c0⟩:=Ba (sz:=1) rfl g eg
        obtain rfl:=ea
        obtain⟨an,ac⟩:=AZ p (i:=0) rfl (b0:=0+(x_v21:Int).toNat*1) (Nat.lt_of_lt_of_le (Nat.lt_add_of_pos_right (by decide)) (AB (sz:=1) rfl g dw))
        have ae:=p.addPlc (b:=an) (o:=0+(x_v21:Int).toNat*1) (cs:=[]) (fun j c hj=>by simp at hj) rfl (by kernel_rfl) (by kernel_rfl)
        have ak:∀ (e:AG) k c,([.int .i64 x25]:List SC)[k]? = some c→(d)[0+(x_v21:Int).toNat*1+k]? = some (c.den e):=fun e k c hk=>c0 k _ (Am hk)
        have cg:=cf
        rw [x] at cg
        refine AA 7 (x_v21) [.int .i64 x25] (fun _ _ _ _ _ h=>h) rfl rfl (Al bs (by kernel_rfl)) rfl (by decide) (by kernel_rfl) (by kernel_rfl) bs p.plOk (by rfl) (by rfl) (by rfl) ac (by rfl) b5 cg (by kernel_rfl) fun en (dm:Kn 53 [(an,0+(x_v21:Int).toNat*1)] ((tP 25 0 0)::(tI 24 x_v21)::(tS 23 a_data data.length c_data)::(Ph fn_cmp fa_cmp fc_cmp x_v21 x_v11 a_data data c_data a b)) en)=>?_
        refine DZ [8,9,10,11] [11,10,9,8,7,6,5,4,3,2,1,0] [29,27,26,22,21,9,8,0,1,2,3] ((tI 29 (IntKind.i64.wrap (x_v21-1)))::(tS 27 a_data data.length c_data)::(tI 26 x25)::(Ph fn_cmp fa_cmp fc_cmp x_v21 x_v11 a_data data c_data a b)) (fun _ _ _ _ _ h=>h) dm (A7.peek ae.plOk ae 0 0 rfl rfl ac [.int .i64 x25] (ak _)) (by kernel_rfl) (by rfl) (by kernel_rfl) fun ff bt=>?_
        obtain⟨x30,ex30,l⟩:=Ap l
        obtain⟨b6,ch,eh⟩:=Ak ex30
        have dx:=AL b6 ch
        obtain⟨ew,eb,c1⟩:=Ba (sz:=1) rfl g eh
        obtain rfl:=eb
        obtain⟨a0,ap⟩:=AZ ae (i:=0) rfl (b0:=0+(IntKind.i64.wrap (x_v21-1):Int).toNat*1) (Nat.lt_of_lt_of_le (Nat.lt_add_of_pos_right (by decide)) (AB (sz:=1) rfl g dx))
        have al:=ae.addPlc (b:=a0) (o:=0+(IntKind.i64.wrap (x_v21-1):Int).toNat*1) (cs:=[]) (fun j c hj=>by simp at hj) rfl (by kernel_rfl) (by kernel_rfl)
        have a4:∀ (e:AG) k c,([.int .i64 x30]:List SC)[k]? = some c→(d)[0+(IntKind.i64.wrap (x_v21-1):Int).toNat*1+k]? = some (c.den e):=fun e k c hk=>c1 k _ (Am hk)
        have ci:=ch
        rw [x] at ci
        refine AA 12 (IntKind.i64.wrap (x_v21-1)) [.int .i64 x30] (fun _ _ _ _ _ h=>h) rfl rfl (Al bt (by kernel_rfl)) rfl (by decide) (by kernel_rfl) (by kernel_rfl) bt (A7.peek ae.plOk ae 0 0 rfl rfl ac [.int .i64 x25] (ak _)) (by rfl) (by rfl) (by rfl) ap (by rfl) b6 ci (by kernel_rfl) fun eo (dp:Kn 53 [(an,0+(x_v21:Int).toNat*1),(a0,0+(IntKind.i64.wrap (x_v21-1):Int).toNat*1)] ((tP 30 1 0)::(tI 29 (IntKind.i64.wrap (x_v21-1)))::(tS 27 a_data data.length c_data)::(tI 26 x25)::(Ph fn_cmp fa_cmp fc_cmp x_v21 x_v11 a_data data c_data a b)) eo)=>?_
        refine DZ [13] [13,12,11,10,9,8,7,6,5,4,3,2,1,0] [31,26,22,21,9,8,0,1,2,3] ((tI 31 x30)::(tI 26 x25)::(Ph fn_cmp fa_cmp fc_cmp x_v21 x_v11 a_data data c_data a b)) (fun _ _ _ _ _ h=>h) dp (A7.peek (A7.peek al.plOk al 0 0 rfl rfl ac [.int .i64 x25] (ak _)) al 0 1 rfl rfl ap [.int .i64 x30] (a4 _)) (by kernel_rfl) (by rfl) (by kernel_rfl) fun fg bu=>?_
        obtain⟨x32,ex32,l⟩:=Ap l
        refine DV 14 rfl (by kernel_rfl) (by decide) (Al bu (by kernel_rfl)) fun K hK=>?_
        refine E8 (.func fn_cmp fa_cmp fc_cmp) [.c (.int .i64 x25),.c (.int .i64 x30)] _ bu al rfl rfl (by decide) (by rfl) (by rfl) rfl (hf_cmp _ _ (Ac.le_refl _) al.has x25 x30 _ ex32) fun fi ex fq ct d1 z=>?_
        obtain rfl:=ct
        refine⟨.one (.c (.int .i64 x32)),rfl,fun ep (dq:Kn 53 [(an,0+(x_v21:Int).toNat*1),(a0,0+(IntKind.i64.wrap (x_v21-1):Int).toNat*1)] ((tI 32 x32)::(tI 31 x30)::(tI 26 x25)::(Ph fn_cmp fa_cmp fc_cmp x_v21 x_v11 a_data data c_data a b)) ep)=>hK _ _ (A7.peek (A7.peek z.plOk z 0 0 rfl rfl ac [.int .i64 x25] (ak _)) z 0 1 rfl rfl ap [.int .i64 x30] (a4 _)) ?_⟩
        refine DZ [15,16] [16,15,14,13,12,11,10,9,8,7,6,5,4,3,2,1,0] [34,9,8,0,1,2,3] ((tB 34 (decide (x32<0)))::(tI 9 x_v21)::(GL x_v11 a_data data c_data a b fn_cmp fa_cmp fc_cmp)) (fun _ _ _ _ _ h=>h) dq (A7.peek (A7.peek z.plOk z 0 0 rfl rfl ac [.int .i64 x25] (ak _)) z 0 1 rfl rfl ap [.int .i64 x30] (a4 _)) (by kernel_rfl) (by rfl) (by kernel_rfl) fun fh dr=>?_
        refine AE (by kernel_rfl) ?_
        obtain rfl:=XZ l
        exact XY _ ⟨_,rfl,(dr.keep [9,8,0,1,2,3,34] (by rfl)).cut 0 (by kernel_rfl),z.cutPl 0 (by kernel_rfl),d1⟩
       ·
        rw [aj,XV] at l
        have ds:Kn 53 [] ((tB 21 false)::(tI 9 x_v21)::(GL x_v11 a_data data c_data a b fn_cmp fa_cmp fc_cmp)) cn:=(br.setB 21 false (by rfl) aj).kp
        refine Dr [4,5,6,7,8,9,10,11,12,13,14,15,16] (dn 16) ((tB 34 false)::(tI 9 x_v21)::(GL x_v11 a_data data c_data a b fn_cmp fa_cmp fc_cmp)) ds p fun e6 c3=>?_
        refine AE (by kernel_rfl) ?_
        obtain rfl:=XZ l
        exact XY _ ⟨_,rfl,c3.kp,p,Ac.le_refl _⟩
      ·
       rintro _ fj ⟨bj,u,rfl,a5,y,a9⟩
       replace g:=g.mono a9
       refine wC (cl) a5 (fun a2=>?_) (fun a2=>?_)
       ·
        rw [Bc a2] at f
        refine wp_skip (XT (wp_block (Ax (by kernel_rfl) ?_)))
        replace y:=y.drew
        refine A3 [] [] [] ?_
        refine Dr [0,1,2,3,4,5,6,7] (dn 7) ((tI 44 (IntKind.i64.wrap (x_v21-1)))::(tS 42 a_data data.length c_data)::(NT x_v21 a_data data c_data x_v11 a b fn_cmp fa_cmp fc_cmp)) a5 y fun e7 c4=>?_
        obtain⟨x45,ex45,f⟩:=Ap f
        obtain⟨b1,b7,ec⟩:=Ak ex45
        have dt:=AL b1 b7
        obtain⟨er,d6,cu⟩:=Ba (sz:=1) rfl g ec
        obtain rfl:=d6
        obtain⟨s,ai⟩:=AZ y (i:=0) rfl (b0:=0+(IntKind.i64.wrap (x_v21-1):Int).toNat*1) (Nat.lt_of_lt_of_le (Nat.lt_add_of_pos_right (by decide)) (AB (sz:=1) rfl g dt))
        have ad:=y.addPlc (b:=s) (o:=0+(IntKind.i64.wrap (x_v21-1):Int).toNat*1) (cs:=[]) (fun j c hj=>by simp at hj) rfl (by kernel_rfl) (by kernel_rfl)
        have aq:∀ (e:AG) k c,([.int .i64 x45]:List SC)[k]? = some c→(d)[0+(IntKind.i64.wrap (x_v21-1):Int).toNat*1+k]? = some (c.den e):=fun e k c hk=>cu k _ (Am hk)
        have b8:=b7
        rw [x] at b8
        refine AA 8 (IntKind.i64.wrap (x_v21-1)) [.int .i64 x45] (fun _ _ _ _ _ h=>h) rfl rfl (rfl) rfl (by decide) (by kernel_rfl) (by kernel_rfl) c4 y.plOk (by rfl) (by rfl) (by rfl) ai (by rfl) b1 b8 (by kernel_rfl) fun ek (c5:Kn 53 [(s,0+(IntKind.i64.wrap (x_v21-1):Int).toNat*1)] ((tP 45 0 0)::(tI 44 (IntKind.i64.wrap (x_v21-1)))::(tS 42 a_data data.length c_data)::(NT x_v21 a_data data c_data x_v11 a b fn_cmp fa_cmp fc_cmp)) ek)=>?_
        refine DZ [9,10,11] [11,10,9,8,7,6,5,4,3,2,1,0] [48,47,46,41,39,38,37,9,8,0,1,2,3] ((tI 48 x_v21)::(tS 47 a_data data.length c_data)::(tI 46 x45)::(NT x_v21 a_data data c_data x_v11 a b fn_cmp fa_cmp fc_cmp)) (fun _ _ _ _ _ h=>h) c5 (A7.peek ad.plOk ad 0 0 rfl rfl ai [.int .i64 x45] (aq _)) (by kernel_rfl) (by rfl) (by kernel_rfl) fun e8 c6=>?_
        obtain⟨x49,ex49,f⟩:=Ap f
        obtain⟨b2,b9,ed⟩:=Ak ex49
        have du:=AL b2 b9
        obtain⟨es,d7,cv⟩:=Ba (sz:=1) rfl g ed
        obtain rfl:=d7
        obtain⟨aa,a1⟩:=AZ ad (i:=0) rfl (b0:=0+(x_v21:Int).toNat*1) (Nat.lt_of_lt_of_le (Nat.lt_add_of_pos_right (by decide)) (AB (sz:=1) rfl g du))
        have q:=ad.addPlc (b:=aa) (o:=0+(x_v21:Int).toNat*1) (cs:=[]) (fun j c hj=>by simp at hj) rfl (by kernel_rfl) (by kernel_rfl)
        have bp:∀ (e:AG) k c,([.int .i64 x49]:List SC)[k]? = some c→(d)[0+(x_v21:Int).toNat*1+k]? = some (c.den e):=fun e k c hk=>cv k _ (Am hk)
        have ca:=b9
        rw [x] at ca
        refine AA 12 (x_v21) [.int .i64 x49] (fun _ _ _ _ _ h=>h) rfl rfl (rfl) rfl (by decide) (by kernel_rfl) (by kernel_rfl) c6 (A7.peek ad.plOk ad 0 0 rfl rfl ai [.int .i64 x45] (aq _)) (by rfl) (by rfl) (by rfl) a1 (by rfl) b2 ca (by kernel_rfl) fun el (c7:Kn 53 [(s,0+(IntKind.i64.wrap (x_v21-1):Int).toNat*1),(aa,0+(x_v21:Int).toNat*1)] ((tP 49 1 0)::(tI 48 x_v21)::(tS 47 a_data data.length c_data)::(tI 46 x45)::(NT x_v21 a_data data c_data x_v11 a b fn_cmp fa_cmp fc_cmp)) el)=>?_
        refine DZ [13] [13,12,11,10,9,8,7,6,5,4,3,2,1,0] [50,46,41,39,38,37,9,8,0,1,2,3] ((tI 50 x49)::(tI 46 x45)::(NT x_v21 a_data data c_data x_v11 a b fn_cmp fa_cmp fc_cmp)) (fun _ _ _ _ _ h=>h) c7 (A7.peek (A7.peek q.plOk q 0 0 rfl rfl ai [.int .i64 x45] (aq _)) q 0 1 rfl rfl a1 [.int .i64 x49] (bp _)) (by kernel_rfl) (by rfl) (by kernel_rfl) fun e9 c8=>?_
        obtain⟨x51,ex51,f⟩:=Ap f
        obtain⟨b3,cb,ee⟩:=Ak ex51
        have a7:=AL b3 cb
        obtain⟨et,d8,cw⟩:=Ba (sz:=1) rfl g ee
        obtain rfl:=d8
        obtain⟨af,bn⟩:=AZ q (i:=0) rfl (b0:=0+(x_v21:Int).toNat*1) (Nat.lt_of_lt_of_le (Nat.lt_add_of_pos_right (by decide)) (AB (sz:=1) rfl g a7))
        have d2:=q.addPlc (b:=af) (o:=0+(x_v21:Int).toNat*1) (cs:=[]) (fun j c hj=>by simp at hj) rfl (by kernel_rfl) (by kernel_rfl)
        have ey:∀ (e:AG) k c,([.int .i64 x51]:List SC)[k]? = some c→(d)[0+(x_v21:Int).toNat*1+k]? = some (c.den e):=fun e k c hk=>cw k _ (Am hk)
        have cc:=cb
        rw [x] at cc
        refine AA 14 (x_v21) [.int .i64 x51] (fun _ _ _ _ _ h=>h) rfl rfl (rfl) rfl (by decide) (by kernel_rfl) (by kernel_rfl) c8 (A7.peek (A7.peek q.plOk q 0 0 rfl rfl ai [.int .i64 x45] (aq _)) q 0 1 rfl rfl a1 [.int .i64 x49] (bp _)) (by rfl) (by rfl) (by rfl) bn (by rfl) b3 cc (by kernel_rfl) fun em (c9:Kn 53 [(s,0+(IntKind.i64.wrap (x_v21-1):Int).toNat*1),(aa,0+(x_v21:Int).toNat*1),(af,0+(x_v21:Int).toNat*1)] ((tP 51 2 0)::(tI 50 x49)::(tI 46 x45)::(NT x_v21 a_data data c_data x_v11 a b fn_cmp fa_cmp fc_cmp)) em)=>?_
        obtain⟨co,cq,f⟩:=Ap f
        obtain⟨e1,e3,cj⟩:=CK cq
        refine EZ 15 rfl (by kernel_rfl) (by decide) (rfl) (by kernel_rfl) fun K hK=>?_
        refine BS 0 2 0 (0+(x_v21:Int).toNat*1) (.c (.int .i64 x45)) c9 d2 rfl rfl (by rfl) (by rfl) rfl rfl bn rfl (by kernel_rfl) (AB (sz:=1) rfl g a7) fun fk da bc=>?_
        have ar:Af u co (d.take (0+(x_v21:Int).toNat*1+0)++([.int .i64 x45]:List Value)++d.drop (0+(x_v21:Int).toNat*1+0+1)):=by rw [cj]; exact Eu (sz:=1) rfl g a7 (Ad:rep u (x45:Int) _)
        have bz:co.length=data.length:=by rw [cj]; simp [x]
        refine hK _ _ ?_
        refine A3 [] [(s,0+(IntKind.i64.wrap (x_v21-1):Int).toNat*1),(aa,0+(x_v21:Int).toNat*1),(af,0+(x_v21:Int).toNat*1)] [⟨[],none⟩,⟨[],none⟩,⟨[],none⟩] ?_
        obtain⟨x52,ex52,f⟩:=Ap f
        obtain⟨b4,cd,ef⟩:=Ak ex52
        have a8:=AL b4 cd
        obtain⟨eu,d9,cx⟩:=Ba (sz:=1) rfl ar ef
        obtain rfl:=d9
        obtain⟨az,bo⟩:=AZ bc (i:=0) rfl (b0:=0+(IntKind.i64.wrap (x_v21-1):Int).toNat*1) (Nat.lt_of_lt_of_le (Nat.lt_add_of_pos_right (by decide)) (AB (sz:=1) rfl ar a8))
        have d3:=bc.addPlc (b:=az) (o:=0+(IntKind.i64.wrap (x_v21-1):Int).toNat*1) (cs:=[]) (fun j c hj=>by simp at hj) rfl (by kernel_rfl) (by kernel_rfl)
        have ez:∀ (e:AG) k c,([.int .i64 x52]:List SC)[k]? = some c→((d.take (0+(x_v21:Int).toNat*1+0)++([.int .i64 x45]:List Value)++d.drop (0+(x_v21:Int).toNat*1+0+1)))[0+(IntKind.i64.wrap (x_v21-1):Int).toNat*1+k]? = some (c.den e):=fun e k c hk=>cx k _ (Am hk)
        have ce:=cd
        rw [bz] at ce
        refine AA 16 (IntKind.i64.wrap (x_v21-1)) [.int .i64 x52] (fun _ _ _ _ _ h=>h) rfl rfl (rfl) rfl (by decide) (by kernel_rfl) (by kernel_rfl) da bc.plOk (by rfl) (by rfl) (by rfl) bo (by rfl) b4 ce (by kernel_rfl) fun cm (db:Kn 53 [(s,0+(IntKind.i64.wrap (x_v21-1):Int).toNat*1),(aa,0+(x_v21:Int).toNat*1),(af,0+(x_v21:Int).toNat*1),(az,0+(IntKind.i64.wrap (x_v21-1):Int).toNat*1)] ((tP 52 3 0)::(tP 51 2 0)::(tI 50 x49)::(tI 46 x45)::(NT x_v21 a_data data c_data x_v11 a b fn_cmp fa_cmp fc_cmp)) cm)=>?_
        obtain⟨bk,cr,f⟩:=Ap f
        obtain⟨e2,e4,ck⟩:=CK cr
        refine EZ 17 rfl (by kernel_rfl) (by decide) (rfl) (by kernel_rfl) fun K hK=>?_
        refine BS 0 3 0 (0+(IntKind.i64.wrap (x_v21-1):Int).toNat*1) (.c (.int .i64 x49)) db d3 rfl rfl (by rfl) (by rfl) rfl rfl bo rfl (by kernel_rfl) (AB (sz:=1) rfl ar a8) fun fm dc bw=>?_
        have cy:Af u bk ((d.take (0+(x_v21:Int).toNat*1+0)++([.int .i64 x45]:List Value)++d.drop (0+(x_v21:Int).toNat*1+0+1)).take (0+(IntKind.i64.wrap (x_v21-1):Int).toNat*1+0)++([.int .i64 x49]:List Value)++(d.take (0+(x_v21:Int).toNat*1+0)++([.int .i64 x45]:List Value)++d.drop (0+(x_v21:Int).toNat*1+0+1)).drop (0+(IntKind.i64.wrap (x_v21-1):Int).toNat*1+0+1)):=by rw [ck]; exact Eu (sz:=1) rfl ar a8 (Ad:rep u (x49:Int) _)
        have d5:bk.length=data.length:=by rw [ck]; simp [bz]
        refine hK _ _ ?_
        have dd:Kn 53 [(s,0+(IntKind.i64.wrap (x_v21-1):Int).toNat*1),(aa,0+(x_v21:Int).toNat*1),(af,0+(x_v21:Int).toNat*1),(az,0+(IntKind.i64.wrap (x_v21-1):Int).toNat*1)] ((tI 9 x_v21)::(GL x_v11 a_data data c_data a b fn_cmp fa_cmp fc_cmp)) cm:=dc.kp
        refine MO (by kernel_rfl) (Aa (Rk 0 3 ((tI 9 (IntKind.i64.wrap (x_v21-1)))::(GL x_v11 a_data data c_data a b fn_cmp fa_cmp fc_cmp)) dd bw fun fa de=>?_))
        refine wf ?_
        exact XY bd ⟨Nat.lt_succ_self _,XY bk ⟨IntKind.i64.wrap (x_v21-1),(d.take (0+(x_v21:Int).toNat*1+0)++([.int .i64 x45]:List Value)++d.drop (0+(x_v21:Int).toNat*1+0+1)).take (0+(IntKind.i64.wrap (x_v21-1):Int).toNat*1+0)++([.int .i64 x49]:List Value)++(d.take (0+(x_v21:Int).toNat*1+0)++([.int .i64 x45]:List Value)++d.drop (0+(x_v21:Int).toNat*1+0+1)).drop (0+(IntKind.i64.wrap (x_v21-1):Int).toNat*1+0+1),_,_,rfl,(de.keep [9,8,0,1,2,3] (by rfl)).cut 0 (by kernel_rfl),bw.cutPl 0 (by kernel_rfl),XU bb a9,cy,d5,f⟩⟩
       ·
        rw [Bd a2] at f
        refine wp_exit ?_
        obtain rfl:=XZ f
        exact XY d ⟨_,_,rfl,a5.kp,y,XU bb a9,g,x⟩
    ·
     rintro _ fn ⟨ax,bh,ao,rfl,dg,bx,dz,cz,dv⟩
     refine Aa (Rk 0 3 [tI 8 (IntKind.i64.wrap (x_v11+1)),tS 0 a_data data.length c_data,tI 1 a,tI 2 b,(3,.one (.c (.func fn_cmp fa_cmp fc_cmp)))] dg bx fun fb dh=>?_)
     refine wf ?_
     exact XY av ⟨Nat.lt_succ_self _,XY aw ⟨IntKind.i64.wrap (x_v11+1),ax,_,_,rfl,dh.kp,bx,XU ba dz,cz,dv,m⟩⟩
   ·
    rw [a3,XV] at m
    refine wp_exit ?_
    obtain rfl:=XZ m
    exact XY am ⟨_,_,rfl,a6.kp,au,ba,bq,bv⟩
 ·
  rintro _ fo ⟨ay,bf,ag,rfl,e0,d4,d0,c2,dy⟩
  obtain rfl:=XZ H
  exact Ld rfl ⟨ag,ay,d0,rfl,dy,c2,(d4.cutRw 1).cutPl 0 (by kernel_rfl)⟩
theorem LJ (n:Nat) {h:Ac} {w:World} (hh:Db h w) (x:IK .u64) {r:Int} (H:Fi n x=some r) :
    Calls Tryz.prog 52 #[.int .u64 x.n] w (Dd (fun h v=>v=.int .i64 r) h w):=by
  unfold Fi at H
  split at H
  · rename_i h0
    cases H
    refine(Any.bits_Len (P:=Tryz.prog) (ρ:=Tryz.laysSort_ren) { Tryz.laysSort with } x.n w h0.1 h0.2).mono ?_
    rintro e w' ⟨rfl,rfl⟩
    exact⟨_,h,rfl,Below.refl _ _,Ac.le_refl _,fun _ _ _ hx=>.inl hx,rfl⟩
  · cases H
abbrev Mx (a_data:Option Addr) (data:List Int) (c_data:Nat) (a b limit:Int) (fn_cmp:Fn) (fa_cmp fc_cmp:Array Value):TM:=[tB 10 true,tS 0 a_data data.length c_data,tI 1 a,tI 2 b,tI 3 limit,(4,.one (.c (.func fn_cmp fa_cmp fc_cmp)))]
set_option maxRecDepth 100000 in
set_option maxHeartbeats 4000000 in
theorem Fx (n:Nat):∀ (F:Fr)(h:Ac)(w:World)(data:List Int)(a_data:Option Addr)(c_data:Nat)(vs_data:List Value)(hc_data:Af h data vs_data)(a:Int)(b:Int)(limit:Int)(cmp:Int→Int→Option Int)(fn_cmp:Fn)(fa_cmp fc_cmp:Array Value)(hf_cmp:T4 h (.func fn_cmp fa_cmp fc_cmp) cmp)(hm:Aj F h [] [] [⟨a_data,data.length,c_data,3,1,vs_data,0⟩] w)(r:List Int)(H:Bg n data a b limit cmp=some r),
  Calls Tryz.prog 51 #[.slice a_data data.length c_data,.int .i64 a,.int .i64 b,.int .i64 limit,.func fn_cmp fa_cmp fc_cmp] w (Kp fun v w'=>∃ (h':Ac)(g:List Value),Ac.le h h'∧(v=.tuple #[])∧r.length=data.length∧Af h' r g∧Aj F h' [] [] [⟨a_data,data.length,c_data,3,1,g,0⟩] w'):=by
 induction n using Nat.strongRecOn with
 | _ n ih =>
  intro F h w data a_data c_data vs_data hc_data a b limit cmp fn_cmp fa_cmp fc_cmp hf_cmp hm r H
  obtain _ | n:=n
  ·
   rw [Bg] at H; cases H
  refine E7 (e:=[]) 148 [.c (.slice a_data data.length c_data),.c (.int .i64 a),.c (.int .i64 b),.c (.int .i64 limit),.c (.func fn_cmp fa_cmp fc_cmp)] Tryz.func51 rfl rfl rfl rfl fun t hk=>?_
  rw [Bg] at H
  refine XT (Aa (Rk 0 1 (Mx a_data data c_data a b limit fn_cmp fa_cmp fc_cmp) hk hm fun a4 al=>?_))
  refine wf (XT (Aa (Rk 0 1 ((tB 11 true)::(Mx a_data data c_data a b limit fn_cmp fa_cmp fc_cmp)) al hm fun a8 ao=>?_)))
  refine wf ?_
  obtain⟨af,z,H⟩:=Ap H
  refine Aq (fun a' w'=>∃ (ag:Unit)(x:Array Value)(i:Ac),a' = ⟨x,[]⟩∧Kn 148 [] ((tB 11 true)::(Mx a_data data c_data a b limit fn_cmp fa_cmp fc_cmp)) x∧Aj F i [] [] [⟨a_data,data.length,c_data,3,1,vs_data,0⟩] w'∧Ac.le h i∧af=.go ag) ?_ ?_
  ·
   refine wp_block ?_
   refine Au (fun ae a' w'=>∃ (u:Array Value)(k:Ac),a' = ⟨u,[]⟩∧Kn 148 [] ((tB 11 true)::(Mx a_data data c_data a b limit fn_cmp fa_cmp fc_cmp)) u∧Aj F k [] [] [⟨a_data,data.length,c_data,3,1,vs_data,0⟩] w'∧Ac.le h k∧ae≤n∧Bk ae data a b limit cmp=some af) n ?_ ?_
   ·
    exact XY _ ⟨_,rfl,ao.kp,hm,Ac.le_refl _,Nat.le_refl _,z⟩
   ·
    rintro s _ bc ⟨u,k,rfl,ak,f,q,a3,d⟩
    clear z
    obtain _ | s:=s
    ·
     rw [Bk] at d; cases d
    rw [Bk] at d
    replace hf_cmp:=hf_cmp.mono q
    replace hc_data:=hc_data.mono q
    refine wp_block (XT (Aa (Rk 0 4 ((tI 12 (IntKind.i64.wrap (b-a)))::(tB 11 true)::(Mx a_data data c_data a b limit fn_cmp fa_cmp fc_cmp)) ak f fun a5 am=>?_)))
    refine wf (XT (XT (Aa (Rk 0 2 ((tB 25 (decide ((IntKind.i64.wrap (b-a))≤12)))::(tI 12 (IntKind.i64.wrap (b-a)))::(tB 11 true)::(Mx a_data data c_data a b limit fn_cmp fa_cmp fc_cmp)) am f fun a6 p=>?_))))
    refine wf (wC (decide ((IntKind.i64.wrap (b-a))≤12)) p (fun l=>?_) (fun l=>?_))
    ·
     rw [l,XW] at d
     refine XT (Aa (Rk 0 4 [(29,.one (.c (.func fn_cmp fa_cmp fc_cmp))),tI 28 b,tI 27 a,tS 26 a_data data.length c_data] p f fun a7 an=>?_))
     obtain⟨x30,ex30,d⟩:=Ap d
     obtain⟨a0,a1,au,ay⟩:=f.lend0 [] [0] (by kernel_rfl) (by kernel_rfl) (by kernel_rfl) (by kernel_rfl)
     refine wl fun K hK=>?_
     refine Gq [.c (.slice a_data data.length c_data),.c (.int .i64 a),.c (.int .i64 b),.c (.func fn_cmp fa_cmp fc_cmp)] _ an rfl rfl (by decide) (by rfl) rfl (fun _ _=>by kernel_rfl) (Ep s data hc_data a b cmp hf_cmp au ex30) fun bb az ai=>?_
     obtain⟨aa,y,ac,rfl,ax,aj,av⟩:=ai
     have j:=ay _ _ _ [⟨a_data,data.length,c_data,3,1,y,0⟩] ac rfl (Nat.le_of_ble_eq_true rfl) (by kernel_rfl) av
     replace j:Aj F aa [] [] [⟨a_data,data.length,c_data,3,1,y,0⟩] az:=j
     refine⟨.tup [],rfl,fun ah (ap:Kn 148 [] [(30,.tup []),(29,.one (.c (.func fn_cmp fa_cmp fc_cmp))),tI 28 b,tI 27 a,tS 26 a_data data.length c_data] ah)=>hK _ _ ?_⟩
     have aq:Kn 148 [] [] ah:=ap.kp
     refine wf (wp_ret ?_)
     obtain rfl:=XZ d
     obtain rfl:=XZ H
     exact J3 (.tup []) aq j (by kernel_rfl) ⟨aa,y,XU q ac,rfl,ax,aj,(j.cutRw 1).cutPl 0 (by kernel_rfl)⟩
    ·
     rw [l,XV] at d
     refine wp_skip (XT (XT (Aa (Rk 0 2 ((tB 32 (limit == 0))::(tI 12 (IntKind.i64.wrap (b-a)))::(tB 11 true)::(Mx a_data data c_data a b limit fn_cmp fa_cmp fc_cmp)) p f fun a9 ab=>?_))))
     refine wf (wC ((limit == 0)) ab (fun m=>?_) (fun m=>?_))
     ·
      rw [m,XW] at d
      refine XT ?_
      cases d
     ·
      rw [m,XV] at d
      refine wp_skip (XT (XT (Aa (Rk 0 2 ((tB 39 (!true))::(tI 12 (IntKind.i64.wrap (b-a)))::(tB 11 true)::(Mx a_data data c_data a b limit fn_cmp fa_cmp fc_cmp)) ab f fun ba ar=>?_))))
      refine wf (wC ((!true)) ar (fun o=>?_) (fun o=>?_))
      ·
       rw [o,XW] at d
       refine XT ?_
       cases d
      ·
       rw [o,XV] at d
       refine wp_skip (XT ?_)
       cases d
  ·
   rintro _ bd ⟨ag,x,i,rfl,a2,aw,ad,rfl⟩
   rw [Ex.bind_go] at H
   replace hc_data:=hc_data.mono ad
   obtain rfl:=XZ H
   exact Ld rfl ⟨i,vs_data,ad,rfl,rfl,hc_data,(aw.cutRw 1).cutPl 0 (by kernel_rfl)⟩
theorem FC (n:Nat) {F:Fr} {h:Ac} {w:World} (data:List Int) {a_data:Option Addr} {c_data:Nat} {vs_data:List Value} (hc_data:Af h data vs_data) (a:Int) (b:Int) (limit:Int) (cmp:Int→Int→Option Int) {fn_cmp:Fn} {fa_cmp fc_cmp:Array Value} (hf_cmp:T4 h (.func fn_cmp fa_cmp fc_cmp) cmp) (hm:Aj F h [] [] [⟨a_data,data.length,c_data,3,1,vs_data,0⟩] w) {r:List Int} (H:Bg n data a b limit cmp=some r) :
  Calls Tryz.prog 51 #[.slice a_data data.length c_data,.int .i64 a,.int .i64 b,.int .i64 limit,.func fn_cmp fa_cmp fc_cmp] w (Kp fun v w'=>∃ (h':Ac)(g:List Value),Ac.le h h'∧(v=.tuple #[])∧r.length=data.length∧Af h' r g∧Aj F h' [] [] [⟨a_data,data.length,c_data,3,1,g,0⟩] w'):=Fx n F h w data a_data c_data vs_data hc_data a b limit cmp fn_cmp fa_cmp fc_cmp hf_cmp hm r H
set_option maxRecDepth 100000 in
set_option maxHeartbeats 4000000 in
theorem C6 (n:Nat) {F:Fr} {h:Ac} {w:World} (x:List Int) {a_x:Option Addr} {c_x:Nat} {vs_x:List Value} (hc_x:Af h x vs_x) (cmp:Int→Int→Option Int) {fn_cmp:Fn} {fa_cmp fc_cmp:Array Value} (hf_cmp:T4 h (.func fn_cmp fa_cmp fc_cmp) cmp) (hm:Aj F h [] [] [⟨a_x,x.length,c_x,3,1,vs_x,0⟩] w) {r:List Int} (H:AO n x cmp=some r) :
  Calls Tryz.prog 29 #[.slice a_x x.length c_x,.func fn_cmp fa_cmp fc_cmp] w (Kp fun v w'=>∃ (h':Ac)(k:List Value),Ac.le h h'∧(v=.tuple #[])∧r.length=x.length∧Af h' r k∧Aj F h' [] [] [⟨a_x,x.length,c_x,3,1,k,0⟩] w'):=by
 refine E7 (e:=[]) 14 [.c (.slice a_x x.length c_x),.c (.func fn_cmp fa_cmp fc_cmp)] Tryz.func29 rfl rfl rfl rfl fun t hk=>?_
 unfold AO at H
 refine XT (Aa (Rk 0 3 [tI 4 ((x.length:Nat):Int),tS 0 a_x x.length c_x,(1,.one (.c (.func fn_cmp fa_cmp fc_cmp)))] hk hm fun aj s=>?_))
 refine wf (Aa (Rk 0 4 [(10,.one (.c (.int .u64 (IntKind.u64.wrap ((x.length:Nat):Int))))),tI 8 ((x.length:Nat):Int),tS 7 a_x x.length c_x,(1,.one (.c (.func fn_cmp fa_cmp fc_cmp)))] s hm fun al y=>?_))
 obtain⟨x11,ex11,H⟩:=Ap H
 refine wl fun K hK=>?_
 refine wc [.c (.int .u64 (IntKind.u64.wrap ((x.length:Nat):Int)))] y hm (LJ n hm.has (IK.mk (IntKind.u64.wrap ((x.length:Nat):Int))) ex11) fun an ah ao l a i=>?_
 replace hf_cmp:=hf_cmp.mono a
 replace hc_x:=hc_x.mono a
 obtain rfl:=l
 refine⟨.one (.c (.int .i64 x11)),rfl,fun ad (p:Kn 14 [] [tI 11 x11,(10,.one (.c (.int .u64 (IntKind.u64.wrap ((x.length:Nat):Int))))),tI 8 ((x.length:Nat):Int),tS 7 a_x x.length c_x,(1,.one (.c (.func fn_cmp fa_cmp fc_cmp)))] ad)=>hK _ _ ?_⟩
 refine Rk 5 1 [(12,.one (.c (.func fn_cmp fa_cmp fc_cmp))),tI 11 x11,tI 8 ((x.length:Nat):Int),tS 7 a_x x.length c_x] p i fun ak q=>?_
 obtain⟨x13,ex13,H⟩:=Ap H
 obtain⟨af,ag,z,ac⟩:=i.lend0 [] [0] (by kernel_rfl) (by kernel_rfl) (by kernel_rfl) (by kernel_rfl)
 refine wl fun K hK=>?_
 refine Gq [.c (.slice a_x x.length c_x),.c (.int .i64 0),.c (.int .i64 ((x.length:Nat):Int)),.c (.int .i64 x11),.c (.func fn_cmp fa_cmp fc_cmp)] _ q rfl rfl (by decide) (by rfl) rfl (fun _ _=>by kernel_rfl) (FC n x hc_x 0 ((x.length:Nat):Int) x11 cmp hf_cmp z ex13) fun am ae m=>?_
 obtain⟨f,d,g,rfl,ab,o,aa⟩:=m
 have b:=ac _ _ _ [⟨a_x,x.length,c_x,3,1,d,0⟩] g rfl (Nat.le_of_ble_eq_true rfl) (by kernel_rfl) aa
 replace b:Aj F f [] [] [⟨a_x,x.length,c_x,3,1,d,0⟩] ae:=b
 refine⟨.tup [],rfl,fun j (u:Kn 14 [] [(13,.tup []),(12,.one (.c (.func fn_cmp fa_cmp fc_cmp))),tI 11 x11,tI 8 ((x.length:Nat):Int),tS 7 a_x x.length c_x] j)=>hK _ _ ?_⟩
 have ai:Kn 14 [] [] j:=u.kp
 refine wf ?_
 obtain rfl:=XZ H
 exact Ld rfl ⟨f,d,XU a g,rfl,ab,o,(b.cutRw 1).cutPl 0 (by kernel_rfl)⟩
set_option maxRecDepth 100000 in
set_option maxHeartbeats 4000000 in
theorem Jb (n:Nat) {h:Ac} {w:World} (hh:Db h w) (a:Int) (b:Int) (q0:Ag) {b_q0:Nat} (hb_q0:BW h b_q0 q0) {r:Int} (H:B2 n a b q0=some r) :
  Calls Tryz.prog 79 #[.int .i64 a,.int .i64 b,.pointer (some ⟨b_q0,0,none⟩)] w (Dd (fun h v=>v=.int .i64 r) h w):=by
 obtain⟨_,hx_q0,hc_q0⟩:=id hb_q0
 obtain⟨_,_,rfl,⟨g,k,rfl,av⟩,⟨_,_,rfl,⟨d,f,rfl,s⟩,rfl⟩⟩:=hx_q0
 refine E7 (e:=[(b_q0,0)]) 19 [.c (.int .i64 a),.c (.int .i64 b),.c (.ptr 0 0)] Tryz.func79 rfl rfl rfl rfl fun t hk=>?_
 have hm:=Aj.begin h w hh
 replace hm:=hm.addPlc (o:=0) (cs:=[.slice g q0.room.length k,.slice d q0.buses.length f,.int .i64 q0.broken]) (fun j c hj=>by rw [Nat.zero_add]; exact hc_q0 j _ (Am hj)) rfl (by kernel_rfl) (by kernel_rfl)
 replace hm:Aj ⟨w,h,A9⟩ h [(b_q0,0)] [⟨[.slice g q0.room.length k,.slice d q0.buses.length f,.int .i64 q0.broken],none⟩] [] w:=hm
 unfold B2 at H
 refine XT (Aa (Rk 0 1 [tI 0 a,tI 1 b,tP 2 0 0] hk hm fun ay ag=>?_))
 refine wf (XT (Ax (by kernel_rfl) ?_))
 replace hm:=hm.drew
 refine A3 [] [(b_q0,0)] [⟨[.slice g q0.room.length k,.slice d q0.buses.length f,.int .i64 q0.broken],none⟩] ?_
 refine Dr [0,1,2] [2,1,0] [tI 8 a,tS 7 d q0.buses.length f,tI 1 b,tP 2 0 0] ag hm fun az ab=>?_
 obtain⟨x9,ex9,H⟩:=Ap H
 obtain⟨ah,aj,an⟩:=Ak ex9
 obtain⟨i,m,ar,x,al,z⟩:=s.get (by decide) an
 obtain⟨_,_,rfl,rfl,⟨_,_,rfl,rfl,rfl⟩⟩:=al
 have l:=hm.addPlc (b:=i) (o:=m+(a:Int).toNat*3) (cs:=[.int .i64 x9.lo,.int .i64 x9.hi,.int .i64 x9.turn]) (fun j c hj=>z j _ (Am hj)) rfl (by kernel_rfl) (by kernel_rfl)
 refine AA 3 (a) [.int .i64 x9.lo,.int .i64 x9.hi,.int .i64 x9.turn] (fun _ _ _ _ _ h=>h) rfl rfl (rfl) rfl (by decide) (by kernel_rfl) (by kernel_rfl) ab hm.plOk (by rfl) (by rfl) (by rfl) x (by rfl) ah aj (by kernel_rfl) fun ap (ac:Kn 19 [(b_q0,0),(i,m+(a:Int).toNat*3)] [tP 9 1 0,tI 8 a,tS 7 d q0.buses.length f,tI 1 b,tP 2 0 0] ap)=>?_
 refine Dr [4,5,6,7,8] (dn 8) [tI 14 b,tS 13 d q0.buses.length f,tI 11 x9.turn] ac l fun aw ad=>?_
 obtain⟨x15,ex15,H⟩:=Ap H
 obtain⟨ai,ak,ao⟩:=Ak ex15
 obtain⟨p,u,au,y,am,aa⟩:=s.get (by decide) ao
 obtain⟨_,_,rfl,rfl,⟨_,_,rfl,rfl,rfl⟩⟩:=am
 have q:=l.addPlc (b:=p) (o:=u+(b:Int).toNat*3) (cs:=[.int .i64 x15.lo,.int .i64 x15.hi,.int .i64 x15.turn]) (fun j c hj=>aa j _ (Am hj)) rfl (by kernel_rfl) (by kernel_rfl)
 refine AA 9 (b) [.int .i64 x15.lo,.int .i64 x15.hi,.int .i64 x15.turn] (fun _ _ _ _ _ h=>h) rfl rfl (rfl) rfl (by decide) (by kernel_rfl) (by kernel_rfl) ad l.plOk (by rfl) (by rfl) (by rfl) y (by rfl) ai ak (by kernel_rfl) fun aq (ae:Kn 19 [(b_q0,0),(i,m+(a:Int).toNat*3),(p,u+(b:Int).toNat*3)] [tP 15 2 0,tI 14 b,tS 13 d q0.buses.length f,tI 11 x9.turn] aq)=>?_
 refine Dr [10,11,12,13] (dn 13) [tI 5 (IntKind.i64.wrap (x9.turn-x15.turn))] ae q fun ax af=>?_
 refine AE (by kernel_rfl) (wp_ret ?_)
 obtain rfl:=XZ H
 exact rt (.one (.c (.int .i64 (IntKind.i64.wrap (x9.turn-x15.turn))))) af q rfl
set_option maxRecDepth 100000 in
set_option maxHeartbeats 4000000 in
theorem DF (n:Nat) {h:Ac} {w:World} {σ:Type} {J:σ→Ac→World→Prop} (hJ:Vv J) {l:Nat} (yield_:σ→Int→Option (σ×Bool)) (hy:∀ (s:σ)(x0:Int)(s':σ)(b:Bool)(h:Ac)(w:World),J s h w→yield_ s x0=some (s',b)→Yields Tryz.prog l #[.int .i64 x0] w (fun c w'=>c=b∧∃ h',Ac.le h h'∧J s' h' w')) (s:σ) (hw:J s h w) (q0:List Int) {b_q0:Nat} (hb_q0:BW h b_q0 q0) {r:σ} (H:Br n yield_ s q0=some r) :
  Calls Tryz.prog 100 #[.func (.yield l) #[] #[],.pointer (some ⟨b_q0,0,none⟩)] w (fun en w'=>en=.returned (.tuple #[])∧∃ h',Ac.le h h'∧J r h' w'):=by
 obtain⟨_,hx_q0,hc_q0⟩:=id hb_q0
 obtain⟨a,d,rfl,ah⟩:=hx_q0
 have hh:=hJ.has _ _ _ hw
 refine E7 (e:=[(b_q0,0)]) 16 [.c (.func (.yield l) #[] #[]),.c (.ptr 0 0)] Tryz.func100 rfl rfl rfl rfl fun t hk=>?_
 have hm:=Aj.begin h w hh
 replace hm:=hm.addPlc (o:=0) (cs:=[.slice a q0.length d]) (fun j c hj=>by rw [Nat.zero_add]; exact hc_q0 j _ (Am hj)) rfl (by kernel_rfl) (by kernel_rfl)
 replace hm:Aj ⟨w,h,A9⟩ h [(b_q0,0)] [⟨[.slice a q0.length d],none⟩] [] w:=hm
 unfold Br at H
 refine XT (Aa (Rk 0 3 [tI 7 0,tI 6 ((q0.length:Nat):Int),tS 5 a q0.length d,(0,.one (.c (.func (.yield l) #[] #[])))] hk hm fun bi a1=>?_))
 refine wf ?_
 obtain⟨aq,an,H⟩:=Ap H
 refine Aq (fun a' w'=>∃ (x:σ)(am:World)(ad:Ac)(aj:Array Value)(k:Ac),a' = ⟨aj,[]⟩∧Kn 16 [(b_q0,0)] [] aj∧Aj ⟨am,ad,A9⟩ k [(b_q0,0)] [⟨[.slice a q0.length d],none⟩] [] w'∧Ac.le h k∧J x ad am∧aq=.go x) ?_ ?_
 ·
  refine wp_block ?_
  refine Au (fun bb a' w'=>∃ (x_v10:Int)(x_v11:σ)(y:World)(p:Ac)(ak:Array Value)(aa:Ac),a' = ⟨ak,[]⟩∧Kn 16 [(b_q0,0)] [tI 7 x_v10,tI 6 ((q0.length:Nat):Int),tS 5 a q0.length d,(0,.one (.c (.func (.yield l) #[] #[])))] ak∧Aj ⟨y,p,A9⟩ aa [(b_q0,0)] [⟨[.slice a q0.length d],none⟩] [] w'∧Ac.le h aa∧J x_v11 p y∧AM bb yield_ q0 x_v10 x_v11=some aq) n ?_ ?_
  ·
   exact XY 0 ⟨s,w,h,_,_,rfl,a1.kp,hm,Ac.le_refl _,hw,an⟩
  ·
   rintro ai _ bn ⟨x_v10,x_v11,y,p,ak,aa,rfl,ax,ag,g,ao,f⟩
   clear an
   obtain _ | ai:=ai
   ·
    rw [AM] at f; cases f
   rw [AM] at f
   replace ah:=ah.mono g
   replace hb_q0:=hb_q0.mono g
   refine XT (Aa (Rk 0 1 [tB 8 (decide (x_v10<((q0.length:Nat):Int))),tI 7 x_v10,tI 6 ((q0.length:Nat):Int),tS 5 a q0.length d,(0,.one (.c (.func (.yield l) #[] #[])))] ax ag fun bh ae=>?_))
   refine wf (XT (wC (decide (x_v10<((q0.length:Nat):Int))) ae (fun ab=>?_) (fun ab=>?_)))
   ·
    rw [ab,XW] at f
    refine wp_skip (XT (wp_block (XT (Aa ?_))))
    obtain⟨x9,ex9,f⟩:=Ap f
    obtain⟨a7,a8,ba⟩:=Ak ex9
    obtain⟨i,v,bf,av,a9,aw⟩:=ah.get (by decide) ba
    obtain rfl:=a9
    have q:=ag.addPlc (b:=i) (o:=v+(x_v10:Int).toNat*1) (cs:=[.int .i64 x9]) (fun j c hj=>aw j _ (Am hj)) rfl (by kernel_rfl) (by kernel_rfl)
    refine AC 0 (x_v10) rfl rfl (rfl) rfl (by decide) ae (by rfl) (by rfl) (by rfl) av (by rfl) a7 a8 (by kernel_rfl) fun bc (ay:Kn 16 [(b_q0,0),(i,v+(x_v10:Int).toNat*1)] [tP 9 1 0,tB 8 (decide (x_v10<((q0.length:Nat):Int))),tI 7 x_v10,tI 6 ((q0.length:Nat):Int),tS 5 a q0.length d,(0,.one (.c (.func (.yield l) #[] #[])))] bc)=>?_
    refine Rk 1 2 [tI 4 x9,tI 7 x_v10,tI 6 ((q0.length:Nat):Int),tS 5 a q0.length d,(0,.one (.c (.func (.yield l) #[] #[])))] ay q fun bj az=>?_
    refine wf (XT (M8 ?_))
    refine Sk 0 2 [12,11,7,6,5,0] [tI 12 x9,(11,.one (.c (.func (.yield l) #[] #[]))),tI 7 x_v10,tI 6 ((q0.length:Nat):Int),tS 5 a q0.length d,(0,.one (.c (.func (.yield l) #[] #[])))] az q.plOk (by kernel_rfl) fun bk a0=>?_
    obtain⟨x13,ex13,f⟩:=Ap f
    refine TJ 2 [.c (.int .i64 x9)] _ a0 rfl rfl (rfl) rfl (by decide) (by rfl) (by rfl) rfl (hy _ x9 _ _ _ _ (q.J hJ ao) ex13) fun be al au bd a2=>?_
    obtain⟨rfl,m,af,z⟩:=au
    have a3:Kn 16 [(b_q0,0),(i,v+(x_v10:Int).toNat*1)] [tB 13 x13.2,tI 12 x9,(11,.one (.c (.func (.yield l) #[] #[]))),tI 7 x_v10,tI 6 ((q0.length:Nat):Int),tS 5 a q0.length d,(0,.one (.c (.func (.yield l) #[] #[])))] bd:=a2.kp
    have u:Aj ⟨al,m,A9⟩ m [(b_q0,0),(i,v+(x_v10:Int).toNat*1)] [⟨[.slice a q0.length d],none⟩,⟨[.int .i64 x9],none⟩] [] al:=q.rebase af (hJ.has _ _ _ z) (by kernel_rfl)
    refine Sk 3 1 [14,7,6,5,0] [tB 14 (!x13.2),tI 7 x_v10,tI 6 ((q0.length:Nat):Int),tS 5 a q0.length d,(0,.one (.c (.func (.yield l) #[] #[])))] a3 u.plOk (by kernel_rfl) fun bl ap=>?_
    refine QQ (by decide) (wC ((!x13.2)) ap (fun ac=>?_) (fun ac=>?_))
    ·
     rw [ac,XW] at f
     refine wp_ret ?_
     obtain rfl:=XZ f
     obtain rfl:=XZ H
     exact Vc (J:=fun w'=>∃ h',Ac.le h h'∧J x13.1 h' w') rfl ⟨m,XU g af,u.J hJ z⟩
    ·
     rw [ac,XV] at f
     refine wp_skip (Aa (Rk 0 2 [tI 7 (IntKind.i64.wrap (x_v10+1)),tI 6 ((q0.length:Nat):Int),tS 5 a q0.length d,(0,.one (.c (.func (.yield l) #[] #[])))] ap u fun bm a4=>?_))
     refine wf ?_
     exact XY ai ⟨Nat.lt_succ_self _,XY (IntKind.i64.wrap (x_v10+1)) ⟨x13.1,al,m,_,_,rfl,(a4.keep [7,6,5,0] (by rfl)).cut 1 (by kernel_rfl),u.cutPl 1 (by kernel_rfl),XU g af,z,f⟩⟩
   ·
    rw [ab,XV] at f
    refine wp_exit ?_
    obtain rfl:=XZ f
    exact XY x_v11 ⟨y,p,_,_,rfl,ae.kp,ag,g,ao,rfl⟩
 ·
  rintro _ bo ⟨x,am,ad,aj,k,rfl,bg,a6,a5,ar,rfl⟩
  rw [Ex.bind_go] at H
  obtain rfl:=XZ H
  exact Vb (J:=fun w'=>∃ h',Ac.le h h'∧J x h' w') rfl ⟨k,a5,a6.J hJ ar⟩
set_option maxRecDepth 100000 in
set_option maxHeartbeats 4000000 in
theorem GR (n:Nat) {h:Ac} {w:World} (hh:Db h w) (s:List Int) {a_s:Option Addr} {c_s:Nat} (hr_s:At h a_s c_s s) {r:(List Int)} (H:Dw n s=some r) :
  Calls Tryz.prog 80 #[.slice a_s s.length c_s] w (Dd (fun h v=>∃ b0:Nat,v=.func (.func 100) #[] #[.pointer (some ⟨b0,0,none⟩)]∧BW h b0 r) h w):=by
 refine enter 4 [.c (.slice a_s s.length c_s)] Tryz.func80 rfl rfl rfl rfl fun t hk=>?_
 have hm:=Aj.begin h w hh
 unfold Dw at H
 refine XT (Aa (wl fun K hK=>?_))
 refine wb (.c (.slice a_s s.length c_s)) hk hm fun a u x (m:Kn 4 [(a,0)] [tP 1 0 0,tS 0 a_s s.length c_s] u) g=>hK _ _ ?_
 refine Rk 1 1 [tP 1 0 0] m g fun aa o=>?_
 refine wf (XT (Aa ?_))
 obtain⟨b,p,f,d⟩:=g.settlePlc (i:=0) rfl
 replace hr_s:=hr_s.mono p
 replace d:Aj ⟨w,h,A9⟩ b [(a,0)] [⟨[.slice a_s s.length c_s],none⟩] [] x:=d
 have j:BW b a (s:List Int):=BW.of (e:=[(a,0)]) (cs:=[.slice a_s s.length c_s]) ((Ae hr_s):rep b (s:List Int) _) rfl f
 have y:Ay b a [.slice a_s s.length c_s]:=Ay.of (e:=[(a,0)]) (cs:=[.slice a_s s.length c_s]) rfl f
 refine F8 0 #[] #[.pointer (some ⟨a,0,none⟩)] o rfl rfl (rfl) rfl (by decide) (by rfl) (by rfl) (by rfl) (by rfl) fun q (k:Kn 4 [(a,0)] [(3,.one (.c (.func (.func 100) #[] #[.pointer (some ⟨a,0,none⟩)]))),tP 1 0 0] q)=>?_
 refine Rk 1 1 [(2,.one (.c (.func (.func 100) #[] #[.pointer (some ⟨a,0,none⟩)])))] k d fun z l=>?_
 refine wf (wp_ret ?_)
 obtain rfl:=XZ H
 exact rt (.one (.c (.func (.func 100) #[] #[.pointer (some ⟨a,0,none⟩)]))) l d ⟨_,rfl,j⟩
abbrev Jc (k:Option Addr) (y:Ag) (m:Nat) (l:Option Addr) (o:Nat):List SC:=[.slice k y.room.length m,.slice l y.buses.length o,.int .i64 y.broken]
abbrev JM (broken:Ar):List SC:=[.bool broken.a0,.bool broken.a1,.bool broken.a2,.bool broken.a3,.bool broken.a4,.bool broken.a5,.bool broken.a6,.bool broken.a7]
abbrev NU (x_v11:Int) (y:Ag) (g:Option Addr) (x_v10:List Int) (j:Nat):TM:=[tI 10 x_v11,tI 9 ((y.buses.length:Nat):Int),tS 5 g x_v10.length j,tP 3 1 0,tP 2 0 0]
set_option maxRecDepth 100000 in
set_option maxHeartbeats 4000000 in
theorem Gu (n:Nat) {h:Ac} {w:World} (hh:Db h w) (y:Ag) {cs_y:List Value} (hx_y:rep h y cs_y) (broken:Ar) {cs_broken:List Value} (hx_broken:rep h broken cs_broken) {r:(List Int)} (H:CE n y broken=some r) :
  Calls Tryz.prog 55 #[.agg cs_y.toArray,.agg cs_broken.toArray] w (Dd (fun h v=>∃ b0:Nat,v=.func (.func 100) #[] #[.pointer (some ⟨b0,0,none⟩)]∧BW h b0 r) h w):=by
 obtain⟨_,_,rfl,⟨k,m,rfl,az⟩,⟨_,_,rfl,⟨l,o,rfl,a8⟩,rfl⟩⟩:=hx_y
 obtain⟨_,_,rfl,rfl,⟨_,_,rfl,rfl,⟨_,_,rfl,rfl,⟨_,_,rfl,rfl,⟨_,_,rfl,rfl,⟨_,_,rfl,rfl,⟨_,_,rfl,rfl,rfl⟩⟩⟩⟩⟩⟩⟩:=hx_broken
 refine enter 27 [.agg (Jc k y m l o),.agg (JM broken)] Tryz.func55 rfl rfl rfl rfl fun t hk=>?_
 have hm:=Aj.begin h w hh
 unfold CE at H
 refine XT (Aa (wl fun K hK=>?_))
 refine wb (.agg (Jc k y m l o)) hk hm fun a da d3 (bz:Kn 27 [(a,0)] [tP 2 0 0,tA 0 (Jc k y m l o),tA 1 (JM broken)] da) cr=>hK _ _ ?_
 refine wl fun K hK=>?_
 refine wb (.agg (JM broken)) bz cr fun f c4 db (b8:Kn 27 [(a,0),(f,0)] [tP 3 1 0,tP 2 0 0,tA 0 (Jc k y m l o),tA 1 (JM broken)] c4) ag=>hK _ _ ?_
 refine Rk 2 1 [tP 3 1 0,tP 2 0 0] b8 ag fun dk b9=>?_
 refine wf (XT (Aa (Rk 0 1 [tS 5 none 0 0,tP 3 1 0,tP 2 0 0] b9 ag fun dl ca=>?_)))
 refine wf (XT (XT (Aa (Rk 0 4 [tI 10 0,tI 9 ((y.buses.length:Nat):Int),tS 5 none 0 0,tP 3 1 0,tP 2 0 0] ca ag fun dm cb=>?_))))
 refine wf ?_
 have cu:Aj ⟨w,h,A9⟩ h [(a,0),(f,0)] [⟨Jc k y m l o,some 33⟩,⟨JM broken,some 57⟩] [⟨none,0,0,3,1,[],0⟩] db:=ag.nilRow 3 1
 have bv:Af h ([]:List Int) []:=Af.nil
 obtain⟨q,bf,H⟩:=Ap H
 refine Aq (fun a' w'=>∃ (b:Option Addr)(d:Nat)(ai:List Value)(bb:Array Value)(ae:Ac),a' = ⟨bb,[]⟩∧Kn 27 [(a,0),(f,0)] [tS 5 b q.length d,tP 2 0 0] bb∧Aj ⟨w,h,A9⟩ ae [(a,0),(f,0)] [⟨Jc k y m l o,some 33⟩,⟨JM broken,some 57⟩] [⟨b,q.length,d,3,1,ai,0⟩] w'∧Ac.le h ae∧Af ae q ai) ?_ ?_
 ·
  refine wp_block ?_
  refine Au (fun c2 a' w'=>∃ (x_v10:List Int)(x_v11:Int)(g:Option Addr)(j:Nat)(x:List Value)(bc:Array Value)(u:Ac),a' = ⟨bc,[]⟩∧Kn 27 [(a,0),(f,0)] (NU x_v11 y g x_v10 j) bc∧Aj ⟨w,h,A9⟩ u [(a,0),(f,0)] [⟨Jc k y m l o,some 33⟩,⟨JM broken,some 57⟩] [⟨g,x_v10.length,j,3,1,x,0⟩] w'∧Ac.le h u∧Af u x_v10 x∧Bv c2 y broken x_v10 x_v11=some q) n ?_ ?_
  ·
   exact XY ([]:List Int) ⟨0,none,0,[],_,_,rfl,cb.kp,cu,Ac.le_refl _,bv,bf⟩
  ·
   rintro ah _ d0 ⟨x_v10,x_v11,g,j,x,bc,u,rfl,cc,s,ar,am,p⟩
   clear bf
   obtain _ | ah:=ah
   ·
    rw [Bv] at p; cases p
   rw [Bv] at p
   refine XT (Aa (Rk 0 1 ((tB 11 (decide (x_v11<((y.buses.length:Nat):Int))))::(NU x_v11 y g x_v10 j)) cc s fun dn ap=>?_))
   refine wf (XT (wC (decide (x_v11<((y.buses.length:Nat):Int))) ap (fun aj=>?_) (fun aj=>?_)))
   ·
    rw [aj,XW] at p
    refine wp_skip (XT (wp_block (XT (Aa (Rk 0 2 ((tI 6 x_v11)::(NU x_v11 y g x_v10 j)) ap s fun dp cd=>?_)))))
    refine wf (XT (Aa (Rk 0 1 ((tI 13 x_v11)::(tI 6 x_v11)::(NU x_v11 y g x_v10 j)) cd s fun dq bj=>?_)))
    obtain⟨x14,ex14,p⟩:=Ap p
    obtain⟨cw,cx⟩:=Bz ex14
    refine DT 1 (.one (.c (.ptr 1 (0+(x_v11:Int).toNat*1)))) rfl (rfl) rfl (AN (E:=4) bj rfl (by kernel_rfl) (by kernel_rfl) (by rfl) (by rfl) cw cx) (bj.put (by decide) _) fun c6 (bk:Kn 27 [(a,0),(f,0)] ((tP 14 1 (0+(x_v11:Int).toNat*1))::(tI 13 x_v11)::(tI 6 x_v11)::(NU x_v11 y g x_v10 j)) c6)=>?_
    obtain⟨x15,ex15,p⟩:=Ap p
    obtain⟨_,_,c1⟩:=Ak ex15
    refine DT 2 (.one (.c (.bool x15))) rfl (rfl) rfl (BC bk s.plOk rfl (by rfl) rfl (by kernel_rfl) (DO (fun(y:Bool)=>([.bool y]:List SC)) 1 (fun _=>rfl) [] [] broken.toL _ _ c1 rfl rfl)) (bk.put (by decide) _) fun c7 (ce:Kn 27 [(a,0),(f,0)] ((tB 15 x15)::(tP 14 1 (0+(x_v11:Int).toNat*1))::(tI 13 x_v11)::(tI 6 x_v11)::(NU x_v11 y g x_v10 j)) c7)=>?_
    refine Rk 3 1 ((tB 16 (!x15))::(tI 6 x_v11)::(NU x_v11 y g x_v10 j)) ce s fun dr aq=>?_
    refine wf (wC ((!x15)) aq (fun ak=>?_) (fun ak=>?_))
    ·
     rw [ak,XW] at p
     refine Aa (Rk 0 2 [tI 18 x_v11,tS 17 g x_v10.length j,tI 10 x_v11,tI 9 ((y.buses.length:Nat):Int),tP 3 1 0,tP 2 0 0] aq s fun ds cf=>?_)
     refine wl fun K hK=>?_
     refine wS 3 1 [.int .i64 x_v11] cf s fun be c8 d1 (cg:Kn 27 [(a,0),(f,0)] [tS 19 be 1 1,tI 18 x_v11,tS 17 g x_v10.length j,tI 10 x_v11,tI 9 ((y.buses.length:Nat):Int),tP 3 1 0,tP 2 0 0] c8) bn=>?_
     have ao:Af u ([x_v11]:List Int) ([.int .i64 x_v11]:List Value):=⟨_,_,rfl,(Ad:rep u (x_v11:Int) _),rfl⟩
     refine hK _ _ ?_
     obtain⟨x20,ex20,p⟩:=Ap p
     obtain⟨a9,co⟩:=AS ex20
     refine wl fun K hK=>?_
     refine AI 0 8 1 _ (x20.length) _ ([.int .i64 x_v11]:List Value) cg bn rfl rfl (by decide) rfl (by rfl) (by kernel_rfl) (by rfl) (by rfl) (Af.len ao) (bn.rowCell (i:=1) rfl) ao.one (by rw [a9]; simp <;> omega) (by rw [a9]; exact co) (by decide) fun ab ad bq c9 d2 bx (ch:Kn 27 [(a,0),(f,0)] [tS 20 ab x20.length ad,tS 19 be 1 1,tI 18 x_v11,tS 17 g x_v10.length j,tI 10 x_v11,tI 9 ((y.buses.length:Nat):Int),tP 3 1 0,tP 2 0 0] c9) ax=>?_
     have bw:Af u x20 (x++([.int .i64 x_v11]:List Value)):=by rw [a9]; exact Af.append am ao
     obtain rfl:bq=0:=Nat.le_zero.1 bx
     refine hK _ _ ?_
     refine Rk 4 1 [tS 5 ab x20.length ad,tI 10 x_v11,tI 9 ((y.buses.length:Nat):Int),tP 3 1 0,tP 2 0 0] ch ax fun dt ci=>?_
     refine wf (Aa (Rk 0 2 [tI 10 (IntKind.i64.wrap (x_v11+1)),tS 5 ab x20.length ad,tI 9 ((y.buses.length:Nat):Int),tP 3 1 0,tP 2 0 0] ci ax fun du cj=>?_))
     refine wf ?_
     exact XY ah ⟨Nat.lt_succ_self _,XY x20 ⟨IntKind.i64.wrap (x_v11+1),ab,ad,x++([.int .i64 x_v11]:List Value),_,_,rfl,cj.kp,ax.cutRw 1,ar,bw,p⟩⟩
    ·
     rw [ak,XV] at p
     refine wp_skip (Aa (Rk 0 2 [tI 10 (IntKind.i64.wrap (x_v11+1)),tI 9 ((y.buses.length:Nat):Int),tS 5 g x_v10.length j,tP 3 1 0,tP 2 0 0] aq s fun dv ck=>?_))
     refine wf ?_
     exact XY ah ⟨Nat.lt_succ_self _,XY x_v10 ⟨IntKind.i64.wrap (x_v11+1),g,j,x,_,_,rfl,ck.kp,s,ar,am,p⟩⟩
   ·
    rw [aj,XV] at p
    refine wp_exit ?_
    obtain rfl:=XZ p
    exact XY g ⟨j,x,_,_,rfl,ap.kp,s,ar,am⟩
 ·
  rintro _ dc ⟨b,d,ai,bb,ae,rfl,cl,bo,bl,an⟩
  refine XT (Aa (Rk 0 1 [tS 22 b q.length d,tS 5 b q.length d,tP 2 0 0] cl bo fun dw cm=>?_))
  obtain⟨z,au,bi,ay⟩:=bo.settlePlc (i:=0) rfl
  replace az:=az.mono (XU bl au)
  replace a8:=a8.mono (XU bl au)
  replace an:=an.mono au
  replace ay:Aj ⟨w,h,A9⟩ z [(a,0),(f,0)] [⟨Jc k y m l o,none⟩,⟨JM broken,some 57⟩] [⟨b,q.length,d,3,1,ai,0⟩] dc:=ay
  have bt:BW z a (y:Ag):=BW.of (e:=[(a,0),(f,0)]) (cs:=(Jc k y m l o)) ((Ab (Ae az) (Ab (Ae a8) Ad)):rep z (y:Ag) _) rfl bi
  have dg:Ay z a [.slice k y.room.length m,.slice l y.buses.length o,.int .i64 y.broken]:=Ay.of (e:=[(a,0),(f,0)]) (cs:=[.slice k y.room.length m,.slice l y.buses.length o,.int .i64 y.broken]) rfl bi
  refine F8 1 #[] #[.pointer (some ⟨a,0,none⟩)] cm rfl rfl (rfl) rfl (by decide) (by rfl) (by rfl) (by rfl) (by rfl) fun c3 (b1:Kn 27 [(a,0),(f,0)] [(23,.one (.c (.func (.func 79) #[] #[.pointer (some ⟨a,0,none⟩)]))),tS 22 b q.length d,tS 5 b q.length d,tP 2 0 0] c3)=>?_
  obtain⟨x24,ex24,H⟩:=Ap H
  obtain⟨dd,de,cn,cz⟩:=ay.lend0 [] [0] (by kernel_rfl) (by kernel_rfl) (by kernel_rfl) (by kernel_rfl)
  refine wl fun K hK=>?_
  refine Gq [.c (.slice b q.length d),.c (.func (.func 79) #[] #[.pointer (some ⟨a,0,none⟩)])] _ b1 rfl rfl (by decide) (by rfl) rfl (fun _ _=>by kernel_rfl) (C6 n q an (fun(y0:Int)(y1:Int)=>B2 n y0 y1 y) (show T4 z (.func (.func 79) #[] #[.pointer (some ⟨a,0,none⟩)]) (fun(y0:Int)(y1:Int)=>B2 n y0 y1 y) from fun h2 w2 hle hh y0 y1 r H=>⟨79,_,_,rfl,fun _ _=>by kernel_rfl,Jb n hh y0 y1 y (bt.mono hle) H⟩) cn ex24) fun dx bd bs=>?_
  obtain⟨bg,aa,cp,rfl,cv,al,ct⟩:=bs
  have av:=cz _ _ _ [⟨b,q.length,d,3,1,aa,0⟩] cp rfl (Nat.le_of_ble_eq_true rfl) (by kernel_rfl) ct
  replace av:Aj ⟨w,h,A9⟩ bg [(a,0),(f,0)] [⟨Jc k y m l o,none⟩,⟨JM broken,some 57⟩] [⟨b,q.length,d,3,1,aa,0⟩] bd:=av
  refine⟨.tup [],rfl,fun ba (b2:Kn 27 [(a,0),(f,0)] [(24,.tup []),(23,.one (.c (.func (.func 79) #[] #[.pointer (some ⟨a,0,none⟩)]))),tS 22 b q.length d,tS 5 b q.length d,tP 2 0 0] ba)=>hK _ _ ?_⟩
  have bp:=cv.symm
  have b3:Kn 27 [(a,0),(f,0)] [(24,.tup []),(23,.one (.c (.func (.func 79) #[] #[.pointer (some ⟨a,0,none⟩)]))),(22,.one (.c (.slice b x24.length d))),(5,.one (.c (.slice b x24.length d))),(2,.one (.c (.ptr 0 0)))] ba:=by rw [← bp]; exact b2
  have aw:Aj ⟨w,h,A9⟩ bg [(a,0),(f,0)] [⟨[.slice k y.room.length m,.slice l y.buses.length o,.int .i64 y.broken],none⟩,⟨[.bool broken.a0,.bool broken.a1,.bool broken.a2,.bool broken.a3,.bool broken.a4,.bool broken.a5,.bool broken.a6,.bool broken.a7],some 57⟩] [⟨b,x24.length,d,3,1,aa,0⟩] bd:=by rw [← bp]; exact av
  have b4:Kn 27 [(a,0),(f,0)] [tS 5 b x24.length d] ba:=b3.kp
  refine wf (XT (Aa (Rk 0 1 [tS 25 b x24.length d] b4 aw fun di b5=>?_)))
  obtain⟨bh,cq,c0,af⟩:=aw.settle (i:=0) rfl
  replace al:=al.mono cq
  replace af:Aj ⟨w,h,A9⟩ bh [(a,0),(f,0)] [⟨Jc k y m l o,none⟩,⟨JM broken,some 57⟩] [⟨b,x24.length,d,3,1,aa,(aa:List Value).length⟩] bd:=af
  have cy:At bh b d x24:=⟨_,al,c0,aw.rowCap (i:=0) rfl⟩
  obtain⟨x26,ex26,H⟩:=Ap H
  refine wl fun K hK=>?_
  refine wc [.c (.slice b x24.length d)] b5 af (GR n af.has x24 cy ex26) fun dy df dz br dh bm=>?_
  obtain⟨ac,rfl,bu⟩:=br
  refine⟨.one (.c (.func (.func 100) #[] #[.pointer (some ⟨ac,0,none⟩)])),rfl,fun c5 (b6:Kn 27 [(a,0),(f,0)] [(26,.one (.c (.func (.func 100) #[] #[.pointer (some ⟨ac,0,none⟩)]))),tS 25 b x24.length d] c5)=>hK _ _ ?_⟩
  refine Rk 2 1 [(4,.one (.c (.func (.func 100) #[] #[.pointer (some ⟨ac,0,none⟩)])))] b6 bm fun dj b7=>?_
  refine wf (wp_ret ?_)
  obtain rfl:=XZ H
  exact rt (.one (.c (.func (.func 100) #[] #[.pointer (some ⟨ac,0,none⟩)]))) b7 bm ⟨_,rfl,bu⟩
end Go.Proofs.YthcbemnflgjadaaGreat
