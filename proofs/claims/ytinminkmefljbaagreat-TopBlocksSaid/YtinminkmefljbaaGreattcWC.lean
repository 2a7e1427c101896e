/- Each call computes its plain function. -/
import Derived.Test.YtinminkmefljbaaGreatProg
import Derived.Shelf.Small.Bits
import Derived.Test.YtinminkmefljbaaGreattcP0
import Derived.Test.YtinminkmefljbaaGreattcS8
set_option linter.all false
namespace Go.Proofs.YtinminkmefljbaaGreat
open Go Go.RowKit
set_option maxRecDepth 100000
set_option maxHeartbeats 4000000
open Rep (rep)
open KRep (kv)
open VRep (rv)
abbrev FB (aA bH)(data:List Int)(bI a b)(bP:Fn)(bQ:Array Value)(bR:Array Value):=([tI 8 aA,tS 0 bH data.length bI,tI 1 a,tI 2 b,(3,.one (.c (.func bP bQ bR)))]:TM)
abbrev KR (aE:Int)(bH)(data:List Int)(bI aA a b)(bP:Fn)(bQ:Array Value)(bR:Array Value):=((tI 41 (Ya (aE-1)))::(tS 39 bH data.length bI)::(tI 38 aE)::(tS 37 bH data.length bI)::(tI 9 aE)::(FB aA bH data bI a b bP bQ bR):TM)
abbrev MR (bP:Fn)(bQ:Array Value)(bR:Array Value)(aE aA bH)(data:List Int)(bI a b):=((22,.one (.c (.func bP bQ bR)))::(tB 21 true)::(tI 9 aE)::(FB aA bH data bI a b bP bQ bR):TM)
theorem Fo (n:Nat) {F:Fr} {h:Ac} {w:World} (data:List Int) {bH:Yd} {bI:Nat} {eI:Ye} (fD:Ae h data eI) (a:Int) (b:Int) (cmp:Int→Int→Option Int) {bP:Fn} {bQ bR:Array Value} (eR:We h (.func bP bQ bR) cmp) (hm:Ai F h [] [] [⟨bH,data.length,bI,3,1,eI,0⟩] w) {r:List Int} (H:Bi n data a b cmp=some r) :
  Calls Tryz.prog 108 #[.slice bH data.length bI,.int .i64 a,.int .i64 b,.func bP bQ bR] w (Jw fun v w'=>∃ (h':Ac)(cp:Ye),Ac.le h h'∧(v=.tuple #[])∧r.length=data.length∧Ae h' r cp∧Ai F h' [] [] [⟨bH,data.length,bI,3,1,cp,0⟩] w'):=by
 refine DZ (e:=[]) 53 [.c (Yb bH data.length bI),.c (XR a),.c (XR b),.c (.func bP bQ bR)] Tryz.func108 rfl rfl rfl rfl fun t hk=>?_
 unfold Bi at H
 refine XT (Aa (Rk 0 3 [tI 8 (Ya (a+1)),tS 0 bH data.length bI,tI 1 a,tI 2 b,(3,.one (.c (.func bP bQ bR)))] hk hm fun e5 di=>?_))
 refine wf ?_
 obtain⟨be,bl,H⟩:=Ao H
 refine Ar (fun a' w'=>∃ (ay:Ye)(bf:Array Value)(ag:Ac),a' = ⟨bf,[]⟩∧Kn 53 [] [] bf∧Ai F ag [] [] [⟨bH,data.length,bI,3,1,ay,0⟩] w'∧Ac.le h ag∧Ae ag be ay∧be.length=data.length) ?_ ?_
 ·
  refine wp_block ?_
  refine Av (fun ei a' w'=>∃ (aB:List Int)(aA:Int)(am:Ye)(bg:Array Value)(ab:Ac),a' = ⟨bg,[]⟩∧Kn 53 [] (FB aA bH data bI a b bP bQ bR) bg∧Ai F ab [] [] [⟨bH,data.length,bI,3,1,am,0⟩] w'∧Ac.le h ab∧Ae ab aB am∧aB.length=data.length∧A7 ei a b cmp aB aA=some be) n ?_ ?_
  ·
   exact XY data ⟨Ya (a+1),eI,_,_,rfl,di.kp,hm,Ac.le_refl _,fD,rfl,bl⟩
  rintro av _ fl ⟨aB,aA,am,bg,ab,rfl,df,au,ba,bq,bv,m⟩
  clear bl
  obtain _ | av:=av
  ·
   rw [A7] at m; cases m
  rw [A7] at m
  replace eR:=eR.mono ba
  refine XT (XT (Aa (Rk 0 3 ((tB 14 (decide (aA<b)))::(FB aA bH data bI a b bP bQ bR)) df au fun fc a6=>?_)))
  refine wf (wC (decide (aA<b)) a6 (fun a3=>?_) (fun a3=>?_))
  ·
   rw [a3,XW] at m
   refine wp_skip (XT (wp_block (XT (Aa (Rk 0 2 ((tI 9 aA)::(FB aA bH data bI a b bP bQ bR)) a6 au fun fd dj=>?_)))))
   refine wf ?_
   obtain⟨aw,bm,m⟩:=Ao m
   refine Ar (fun a' w'=>∃ (ax:Ye)(bh:Array Value)(ao:Ac),a' = ⟨bh,[]⟩∧Kn 53 [] (FB aA bH data bI a b bP bQ bR) bh∧Ai F ao [] [] [⟨bH,data.length,bI,3,1,ax,0⟩] w'∧Ac.le ab ao∧Ae ao aw ax∧aw.length=data.length) ?_ ?_
   ·
    refine wp_block ?_
    refine Av (fun ej a' w'=>∃ (aD:List Int)(aE:Int)(d:Ye)(bi:Array Value)(ah:Ac),a' = ⟨bi,[]⟩∧Kn 53 [] ((tI 9 aE)::(FB aA bH data bI a b bP bQ bR)) bi∧Ai F ah [] [] [⟨bH,data.length,bI,3,1,d,0⟩] w'∧Ac.le ab ah∧Ae ah aD d∧aD.length=data.length∧A6 ej a cmp aD aE=some aw) av ?_ ?_
    ·
     exact XY aB ⟨aA,am,_,_,rfl,dj.kp,au,Ac.le_refl _,bq,bv,bm⟩
    rintro bd _ fp ⟨aD,aE,d,bi,ah,rfl,dk,p,bb,g,x,f⟩
    clear bm
    obtain _ | bd:=bd
    ·
     rw [A6] at f; cases f
    rw [A6] at f
    replace eR:=eR.mono bb
    refine XT (XT ?_)
    obtain⟨cl,l,f⟩:=Ao f
    refine Ar (fun a' w'=>∃ (bj:Array Value)(u:Ac),a' = ⟨bj,[]⟩∧Kn 53 [] [tI 9 aE,tI 8 aA,tS 0 bH data.length bI,tI 1 a,tI 2 b,(3,.one (.c (.func bP bQ bR))),tB 34 cl] bj∧Ai F u [] [] [⟨bH,data.length,bI,3,1,d,0⟩] w'∧Ac.le ah u) ?_ ?_
    ·
     refine Au (by kernel_rfl) ?_
     replace p:=p.drew
     refine Ax [] [] [] ?_
     refine Dr [0,1,2,3] (dn 3) ((tB 21 (decide (aE>a)))::(tI 9 aE)::(FB aA bH data bI a b bP bQ bR)) dk p fun cn br=>?_
     rcases Y2 (decide (aE>a)) with aj | aj
     ·
      rw [aj,XW] at l
      have dl:Kn _ _ ((tB 21 true)::(tI 9 aE)::(FB aA bH data bI a b bP bQ bR)) _:=(br.setB 21 true (by rfl) aj).kp
      refine Dr [4,5,6] (dn 6) ((tI 24 aE)::(tS 23 bH data.length bI)::(MR bP bQ bR aE aA bH data bI a b)) dl p fun fe bs=>?_
      obtain⟨eC,iD,l⟩:=Ao l
      obtain⟨b5,cf,eg⟩:=Aj iD
      have dw:=AG b5 cf
      obtain⟨ev,ea,c0⟩:=AM (sz:=1) rfl g eg
      obtain rfl:=ea
      obtain⟨an,ac⟩:=AP p (i:=0) rfl (b0:=0+Yc aE*1) (Y5 (Y6 (by decide)) (A3 (sz:=1) rfl g dw))
      have ae:=p.addPlc (b:=an) (o:=0+Yc aE*1) (cs:=[]) (fun j c hj=>by simp at hj) rfl (by kernel_rfl) (by kernel_rfl)
      have ak:∀ (e:AJ) k c,([XR eC]:List SC)[k]? = some c→(d)[0+Yc aE*1+k]? = some (c.den e):=fun e k c hk=>c0 k _ (Ak hk)
      have cg:=cf
      rw [x] at cg
      refine A5 7 (aE) [XR eC] (fun _ _ _ _ _ h=>h) rfl rfl (Al bs (by kernel_rfl)) rfl (by decide) (by kernel_rfl) (by kernel_rfl) bs p.plOk (by rfl) (by rfl) (by rfl) ac (by rfl) b5 cg (by kernel_rfl) fun en (dm:Kn _ [(an,0+Yc aE*1)] ((tP 25 0 0)::(tI 24 aE)::(tS 23 bH data.length bI)::(MR bP bQ bR aE aA bH data bI a b)) _)=>?_
      refine Dj [8,9,10,11] [11,10,9,8,7,6,5,4,3,2,1,0] [29,27,26,22,21,9,8,0,1,2,3] ((tI 29 (Ya (aE-1)))::(tS 27 bH data.length bI)::(tI 26 eC)::(MR bP bQ bR aE aA bH data bI a b)) (fun _ _ _ _ _ h=>h) dm (Ay.peek ae.plOk ae 0 0 rfl rfl ac [XR eC] (ak _)) (by kernel_rfl) (by rfl) (by kernel_rfl) fun ff bt=>?_
      obtain⟨dM,iA,l⟩:=Ao l
      obtain⟨b6,ch,eh⟩:=Aj iA
      have dx:=AG b6 ch
      obtain⟨ew,eb,c1⟩:=AM (sz:=1) rfl g eh
      obtain rfl:=eb
      obtain⟨a0,ap⟩:=AP ae (i:=0) rfl (b0:=0+(Ya (aE-1):Int).toNat*1) (Y5 (Y6 (by decide)) (A3 (sz:=1) rfl g dx))
      have al:=ae.addPlc (b:=a0) (o:=0+(Ya (aE-1):Int).toNat*1) (cs:=[]) (fun j c hj=>by simp at hj) rfl (by kernel_rfl) (by kernel_rfl)
      have a4:∀ (e:AJ) k c,([XR dM]:List SC)[k]? = some c→(d)[0+(Ya (aE-1):Int).toNat*1+k]? = some (c.den e):=fun e k c hk=>c1 k _ (Ak hk)
      have ci:=ch
      rw [x] at ci
      refine A5 12 (Ya (aE-1)) [XR dM] (fun _ _ _ _ _ h=>h) rfl rfl (Al bt (by kernel_rfl)) rfl (by decide) (by kernel_rfl) (by kernel_rfl) bt (Ay.peek ae.plOk ae 0 0 rfl rfl ac [XR eC] (ak _)) (by rfl) (by rfl) (by rfl) ap (by rfl) b6 ci (by kernel_rfl) fun eo (dp:Kn _ [(an,0+Yc aE*1),(a0,0+(Ya (aE-1):Int).toNat*1)] ((tP 30 1 0)::(tI 29 (Ya (aE-1)))::(tS 27 bH data.length bI)::(tI 26 eC)::(MR bP bQ bR aE aA bH data bI a b)) _)=>?_
      refine Dj [13] [13,12,11,10,9,8,7,6,5,4,3,2,1,0] [31,26,22,21,9,8,0,1,2,3] ((tI 31 dM)::(tI 26 eC)::(MR bP bQ bR aE aA bH data bI a b)) (fun _ _ _ _ _ h=>h) dp (Ay.peek (Ay.peek al.plOk al 0 0 rfl rfl ac [XR eC] (ak _)) al 0 1 rfl rfl ap [XR dM] (a4 _)) (by kernel_rfl) (by rfl) (by kernel_rfl) fun fg bu=>?_
      obtain⟨jL,kT,l⟩:=Ao l
      refine QQ 14 rfl (by kernel_rfl) (by decide) (Al bu (by kernel_rfl)) fun K hK=>?_
      refine D2 (.func bP bQ bR) [.c (XR eC),.c (XR dM)] _ bu al rfl rfl (by decide) (by rfl) (by rfl) rfl (eR _ _ (Ac.le_refl _) al.has eC dM _ kT) fun fi ex fq ct d1 z=>?_
      obtain rfl:=ct
      refine⟨.one (.c (XR jL)),rfl,fun ep (dq:Kn _ [(an,0+Yc aE*1),(a0,0+(Ya (aE-1):Int).toNat*1)] ((tI 32 jL)::(tI 31 dM)::(tI 26 eC)::(MR bP bQ bR aE aA bH data bI a b)) _)=>hK _ _ (Ay.peek (Ay.peek z.plOk z 0 0 rfl rfl ac [XR eC] (ak _)) z 0 1 rfl rfl ap [XR dM] (a4 _)) ?_⟩
      refine Dj [15,16] [16,15,14,13,12,11,10,9,8,7,6,5,4,3,2,1,0] [34,9,8,0,1,2,3] ((tB 34 (decide (jL<0)))::(tI 9 aE)::(FB aA bH data bI a b bP bQ bR)) (fun _ _ _ _ _ h=>h) dq (Ay.peek (Ay.peek z.plOk z 0 0 rfl rfl ac [XR eC] (ak _)) z 0 1 rfl rfl ap [XR dM] (a4 _)) (by kernel_rfl) (by rfl) (by kernel_rfl) fun fh dr=>?_
      refine AL (by kernel_rfl) ?_
      obtain rfl:=XZ l
      exact XY _ ⟨_,rfl,(dr.keep [9,8,0,1,2,3,34] (by rfl)).cut 0 (by kernel_rfl),z.cutPl 0 (by kernel_rfl),d1⟩
     rw [aj,XV] at l
     have ds:Kn _ _ ((tB 21 false)::(tI 9 aE)::(FB aA bH data bI a b bP bQ bR)) _:=(br.setB 21 false (by rfl) aj).kp
     refine Dr [4,5,6,7,8,9,10,11,12,13,14,15,16] (dn 16) ((tB 34 false)::(tI 9 aE)::(FB aA bH data bI a b bP bQ bR)) ds p fun e6 c3=>?_
     refine AL (by kernel_rfl) ?_
     obtain rfl:=XZ l
     exact XY _ ⟨_,rfl,c3.kp,p,Ac.le_refl _⟩
    rintro _ fj ⟨bj,u,rfl,a5,y,a9⟩
    replace g:=g.mono a9
    refine wC (cl) a5 (fun a2=>?_) (fun a2=>?_)
    ·
     rw [Ba a2] at f
     refine wp_skip (XT (wp_block (Au (by kernel_rfl) ?_)))
     replace y:=y.drew
     refine Ax [] [] [] ?_
     refine Dr [0,1,2,3,4,5,6,7] (dn 7) ((tI 44 (Ya (aE-1)))::(tS 42 bH data.length bI)::(KR aE bH data bI aA a b bP bQ bR)) a5 y fun e7 c4=>?_
     obtain⟨iI,kV,f⟩:=Ao f
     obtain⟨b1,b7,ec⟩:=Aj kV
     have dt:=AG b1 b7
     obtain⟨er,d6,cu⟩:=AM (sz:=1) rfl g ec
     obtain rfl:=d6
     obtain⟨s,ai⟩:=AP y (i:=0) rfl (b0:=0+(Ya (aE-1):Int).toNat*1) (Y5 (Y6 (by decide)) (A3 (sz:=1) rfl g dt))
     have ad:=y.addPlc (b:=s) (o:=0+(Ya (aE-1):Int).toNat*1) (cs:=[]) (fun j c hj=>by simp at hj) rfl (by kernel_rfl) (by kernel_rfl)
     have aq:∀ (e:AJ) k c,([XR iI]:List SC)[k]? = some c→(d)[0+(Ya (aE-1):Int).toNat*1+k]? = some (c.den e):=fun e k c hk=>cu k _ (Ak hk)
     have b8:=b7
     rw [x] at b8
     refine A5 8 (Ya (aE-1)) [XR iI] (fun _ _ _ _ _ h=>h) rfl rfl (rfl) rfl (by decide) (by kernel_rfl) (by kernel_rfl) c4 y.plOk (by rfl) (by rfl) (by rfl) ai (by rfl) b1 b8 (by kernel_rfl) fun ek (c5:Kn _ [(s,0+(Ya (aE-1):Int).toNat*1)] ((tP 45 0 0)::(tI 44 (Ya (aE-1)))::(tS 42 bH data.length bI)::(KR aE bH data bI aA a b bP bQ bR)) _)=>?_
     refine Dj [9,10,11] [11,10,9,8,7,6,5,4,3,2,1,0] [48,47,46,41,39,38,37,9,8,0,1,2,3] ((tI 48 aE)::(tS 47 bH data.length bI)::(tI 46 iI)::(KR aE bH data bI aA a b bP bQ bR)) (fun _ _ _ _ _ h=>h) c5 (Ay.peek ad.plOk ad 0 0 rfl rfl ai [XR iI] (aq _)) (by kernel_rfl) (by rfl) (by kernel_rfl) fun e8 c6=>?_
     obtain⟨dY,jX,f⟩:=Ao f
     obtain⟨b2,b9,ed⟩:=Aj jX
     have du:=AG b2 b9
     obtain⟨es,d7,cv⟩:=AM (sz:=1) rfl g ed
     obtain rfl:=d7
     obtain⟨aa,a1⟩:=AP ad (i:=0) rfl (b0:=0+Yc aE*1) (Y5 (Y6 (by decide)) (A3 (sz:=1) rfl g du))
     have q:=ad.addPlc (b:=aa) (o:=0+Yc aE*1) (cs:=[]) (fun j c hj=>by simp at hj) rfl (by kernel_rfl) (by kernel_rfl)
     have bp:∀ (e:AJ) k c,([XR dY]:List SC)[k]? = some c→(d)[0+Yc aE*1+k]? = some (c.den e):=fun e k c hk=>cv k _ (Ak hk)
     have ca:=b9
     rw [x] at ca
     refine A5 12 (aE) [XR dY] (fun _ _ _ _ _ h=>h) rfl rfl (rfl) rfl (by decide) (by kernel_rfl) (by kernel_rfl) c6 (Ay.peek ad.plOk ad 0 0 rfl rfl ai [XR iI] (aq _)) (by rfl) (by rfl) (by rfl) a1 (by rfl) b2 ca (by kernel_rfl) fun el (c7:Kn _ [(s,0+(Ya (aE-1):Int).toNat*1),(aa,0+Yc aE*1)] ((tP 49 1 0)::(tI 48 aE)::(tS 47 bH data.length bI)::(tI 46 iI)::(KR aE bH data bI aA a b bP bQ bR)) _)=>?_
     refine Dj [13] [13,12,11,10,9,8,7,6,5,4,3,2,1,0] [50,46,41,39,38,37,9,8,0,1,2,3] ((tI 50 dY)::(tI 46 iI)::(KR aE bH data bI aA a b bP bQ bR)) (fun _ _ _ _ _ h=>h) c7 (Ay.peek (Ay.peek q.plOk q 0 0 rfl rfl ai [XR iI] (aq _)) q 0 1 rfl rfl a1 [XR dY] (bp _)) (by kernel_rfl) (by rfl) (by kernel_rfl) fun e9 c8=>?_
     obtain⟨cG,hG,f⟩:=Ao f
     obtain⟨b3,cb,ee⟩:=Aj hG
     have a7:=AG b3 cb
     obtain⟨et,d8,cw⟩:=AM (sz:=1) rfl g ee
     obtain rfl:=d8
     obtain⟨af,bn⟩:=AP q (i:=0) rfl (b0:=0+Yc aE*1) (Y5 (Y6 (by decide)) (A3 (sz:=1) rfl g a7))
     have d2:=q.addPlc (b:=af) (o:=0+Yc aE*1) (cs:=[]) (fun j c hj=>by simp at hj) rfl (by kernel_rfl) (by kernel_rfl)
     have ey:∀ (e:AJ) k c,([XR cG]:List SC)[k]? = some c→(d)[0+Yc aE*1+k]? = some (c.den e):=fun e k c hk=>cw k _ (Ak hk)
     have cc:=cb
     rw [x] at cc
     refine A5 14 (aE) [XR cG] (fun _ _ _ _ _ h=>h) rfl rfl (rfl) rfl (by decide) (by kernel_rfl) (by kernel_rfl) c8 (Ay.peek (Ay.peek q.plOk q 0 0 rfl rfl ai [XR iI] (aq _)) q 0 1 rfl rfl a1 [XR dY] (bp _)) (by rfl) (by rfl) (by rfl) bn (by rfl) b3 cc (by kernel_rfl) fun em (c9:Kn _ [(s,0+(Ya (aE-1):Int).toNat*1),(aa,0+Yc aE*1),(af,0+Yc aE*1)] ((tP 51 2 0)::(tI 50 dY)::(tI 46 iI)::(KR aE bH data bI aA a b bP bQ bR)) _)=>?_
     obtain⟨co,cq,f⟩:=Ao f
     obtain⟨e1,e3,cj⟩:=Cl cq
     refine CU 15 rfl (by kernel_rfl) (by decide) (rfl) (by kernel_rfl) fun K hK=>?_
     refine B4 0 2 0 (0+Yc aE*1) (.c (XR iI)) c9 d2 rfl rfl (by rfl) (by rfl) rfl rfl bn rfl (by kernel_rfl) (A3 (sz:=1) rfl g a7) fun fk da bc=>?_
     have ar:Ae u co (d.take (0+Yc aE*1+0)++([.int .i64 iI]:Ye)++d.drop (0+Yc aE*1+0+1)):=by rw [cj]; exact Df (sz:=1) rfl g a7 (Ad:rep u (iI:Int) _)
     have bz:co.length=data.length:=by rw [cj]; simp [x]
     refine hK _ _ ?_
     refine Ax [] [(s,0+(Ya (aE-1):Int).toNat*1),(aa,0+Yc aE*1),(af,0+Yc aE*1)] [⟨[],none⟩,⟨[],none⟩,⟨[],none⟩] ?_
     obtain⟨cO,jO,f⟩:=Ao f
     obtain⟨b4,cd,ef⟩:=Aj jO
     have a8:=AG b4 cd
     obtain⟨eu,d9,cx⟩:=AM (sz:=1) rfl ar ef
     obtain rfl:=d9
     obtain⟨az,bo⟩:=AP bc (i:=0) rfl (b0:=0+(Ya (aE-1):Int).toNat*1) (Y5 (Y6 (by decide)) (A3 (sz:=1) rfl ar a8))
     have d3:=bc.addPlc (b:=az) (o:=0+(Ya (aE-1):Int).toNat*1) (cs:=[]) (fun j c hj=>by simp at hj) rfl (by kernel_rfl) (by kernel_rfl)
     have ez:∀ (e:AJ) k c,([XR cO]:List SC)[k]? = some c→((d.take (0+Yc aE*1+0)++([.int .i64 iI]:Ye)++d.drop (0+Yc aE*1+0+1)))[0+(Ya (aE-1):Int).toNat*1+k]? = some (c.den e):=fun e k c hk=>cx k _ (Ak hk)
     have ce:=cd
     rw [bz] at ce
     refine A5 16 (Ya (aE-1)) [XR cO] (fun _ _ _ _ _ h=>h) rfl rfl (rfl) rfl (by decide) (by kernel_rfl) (by kernel_rfl) da bc.plOk (by rfl) (by rfl) (by rfl) bo (by rfl) b4 ce (by kernel_rfl) fun cm (db:Kn _ [(s,0+(Ya (aE-1):Int).toNat*1),(aa,0+Yc aE*1),(af,0+Yc aE*1),(az,0+(Ya (aE-1):Int).toNat*1)] ((tP 52 3 0)::(tP 51 2 0)::(tI 50 dY)::(tI 46 iI)::(KR aE bH data bI aA a b bP bQ bR)) _)=>?_
     obtain⟨bk,cr,f⟩:=Ao f
     obtain⟨e2,e4,ck⟩:=Cl cr
     refine CU 17 rfl (by kernel_rfl) (by decide) (rfl) (by kernel_rfl) fun K hK=>?_
     refine B4 0 3 0 (0+(Ya (aE-1):Int).toNat*1) (.c (XR dY)) db d3 rfl rfl (by rfl) (by rfl) rfl rfl bo rfl (by kernel_rfl) (A3 (sz:=1) rfl ar a8) fun fm dc bw=>?_
     have cy:Ae u bk ((d.take (0+Yc aE*1+0)++([.int .i64 iI]:Ye)++d.drop (0+Yc aE*1+0+1)).take (0+(Ya (aE-1):Int).toNat*1+0)++([.int .i64 dY]:Ye)++(d.take (0+Yc aE*1+0)++([.int .i64 iI]:Ye)++d.drop (0+Yc aE*1+0+1)).drop (0+(Ya (aE-1):Int).toNat*1+0+1)):=by rw [ck]; exact Df (sz:=1) rfl ar a8 (Ad:rep u (dY:Int) _)
     have d5:bk.length=data.length:=by rw [ck]; simp [bz]
     refine hK _ _ ?_
     have dd:Kn _ _ ((tI 9 aE)::(FB aA bH data bI a b bP bQ bR)) _:=dc.kp
     refine Iv (by kernel_rfl) (Aa (Rk 0 3 ((tI 9 (Ya (aE-1)))::(FB aA bH data bI a b bP bQ bR)) dd bw fun fa de=>?_))
     refine wf ?_
     exact XY bd ⟨Y4 _,XY bk ⟨Ya (aE-1),(d.take (0+Yc aE*1+0)++([.int .i64 iI]:Ye)++d.drop (0+Yc aE*1+0+1)).take (0+(Ya (aE-1):Int).toNat*1+0)++([.int .i64 dY]:Ye)++(d.take (0+Yc aE*1+0)++([.int .i64 iI]:Ye)++d.drop (0+Yc aE*1+0+1)).drop (0+(Ya (aE-1):Int).toNat*1+0+1),_,_,rfl,(de.keep [9,8,0,1,2,3] (by rfl)).cut 0 (by kernel_rfl),bw.cutPl 0 (by kernel_rfl),XU bb a9,cy,d5,f⟩⟩
    rw [Bb a2] at f
    refine wp_exit ?_
    obtain rfl:=XZ f
    exact XY d ⟨_,_,rfl,a5.kp,y,XU bb a9,g,x⟩
   rintro _ fn ⟨ax,bh,ao,rfl,dg,bx,dz,cz,dv⟩
   refine Aa (Rk 0 3 [tI 8 (Ya (aA+1)),tS 0 bH data.length bI,tI 1 a,tI 2 b,(3,.one (.c (.func bP bQ bR)))] dg bx fun fb dh=>?_)
   refine wf ?_
   exact XY av ⟨Y4 _,XY aw ⟨Ya (aA+1),ax,_,_,rfl,dh.kp,bx,XU ba dz,cz,dv,m⟩⟩
  rw [a3,XV] at m
  refine wp_exit ?_
  obtain rfl:=XZ m
  exact XY am ⟨_,_,rfl,a6.kp,au,ba,bq,bv⟩
 rintro _ fo ⟨ay,bf,ag,rfl,e0,d4,d0,c2,dy⟩
 obtain rfl:=XZ H
 exact LY rfl ⟨ag,ay,d0,rfl,dy,c2,(d4.cutRw 1).cutPl 0 (by kernel_rfl)⟩
theorem MS (n:Nat) {h:Ac} {w:World} (hh:CK h w) (x:IK .u64) {r:Int} (H:Gd n x=some r) :
    Calls Tryz.prog 70 #[.int .u64 x.n] w (CP (fun h v=>v=.int .i64 r) h w):=by
  unfold Gd at H
  split at H
  · rename_i h0
    cases H
    refine(Any.bits_Len (P:=Tryz.prog) (ρ:=Tryz.laysSort_ren) { Tryz.laysSort with } x.n w h0.1 h0.2).mono ?_
    rintro e w' ⟨rfl,rfl⟩
    exact⟨_,h,rfl,Below.refl _ _,Ac.le_refl _,fun _ _ _ hx=>.inl hx,rfl⟩
  cases H
abbrev NC (bH)(data:List Int)(bI a b limit)(bP:Fn)(bQ:Array Value)(bR:Array Value):=([tB 10 true,tS 0 bH data.length bI,tI 1 a,tI 2 b,tI 3 limit,(4,.one (.c (.func bP bQ bR)))]:TM)
theorem Gt (n:Nat):∀ (F:Fr)(h:Ac)(w:World)(data:List Int)(bH:Yd)(bI:Nat)(eI:Ye)(fD:Ae h data eI)(a:Int)(b:Int)(limit:Int)(cmp:Int→Int→Option Int)(bP:Fn)(bQ bR:Array Value)(eR:We h (.func bP bQ bR) cmp)(hm:Ai F h [] [] [⟨bH,data.length,bI,3,1,eI,0⟩] w)(r:List Int)(H:Bu n data a b limit cmp=some r),
  Calls Tryz.prog 87 #[.slice bH data.length bI,.int .i64 a,.int .i64 b,.int .i64 limit,.func bP bQ bR] w (Jw fun v w'=>∃ (h':Ac)(g:Ye),Ac.le h h'∧(v=.tuple #[])∧r.length=data.length∧Ae h' r g∧Ai F h' [] [] [⟨bH,data.length,bI,3,1,g,0⟩] w'):=by
 induction n using Nat.strongRecOn with
 | _ n ih =>
  intro F h w data bH bI eI fD a b limit cmp bP bQ bR eR hm r H
  obtain _ | n:=n
  ·
   rw [Bu] at H; cases H
  refine DZ (e:=[]) 148 [.c (Yb bH data.length bI),.c (XR a),.c (XR b),.c (XR limit),.c (.func bP bQ bR)] Tryz.func87 rfl rfl rfl rfl fun t hk=>?_
  rw [Bu] at H
  refine XT (Aa (Rk 0 1 (NC bH data bI a b limit bP bQ bR) hk hm fun a4 al=>?_))
  refine wf (XT (Aa (Rk 0 1 ((tB 11 true)::(NC bH data bI a b limit bP bQ bR)) al hm fun a8 ao=>?_)))
  refine wf ?_
  obtain⟨af,z,H⟩:=Ao H
  refine Ar (fun a' w'=>∃ (ag:Unit)(x:Array Value)(i:Ac),a' = ⟨x,[]⟩∧Kn 148 [] ((tB 11 true)::(NC bH data bI a b limit bP bQ bR)) x∧Ai F i [] [] [⟨bH,data.length,bI,3,1,eI,0⟩] w'∧Ac.le h i∧af=.go ag) ?_ ?_
  ·
   refine wp_block ?_
   refine Av (fun ae a' w'=>∃ (u:Array Value)(k:Ac),a' = ⟨u,[]⟩∧Kn 148 [] ((tB 11 true)::(NC bH data bI a b limit bP bQ bR)) u∧Ai F k [] [] [⟨bH,data.length,bI,3,1,eI,0⟩] w'∧Ac.le h k∧ae≤n∧B0 ae data a b limit cmp=some af) n ?_ ?_
   ·
    exact XY _ ⟨_,rfl,ao.kp,hm,Ac.le_refl _,Ys _,z⟩
   rintro s _ bc ⟨u,k,rfl,ak,f,q,a3,d⟩
   clear z
   obtain _ | s:=s
   ·
    rw [B0] at d; cases d
   rw [B0] at d
   replace eR:=eR.mono q
   replace fD:=fD.mono q
   refine wp_block (XT (Aa (Rk 0 4 ((tI 12 (Ya (b-a)))::(tB 11 true)::(NC bH data bI a b limit bP bQ bR)) ak f fun a5 am=>?_)))
   refine wf (XT (XT (Aa (Rk 0 2 ((tB 25 (decide ((Ya (b-a))≤12)))::(tI 12 (Ya (b-a)))::(tB 11 true)::(NC bH data bI a b limit bP bQ bR)) am f fun a6 p=>?_))))
   refine wf (wC (decide ((Ya (b-a))≤12)) p (fun l=>?_) (fun l=>?_))
   ·
    rw [l,XW] at d
    refine XT (Aa (Rk 0 4 [(29,.one (.c (.func bP bQ bR))),tI 28 b,tI 27 a,tS 26 bH data.length bI] p f fun a7 an=>?_))
    obtain⟨dM,iA,d⟩:=Ao d
    obtain⟨a0,a1,au,ay⟩:=f.lend0 [] [0] (by kernel_rfl) (by kernel_rfl) (by kernel_rfl) (by kernel_rfl)
    refine wl fun K hK=>?_
    refine HU [.c (Yb bH data.length bI),.c (XR a),.c (XR b),.c (.func bP bQ bR)] _ an rfl rfl (by decide) (by rfl) rfl (fun _ _=>by kernel_rfl) (Fo s data fD a b cmp eR au iA) fun bb az ai=>?_
    obtain⟨aa,y,ac,rfl,ax,aj,av⟩:=ai
    have j:=ay _ _ _ [⟨bH,data.length,bI,3,1,y,0⟩] ac rfl (Y7 rfl) (by kernel_rfl) av
    replace j:Ai _ _ [] [] [⟨bH,data.length,bI,3,1,y,0⟩] _:=j
    refine⟨.tup [],rfl,fun ah (ap:Kn _ [] [(30,.tup []),(29,.one (.c (.func bP bQ bR))),tI 28 b,tI 27 a,tS 26 bH data.length bI] _)=>hK _ _ ?_⟩
    have aq:Kn _ _ [] _:=ap.kp
    refine wf (wp_ret ?_)
    obtain rfl:=XZ d
    obtain rfl:=XZ H
    exact Hw (.tup []) aq j (by kernel_rfl) ⟨aa,y,XU q ac,rfl,ax,aj,(j.cutRw 1).cutPl 0 (by kernel_rfl)⟩
   rw [l,XV] at d
   refine wp_skip (XT (XT (Aa (Rk 0 2 ((tB 32 (limit == 0))::(tI 12 (Ya (b-a)))::(tB 11 true)::(NC bH data bI a b limit bP bQ bR)) p f fun a9 ab=>?_))))
   refine wf (wC ((limit == 0)) ab (fun m=>?_) (fun m=>?_))
   ·
    rw [m,XW] at d
    refine XT ?_
    cases d
   rw [m,XV] at d
   refine wp_skip (XT (XT (Aa (Rk 0 2 ((tB 39 (!true))::(tI 12 (Ya (b-a)))::(tB 11 true)::(NC bH data bI a b limit bP bQ bR)) ab f fun ba ar=>?_))))
   refine wf (wC ((!true)) ar (fun o=>?_) (fun o=>?_))
   ·
    rw [o,XW] at d
    refine XT ?_
    cases d
   rw [o,XV] at d
   refine wp_skip (XT ?_)
   cases d
  rintro _ bd ⟨ag,x,i,rfl,a2,aw,ad,rfl⟩
  rw [Ex.bind_go] at H
  replace fD:=fD.mono ad
  obtain rfl:=XZ H
  exact LY rfl ⟨i,eI,ad,rfl,rfl,fD,(aw.cutRw 1).cutPl 0 (by kernel_rfl)⟩
theorem G4 (n:Nat) {F:Fr} {h:Ac} {w:World} (data:List Int) {bH:Yd} {bI:Nat} {eI:Ye} (fD:Ae h data eI) (a:Int) (b:Int) (limit:Int) (cmp:Int→Int→Option Int) {bP:Fn} {bQ bR:Array Value} (eR:We h (.func bP bQ bR) cmp) (hm:Ai F h [] [] [⟨bH,data.length,bI,3,1,eI,0⟩] w) {r:List Int} (H:Bu n data a b limit cmp=some r) :
  Calls Tryz.prog 87 #[.slice bH data.length bI,.int .i64 a,.int .i64 b,.int .i64 limit,.func bP bQ bR] w (Jw fun v w'=>∃ (h':Ac)(g:Ye),Ac.le h h'∧(v=.tuple #[])∧r.length=data.length∧Ae h' r g∧Ai F h' [] [] [⟨bH,data.length,bI,3,1,g,0⟩] w'):=Gt n F h w data bH bI eI fD a b limit cmp bP bQ bR eR hm r H
theorem E0 (n:Nat) {F:Fr} {h:Ac} {w:World} (x:List Int) {eX:Yd} {eY:Nat} {vs_x:Ye} (hc_x:Ae h x vs_x) (cmp:Int→Int→Option Int) {bP:Fn} {bQ bR:Array Value} (eR:We h (.func bP bQ bR) cmp) (hm:Ai F h [] [] [⟨eX,x.length,eY,3,1,vs_x,0⟩] w) {r:List Int} (H:AW n x cmp=some r) :
  Calls Tryz.prog 67 #[.slice eX x.length eY,.func bP bQ bR] w (Jw fun v w'=>∃ (h':Ac)(k:Ye),Ac.le h h'∧(v=.tuple #[])∧r.length=x.length∧Ae h' r k∧Ai F h' [] [] [⟨eX,x.length,eY,3,1,k,0⟩] w'):=by
 refine DZ (e:=[]) 14 [.c (Yb eX x.length eY),.c (.func bP bQ bR)] Tryz.func67 rfl rfl rfl rfl fun t hk=>?_
 unfold AW at H
 refine XT (Aa (Rk 0 3 [tI 4 ((x.length:Nat):Int),tS 0 eX x.length eY,(1,.one (.c (.func bP bQ bR)))] hk hm fun aj s=>?_))
 refine wf (Aa (Rk 0 4 [(10,.one (.c (.int .u64 (IntKind.u64.wrap ((x.length:Nat):Int))))),tI 8 ((x.length:Nat):Int),tS 7 eX x.length eY,(1,.one (.c (.func bP bQ bR)))] s hm fun al y=>?_))
 obtain⟨cY,gR,H⟩:=Ao H
 refine wl fun K hK=>?_
 refine wc [.c (.int .u64 (IntKind.u64.wrap ((x.length:Nat):Int)))] y hm (MS n hm.has (IK.mk (IntKind.u64.wrap ((x.length:Nat):Int))) gR) fun an ah ao l a i=>?_
 replace eR:=eR.mono a
 replace hc_x:=hc_x.mono a
 obtain rfl:=l
 refine⟨.one (.c (XR cY)),rfl,fun ad (p:Kn _ [] [tI 11 cY,(10,.one (.c (.int .u64 (IntKind.u64.wrap ((x.length:Nat):Int))))),tI 8 ((x.length:Nat):Int),tS 7 eX x.length eY,(1,.one (.c (.func bP bQ bR)))] _)=>hK _ _ ?_⟩
 refine Rk 5 1 [(12,.one (.c (.func bP bQ bR))),tI 11 cY,tI 8 ((x.length:Nat):Int),tS 7 eX x.length eY] p i fun ak q=>?_
 obtain⟨cC,fY,H⟩:=Ao H
 obtain⟨af,ag,z,ac⟩:=i.lend0 [] [0] (by kernel_rfl) (by kernel_rfl) (by kernel_rfl) (by kernel_rfl)
 refine wl fun K hK=>?_
 refine HU [.c (Yb eX x.length eY),.c (XR 0),.c (XR ((x.length:Nat):Int)),.c (XR cY),.c (.func bP bQ bR)] _ q rfl rfl (by decide) (by rfl) rfl (fun _ _=>by kernel_rfl) (G4 n x hc_x 0 ((x.length:Nat):Int) cY cmp eR z fY) fun am ae m=>?_
 obtain⟨f,d,g,rfl,ab,o,aa⟩:=m
 have b:=ac _ _ _ [⟨eX,x.length,eY,3,1,d,0⟩] g rfl (Y7 rfl) (by kernel_rfl) aa
 replace b:Ai _ _ [] [] [⟨eX,x.length,eY,3,1,d,0⟩] _:=b
 refine⟨.tup [],rfl,fun j (u:Kn _ [] [(13,.tup []),(12,.one (.c (.func bP bQ bR))),tI 11 cY,tI 8 ((x.length:Nat):Int),tS 7 eX x.length eY] _)=>hK _ _ ?_⟩
 refine wf ?_
 obtain rfl:=XZ H
 exact LY rfl ⟨f,d,XU a g,rfl,ab,o,(b.cutRw 1).cutPl 0 (by kernel_rfl)⟩
theorem J4 (n:Nat) {h:Ac} {w:World} (hh:CK h w) (a:Int) (b:Int) (q0:Am) {cH:Nat} (fA:B9 h cH q0) {r:Int} (H:BL n a b q0=some r) :
  Calls Tryz.prog 83 #[.int .i64 a,.int .i64 b,.pointer (some ⟨cH,0,none⟩)] w (CP (fun h v=>v=.int .i64 r) h w):=by
 obtain⟨_,fB,fC⟩:=id fA
 obtain⟨_,_,rfl,⟨g,k,rfl,av⟩,⟨_,_,rfl,⟨d,f,rfl,s⟩,rfl⟩⟩:=fB
 refine DZ (e:=[(cH,0)]) 19 [.c (XR a),.c (XR b),.c (.ptr 0 0)] Tryz.func83 rfl rfl rfl rfl fun t hk=>?_
 have hm:=Ai.begin h w hh
 replace hm:=hm.addPlc (o:=0) (cs:=[Yb g q0.room.length k,Yb d q0.lG.length f,XR q0.broken]) (fun j c hj=>by rw [Y3]; exact fC j _ (Ak hj)) rfl (by kernel_rfl) (by kernel_rfl)
 replace hm:Ai _ _ [(cH,0)] [⟨[Yb g q0.room.length k,Yb d q0.lG.length f,XR q0.broken],none⟩] [] _:=hm
 unfold BL at H
 refine XT (Aa (Rk 0 1 [tI 0 a,tI 1 b,tP 2 0 0] hk hm fun ay ag=>?_))
 refine wf (XT (Au (by kernel_rfl) ?_))
 replace hm:=hm.drew
 refine Ax [] [(cH,0)] [⟨[Yb g q0.room.length k,Yb d q0.lG.length f,XR q0.broken],none⟩] ?_
 refine Dr [0,1,2] [2,1,0] [tI 8 a,tS 7 d q0.lG.length f,tI 1 b,tP 2 0 0] ag hm fun az ab=>?_
 obtain⟨x9,kW,H⟩:=Ao H
 obtain⟨ah,aj,an⟩:=Aj kW
 obtain⟨i,m,ar,x,al,z⟩:=s.get (by decide) an
 obtain⟨_,_,rfl,rfl,⟨_,_,rfl,rfl,rfl⟩⟩:=al
 have l:=hm.addPlc (b:=i) (o:=m+Yc a*3) (cs:=[XR x9.lo,XR x9.hi,XR x9.turn]) (fun j c hj=>z j _ (Ak hj)) rfl (by kernel_rfl) (by kernel_rfl)
 refine A5 3 (a) [XR x9.lo,XR x9.hi,XR x9.turn] (fun _ _ _ _ _ h=>h) rfl rfl (rfl) rfl (by decide) (by kernel_rfl) (by kernel_rfl) ab hm.plOk (by rfl) (by rfl) (by rfl) x (by rfl) ah aj (by kernel_rfl) fun ap (ac:Kn _ [(cH,0),(i,m+Yc a*3)] [tP 9 1 0,tI 8 a,tS 7 d q0.lG.length f,tI 1 b,tP 2 0 0] _)=>?_
 refine Dr [4,5,6,7,8] (dn 8) [tI 14 b,tS 13 d q0.lG.length f,tI 11 x9.turn] ac l fun aw ad=>?_
 obtain⟨dJ,jH,H⟩:=Ao H
 obtain⟨ai,ak,ao⟩:=Aj jH
 obtain⟨p,u,au,y,am,aa⟩:=s.get (by decide) ao
 obtain⟨_,_,rfl,rfl,⟨_,_,rfl,rfl,rfl⟩⟩:=am
 have q:=l.addPlc (b:=p) (o:=u+Yc b*3) (cs:=[XR dJ.lo,XR dJ.hi,XR dJ.turn]) (fun j c hj=>aa j _ (Ak hj)) rfl (by kernel_rfl) (by kernel_rfl)
 refine A5 9 (b) [XR dJ.lo,XR dJ.hi,XR dJ.turn] (fun _ _ _ _ _ h=>h) rfl rfl (rfl) rfl (by decide) (by kernel_rfl) (by kernel_rfl) ad l.plOk (by rfl) (by rfl) (by rfl) y (by rfl) ai ak (by kernel_rfl) fun aq (ae:Kn _ [(cH,0),(i,m+Yc a*3),(p,u+Yc b*3)] [tP 15 2 0,tI 14 b,tS 13 d q0.lG.length f,tI 11 x9.turn] _)=>?_
 refine Dr [10,11,12,13] (dn 13) [tI 5 (Ya (x9.turn-dJ.turn))] ae q fun ax af=>?_
 refine AL (by kernel_rfl) (wp_ret ?_)
 obtain rfl:=XZ H
 exact rt (.one (.c (XR (Ya (x9.turn-dJ.turn))))) af q rfl
theorem E2 (n:Nat) {h:Ac} {w:World} {σ:Type} {J:σ→Ac→World→Prop} (hJ:Xz J) {l:Nat} (dT:σ→Int→Option (σ×Bool)) (hy:∀ (s:σ)(x0:Int)(s':σ)(b:Bool)(h:Ac)(w:World),J s h w→dT s x0=some (s',b)→Yields Tryz.prog l #[.int .i64 x0] w (fun c w'=>c=b∧∃ h',Ac.le h h'∧J s' h' w')) (s:σ) (hw:J s h w) (q0:List Int) {cH:Nat} (fA:B9 h cH q0) {r:σ} (H:B8 n dT s q0=some r) :
  Calls Tryz.prog 107 #[.func (.yield l) #[] #[],.pointer (some ⟨cH,0,none⟩)] w (fun en w'=>en=.returned (.tuple #[])∧∃ h',Ac.le h h'∧J r h' w'):=by
 obtain⟨_,fB,fC⟩:=id fA
 obtain⟨a,d,rfl,ah⟩:=fB
 have hh:=hJ.has _ _ _ hw
 refine DZ (e:=[(cH,0)]) 16 [.c (.func (.yield l) #[] #[]),.c (.ptr 0 0)] Tryz.func107 rfl rfl rfl rfl fun t hk=>?_
 have hm:=Ai.begin h w hh
 replace hm:=hm.addPlc (o:=0) (cs:=[Yb a q0.length d]) (fun j c hj=>by rw [Y3]; exact fC j _ (Ak hj)) rfl (by kernel_rfl) (by kernel_rfl)
 replace hm:Ai _ _ [(cH,0)] [⟨[Yb a q0.length d],none⟩] [] _:=hm
 unfold B8 at H
 refine XT (Aa (Rk 0 3 [tI 7 0,tI 6 ((q0.length:Nat):Int),tS 5 a q0.length d,(0,.one (.c (.func (.yield l) #[] #[])))] hk hm fun bi a1=>?_))
 refine wf ?_
 obtain⟨aq,an,H⟩:=Ao H
 refine Ar (fun a' w'=>∃ (x:σ)(am:World)(ad:Ac)(aj:Array Value)(k:Ac),a' = ⟨aj,[]⟩∧Kn 16 [(cH,0)] [] aj∧Ai ⟨am,ad,BF⟩ k [(cH,0)] [⟨[Yb a q0.length d],none⟩] [] w'∧Ac.le h k∧J x ad am∧aq=.go x) ?_ ?_
 ·
  refine wp_block ?_
  refine Av (fun bb a' w'=>∃ (aB:Int)(aA:σ)(y:World)(p:Ac)(ak:Array Value)(aa:Ac),a' = ⟨ak,[]⟩∧Kn 16 [(cH,0)] [tI 7 aB,tI 6 ((q0.length:Nat):Int),tS 5 a q0.length d,(0,.one (.c (.func (.yield l) #[] #[])))] ak∧Ai ⟨y,p,BF⟩ aa [(cH,0)] [⟨[Yb a q0.length d],none⟩] [] w'∧Ac.le h aa∧J aA p y∧AV bb dT q0 aB aA=some aq) n ?_ ?_
  ·
   exact XY 0 ⟨s,w,h,_,_,rfl,a1.kp,hm,Ac.le_refl _,hw,an⟩
  rintro ai _ bn ⟨aB,aA,y,p,ak,aa,rfl,ax,ag,g,ao,f⟩
  clear an
  obtain _ | ai:=ai
  ·
   rw [AV] at f; cases f
  rw [AV] at f
  replace ah:=ah.mono g
  refine XT (Aa (Rk 0 1 [tB 8 (decide (aB<((q0.length:Nat):Int))),tI 7 aB,tI 6 ((q0.length:Nat):Int),tS 5 a q0.length d,(0,.one (.c (.func (.yield l) #[] #[])))] ax ag fun bh ae=>?_))
  refine wf (XT (wC (decide (aB<((q0.length:Nat):Int))) ae (fun ab=>?_) (fun ab=>?_)))
  ·
   rw [ab,XW] at f
   refine wp_skip (XT (wp_block (XT (Aa ?_))))
   obtain⟨x9,kW,f⟩:=Ao f
   obtain⟨a7,a8,ba⟩:=Aj kW
   obtain⟨i,v,bf,av,a9,aw⟩:=ah.get (by decide) ba
   obtain rfl:=a9
   have q:=ag.addPlc (b:=i) (o:=v+Yc aB*1) (cs:=[XR x9]) (fun j c hj=>aw j _ (Ak hj)) rfl (by kernel_rfl) (by kernel_rfl)
   refine A9 0 (aB) rfl rfl (rfl) rfl (by decide) ae (by rfl) (by rfl) (by rfl) av (by rfl) a7 a8 (by kernel_rfl) fun bc (ay:Kn _ [(cH,0),(i,v+Yc aB*1)] [tP 9 1 0,tB 8 (decide (aB<((q0.length:Nat):Int))),tI 7 aB,tI 6 ((q0.length:Nat):Int),tS 5 a q0.length d,(0,.one (.c (.func (.yield l) #[] #[])))] _)=>?_
   refine Rk 1 2 [tI 4 x9,tI 7 aB,tI 6 ((q0.length:Nat):Int),tS 5 a q0.length d,(0,.one (.c (.func (.yield l) #[] #[])))] ay q fun bj az=>?_
   refine wf (XT (IA ?_))
   refine Iz 0 2 [12,11,7,6,5,0] [tI 12 x9,(11,.one (.c (.func (.yield l) #[] #[]))),tI 7 aB,tI 6 ((q0.length:Nat):Int),tS 5 a q0.length d,(0,.one (.c (.func (.yield l) #[] #[])))] az q.plOk (by kernel_rfl) fun bk a0=>?_
   obtain⟨cC,fY,f⟩:=Ao f
   refine Sr 2 [.c (XR x9)] _ a0 rfl rfl (rfl) rfl (by decide) (by rfl) (by rfl) rfl (hy _ x9 _ _ _ _ (q.J hJ ao) fY) fun be al au bd a2=>?_
   obtain⟨rfl,m,af,z⟩:=au
   have a3:Kn _ _ [tB 13 cC.2,tI 12 x9,(11,.one (.c (.func (.yield l) #[] #[]))),tI 7 aB,tI 6 ((q0.length:Nat):Int),tS 5 a q0.length d,(0,.one (.c (.func (.yield l) #[] #[])))] _:=a2.kp
   have u:Ai _ _ [(cH,0),(i,v+Yc aB*1)] [⟨[.slice a q0.length d],none⟩,⟨[.int .i64 x9],none⟩] [] _:=q.rebase af (hJ.has _ _ _ z) (by kernel_rfl)
   refine Iz 3 1 [14,7,6,5,0] [tB 14 (!cC.2),tI 7 aB,tI 6 ((q0.length:Nat):Int),tS 5 a q0.length d,(0,.one (.c (.func (.yield l) #[] #[])))] a3 u.plOk (by kernel_rfl) fun bl ap=>?_
   refine Ju (by decide) (wC ((!cC.2)) ap (fun ac=>?_) (fun ac=>?_))
   ·
    rw [ac,XW] at f
    refine wp_ret ?_
    obtain rfl:=XZ f
    obtain rfl:=XZ H
    exact VF (J:=fun w'=>∃ h',Ac.le h h'∧J cC.1 h' w') rfl ⟨m,XU g af,u.J hJ z⟩
   rw [ac,XV] at f
   refine wp_skip (Aa (Rk 0 2 [tI 7 (Ya (aB+1)),tI 6 ((q0.length:Nat):Int),tS 5 a q0.length d,(0,.one (.c (.func (.yield l) #[] #[])))] ap u fun bm a4=>?_))
   refine wf ?_
   exact XY ai ⟨Y4 _,XY (Ya (aB+1)) ⟨cC.1,al,m,_,_,rfl,(a4.keep [7,6,5,0] (by rfl)).cut 1 (by kernel_rfl),u.cutPl 1 (by kernel_rfl),XU g af,z,f⟩⟩
  rw [ab,XV] at f
  refine wp_exit ?_
  obtain rfl:=XZ f
  exact XY aA ⟨y,p,_,_,rfl,ae.kp,ag,g,ao,rfl⟩
 rintro _ bo ⟨x,am,ad,aj,k,rfl,bg,a6,a5,ar,rfl⟩
 rw [Ex.bind_go] at H
 obtain rfl:=XZ H
 exact VE (J:=fun w'=>∃ h',Ac.le h h'∧J x h' w') rfl ⟨k,a5,a6.J hJ ar⟩
theorem H9 (n:Nat) {h:Ac} {w:World} (hh:CK h w) (s:List Int) {dB:Yd} {dD:Nat} (eW:At h dB dD s) {r:(List Int)} (H:DY n s=some r) :
  Calls Tryz.prog 84 #[.slice dB s.length dD] w (CP (fun h v=>∃ b0:Nat,v=.func (.func 107) #[] #[.pointer (some ⟨b0,0,none⟩)]∧B9 h b0 r) h w):=by
 refine enter 4 [.c (Yb dB s.length dD)] Tryz.func84 rfl rfl rfl rfl fun t hk=>?_
 have hm:=Ai.begin h w hh
 unfold DY at H
 refine XT (Aa (wl fun K hK=>?_))
 refine wb (.c (Yb dB s.length dD)) hk hm fun a u x (m:Kn _ [(a,0)] [tP 1 0 0,tS 0 dB s.length dD] _) g=>hK _ _ ?_
 refine Rk 1 1 [tP 1 0 0] m g fun aa o=>?_
 refine wf (XT (Aa ?_))
 obtain⟨b,p,f,d⟩:=g.settlePlc (i:=0) rfl
 replace eW:=eW.mono p
 replace d:Ai _ _ [(a,0)] [⟨[Yb dB s.length dD],none⟩] [] _:=d
 have j:B9 b a (s:List Int):=B9.of (e:=[(a,0)]) (cs:=[Yb dB s.length dD]) ((Af eW):rep b (s:List Int) _) rfl f
 have y:As b a [.slice dB s.length dD]:=As.of (e:=[(a,0)]) (cs:=[.slice dB s.length dD]) rfl f
 refine Ey 0 #[] #[.pointer (some ⟨a,0,none⟩)] o rfl rfl (rfl) rfl (by decide) (by rfl) (by rfl) (by rfl) (by rfl) fun q (k:Kn _ [(a,0)] [(3,.one (.c (.func (.func 107) #[] #[.pointer (some ⟨a,0,none⟩)]))),tP 1 0 0] _)=>?_
 refine Rk 1 1 [(2,.one (.c (.func (.func 107) #[] #[.pointer (some ⟨a,0,none⟩)])))] k d fun z l=>?_
 refine wf (wp_ret ?_)
 obtain rfl:=XZ H
 exact rt (.one (.c (.func (.func 107) #[] #[.pointer (some ⟨a,0,none⟩)]))) l d ⟨_,rfl,j⟩
abbrev Pp (aA)(y:Am)(g)(aB:List Int)(j):=([tI 10 aA,tI 9 ((y.lG.length:Nat):Int),tS 5 g aB.length j,tP 3 1 0,tP 2 0 0]:TM)
theorem He (n:Nat) {h:Ac} {w:World} (hh:CK h w) (y:Am) {dQ:Ye} (eD:rep h y dQ) (broken:A1) {gt:Ye} (iE:rep h broken gt) {r:(List Int)} (H:Dd n y broken=some r) :
  Calls Tryz.prog 58 #[.agg dQ.toArray,.agg gt.toArray] w (CP (fun h v=>∃ b0:Nat,v=.func (.func 107) #[] #[.pointer (some ⟨b0,0,none⟩)]∧B9 h b0 r) h w):=by
 obtain⟨_,_,rfl,⟨k,m,rfl,az⟩,⟨_,_,rfl,⟨l,o,rfl,a8⟩,rfl⟩⟩:=eD
 obtain⟨_,_,rfl,rfl,⟨_,_,rfl,rfl,⟨_,_,rfl,rfl,⟨_,_,rfl,rfl,⟨_,_,rfl,rfl,⟨_,_,rfl,rfl,⟨_,_,rfl,rfl,rfl⟩⟩⟩⟩⟩⟩⟩:=iE
 refine enter 27 [.agg (Mh k y m l o),.agg (WP broken)] Tryz.func58 rfl rfl rfl rfl fun t hk=>?_
 have hm:=Ai.begin h w hh
 unfold Dd at H
 refine XT (Aa (wl fun K hK=>?_))
 refine wb (.agg (Mh k y m l o)) hk hm fun a da d3 (bz:Kn _ [(a,0)] [tP 2 0 0,tA 0 (Mh k y m l o),tA 1 (WP broken)] _) cr=>hK _ _ ?_
 refine wl fun K hK=>?_
 refine wb (.agg (WP broken)) bz cr fun f c4 db (b8:Kn _ [(a,0),(f,0)] [tP 3 1 0,tP 2 0 0,tA 0 (Mh k y m l o),tA 1 (WP broken)] _) ag=>hK _ _ ?_
 refine Rk 2 1 [tP 3 1 0,tP 2 0 0] b8 ag fun dk b9=>?_
 refine wf (XT (Aa (Rk 0 1 [tS 5 none 0 0,tP 3 1 0,tP 2 0 0] b9 ag fun dl ca=>?_)))
 refine wf (XT (XT (Aa (Rk 0 4 [tI 10 0,tI 9 ((y.lG.length:Nat):Int),tS 5 none 0 0,tP 3 1 0,tP 2 0 0] ca ag fun dm cb=>?_))))
 refine wf ?_
 have cu:Ai _ _ [(a,0),(f,0)] [⟨Mh k y m l o,some 51⟩,⟨WP broken,some 82⟩] [⟨none,0,0,3,1,[],0⟩] _:=ag.nilRow 3 1
 have bv:Ae h ([]:List Int) []:=Ae.nil
 obtain⟨q,bf,H⟩:=Ao H
 refine Ar (fun a' w'=>∃ (b:Yd)(d:Nat)(ai:Ye)(bb:Array Value)(ae:Ac),a' = ⟨bb,[]⟩∧Kn 27 [(a,0),(f,0)] [tS 5 b q.length d,tP 2 0 0] bb∧Ai ⟨w,h,BF⟩ ae [(a,0),(f,0)] [⟨Mh k y m l o,some 51⟩,⟨WP broken,some 82⟩] [⟨b,q.length,d,3,1,ai,0⟩] w'∧Ac.le h ae∧Ae ae q ai) ?_ ?_
 ·
  refine wp_block ?_
  refine Av (fun c2 a' w'=>∃ (aB:List Int)(aA:Int)(g:Yd)(j:Nat)(x:Ye)(bc:Array Value)(u:Ac),a' = ⟨bc,[]⟩∧Kn 27 [(a,0),(f,0)] (Pp aA y g aB j) bc∧Ai ⟨w,h,BF⟩ u [(a,0),(f,0)] [⟨Mh k y m l o,some 51⟩,⟨WP broken,some 82⟩] [⟨g,aB.length,j,3,1,x,0⟩] w'∧Ac.le h u∧Ae u aB x∧BC c2 y broken aB aA=some q) n ?_ ?_
  ·
   exact XY ([]:List Int) ⟨0,none,0,[],_,_,rfl,cb.kp,cu,Ac.le_refl _,bv,bf⟩
  rintro ah _ d0 ⟨aB,aA,g,j,x,bc,u,rfl,cc,s,ar,am,p⟩
  clear bf
  obtain _ | ah:=ah
  ·
   rw [BC] at p; cases p
  rw [BC] at p
  refine XT (Aa (Rk 0 1 ((tB 11 (decide (aA<((y.lG.length:Nat):Int))))::(Pp aA y g aB j)) cc s fun dn ap=>?_))
  refine wf (XT (wC (decide (aA<((y.lG.length:Nat):Int))) ap (fun aj=>?_) (fun aj=>?_)))
  ·
   rw [aj,XW] at p
   refine wp_skip (XT (wp_block (XT (Aa (Rk 0 2 ((tI 6 aA)::(Pp aA y g aB j)) ap s fun dp cd=>?_)))))
   refine wf (XT (Aa (Rk 0 1 ((tI 13 aA)::(tI 6 aA)::(Pp aA y g aB j)) cd s fun dq bj=>?_)))
   obtain⟨cQ,fX,p⟩:=Ao p
   obtain⟨cw,cx⟩:=BI fX
   refine Eg 1 (.one (.c (.ptr 1 (0+Yc aA*1)))) rfl (rfl) rfl (AZ (E:=4) bj rfl (by kernel_rfl) (by kernel_rfl) (by rfl) (by rfl) cw cx) (bj.put (by decide) _) fun c6 (bk:Kn _ [(a,0),(f,0)] ((tP 14 1 (0+Yc aA*1))::(tI 13 aA)::(tI 6 aA)::(Pp aA y g aB j)) _)=>?_
   obtain⟨dJ,jH,p⟩:=Ao p
   obtain⟨_,_,c1⟩:=Aj jH
   refine Eg 2 (.one (.c (.bool dJ))) rfl (rfl) rfl (CA bk s.plOk rfl (by rfl) rfl (by kernel_rfl) (F8 (fun(y:Bool)=>([.bool y]:List SC)) 1 (fun _=>rfl) [] [] broken.toL _ _ c1 rfl rfl)) (bk.put (by decide) _) fun c7 (ce:Kn _ [(a,0),(f,0)] ((tB 15 dJ)::(tP 14 1 (0+Yc aA*1))::(tI 13 aA)::(tI 6 aA)::(Pp aA y g aB j)) _)=>?_
   refine Rk 3 1 ((tB 16 (!dJ))::(tI 6 aA)::(Pp aA y g aB j)) ce s fun dr aq=>?_
   refine wf (wC ((!dJ)) aq (fun ak=>?_) (fun ak=>?_))
   ·
    rw [ak,XW] at p
    refine Aa (Rk 0 2 [tI 18 aA,tS 17 g aB.length j,tI 10 aA,tI 9 ((y.lG.length:Nat):Int),tP 3 1 0,tP 2 0 0] aq s fun ds cf=>?_)
    refine wl fun K hK=>?_
    refine wS 3 1 [XR aA] cf s fun be c8 d1 (cg:Kn _ [(a,0),(f,0)] [tS 19 be 1 1,tI 18 aA,tS 17 g aB.length j,tI 10 aA,tI 9 ((y.lG.length:Nat):Int),tP 3 1 0,tP 2 0 0] _) bn=>?_
    have ao:Ae u ([aA]:List Int) ([.int .i64 aA]:Ye):=⟨_,_,rfl,(Ad:rep u (aA:Int) _),rfl⟩
    refine hK _ _ ?_
    obtain⟨cL,jY,p⟩:=Ao p
    obtain⟨a9,co⟩:=Bj jY
    refine wl fun K hK=>?_
    refine AS 0 8 1 _ (cL.length) _ ([.int .i64 aA]:Ye) cg bn rfl rfl (by decide) rfl (by rfl) (by kernel_rfl) (by rfl) (by rfl) (Ae.len ao) (bn.rowCell (i:=1) rfl) ao.one (by rw [a9]; simp <;> omega) (by rw [a9]; exact co) (by decide) fun ab ad bq c9 d2 bx (ch:Kn _ [(a,0),(f,0)] [tS 20 ab cL.length ad,tS 19 be 1 1,tI 18 aA,tS 17 g aB.length j,tI 10 aA,tI 9 ((y.lG.length:Nat):Int),tP 3 1 0,tP 2 0 0] _) ax=>?_
    have bw:Ae u cL (x++([.int .i64 aA]:Ye)):=by rw [a9]; exact Ae.append am ao
    obtain rfl:bq=0:=Nat.le_zero.1 bx
    refine hK _ _ ?_
    refine Rk 4 1 [tS 5 ab cL.length ad,tI 10 aA,tI 9 ((y.lG.length:Nat):Int),tP 3 1 0,tP 2 0 0] ch ax fun dt ci=>?_
    refine wf (Aa (Rk 0 2 [tI 10 (Ya (aA+1)),tS 5 ab cL.length ad,tI 9 ((y.lG.length:Nat):Int),tP 3 1 0,tP 2 0 0] ci ax fun du cj=>?_))
    refine wf ?_
    exact XY ah ⟨Y4 _,XY cL ⟨Ya (aA+1),ab,ad,x++([.int .i64 aA]:Ye),_,_,rfl,cj.kp,ax.cutRw 1,ar,bw,p⟩⟩
   rw [ak,XV] at p
   refine wp_skip (Aa (Rk 0 2 [tI 10 (Ya (aA+1)),tI 9 ((y.lG.length:Nat):Int),tS 5 g aB.length j,tP 3 1 0,tP 2 0 0] aq s fun dv ck=>?_))
   refine wf ?_
   exact XY ah ⟨Y4 _,XY aB ⟨Ya (aA+1),g,j,x,_,_,rfl,ck.kp,s,ar,am,p⟩⟩
  rw [aj,XV] at p
  refine wp_exit ?_
  obtain rfl:=XZ p
  exact XY g ⟨j,x,_,_,rfl,ap.kp,s,ar,am⟩
 rintro _ dc ⟨b,d,ai,bb,ae,rfl,cl,bo,bl,an⟩
 refine XT (Aa (Rk 0 1 [tS 22 b q.length d,tS 5 b q.length d,tP 2 0 0] cl bo fun dw cm=>?_))
 obtain⟨z,au,bi,ay⟩:=bo.settlePlc (i:=0) rfl
 replace az:=az.mono (XU bl au)
 replace a8:=a8.mono (XU bl au)
 replace an:=an.mono au
 replace ay:Ai _ _ [(a,0),(f,0)] [⟨Mh k y m l o,none⟩,⟨WP broken,some 82⟩] [⟨b,q.length,d,3,1,ai,0⟩] _:=ay
 have bt:B9 z a (y:Am):=B9.of (e:=[(a,0),(f,0)]) (cs:=(Mh k y m l o)) ((Ab (Af az) (Ab (Af a8) Ad)):rep z (y:Am) _) rfl bi
 have dg:As z a [.slice k y.room.length m,.slice l y.lG.length o,.int .i64 y.broken]:=As.of (e:=[(a,0),(f,0)]) (cs:=[.slice k y.room.length m,.slice l y.lG.length o,.int .i64 y.broken]) rfl bi
 refine Ey 1 #[] #[.pointer (some ⟨a,0,none⟩)] cm rfl rfl (rfl) rfl (by decide) (by rfl) (by rfl) (by rfl) (by rfl) fun c3 (b1:Kn _ [(a,0),(f,0)] [(23,.one (.c (.func (.func 83) #[] #[.pointer (some ⟨a,0,none⟩)]))),tS 22 b q.length d,tS 5 b q.length d,tP 2 0 0] _)=>?_
 obtain⟨dA,gV,H⟩:=Ao H
 obtain⟨dd,de,cn,cz⟩:=ay.lend0 [] [0] (by kernel_rfl) (by kernel_rfl) (by kernel_rfl) (by kernel_rfl)
 refine wl fun K hK=>?_
 refine HU [.c (Yb b q.length d),.c (.func (.func 83) #[] #[.pointer (some ⟨a,0,none⟩)])] _ b1 rfl rfl (by decide) (by rfl) rfl (fun _ _=>by kernel_rfl) (E0 n q an (fun(y0:Int)(y1:Int)=>BL n y0 y1 y) (show We z (.func (.func 83) #[] #[.pointer (some ⟨a,0,none⟩)]) (fun(y0:Int)(y1:Int)=>BL n y0 y1 y) from fun h2 w2 hle hh y0 y1 r H=>⟨83,_,_,rfl,fun _ _=>by kernel_rfl,J4 n hh y0 y1 y (bt.mono hle) H⟩) cn gV) fun dx bd bs=>?_
 obtain⟨bg,aa,cp,rfl,cv,al,ct⟩:=bs
 have av:=cz _ _ _ [⟨b,q.length,d,3,1,aa,0⟩] cp rfl (Y7 rfl) (by kernel_rfl) ct
 replace av:Ai _ _ [(a,0),(f,0)] [⟨Mh k y m l o,none⟩,⟨WP broken,some 82⟩] [⟨b,q.length,d,3,1,aa,0⟩] _:=av
 refine⟨.tup [],rfl,fun ba (b2:Kn _ [(a,0),(f,0)] [(24,.tup []),(23,.one (.c (.func (.func 83) #[] #[.pointer (some ⟨a,0,none⟩)]))),tS 22 b q.length d,tS 5 b q.length d,tP 2 0 0] _)=>hK _ _ ?_⟩
 have bp:=cv.symm
 have b3:Kn 27 [(a,0),(f,0)] [(24,.tup []),(23,.one (.c (.func (.func 83) #[] #[.pointer (some ⟨a,0,none⟩)]))),(22,.one (.c (Yb b dA.length d))),(5,.one (.c (Yb b dA.length d))),(2,.one (.c (.ptr 0 0)))] ba:=by rw [← bp]; exact b2
 have aw:Ai ⟨w,h,BF⟩ bg [(a,0),(f,0)] [⟨[Yb k y.room.length m,Yb l y.lG.length o,XR y.broken],none⟩,⟨[.bool broken.a0,.bool broken.a1,.bool broken.a2,.bool broken.a3,.bool broken.a4,.bool broken.a5,.bool broken.a6,.bool broken.a7],some 82⟩] [⟨b,dA.length,d,3,1,aa,0⟩] bd:=by rw [← bp]; exact av
 have b4:Kn _ _ [tS 5 b dA.length d] _:=b3.kp
 refine wf (XT (Aa (Rk 0 1 [tS 25 b dA.length d] b4 aw fun di b5=>?_)))
 obtain⟨bh,cq,c0,af⟩:=aw.settle (i:=0) rfl
 replace al:=al.mono cq
 replace af:Ai _ _ [(a,0),(f,0)] [⟨Mh k y m l o,none⟩,⟨WP broken,some 82⟩] [⟨b,dA.length,d,3,1,aa,_⟩] _:=af
 have cy:At bh b d dA:=⟨_,al,c0,aw.rowCap (i:=0) rfl⟩
 obtain⟨cJ,gD,H⟩:=Ao H
 refine wl fun K hK=>?_
 refine wc [.c (Yb b dA.length d)] b5 af (H9 n af.has dA cy gD) fun dy df dz br dh bm=>?_
 obtain⟨ac,rfl,bu⟩:=br
 refine⟨.one (.c (.func (.func 107) #[] #[.pointer (some ⟨ac,0,none⟩)])),rfl,fun c5 (b6:Kn _ [(a,0),(f,0)] [(26,.one (.c (.func (.func 107) #[] #[.pointer (some ⟨ac,0,none⟩)]))),tS 25 b dA.length d] _)=>hK _ _ ?_⟩
 refine Rk 2 1 [(4,.one (.c (.func (.func 107) #[] #[.pointer (some ⟨ac,0,none⟩)])))] b6 bm fun dj b7=>?_
 refine wf (wp_ret ?_)
 obtain rfl:=XZ H
 exact rt (.one (.c (.func (.func 107) #[] #[.pointer (some ⟨ac,0,none⟩)]))) b7 bm ⟨_,rfl,bu⟩
end Go.Proofs.YtinminkmefljbaaGreat
