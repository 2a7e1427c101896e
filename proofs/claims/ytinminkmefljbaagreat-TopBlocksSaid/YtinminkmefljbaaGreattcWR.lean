/- Each call computes its plain function. -/
import Derived.Test.YtinminkmefljbaaGreatProg
import Derived.Test.YtinminkmefljbaaGreattcWP
import Derived.Test.YtinminkmefljbaaGreattcWQ
set_option linter.all false
namespace Go.Proofs.YtinminkmefljbaaGreat
open Go Go.RowKit
set_option maxRecDepth 100000
set_option maxHeartbeats 4000000
open Rep (rep)
open KRep (kv)
open VRep (rv)
theorem Na (n:Nat) {h:Ac} {w:World} (hh:CK h w) (x:IK .u64) (y:IK .u64) {r:IK .u64×IK .u64} (H:Kl n x y=some r) :
    Calls Tryz.prog 79 #[.int .u64 x.n,.int .u64 y.n] w (CP (fun h v=>∃ v0 v1,v=.tuple #[v0,v1]∧(v0=.int .u64 r.1.n)∧(v1=.int .u64 r.2.n)) h w):=by
  refine(Tryz.muls x y H w).mono ?_
  rintro e w' ⟨rfl,rfl⟩
  exact⟨_,h,rfl,Below.refl _ _,Ac.le_refl _,fun _ _ _ hx=>.inl hx,⟨_,_,rfl,rfl,rfl⟩⟩
abbrev T5 (aA b)(aB:List Int)(a:Nat):=([tI 43 aA,tS 42 b aB.length a,tS 41 (HS 1 b a (Yc aA)) (aB.length-(Yc aA)) (a-(Yc aA)),tI 38 aA,tS 7 b aB.length a]:TM)
theorem Bv (n:Nat) {h:Ac} {w:World} (hh:CK h w) (x:List Int) {eX:Yd} {eY:Nat} (iL:At h eX eY x) (count:Int) {r:List Int} (H:Cu n x count=some r) :
  Calls Tryz.prog 47 #[.slice eX x.length eY,.int .i64 count] w (VI (fun h v rs=>∃ (ao:Yd)(ap:Nat)(bh:Ye),v=.slice ao r.length ap∧rs=[⟨ao,r.length,ap,3,1,bh,0⟩]∧Ae h r bh) h w):=by
 refine enter 48 [.c (Yb eX x.length eY),.c (XR count)] Tryz.func47 rfl rfl rfl rfl fun t hk=>?_
 have hm:=Ai.begin h w hh
 unfold Cu at H
 refine XT (Aa (Rk 0 1 [tS 0 eX x.length eY,tI 1 count] hk hm fun cv bx=>?_))
 refine wf (XT (XT (Aa (Rk 0 2 [tB 10 (decide (count<0)),tS 0 eX x.length eY,tI 1 count] bx hm fun c1 ax=>?_))))
 refine wf (wC (decide (count<0)) ax (fun ae=>?_) (fun ae=>?_))
 ·
  rw [ae,XW] at H
  cases H
 rw [ae,XV] at H
 refine wp_skip (XT (Aa (Rk 0 5 [(17,.one (.c (.int .u64 (IntKind.u64.wrap count)))),(15,.one (.c (.int .u64 (IntKind.u64.wrap ((x.length:Nat):Int))))),tS 0 eX x.length eY] ax hm fun c5 b9=>?_)))
 obtain⟨cS,gW,H⟩:=Ao H
 refine wl fun K hK=>?_
 refine wc [.c (.int .u64 (IntKind.u64.wrap ((x.length:Nat):Int))),.c (.int .u64 (IntKind.u64.wrap count))] b9 hm (Na n hm.has (IK.mk (IntKind.u64.wrap ((x.length:Nat):Int))) (IK.mk (IntKind.u64.wrap count)) gW) fun da bl db bk cd p=>?_
 replace iL:=iL.mono cd
 obtain⟨_,_,rfl,rfl,rfl⟩:=bk
 refine⟨.tup [.c (.int .u64 cS.1.n),.c (.int .u64 cS.2.n)],rfl,fun cm (bv:Kn _ [] [(18,.tup [.c (.int .u64 cS.1.n),.c (.int .u64 cS.2.n)]),(17,.one (.c (.int .u64 (IntKind.u64.wrap count)))),(15,.one (.c (.int .u64 (IntKind.u64.wrap ((x.length:Nat):Int))))),tS 0 eX x.length eY] _)=>hK _ _ ?_⟩
 refine Rk 6 5 [(6,.one (.c (.int .u64 cS.2.n))),(5,.one (.c (.int .u64 cS.1.n))),tS 0 eX x.length eY] bv p fun cy bw=>?_
 refine wf (XT (XT ?_))
 obtain⟨bb,z,H⟩:=Ao H
 refine Ar (fun a' w'=>∃ (ak:Array Value)(g:Ac),a' = ⟨ak,[]⟩∧Kn 48 [] [(6,.one (.c (.int .u64 cS.2.n))),tS 0 eX x.length eY,tB 26 bb] ak∧Ai ⟨w,h,BF⟩ g [] [] [] w'∧Ac.le bl g) ?_ ?_
 ·
  refine Aa (Rk 0 3 [tB 23 (decide (cS.1.n>0)),(6,.one (.c (.int .u64 cS.2.n))),tS 0 eX x.length eY] bw p fun bd av=>?_)
  rcases Y2 (decide (cS.1.n>0)) with y | y
  ·
   rw [y,XW] at z
   have bz:Kn _ _ [tB 23 true,(6,.one (.c (.int .u64 cS.2.n))),tS 0 eX x.length eY] _:=(av.setB 23 true (by rfl) y).kp
   refine Rk 3 3 [tB 26 true,(6,.one (.c (.int .u64 cS.2.n))),tS 0 eX x.length eY] bz p fun cz b0=>?_
   refine wf ?_
   obtain rfl:=XZ z
   exact XY _ ⟨_,rfl,b0.kp,p,Ac.le_refl _⟩
  rw [y,XV] at z
  have b1:Kn _ _ [tB 23 false,(6,.one (.c (.int .u64 cS.2.n))),tS 0 eX x.length eY] _:=(av.setB 23 false (by rfl) y).kp
  refine Rk 3 3 [tB 26 (decide (cS.2.n>9223372036854775807)),(6,.one (.c (.int .u64 cS.2.n))),tS 0 eX x.length eY] b1 p fun c0 b2=>?_
  refine wf ?_
  obtain rfl:=XZ z
  exact XY _ ⟨_,rfl,b2.kp,p,Ac.le_refl _⟩
 rintro _ dd ⟨ak,g,rfl,aw,a4,ce⟩
 replace iL:=iL.mono ce
 refine wC (bb) aw (fun ad=>?_) (fun ad=>?_)
 ·
  rw [Ba ad] at H
  cases H
 rw [Bb ad] at H
 refine wp_skip (XT (Aa (Rk 0 2 [tI 29 (IntKind.i64.wrap cS.2.n),tS 0 eX x.length eY] aw a4 fun c2 b3=>?_)))
 obtain⟨dM,iA,H⟩:=Ao H
 obtain⟨ch,cj,a9⟩:=Oe iA
 refine wl fun K hK=>?_
 refine GJ 3 1 8 [XR 0] (IntKind.i64.wrap cS.2.n) b3 a4 rfl rfl (by decide) (by rfl) (by kernel_rfl) (by kernel_rfl) (by rfl) ch cj (by decide) fun d cn cp (ay:Kn _ [] [(30,.one (.c (Yb d ((IntKind.i64.wrap cS.2.n:Int).toNat) ((IntKind.i64.wrap cS.2.n:Int).toNat)))),(29,.one (.c (XR (IntKind.i64.wrap cS.2.n)))),(0,.one (.c (Yb eX x.length eY)))] _) (ab:Ai _ _ [] [] [⟨d,(IntKind.i64.wrap cS.2.n:Int).toNat,(IntKind.i64.wrap cS.2.n:Int).toNat,3,1,List.flatten (List.replicate (IntKind.i64.wrap cS.2.n:Int).toNat ([.int .i64 0]:Ye)),0⟩] _)=>?_
 have ar:Ae g dM (List.flatten (List.replicate (IntKind.i64.wrap cS.2.n:Int).toNat ([.int .i64 0]:Ye))):=by rw [a9]; exact Ae.replicate (α:=Int) (x:=0) Ad _
 have a0:(IntKind.i64.wrap cS.2.n:Int).toNat=dM.length:=by rw [a9]; simp
 rw [a0] at ay ab
 skip
 rw [a0] at ar
 refine hK _ _ ?_
 refine Rk 3 1 [tS 7 d dM.length dM.length,tS 0 eX x.length eY] ay ab fun c3 b4=>?_
 refine wf (XT (Aa (Rk 0 2 [tS 32 eX x.length eY,tS 31 d dM.length dM.length,tS 7 d dM.length dM.length] b4 ab fun c4 b5=>?_)))
 obtain⟨f,bj,H⟩:=Ao H
 have ba:EE dM x=f:=XZ bj
 refine wl fun K hK=>?_
 refine Rl (E:=3) (xs:=dM) (l:=x) 0 b5 ab rfl rfl (by decide) (by rfl) (by rfl) (by kernel_rfl) (by kernel_rfl) rfl rfl rfl (Hb ar) iL fun be bg (b6:Kn _ [] [tI 33 ((min x.length dM.length:Nat):Int),tS 32 eX x.length eY,tS 31 d dM.length dM.length,tS 7 d dM.length dM.length] _) (cg:Ai _ _ [] [] [⟨d,dM.length,dM.length,3,1,(EE dM x).map (Value.int .i64),0⟩] _)=>?_
 have bn:Ae g f ((EE dM x).map (Value.int .i64)):=by rw [← ba]; exact KP _ _
 have a7:dM.length=f.length:=by rw [← ba]; exact(PJ _ _).symm
 have b7:Kn 48 [] [(33,.one (.c (XR ((min x.length dM.length:Nat):Int)))),(32,.one (.c (Yb eX x.length eY))),(31,.one (.c (Yb d f.length f.length))),(7,.one (.c (Yb d f.length f.length)))] be:=by rw [← a7]; exact b6
 have a5:Ai ⟨w,h,BF⟩ g [] [] [⟨d,f.length,f.length,3,1,(EE dM x).map (Value.int .i64),0⟩] bg:=by rw [← a7]; exact cg
 refine hK _ _ ?_
 refine Rk 3 1 [tI 8 ((min x.length dM.length:Nat):Int),tS 7 d f.length f.length] b7 a5 fun c6 b8=>?_
 refine wf (XT ?_)
 obtain⟨q,aq,H⟩:=Ao H
 refine Ar (fun a' w'=>∃ (s:Yd)(u:Nat)(an:Ye)(al:Array Value)(aa:Ac),a' = ⟨al,[]⟩∧Kn 48 [] [tS 7 s q.length u] al∧Ai ⟨w,h,BF⟩ aa [] [] [⟨s,q.length,u,3,1,an,0⟩] w'∧Ac.le g aa∧Ae aa q an) ?_ ?_
 ·
  refine wp_block ?_
  refine Av (fun ck a' w'=>∃ (aB:List Int)(aA:Int)(b:Yd)(a:Nat)(ac:Ye)(am:Array Value)(o:Ac),a' = ⟨am,[]⟩∧Kn 48 [] [tI 8 aA,tS 7 b aB.length a] am∧Ai ⟨w,h,BF⟩ o [] [] [⟨b,aB.length,a,3,1,ac,0⟩] w'∧Ac.le g o∧Ae o aB ac∧BR ck  aB aA=some q) n ?_ ?_
  ·
   exact XY f ⟨((min x.length dM.length:Nat):Int),d,f.length,(EE dM x).map (Value.int .i64),_,_,rfl,b8.kp,a5,Ac.le_refl _,bn,aq⟩
  rintro aj _ de ⟨aB,aA,b,a,ac,am,o,rfl,ca,j,a1,au,e⟩
  clear aq
  obtain _ | aj:=aj
  ·
   rw [BR] at e; cases e
  rw [BR] at e
  refine XT (XT (Aa (Rk 0 4 [tB 37 (decide (aA<((aB.length:Nat):Int))),tI 8 aA,tS 7 b aB.length a] ca j fun c7 ag=>?_)))
  refine wf (wC (decide (aA<((aB.length:Nat):Int))) ag (fun af=>?_) (fun af=>?_))
  ·
   rw [af,XW] at e
   refine wp_skip (wp_block (Au (by kernel_rfl) ?_))
   replace j:=j.drew
   refine Ax [] [] [] ?_
   refine Dr [0,1,2] [2,1,0] [tI 40 aA,tS 39 b aB.length a,tI 38 aA,tI 8 aA,tS 7 b aB.length a] ag j fun c8 cb=>?_
   obtain⟨x41,ex41,e⟩:=Ao e
   obtain⟨ah,ai,ct⟩:=VB ex41
   refine W2 (E:=3) 3 1 _ (fun _ _ _ _ _ h=>h) cb rfl rfl (rfl) rfl (by decide) (by kernel_rfl) (by kernel_rfl) j.plOk (by rfl) (by rfl) (by kernel_rfl) (by kernel_rfl) ah ai rfl fun co (cc:Kn _ [] [tS 41 (HS 1 b a (Yc aA)) (aB.length-(Yc aA)) (a-(Yc aA)),tI 40 aA,tS 39 b aB.length a,tI 38 aA,tI 8 aA,tS 7 b aB.length a] _)=>?_
   refine Dr [4,5] (dn 5) (T5 aA b aB a) cc j fun c9 az=>?_
   obtain⟨dW,jI,e⟩:=Ao e
   obtain⟨ci,cs,cu⟩:=Tx jI
   have cq:aB.length≤a:=j.rowCap (i:=0) rfl
   refine Jn 6 (.one (.c (Yb b ((aA:Int).toNat) a))) (fun _ _ _ _ _ h=>h) rfl (by kernel_rfl) (by kernel_rfl) (rfl) rfl j.plOk (fun _ h=>h) (fun w=>Ty (T:=26) (E:=3) (sz:=1) az rfl rfl rfl (by kernel_rfl) (by kernel_rfl) ci (by omega) rfl) (az.put (by decide) _) fun cl (bp:Kn _ [] ((tS 44 b ((aA:Int).toNat) a)::(T5 aA b aB a)) _)=>?_
   obtain⟨m,bi,e⟩:=Ao e
   have a8:EU aB aA=m:=XZ bi
   refine CU 7 rfl (by kernel_rfl) (by decide) (rfl) (by kernel_rfl) fun K hK=>?_
   refine S0 (E:=3) (k:=aA) (xs:=aB) 0 bp j rfl rfl (by decide) (by rfl) (by rfl) (by kernel_rfl) (by kernel_rfl) rfl rfl rfl (Hb au) ah ai rfl rfl fun bc bf (bq:Kn _ [] ((tI 45 ((min (Yc aA) (aB.length-(Yc aA)):Nat):Int))::(tS 44 b ((Yc aA)) a)::(T5 aA b aB a)) _) (cf:Ai _ _ [] [] [⟨b,aB.length,a,3,1,(EU aB aA).map (Value.int .i64),0⟩] _)=>?_
   have bm:Ae o m ((EU aB aA).map (Value.int .i64)):=by rw [← a8]; exact KP _ _
   have a6:aB.length=m.length:=by rw [← a8]; exact(Rm ah ai).symm
   have br:Kn 48 [] [(45,.one (.c (XR ((min (Yc aA) (aB.length-(Yc aA)):Nat):Int)))),(44,.one (.c (Yb b ((Yc aA)) a))),(43,.one (.c (XR aA))),(42,.one (.c (Yb b m.length a))),(41,.one (.c (Yb (HS 1 b a (Yc aA)) (aB.length-(Yc aA)) (a-(Yc aA))))),(38,.one (.c (XR aA))),(7,.one (.c (Yb b m.length a)))] bc:=by rw [← a6]; exact bq
   have a2:Ai ⟨w,h,BF⟩ o [] [] [⟨b,m.length,a,3,1,(EU aB aA).map (Value.int .i64),0⟩] bf:=by rw [← a6]; exact cf
   refine hK _ _ ?_
   refine Ax [] [] [] ?_
   refine Dr [8,9] (dn 9) [tI 8 (IntKind.i64.wrap (aA+((min (Yc aA) (aB.length-(Yc aA)):Nat):Int))),tS 7 b m.length a] br a2 fun cw bs=>?_
   refine AL (by kernel_rfl) ?_
   exact XY aj ⟨Y4 _,XY m ⟨IntKind.i64.wrap (aA+((min (Yc aA) (aB.length-(Yc aA)):Nat):Int)),b,a,(EU aB aA).map (Value.int .i64),_,_,rfl,bs.kp,a2,a1,bm,e⟩⟩
  rw [af,XV] at e
  refine wp_exit ?_
  obtain rfl:=XZ e
  exact XY b ⟨a,ac,_,_,rfl,ag.kp,j,a1,au⟩
 rintro _ dc ⟨s,u,an,al,aa,rfl,bt,a3,cr,bo⟩
 refine XT (Aa (Rk 0 2 [tS 4 s q.length u] bt a3 fun cx bu=>?_))
 refine wf (wp_ret ?_)
 obtain rfl:=XZ H
 exact Og (.one (.c (Yb s q.length u))) [0] bu a3 (by kernel_rfl) (by kernel_rfl) (by kernel_rfl) ⟨_,_,_,rfl,rfl,bo⟩
abbrev IF (fL aZ cP bA bJ g)(l:Nat)(i:Int)(p)(q:Nat)(aC:Int):=([(fL,0),(aZ,0),(cP,0),(bA,0),(bJ,0),(g,l+Yc i*1),(p,q+Yc aC*1)]:AJ)
abbrev K3 (cP bA aZ bJ):=([.func (.func 48) #[] #[.pointer (some ⟨cP,0,none⟩),.pointer (some ⟨bA,0,none⟩),.pointer (some ⟨aZ,0,none⟩),.pointer (some ⟨bJ,0,none⟩)]]:List SC)
abbrev K4 (aH:DL):=([.bool aH.a0,.bool aH.a1,.bool aH.a2,.bool aH.a3,.bool aH.a4,.bool aH.a5,.bool aH.a6,.bool aH.a7,.bool aH.a8,.bool aH.a9,.bool aH.a10,.bool aH.a11]:List SC)
abbrev NN (fL aZ cP bA bJ g)(l:Nat)(i:Int)(p)(q:Nat)(aC:Int)(ae)(bZ:Int)(ag):=([(fL,0),(aZ,0),(cP,0),(bA,0),(bJ,0),(g,l+Yc i*1),(p,q+Yc aC*1),(ae,0+Yc bZ*1),(ag,0+Yc bZ*1)]:AJ)
abbrev Xa (dY:(Bool×DL×(List Int)×(List Int))):=([.bool dY.2.1.a0,.bool dY.2.1.a1,.bool dY.2.1.a2,.bool dY.2.1.a3,.bool dY.2.1.a4,.bool dY.2.1.a5,.bool dY.2.1.a6,.bool dY.2.1.a7,.bool dY.2.1.a8,.bool dY.2.1.a9,.bool dY.2.1.a10,.bool dY.2.1.a11]:List SC)
abbrev K5 (m:BK)(z ab aa ac u x bT bU bC bD):=([XR m.table.places,XR m.table.layover,Yb z m.table.empty.length ab,Yb aa m.table.trips.length ac,Yb u m.follows.length x,Yb bT m.next.length bU,Yb bC m.before.length bD]:List SC)
abbrev VV (ad:((List Int)×(List Int)×Bool×DL)):=([.bool ad.2.2.2.a0,.bool ad.2.2.2.a1,.bool ad.2.2.2.a2,.bool ad.2.2.2.a3,.bool ad.2.2.2.a4,.bool ad.2.2.2.a5,.bool ad.2.2.2.a6,.bool ad.2.2.2.a7,.bool ad.2.2.2.a8,.bool ad.2.2.2.a9,.bool ad.2.2.2.a10,.bool ad.2.2.2.a11]:List SC)
abbrev CB (aC)(cQ:List Int)(a d i):=([tI 17 aC,tI 16 ((cQ.length:Nat):Int),tS 15 a cQ.length d,tI 0 i,tP 1 2 0,tP 2 3 0,tP 3 1 0,tP 4 4 0]:TM)
abbrev JF (cP bA aZ bJ bZ aC)(cQ:List Int)(a d i):=((41,.one (.c (.func (.func 48) #[] #[.pointer (some ⟨cP,0,none⟩),.pointer (some ⟨bA,0,none⟩),.pointer (some ⟨aZ,0,none⟩),.pointer (some ⟨bJ,0,none⟩)])))::(tB 40 false)::(tI 8 bZ)::(CB aC cQ a d i):TM)
theorem IP (n:Nat):∀ (F:Fr)(h:Ac)(w:World)(fL cP bA aZ bJ:Nat)(i:Int)(m:BK)(z:Yd)(ab:Nat)(ay:At h z ab m.table.empty)(aa:Yd)(ac:Nat)(az:At h aa ac m.table.trips)(u:Yd)(x:Nat)(ar:At h u x m.follows)(bT:Yd)(bU:Nat)(eP:Ye)(gM:Ae h m.next eP)(bC:Yd)(bD:Nat)(dV:Ye)(fW:Ae h m.before dV)(tried:DL)(it:As h cP [.pointer (some ⟨fL,0,none⟩)])(aH:DL)(fE:B9 h bA aH)(fM:As h bJ [.func (.func 48) #[] #[.pointer (some ⟨cP,0,none⟩),.pointer (some ⟨bA,0,none⟩),.pointer (some ⟨aZ,0,none⟩),.pointer (some ⟨bJ,0,none⟩)]])(hm:Ai F h [(fL,0),(aZ,0)] [⟨[XR m.table.places,XR m.table.layover,Yb z m.table.empty.length ab,Yb aa m.table.trips.length ac,Yb u m.follows.length x,Yb bT m.next.length bU,Yb bC m.before.length bD],some 70⟩,⟨[.bool tried.a0,.bool tried.a1,.bool tried.a2,.bool tried.a3,.bool tried.a4,.bool tried.a5,.bool tried.a6,.bool tried.a7,.bool tried.a8,.bool tried.a9,.bool tried.a10,.bool tried.a11],some 67⟩] [⟨bT,m.next.length,bU,3,1,eP,0⟩,⟨bC,m.before.length,bD,3,1,dV,0⟩] w)(r:Bool×DL×(List Int)×(List Int))(H:run_Table_match_1 n i m tried aH=some r),
  Calls Tryz.prog 48 #[.int .i64 i,.pointer (some ⟨cP,0,none⟩),.pointer (some ⟨bA,0,none⟩),.pointer (some ⟨aZ,0,none⟩),.pointer (some ⟨bJ,0,none⟩)] w (Jw fun v w'=>∃ (h':Ac)(bp:Ye)(br:Ye),Ac.le h h'∧(v=.bool r.1)∧r.2.2.1.length=m.next.length∧Ae h' r.2.2.1 bp∧r.2.2.2.length=m.before.length∧Ae h' r.2.2.2 br∧Ai F h' [(fL,0),(aZ,0)] [⟨[.int .i64 m.table.places,.int .i64 m.table.layover,.slice z m.table.empty.length ab,.slice aa m.table.trips.length ac,.slice u m.follows.length x,.slice bT m.next.length bU,.slice bC m.before.length bD],some 70⟩,⟨[.bool r.2.1.a0,.bool r.2.1.a1,.bool r.2.1.a2,.bool r.2.1.a3,.bool r.2.1.a4,.bool r.2.1.a5,.bool r.2.1.a6,.bool r.2.1.a7,.bool r.2.1.a8,.bool r.2.1.a9,.bool r.2.1.a10,.bool r.2.1.a11],some 67⟩] [⟨bT,m.next.length,bU,3,1,bp,0⟩,⟨bC,m.before.length,bD,3,1,br,0⟩] w'):=by
 induction n using Nat.strongRecOn with
 | _ n ih =>
  intro F h w fL cP bA aZ bJ i m z ab ay aa ac az u x ar bT bU eP gM bC bD dV fW tried it aH fE fM hm r H
  obtain _ | n:=n
  ·
   rw [run_Table_match_1] at H; cases H
  obtain⟨_,iR,lF⟩:=id fE
  obtain⟨_,_,rfl,rfl,⟨_,_,rfl,rfl,⟨_,_,rfl,rfl,⟨_,_,rfl,rfl,⟨_,_,rfl,rfl,⟨_,_,rfl,rfl,⟨_,_,rfl,rfl,⟨_,_,rfl,rfl,⟨_,_,rfl,rfl,⟨_,_,rfl,rfl,⟨_,_,rfl,rfl,rfl⟩⟩⟩⟩⟩⟩⟩⟩⟩⟩⟩:=iR
  refine DZ (e:=[(fL,0),(aZ,0),(cP,0),(bA,0),(bJ,0)]) 66 [.c (XR i),.c (.ptr 2 0),.c (.ptr 3 0),.c (.ptr 1 0),.c (.ptr 4 0)] Tryz.func48 rfl rfl rfl rfl fun t hk=>?_
  replace hm:=hm.addPlc (o:=0) (cs:=[.ptr 0 0]) (fun j c hj=>by rw [Y3]; exact it j _ (by rcases j with _ | j; (obtain rfl:SC.ptr 0 0=c:=XZ hj; rfl); exact absurd hj (by simp))) rfl (by kernel_rfl) (by kernel_rfl)
  replace hm:=hm.addPlc (o:=0) (cs:=[.bool aH.a0,.bool aH.a1,.bool aH.a2,.bool aH.a3,.bool aH.a4,.bool aH.a5,.bool aH.a6,.bool aH.a7,.bool aH.a8,.bool aH.a9,.bool aH.a10,.bool aH.a11]) (fun j c hj=>by rw [Y3]; exact lF j _ (Ak hj)) rfl (by kernel_rfl) (by kernel_rfl)
  replace hm:=hm.addPlc (o:=0) (cs:=[.func (.func 48) #[] #[.pointer (some ⟨cP,0,none⟩),.pointer (some ⟨bA,0,none⟩),.pointer (some ⟨aZ,0,none⟩),.pointer (some ⟨bJ,0,none⟩)]]) (fun j c hj=>by rw [Y3]; exact fM j _ (Ak hj)) rfl (by kernel_rfl) (by kernel_rfl)
  replace hm:Ai _ _ [(fL,0),(aZ,0),(cP,0),(bA,0),(bJ,0)] [⟨K5 m z ab aa ac u x bT bU bC bD,some 70⟩,⟨[.bool tried.a0,.bool tried.a1,.bool tried.a2,.bool tried.a3,.bool tried.a4,.bool tried.a5,.bool tried.a6,.bool tried.a7,.bool tried.a8,.bool tried.a9,.bool tried.a10,.bool tried.a11],some 67⟩,⟨[.ptr 0 0],none⟩,⟨K4 aH,none⟩,⟨K3 cP bA aZ bJ,none⟩] [⟨bT,m.next.length,bU,3,1,eP,0⟩,⟨bC,m.before.length,bD,3,1,dV,0⟩] _:=hm
  rw [run_Table_match_1] at H
  refine XT (Aa (Rk 0 1 [tI 0 i,tP 1 2 0,tP 2 3 0,tP 3 1 0,tP 4 4 0] hk hm fun hs ep=>?_))
  refine wf (XT (XT (Aa (Rk 0 5 [tI 13 i,tS 12 u m.follows.length x,tI 0 i,tP 1 2 0,tP 2 3 0,tP 3 1 0,tP 4 4 0] ep hm fun hv eu=>?_))))
  obtain⟨cQ,fX,H⟩:=Ao H
  obtain⟨f2,f7,gp⟩:=Aj fX
  obtain⟨g,l,g5,dz,gf,d9⟩:=ar.get (by decide) gp
  obtain⟨a,d,rfl,bn⟩:=gf
  have c3:=hm.addPlc (b:=g) (o:=l+Yc i*1) (cs:=[Yb a cQ.length d]) (fun j c hj=>d9 j _ (Ak hj)) rfl (by kernel_rfl) (by kernel_rfl)
  refine A9 5 (i) rfl rfl (rfl) rfl (by decide) eu (by rfl) (by rfl) (by rfl) dz (by rfl) f2 f7 (by kernel_rfl) fun gy (e9:Kn _ [(fL,0),(aZ,0),(cP,0),(bA,0),(bJ,0),(g,l+Yc i*1)] [tP 14 5 0,tI 13 i,tS 12 u m.follows.length x,tI 0 i,tP 1 2 0,tP 2 3 0,tP 3 1 0,tP 4 4 0] _)=>?_
  refine Rk 6 3 [tI 17 0,tI 16 ((cQ.length:Nat):Int),tS 15 a cQ.length d,tI 0 i,tP 1 2 0,tP 2 3 0,tP 3 1 0,tP 4 4 0] e9 c3 fun h1 fa=>?_
  refine wf ?_
  obtain⟨dj,co,H⟩:=Ao H
  refine Ar (fun a' w'=>∃ (af:(List Int)×(List Int)×DL)(bv:Ye)(bw:Ye)(ck:Array Value)(bb:Ac),a' = ⟨ck,[]⟩∧Kn 66 [(fL,0),(aZ,0),(cP,0),(bA,0),(bJ,0),(g,l+Yc i*1)] [] ck∧Ai F bb [(fL,0),(aZ,0),(cP,0),(bA,0),(bJ,0),(g,l+Yc i*1)] [⟨K5 m z ab aa ac u x bT bU bC bD,some 70⟩,⟨[.bool af.2.2.a0,.bool af.2.2.a1,.bool af.2.2.a2,.bool af.2.2.a3,.bool af.2.2.a4,.bool af.2.2.a5,.bool af.2.2.a6,.bool af.2.2.a7,.bool af.2.2.a8,.bool af.2.2.a9,.bool af.2.2.a10,.bool af.2.2.a11],some 67⟩,⟨[.ptr 0 0],none⟩,⟨K4 aH,none⟩,⟨K3 cP bA aZ bJ,none⟩,⟨[Yb a cQ.length d],none⟩] [⟨bT,m.next.length,bU,3,1,bv,0⟩,⟨bC,m.before.length,bD,3,1,bw,0⟩] w'∧Ac.le h bb∧Ae bb af.1 bv∧af.1.length=m.next.length∧Ae bb af.2.1 bw∧af.2.1.length=m.before.length∧dj=.go af) ?_ ?_
  ·
   refine wp_block ?_
   refine Av (fun di a' w'=>∃ (aB:List Int)(aA:List Int)(aC:Int)(cA:DL)(aw:Ye)(al:Ye)(cl:Array Value)(bc:Ac),a' = ⟨cl,[]⟩∧Kn 66 [(fL,0),(aZ,0),(cP,0),(bA,0),(bJ,0),(g,l+Yc i*1)] (CB aC cQ a d i) cl∧Ai F bc [(fL,0),(aZ,0),(cP,0),(bA,0),(bJ,0),(g,l+Yc i*1)] [⟨K5 m z ab aa ac u x bT bU bC bD,some 70⟩,⟨K4 cA,some 67⟩,⟨[.ptr 0 0],none⟩,⟨K4 aH,none⟩,⟨K3 cP bA aZ bJ,none⟩,⟨[Yb a cQ.length d],none⟩] [⟨bT,m.next.length,bU,3,1,aw,0⟩,⟨bC,m.before.length,bD,3,1,al,0⟩] w'∧Ac.le h bc∧Ae bc aB aw∧aB.length=m.next.length∧Ae bc aA al∧aA.length=m.before.length∧di≤n∧Bs di i m aH cQ aB aA aC cA=some dj) n ?_ ?_
   ·
    exact XY m.next ⟨m.before,0,tried,eP,dV,_,_,rfl,fa.kp,c3,Ac.le_refl _,gM,rfl,fW,rfl,Ys _,co⟩
   rintro bo _ ic ⟨aB,aA,aC,cA,aw,al,cl,bc,rfl,fb,ch,aj,bf,ba,ao,aq,hc,s⟩
   clear co
   obtain _ | bo:=bo
   ·
    rw [Bs] at s; cases s
   rw [Bs] at s
   replace ay:=ay.mono aj
   replace az:=az.mono aj
   replace ar:=ar.mono aj
   replace it:=it.mono aj
   replace fE:=fE.mono aj
   replace fM:=fM.mono aj
   replace bn:=bn.mono aj
   refine XT (Aa (Rk 0 1 ((tB 18 (decide (aC<((cQ.length:Nat):Int))))::(CB aC cQ a d i)) fb ch fun h2 b8=>?_))
   refine wf (XT (wC (decide (aC<((cQ.length:Nat):Int))) b8 (fun b3=>?_) (fun b3=>?_)))
   ·
    rw [b3,XW] at s
    refine wp_skip (XT (wp_block (XT (Aa ?_))))
    obtain⟨bZ,lB,s⟩:=Ao s
    obtain⟨f3,f8,gq⟩:=Aj lB
    obtain⟨p,q,g8,d0,gh,ed⟩:=bn.get (by decide) gq
    obtain rfl:=gh
    have ap:=ch.addPlc (b:=p) (o:=q+Yc aC*1) (cs:=[XR bZ]) (fun j c hj=>ed j _ (Ak hj)) rfl (by kernel_rfl) (by kernel_rfl)
    refine A9 0 (aC) rfl rfl (rfl) rfl (by decide) b8 (by rfl) (by rfl) (by rfl) d0 (by rfl) f3 f8 (by kernel_rfl) fun gz (fc:Kn _ (IF fL aZ cP bA bJ g l i p q aC) ((tP 19 6 0)::(tB 18 (decide (aC<((cQ.length:Nat):Int))))::(CB aC cQ a d i)) _)=>?_
    refine Rk 1 2 ((tI 8 bZ)::(CB aC cQ a d i)) fc ap fun h3 fd=>?_
    refine wf (XT (XT ?_))
    obtain⟨dk,ah,s⟩:=Ao s
    refine Ar (fun a' w'=>∃ (cm:Array Value)(bd:Ac),a' = ⟨cm,[]⟩∧Kn 66 (IF fL aZ cP bA bJ g l i p q aC) [tI 8 bZ,tI 17 aC,tI 16 ((cQ.length:Nat):Int),tS 15 a cQ.length d,tI 0 i,tP 1 2 0,tP 2 3 0,tP 3 1 0,tP 4 4 0,tB 29 dk] cm∧Ai F bd (IF fL aZ cP bA bJ g l i p q aC) [⟨K5 m z ab aa ac u x bT bU bC bD,some 70⟩,⟨K4 cA,some 67⟩,⟨[.ptr 0 0],none⟩,⟨K4 aH,none⟩,⟨K3 cP bA aZ bJ,none⟩,⟨[Yb a cQ.length d],none⟩,⟨[XR bZ],none⟩] [⟨bT,m.next.length,bU,3,1,aw,0⟩,⟨bC,m.before.length,bD,3,1,al,0⟩] w'∧Ac.le bc bd) ?_ ?_
    ·
     refine Aa (Rk 0 1 ((tI 21 bZ)::(tI 8 bZ)::(CB aC cQ a d i)) fd ap fun h4 cx=>?_)
     obtain⟨cB,gL,ah⟩:=Ao ah
     obtain⟨f4,f9⟩:=BI gL
     refine Eg 1 (.one (.c (.ptr 3 (0+Yc bZ*1)))) rfl (rfl) rfl (AZ (E:=4) cx rfl (by kernel_rfl) (by kernel_rfl) (by rfl) (by rfl) f4 f9) (cx.put (by decide) _) fun g0 (cy:Kn _ (IF fL aZ cP bA bJ g l i p q aC) ((tP 22 3 (0+Yc bZ*1))::(tI 21 bZ)::(tI 8 bZ)::(CB aC cQ a d i)) _)=>?_
     obtain⟨eS,kA,ah⟩:=Ao ah
     obtain⟨_,_,gr⟩:=Aj kA
     refine Eg 2 (.one (.c (.bool eS))) rfl (rfl) rfl (CA cy ap.plOk rfl (by rfl) rfl (by kernel_rfl) (F8 (fun(y:Bool)=>([.bool y]:List SC)) 1 (fun _=>rfl) [] [] aH.toL _ _ gr rfl rfl)) (cy.put (by decide) _) fun g1 (fe:Kn _ (IF fL aZ cP bA bJ g l i p q aC) ((tB 23 eS)::(tP 22 3 (0+Yc bZ*1))::(tI 21 bZ)::(tI 8 bZ)::(CB aC cQ a d i)) _)=>?_
     refine Rk 3 2 ((tB 25 (!eS))::(tI 8 bZ)::(CB aC cQ a d i)) fe ap fun dr cz=>?_
     rcases Y2 ((!eS)) with bj | bj
     ·
      rw [bj,XW] at ah
      have ff:Kn _ _ ((tB 25 true)::(tI 8 bZ)::(CB aC cQ a d i)) _:=(cz.setB 25 true (by rfl) bj).kp
      refine Rk 5 4 ((tB 29 true)::(tI 8 bZ)::(CB aC cQ a d i)) ff ap fun h5 fg=>?_
      refine wf ?_
      obtain rfl:=XZ ah
      exact XY _ ⟨_,rfl,fg.kp,ap,Ac.le_refl _⟩
     rw [bj,XV] at ah
     have fh:Kn _ _ ((tB 25 false)::(tI 8 bZ)::(CB aC cQ a d i)) _:=(cz.setB 25 false (by rfl) bj).kp
     refine Rk 5 1 ((tI 26 bZ)::(tB 25 false)::(tI 8 bZ)::(CB aC cQ a d i)) fh ap fun hl b4=>?_
     obtain⟨dG,iP,ah⟩:=Ao ah
     obtain⟨f0,f5⟩:=BI iP
     refine Eg 6 (.one (.c (.ptr 1 (0+Yc bZ*1)))) rfl (Al b4 (by kernel_rfl)) rfl (AZ (E:=4) b4 rfl (by kernel_rfl) (by kernel_rfl) (by rfl) (by rfl) f0 f5) (b4.put (by decide) _) fun gs (b5:Kn _ (IF fL aZ cP bA bJ g l i p q aC) ((tP 27 1 (0+Yc bZ*1))::(tI 26 bZ)::(tB 25 false)::(tI 8 bZ)::(CB aC cQ a d i)) _)=>?_
     obtain⟨eK,lC,ah⟩:=Ao ah
     obtain⟨_,_,gi⟩:=Aj lC
     refine Eg 7 (.one (.c (.bool eK))) rfl (Al b5 (by kernel_rfl)) rfl (CA b5 ap.plOk rfl (by rfl) rfl (by kernel_rfl) (F8 (fun(y:Bool)=>([.bool y]:List SC)) 1 (fun _=>rfl) [] [] cA.toL _ _ gi rfl rfl)) (b5.put (by decide) _) fun gu (ee:Kn _ (IF fL aZ cP bA bJ g l i p q aC) ((tB 28 eK)::(tP 27 1 (0+Yc bZ*1))::(tI 26 bZ)::(tB 25 false)::(tI 8 bZ)::(CB aC cQ a d i)) _)=>?_
     refine Rk 8 1 ((tB 29 eK)::(tI 8 bZ)::(CB aC cQ a d i)) ee ap fun hn ef=>?_
     refine wf ?_
     obtain rfl:=XZ ah
     exact XY _ ⟨_,rfl,ef.kp,ap,Ac.le_refl _⟩
    rintro _ h7 ⟨cm,bd,rfl,b6,bt,ai⟩
    replace ay:=ay.mono ai
    replace az:=az.mono ai
    replace ar:=ar.mono ai
    replace it:=it.mono ai
    replace fE:=fE.mono ai
    replace fM:=fM.mono ai
    replace bf:=bf.mono ai
    replace ao:=ao.mono ai
    refine wC (dk) b6 (fun b1=>?_) (fun b1=>?_)
    ·
     rw [Ba b1] at s
     refine wp_exit (Aa (Rk 0 2 [tI 17 (IntKind.i64.wrap (aC+1)),tI 16 ((cQ.length:Nat):Int),tS 15 a cQ.length d,tI 0 i,tP 1 2 0,tP 2 3 0,tP 3 1 0,tP 4 4 0] b6 bt fun ho eg=>?_))
     refine wf ?_
     exact XY bo ⟨Y4 _,XY aB ⟨aA,IntKind.i64.wrap (aC+1),cA,aw,al,_,_,rfl,(eg.keep [17,16,15,0,1,2,3,4] (by rfl)).cut 6 (by kernel_rfl),bt.cutPl 6 (by kernel_rfl),XU aj ai,bf,ba,ao,aq,(by omega),s⟩⟩
    rw [Bb b1] at s
    refine wp_skip (XT (Aa (Rk 0 1 ((tI 30 bZ)::(tI 8 bZ)::(CB aC cQ a d i)) b6 bt fun hq ct=>?_)))
    obtain⟨eH,jF,s⟩:=Ao s
    obtain⟨f1,f6⟩:=BI jF
    refine Eg 1 (.one (.c (.ptr 1 (0+Yc bZ*1)))) rfl (rfl) rfl (AZ (E:=4) ct rfl (by kernel_rfl) (by kernel_rfl) (by rfl) (by rfl) f1 f6) (ct.put (by decide) _) fun dl (eh:Kn _ (IF fL aZ cP bA bJ g l i p q aC) ((tP 31 1 (0+Yc bZ*1))::(tI 30 bZ)::(tI 8 bZ)::(CB aC cQ a d i)) _)=>?_
    obtain⟨f,dv,s⟩:=Ao s
    obtain⟨hd,hg,gj⟩:=DL.setI_some dv
    refine wl fun K hK=>?_
    refine DS 1 (0+(bZ:Int).toNat*1) (.c (.bool true)) (K4 f) eh bt rfl rfl (by rfl) (by rfl) (by rfl) (by kernel_rfl) (by refine decide_eq_true ?_; show(0+(bZ:Int).toNat*1)+1≤12; omega) (F7 (fun(y:Bool)=>([.bool y]:List SC)) 1 (fun _=>rfl) [] [] cA.toL f.toL (bZ:Int).toNat true gj (show(bZ:Int).toNat<12 by omega) rfl rfl rfl) fun du ei bg=>hK _ _ ?_
    have ej:Kn _ _ ((tI 8 bZ)::(CB aC cQ a d i)) _:=ei.kp
    refine wf (XT ?_)
    obtain⟨ad,am,s⟩:=Ao s
    refine Ar (fun a' w'=>∃ (au:Ye)(av:Ye)(ci:Array Value)(an:Ac),a' = ⟨ci,[]⟩∧Kn 66 (IF fL aZ cP bA bJ g l i p q aC) [tI 8 bZ,tI 17 aC,tI 16 ((cQ.length:Nat):Int),tS 15 a cQ.length d,tI 0 i,tP 1 2 0,tP 2 3 0,tP 3 1 0,tP 4 4 0,tB 50 ad.2.2.1] ci∧Ai F an (IF fL aZ cP bA bJ g l i p q aC) [⟨K5 m z ab aa ac u x bT bU bC bD,some 70⟩,⟨VV ad,some 67⟩,⟨[.ptr 0 0],none⟩,⟨K4 aH,none⟩,⟨K3 cP bA aZ bJ,none⟩,⟨[Yb a cQ.length d],none⟩,⟨[XR bZ],none⟩] [⟨bT,m.next.length,bU,3,1,au,0⟩,⟨bC,m.before.length,bD,3,1,av,0⟩] w'∧Ac.le bd an∧Ae an ad.1 au∧ad.1.length=m.next.length∧Ae an ad.2.1 av∧ad.2.1.length=m.before.length) ?_ ?_
    ·
     refine Au (by kernel_rfl) ?_
     replace bg:=bg.drew
     refine Ax [] (IF fL aZ cP bA bJ g l i p q aC) [⟨K5 m z ab aa ac u x bT bU bC bD,some 70⟩,⟨K4 f,some 67⟩,⟨[.ptr 0 0],none⟩,⟨K4 aH,none⟩,⟨K3 cP bA aZ bJ,none⟩,⟨[Yb a cQ.length d],none⟩,⟨[XR bZ],none⟩] ?_
     refine Dr [0,1,2,3,4] (dn 4) ((tI 36 bZ)::(tS 35 bC m.before.length bD)::(tI 8 bZ)::(CB aC cQ a d i)) ej bg fun hr ek=>?_
     obtain⟨cK,iB,am⟩:=Ao am
     obtain⟨c4,c8,gk⟩:=Aj iB
     have fi:=AG c4 c8
     obtain⟨g3,gb,d1⟩:=AM (sz:=1) rfl ao gk
     obtain rfl:=gb
     obtain⟨ae,be⟩:=AP bg (i:=1) rfl (b0:=0+Yc bZ*1) (Y5 (Y6 (by decide)) (A3 (sz:=1) rfl ao fi))
     have ak:=bg.addPlc (b:=ae) (o:=0+Yc bZ*1) (cs:=[]) (fun j c hj=>by simp at hj) rfl (by kernel_rfl) (by kernel_rfl)
     have bm:∀ (e:AJ) k c,([XR cK]:List SC)[k]? = some c→(al)[0+Yc bZ*1+k]? = some (c.den e):=fun e k c hk=>d1 k _ (Ak hk)
     have c9:=c8
     rw [aq] at c9
     refine A5 5 (bZ) [XR cK] (fun _ _ _ _ _ h=>h) rfl rfl (rfl) rfl (by decide) (by kernel_rfl) (by kernel_rfl) ek bg.plOk (by rfl) (by rfl) (by rfl) be (by rfl) c4 c9 (by kernel_rfl) fun gv (el:Kn _ [(fL,0),(aZ,0),(cP,0),(bA,0),(bJ,0),(g,l+Yc i*1),(p,q+Yc aC*1),(ae,0+Yc bZ*1)] ((tP 37 7 0)::(tI 36 bZ)::(tS 35 bC m.before.length bD)::(tI 8 bZ)::(CB aC cQ a d i)) _)=>?_
     refine Dj [6,7,8] [8,7,6,5,4,3,2,1,0] [40,8,17,16,15,0,1,2,3,4] ((tB 40 (cK == (-1)))::(tI 8 bZ)::(CB aC cQ a d i)) (fun _ _ _ _ _ h=>h) el (Ay.peek ak.plOk ak 1 7 rfl rfl be [XR cK] (bm _)) (by kernel_rfl) (by rfl) (by kernel_rfl) fun dm cu=>?_
     rcases Y2 ((cK == (-1))) with bi | bi
     ·
      rw [bi,XW] at am
      have em:Kn _ _ ((tB 40 true)::(tI 8 bZ)::(CB aC cQ a d i)) _:=(cu.setB 40 true (by rfl) bi).kp
      refine Dj [9,10,11,12,13,14,15,16,17,18] [18,17,16,15,14,13,12,11,10,9,8,7,6,5,4,3,2,1,0] [50,8,17,16,15,0,1,2,3,4] ((tB 50 true)::(tI 8 bZ)::(CB aC cQ a d i)) (fun _ _ _ _ _ h=>h) em (Ay.peek ak.plOk ak 1 7 rfl rfl be [XR cK] (bm _)) (by kernel_rfl) (by rfl) (by kernel_rfl) fun ht en=>?_
      refine AL (by kernel_rfl) ?_
      obtain rfl:=XZ am
      exact XY aw ⟨al,_,_,rfl,(en.keep [8,17,16,15,0,1,2,3,4,50] (by rfl)).cut 7 (by kernel_rfl),ak.cutPl 7 (by kernel_rfl),Ac.le_refl _,bf,ba,ao,aq⟩
     rw [bi,XV] at am
     have eo:Kn _ _ ((tB 40 false)::(tI 8 bZ)::(CB aC cQ a d i)) _:=(cu.setB 40 false (by rfl) bi).kp
     refine Dj [9,10,11,12,13,14] [14,13,12,11,10,9,8,7,6,5,4,3,2,1,0] [46,45,41,40,8,17,16,15,0,1,2,3,4] ((tI 46 bZ)::(tS 45 bC m.before.length bD)::(JF cP bA aZ bJ bZ aC cQ a d i)) (fun _ _ _ _ _ h=>h) eo (Ay.peek ak.plOk ak 1 7 rfl rfl be [XR cK] (bm _)) (by kernel_rfl) (by rfl) (by kernel_rfl) fun hu cv=>?_
     obtain⟨iU,ex47,am⟩:=Ao am
     obtain⟨c5,da,gl⟩:=Aj ex47
     have fj:=AG c5 da
     obtain⟨g4,gc,d2⟩:=AM (sz:=1) rfl ao gl
     obtain rfl:=gc
     obtain⟨ag,cp⟩:=AP ak (i:=1) rfl (b0:=0+Yc bZ*1) (Y5 (Y6 (by decide)) (A3 (sz:=1) rfl ao fj))
     have bu:=ak.addPlc (b:=ag) (o:=0+Yc bZ*1) (cs:=[]) (fun j c hj=>by simp at hj) rfl (by kernel_rfl) (by kernel_rfl)
     have d3:∀ (e:AJ) k c,([XR iU]:List SC)[k]? = some c→(al)[0+Yc bZ*1+k]? = some (c.den e):=fun e k c hk=>d2 k _ (Ak hk)
     have db:=da
     rw [aq] at db
     refine A5 15 (bZ) [XR iU] (fun _ _ _ _ _ h=>h) rfl rfl (Al cv (by kernel_rfl)) rfl (by decide) (by kernel_rfl) (by kernel_rfl) cv (Ay.peek ak.plOk ak 1 7 rfl rfl be [XR cK] (bm _)) (by rfl) (by rfl) (by rfl) cp (by rfl) c5 db (by kernel_rfl) fun gw (er:Kn _ (NN fL aZ cP bA bJ g l i p q aC ae bZ ag) ((tP 47 8 0)::(tI 46 bZ)::(tS 45 bC m.before.length bD)::(JF cP bA aZ bJ bZ aC cQ a d i)) _)=>?_
     refine Dj [16] [16,15,14,13,12,11,10,9,8,7,6,5,4,3,2,1,0] [48,41,40,8,17,16,15,0,1,2,3,4] ((tI 48 iU)::(JF cP bA aZ bJ bZ aC cQ a d i)) (fun _ _ _ _ _ h=>h) er (Ay.peek (Ay.peek bu.plOk bu 1 7 rfl rfl be [XR cK] (bm _)) bu 1 8 rfl rfl cp [XR iU] (d3 _)) (by kernel_rfl) (by rfl) (by kernel_rfl) fun dp cw=>?_
     have es:Kn _ (NN fL aZ cP bA bJ g l i p q aC ae bZ ag) ((tI 48 iU)::(JF cP bA aZ bJ bZ aC cQ a d i)) _:=cw
     have fo:Ai F bd [(fL,0),(aZ,0),(cP,0),(bA,0),(bJ,0),(g,l+Yc i*1),(p,q+Yc aC*1),(ae,0+Yc bZ*1),(ag,0+Yc bZ*1)] [⟨[.int .i64 m.table.places,.int .i64 m.table.layover,.slice z m.table.empty.length ab,.slice aa m.table.trips.length ac,.slice u m.follows.length x,.slice bT aB.length bU,.slice bC m.before.length bD],some 70⟩,⟨[.bool f.a0,.bool f.a1,.bool f.a2,.bool f.a3,.bool f.a4,.bool f.a5,.bool f.a6,.bool f.a7,.bool f.a8,.bool f.a9,.bool f.a10,.bool f.a11],some 67⟩,⟨[.ptr 0 0],none⟩,⟨[.bool aH.a0,.bool aH.a1,.bool aH.a2,.bool aH.a3,.bool aH.a4,.bool aH.a5,.bool aH.a6,.bool aH.a7,.bool aH.a8,.bool aH.a9,.bool aH.a10,.bool aH.a11],none⟩,⟨[.func (.func 48) #[] #[.pointer (some ⟨cP,0,none⟩),.pointer (some ⟨bA,0,none⟩),.pointer (some ⟨aZ,0,none⟩),.pointer (some ⟨bJ,0,none⟩)]],none⟩,⟨[.slice a cQ.length d],none⟩,⟨[.int .i64 bZ],none⟩,⟨[],none⟩,⟨[],none⟩] [⟨bT,aB.length,bU,3,1,aw,0⟩,⟨bC,m.before.length,bD,3,1,al,0⟩] (World.drew du):=by rw [ba]; exact bu
     have et:Kn _ (NN fL aZ cP bA bJ g l i p q aC ae bZ ag) ((tI 48 iU)::(JF cP bA aZ bJ bZ aC cQ a d i)) _:=es
     have fp:Ai F bd [(fL,0),(aZ,0),(cP,0),(bA,0),(bJ,0),(g,l+Yc i*1),(p,q+Yc aC*1),(ae,0+Yc bZ*1),(ag,0+Yc bZ*1)] [⟨[.int .i64 m.table.places,.int .i64 m.table.layover,.slice z m.table.empty.length ab,.slice aa m.table.trips.length ac,.slice u m.follows.length x,.slice bT aB.length bU,.slice bC aA.length bD],some 70⟩,⟨[.bool f.a0,.bool f.a1,.bool f.a2,.bool f.a3,.bool f.a4,.bool f.a5,.bool f.a6,.bool f.a7,.bool f.a8,.bool f.a9,.bool f.a10,.bool f.a11],some 67⟩,⟨[.ptr 0 0],none⟩,⟨[.bool aH.a0,.bool aH.a1,.bool aH.a2,.bool aH.a3,.bool aH.a4,.bool aH.a5,.bool aH.a6,.bool aH.a7,.bool aH.a8,.bool aH.a9,.bool aH.a10,.bool aH.a11],none⟩,⟨[.func (.func 48) #[] #[.pointer (some ⟨cP,0,none⟩),.pointer (some ⟨bA,0,none⟩),.pointer (some ⟨aZ,0,none⟩),.pointer (some ⟨bJ,0,none⟩)]],none⟩,⟨[.slice a cQ.length d],none⟩,⟨[.int .i64 bZ],none⟩,⟨[],none⟩,⟨[],none⟩] [⟨bT,aB.length,bU,3,1,aw,0⟩,⟨bC,aA.length,bD,3,1,al,0⟩] (World.drew du):=by rw [aq]; exact fo
     refine BZ (e':=[(fL,0),(aZ,0),(cP,0),(bA,0),(bJ,0),(g,l+Yc i*1),(p,q+Yc aC*1),(ae,0+Yc bZ*1),(ag,0+Yc bZ*1)]) (pl':=[⟨[XR m.table.places,XR m.table.layover,Yb z m.table.empty.length ab,Yb aa m.table.trips.length ac,Yb u m.follows.length x,Yb bT aB.length bU,Yb bC aA.length bD],some 70⟩,⟨[.bool f.a0,.bool f.a1,.bool f.a2,.bool f.a3,.bool f.a4,.bool f.a5,.bool f.a6,.bool f.a7,.bool f.a8,.bool f.a9,.bool f.a10,.bool f.a11],some 67⟩,⟨[.ptr 0 0],none⟩,⟨[.bool aH.a0,.bool aH.a1,.bool aH.a2,.bool aH.a3,.bool aH.a4,.bool aH.a5,.bool aH.a6,.bool aH.a7,.bool aH.a8,.bool aH.a9,.bool aH.a10,.bool aH.a11],none⟩,⟨[.func (.func 48) #[] #[.pointer (some ⟨cP,0,none⟩),.pointer (some ⟨bA,0,none⟩),.pointer (some ⟨aZ,0,none⟩),.pointer (some ⟨bJ,0,none⟩)]],none⟩,⟨[Yb a cQ.length d],none⟩,⟨[XR bZ],none⟩,⟨[XR cK],none⟩,⟨[XR iU],none⟩]) (fun _ hp=>Ay.same (by rw [ba,aq] at hp; exact hp) rfl) ?_
     obtain⟨dY,jX,am⟩:=Ao am
     obtain⟨g2,g9,fk,ga⟩:=fp.lend0 [0,1] [0,1] (by kernel_rfl) (by kernel_rfl) (by kernel_rfl) (by kernel_rfl)
     refine CU 17 rfl (by kernel_rfl) (by decide) (Al cw (by kernel_rfl)) (by kernel_rfl) fun K hK=>?_
     refine ED (.func (.func 48) #[] #[.pointer (some ⟨cP,0,none⟩),.pointer (some ⟨bA,0,none⟩),.pointer (some ⟨aZ,0,none⟩),.pointer (some ⟨bJ,0,none⟩)]) [.c (XR iU)] _ et rfl rfl (by decide) (by rfl) (by rfl) rfl ⟨48,_,_,rfl,fun _ _=>by kernel_rfl,ih bo (by omega) _ _ _ _ _ _ _ _ iU (BK.mk m.table m.follows aB aA) _ _ ay _ _ az _ _ ar _ _ _ bf _ _ _ ao f it aH fE fM fk _ jX⟩ fun h6 cn dy=>?_
     obtain⟨bz,bq,bs,c0,rfl,fu,d4,fv,d5,fq⟩:=dy
     have cd:=ga _ _ _ [⟨bT,aB.length,bU,3,1,bq,0⟩,⟨bC,aA.length,bD,3,1,bs,0⟩] c0 rfl (Y7 rfl) (by kernel_rfl) fq
     replace cd:Ai _ _ (NN fL aZ cP bA bJ g l i p q aC ae bZ ag) [⟨[XR m.table.places,XR m.table.layover,Yb z m.table.empty.length ab,Yb aa m.table.trips.length ac,Yb u m.follows.length x,Yb bT aB.length bU,Yb bC aA.length bD],some 70⟩,⟨Xa dY,some 67⟩,⟨[.ptr 0 0],none⟩,⟨K4 aH,none⟩,⟨K3 cP bA aZ bJ,none⟩,⟨[Yb a cQ.length d],none⟩,⟨[XR bZ],none⟩,⟨[],none⟩,⟨[],none⟩] [⟨bT,aB.length,bU,3,1,bq,0⟩,⟨bC,aA.length,bD,3,1,bs,0⟩] _:=cd
     refine⟨.one (.c (.bool dY.1)),rfl,fun cj (ev:Kn _ (NN fL aZ cP bA bJ g l i p q aC ae bZ ag) ((tB 49 dY.1)::(tI 48 iU)::(JF cP bA aZ bJ bZ aC cQ a d i)) _)=>hK _ _ ?_⟩
     have ew:Kn _ (NN fL aZ cP bA bJ g l i p q aC ae bZ ag) ((tB 49 dY.1)::(tI 48 iU)::(JF cP bA aZ bJ bZ aC cQ a d i)) _:=ev
     have fr:Ai F bz [(fL,0),(aZ,0),(cP,0),(bA,0),(bJ,0),(g,l+Yc i*1),(p,q+Yc aC*1),(ae,0+Yc bZ*1),(ag,0+Yc bZ*1)] [⟨[.int .i64 m.table.places,.int .i64 m.table.layover,.slice z m.table.empty.length ab,.slice aa m.table.trips.length ac,.slice u m.follows.length x,.slice bT m.next.length bU,.slice bC aA.length bD],some 70⟩,⟨[.bool dY.2.1.a0,.bool dY.2.1.a1,.bool dY.2.1.a2,.bool dY.2.1.a3,.bool dY.2.1.a4,.bool dY.2.1.a5,.bool dY.2.1.a6,.bool dY.2.1.a7,.bool dY.2.1.a8,.bool dY.2.1.a9,.bool dY.2.1.a10,.bool dY.2.1.a11],some 67⟩,⟨[.ptr 0 0],none⟩,⟨[.bool aH.a0,.bool aH.a1,.bool aH.a2,.bool aH.a3,.bool aH.a4,.bool aH.a5,.bool aH.a6,.bool aH.a7,.bool aH.a8,.bool aH.a9,.bool aH.a10,.bool aH.a11],none⟩,⟨[.func (.func 48) #[] #[.pointer (some ⟨cP,0,none⟩),.pointer (some ⟨bA,0,none⟩),.pointer (some ⟨aZ,0,none⟩),.pointer (some ⟨bJ,0,none⟩)]],none⟩,⟨[.slice a cQ.length d],none⟩,⟨[.int .i64 bZ],none⟩,⟨[],none⟩,⟨[],none⟩] [⟨bT,m.next.length,bU,3,1,bq,0⟩,⟨bC,aA.length,bD,3,1,bs,0⟩] cn:=by rw [← ba]; exact cd
     have fw:=fu.trans ba
     have ex:Kn _ (NN fL aZ cP bA bJ g l i p q aC ae bZ ag) ((tB 49 dY.1)::(tI 48 iU)::(JF cP bA aZ bJ bZ aC cQ a d i)) _:=ew
     have c2:Ai F bz [(fL,0),(aZ,0),(cP,0),(bA,0),(bJ,0),(g,l+Yc i*1),(p,q+Yc aC*1),(ae,0+Yc bZ*1),(ag,0+Yc bZ*1)] [⟨[.int .i64 m.table.places,.int .i64 m.table.layover,.slice z m.table.empty.length ab,.slice aa m.table.trips.length ac,.slice u m.follows.length x,.slice bT m.next.length bU,.slice bC m.before.length bD],some 70⟩,⟨[.bool dY.2.1.a0,.bool dY.2.1.a1,.bool dY.2.1.a2,.bool dY.2.1.a3,.bool dY.2.1.a4,.bool dY.2.1.a5,.bool dY.2.1.a6,.bool dY.2.1.a7,.bool dY.2.1.a8,.bool dY.2.1.a9,.bool dY.2.1.a10,.bool dY.2.1.a11],some 67⟩,⟨[.ptr 0 0],none⟩,⟨[.bool aH.a0,.bool aH.a1,.bool aH.a2,.bool aH.a3,.bool aH.a4,.bool aH.a5,.bool aH.a6,.bool aH.a7,.bool aH.a8,.bool aH.a9,.bool aH.a10,.bool aH.a11],none⟩,⟨[.func (.func 48) #[] #[.pointer (some ⟨cP,0,none⟩),.pointer (some ⟨bA,0,none⟩),.pointer (some ⟨aZ,0,none⟩),.pointer (some ⟨bJ,0,none⟩)]],none⟩,⟨[.slice a cQ.length d],none⟩,⟨[.int .i64 bZ],none⟩,⟨[],none⟩,⟨[],none⟩] [⟨bT,m.next.length,bU,3,1,bq,0⟩,⟨bC,m.before.length,bD,3,1,bs,0⟩] cn:=by rw [← aq]; exact fr
     have fx:=fv.trans aq
     refine Ax [] (NN fL aZ cP bA bJ g l i p q aC ae bZ ag) [⟨K5 m z ab aa ac u x bT bU bC bD,some 70⟩,⟨Xa dY,some 67⟩,⟨[.ptr 0 0],none⟩,⟨K4 aH,none⟩,⟨K3 cP bA aZ bJ,none⟩,⟨[Yb a cQ.length d],none⟩,⟨[XR bZ],none⟩,⟨[],none⟩,⟨[],none⟩] ?_
     refine Dr [18] (dn 18) ((tB 50 dY.1)::(tI 8 bZ)::(CB aC cQ a d i)) ex c2 fun hw ey=>?_
     refine AL (by kernel_rfl) ?_
     obtain rfl:=XZ am
     exact XY bq ⟨bs,_,_,rfl,(ey.keep [8,17,16,15,0,1,2,3,4,50] (by rfl)).cut 7 (by kernel_rfl),c2.cutPl 7 (by kernel_rfl),c0,d4,fw,d5,fx⟩
    rintro _ h8 ⟨au,av,ci,an,rfl,b7,ax,c1,bk,b9,bl,ca⟩
    refine wC (ad.2.2.1) b7 (fun b2=>?_) (fun b2=>?_)
    ·
     rw [Ba b2] at s
     refine XT (Au (by kernel_rfl) ?_)
     replace ax:=ax.drew
     refine Ax [] (IF fL aZ cP bA bJ g l i p q aC) [⟨K5 m z ab aa ac u x bT bU bC bD,some 70⟩,⟨VV ad,some 67⟩,⟨[.ptr 0 0],none⟩,⟨K4 aH,none⟩,⟨K3 cP bA aZ bJ,none⟩,⟨[Yb a cQ.length d],none⟩,⟨[XR bZ],none⟩] ?_
     refine Dr [0,1,2,3,4,5,6,7,8,9,10,11] (dn 11) [tI 62 i,tI 61 bZ,tI 60 bZ,tS 59 bC m.before.length bD,tI 55 i,tS 54 bT m.next.length bU] b7 ax fun hx ez=>?_
     obtain⟨x63,ex63,s⟩:=Ao s
     obtain⟨c6,dc,gm⟩:=Aj ex63
     have cb:=AG c6 dc
     obtain⟨g6,gd,d6⟩:=AM (sz:=1) rfl bk gm
     obtain rfl:=gd
     obtain⟨bh,cq⟩:=AP ax (i:=0) rfl (b0:=0+Yc i*1) (Y5 (Y6 (by decide)) (A3 (sz:=1) rfl bk cb))
     have fs:=ax.addPlc (b:=bh) (o:=0+Yc i*1) (cs:=[]) (fun j c hj=>by simp at hj) rfl (by kernel_rfl) (by kernel_rfl)
     have ha:∀ (e:AJ) k c,([XR x63]:List SC)[k]? = some c→(au)[0+Yc i*1+k]? = some (c.den e):=fun e k c hk=>d6 k _ (Ak hk)
     have dd:=dc
     rw [b9] at dd
     refine A5 12 (i) [XR x63] (fun _ _ _ _ _ h=>h) rfl rfl (rfl) rfl (by decide) (by kernel_rfl) (by kernel_rfl) ez ax.plOk (by rfl) (by rfl) (by rfl) cq (by rfl) c6 dd (by kernel_rfl) fun gx (e0:Kn _ [(fL,0),(aZ,0),(cP,0),(bA,0),(bJ,0),(g,l+Yc i*1),(p,q+Yc aC*1),(bh,0+Yc i*1)] [tP 63 7 0,tI 62 i,tI 61 bZ,tI 60 bZ,tS 59 bC m.before.length bD,tI 55 i,tS 54 bT m.next.length bU] _)=>?_
     obtain⟨ds,dw,s⟩:=Ao s
     obtain⟨he,hh,dg⟩:=Cl dw
     refine CU 13 rfl (by kernel_rfl) (by decide) (rfl) (by kernel_rfl) fun K hK=>?_
     refine B4 0 7 0 (0+Yc i*1) (.c (XR bZ)) e0 fs rfl rfl (by rfl) (by rfl) rfl rfl cq rfl (by kernel_rfl) (A3 (sz:=1) rfl bk cb) fun h9 e1 ce=>?_
     have d7:Ae an ds (au.take (0+Yc i*1+0)++([.int .i64 bZ]:Ye)++au.drop (0+Yc i*1+0+1)):=by rw [dg]; exact Df (sz:=1) rfl bk cb (Ad:rep an (bZ:Int) _)
     have fy:ds.length=m.next.length:=by rw [dg]; simp [b9]
     refine hK _ _ ?_
     refine Ax [] [(fL,0),(aZ,0),(cP,0),(bA,0),(bJ,0),(g,l+Yc i*1),(p,q+Yc aC*1),(bh,0+Yc i*1)] [⟨K5 m z ab aa ac u x bT bU bC bD,some 70⟩,⟨VV ad,some 67⟩,⟨[.ptr 0 0],none⟩,⟨K4 aH,none⟩,⟨K3 cP bA aZ bJ,none⟩,⟨[Yb a cQ.length d],none⟩,⟨[XR bZ],none⟩,⟨[],none⟩] ?_
     obtain⟨gX,lA,s⟩:=Ao s
     obtain⟨c7,de,gn⟩:=Aj lA
     have cc:=AG c7 de
     obtain⟨g7,gg,d8⟩:=AM (sz:=1) rfl bl gn
     obtain rfl:=gg
     obtain⟨bx,cr⟩:=AP ce (i:=1) rfl (b0:=0+Yc bZ*1) (Y5 (Y6 (by decide)) (A3 (sz:=1) rfl bl cc))
     have ft:=ce.addPlc (b:=bx) (o:=0+Yc bZ*1) (cs:=[]) (fun j c hj=>by simp at hj) rfl (by kernel_rfl) (by kernel_rfl)
     have hb:∀ (e:AJ) k c,([XR gX]:List SC)[k]? = some c→(av)[0+Yc bZ*1+k]? = some (c.den e):=fun e k c hk=>d8 k _ (Ak hk)
     have df:=de
     rw [ca] at df
     refine A5 14 (bZ) [XR gX] (fun _ _ _ _ _ h=>h) rfl rfl (rfl) rfl (by decide) (by kernel_rfl) (by kernel_rfl) e1 ce.plOk (by rfl) (by rfl) (by rfl) cr (by rfl) c7 df (by kernel_rfl) fun dq (e2:Kn _ [(fL,0),(aZ,0),(cP,0),(bA,0),(bJ,0),(g,l+Yc i*1),(p,q+Yc aC*1),(bh,0+Yc i*1),(bx,0+Yc bZ*1)] [tP 64 8 0,tP 63 7 0,tI 62 i,tI 61 bZ,tI 60 bZ,tS 59 bC m.before.length bD,tI 55 i,tS 54 bT m.next.length bU] _)=>?_
     obtain⟨dt,dx,s⟩:=Ao s
     obtain⟨hf,hi,dh⟩:=Cl dx
     refine CU 15 rfl (by kernel_rfl) (by decide) (rfl) (by kernel_rfl) fun K hK=>?_
     refine B4 1 8 0 (0+Yc bZ*1) (.c (XR i)) e2 ft rfl rfl (by rfl) (by rfl) rfl rfl cr rfl (by kernel_rfl) (A3 (sz:=1) rfl bl cc) fun ia e3 cf=>?_
     have ea:Ae an dt (av.take (0+Yc bZ*1+0)++([.int .i64 i]:Ye)++av.drop (0+Yc bZ*1+0+1)):=by rw [dh]; exact Df (sz:=1) rfl bl cc (Ad:rep an (i:Int) _)
     have fz:dt.length=m.before.length:=by rw [dh]; simp [ca]
     refine hK _ _ ?_
     have e4:Kn _ _ [] _:=e3.kp
     refine Iv (by kernel_rfl) (XT (Aa (Rk 0 1 [tB 6 true] e4 cf fun hy e5=>?_)))
     refine wf (wp_ret ?_)
     obtain rfl:=XZ s
     obtain rfl:=XZ H
     exact Hw (.one (.c (.bool true))) e5 cf (by kernel_rfl) ⟨an,au.take (0+Yc i*1+0)++([.int .i64 bZ]:Ye)++au.drop (0+Yc i*1+0+1),av.take (0+Yc bZ*1+0)++([.int .i64 i]:Ye)++av.drop (0+Yc bZ*1+0+1),XU aj (XU ai c1),rfl,fy,d7,fz,ea,(cf.cutRw 2).cutPl 2 (by kernel_rfl)⟩
    rw [Bb b2] at s
    refine wp_skip (Aa (Rk 0 2 [tI 17 (IntKind.i64.wrap (aC+1)),tI 16 ((cQ.length:Nat):Int),tS 15 a cQ.length d,tI 0 i,tP 1 2 0,tP 2 3 0,tP 3 1 0,tP 4 4 0] b7 ax fun hz e6=>?_))
    refine wf ?_
    exact XY bo ⟨Y4 _,XY ad.1 ⟨ad.2.1,IntKind.i64.wrap (aC+1),ad.2.2.2,au,av,_,_,rfl,(e6.keep [17,16,15,0,1,2,3,4] (by rfl)).cut 6 (by kernel_rfl),ax.cutPl 6 (by kernel_rfl),XU aj (XU ai c1),bk,b9,bl,ca,(by omega),s⟩⟩
   rw [b3,XV] at s
   refine wp_exit ?_
   obtain rfl:=XZ s
   exact XY (aB,aA,cA) ⟨aw,al,_,_,rfl,b8.kp,ch,aj,bf,ba,ao,aq,rfl⟩
  rintro _ ib ⟨af,bv,bw,ck,bb,rfl,e7,cg,fn,eb,fl,ec,fm,rfl⟩
  rw [Ex.bind_go] at H
  refine XT (Aa (Rk 0 1 [tB 6 false] e7 cg fun h0 e8=>?_))
  refine wf (wp_ret ?_)
  obtain rfl:=XZ H
  exact Hw (.one (.c (.bool false))) e8 cg (by kernel_rfl) ⟨bb,bv,bw,fn,rfl,fl,eb,fm,ec,(cg.cutRw 2).cutPl 2 (by kernel_rfl)⟩
theorem JG (n:Nat) {F:Fr} {h:Ac} {w:World} {fL cP bA aZ bJ:Nat} (i:Int) (m:BK) {z:Yd} {ab:Nat} (ay:At h z ab m.table.empty) {aa:Yd} {ac:Nat} (az:At h aa ac m.table.trips) {u:Yd} {x:Nat} (ar:At h u x m.follows) {bT:Yd} {bU:Nat} {eP:Ye} (gM:Ae h m.next eP) {bC:Yd} {bD:Nat} {dV:Ye} (fW:Ae h m.before dV) (tried:DL) (it:As h cP [.pointer (some ⟨fL,0,none⟩)]) (aH:DL) (fE:B9 h bA aH) (fM:As h bJ [.func (.func 48) #[] #[.pointer (some ⟨cP,0,none⟩),.pointer (some ⟨bA,0,none⟩),.pointer (some ⟨aZ,0,none⟩),.pointer (some ⟨bJ,0,none⟩)]]) (hm:Ai F h [(fL,0),(aZ,0)] [⟨[XR m.table.places,XR m.table.layover,Yb z m.table.empty.length ab,Yb aa m.table.trips.length ac,Yb u m.follows.length x,Yb bT m.next.length bU,Yb bC m.before.length bD],some 70⟩,⟨[.bool tried.a0,.bool tried.a1,.bool tried.a2,.bool tried.a3,.bool tried.a4,.bool tried.a5,.bool tried.a6,.bool tried.a7,.bool tried.a8,.bool tried.a9,.bool tried.a10,.bool tried.a11],some 67⟩] [⟨bT,m.next.length,bU,3,1,eP,0⟩,⟨bC,m.before.length,bD,3,1,dV,0⟩] w) {r:Bool×DL×(List Int)×(List Int)} (H:run_Table_match_1 n i m tried aH=some r) :
  Calls Tryz.prog 48 #[.int .i64 i,.pointer (some ⟨cP,0,none⟩),.pointer (some ⟨bA,0,none⟩),.pointer (some ⟨aZ,0,none⟩),.pointer (some ⟨bJ,0,none⟩)] w (Jw fun v w'=>∃ (h':Ac)(bp:Ye)(br:Ye),Ac.le h h'∧(v=.bool r.1)∧r.2.2.1.length=m.next.length∧Ae h' r.2.2.1 bp∧r.2.2.2.length=m.before.length∧Ae h' r.2.2.2 br∧Ai F h' [(fL,0),(aZ,0)] [⟨K5 m z ab aa ac u x bT bU bC bD,some 70⟩,⟨[.bool r.2.1.a0,.bool r.2.1.a1,.bool r.2.1.a2,.bool r.2.1.a3,.bool r.2.1.a4,.bool r.2.1.a5,.bool r.2.1.a6,.bool r.2.1.a7,.bool r.2.1.a8,.bool r.2.1.a9,.bool r.2.1.a10,.bool r.2.1.a11],some 67⟩] [⟨bT,m.next.length,bU,3,1,bp,0⟩,⟨bC,m.before.length,bD,3,1,br,0⟩] w'):=IP n F h w fL cP bA aZ bJ i m z ab ay aa ac az u x ar bT bU eP gM bC bD dV fW tried it aH fE fM hm r H
abbrev Cm (l k):=([(l,0),(k,0),(0,0),(0,0)]:AJ)
abbrev FQ (l k u m p q):=([(l,0),(k,0),(u,0),(m,0),(p,0),(q,0)]:AJ)
abbrev Pz:List SC:=[.bool false,.bool false,.bool false,.bool false,.bool false,.bool false,.bool false,.bool false,.bool false,.bool false,.bool false,.bool false]
abbrev Q5 (t_:An)(a f d g ac)(cY:List (List Int))(ad av)(cT:List Int)(ax aw)(cR:List Int)(ay):=([XR t_.places,XR t_.layover,Yb a t_.empty.length f,Yb d t_.trips.length g,Yb ac cY.length ad,Yb av cT.length ax,Yb aw cR.length ay]:List SC)
abbrev P0 (t_:An)(a f d g ac)(cY:List (List Int))(ad ap)(s:((List Int)×(List Int)×DL))(ar aq au):=([XR t_.places,XR t_.layover,Yb a t_.empty.length f,Yb d t_.trips.length g,Yb ac cY.length ad,Yb ap s.1.length ar,Yb aq s.2.1.length au]:List SC)
abbrev Rv (s:((List Int)×(List Int)×DL)):=([.bool s.2.2.a0,.bool s.2.2.a1,.bool s.2.2.a2,.bool s.2.2.a3,.bool s.2.2.a4,.bool s.2.2.a5,.bool s.2.2.a6,.bool s.2.2.a7,.bool s.2.2.a8,.bool s.2.2.a9,.bool s.2.2.a10,.bool s.2.2.a11]:List SC)
abbrev Rw:List Ca:=[⟨none,0,0,3,1,[],0⟩,⟨none,0,0,3,1,[],0⟩]
abbrev E3 (t_:An)(a f d g)(aH:DL):=([⟨NW t_ a f d g,some 36⟩,⟨K4 aH,some 67⟩,⟨[],none⟩,⟨[],none⟩]:List C0)
abbrev AT (t_:An)(a f d g)(aH:DL):=([⟨NW t_ a f d g,some 36⟩,⟨K4 aH,some 67⟩,⟨[],none⟩,⟨[.nilptr],some 64⟩]:List C0)
abbrev Cd (t_:An)(a f d g):=([tI 20 ((t_.trips.length:Nat):Int),tI 15 ((t_.trips.length:Nat):Int),tA 10 (NW t_ a f d g),tA 9 (NW t_ a f d g),tP 3 1 0,tP 2 0 0]:TM)
abbrev Db (t_:An)(a f d g):=([tI 20 ((t_.trips.length:Nat):Int),tI 15 ((t_.trips.length:Nat):Int),tA 9 (NW t_ a f d g),tP 3 1 0,tP 2 0 0]:TM)
abbrev Fp (t_:An):=([tI 27 ((t_.trips.length:Nat):Int),tP 7 5 0,tP 6 4 0,tP 5 3 0,tP 3 1 0]:TM)
abbrev Ld (t_:An)(a f d g):=([tI 20 ((t_.trips.length:Nat):Int),tA 9 (NW t_ a f d g),tP 3 1 0,tP 2 0 0]:TM)
theorem Le (n:Nat) {h:Ac} {w:World} (hh:CK h w) (t_:An) {cN:Ye} (dL:rep h t_ cN) (aH:DL) {jQ:Ye} (iR:rep h aH jQ) {r:Option (Bx BK)} (H:DQ n t_ aH=some r) :
  Calls Tryz.prog 20 #[.agg cN.toArray,.agg jQ.toArray] w (CP (fun h v=>XK h v r) h w):=by
 obtain⟨_,_,rfl,rfl,⟨_,_,rfl,rfl,⟨_,_,rfl,⟨a,f,rfl,x⟩,⟨d,g,rfl,z⟩⟩⟩⟩:=dL
 obtain⟨_,_,rfl,rfl,⟨_,_,rfl,rfl,⟨_,_,rfl,rfl,⟨_,_,rfl,rfl,⟨_,_,rfl,rfl,⟨_,_,rfl,rfl,⟨_,_,rfl,rfl,⟨_,_,rfl,rfl,⟨_,_,rfl,rfl,⟨_,_,rfl,rfl,⟨_,_,rfl,rfl,rfl⟩⟩⟩⟩⟩⟩⟩⟩⟩⟩⟩:=iR
 refine enter 40 [.agg (NW t_ a f d g),.agg (K4 aH)] Tryz.func20 rfl rfl rfl rfl fun t hk=>?_
 have hm:=Ai.begin h w hh
 unfold DQ at H
 refine XT (Aa (wl fun K hK=>?_))
 refine wb (.agg (NW t_ a f d g)) hk hm fun l u2 yg (p2:Kn _ [(l,0)] [tP 2 0 0,tA 0 (NW t_ a f d g),tA 1 (K4 aH)] _) sg=>hK _ _ ?_
 refine wl fun K hK=>?_
 refine wb (.agg (K4 aH)) p2 sg fun k ts oj (p9:Kn _ [(l,0),(k,0)] [tP 3 1 0,tP 2 0 0,tA 0 (NW t_ a f d g),tA 1 (K4 aH)] _) fy=>hK _ _ ?_
 refine Rk 2 1 [tP 3 1 0,tP 2 0 0] p9 fy fun wq qf=>?_
 refine wf (XT (Au (by kernel_rfl) ?_))
 replace fy:=fy.drew
 refine Ax [] [(l,0),(k,0)] [⟨NW t_ a f d g,some 36⟩,⟨K4 aH,some 67⟩] ?_
 refine Dr [0,1,4,5,6,9,10,11] [11,10,9,6,5,4,1,0] (Cd t_ a f d g) qf fy fun oc qk=>?_
 obtain⟨cY,gR,H⟩:=Ao H
 obtain⟨cT,fT,H⟩:=Ao H
 obtain⟨cR,iY,H⟩:=Ao H
 have sj:Ai _ _ [(l,0),(k,0)] [⟨NW t_ a f d g,some 36⟩,⟨K4 aH,some 67⟩] [⟨none,0,0,3,1,[],0⟩] _:=fy.nilRow 3 1
 have sk:Ai _ _ [(l,0),(k,0)] [⟨NW t_ a f d g,some 36⟩,⟨K4 aH,some 67⟩] Rw _:=sj.nilRow 3 1
 have qn:Kn _ [(l,0),(k,0),(0,0)] (Cd t_ a f d g) _:=qk.push (0,0) (by kernel_rfl)
 have sm:=sk.addPlc (b:=0) (o:=0) (cs:=[]) (fun j c hj=>by simp at hj) rfl (by kernel_rfl) (by kernel_rfl)
 refine BZ (e':=[(l,0),(k,0),(0,0)]) (pl':=[⟨NW t_ a f d g,some 36⟩,⟨K4 aH,some 67⟩,⟨[],none⟩]) (fun _ hp=>hp.pop (Y8 rfl) (by kernel_rfl)) ?_
 have ho:Kn _ (Cm l k) (Cd t_ a f d g) _:=qn.push (0,0) (by kernel_rfl)
 have fz:=sm.addPlc (b:=0) (o:=0) (cs:=[]) (fun j c hj=>by simp at hj) rfl (by kernel_rfl) (by kernel_rfl)
 refine BZ (e':=(Cm l k)) (pl':=(E3 t_ a f d g aH)) (fun _ hp=>hp.pop (Y8 rfl) (by kernel_rfl)) ?_
 refine BT (fun W=>∀ (u:Nat),∀ (m:Nat),∀ (bd:Yd),∀ (bh:Nat),∀ (az:Ye),∀ (bj:Nat),∀ (be:Yd),∀ (bi:Nat),∀ (ba:Ye),∀ (bk:Nat),∀ (av:Yd),∀ (ax:Nat),∀ (d7:Ye),∀ (aw:Yd),∀ (ay:Nat),∀ (d8:Ye),∀ (ac:Yd),∀ (ad:Nat),∀ a' w',(∃ (ie:Array Value)(c7:Ac),a' = ⟨ie,[]⟩∧Kn 40 [(l,0),(k,0),(u,0),(m,0)] [tP 5 3 0,tP 23 2 0,tP 3 1 0,tP 2 0 0] ie∧Ai ⟨w,h,BF⟩ c7 [(l,0),(k,0),(u,0),(m,0)] [⟨NW t_ a f d g,some 36⟩,⟨K4 aH,some 67⟩,⟨Q5 t_ a f d g ac cY ad av cT ax aw cR ay,some 70⟩,⟨[.nilptr],some 64⟩] [⟨bd,1,bh,3,1,az,bj⟩,⟨be,1,bi,3,1,ba,bk⟩,⟨av,cT.length,ax,3,1,d7,0⟩,⟨aw,cR.length,ay,3,1,d8,0⟩] w'∧Ac.le h c7∧Ae c7 ([(-1)]:List Int) az∧Ae c7 ([(-1)]:List Int) ba∧Ae c7 cT d7∧Ae c7 cR d8∧At c7 ac ad cY)→W [(l,0),(k,0),(u,0),(m,0)] [⟨NW t_ a f d g,some 36⟩,⟨K4 aH,some 67⟩,⟨Q5 t_ a f d g ac cY ad av cT ax aw cR ay,some 70⟩,⟨[.nilptr],some 64⟩] [14,13,12,7,2,3,8,15,11,10,9,6,5,4,1,0] a' w') ?_ (fun n3=>?_)
 ·
  intro u m bd bh az bj be bi ba bk av ax d7 aw ay d8 ac ad
  rintro _ xm ⟨ie,c7,rfl,q8,sq,mh,hc,hd,jg,jh,dd⟩
  refine CU 16 rfl (by kernel_rfl) (by decide) (rfl) (by kernel_rfl) fun K hK=>?_
  refine DT 3 0 (.c (.ptr 2 0)) [.ptr 2 0] q8 sq fun xp rd sr=>hK _ _ ?_
  refine Ax [] [(l,0),(k,0),(u,0),(m,0)] [⟨NW t_ a f d g,some 36⟩,⟨K4 aH,some 67⟩,⟨Q5 t_ a f d g ac cY ad av cT ax aw cR ay,some 70⟩,⟨[.ptr 2 0],some 64⟩] ?_
  have rg:Kn _ _ [tP 5 3 0,tP 3 1 0,tP 2 0 0] _:=rd.kp
  refine AL (by kernel_rfl) (XT (Aa (wl fun K hK=>?_)))
  refine wa Pz rg sr fun p uj xv (rj:Kn _ [(l,0),(k,0),(u,0),(m,0),(p,0)] [tP 6 4 0,tP 5 3 0,tP 3 1 0,tP 2 0 0] _) ss=>hK _ _ ?_
  refine wf (XT (Aa (wl fun K hK=>?_)))
  refine wa [.nilfunc] rj ss fun q um ok (ro:Kn _ (FQ l k u m p q) [tP 7 5 0,tP 6 4 0,tP 5 3 0,tP 3 1 0,tP 2 0 0] _) st=>hK _ _ ?_
  refine wf (XT (Aa ?_))
  obtain⟨lx,d6,p0,j9⟩:=st.settlePlc (i:=3) rfl
  replace j9:Ai _ _ (FQ l k u m p q) [⟨NW t_ a f d g,some 36⟩,⟨K4 aH,some 67⟩,⟨Q5 t_ a f d g ac cY ad av cT ax aw cR ay,some 70⟩,⟨[.ptr 2 0],none⟩,⟨Pz,some 67⟩,⟨[.nilfunc],some 108⟩] [⟨bd,1,bh,3,1,az,bj⟩,⟨be,1,bi,3,1,ba,bk⟩,⟨av,cT.length,ax,3,1,d7,0⟩,⟨aw,cR.length,ay,3,1,d8,0⟩] _:=j9
  have fn:As lx m [.pointer (some ⟨u,0,none⟩)]:=As.of (e:=[(l,0),(k,0),(u,0),(m,0),(p,0),(q,0)]) (cs:=[.ptr 2 0]) rfl p0
  obtain⟨ha,dc,l3,ka⟩:=j9.settlePlc (i:=1) rfl
  replace ka:Ai _ _ (FQ l k u m p q) [⟨NW t_ a f d g,some 36⟩,⟨K4 aH,none⟩,⟨Q5 t_ a f d g ac cY ad av cT ax aw cR ay,some 70⟩,⟨[.ptr 2 0],none⟩,⟨Pz,some 67⟩,⟨[.nilfunc],some 108⟩] [⟨bd,1,bh,3,1,az,bj⟩,⟨be,1,bi,3,1,ba,bk⟩,⟨av,cT.length,ax,3,1,d7,0⟩,⟨aw,cR.length,ay,3,1,d8,0⟩] _:=ka
  have fi:B9 ha k (aH:DL):=B9.of (e:=(FQ l k u m p q)) (cs:=(K4 aH)) ((Ab Ag (Ab Ag (Ab Ag (Ab Ag (Ab Ag (Ab Ag (Ab Ag (Ab Ag (Ab Ag (Ab Ag (Ab Ag Ag))))))))))):rep ha (aH:DL) _) rfl l3
  have hn:As ha k [.bool aH.a0,.bool aH.a1,.bool aH.a2,.bool aH.a3,.bool aH.a4,.bool aH.a5,.bool aH.a6,.bool aH.a7,.bool aH.a8,.bool aH.a9,.bool aH.a10,.bool aH.a11]:=As.of (e:=[(l,0),(k,0),(u,0),(m,0),(p,0),(q,0)]) (cs:=[.bool aH.a0,.bool aH.a1,.bool aH.a2,.bool aH.a3,.bool aH.a4,.bool aH.a5,.bool aH.a6,.bool aH.a7,.bool aH.a8,.bool aH.a9,.bool aH.a10,.bool aH.a11]) rfl l3
  refine Ey 0 #[] #[.pointer (some ⟨m,0,none⟩),.pointer (some ⟨k,0,none⟩),.pointer (some ⟨p,0,none⟩),.pointer (some ⟨q,0,none⟩)] ro rfl rfl (rfl) rfl (by decide) (by rfl) (by rfl) (by rfl) (by rfl) fun od (r5:Kn _ (FQ l k u m p q) [(24,.one (.c (.func (.func 48) #[] #[.pointer (some ⟨m,0,none⟩),.pointer (some ⟨k,0,none⟩),.pointer (some ⟨p,0,none⟩),.pointer (some ⟨q,0,none⟩)]))),tP 7 5 0,tP 6 4 0,tP 5 3 0,tP 3 1 0,tP 2 0 0] _)=>?_
  refine wl fun K hK=>?_
  refine DT 5 0 (.c (.func (.func 48) #[] #[.pointer (some ⟨m,0,none⟩),.pointer (some ⟨k,0,none⟩),.pointer (some ⟨p,0,none⟩),.pointer (some ⟨q,0,none⟩)])) (K3 m k p q) r5 ka fun v0 r6 nx=>hK _ _ ?_
  have r7:Kn _ _ [tP 7 5 0,tP 6 4 0,tP 5 3 0,tP 3 1 0,tP 2 0 0] _:=r6.kp
  refine wf (XT (XT (Aa (Rk 0 4 ((tI 28 0)::(Fp t_)) r7 nx fun ww r8=>?_))))
  refine wf ?_
  obtain⟨hb,b8,p1,kb⟩:=nx.settlePlc (i:=5) rfl
  replace x:=x.mono (XU (XU (XU mh d6) dc) b8)
  replace z:=z.mono (XU (XU (XU mh d6) dc) b8)
  replace dd:=dd.mono (XU (XU d6 dc) b8)
  replace fn:=fn.mono (XU dc b8)
  replace fi:=fi.mono b8
  replace jg:=jg.mono (XU (XU d6 dc) b8)
  replace jh:=jh.mono (XU (XU d6 dc) b8)
  replace kb:Ai _ _ (FQ l k u m p q) [⟨NW t_ a f d g,some 36⟩,⟨K4 aH,none⟩,⟨Q5 t_ a f d g ac cY ad av cT ax aw cR ay,some 70⟩,⟨[.ptr 2 0],none⟩,⟨Pz,some 67⟩,⟨K3 m k p q,none⟩] [⟨bd,1,bh,3,1,az,bj⟩,⟨be,1,bi,3,1,ba,bk⟩,⟨av,cT.length,ax,3,1,d7,0⟩,⟨aw,cR.length,ay,3,1,d8,0⟩] _:=kb
  have jk:As hb q [.func (.func 48) #[] #[.pointer (some ⟨m,0,none⟩),.pointer (some ⟨k,0,none⟩),.pointer (some ⟨p,0,none⟩),.pointer (some ⟨q,0,none⟩)]]:=As.of (e:=[(l,0),(k,0),(u,0),(m,0),(p,0),(q,0)]) (cs:=[.func (.func 48) #[] #[.pointer (some ⟨m,0,none⟩),.pointer (some ⟨k,0,none⟩),.pointer (some ⟨p,0,none⟩),.pointer (some ⟨q,0,none⟩)]]) rfl p1
  obtain⟨s,ln,H⟩:=Ao H
  refine Ar (fun a' w'=>∃ (ap:Yd)(ar:Nat)(ch:Ye)(aq:Yd)(au:Nat)(de:Ye)(km:Array Value)(ff:Ac),a' = ⟨km,[]⟩∧Kn 40 (FQ l k u m p q) [tP 5 3 0] km∧Ai ⟨w,h,BF⟩ ff (FQ l k u m p q) [⟨NW t_ a f d g,some 36⟩,⟨K4 aH,none⟩,⟨P0 t_ a f d g ac cY ad ap s ar aq au,some 70⟩,⟨[.ptr 2 0],none⟩,⟨Rv s,some 67⟩,⟨K3 m k p q,none⟩] [⟨bd,1,bh,3,1,az,bj⟩,⟨be,1,bi,3,1,ba,bk⟩,⟨ap,s.1.length,ar,3,1,ch,0⟩,⟨aq,s.2.1.length,au,3,1,de,0⟩] w'∧Ac.le hb ff∧Ae ff s.1 ch∧Ae ff s.2.1 de) ?_ ?_
  ·
   refine wp_block ?_
   refine Av (fun tr a' w'=>∃ (aB:List Int)(aA:List Int)(aC:Int)(cA:DL)(bb:Yd)(bf:Nat)(f7:Ye)(bc:Yd)(bg:Nat)(f8:Ye)(kn:Array Value)(fg:Ac),a' = ⟨kn,[]⟩∧Kn 40 (FQ l k u m p q) ((tI 28 aC)::(Fp t_)) kn∧Ai ⟨w,h,BF⟩ fg (FQ l k u m p q) [⟨NW t_ a f d g,some 36⟩,⟨K4 aH,none⟩,⟨[XR t_.places,XR t_.layover,Yb a t_.empty.length f,Yb d t_.trips.length g,Yb ac cY.length ad,Yb bb aB.length bf,Yb bc aA.length bg],some 70⟩,⟨[.ptr 2 0],none⟩,⟨[.bool cA.a0,.bool cA.a1,.bool cA.a2,.bool cA.a3,.bool cA.a4,.bool cA.a5,.bool cA.a6,.bool cA.a7,.bool cA.a8,.bool cA.a9,.bool cA.a10,.bool cA.a11],some 67⟩,⟨K3 m k p q,none⟩] [⟨bd,1,bh,3,1,az,bj⟩,⟨be,1,bi,3,1,ba,bk⟩,⟨bb,aB.length,bf,3,1,f7,0⟩,⟨bc,aA.length,bg,3,1,f8,0⟩] w'∧Ac.le hb fg∧Ae fg aB f7∧Ae fg aA f8∧BE tr t_ aH cY aB aA aC cA=some s) n ?_ ?_
   ·
    exact XY cT ⟨cR,0,DL.mk false false false false false false false false false false false false,av,ax,d7,aw,ay,d8,_,_,rfl,r8.kp,kb,Ac.le_refl _,jg,jh,ln⟩
   rintro f6 _ xc ⟨aB,aA,aC,cA,bb,bf,f7,bc,bg,f8,kn,fg,rfl,p3,fx,bp,i9,ja,an⟩
   clear ln
   obtain _ | f6:=f6
   ·
    rw [BE] at an; cases an
   rw [BE] at an
   replace x:=x.mono bp
   replace z:=z.mono bp
   replace dd:=dd.mono bp
   replace fn:=fn.mono bp
   replace fi:=fi.mono bp
   replace jk:=jk.mono bp
   refine XT (Aa (Rk 0 1 ((tB 29 (decide (aC<((t_.trips.length:Nat):Int))))::(tI 28 aC)::(Fp t_)) p3 fx fun wm jl=>?_))
   refine wf (XT (wC (decide (aC<((t_.trips.length:Nat):Int))) jl (fun i7=>?_) (fun i7=>?_)))
   ·
    rw [i7,XW] at an
    refine wp_skip (XT (wp_block (XT (Aa (Rk 0 2 ((tI 8 aC)::(tI 28 aC)::(Fp t_)) jl fx fun wn p4=>?_)))))
    refine wf (XT (Aa (Rk 0 1 ((tA 31 Pz)::(tI 8 aC)::(tI 28 aC)::(Fp t_)) p4 fx fun tt p5=>?_)))
    refine wl fun K hK=>?_
    refine DT 4 0 (.agg Pz) Pz p5 fx fun xd p6 el=>hK _ _ ?_
    have p7:Kn _ _ ((tI 8 aC)::(tI 28 aC)::(Fp t_)) _:=p6.kp
    refine wf (XT (Aa (Rk 0 1 ((tI 32 aC)::(tI 8 aC)::(tI 28 aC)::(Fp t_)) p7 el fun wo l4=>?_)))
    obtain⟨fU,jD,an⟩:=Ao an
    obtain⟨sy,sz⟩:=BI jD
    refine Eg 1 (.one (.c (.ptr 1 (0+Yc aC*1)))) rfl (rfl) rfl (AZ (E:=4) l4 rfl (by kernel_rfl) (by kernel_rfl) (by rfl) (by rfl) sy sz) (l4.put (by decide) _) fun tu (l5:Kn _ (FQ l k u m p q) ((tP 33 1 (0+Yc aC*1))::(tI 32 aC)::(tI 8 aC)::(tI 28 aC)::(Fp t_)) _)=>?_
    obtain⟨gF,lD,an⟩:=Ao an
    obtain⟨_,_,tq⟩:=Aj lD
    refine Eg 2 (.one (.c (.bool gF))) rfl (rfl) rfl (CA l5 el.plOk rfl (by rfl) rfl (by kernel_rfl) (F8 (fun(y:Bool)=>([.bool y]:List SC)) 1 (fun _=>rfl) [] [] aH.toL _ _ tq rfl rfl)) (l5.put (by decide) _) fun oa (p8:Kn _ (FQ l k u m p q) ((tB 34 gF)::(tP 33 1 (0+Yc aC*1))::(tI 32 aC)::(tI 8 aC)::(tI 28 aC)::(Fp t_)) _)=>?_
    have jm:Kn _ _ ((tB 34 gF)::(tI 8 aC)::(tI 28 aC)::(Fp t_)) _:=p8.kp
    refine wf (wC (gF) jm (fun i8=>?_) (fun i8=>?_))
    ·
     rw [Ba i8] at an
     refine Aa (Rk 0 2 ((tI 36 aC)::(35,.one (.c (.func (.func 48) #[] #[.pointer (some ⟨m,0,none⟩),.pointer (some ⟨k,0,none⟩),.pointer (some ⟨p,0,none⟩),.pointer (some ⟨q,0,none⟩)])))::(tI 28 aC)::(Fp t_)) jm el fun wp qa=>?_)
     obtain⟨cK,iB,an⟩:=Ao an
     obtain⟨v1,v2,r9,tg⟩:=el.lend0 [2,4] [2,3] (by kernel_rfl) (by kernel_rfl) (by kernel_rfl) (by kernel_rfl)
     refine wl fun K hK=>?_
     refine ED (.func (.func 48) #[] #[.pointer (some ⟨m,0,none⟩),.pointer (some ⟨k,0,none⟩),.pointer (some ⟨p,0,none⟩),.pointer (some ⟨q,0,none⟩)]) [.c (XR aC)] _ qa rfl rfl (by decide) (by rfl) (by rfl) rfl ⟨48,_,_,rfl,fun _ _=>by kernel_rfl,JG f6 aC (BK.mk t_ cY aB aA) x z dd i9 ja (DL.mk false false false false false false false false false false false false) fn aH fi jk r9 iB⟩ fun wx k4 o1=>?_
     obtain⟨i6,f9,ga,mg,rfl,su,o7,sv,o8,sh⟩:=o1
     have jz:=tg _ _ _ [⟨bb,aB.length,bf,3,1,f9,0⟩,⟨bc,aA.length,bg,3,1,ga,0⟩] mg rfl (Y7 rfl) (by kernel_rfl) sh
     replace jz:Ai _ _ (FQ l k u m p q) [⟨NW t_ a f d g,some 36⟩,⟨K4 aH,none⟩,⟨[XR t_.places,XR t_.layover,Yb a t_.empty.length f,Yb d t_.trips.length g,Yb ac cY.length ad,Yb bb aB.length bf,Yb bc aA.length bg],some 70⟩,⟨[.ptr 2 0],none⟩,⟨[.bool cK.2.1.a0,.bool cK.2.1.a1,.bool cK.2.1.a2,.bool cK.2.1.a3,.bool cK.2.1.a4,.bool cK.2.1.a5,.bool cK.2.1.a6,.bool cK.2.1.a7,.bool cK.2.1.a8,.bool cK.2.1.a9,.bool cK.2.1.a10,.bool cK.2.1.a11],some 67⟩,⟨K3 m k p q,none⟩] [⟨bd,1,bh,3,1,az,bj⟩,⟨be,1,bi,3,1,ba,bk⟩,⟨bb,aB.length,bf,3,1,f9,0⟩,⟨bc,aA.length,bg,3,1,ga,0⟩] _:=jz
     refine⟨.one (.c (.bool cK.1)),rfl,fun ob (qb:Kn _ (FQ l k u m p q) ((tB 37 cK.1)::(tI 36 aC)::(35,.one (.c (.func (.func 48) #[] #[.pointer (some ⟨m,0,none⟩),.pointer (some ⟨k,0,none⟩),.pointer (some ⟨p,0,none⟩),.pointer (some ⟨q,0,none⟩)])))::(tI 28 aC)::(Fp t_)) _)=>hK _ _ ?_⟩
     have sw:=su.symm
     have qc:=qb
     have si:Ai ⟨w,h,BF⟩ i6 [(l,0),(k,0),(u,0),(m,0),(p,0),(q,0)] [⟨[XR t_.places,XR t_.layover,Yb a t_.empty.length f,Yb d t_.trips.length g],some 36⟩,⟨[.bool aH.a0,.bool aH.a1,.bool aH.a2,.bool aH.a3,.bool aH.a4,.bool aH.a5,.bool aH.a6,.bool aH.a7,.bool aH.a8,.bool aH.a9,.bool aH.a10,.bool aH.a11],none⟩,⟨[XR t_.places,XR t_.layover,Yb a t_.empty.length f,Yb d t_.trips.length g,Yb ac cY.length ad,Yb bb cK.2.2.1.length bf,Yb bc aA.length bg],some 70⟩,⟨[.ptr 2 0],none⟩,⟨[.bool cK.2.1.a0,.bool cK.2.1.a1,.bool cK.2.1.a2,.bool cK.2.1.a3,.bool cK.2.1.a4,.bool cK.2.1.a5,.bool cK.2.1.a6,.bool cK.2.1.a7,.bool cK.2.1.a8,.bool cK.2.1.a9,.bool cK.2.1.a10,.bool cK.2.1.a11],some 67⟩,⟨[.func (.func 48) #[] #[.pointer (some ⟨m,0,none⟩),.pointer (some ⟨k,0,none⟩),.pointer (some ⟨p,0,none⟩),.pointer (some ⟨q,0,none⟩)]],none⟩] [⟨bd,1,bh,3,1,az,bj⟩,⟨be,1,bi,3,1,ba,bk⟩,⟨bb,cK.2.2.1.length,bf,3,1,f9,0⟩,⟨bc,aA.length,bg,3,1,ga,0⟩] k4:=by rw [← sw]; exact jz
     have sx:=sv.symm
     have qd:=qc
     have mp:Ai ⟨w,h,BF⟩ i6 [(l,0),(k,0),(u,0),(m,0),(p,0),(q,0)] [⟨[XR t_.places,XR t_.layover,Yb a t_.empty.length f,Yb d t_.trips.length g],some 36⟩,⟨[.bool aH.a0,.bool aH.a1,.bool aH.a2,.bool aH.a3,.bool aH.a4,.bool aH.a5,.bool aH.a6,.bool aH.a7,.bool aH.a8,.bool aH.a9,.bool aH.a10,.bool aH.a11],none⟩,⟨[XR t_.places,XR t_.layover,Yb a t_.empty.length f,Yb d t_.trips.length g,Yb ac cY.length ad,Yb bb cK.2.2.1.length bf,Yb bc cK.2.2.2.length bg],some 70⟩,⟨[.ptr 2 0],none⟩,⟨[.bool cK.2.1.a0,.bool cK.2.1.a1,.bool cK.2.1.a2,.bool cK.2.1.a3,.bool cK.2.1.a4,.bool cK.2.1.a5,.bool cK.2.1.a6,.bool cK.2.1.a7,.bool cK.2.1.a8,.bool cK.2.1.a9,.bool cK.2.1.a10,.bool cK.2.1.a11],some 67⟩,⟨[.func (.func 48) #[] #[.pointer (some ⟨m,0,none⟩),.pointer (some ⟨k,0,none⟩),.pointer (some ⟨p,0,none⟩),.pointer (some ⟨q,0,none⟩)]],none⟩] [⟨bd,1,bh,3,1,az,bj⟩,⟨be,1,bi,3,1,ba,bk⟩,⟨bb,cK.2.2.1.length,bf,3,1,f9,0⟩,⟨bc,cK.2.2.2.length,bg,3,1,ga,0⟩] k4:=by rw [← sx]; exact si
     have qe:Kn _ _ ((tI 28 aC)::(Fp t_)) _:=qd.kp
     refine wf (Aa (Rk 0 2 ((tI 28 (IntKind.i64.wrap (aC+1)))::(Fp t_)) qe mp fun wr qg=>?_))
     refine wf ?_
     exact XY f6 ⟨Y4 _,XY cK.2.2.1 ⟨cK.2.2.2,IntKind.i64.wrap (aC+1),cK.2.1,bb,bf,f9,bc,bg,ga,_,_,rfl,qg.kp,mp,XU bp mg,o7,o8,an⟩⟩
    rw [Bb i8] at an
    refine wp_skip (Aa (Rk 0 2 ((tI 28 (IntKind.i64.wrap (aC+1)))::(Fp t_)) jm el fun ws qh=>?_))
    refine wf ?_
    exact XY f6 ⟨Y4 _,XY aB ⟨aA,IntKind.i64.wrap (aC+1),DL.mk false false false false false false false false false false false false,bb,bf,f7,bc,bg,f8,_,_,rfl,qh.kp,el,bp,i9,ja,an⟩⟩
   rw [i7,XV] at an
   refine wp_exit ?_
   obtain rfl:=XZ an
   exact XY bb ⟨bf,f7,bc,bg,f8,_,_,rfl,jl.kp,fx,bp,i9,ja⟩
  rintro _ k5 ⟨ap,ar,ch,aq,au,de,km,ff,rfl,qi,j0,js,jb,jc⟩
  refine XT (Aa (Rk 0 2 [tP 4 2 0] qi j0 fun wt qj=>?_))
  refine wf (wp_ret ?_)
  obtain⟨lo,fo,th,hy⟩:=j0.settle (i:=2) rfl
  replace jb:=jb.mono fo
  replace hy:Ai _ _ (FQ l k u m p q) [⟨NW t_ a f d g,some 36⟩,⟨K4 aH,none⟩,⟨P0 t_ a f d g ac cY ad ap s ar aq au,some 70⟩,⟨[.ptr 2 0],none⟩,⟨Rv s,some 67⟩,⟨K3 m k p q,none⟩] [⟨bd,1,bh,3,1,az,bj⟩,⟨be,1,bi,3,1,ba,bk⟩,⟨ap,s.1.length,ar,3,1,ch,_⟩,⟨aq,s.2.1.length,au,3,1,de,0⟩] _:=hy
  have kc:At lo ap ar s.1:=⟨_,jb,th,j0.rowCap (i:=2) rfl⟩
  obtain⟨lp,fp,ti,j1⟩:=hy.settle (i:=3) rfl
  replace jc:=jc.mono (XU fo fp)
  replace j1:Ai _ _ (FQ l k u m p q) [⟨NW t_ a f d g,some 36⟩,⟨K4 aH,none⟩,⟨P0 t_ a f d g ac cY ad ap s ar aq au,some 70⟩,⟨[.ptr 2 0],none⟩,⟨Rv s,some 67⟩,⟨K3 m k p q,none⟩] [⟨bd,1,bh,3,1,az,bj⟩,⟨be,1,bi,3,1,ba,bk⟩,⟨ap,s.1.length,ar,3,1,ch,_⟩,⟨aq,s.2.1.length,au,3,1,de,_⟩] _:=j1
  have kd:At lp aq au s.2.1:=⟨_,jc,ti,hy.rowCap (i:=3) rfl⟩
  obtain⟨g7,fq,l2,j2⟩:=j1.settlePlc (i:=2) rfl
  replace x:=x.mono (XU (XU (XU js fo) fp) fq)
  replace z:=z.mono (XU (XU (XU js fo) fp) fq)
  replace dd:=dd.mono (XU (XU (XU js fo) fp) fq)
  replace kc:=kc.mono (XU fp fq)
  replace kd:=kd.mono fq
  replace j2:Ai _ _ (FQ l k u m p q) [⟨NW t_ a f d g,some 36⟩,⟨K4 aH,none⟩,⟨P0 t_ a f d g ac cY ad ap s ar aq au,none⟩,⟨[.ptr 2 0],none⟩,⟨Rv s,some 67⟩,⟨K3 m k p q,none⟩] [⟨bd,1,bh,3,1,az,bj⟩,⟨be,1,bi,3,1,ba,bk⟩,⟨ap,s.1.length,ar,3,1,ch,_⟩,⟨aq,s.2.1.length,au,3,1,de,_⟩] _:=j2
  have o6:B9 g7 u ((BK.mk t_ cY s.1 s.2.1):BK):=B9.of (e:=(FQ l k u m p q)) (cs:=(P0 t_ a f d g ac cY ad ap s ar aq au)) ((Ab (Ab Ad (Ab Ad (Ab (Af x) (Af z)))) (Ab (Af dd) (Ab (Af kc) (Af kd)))):rep g7 ((BK.mk t_ cY s.1 s.2.1):BK) _) rfl l2
  have wd:As g7 u [.int .i64 t_.places,.int .i64 t_.layover,.slice a t_.empty.length f,.slice d t_.trips.length g,.slice ac cY.length ad,.slice ap s.1.length ar,.slice aq s.2.1.length au]:=As.of (e:=[(l,0),(k,0),(u,0),(m,0),(p,0),(q,0)]) (cs:=[.int .i64 t_.places,.int .i64 t_.layover,.slice a t_.empty.length f,.slice d t_.trips.length g,.slice ac cY.length ad,.slice ap s.1.length ar,.slice aq s.2.1.length au]) rfl l2
  obtain rfl:=XZ H
  exact rt (.one (.c (.ptr 2 0))) qj j2 ⟨_,rfl,o6⟩
 refine BT (fun W=>∀ (ct:Nat),∀ (gi:Yd),∀ (g0:Nat),∀ (gb:Ye),∀ (g5:Nat),∀ (gj:Yd),∀ (g1:Nat),∀ (gc:Ye),∀ (g6:Nat),∀ (bs:Yd),∀ (bw:Nat),∀ (gd:Ye),∀ (bt:Yd),∀ (bx:Nat),∀ (gf:Ye),∀ (b3:Yd),∀ (b6:Nat),∀ a' w',(∃ (ko:Array Value)(cf:Ac),a' = ⟨ko,[]⟩∧Kn 40 [(l,0),(k,0),(0,0),(ct,0)] [tP 5 3 0,tA 22 (Q5 t_ a f d g b3 cY b6 bs cT bw bt cR bx),tP 3 1 0,tP 2 0 0] ko∧Ai ⟨w,h,BF⟩ cf [(l,0),(k,0),(0,0),(ct,0)] (AT t_ a f d g aH) [⟨gi,1,g0,3,1,gb,g5⟩,⟨gj,1,g1,3,1,gc,g6⟩,⟨bs,cT.length,bw,3,1,gd,0⟩,⟨bt,cR.length,bx,3,1,gf,0⟩] w'∧Ac.le h cf∧Ae cf ([(-1)]:List Int) gb∧Ae cf ([(-1)]:List Int) gc∧Ae cf cT gd∧Ae cf cR gf∧At cf b3 b6 cY)→W [(l,0),(k,0),(0,0),(ct,0)] (AT t_ a f d g aH) [13,12,7,2,3,8,15,11,10,9,6,5,4,1,0] a' w') ?_ (fun n0=>?_)
 ·
  intro ct gi g0 gb g5 gj g1 gc g6 bs bw gd bt bx gf b3 b6
  rintro _ xe ⟨ko,cf,rfl,ql,sl,sa,o9,pa,pb,pc,s0⟩
  refine Dl 14 fun K hK=>?_
  refine XP 2 (.agg (Q5 t_ a f d g b3 cY b6 bs cT bw bt cR bx)) ql sl fun gn tv va (qm:Kn _ [(l,0),(k,0),(gn,0),(ct,0)] [tP 23 2 0,tP 5 3 0,tA 22 (Q5 t_ a f d g b3 cY b6 bs cT bw bt cR bx),tP 3 1 0,tP 2 0 0] _) (mq:Ai _ _ [(l,0),(k,0),(gn,0),(ct,0)] [⟨NW t_ a f d g,some 36⟩,⟨K4 aH,some 67⟩,⟨Q5 t_ a f d g b3 cY b6 bs cT bw bt cR bx,some 70⟩,⟨[.nilptr],some 64⟩] [⟨gi,1,g0,3,1,gb,g5⟩,⟨gj,1,g1,3,1,gc,g6⟩,⟨bs,cT.length,bw,3,1,gd,0⟩,⟨bt,cR.length,bx,3,1,gf,0⟩] _)=>hK _ _ (Ay.unset 2 rfl (by kernel_rfl) mq.plOk) (BZ (e':=[(l,0),(k,0),(gn,0),(ct,0)]) (pl':=[⟨NW t_ a f d g,some 36⟩,⟨K4 aH,some 67⟩,⟨Q5 t_ a f d g b3 cY b6 bs cT bw bt cR bx,some 70⟩,⟨[.nilptr],some 64⟩]) (fun _ hp=>hp.unset 2 rfl (by kernel_rfl)) ?_)
  refine AK [14,13,12,7,2,3,8,15,11,10,9,6,5,4,1,0] (by kernel_rfl) (by rfl) (n3 gn ct gi g0 gb g5 gj g1 gc g6 bs bw gd bt bx gf b3 b6 _ _ ?_)
  exact XY _ ⟨_,rfl,qm.kp,mq,sa,o9,pa,pb,pc,s0⟩
 refine BT (fun W=>∀ (cu:Nat),∀ (ew:Yd),∀ (e5:Nat),∀ (eo:Ye),∀ (fe:Nat),∀ (ca:Yd),∀ (cd:Nat),∀ (ci:Ye),∀ (ck:Yd),∀ (cz:Nat),∀ (ep:Ye),∀ (d9:Yd),∀ (ed:Nat),∀ a' w',(∃ (kq:Array Value)(dw:Ac),a' = ⟨kq,[]⟩∧Kn 40 [(l,0),(k,0),(0,0),(cu,0)] ((tP 5 3 0)::(tS 17 ca 1 cd)::(tS 16 ck cT.length cz)::(tS 11 d9 cY.length ed)::(Ld t_ a f d g)) kq∧Ai ⟨w,h,BF⟩ dw [(l,0),(k,0),(0,0),(cu,0)] (AT t_ a f d g aH) [⟨ew,1,e5,3,1,eo,fe⟩,⟨ca,1,cd,3,1,ci,0⟩,⟨ck,cT.length,cz,3,1,ep,0⟩] w'∧Ac.le h dw∧Ae dw ([(-1)]:List Int) eo∧Ae dw ([(-1)]:List Int) ci∧Ae dw cT ep∧At dw d9 ed cY)→W [(l,0),(k,0),(0,0),(cu,0)] (AT t_ a f d g aH) [7,2,3,8,15,11,10,9,6,5,4,1,0] a' w') ?_ (fun kh=>?_)
 ·
  intro cu ew e5 eo fe ca cd ci ck cz ep d9 ed
  rintro _ vb ⟨kq,dw,rfl,qo,mr,sb,jd,eh,je,ke⟩
  refine Dl 12 fun K hK=>?_
  obtain⟨lq,fr,tj,hz⟩:=mr.settle (i:=1) rfl
  replace eh:=eh.mono fr
  replace hz:Ai _ _ [(l,0),(k,0),(0,0),(cu,0)] (AT t_ a f d g aH) [⟨ew,1,e5,3,1,eo,fe⟩,⟨ca,1,cd,3,1,ci,_⟩,⟨ck,cT.length,cz,3,1,ep,0⟩] _:=hz
  have s1:At lq ca cd ([(-1)]:List Int):=⟨_,eh,tj,mr.rowCap (i:=1) rfl⟩
  refine ET [.c (Yb ca 1 cd),.c (XR ((t_.trips.length:Nat):Int))] _ qo hz rfl rfl (by decide) (by rfl) rfl (fun _ _=>by kernel_rfl) (Bv n hz.has ([(-1)]:List Int) s1 ((t_.trips.length:Nat):Int) iY) fun wy o2 vc we ol fs f0=>?_
  replace ke:=ke.mono (XU fr fs)
  replace jd:=jd.mono (XU fr fs)
  replace eh:=eh.mono fs
  replace je:=je.mono (XU fr fs)
  obtain⟨ex,e6,oe,rfl,rfl,pd⟩:=ol
  replace f0:Ai _ _ [(l,0),(k,0),(0,0),(cu,0)] (AT t_ a f d g aH) [⟨ew,1,e5,3,1,eo,fe⟩,⟨ca,1,cd,3,1,ci,_⟩,⟨ck,cT.length,cz,3,1,ep,0⟩,⟨ex,cR.length,e6,3,1,oe,0⟩] _:=f0
  refine⟨.one (.c (Yb ex cR.length e6)),rfl,fun tw (qp:Kn _ [(l,0),(k,0),(0,0),(cu,0)] ((tS 21 ex cR.length e6)::(tP 5 3 0)::(tS 17 ca 1 cd)::(tS 16 ck cT.length cz)::(tS 11 d9 cY.length ed)::(Ld t_ a f d g)) _)=>hK _ _ f0.plOk ?_⟩
  refine Dr [13] [13,12,7,2,3,8,15,11,10,9,6,5,4,1,0] [tA 22 [XR t_.places,XR t_.layover,Yb a t_.empty.length f,Yb d t_.trips.length g,Yb d9 cY.length ed,Yb ck cT.length cz,Yb ex cR.length e6],tP 5 3 0,tP 3 1 0,tP 2 0 0] qp f0 fun wu qq=>?_
  refine AK [13,12,7,2,3,8,15,11,10,9,6,5,4,1,0] (by kernel_rfl) (by rfl) (n0 cu ew e5 eo fe ca cd ci ((ci:Ye).length) ck cz ep ex e6 oe d9 ed _ _ ?_)
  exact XY _ ⟨_,rfl,qq.kp,f0,XU sb (XU fr fs),jd,eh,je,pd,ke⟩
 refine BT (fun W=>∀ (bu:Yd),∀ (bz:Nat),∀ (bq:Ye),∀ (b1:Nat),∀ (al:Yd),∀ (am:Nat),∀ (ai:Ye),∀ (aa:Yd),∀ (ab:Nat),∀ (br:Ye),∀ (ae:Yd),∀ (ag:Nat),∀ a' w',(∃ (kr:Array Value)(c5:Ac),a' = ⟨kr,[]⟩∧Kn 40 (Cm l k) ((tS 17 al 1 am)::(tS 16 aa cT.length ab)::(tS 11 ae cY.length ag)::(Ld t_ a f d g)) kr∧Ai ⟨w,h,BF⟩ c5 (Cm l k) (E3 t_ a f d g aH) [⟨bu,1,bz,3,1,bq,b1⟩,⟨al,1,am,3,1,ai,0⟩,⟨aa,cT.length,ab,3,1,br,0⟩] w'∧Ac.le h c5∧Ae c5 ([(-1)]:List Int) bq∧Ae c5 ([(-1)]:List Int) ai∧Ae c5 cT br∧At c5 ae ag cY)→W (Cm l k) (E3 t_ a f d g aH) [7,2,3,8,11,10,9,6,5,4,1,0] a' w') ?_ (fun n1=>?_)
 ·
  intro bu bz bq b1 al am ai aa ab br ae ag
  rintro _ vd ⟨kr,c5,rfl,l6,j3,ft,fj,db,fk,f5⟩
  refine Gn 12 15 rfl rfl (by kernel_rfl) (by decide) (rfl) (rfl) (fun K hK=>?_) (fun K hK=>?_)
  ·
   obtain⟨lr,ej,tk,h0⟩:=j3.settle (i:=1) rfl
   replace db:=db.mono ej
   replace h0:Ai _ _ (Cm l k) (E3 t_ a f d g aH) [⟨bu,1,bz,3,1,bq,b1⟩,⟨al,1,am,3,1,ai,_⟩,⟨aa,cT.length,ab,3,1,br,0⟩] _:=h0
   have s2:At lr al am ([(-1)]:List Int):=⟨_,db,tk,j3.rowCap (i:=1) rfl⟩
   refine ET [.c (Yb al 1 am),.c (XR ((t_.trips.length:Nat):Int))] _ l6 h0 rfl rfl (by decide) (by rfl) rfl (fun _ _=>by kernel_rfl) (Bv n h0.has ([(-1)]:List Int) s2 ((t_.trips.length:Nat):Int) iY) fun wz g8 ve wg om ek em=>?_
   replace f5:=f5.mono (XU ej ek)
   replace fj:=fj.mono (XU ej ek)
   replace db:=db.mono ek
   replace fk:=fk.mono (XU ej ek)
   obtain⟨af,ah,er,rfl,rfl,lz⟩:=om
   replace em:Ai _ _ (Cm l k) (E3 t_ a f d g aH) [⟨bu,1,bz,3,1,bq,b1⟩,⟨al,1,am,3,1,ai,_⟩,⟨aa,cT.length,ab,3,1,br,0⟩,⟨af,cR.length,ah,3,1,er,0⟩] _:=em
   refine⟨.one (.c (Yb af cR.length ah)),rfl,fun tx (qr:Kn _ (Cm l k) ((tS 21 af cR.length ah)::(tS 17 al 1 am)::(tS 16 aa cT.length ab)::(tS 11 ae cY.length ag)::(Ld t_ a f d g)) _)=>hK _ _ em.plOk ?_⟩
   refine Dr [13] [13,12,7,2,3,8,11,10,9,6,5,4,1,0] [tA 22 (Q5 t_ a f d g ae cY ag aa cT ab af cR ah),tP 3 1 0,tP 2 0 0] qr em fun wv l7=>?_
   refine Gn 14 15 rfl rfl (by kernel_rfl) (by decide) (rfl) (rfl) (fun K hK=>?_) (fun K hK=>?_)
   ·
    refine XP 2 (.agg (Q5 t_ a f d g ae cY ag aa cT ab af cR ah)) l7 em fun dn ty vf (qs:Kn _ [(l,0),(k,0),(dn,0),(0,0)] [tP 23 2 0,tA 22 (Q5 t_ a f d g ae cY ag aa cT ab af cR ah),tP 3 1 0,tP 2 0 0] _) (ms:Ai _ _ [(l,0),(k,0),(dn,0),(0,0)] [⟨NW t_ a f d g,some 36⟩,⟨K4 aH,some 67⟩,⟨Q5 t_ a f d g ae cY ag aa cT ab af cR ah,some 70⟩,⟨[],none⟩] [⟨bu,1,bz,3,1,bq,b1⟩,⟨al,1,am,3,1,ai,_⟩,⟨aa,cT.length,ab,3,1,br,0⟩,⟨af,cR.length,ah,3,1,er,0⟩] _)=>hK _ _ (Ay.unset 2 rfl (by kernel_rfl) ms.plOk) (BZ (e':=[(l,0),(k,0),(dn,0),(0,0)]) (pl':=[⟨NW t_ a f d g,some 36⟩,⟨K4 aH,some 67⟩,⟨Q5 t_ a f d g ae cY ag aa cT ab af cR ah,some 70⟩,⟨[],none⟩]) (fun _ hp=>hp.unset 2 rfl (by kernel_rfl)) ?_)
    refine Dl 15 fun K hK=>?_
    refine MO 3 [.nilptr] qs ms fun go tz vg (qt:Kn _ [(l,0),(k,0),(dn,0),(go,0)] [tP 5 3 0,tP 23 2 0,tA 22 (Q5 t_ a f d g ae cY ag aa cT ab af cR ah),tP 3 1 0,tP 2 0 0] _) (mt:Ai _ _ [(l,0),(k,0),(dn,0),(go,0)] [⟨NW t_ a f d g,some 36⟩,⟨K4 aH,some 67⟩,⟨Q5 t_ a f d g ae cY ag aa cT ab af cR ah,some 70⟩,⟨[.nilptr],some 64⟩] [⟨bu,1,bz,3,1,bq,b1⟩,⟨al,1,am,3,1,ai,_⟩,⟨aa,cT.length,ab,3,1,br,0⟩,⟨af,cR.length,ah,3,1,er,0⟩] _)=>hK _ _ (Ay.unset 3 rfl (by kernel_rfl) mt.plOk) (BZ (e':=[(l,0),(k,0),(dn,0),(go,0)]) (pl':=[⟨NW t_ a f d g,some 36⟩,⟨K4 aH,some 67⟩,⟨Q5 t_ a f d g ae cY ag aa cT ab af cR ah,some 70⟩,⟨[.nilptr],some 64⟩]) (fun _ hp=>hp.unset 3 rfl (by kernel_rfl)) ?_)
    refine AK [14,13,12,7,2,3,8,15,11,10,9,6,5,4,1,0] (by kernel_rfl) (by rfl) (n3 dn go bu bz bq b1 al am ai ((ai:Ye).length) aa ab br af ah er ae ag _ _ ?_)
    exact XY _ ⟨_,rfl,qt.kp,mt,XU ft (XU ej ek),fj,db,fk,lz,f5⟩
   refine MO 3 [.nilptr] l7 em fun gp t0 vh (qu:Kn _ [(l,0),(k,0),(0,0),(gp,0)] [tP 5 3 0,tA 22 (Q5 t_ a f d g ae cY ag aa cT ab af cR ah),tP 3 1 0,tP 2 0 0] _) (mu:Ai _ _ [(l,0),(k,0),(0,0),(gp,0)] (AT t_ a f d g aH) [⟨bu,1,bz,3,1,bq,b1⟩,⟨al,1,am,3,1,ai,_⟩,⟨aa,cT.length,ab,3,1,br,0⟩,⟨af,cR.length,ah,3,1,er,0⟩] _)=>hK _ _ (Ay.unset 3 rfl (by kernel_rfl) mu.plOk) (BZ (e':=[(l,0),(k,0),(0,0),(gp,0)]) (pl':=(AT t_ a f d g aH)) (fun _ hp=>hp.unset 3 rfl (by kernel_rfl)) ?_)
   refine AK [13,12,7,2,3,8,15,11,10,9,6,5,4,1,0] (by kernel_rfl) (by rfl) (n0 gp bu bz bq b1 al am ai ((ai:Ye).length) aa ab br af ah er ae ag _ _ ?_)
   exact XY _ ⟨_,rfl,qu.kp,mu,XU ft (XU ej ek),fj,db,fk,lz,f5⟩
  refine MO 3 [.nilptr] l6 j3 fun gq t1 vi (qv:Kn _ [(l,0),(k,0),(0,0),(gq,0)] ((tP 5 3 0)::(tS 17 al 1 am)::(tS 16 aa cT.length ab)::(tS 11 ae cY.length ag)::(Ld t_ a f d g)) _) (mv:Ai _ _ [(l,0),(k,0),(0,0),(gq,0)] (AT t_ a f d g aH) [⟨bu,1,bz,3,1,bq,b1⟩,⟨al,1,am,3,1,ai,0⟩,⟨aa,cT.length,ab,3,1,br,0⟩] _)=>hK _ _ (Ay.unset 3 rfl (by kernel_rfl) mv.plOk) (BZ (e':=[(l,0),(k,0),(0,0),(gq,0)]) (pl':=(AT t_ a f d g aH)) (fun _ hp=>hp.unset 3 rfl (by kernel_rfl)) ?_)
  refine AK [7,2,3,8,15,11,10,9,6,5,4,1,0] (by kernel_rfl) (by rfl) (kh gq bu bz bq b1 al am ai aa ab br ae ag _ _ ?_)
  exact XY _ ⟨_,rfl,qv.kp,mv,ft,fj,db,fk,f5⟩
 refine BT (fun W=>∀ (ea:Nat),∀ (im:Yd),∀ (ix:Nat),∀ (ig:Ye),∀ (i5:Nat),∀ (ey:Yd),∀ (e7:Nat),∀ (ih:Ye),∀ (ez:Yd),∀ (e8:Nat),∀ a' w',(∃ (ks:Array Value)(c6:Ac),a' = ⟨ks,[]⟩∧Kn 40 [(l,0),(k,0),(0,0),(ea,0)] ((tP 5 3 0)::(tS 16 ey cT.length e7)::(tS 11 ez cY.length e8)::(Ld t_ a f d g)) ks∧Ai ⟨w,h,BF⟩ c6 [(l,0),(k,0),(0,0),(ea,0)] (AT t_ a f d g aH) [⟨im,1,ix,3,1,ig,i5⟩,⟨none,0,0,3,1,[],0⟩,⟨ey,cT.length,e7,3,1,ih,0⟩] w'∧Ac.le h c6∧Ae c6 ([(-1)]:List Int) ig∧Ae c6 cT ih∧At c6 ez e8 cY)→W [(l,0),(k,0),(0,0),(ea,0)] (AT t_ a f d g aH) [7,2,3,15,11,10,9,6,5,4,1,0] a' w') ?_ (fun n2=>?_)
 ·
  intro ea im ix ig i5 ey e7 ih ez e8
  rintro _ xf ⟨ks,c6,rfl,qw,sn,sc,pe,pf,s3⟩
  refine Dl 8 fun K hK=>?_
  refine AC 1 rfl rfl 3 1 [XR (-1)] qw sn rfl rfl (by decide) (by kernel_rfl) (by rfl) (by rfl) rfl (by decide) fun k6 t2 xg (qx:Kn _ [(l,0),(k,0),(0,0),(ea,0)] ((tS 17 k6 1 1)::(tP 5 3 0)::(tS 16 ey cT.length e7)::(tS 11 ez cY.length e8)::(Ld t_ a f d g)) _) mw=>?_
  have pg:Ae c6 ([(-1)]:List Int) ([.int .i64 (-1)]:Ye):=⟨_,_,rfl,(Ad:rep c6 ((-1):Int) _),rfl⟩
  refine hK _ _ mw.plOk ?_
  refine AK [7,2,3,8,15,11,10,9,6,5,4,1,0] (by kernel_rfl) (by rfl) (kh ea im ix ig i5 k6 1 ([.int .i64 (-1)]:Ye) ey e7 ih ez e8 _ _ ?_)
  exact XY _ ⟨_,rfl,qx.kp,mw,sc,pe,pg,pf,s3⟩
 refine BT (fun W=>∀ (cv:Nat),∀ (cb:Yd),∀ (ce:Nat),∀ (cj:Ye),∀ (dg:Yd),∀ (dp:Nat),∀ (es:Ye),∀ (e0:Yd),∀ (e9:Nat),∀ a' w',(∃ (kt:Array Value)(ee:Ac),a' = ⟨kt,[]⟩∧Kn 40 [(l,0),(k,0),(0,0),(cv,0)] ((tP 5 3 0)::(tS 17 dg 1 dp)::(tS 12 cb 1 ce)::(tS 11 e0 cY.length e9)::(Db t_ a f d g)) kt∧Ai ⟨w,h,BF⟩ ee [(l,0),(k,0),(0,0),(cv,0)] (AT t_ a f d g aH) [⟨cb,1,ce,3,1,cj,0⟩,⟨dg,1,dp,3,1,es,0⟩] w'∧Ac.le h ee∧Ae ee ([(-1)]:List Int) cj∧Ae ee ([(-1)]:List Int) es∧At ee e0 e9 cY)→W [(l,0),(k,0),(0,0),(cv,0)] (AT t_ a f d g aH) [2,3,8,15,11,10,9,6,5,4,1,0] a' w') ?_ (fun ic=>?_)
 ·
  intro cv cb ce cj dg dp es e0 e9
  rintro _ vj ⟨kt,ee,rfl,qy,mx,sd,ei,jf,kf⟩
  refine Dl 7 fun K hK=>?_
  obtain⟨ls,hq,tl,h1⟩:=mx.settle (i:=0) rfl
  replace ei:=ei.mono hq
  replace h1:Ai _ _ [(l,0),(k,0),(0,0),(cv,0)] (AT t_ a f d g aH) [⟨cb,1,ce,3,1,cj,_⟩,⟨dg,1,dp,3,1,es,0⟩] _:=h1
  have s4:At ls cb ce ([(-1)]:List Int):=⟨_,ei,tl,mx.rowCap (i:=0) rfl⟩
  refine ET [.c (Yb cb 1 ce),.c (XR ((t_.trips.length:Nat):Int))] _ qy h1 rfl rfl (by decide) (by rfl) rfl (fun _ _=>by kernel_rfl) (Bv n h1.has ([(-1)]:List Int) s4 ((t_.trips.length:Nat):Int) fT) fun w0 o3 vk wh oo hr h2=>?_
  replace kf:=kf.mono (XU hq hr)
  replace ei:=ei.mono hr
  replace jf:=jf.mono (XU hq hr)
  obtain⟨gk,g2,og,rfl,rfl,ph⟩:=oo
  replace h2:Ai _ _ [(l,0),(k,0),(0,0),(cv,0)] (AT t_ a f d g aH) [⟨cb,1,ce,3,1,cj,_⟩,⟨dg,1,dp,3,1,es,0⟩,⟨gk,cT.length,g2,3,1,og,0⟩] _:=h2
  refine⟨.one (.c (Yb gk cT.length g2)),rfl,fun t3 (qz:Kn _ [(l,0),(k,0),(0,0),(cv,0)] ((tS 16 gk cT.length g2)::(tP 5 3 0)::(tS 17 dg 1 dp)::(tS 12 cb 1 ce)::(tS 11 e0 cY.length e9)::(Db t_ a f d g)) _)=>hK _ _ h2.plOk ?_⟩
  refine AK [7,2,3,8,15,11,10,9,6,5,4,1,0] (by kernel_rfl) (by rfl) (kh cv cb ce cj ((cj:Ye).length) dg dp es gk g2 og e0 e9 _ _ ?_)
  exact XY _ ⟨_,rfl,qz.kp,h2,XU sd (XU hq hr),ei,jf,ph,kf⟩
 refine BT (fun W=>∀ (bl:Yd),∀ (bn:Nat),∀ (b2:Ye),∀ (b4:Yd),∀ (b7:Nat),∀ (df:Ye),∀ (dh:Yd),∀ (dq:Nat),∀ a' w',(∃ (ku:Array Value)(dx:Ac),a' = ⟨ku,[]⟩∧Kn 40 (Cm l k) ((tS 17 b4 1 b7)::(tS 12 bl 1 bn)::(tS 11 dh cY.length dq)::(Db t_ a f d g)) ku∧Ai ⟨w,h,BF⟩ dx (Cm l k) (E3 t_ a f d g aH) [⟨bl,1,bn,3,1,b2,0⟩,⟨b4,1,b7,3,1,df,0⟩] w'∧Ac.le h dx∧Ae dx ([(-1)]:List Int) b2∧Ae dx ([(-1)]:List Int) df∧At dx dh dq cY)→W (Cm l k) (E3 t_ a f d g aH) [2,3,8,11,10,9,6,5,4,1,0] a' w') ?_ (fun ki=>?_)
 ·
  intro bl bn b2 b4 b7 df dh dq
  rintro _ vl ⟨ku,dx,rfl,l8,j4,hs,d3,he,ia⟩
  refine Gn 7 15 rfl rfl (by kernel_rfl) (by decide) (rfl) (rfl) (fun K hK=>?_) (fun K hK=>?_)
  ·
   obtain⟨lu,ht,tm,h3⟩:=j4.settle (i:=0) rfl
   replace d3:=d3.mono ht
   replace h3:Ai _ _ (Cm l k) (E3 t_ a f d g aH) [⟨bl,1,bn,3,1,b2,_⟩,⟨b4,1,b7,3,1,df,0⟩] _:=h3
   have s5:At lu bl bn ([(-1)]:List Int):=⟨_,d3,tm,j4.rowCap (i:=0) rfl⟩
   refine ET [.c (Yb bl 1 bn),.c (XR ((t_.trips.length:Nat):Int))] _ l8 h3 rfl rfl (by decide) (by rfl) rfl (fun _ _=>by kernel_rfl) (Bv n h3.has ([(-1)]:List Int) s5 ((t_.trips.length:Nat):Int) fT) fun w1 o4 vm wi op hu h4=>?_
   replace ia:=ia.mono (XU ht hu)
   replace d3:=d3.mono hu
   replace he:=he.mono (XU ht hu)
   obtain⟨gl,g3,oh,rfl,rfl,pi⟩:=op
   replace h4:Ai _ _ (Cm l k) (E3 t_ a f d g aH) [⟨bl,1,bn,3,1,b2,_⟩,⟨b4,1,b7,3,1,df,0⟩,⟨gl,cT.length,g3,3,1,oh,0⟩] _:=h4
   refine⟨.one (.c (Yb gl cT.length g3)),rfl,fun t4 (q0:Kn _ (Cm l k) ((tS 16 gl cT.length g3)::(tS 17 b4 1 b7)::(tS 12 bl 1 bn)::(tS 11 dh cY.length dq)::(Db t_ a f d g)) _)=>hK _ _ h4.plOk ?_⟩
   refine AK [7,2,3,8,11,10,9,6,5,4,1,0] (by kernel_rfl) (by rfl) (n1 bl bn b2 ((b2:Ye).length) b4 b7 df gl g3 oh dh dq _ _ ?_)
   exact XY _ ⟨_,rfl,q0.kp,h4,XU hs (XU ht hu),d3,he,pi,ia⟩
  refine MO 3 [.nilptr] l8 j4 fun gr t5 vn (q1:Kn _ [(l,0),(k,0),(0,0),(gr,0)] ((tP 5 3 0)::(tS 17 b4 1 b7)::(tS 12 bl 1 bn)::(tS 11 dh cY.length dq)::(Db t_ a f d g)) _) (my:Ai _ _ [(l,0),(k,0),(0,0),(gr,0)] (AT t_ a f d g aH) [⟨bl,1,bn,3,1,b2,0⟩,⟨b4,1,b7,3,1,df,0⟩] _)=>hK _ _ (Ay.unset 3 rfl (by kernel_rfl) my.plOk) (BZ (e':=[(l,0),(k,0),(0,0),(gr,0)]) (pl':=(AT t_ a f d g aH)) (fun _ hp=>hp.unset 3 rfl (by kernel_rfl)) ?_)
  refine AK [2,3,8,15,11,10,9,6,5,4,1,0] (by kernel_rfl) (by rfl) (ic gr bl bn b2 b4 b7 df dh dq _ _ ?_)
  exact XY _ ⟨_,rfl,q1.kp,my,hs,d3,he,ia⟩
 refine BT (fun W=>∀ (b5:Nat),∀ (bv:Yd),∀ (b0:Nat),∀ (b9:Ye),∀ (di:Yd),∀ (dr:Nat),∀ a' w',(∃ (kv:Array Value)(dy:Ac),a' = ⟨kv,[]⟩∧Kn 40 [(l,0),(k,0),(0,0),(b5,0)] ((tP 5 3 0)::(tS 12 bv 1 b0)::(tS 11 di cY.length dr)::(Db t_ a f d g)) kv∧Ai ⟨w,h,BF⟩ dy [(l,0),(k,0),(0,0),(b5,0)] (AT t_ a f d g aH) [⟨bv,1,b0,3,1,b9,0⟩,⟨none,0,0,3,1,[],0⟩] w'∧Ac.le h dy∧Ae dy ([(-1)]:List Int) b9∧At dy di dr cY)→W [(l,0),(k,0),(0,0),(b5,0)] (AT t_ a f d g aH) [2,3,15,11,10,9,6,5,4,1,0] a' w') ?_ (fun kj=>?_)
 ·
  intro b5 bv b0 b9 di dr
  rintro _ vo ⟨kv,dy,rfl,l9,j5,fu,d4,ib⟩
  refine Gn 7 8 rfl rfl (by kernel_rfl) (by decide) (rfl) (rfl) (fun K hK=>?_) (fun K hK=>?_)
  ·
   obtain⟨lv,jt,tn,h5⟩:=j5.settle (i:=0) rfl
   replace d4:=d4.mono jt
   replace h5:Ai _ _ [(l,0),(k,0),(0,0),(b5,0)] (AT t_ a f d g aH) [⟨bv,1,b0,3,1,b9,_⟩,⟨none,0,0,3,1,[],0⟩] _:=h5
   have s6:At lv bv b0 ([(-1)]:List Int):=⟨_,d4,tn,j5.rowCap (i:=0) rfl⟩
   refine ET [.c (Yb bv 1 b0),.c (XR ((t_.trips.length:Nat):Int))] _ l9 h5 rfl rfl (by decide) (by rfl) rfl (fun _ _=>by kernel_rfl) (Bv n h5.has ([(-1)]:List Int) s6 ((t_.trips.length:Nat):Int) fT) fun w2 o5 vp wj oq ju h6=>?_
   replace ib:=ib.mono (XU jt ju)
   replace d4:=d4.mono ju
   obtain⟨gm,g4,oi,rfl,rfl,pj⟩:=oq
   replace h6:Ai _ _ [(l,0),(k,0),(0,0),(b5,0)] (AT t_ a f d g aH) [⟨bv,1,b0,3,1,b9,_⟩,⟨none,0,0,3,1,[],0⟩,⟨gm,cT.length,g4,3,1,oi,0⟩] _:=h6
   refine⟨.one (.c (Yb gm cT.length g4)),rfl,fun t6 (q2:Kn _ [(l,0),(k,0),(0,0),(b5,0)] ((tS 16 gm cT.length g4)::(tP 5 3 0)::(tS 12 bv 1 b0)::(tS 11 di cY.length dr)::(Db t_ a f d g)) _)=>hK _ _ h6.plOk ?_⟩
   refine AK [7,2,3,15,11,10,9,6,5,4,1,0] (by kernel_rfl) (by rfl) (n2 b5 bv b0 b9 ((b9:Ye).length) gm g4 oi di dr _ _ ?_)
   exact XY _ ⟨_,rfl,q2.kp,h6,XU fu (XU jt ju),d4,pj,ib⟩
  refine AC 1 rfl rfl 3 1 [XR (-1)] l9 j5 rfl rfl (by decide) (by kernel_rfl) (by rfl) (by rfl) rfl (by decide) fun k7 t7 xh (q3:Kn _ [(l,0),(k,0),(0,0),(b5,0)] ((tS 17 k7 1 1)::(tP 5 3 0)::(tS 12 bv 1 b0)::(tS 11 di cY.length dr)::(Db t_ a f d g)) _) mz=>?_
  have pk:Ae dy ([(-1)]:List Int) ([.int .i64 (-1)]:Ye):=⟨_,_,rfl,(Ad:rep dy ((-1):Int) _),rfl⟩
  refine hK _ _ mz.plOk ?_
  refine AK [2,3,8,15,11,10,9,6,5,4,1,0] (by kernel_rfl) (by rfl) (ic b5 bv b0 b9 k7 1 ([.int .i64 (-1)]:Ye) di dr _ _ ?_)
  exact XY _ ⟨_,rfl,q3.kp,mz,fu,d4,pk,ib⟩
 refine BT (fun W=>∀ (eb:Nat),∀ (e1:Yd),∀ (fa:Nat),∀ (ii:Ye),∀ (e2:Yd),∀ (fb:Nat),∀ a' w',(∃ (kw:Array Value)(dz:Ac),a' = ⟨kw,[]⟩∧Kn 40 [(l,0),(k,0),(0,0),(eb,0)] ((tP 5 3 0)::(tS 17 e1 1 fa)::(tS 11 e2 cY.length fb)::(Db t_ a f d g)) kw∧Ai ⟨w,h,BF⟩ dz [(l,0),(k,0),(0,0),(eb,0)] (AT t_ a f d g aH) [⟨none,0,0,3,1,[],0⟩,⟨e1,1,fa,3,1,ii,0⟩] w'∧Ac.le h dz∧Ae dz ([(-1)]:List Int) ii∧At dz e2 fb cY)→W [(l,0),(k,0),(0,0),(eb,0)] (AT t_ a f d g aH) [2,8,15,11,10,9,6,5,4,1,0] a' w') ?_ (fun kk=>?_)
 ·
  intro eb e1 fa ii e2 fb
  rintro _ xi ⟨kw,dz,rfl,q4,sp,se,pl,s7⟩
  refine Dl 3 fun K hK=>?_
  refine AC 0 rfl rfl 3 1 [XR (-1)] q4 sp rfl rfl (by decide) (by kernel_rfl) (by rfl) (by rfl) rfl (by decide) fun k8 t8 xj (q5:Kn _ [(l,0),(k,0),(0,0),(eb,0)] ((tS 12 k8 1 1)::(tP 5 3 0)::(tS 17 e1 1 fa)::(tS 11 e2 cY.length fb)::(Db t_ a f d g)) _) m0=>?_
  have pm:Ae dz ([(-1)]:List Int) ([.int .i64 (-1)]:Ye):=⟨_,_,rfl,(Ad:rep dz ((-1):Int) _),rfl⟩
  refine hK _ _ m0.plOk ?_
  refine AK [2,3,8,15,11,10,9,6,5,4,1,0] (by kernel_rfl) (by rfl) (ic eb k8 1 ([.int .i64 (-1)]:Ye) e1 fa ii e2 fb _ _ ?_)
  exact XY _ ⟨_,rfl,q5.kp,m0,se,pm,pl,s7⟩
 refine BT (fun W=>∀ (ec:Nat),∀ (e3:Yd),∀ (fc:Nat),∀ (ij:Ye),∀ (e4:Yd),∀ (fd:Nat),∀ (ik:Ye),∀ a' w',(∃ (kx:Array Value)(ef:Ac),a' = ⟨kx,[]⟩∧Kn 40 [(l,0),(k,0),(0,0),(ec,0)] ((tP 5 3 0)::(tS 17 e4 1 fd)::(tS 12 e3 1 fc)::(Cd t_ a f d g)) kx∧Ai ⟨w,h,BF⟩ ef [(l,0),(k,0),(0,0),(ec,0)] (AT t_ a f d g aH) [⟨e3,1,fc,3,1,ij,0⟩,⟨e4,1,fd,3,1,ik,0⟩] w'∧Ac.le h ef∧Ae ef ([(-1)]:List Int) ij∧Ae ef ([(-1)]:List Int) ik)→W [(l,0),(k,0),(0,0),(ec,0)] (AT t_ a f d g aH) [3,8,15,11,10,9,6,5,4,1,0] a' w') ?_ (fun kl=>?_)
 ·
  intro ec e3 fc ij e4 fd ik
  rintro _ xk ⟨kx,ef,rfl,q6,m1,jv,ji,jj⟩
  replace x:=x.mono jv
  replace z:=z.mono jv
  refine Dl 2 fun K hK=>?_
  refine wc [.agg (NW t_ a f d g)] q6 m1 (Bt n m1.has t_ ((Ab Ad (Ab Ad (Ab (Af x) (Af z)))):rep ef t_ _) gR) fun w3 v3 xl os jw m2=>?_
  replace ji:=ji.mono jw
  replace jj:=jj.mono jw
  obtain⟨io,iy,rfl,s8⟩:=os
  refine⟨.one (.c (Yb io cY.length iy)),rfl,fun t9 (q7:Kn _ [(l,0),(k,0),(0,0),(ec,0)] ((tS 11 io cY.length iy)::(tP 5 3 0)::(tS 17 e4 1 fd)::(tS 12 e3 1 fc)::(Cd t_ a f d g)) _)=>hK _ _ m2.plOk ?_⟩
  refine AK [2,3,8,15,11,10,9,6,5,4,1,0] (by kernel_rfl) (by rfl) (ic ec e3 fc ij e4 fd ik io iy _ _ ?_)
  exact XY _ ⟨_,rfl,q7.kp,m2,XU jv jw,ji,jj,s8⟩
 refine BT (fun W=>∀ (aj:Yd),∀ (ak:Nat),∀ (ao:Ye),∀ (bm:Yd),∀ (bo:Nat),∀ a' w',(∃ (ky:Array Value)(c8:Ac),a' = ⟨ky,[]⟩∧Kn 40 (Cm l k) ((tS 12 aj 1 ak)::(tS 11 bm cY.length bo)::(Db t_ a f d g)) ky∧Ai ⟨w,h,BF⟩ c8 (Cm l k) (E3 t_ a f d g aH) [⟨aj,1,ak,3,1,ao,0⟩,⟨none,0,0,3,1,[],0⟩] w'∧Ac.le h c8∧Ae c8 ([(-1)]:List Int) ao∧At c8 bm bo cY)→W (Cm l k) (E3 t_ a f d g aH) [2,3,11,10,9,6,5,4,1,0] a' w') ?_ (fun n4=>?_)
 ·
  intro aj ak ao bm bo
  rintro _ vq ⟨ky,c8,rfl,jn,h7,d5,cg,en⟩
  refine LP 7 8 15 rfl rfl rfl (by kernel_rfl) (by decide) (rfl) (rfl) (rfl) (fun K hK=>?_) (fun K hK=>?_) (fun K hK=>?_)
  ·
   obtain⟨lw,hv,tp,h8⟩:=h7.settle (i:=0) rfl
   replace cg:=cg.mono hv
   replace h8:Ai _ _ (Cm l k) (E3 t_ a f d g aH) [⟨aj,1,ak,3,1,ao,_⟩,⟨none,0,0,3,1,[],0⟩] _:=h8
   have s9:At lw aj ak ([(-1)]:List Int):=⟨_,cg,tp,h7.rowCap (i:=0) rfl⟩
   refine ET [.c (Yb aj 1 ak),.c (XR ((t_.trips.length:Nat):Int))] _ jn h8 rfl rfl (by decide) (by rfl) rfl (fun _ _=>by kernel_rfl) (Bv n h8.has ([(-1)]:List Int) s9 ((t_.trips.length:Nat):Int) fT) fun w4 g9 vr wk ot hw f1=>?_
   replace en:=en.mono (XU hv hw)
   replace cg:=cg.mono hw
   obtain⟨cl,c0,il,rfl,rfl,l0⟩:=ot
   replace f1:Ai _ _ (Cm l k) (E3 t_ a f d g aH) [⟨aj,1,ak,3,1,ao,_⟩,⟨none,0,0,3,1,[],0⟩,⟨cl,cT.length,c0,3,1,il,0⟩] _:=f1
   refine⟨.one (.c (Yb cl cT.length c0)),rfl,fun ua (ma:Kn _ (Cm l k) ((tS 16 cl cT.length c0)::(tS 12 aj 1 ak)::(tS 11 bm cY.length bo)::(Db t_ a f d g)) _)=>hK _ _ f1.plOk ?_⟩
   refine Gn 8 15 rfl rfl (by kernel_rfl) (by decide) (rfl) (rfl) (fun K hK=>?_) (fun K hK=>?_)
   ·
    refine AC 1 rfl rfl 3 1 [XR (-1)] ma f1 rfl rfl (by decide) (by kernel_rfl) (by rfl) (by rfl) rfl (by decide) fun k9 ub xn (q9:Kn _ (Cm l k) ((tS 17 k9 1 1)::(tS 16 cl cT.length c0)::(tS 12 aj 1 ak)::(tS 11 bm cY.length bo)::(Db t_ a f d g)) _) m3=>?_
    have pn:Ae g9 ([(-1)]:List Int) ([.int .i64 (-1)]:Ye):=⟨_,_,rfl,(Ad:rep g9 ((-1):Int) _),rfl⟩
    refine hK _ _ m3.plOk ?_
    refine AK [7,2,3,8,11,10,9,6,5,4,1,0] (by kernel_rfl) (by rfl) (n1 aj ak ao ((ao:Ye).length) k9 1 ([.int .i64 (-1)]:Ye) cl c0 il bm bo _ _ ?_)
    exact XY _ ⟨_,rfl,q9.kp,m3,XU d5 (XU hv hw),cg,pn,l0,en⟩
   refine MO 3 [.nilptr] ma f1 fun gs uc vs (ra:Kn _ [(l,0),(k,0),(0,0),(gs,0)] ((tP 5 3 0)::(tS 16 cl cT.length c0)::(tS 12 aj 1 ak)::(tS 11 bm cY.length bo)::(Db t_ a f d g)) _) (m4:Ai _ _ [(l,0),(k,0),(0,0),(gs,0)] (AT t_ a f d g aH) [⟨aj,1,ak,3,1,ao,_⟩,⟨none,0,0,3,1,[],0⟩,⟨cl,cT.length,c0,3,1,il,0⟩] _)=>hK _ _ (Ay.unset 3 rfl (by kernel_rfl) m4.plOk) (BZ (e':=[(l,0),(k,0),(0,0),(gs,0)]) (pl':=(AT t_ a f d g aH)) (fun _ hp=>hp.unset 3 rfl (by kernel_rfl)) ?_)
   refine AK [7,2,3,15,11,10,9,6,5,4,1,0] (by kernel_rfl) (by rfl) (n2 gs aj ak ao ((ao:Ye).length) cl c0 il bm bo _ _ ?_)
   exact XY _ ⟨_,rfl,ra.kp,m4,XU d5 (XU hv hw),cg,l0,en⟩
  ·
   refine AC 1 rfl rfl 3 1 [XR (-1)] jn h7 rfl rfl (by decide) (by kernel_rfl) (by rfl) (by rfl) rfl (by decide) fun la ud xo (rb:Kn _ (Cm l k) ((tS 17 la 1 1)::(tS 12 aj 1 ak)::(tS 11 bm cY.length bo)::(Db t_ a f d g)) _) m5=>?_
   have po:Ae c8 ([(-1)]:List Int) ([.int .i64 (-1)]:Ye):=⟨_,_,rfl,(Ad:rep c8 ((-1):Int) _),rfl⟩
   refine hK _ _ m5.plOk ?_
   refine AK [2,3,8,11,10,9,6,5,4,1,0] (by kernel_rfl) (by rfl) (ki aj ak ao la 1 ([.int .i64 (-1)]:Ye) bm bo _ _ ?_)
   exact XY _ ⟨_,rfl,rb.kp,m5,d5,cg,po,en⟩
  refine MO 3 [.nilptr] jn h7 fun gu ue vt (rc:Kn _ [(l,0),(k,0),(0,0),(gu,0)] ((tP 5 3 0)::(tS 12 aj 1 ak)::(tS 11 bm cY.length bo)::(Db t_ a f d g)) _) (m6:Ai _ _ [(l,0),(k,0),(0,0),(gu,0)] (AT t_ a f d g aH) [⟨aj,1,ak,3,1,ao,0⟩,⟨none,0,0,3,1,[],0⟩] _)=>hK _ _ (Ay.unset 3 rfl (by kernel_rfl) m6.plOk) (BZ (e':=[(l,0),(k,0),(0,0),(gu,0)]) (pl':=(AT t_ a f d g aH)) (fun _ hp=>hp.unset 3 rfl (by kernel_rfl)) ?_)
  refine AK [2,3,15,11,10,9,6,5,4,1,0] (by kernel_rfl) (by rfl) (kj gu aj ak ao bm bo _ _ ?_)
  exact XY _ ⟨_,rfl,rc.kp,m6,d5,cg,en⟩
 refine BT (fun W=>∀ (cm:Yd),∀ (c1:Nat),∀ (et:Ye),∀ (dj:Yd),∀ (ds:Nat),∀ a' w',(∃ (kz:Array Value)(c9:Ac),a' = ⟨kz,[]⟩∧Kn 40 (Cm l k) ((tS 17 cm 1 c1)::(tS 11 dj cY.length ds)::(Db t_ a f d g)) kz∧Ai ⟨w,h,BF⟩ c9 (Cm l k) (E3 t_ a f d g aH) [⟨none,0,0,3,1,[],0⟩,⟨cm,1,c1,3,1,et,0⟩] w'∧Ac.le h c9∧Ae c9 ([(-1)]:List Int) et∧At c9 dj ds cY)→W (Cm l k) (E3 t_ a f d g aH) [2,8,11,10,9,6,5,4,1,0] a' w') ?_ (fun n5=>?_)
 ·
  intro cm c1 et dj ds
  rintro _ xq ⟨kz,c9,rfl,mb,m7,mi,l1,ny⟩
  refine Gn 3 15 rfl rfl (by kernel_rfl) (by decide) (rfl) (rfl) (fun K hK=>?_) (fun K hK=>?_)
  ·
   refine AC 0 rfl rfl 3 1 [XR (-1)] mb m7 rfl rfl (by decide) (by kernel_rfl) (by rfl) (by rfl) rfl (by decide) fun lb uf xr (re:Kn _ (Cm l k) ((tS 12 lb 1 1)::(tS 17 cm 1 c1)::(tS 11 dj cY.length ds)::(Db t_ a f d g)) _) m8=>?_
   have pp:Ae c9 ([(-1)]:List Int) ([.int .i64 (-1)]:Ye):=⟨_,_,rfl,(Ad:rep c9 ((-1):Int) _),rfl⟩
   refine hK _ _ m8.plOk ?_
   refine AK [2,3,8,11,10,9,6,5,4,1,0] (by kernel_rfl) (by rfl) (ki lb 1 ([.int .i64 (-1)]:Ye) cm c1 et dj ds _ _ ?_)
   exact XY _ ⟨_,rfl,re.kp,m8,mi,pp,l1,ny⟩
  refine MO 3 [.nilptr] mb m7 fun gv ug vu (rf:Kn _ [(l,0),(k,0),(0,0),(gv,0)] ((tP 5 3 0)::(tS 17 cm 1 c1)::(tS 11 dj cY.length ds)::(Db t_ a f d g)) _) (m9:Ai _ _ [(l,0),(k,0),(0,0),(gv,0)] (AT t_ a f d g aH) [⟨none,0,0,3,1,[],0⟩,⟨cm,1,c1,3,1,et,0⟩] _)=>hK _ _ (Ay.unset 3 rfl (by kernel_rfl) m9.plOk) (BZ (e':=[(l,0),(k,0),(0,0),(gv,0)]) (pl':=(AT t_ a f d g aH)) (fun _ hp=>hp.unset 3 rfl (by kernel_rfl)) ?_)
  refine AK [2,8,15,11,10,9,6,5,4,1,0] (by kernel_rfl) (by rfl) (kk gv cm c1 et dj ds _ _ ?_)
  exact XY _ ⟨_,rfl,rf.kp,m9,mi,l1,ny⟩
 refine BT (fun W=>∀ (cw:Nat),∀ (dk:Yd),∀ (dt:Nat),∀ a' w',(∃ (k0:Array Value)(da:Ac),a' = ⟨k0,[]⟩∧Kn 40 [(l,0),(k,0),(0,0),(cw,0)] ((tP 5 3 0)::(tS 11 dk cY.length dt)::(Db t_ a f d g)) k0∧Ai ⟨w,h,BF⟩ da [(l,0),(k,0),(0,0),(cw,0)] (AT t_ a f d g aH) Rw w'∧Ac.le h da∧At da dk dt cY)→W [(l,0),(k,0),(0,0),(cw,0)] (AT t_ a f d g aH) [2,15,11,10,9,6,5,4,1,0] a' w') ?_ (fun n6=>?_)
 ·
  intro cw dk dt
  rintro _ xs ⟨k0,da,rfl,mc,na,mj,nz⟩
  refine Gn 3 8 rfl rfl (by kernel_rfl) (by decide) (rfl) (rfl) (fun K hK=>?_) (fun K hK=>?_)
  ·
   refine AC 0 rfl rfl 3 1 [XR (-1)] mc na rfl rfl (by decide) (by kernel_rfl) (by rfl) (by rfl) rfl (by decide) fun lc uh xt (rh:Kn _ [(l,0),(k,0),(0,0),(cw,0)] ((tS 12 lc 1 1)::(tP 5 3 0)::(tS 11 dk cY.length dt)::(Db t_ a f d g)) _) nb=>?_
   have pq:Ae da ([(-1)]:List Int) ([.int .i64 (-1)]:Ye):=⟨_,_,rfl,(Ad:rep da ((-1):Int) _),rfl⟩
   refine hK _ _ nb.plOk ?_
   refine AK [2,3,15,11,10,9,6,5,4,1,0] (by kernel_rfl) (by rfl) (kj cw lc 1 ([.int .i64 (-1)]:Ye) dk dt _ _ ?_)
   exact XY _ ⟨_,rfl,rh.kp,nb,mj,pq,nz⟩
  refine AC 1 rfl rfl 3 1 [XR (-1)] mc na rfl rfl (by decide) (by kernel_rfl) (by rfl) (by rfl) rfl (by decide) fun ld ui xu (ri:Kn _ [(l,0),(k,0),(0,0),(cw,0)] ((tS 17 ld 1 1)::(tP 5 3 0)::(tS 11 dk cY.length dt)::(Db t_ a f d g)) _) nc=>?_
  have pr:Ae da ([(-1)]:List Int) ([.int .i64 (-1)]:Ye):=⟨_,_,rfl,(Ad:rep da ((-1):Int) _),rfl⟩
  refine hK _ _ nc.plOk ?_
  refine AK [2,8,15,11,10,9,6,5,4,1,0] (by kernel_rfl) (by rfl) (kk cw ld 1 ([.int .i64 (-1)]:Ye) dk dt _ _ ?_)
  exact XY _ ⟨_,rfl,ri.kp,nc,mj,pr,nz⟩
 refine BT (fun W=>∀ (cn:Yd),∀ (c2:Nat),∀ (eu:Ye),∀ (co:Yd),∀ (c3:Nat),∀ (ev:Ye),∀ a' w',(∃ (k1:Array Value)(d0:Ac),a' = ⟨k1,[]⟩∧Kn 40 (Cm l k) ((tS 17 co 1 c3)::(tS 12 cn 1 c2)::(Cd t_ a f d g)) k1∧Ai ⟨w,h,BF⟩ d0 (Cm l k) (E3 t_ a f d g aH) [⟨cn,1,c2,3,1,eu,0⟩,⟨co,1,c3,3,1,ev,0⟩] w'∧Ac.le h d0∧Ae d0 ([(-1)]:List Int) eu∧Ae d0 ([(-1)]:List Int) ev)→W (Cm l k) (E3 t_ a f d g aH) [3,8,11,10,9,6,5,4,1,0] a' w') ?_ (fun n7=>?_)
 ·
  intro cn c2 eu co c3 ev
  rintro _ xw ⟨k1,d0,rfl,md,j6,hx,hf,hg⟩
  replace x:=x.mono hx
  replace z:=z.mono hx
  refine Gn 2 15 rfl rfl (by kernel_rfl) (by decide) (rfl) (rfl) (fun K hK=>?_) (fun K hK=>?_)
  ·
   refine wc [.agg (NW t_ a f d g)] md j6 (Bt n j6.has t_ ((Ab Ad (Ab Ad (Ab (Af x) (Af z)))):rep d0 t_ _) gR) fun w5 v4 xx ou jx nd=>?_
   replace hf:=hf.mono jx
   replace hg:=hg.mono jx
   obtain⟨ip,iz,rfl,ta⟩:=ou
   refine⟨.one (.c (Yb ip cY.length iz)),rfl,fun uk (rk:Kn _ (Cm l k) ((tS 11 ip cY.length iz)::(tS 17 co 1 c3)::(tS 12 cn 1 c2)::(Cd t_ a f d g)) _)=>hK _ _ nd.plOk ?_⟩
   refine AK [2,3,8,11,10,9,6,5,4,1,0] (by kernel_rfl) (by rfl) (ki cn c2 eu co c3 ev ip iz _ _ ?_)
   exact XY _ ⟨_,rfl,rk.kp,nd,XU hx jx,hf,hg,ta⟩
  refine MO 3 [.nilptr] md j6 fun gw ul vv (rl:Kn _ [(l,0),(k,0),(0,0),(gw,0)] ((tP 5 3 0)::(tS 17 co 1 c3)::(tS 12 cn 1 c2)::(Cd t_ a f d g)) _) (nf:Ai _ _ [(l,0),(k,0),(0,0),(gw,0)] (AT t_ a f d g aH) [⟨cn,1,c2,3,1,eu,0⟩,⟨co,1,c3,3,1,ev,0⟩] _)=>hK _ _ (Ay.unset 3 rfl (by kernel_rfl) nf.plOk) (BZ (e':=[(l,0),(k,0),(0,0),(gw,0)]) (pl':=(AT t_ a f d g aH)) (fun _ hp=>hp.unset 3 rfl (by kernel_rfl)) ?_)
  refine AK [3,8,15,11,10,9,6,5,4,1,0] (by kernel_rfl) (by rfl) (kl gw cn c2 eu co c3 ev _ _ ?_)
  exact XY _ ⟨_,rfl,rl.kp,nf,hx,hf,hg⟩
 refine BT (fun W=>∀ (cx:Nat),∀ (dl:Yd),∀ (du:Nat),∀ (gg:Ye),∀ a' w',(∃ (k2:Array Value)(d1:Ac),a' = ⟨k2,[]⟩∧Kn 40 [(l,0),(k,0),(0,0),(cx,0)] ((tP 5 3 0)::(tS 12 dl 1 du)::(Cd t_ a f d g)) k2∧Ai ⟨w,h,BF⟩ d1 [(l,0),(k,0),(0,0),(cx,0)] (AT t_ a f d g aH) [⟨dl,1,du,3,1,gg,0⟩,⟨none,0,0,3,1,[],0⟩] w'∧Ac.le h d1∧Ae d1 ([(-1)]:List Int) gg)→W [(l,0),(k,0),(0,0),(cx,0)] (AT t_ a f d g aH) [3,15,11,10,9,6,5,4,1,0] a' w') ?_ (fun n8=>?_)
 ·
  intro cx dl du gg
  rintro _ xy ⟨k2,d1,rfl,me,j7,fv,hi⟩
  replace x:=x.mono fv
  replace z:=z.mono fv
  refine Gn 2 8 rfl rfl (by kernel_rfl) (by decide) (rfl) (rfl) (fun K hK=>?_) (fun K hK=>?_)
  ·
   refine wc [.agg (NW t_ a f d g)] me j7 (Bt n j7.has t_ ((Ab Ad (Ab Ad (Ab (Af x) (Af z)))):rep d1 t_ _) gR) fun w6 v5 xz ov ml ng=>?_
   replace hi:=hi.mono ml
   obtain⟨iq,i0,rfl,tb⟩:=ov
   refine⟨.one (.c (Yb iq cY.length i0)),rfl,fun un (rm:Kn _ [(l,0),(k,0),(0,0),(cx,0)] ((tS 11 iq cY.length i0)::(tP 5 3 0)::(tS 12 dl 1 du)::(Cd t_ a f d g)) _)=>hK _ _ ng.plOk ?_⟩
   refine AK [2,3,15,11,10,9,6,5,4,1,0] (by kernel_rfl) (by rfl) (kj cx dl du gg iq i0 _ _ ?_)
   exact XY _ ⟨_,rfl,rm.kp,ng,XU fv ml,hi,tb⟩
  refine AC 1 rfl rfl 3 1 [XR (-1)] me j7 rfl rfl (by decide) (by kernel_rfl) (by rfl) (by rfl) rfl (by decide) fun lf uo x0 (rn:Kn _ [(l,0),(k,0),(0,0),(cx,0)] ((tS 17 lf 1 1)::(tP 5 3 0)::(tS 12 dl 1 du)::(Cd t_ a f d g)) _) nh=>?_
  have ps:Ae d1 ([(-1)]:List Int) ([.int .i64 (-1)]:Ye):=⟨_,_,rfl,(Ad:rep d1 ((-1):Int) _),rfl⟩
  refine hK _ _ nh.plOk ?_
  refine AK [3,8,15,11,10,9,6,5,4,1,0] (by kernel_rfl) (by rfl) (kl cx dl du gg lf 1 ([.int .i64 (-1)]:Ye) _ _ ?_)
  exact XY _ ⟨_,rfl,rn.kp,nh,fv,hi,ps⟩
 refine BT (fun W=>∀ (cy:Nat),∀ (dm:Yd),∀ (dv:Nat),∀ (gh:Ye),∀ a' w',(∃ (k3:Array Value)(d2:Ac),a' = ⟨k3,[]⟩∧Kn 40 [(l,0),(k,0),(0,0),(cy,0)] ((tP 5 3 0)::(tS 17 dm 1 dv)::(Cd t_ a f d g)) k3∧Ai ⟨w,h,BF⟩ d2 [(l,0),(k,0),(0,0),(cy,0)] (AT t_ a f d g aH) [⟨none,0,0,3,1,[],0⟩,⟨dm,1,dv,3,1,gh,0⟩] w'∧Ac.le h d2∧Ae d2 ([(-1)]:List Int) gh)→W [(l,0),(k,0),(0,0),(cy,0)] (AT t_ a f d g aH) [8,15,11,10,9,6,5,4,1,0] a' w') ?_ (fun n9=>?_)
 ·
  intro cy dm dv gh
  rintro _ x1 ⟨k3,d2,rfl,mf,j8,fw,hl⟩
  replace x:=x.mono fw
  replace z:=z.mono fw
  refine Gn 2 3 rfl rfl (by kernel_rfl) (by decide) (rfl) (rfl) (fun K hK=>?_) (fun K hK=>?_)
  ·
   refine wc [.agg (NW t_ a f d g)] mf j8 (Bt n j8.has t_ ((Ab Ad (Ab Ad (Ab (Af x) (Af z)))):rep d2 t_ _) gR) fun w7 v6 x2 ow mm ni=>?_
   replace hl:=hl.mono mm
   obtain⟨ir,i1,rfl,tc⟩:=ow
   refine⟨.one (.c (Yb ir cY.length i1)),rfl,fun uq (rp:Kn _ [(l,0),(k,0),(0,0),(cy,0)] ((tS 11 ir cY.length i1)::(tP 5 3 0)::(tS 17 dm 1 dv)::(Cd t_ a f d g)) _)=>hK _ _ ni.plOk ?_⟩
   refine AK [2,8,15,11,10,9,6,5,4,1,0] (by kernel_rfl) (by rfl) (kk cy dm dv gh ir i1 _ _ ?_)
   exact XY _ ⟨_,rfl,rp.kp,ni,XU fw mm,hl,tc⟩
  refine AC 0 rfl rfl 3 1 [XR (-1)] mf j8 rfl rfl (by decide) (by kernel_rfl) (by rfl) (by rfl) rfl (by decide) fun lg ur x3 (rq:Kn _ [(l,0),(k,0),(0,0),(cy,0)] ((tS 12 lg 1 1)::(tP 5 3 0)::(tS 17 dm 1 dv)::(Cd t_ a f d g)) _) nj=>?_
  have pt:Ae d2 ([(-1)]:List Int) ([.int .i64 (-1)]:Ye):=⟨_,_,rfl,(Ad:rep d2 ((-1):Int) _),rfl⟩
  refine hK _ _ nj.plOk ?_
  refine AK [3,8,15,11,10,9,6,5,4,1,0] (by kernel_rfl) (by rfl) (kl cy lg 1 ([.int .i64 (-1)]:Ye) dm dv gh _ _ ?_)
  exact XY _ ⟨_,rfl,rq.kp,nj,fw,pt,hl⟩
 refine Xt 2 3 8 15 rfl rfl rfl rfl (by kernel_rfl) (by decide) (rfl) (rfl) (rfl) (rfl) (fun K hK=>?_) (fun K hK=>?_) (fun K hK=>?_) (fun K hK=>?_)
 ·
  refine wc [.agg (NW t_ a f d g)] ho fz (Bt n fz.has t_ ((Ab Ad (Ab Ad (Ab (Af x) (Af z)))):rep h t_ _) gR) fun w8 fh x4 ox jy h9=>?_
  obtain⟨cp,c4,rfl,kg⟩:=ox
  refine⟨.one (.c (Yb cp cY.length c4)),rfl,fun ut (jo:Kn _ (Cm l k) ((tS 11 cp cY.length c4)::(Cd t_ a f d g)) _)=>hK _ _ h9.plOk ?_⟩
  refine LP 3 8 15 rfl rfl rfl (by kernel_rfl) (by decide) (rfl) (rfl) (rfl) (fun K hK=>?_) (fun K hK=>?_) (fun K hK=>?_)
  ·
   refine AC 0 rfl rfl 3 1 [XR (-1)] jo h9 rfl rfl (by decide) (by kernel_rfl) (by rfl) (by rfl) rfl (by decide) fun lh uu x5 (rr:Kn _ (Cm l k) ((tS 12 lh 1 1)::(tS 11 cp cY.length c4)::(Cd t_ a f d g)) _) nk=>?_
   have pu:Ae fh ([(-1)]:List Int) ([.int .i64 (-1)]:Ye):=⟨_,_,rfl,(Ad:rep fh ((-1):Int) _),rfl⟩
   refine hK _ _ nk.plOk ?_
   refine AK [2,3,11,10,9,6,5,4,1,0] (by kernel_rfl) (by rfl) (n4 lh 1 ([.int .i64 (-1)]:Ye) cp c4 _ _ ?_)
   exact XY _ ⟨_,rfl,rr.kp,nk,jy,pu,kg⟩
  ·
   refine AC 1 rfl rfl 3 1 [XR (-1)] jo h9 rfl rfl (by decide) (by kernel_rfl) (by rfl) (by rfl) rfl (by decide) fun li uv x6 (rs:Kn _ (Cm l k) ((tS 17 li 1 1)::(tS 11 cp cY.length c4)::(Cd t_ a f d g)) _) nl=>?_
   have pv:Ae fh ([(-1)]:List Int) ([.int .i64 (-1)]:Ye):=⟨_,_,rfl,(Ad:rep fh ((-1):Int) _),rfl⟩
   refine hK _ _ nl.plOk ?_
   refine AK [2,8,11,10,9,6,5,4,1,0] (by kernel_rfl) (by rfl) (n5 li 1 ([.int .i64 (-1)]:Ye) cp c4 _ _ ?_)
   exact XY _ ⟨_,rfl,rs.kp,nl,jy,pv,kg⟩
  refine MO 3 [.nilptr] jo h9 fun gx uw vw (ru:Kn _ [(l,0),(k,0),(0,0),(gx,0)] ((tP 5 3 0)::(tS 11 cp cY.length c4)::(Cd t_ a f d g)) _) (nm:Ai _ _ [(l,0),(k,0),(0,0),(gx,0)] (AT t_ a f d g aH) Rw _)=>hK _ _ (Ay.unset 3 rfl (by kernel_rfl) nm.plOk) (BZ (e':=[(l,0),(k,0),(0,0),(gx,0)]) (pl':=(AT t_ a f d g aH)) (fun _ hp=>hp.unset 3 rfl (by kernel_rfl)) ?_)
  refine AK [2,15,11,10,9,6,5,4,1,0] (by kernel_rfl) (by rfl) (n6 gx cp c4 _ _ ?_)
  exact XY _ ⟨_,rfl,ru.kp,nm,jy,kg⟩
 ·
  refine AC 0 rfl rfl 3 1 [XR (-1)] ho fz rfl rfl (by decide) (by kernel_rfl) (by rfl) (by rfl) rfl (by decide) fun cq ux x7 (jp:Kn _ (Cm l k) ((tS 12 cq 1 1)::(Cd t_ a f d g)) _) f2=>?_
  have fl:Ae h ([(-1)]:List Int) ([.int .i64 (-1)]:Ye):=⟨_,_,rfl,(Ad:rep h ((-1):Int) _),rfl⟩
  refine hK _ _ f2.plOk ?_
  refine LP 2 8 15 rfl rfl rfl (by kernel_rfl) (by decide) (rfl) (rfl) (rfl) (fun K hK=>?_) (fun K hK=>?_) (fun K hK=>?_)
  ·
   refine wc [.agg (NW t_ a f d g)] jp f2 (Bt n f2.has t_ ((Ab Ad (Ab Ad (Ab (Af x) (Af z)))):rep h t_ _) gR) fun w9 v7 x8 oy mn nn=>?_
   replace fl:=fl.mono mn
   obtain⟨iu,i2,rfl,td⟩:=oy
   refine⟨.one (.c (Yb iu cY.length i2)),rfl,fun uy (rv:Kn _ (Cm l k) ((tS 11 iu cY.length i2)::(tS 12 cq 1 1)::(Cd t_ a f d g)) _)=>hK _ _ nn.plOk ?_⟩
   refine AK [2,3,11,10,9,6,5,4,1,0] (by kernel_rfl) (by rfl) (n4 cq 1 ([.int .i64 (-1)]:Ye) iu i2 _ _ ?_)
   exact XY _ ⟨_,rfl,rv.kp,nn,mn,fl,td⟩
  ·
   refine AC 1 rfl rfl 3 1 [XR (-1)] jp f2 rfl rfl (by decide) (by kernel_rfl) (by rfl) (by rfl) rfl (by decide) fun lj uz x9 (rx:Kn _ (Cm l k) ((tS 17 lj 1 1)::(tS 12 cq 1 1)::(Cd t_ a f d g)) _) np=>?_
   have pw:Ae h ([(-1)]:List Int) ([.int .i64 (-1)]:Ye):=⟨_,_,rfl,(Ad:rep h ((-1):Int) _),rfl⟩
   refine hK _ _ np.plOk ?_
   refine AK [3,8,11,10,9,6,5,4,1,0] (by kernel_rfl) (by rfl) (n7 cq 1 ([.int .i64 (-1)]:Ye) lj 1 ([.int .i64 (-1)]:Ye) _ _ ?_)
   exact XY _ ⟨_,rfl,rx.kp,np,Ac.le_refl _,fl,pw⟩
  refine MO 3 [.nilptr] jp f2 fun gy u0 vx (ry:Kn _ [(l,0),(k,0),(0,0),(gy,0)] ((tP 5 3 0)::(tS 12 cq 1 1)::(Cd t_ a f d g)) _) (nq:Ai _ _ [(l,0),(k,0),(0,0),(gy,0)] (AT t_ a f d g aH) [⟨cq,1,1,3,1,([.int .i64 (-1)]:Ye),0⟩,⟨none,0,0,3,1,[],0⟩] _)=>hK _ _ (Ay.unset 3 rfl (by kernel_rfl) nq.plOk) (BZ (e':=[(l,0),(k,0),(0,0),(gy,0)]) (pl':=(AT t_ a f d g aH)) (fun _ hp=>hp.unset 3 rfl (by kernel_rfl)) ?_)
  refine AK [3,15,11,10,9,6,5,4,1,0] (by kernel_rfl) (by rfl) (n8 gy cq 1 ([.int .i64 (-1)]:Ye) _ _ ?_)
  exact XY _ ⟨_,rfl,ry.kp,nq,Ac.le_refl _,fl⟩
 ·
  refine AC 1 rfl rfl 3 1 [XR (-1)] ho fz rfl rfl (by decide) (by kernel_rfl) (by rfl) (by rfl) rfl (by decide) fun cr u1 ya (jq:Kn _ (Cm l k) ((tS 17 cr 1 1)::(Cd t_ a f d g)) _) f3=>?_
  have fm:Ae h ([(-1)]:List Int) ([.int .i64 (-1)]:Ye):=⟨_,_,rfl,(Ad:rep h ((-1):Int) _),rfl⟩
  refine hK _ _ f3.plOk ?_
  refine LP 2 3 15 rfl rfl rfl (by kernel_rfl) (by decide) (rfl) (rfl) (rfl) (fun K hK=>?_) (fun K hK=>?_) (fun K hK=>?_)
  ·
   refine wc [.agg (NW t_ a f d g)] jq f3 (Bt n f3.has t_ ((Ab Ad (Ab Ad (Ab (Af x) (Af z)))):rep h t_ _) gR) fun xa v8 yb oz mo nr=>?_
   replace fm:=fm.mono mo
   obtain⟨iv,i3,rfl,te⟩:=oz
   refine⟨.one (.c (Yb iv cY.length i3)),rfl,fun u3 (rz:Kn _ (Cm l k) ((tS 11 iv cY.length i3)::(tS 17 cr 1 1)::(Cd t_ a f d g)) _)=>hK _ _ nr.plOk ?_⟩
   refine AK [2,8,11,10,9,6,5,4,1,0] (by kernel_rfl) (by rfl) (n5 cr 1 ([.int .i64 (-1)]:Ye) iv i3 _ _ ?_)
   exact XY _ ⟨_,rfl,rz.kp,nr,mo,fm,te⟩
  ·
   refine AC 0 rfl rfl 3 1 [XR (-1)] jq f3 rfl rfl (by decide) (by kernel_rfl) (by rfl) (by rfl) rfl (by decide) fun lk u4 yc (r0:Kn _ (Cm l k) ((tS 12 lk 1 1)::(tS 17 cr 1 1)::(Cd t_ a f d g)) _) ns=>?_
   have px:Ae h ([(-1)]:List Int) ([.int .i64 (-1)]:Ye):=⟨_,_,rfl,(Ad:rep h ((-1):Int) _),rfl⟩
   refine hK _ _ ns.plOk ?_
   refine AK [3,8,11,10,9,6,5,4,1,0] (by kernel_rfl) (by rfl) (n7 lk 1 ([.int .i64 (-1)]:Ye) cr 1 ([.int .i64 (-1)]:Ye) _ _ ?_)
   exact XY _ ⟨_,rfl,r0.kp,ns,Ac.le_refl _,px,fm⟩
  refine MO 3 [.nilptr] jq f3 fun gz u5 vy (r1:Kn _ [(l,0),(k,0),(0,0),(gz,0)] ((tP 5 3 0)::(tS 17 cr 1 1)::(Cd t_ a f d g)) _) (nt:Ai _ _ [(l,0),(k,0),(0,0),(gz,0)] (AT t_ a f d g aH) [⟨none,0,0,3,1,[],0⟩,⟨cr,1,1,3,1,([.int .i64 (-1)]:Ye),0⟩] _)=>hK _ _ (Ay.unset 3 rfl (by kernel_rfl) nt.plOk) (BZ (e':=[(l,0),(k,0),(0,0),(gz,0)]) (pl':=(AT t_ a f d g aH)) (fun _ hp=>hp.unset 3 rfl (by kernel_rfl)) ?_)
  refine AK [8,15,11,10,9,6,5,4,1,0] (by kernel_rfl) (by rfl) (n9 gz cr 1 ([.int .i64 (-1)]:Ye) _ _ ?_)
  exact XY _ ⟨_,rfl,r1.kp,nt,Ac.le_refl _,fm⟩
 refine MO 3 [.nilptr] ho fz fun cc u6 vz (jr:Kn _ [(l,0),(k,0),(0,0),(cc,0)] ((tP 5 3 0)::(Cd t_ a f d g)) _) (f4:Ai _ _ [(l,0),(k,0),(0,0),(cc,0)] (AT t_ a f d g aH) Rw _)=>hK _ _ (Ay.unset 3 rfl (by kernel_rfl) f4.plOk) (BZ (e':=[(l,0),(k,0),(0,0),(cc,0)]) (pl':=(AT t_ a f d g aH)) (fun _ hp=>hp.unset 3 rfl (by kernel_rfl)) ?_)
 refine LP 2 3 8 rfl rfl rfl (by kernel_rfl) (by decide) (rfl) (rfl) (rfl) (fun K hK=>?_) (fun K hK=>?_) (fun K hK=>?_)
 ·
  refine wc [.agg (NW t_ a f d g)] jr f4 (Bt n f4.has t_ ((Ab Ad (Ab Ad (Ab (Af x) (Af z)))):rep h t_ _) gR) fun xb v9 yd o0 sf nu=>?_
  obtain⟨iw,i4,rfl,tf⟩:=o0
  refine⟨.one (.c (Yb iw cY.length i4)),rfl,fun u7 (r2:Kn _ [(l,0),(k,0),(0,0),(cc,0)] ((tS 11 iw cY.length i4)::(tP 5 3 0)::(Cd t_ a f d g)) _)=>hK _ _ nu.plOk ?_⟩
  refine AK [2,15,11,10,9,6,5,4,1,0] (by kernel_rfl) (by rfl) (n6 cc iw i4 _ _ ?_)
  exact XY _ ⟨_,rfl,r2.kp,nu,sf,tf⟩
 ·
  refine AC 0 rfl rfl 3 1 [XR (-1)] jr f4 rfl rfl (by decide) (by kernel_rfl) (by rfl) (by rfl) rfl (by decide) fun ll u8 ye (r3:Kn _ [(l,0),(k,0),(0,0),(cc,0)] ((tS 12 ll 1 1)::(tP 5 3 0)::(Cd t_ a f d g)) _) nv=>?_
  have py:Ae h ([(-1)]:List Int) ([.int .i64 (-1)]:Ye):=⟨_,_,rfl,(Ad:rep h ((-1):Int) _),rfl⟩
  refine hK _ _ nv.plOk ?_
  refine AK [3,15,11,10,9,6,5,4,1,0] (by kernel_rfl) (by rfl) (n8 cc ll 1 ([.int .i64 (-1)]:Ye) _ _ ?_)
  exact XY _ ⟨_,rfl,r3.kp,nv,Ac.le_refl _,py⟩
 refine AC 1 rfl rfl 3 1 [XR (-1)] jr f4 rfl rfl (by decide) (by kernel_rfl) (by rfl) (by rfl) rfl (by decide) fun lm u9 yf (r4:Kn _ [(l,0),(k,0),(0,0),(cc,0)] ((tS 17 lm 1 1)::(tP 5 3 0)::(Cd t_ a f d g)) _) nw=>?_
 have pz:Ae h ([(-1)]:List Int) ([.int .i64 (-1)]:Ye):=⟨_,_,rfl,(Ad:rep h ((-1):Int) _),rfl⟩
 refine hK _ _ nw.plOk ?_
 refine AK [8,15,11,10,9,6,5,4,1,0] (by kernel_rfl) (by rfl) (n9 cc lm 1 ([.int .i64 (-1)]:Ye) _ _ ?_)
 exact XY _ ⟨_,rfl,r4.kp,nw,Ac.le_refl _,pz⟩
theorem Rx (n:Nat) {h:Ac} {w:World} (hh:CK h w)  {r:DL} (H:JN n =some r) :
  Calls Tryz.prog 21 #[] w (CP (fun h v=>∃ cs,v=.agg cs.toArray∧rep h r cs) h w):=by
 refine enter 9 [] Tryz.func21 rfl rfl rfl rfl fun t hk=>?_
 have hm:=Ai.begin h w hh
 unfold JN at H
 refine XT (Aa (wl fun K hK=>?_))
 refine wa [.bool false,.bool false,.bool false,.bool false,.bool false,.bool false,.bool false,.bool false,.bool false,.bool false,.bool false,.bool false] hk hm fun e av bg (ag:Kn _ [(e,0)] [tP 0 0 0] _) z=>hK _ _ ?_
 refine wf (XT (XT (Aa (Rk 0 1 [tI 2 0,tP 0 0 0] ag z fun be an=>?_))))
 refine wf ?_
 obtain⟨a,p,H⟩:=Ao H
 refine Ar (fun a' w'=>∃ (m:Array Value)(g:Ac),a' = ⟨m,[]⟩∧Kn 9 [(e,0)] [tP 0 0 0] m∧Ai ⟨w,h,BF⟩ g [(e,0)] [⟨K4 a,some 67⟩] [] w'∧Ac.le h g) ?_ ?_
 ·
  refine wp_block ?_
  refine Av (fun au a' w'=>∃ (aB:Int)(aA:DL)(o:Array Value)(i:Ac),a' = ⟨o,[]⟩∧Kn 9 [(e,0)] [tI 2 aB,tP 0 0 0] o∧Ai ⟨w,h,BF⟩ i [(e,0)] [⟨[.bool aA.a0,.bool aA.a1,.bool aA.a2,.bool aA.a3,.bool aA.a4,.bool aA.a5,.bool aA.a6,.bool aA.a7,.bool aA.a8,.bool aA.a9,.bool aA.a10,.bool aA.a11],some 67⟩] [] w'∧Ac.le h i∧F2 au  aB aA=some a) n ?_ ?_
  ·
   exact XY 0 ⟨DL.mk false false false false false false false false false false false false,_,_,rfl,an.kp,z,Ac.le_refl _,p⟩
  rintro l _ bf ⟨aB,aA,o,i,rfl,ac,f,s,d⟩
  clear p
  obtain _ | l:=l
  ·
   rw [F2] at d; cases d
  rw [F2] at d
  refine XT (Aa (Rk 0 1 [tB 3 (decide (aB<12)),tI 2 aB,tP 0 0 0] ac f fun ba k=>?_))
  refine wf (XT (wC (decide (aB<12)) k (fun j=>?_) (fun j=>?_)))
  ·
   rw [j,XW] at d
   refine wp_skip (XT (wp_block (XT (Aa (Rk 0 2 [tI 1 aB,tI 2 aB,tP 0 0 0] k f fun bb ad=>?_)))))
   refine wf (Aa (Rk 0 1 [tI 5 aB,tI 2 aB,tP 0 0 0] ad f fun bc q=>?_))
   obtain⟨x6,kS,d⟩:=Ao d
   obtain⟨ap,aq⟩:=BI kS
   refine Eg 1 (.one (.c (.ptr 0 (0+Yc aB*1)))) rfl (rfl) rfl (AZ (E:=4) q rfl (by kernel_rfl) (by kernel_rfl) (by rfl) (by rfl) ap aq) (q.put (by decide) _) fun aa (ae:Kn _ [(e,0)] [tP 6 0 (0+Yc aB*1),tI 5 aB,tI 2 aB,tP 0 0 0] _)=>?_
   obtain⟨b,ab,d⟩:=Ao d
   obtain⟨ay,az,ar⟩:=DL.setI_some ab
   refine wl fun K hK=>?_
   refine DS 0 (0+(aB:Int).toNat*1) (.c (.bool true)) [.bool b.a0,.bool b.a1,.bool b.a2,.bool b.a3,.bool b.a4,.bool b.a5,.bool b.a6,.bool b.a7,.bool b.a8,.bool b.a9,.bool b.a10,.bool b.a11] ae f rfl rfl (by rfl) (by rfl) (by rfl) (by kernel_rfl) (by refine decide_eq_true ?_; show(0+(aB:Int).toNat*1)+1≤12; omega) (F7 (fun(y:Bool)=>([.bool y]:List SC)) 1 (fun _=>rfl) [] [] aA.toL b.toL (aB:Int).toNat true ar (show(aB:Int).toNat<12 by omega) rfl rfl rfl) fun bh af u=>hK _ _ ?_
   have ah:Kn _ _ [tI 2 aB,tP 0 0 0] _:=af.kp
   refine wf (Aa (Rk 0 2 [tI 2 (IntKind.i64.wrap (aB+1)),tP 0 0 0] ah u fun bd ai=>?_))
   refine wf ?_
   exact XY l ⟨Y4 _,XY (IntKind.i64.wrap (aB+1)) ⟨b,_,_,rfl,ai.kp,u,s,d⟩⟩
  rw [j,XV] at d
  refine wp_exit ?_
  obtain rfl:=XZ d
  exact XY _ ⟨_,rfl,k.kp,f,s⟩
 rintro _ bi ⟨m,g,rfl,aj,x,ax⟩
 refine XT (Aa (Rk 0 1 [tA 8 (K4 a),tP 0 0 0] aj x fun aw ak=>?_))
 refine wl fun K hK=>?_
 refine DT 0 0 (.agg (K4 a)) (K4 a) ak x fun bj al ao=>hK _ _ ?_
 have am:Kn _ _ [tP 0 0 0] _:=al.kp
 refine wf (wp_ret ?_)
 obtain rfl:=XZ H
 exact rt (.one (.agg (K4 a))) am ao ⟨_,rfl,((Ab Ag (Ab Ag (Ab Ag (Ab Ag (Ab Ag (Ab Ag (Ab Ag (Ab Ag (Ab Ag (Ab Ag (Ab Ag Ag))))))))))):rep g (a:DL) _)⟩
abbrev Ry (d:Bx BK)(ae ai af aj ag ak z ab e f):=([XR d.v.table.places,XR d.v.table.layover,Yb ae d.v.table.empty.length ai,Yb af d.v.table.trips.length aj,Yb ag d.v.follows.length ak,Yb z d.v.next.length ab,Yb e d.v.before.length f]:List SC)
abbrev IQ (aA)(d:Bx BK)(e f g)(aB:List (List Int))(k):=([tI 24 aA,tI 23 ((d.v.before.length:Nat):Int),tS 22 e d.v.before.length f,tS 6 g aB.length k,tP 5 1 0]:TM)
theorem P2 (n:Nat) {h:Ac} {w:World} (hh:CK h w) (t_:An) {cN:Ye} (dL:rep h t_ cN) {r:(List (List Int))×Int} (H:JO n t_=some r) :
  Calls Tryz.prog 7 #[.agg cN.toArray] w (CP (fun h v=>∃ v0 v1,v=.tuple #[v0,v1]∧(∃ a c,v0=.slice a r.1.length c∧At h a c r.1)∧(v1=.int .i64 r.2)) h w):=by
 obtain⟨_,_,rfl,rfl,⟨_,_,rfl,rfl,⟨_,_,rfl,⟨m,s,rfl,ao⟩,⟨p,u,rfl,ap⟩⟩⟩⟩:=dL
 refine enter 51 [.agg (NW t_ m s p u)] Tryz.func7 rfl rfl rfl rfl fun t hk=>?_
 have hm:=Ai.begin h w hh
 unfold JO at H
 refine XT (Aa (wl fun K hK=>?_))
 refine wb (.agg (NW t_ m s p u)) hk hm fun l fp g1 (dt:Kn _ [(l,0)] [tP 1 0 0,tA 0 (NW t_ m s p u)] _) bs=>hK _ _ ?_
 refine Rk 1 2 [tP 1 0 0] dt bs fun f0 dy=>?_
 refine wf (XT (XT (Aa (Rk 0 1 [tA 11 (NW t_ m s p u),tP 1 0 0] dy bs fun f6 d2=>?_))))
 obtain⟨cI,iZ,H⟩:=Ao H
 refine wl fun K hK=>?_
 refine wc [.agg (NW t_ m s p u)] d2 bs (KY n bs.has t_ ((Ab Ad (Ab Ad (Ab (Af ao) (Af ap)))):rep h t_ _) iZ) fun gq fv gw de c0 aq=>?_
 replace ao:=ao.mono c0
 replace ap:=ap.mono c0
 obtain rfl:=de
 refine⟨.one (.c (XR cI)),rfl,fun fk (ef:Kn _ [(l,0)] [tI 12 cI,tA 11 (NW t_ m s p u),tP 1 0 0] _)=>hK _ _ ?_⟩
 refine Rk 2 1 [tI 4 cI,tP 1 0 0] ef aq fun gh ek=>?_
 refine wf (XT (Aa (Rk 0 2 [tB 14 (cI != 0),tI 4 cI,tP 1 0 0] ek aq fun gi b9=>?_)))
 refine wf (wC ((cI != 0)) b9 (fun b0=>?_) (fun b0=>?_))
 ·
  rw [b0,XW] at H
  refine XT (Aa (Rk 0 3 [tI 3 cI,tS 2 none 0 0] b9 aq fun gj el=>?_))
  refine wf (wp_ret ?_)
  obtain rfl:=XZ H
  exact rt (.tup [.c (Yb none 0 0),.c (XR cI)]) el aq ⟨_,_,rfl,⟨_,_,rfl,At.nil⟩,rfl⟩
 rw [b0,XV] at H
 refine wp_skip (XT (Au (by kernel_rfl) ?_))
 replace aq:=aq.drew
 refine Ax [] [(l,0)] [⟨NW t_ m s p u,some 36⟩] ?_
 refine Dr [0] [0] [tA 16 (NW t_ m s p u)] b9 aq fun gk em=>?_
 obtain⟨dX,jW,H⟩:=Ao H
 refine Dl 1 fun K hK=>?_
 refine wc [] em aq (Rx n aq.has  jW) fun gr cy g0 df c2 ci=>?_
 replace ao:=ao.mono c2
 replace ap:=ap.mono c2
 obtain⟨_,rfl,⟨_,_,rfl,rfl,⟨_,_,rfl,rfl,⟨_,_,rfl,rfl,⟨_,_,rfl,rfl,⟨_,_,rfl,rfl,⟨_,_,rfl,rfl,⟨_,_,rfl,rfl,⟨_,_,rfl,rfl,⟨_,_,rfl,rfl,⟨_,_,rfl,rfl,⟨_,_,rfl,rfl,rfl⟩⟩⟩⟩⟩⟩⟩⟩⟩⟩⟩⟩:=df
 refine⟨.one (.agg (K4 dX)),rfl,fun fm (en:Kn _ [(l,0)] [tA 17 (K4 dX),tA 16 (NW t_ m s p u)] _)=>hK _ _ ci.plOk ?_⟩
 obtain⟨cS,gW,H⟩:=Ao H
 refine Dl 2 fun K hK=>?_
 refine VN [.agg (NW t_ m s p u),.agg (K4 dX)] _ en ci rfl rfl (by decide) (by rfl) rfl (fun _ _=>by kernel_rfl) (Le n ci.has t_ ((Ab Ad (Ab Ad (Ab (Af ao) (Af ap)))):rep cy t_ _) dX ((Ab Ag (Ab Ag (Ab Ag (Ab Ag (Ab Ag (Ab Ag (Ab Ag (Ab Ag (Ab Ag (Ab Ag (Ab Ag Ag))))))))))):rep cy dX _) gW) fun gs bf db bo c3 bu=>?_
 rcases bv:cS with _ | d
 ·
  rw [bv,Rh] at H
  rw [bv] at bo
  obtain rfl:=bo
  refine .inl ⟨.one (.c (.nilptr)),rfl,fun fn (eo:Kn _ [(l,0)] [(18,.one (.c (.nilptr))),tA 17 (K4 dX),tA 16 (NW t_ m s p u)] _)=>hK _ _ bu.plOk ?_⟩
  refine Dr [3] (dn 3) [(5,.one (.c (.nilptr)))] eo bu fun gl ep=>?_
  refine AL (by kernel_rfl) (XT (Aa (Rk 0 1 [tS 6 none 0 0,(5,.one (.c (.nilptr)))] ep bu fun gm fw=>?_)))
  refine wf (XT (XT (Aa ?_)))
  cases H
 rw [bv,Ri] at H
 rw [bv] at bo
 obtain⟨q,rfl,b1⟩:=bo
 obtain⟨_,fa,dp⟩:=id b1
 obtain⟨_,_,rfl,⟨_,_,rfl,rfl,⟨_,_,rfl,rfl,⟨_,_,rfl,⟨ae,ai,rfl,c7⟩,⟨af,aj,rfl,c8⟩⟩⟩⟩,⟨_,_,rfl,⟨ag,ak,rfl,c9⟩,⟨_,_,rfl,⟨z,ab,rfl,bi⟩,⟨e,f,rfl,cj⟩⟩⟩⟩:=fa
 have bh:Ai _ _ [(l,0),(q,0)] [⟨[.int .i64 t_.places,.int .i64 t_.layover,.slice m t_.empty.length s,.slice p t_.trips.length u],some 36⟩,⟨[.int .i64 d.v.table.places,.int .i64 d.v.table.layover,.slice ae d.v.table.empty.length ai,.slice af d.v.table.trips.length aj,.slice ag d.v.follows.length ak,.slice z d.v.next.length ab,.slice e d.v.before.length f],none⟩] [] _:=bu.addPlc (o:=0) (cs:=[.int .i64 d.v.table.places,.int .i64 d.v.table.layover,.slice ae d.v.table.empty.length ai,.slice af d.v.table.trips.length aj,.slice ag d.v.follows.length ak,.slice z d.v.next.length ab,.slice e d.v.before.length f]) (fun j c hj=>by rw [Y3]; exact dp j _ (Ak hj)) rfl (by kernel_rfl) (by kernel_rfl)
 refine .inr ⟨q,.one (.c (.ptr 1 0)),by kernel_rfl,rfl,fun fo (er:Kn _ [(l,0),(q,0)] [tP 18 1 0,tA 17 (K4 dX),tA 16 (NW t_ m s p u)] _)=>hK _ _ (Ay.pop (Y8 rfl) (by kernel_rfl) bh.plOk) (BZ (e':=[(l,0),(q,0)]) (pl':=[⟨NW t_ m s p u,some 36⟩,⟨Ry d ae ai af aj ag ak z ab e f,none⟩]) (fun _ hp=>hp.pop (Y8 rfl) (by kernel_rfl)) ?_)⟩
 refine Dr [3] (dn 3) [tP 5 1 0] er bh fun gn es=>?_
 refine AL (by kernel_rfl) (XT (Aa (Rk 0 1 [tS 6 none 0 0,tP 5 1 0] es bh fun go et=>?_)))
 refine wf (XT (XT (Aa (Rk 0 6 [tI 24 0,tI 23 ((d.v.before.length:Nat):Int),tS 22 e d.v.before.length f,tS 6 none 0 0,tP 5 1 0] et bh fun gp eu=>?_))))
 refine wf ?_
 have ez:Ai _ _ [(l,0),(q,0)] [⟨NW t_ m s p u,some 36⟩,⟨Ry d ae ai af aj ag ak z ab e f,none⟩] [⟨none,0,0,26,1,[],0⟩] _:=bh.nilRow 26 1
 have dq:Ae bf ([]:List (List Int)) []:=Ae.nil
 obtain⟨aw,cw,H⟩:=Ao H
 refine Ar (fun a' w'=>∃ (ax:Yd)(ay:Nat)(bl:Ye)(cq:Array Value)(bq:Ac),a' = ⟨cq,[]⟩∧Kn 51 [(l,0),(q,0)] [tS 6 ax aw.length ay] cq∧Ai ⟨w,h,BF⟩ bq [(l,0),(q,0)] [⟨NW t_ m s p u,some 36⟩,⟨Ry d ae ai af aj ag ak z ab e f,none⟩] [⟨ax,aw.length,ay,26,1,bl,0⟩] w'∧Ac.le bf bq∧Ae bq aw bl) ?_ ?_
 ·
  refine wp_block ?_
  refine Av (fun fe a' w'=>∃ (aB:List (List Int))(aA:Int)(g:Yd)(k:Nat)(an:Ye)(cn:Array Value)(av:Ac),a' = ⟨cn,[]⟩∧Kn 51 [(l,0),(q,0)] (IQ aA d e f g aB k) cn∧Ai ⟨w,h,BF⟩ av [(l,0),(q,0)] [⟨NW t_ m s p u,some 36⟩,⟨Ry d ae ai af aj ag ak z ab e f,none⟩] [⟨g,aB.length,k,26,1,an,0⟩] w'∧Ac.le bf av∧Ae av aB an∧DG fe d aB aA=some aw) n ?_ ?_
  ·
   exact XY ([]:List (List Int)) ⟨0,none,0,[],_,_,rfl,eu.kp,ez,Ac.le_refl _,dq,cw⟩
  rintro bj _ fq ⟨aB,aA,g,k,an,cn,av,rfl,du,br,am,bg,x⟩
  clear cw
  obtain _ | bj:=bj
  ·
   rw [DG] at x; cases x
  rw [DG] at x
  replace bi:=bi.mono am
  replace cj:=cj.mono am
  refine XT (Aa (Rk 0 1 ((tB 25 (decide (aA<((d.v.before.length:Nat):Int))))::(IQ aA d e f g aB k)) du br fun fy b6=>?_))
  refine wf (XT (wC (decide (aA<((d.v.before.length:Nat):Int))) b6 (fun bw=>?_) (fun bw=>?_)))
  ·
   rw [bw,XW] at x
   refine wp_skip (XT (wp_block (XT (Aa (Rk 0 1 ((tI 26 aA)::(IQ aA d e f g aB k)) b6 br fun fz dv=>?_)))))
   obtain⟨dG,iP,x⟩:=Ao x
   obtain⟨e0,e2,fb⟩:=Aj iP
   obtain⟨aa,ac,ft,dg,e8,di⟩:=cj.get (by decide) fb
   obtain rfl:=e8
   have ba:=br.addPlc (b:=aa) (o:=ac+Yc aA*1) (cs:=[XR dG]) (fun j c hj=>di j _ (Ak hj)) rfl (by kernel_rfl) (by kernel_rfl)
   refine A9 1 (aA) rfl rfl (rfl) rfl (by decide) dv (by rfl) (by rfl) (by rfl) dg (by rfl) e0 e2 (by kernel_rfl) fun ff (dw:Kn _ (S2 l q aa ac aA) ((tP 27 2 0)::(tI 26 aA)::(IQ aA d e f g aB k)) _)=>?_
   refine Rk 2 3 ((tI 8 dG)::(tI 7 aA)::(IQ aA d e f g aB k)) dw ba fun f1 dx=>?_
   refine wf (XT (XT (Aa (Rk 0 2 ((tB 30 (dG != (-1)))::(tI 7 aA)::(IQ aA d e f g aB k)) dx ba fun f2 b7=>?_))))
   refine wf (wC ((dG != (-1))) b7 (fun bx=>?_) (fun bx=>?_))
   ·
    rw [bx,XW] at x
    refine wp_exit (Aa (Rk 0 2 [tI 24 (IntKind.i64.wrap (aA+1)),tI 23 ((d.v.before.length:Nat):Int),tS 22 e d.v.before.length f,tS 6 g aB.length k,tP 5 1 0] b7 ba fun f3 dz=>?_))
    refine wf ?_
    exact XY bj ⟨Y4 _,XY aB ⟨IntKind.i64.wrap (aA+1),g,k,an,_,_,rfl,(dz.keep [24,23,22,6,5] (by rfl)).cut 2 (by kernel_rfl),ba.cutPl 2 (by kernel_rfl),am,bg,x⟩⟩
   rw [bx,XV] at x
   refine wp_skip (XT (Aa (Rk 0 1 ((tS 9 none 0 0)::(tI 7 aA)::(IQ aA d e f g aB k)) b7 ba fun f4 d0=>?_)))
   refine wf (XT (XT (Aa (Rk 0 2 ((tI 10 aA)::(tS 9 none 0 0)::(IQ aA d e f g aB k)) d0 ba fun f5 d1=>?_))))
   refine wf ?_
   have ey:Ai _ _ (S2 l q aa ac aA) [⟨NW t_ m s p u,some 36⟩,⟨Ry d ae ai af aj ag ak z ab e f,none⟩,⟨[XR dG],none⟩] [⟨g,aB.length,k,26,1,an,0⟩,⟨none,0,0,3,1,[],0⟩] _:=ba.nilRow 3 1
   have dj:Ae av ([]:List Int) []:=Ae.nil
   obtain⟨y,cv,x⟩:=Ao x
   refine Ar (fun a' w'=>∃ (ad:Yd)(ah:Nat)(bk:Ye)(co:Array Value)(bp:Ac),a' = ⟨co,[]⟩∧Kn 51 (S2 l q aa ac aA) ((tS 9 ad y.length ah)::(IQ aA d e f g aB k)) co∧Ai ⟨w,h,BF⟩ bp (S2 l q aa ac aA) [⟨NW t_ m s p u,some 36⟩,⟨Ry d ae ai af aj ag ak z ab e f,none⟩,⟨[XR dG],none⟩] [⟨g,aB.length,k,26,1,an,0⟩,⟨ad,y.length,ah,3,1,bk,0⟩] w'∧Ac.le av bp∧Ae bp y bk) ?_ ?_
   ·
    refine wp_block ?_
    refine Av (fun fd a' w'=>∃ (aD:List Int)(aE:Int)(ar:Yd)(au:Nat)(bd:Ye)(cp:Array Value)(az:Ac),a' = ⟨cp,[]⟩∧Kn 51 (S2 l q aa ac aA) ((tI 10 aE)::(tS 9 ar aD.length au)::(IQ aA d e f g aB k)) cp∧Ai ⟨w,h,BF⟩ az (S2 l q aa ac aA) [⟨NW t_ m s p u,some 36⟩,⟨Ry d ae ai af aj ag ak z ab e f,none⟩,⟨[XR dG],none⟩] [⟨g,aB.length,k,26,1,an,0⟩,⟨ar,aD.length,au,3,1,bd,0⟩] w'∧Ac.le av az∧Ae az aD bd∧Et fd d aD aE=some y) bj ?_ ?_
    ·
     exact XY ([]:List Int) ⟨aA,none,0,[],_,_,rfl,d1.kp,ey,Ac.le_refl _,dj,cv⟩
    rintro cm _ gu ⟨aD,aE,ar,au,bd,cp,az,rfl,d3,bt,ca,cz,al⟩
    clear cv
    obtain _ | cm:=cm
    ·
     rw [Et] at al; cases al
    rw [Et] at al
    replace bi:=bi.mono ca
    refine XT (XT (Aa (Rk 0 2 ((tB 33 (aE != (-1)))::(tI 10 aE)::(tS 9 ar aD.length au)::(IQ aA d e f g aB k)) d3 bt fun f7 b8=>?_)))
    refine wf (wC ((aE != (-1))) b8 (fun bz=>?_) (fun bz=>?_))
    ·
     rw [bz,XW] at al
     refine wp_skip (XT (wp_block (Aa (Rk 0 2 ((tI 42 aE)::(tS 41 ar aD.length au)::(tI 10 aE)::(IQ aA d e f g aB k)) b8 bt fun f8 d4=>?_))))
     refine wl fun K hK=>?_
     refine wS 3 1 [XR aE] d4 bt fun cr fg gv (d5:Kn _ (S2 l q aa ac aA) ((tS 43 cr 1 1)::(tI 42 aE)::(tS 41 ar aD.length au)::(tI 10 aE)::(IQ aA d e f g aB k)) _) c4=>?_
     have b3:Ae az ([aE]:List Int) ([.int .i64 aE]:Ye):=⟨_,_,rfl,(Ad:rep az (aE:Int) _),rfl⟩
     refine hK _ _ ?_
     obtain⟨dW,jI,al⟩:=Ao al
     obtain⟨ck,ev⟩:=Bj jI
     refine wl fun K hK=>?_
     refine AS 1 8 1 _ (dW.length) _ ([.int .i64 aE]:Ye) d5 c4 rfl rfl (by decide) rfl (by rfl) (by kernel_rfl) (by rfl) (by rfl) (Ae.len b3) (c4.rowCell (i:=2) rfl) b3.one (by rw [ck]; simp <;> omega) (by rw [ck]; exact ev) (by decide) fun bb bc dc fh gx dr (d6:Kn _ (S2 l q aa ac aA) ((tS 44 bb dW.length bc)::(tS 43 cr 1 1)::(tI 42 aE)::(tS 41 ar aD.length au)::(tI 10 aE)::(IQ aA d e f g aB k)) _) cc=>?_
     have dk:Ae az dW (bd++([.int .i64 aE]:Ye)):=by rw [ck]; exact Ae.append cz b3
     obtain rfl:dc=0:=Nat.le_zero.1 dr
     refine hK _ _ ?_
     refine Rk 4 1 ((tS 9 bb dW.length bc)::(tI 10 aE)::(IQ aA d e f g aB k)) d6 cc fun f9 d7=>?_
     refine wf (Aa (Rk 0 5 ((tI 38 aE)::(tS 37 z d.v.next.length ab)::(tS 9 bb dW.length bc)::(IQ aA d e f g aB k)) d7 cc fun ga d8=>?_))
     obtain⟨fO,jU,al⟩:=Ao al
     obtain⟨e1,e3,fc⟩:=Aj jU
     obtain⟨cu,da,fu,dh,e9,dl⟩:=bi.get (by decide) fc
     obtain rfl:=e9
     have c5:=cc.addPlc (b:=cu) (o:=da+Yc aE*1) (cs:=[XR fO]) (fun j c hj=>dl j _ (Ak hj)) rfl (by kernel_rfl) (by kernel_rfl)
     refine A9 5 (aE) rfl rfl (rfl) rfl (by decide) d8 (by rfl) (by rfl) (by rfl) dh (by rfl) e1 e3 (by kernel_rfl) fun fi (d9:Kn _ [(l,0),(q,0),(aa,ac+Yc aA*1),(cu,da+Yc aE*1)] ((tP 39 3 0)::(tI 38 aE)::(tS 37 z d.v.next.length ab)::(tS 9 bb dW.length bc)::(IQ aA d e f g aB k)) _)=>?_
     refine Rk 6 2 ((tI 10 fO)::(tS 9 bb dW.length bc)::(IQ aA d e f g aB k)) d9 c5 fun gb ea=>?_
     refine wf ?_
     exact XY cm ⟨Y4 _,XY dW ⟨fO,bb,bc,bd++([.int .i64 aE]:Ye),_,_,rfl,(ea.keep [10,9,24,23,22,6,5] (by rfl)).cut 3 (by kernel_rfl),(c5.cutRw 2).cutPl 3 (by kernel_rfl),ca,dk,al⟩⟩
    rw [bz,XV] at al
    refine wp_exit ?_
    obtain rfl:=XZ al
    exact XY ar ⟨au,bd,_,_,rfl,b8.kp,bt,ca,cz⟩
   rintro _ fr ⟨ad,ah,bk,co,bp,rfl,eb,cd,c1,b2⟩
   refine Aa (Rk 0 2 [tS 46 ad y.length ah,tS 45 g aB.length k,tI 24 aA,tI 23 ((d.v.before.length:Nat):Int),tS 22 e d.v.before.length f,tP 5 1 0] eb cd fun gc ec=>?_)
   obtain⟨be,cb,e6,ce⟩:=cd.settle (i:=1) rfl
   replace bg:=bg.mono (XU c1 cb)
   replace b2:=b2.mono cb
   replace ce:Ai _ _ (S2 l q aa ac aA) [⟨NW t_ m s p u,some 36⟩,⟨Ry d ae ai af aj ag ak z ab e f,none⟩,⟨[XR dG],none⟩] [⟨g,aB.length,k,26,1,an,0⟩,⟨ad,y.length,ah,3,1,bk,_⟩] _:=ce
   have e4:At be ad ah y:=⟨_,b2,e6,cd.rowCap (i:=1) rfl⟩
   refine wl fun K hK=>?_
   refine wS 26 1 [Yb ad y.length ah] ec ce fun ct fj gy (ed:Kn _ (S2 l q aa ac aA) [tS 47 ct 1 1,tS 46 ad y.length ah,tS 45 g aB.length k,tI 24 aA,tI 23 ((d.v.before.length:Nat):Int),tS 22 e d.v.before.length f,tP 5 1 0] _) c6=>?_
   have b4:Ae be ([y]:List (List Int)) ([.slice ad y.length ah]:Ye):=⟨_,_,rfl,((Af e4):rep be (y:List Int) _),rfl⟩
   refine hK _ _ ?_
   obtain⟨fN,jE,x⟩:=Ao x
   obtain⟨cl,ew⟩:=Bj jE
   refine wl fun K hK=>?_
   refine AS 0 24 1 _ (fN.length) _ ([.slice ad y.length ah]:Ye) ed c6 rfl rfl (by decide) rfl (by rfl) (by kernel_rfl) (by rfl) (by rfl) (Ae.len b4) (c6.rowCell (i:=2) rfl) b4.one (by rw [cl]; simp <;> omega) (by rw [cl]; exact ew) (by decide) fun bm bn dd fl gz ds (ee:Kn _ (S2 l q aa ac aA) [tS 48 bm fN.length bn,tS 47 ct 1 1,tS 46 ad y.length ah,tS 45 g aB.length k,tI 24 aA,tI 23 ((d.v.before.length:Nat):Int),tS 22 e d.v.before.length f,tP 5 1 0] _) cf=>?_
   have dm:Ae be fN (an++([.slice ad y.length ah]:Ye)):=by rw [cl]; exact Ae.append bg b4
   obtain rfl:dd=0:=Nat.le_zero.1 ds
   refine hK _ _ ?_
   refine Rk 4 1 [tS 6 bm fN.length bn,tI 24 aA,tI 23 ((d.v.before.length:Nat):Int),tS 22 e d.v.before.length f,tP 5 1 0] ee cf fun gd eg=>?_
   refine wf (Aa (Rk 0 2 [tI 24 (IntKind.i64.wrap (aA+1)),tS 6 bm fN.length bn,tI 23 ((d.v.before.length:Nat):Int),tS 22 e d.v.before.length f,tP 5 1 0] eg cf fun gf eh=>?_))
   refine wf ?_
   exact XY bj ⟨Y4 _,XY fN ⟨IntKind.i64.wrap (aA+1),bm,bn,an++([.slice ad y.length ah]:Ye),_,_,rfl,(eh.keep [24,23,22,6,5] (by rfl)).cut 2 (by kernel_rfl),(cf.cutRw 1).cutPl 2 (by kernel_rfl),XU am (XU c1 cb),dm,x⟩⟩
  rw [bw,XV] at x
  refine wp_exit ?_
  obtain rfl:=XZ x
  exact XY g ⟨k,an,_,_,rfl,b6.kp,br,am,bg⟩
 rintro _ fs ⟨ax,ay,bl,cq,bq,rfl,ei,cg,fx,b5⟩
 refine XT (Aa (Rk 0 3 [tI 3 0,tS 2 ax aw.length ay] ei cg fun gg ej=>?_))
 refine wf (wp_ret ?_)
 obtain⟨cx,ex,e7,ch⟩:=cg.settle (i:=0) rfl
 replace b5:=b5.mono ex
 replace ch:Ai _ _ [(l,0),(q,0)] [⟨NW t_ m s p u,some 36⟩,⟨Ry d ae ai af aj ag ak z ab e f,none⟩] [⟨ax,aw.length,ay,26,1,bl,_⟩] _:=ch
 have e5:At cx ax ay aw:=⟨_,b5,e7,cg.rowCap (i:=0) rfl⟩
 obtain rfl:=XZ H
 exact rt (.tup [.c (Yb ax aw.length ay),.c (XR 0)]) ej ch ⟨_,_,rfl,⟨_,_,rfl,e5⟩,rfl⟩
end Go.Proofs.YtinminkmefljbaaGreat
