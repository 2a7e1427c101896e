/- Each call computes its plain function. -/
import Derived.Test.YtinminkmefljbaaGreatProg
import Derived.Test.YtinminkmefljbaaGreattcP0
set_option linter.all false
namespace Go.Proofs.YtinminkmefljbaaGreat
open Go Go.RowKit
set_option maxRecDepth 100000
set_option maxHeartbeats 4000000
open Rep (rep)
open KRep (kv)
open VRep (rv)
abbrev Ru (t_:An)(x:AH)(e:Fn)(a:Array Value)(d:Array Value):=([tI 17 t_.layover,tA 13 (VU x),(12,.one (.c (.func e a d))),tI 10 x.start]:TM)
theorem KZ (n:Nat) {h:Ac} {w:World} (hh:CK h w) (t_:An) {cN:Ye} (dL:rep h t_ cN) (x:AH) {hD:Ye} (jC:rep h x hD) (how:N0) {lE:Ye} (hx_how:rep h how lE) (place:Int) {r:Int} (H:Ff n t_ x how place=some r) :
  Calls Tryz.prog 122 #[.agg cN.toArray,.agg hD.toArray,.agg lE.toArray,.int .i64 place] w (CP (fun h v=>v=.int .i64 r) h w):=by
 obtain⟨_,_,rfl,rfl,⟨_,_,rfl,rfl,⟨_,_,rfl,⟨f,g,rfl,a4⟩,⟨i,k,rfl,bk⟩⟩⟩⟩:=dL
 obtain⟨_,_,rfl,rfl,⟨_,_,rfl,rfl,⟨_,_,rfl,rfl,⟨_,_,rfl,rfl,⟨_,_,rfl,rfl,rfl⟩⟩⟩⟩⟩:=jC
 obtain⟨e,a,d,rfl,ak⟩:=hx_how
 refine enter 29 [.agg (NW t_ f g i k),.agg (VU x),.agg [.func e a d],.c (XR place)] Tryz.func122 rfl rfl rfl rfl fun t hk=>?_
 have hm:=Ai.begin h w hh
 unfold Ff at H
 refine XT (Aa (wl fun K hK=>?_))
 refine wb (.agg (NW t_ f g i k)) hk hm fun l ba br (al:Kn _ [(l,0)] [tP 4 0 0,tA 0 (NW t_ f g i k),tA 1 (VU x),tA 2 [.func e a d],tI 3 place] _) ay=>hK _ _ ?_
 refine wl fun K hK=>?_
 refine wb (.agg (VU x)) al ay fun m bb bs (am:Kn _ [(l,0),(m,0)] [tP 5 1 0,tP 4 0 0,tA 0 (NW t_ f g i k),tA 1 (VU x),tA 2 [.func e a d],tI 3 place] _) az=>hK _ _ ?_
 refine wl fun K hK=>?_
 refine wb (.agg [.func e a d]) am az fun q bc bt (an:Kn _ [(l,0),(m,0),(q,0)] [tP 6 2 0,tP 5 1 0,tP 4 0 0,tA 0 (NW t_ f g i k),tA 1 (VU x),tA 2 [.func e a d],tI 3 place] _) p=>hK _ _ ?_
 refine Rk 3 1 [tP 6 2 0,tP 5 1 0,tP 4 0 0,tI 3 place] an p fun bl ao=>?_
 refine wf (XT (Au (by kernel_rfl) ?_))
 replace p:=p.drew
 refine Ax [] [(l,0),(m,0),(q,0)] [⟨NW t_ f g i k,some 36⟩,⟨VU x,some 60⟩,⟨[.func e a d],some 183⟩] ?_
 refine Dr [0,1,2,3,4,7,8,10,11,12,13] [13,12,11,10,8,7,4,3,2,1,0] [tI 22 x.to_,tS 20 f t_.empty.length g,tI 17 t_.layover,tA 13 (VU x),(12,.one (.c (.func e a d))),tI 10 x.start,tI 3 place] ao p fun bm ap=>?_
 obtain⟨eS,kA,H⟩:=Ao H
 obtain⟨a0,a2,a8⟩:=Aj kA
 obtain⟨u,z,bg,ag,a6,ai⟩:=a4.get (by decide) a8
 obtain⟨s,y,rfl,a5⟩:=a6
 have ab:=p.addPlc (b:=u) (o:=z+(x.to_:Int).toNat*1) (cs:=[Yb s eS.length y]) (fun j c hj=>ai j _ (Ak hj)) rfl (by kernel_rfl) (by kernel_rfl)
 refine A5 14 (x.to_) [Yb s eS.length y] (fun _ _ _ _ _ h=>h) rfl rfl (rfl) rfl (by decide) (by kernel_rfl) (by kernel_rfl) ap p.plOk (by rfl) (by rfl) (by rfl) ag (by rfl) a0 a2 (by kernel_rfl) fun bd (aq:Kn _ [(l,0),(m,0),(q,0),(u,z+(x.to_:Int).toNat*1)] [tP 23 3 0,tI 22 x.to_,tS 20 f t_.empty.length g,tI 17 t_.layover,tA 13 (VU x),(12,.one (.c (.func e a d))),tI 10 x.start,tI 3 place] _)=>?_
 refine Dr [15,16] [16,15,14,13,12,11,10,8,7,4,3,2,1,0] ((tI 25 place)::(tS 24 s eS.length y)::(Ru t_ x e a d)) aq ab fun bn ar=>?_
 obtain⟨cJ,gD,H⟩:=Ao H
 obtain⟨a1,a3,a9⟩:=Aj gD
 obtain⟨aa,ae,bh,ah,a7,aj⟩:=a5.get (by decide) a9
 obtain rfl:=a7
 have ac:=ab.addPlc (b:=aa) (o:=ae+Yc place*1) (cs:=[XR cJ]) (fun j c hj=>aj j _ (Ak hj)) rfl (by kernel_rfl) (by kernel_rfl)
 refine A5 17 (place) [XR cJ] (fun _ _ _ _ _ h=>h) rfl rfl (rfl) rfl (by decide) (by kernel_rfl) (by kernel_rfl) ar ab.plOk (by rfl) (by rfl) (by rfl) ah (by rfl) a1 a3 (by kernel_rfl) fun be (au:Kn _ [(l,0),(m,0),(q,0),(u,z+(x.to_:Int).toNat*1),(aa,ae+Yc place*1)] ((tP 26 4 0)::(tI 25 place)::(tS 24 s eS.length y)::(Ru t_ x e a d)) _)=>?_
 refine Dr [18] [18,17,16,15,14,13,12,11,10,8,7,4,3,2,1,0] ((tI 27 cJ)::(Ru t_ x e a d)) au ac fun bo av=>?_
 obtain⟨cQ,fX,H⟩:=Ao H
 refine Dl 5 fun K hK=>?_
 refine D2 (.func e a d) [.agg (VU x)] _ av ac rfl rfl (by decide) (by rfl) (by rfl) rfl (ak _ _ (Ac.le_refl _) ac.has x _ ((Ab Ad (Ab Ad (Ab Ad (Ab Ad (Ab Ad Ad))))):rep h x _) _ fX) fun bq bi bu af bj ad=>?_
 obtain rfl:=af
 refine⟨.one (.c (XR cQ)),rfl,fun bf (aw:Kn _ [(l,0),(m,0),(q,0),(u,z+(x.to_:Int).toNat*1),(aa,ae+Yc place*1)] ((tI 14 cQ)::(tI 27 cJ)::(Ru t_ x e a d)) _)=>hK _ _ ad.plOk ?_⟩
 refine Dr [6,9,19,20] [20,19,9,6,5,18,17,16,15,14,13,12,11,10,8,7,4,3,2,1,0] [tI 8 (Ya ((Ya ((Ya (x.start+cQ))+t_.layover))+cJ))] aw ad fun bp ax=>?_
 refine AL (by kernel_rfl) (wp_ret ?_)
 obtain rfl:=XZ H
 exact rt (.one (.c (XR (Ya ((Ya ((Ya (x.start+cQ))+t_.layover))+cJ))))) ax ad rfl
theorem MY (n:Nat) {h:Ac} {w:World} (hh:CK h w) (x:AH) {hD:Ye} (jC:rep h x hD) {r:Int} (H:Du n x=some r) :
  Calls Tryz.prog 123 #[.agg hD.toArray] w (CP (fun h v=>v=.int .i64 r) h w):=by
 obtain⟨_,_,rfl,rfl,⟨_,_,rfl,rfl,⟨_,_,rfl,rfl,⟨_,_,rfl,rfl,⟨_,_,rfl,rfl,rfl⟩⟩⟩⟩⟩:=jC
 refine enter 5 [.agg (VU x)] Tryz.func123 rfl rfl rfl rfl fun t hk=>?_
 have hm:=Ai.begin h w hh
 unfold Du at H
 refine XT (Aa (wl fun K hK=>?_))
 refine wb (.agg (VU x)) hk hm fun b g k (d:Kn _ [(b,0)] [tP 1 0 0,tA 0 (VU x)] _) a=>hK _ _ ?_
 refine Rk 1 1 [tP 1 0 0] d a fun i e=>?_
 refine wf (XT (Aa (Rk 0 3 [tI 2 x.most] e a fun j f=>?_)))
 refine wf (wp_ret ?_)
 obtain rfl:=XZ H
 exact rt (.one (.c (XR x.most))) f a rfl
theorem MZ (n:Nat) {h:Ac} {w:World} (hh:CK h w) (t_:An) {cN:Ye} (dL:rep h t_ cN) (a:AH) {cs_a:Ye} (hx_a:rep h a cs_a) (b:AH) {iO:Ye} (jT:rep h b iO) {r:Bool} (H:ER n t_ a b=some r) :
  Calls Tryz.prog 103 #[.agg cN.toArray,.agg cs_a.toArray,.agg iO.toArray] w (CP (fun h v=>v=.bool r) h w):=by
 obtain⟨_,_,rfl,rfl,⟨_,_,rfl,rfl,⟨_,_,rfl,⟨d,f,rfl,y⟩,⟨e,g,rfl,z⟩⟩⟩⟩:=dL
 obtain⟨_,_,rfl,rfl,⟨_,_,rfl,rfl,⟨_,_,rfl,rfl,⟨_,_,rfl,rfl,⟨_,_,rfl,rfl,rfl⟩⟩⟩⟩⟩:=hx_a
 obtain⟨_,_,rfl,rfl,⟨_,_,rfl,rfl,⟨_,_,rfl,rfl,⟨_,_,rfl,rfl,⟨_,_,rfl,rfl,rfl⟩⟩⟩⟩⟩:=jT
 refine enter 26 [.agg (NW t_ d f e g),.agg (VU a),.agg (VU b)] Tryz.func103 rfl rfl rfl rfl fun t hk=>?_
 have hm:=Ai.begin h w hh
 unfold ER at H
 refine XT (Aa (wl fun K hK=>?_))
 refine wb (.agg (NW t_ d f e g)) hk hm fun i az bd (ag:Kn _ [(i,0)] [tP 3 0 0,tA 0 (NW t_ d f e g),tA 1 (VU a),tA 2 (VU b)] _) au=>hK _ _ ?_
 refine wl fun K hK=>?_
 refine wb (.agg (VU a)) ag au fun j aw a9 (ah:Kn _ [(i,0),(j,0)] [tP 4 1 0,tP 3 0 0,tA 0 (NW t_ d f e g),tA 1 (VU a),tA 2 (VU b)] _) av=>hK _ _ ?_
 refine wl fun K hK=>?_
 refine wb (.agg (VU b)) ah av fun k ax ba (ai:Kn _ [(i,0),(j,0),(k,0)] [tP 5 2 0,tP 4 1 0,tP 3 0 0,tA 0 (NW t_ d f e g),tA 1 (VU a),tA 2 (VU b)] _) o=>hK _ _ ?_
 refine Rk 3 1 [tP 5 2 0,tP 4 1 0,tP 3 0 0] ai o fun a2 aj=>?_
 refine wf (XT (XT ?_))
 obtain⟨ad,q,H⟩:=Ao H
 refine Ar (fun a' w'=>∃ (aa:Array Value)(l:Ac),a' = ⟨aa,[]⟩∧Kn 26 [(i,0),(j,0),(k,0)] [tP 5 2 0,tP 4 1 0,tP 3 0 0,tB 16 ad] aa∧Ai ⟨w,h,BF⟩ l [(i,0),(j,0),(k,0)] [⟨NW t_ d f e g,some 36⟩,⟨VU a,some 60⟩,⟨VU b,some 60⟩] [] w'∧Ac.le h l) ?_ ?_
 ·
  refine Aa (Rk 0 4 [tB 10 ((a.fr == b.fr) && ((a.to_ == b.to_) && ((a.start == b.start) && ((a.least == b.least) && ((a.most == b.most) && ((a.kind == b.kind) && true)))))),tP 5 2 0,tP 4 1 0,tP 3 0 0] aj o fun ae ab=>?_)
  rcases Y2 (((a.fr == b.fr) && ((a.to_ == b.to_) && ((a.start == b.start) && ((a.least == b.least) && ((a.most == b.most) && ((a.kind == b.kind) && true))))))) with p | p
  ·
   rw [p,XW] at q
   have ak:Kn _ _ [tB 10 true,tP 5 2 0,tP 4 1 0,tP 3 0 0] _:=(ab.setB 10 true (by rfl) p).kp
   refine Rk 4 6 [tB 16 true,tP 5 2 0,tP 4 1 0,tP 3 0 0] ak o fun a3 al=>?_
   refine wf ?_
   obtain rfl:=XZ q
   exact XY _ ⟨_,rfl,al.kp,o,Ac.le_refl _⟩
  rw [p,XV] at q
  have am:Kn _ _ [tB 10 false,tP 5 2 0,tP 4 1 0,tP 3 0 0] _:=(ab.setB 10 false (by rfl) p).kp
  refine Rk 4 6 [tB 16 (a.kind != b.kind),tP 5 2 0,tP 4 1 0,tP 3 0 0] am o fun a4 an=>?_
  refine wf ?_
  obtain rfl:=XZ q
  exact XY _ ⟨_,rfl,an.kp,o,Ac.le_refl _⟩
 rintro _ bb ⟨aa,l,rfl,u,m,ac⟩
 replace y:=y.mono ac
 replace z:=z.mono ac
 refine wC (ad) u (fun s=>?_) (fun s=>?_)
 ·
  rw [Ba s] at H
  refine XT (Aa (Rk 0 1 [tB 6 false] u m fun a5 ao=>?_))
  refine wf (wp_ret ?_)
  obtain rfl:=XZ H
  exact rt (.one (.c (.bool false))) ao m rfl
 rw [Bb s] at H
 refine wp_skip (XT (Au (by kernel_rfl) ?_))
 replace m:=m.drew
 refine Ax [] [(i,0),(j,0),(k,0)] [⟨NW t_ d f e g,some 36⟩,⟨VU a,some 60⟩,⟨VU b,some 60⟩] ?_
 refine Dr [0,1,2,3,4,6,7] [7,6,4,3,2,1,0] [tI 24 b.start,tI 21 b.fr,tA 19 [.func (.func 123) #[] #[]],tA 18 (VU a),tA 17 (NW t_ d f e g)] u m fun a6 ap=>?_
 obtain⟨cB,gL,H⟩:=Ao H
 refine Dl 5 fun K hK=>?_
 refine wc [.agg (NW t_ d f e g),.agg (VU a),.agg [.func (.func 123) #[] #[]],.c (XR b.fr)] ap m (KZ n m.has t_ ((Ab Ad (Ab Ad (Ab (Af y) (Af z)))):rep l t_ _) a ((Ab Ad (Ab Ad (Ab Ad (Ab Ad (Ab Ad Ad))))):rep l a _) (N0.mk (fun(y0:AH)=>Du n y0)) (⟨_,_,_,rfl,(show X4 l (.func (.func 123) #[] #[]) (fun(y0:AH)=>Du n y0) from fun h2 w2 hle hh y0 cs0 hy0 r H=>⟨123,_,_,rfl,fun _ _=>by kernel_rfl,MY n hh y0 hy0 H⟩)⟩:rep l (N0.mk (fun(y0:AH)=>Du n y0)) _) b.fr gL) fun a8 a0 bc af a1 x=>?_
 obtain rfl:=af
 refine⟨.one (.c (XR cB)),rfl,fun ay (aq:Kn _ [(i,0),(j,0),(k,0)] [tI 22 cB,tI 24 b.start,tI 21 b.fr,tA 19 [.func (.func 123) #[] #[]],tA 18 (VU a),tA 17 (NW t_ d f e g)] _)=>hK _ _ x.plOk ?_⟩
 refine Dr [8,9] [9,8,5,7,6,4,3,2,1,0] [tB 6 (decide (cB≤b.start))] aq x fun a7 ar=>?_
 refine AL (by kernel_rfl) (wp_ret ?_)
 obtain rfl:=XZ H
 exact rt (.one (.c (.bool (decide (cB≤b.start))))) ar x rfl
abbrev Py (cH f)(k:Nat)(aB:Int)(g u)(x:Nat)(aD:Int)(q):=([(cH,0),(f,k+Yc aB*6),(g,0),(u,x+Yc aD*6),(q,0)]:AJ)
theorem JE (n:Nat) {h:Ac} {w:World} {σ:Type} {J:σ→Ac→World→Prop} (hJ:Xz J) {l:Nat} (dT:σ→Int→Int→Option (σ×Bool)) (hy:∀ (s:σ)(x0:Int)(x1:Int)(s':σ)(b:Bool)(h:Ac)(w:World),J s h w→dT s x0 x1=some (s',b)→Yields Tryz.prog l #[.int .i64 x0,.int .i64 x1] w (fun c w'=>c=b∧∃ h',Ac.le h h'∧J s' h' w')) (s:σ) (hw:J s h w) (q0:An) {cH:Nat} (fA:B9 h cH q0) {r:σ} (H:Ef n dT s q0=some r) :
  Calls Tryz.prog 102 #[.func (.yield l) #[] #[],.pointer (some ⟨cH,0,none⟩)] w (fun en w'=>en=.returned (.tuple #[])∧∃ h',Ac.le h h'∧J r h' w'):=by
 obtain⟨_,fB,fC⟩:=id fA
 obtain⟨_,_,rfl,rfl,⟨_,_,rfl,rfl,⟨_,_,rfl,⟨p,v,rfl,ab⟩,⟨a,d,rfl,z⟩⟩⟩⟩:=fB
 have hh:=hJ.has _ _ _ hw
 refine DZ (e:=[(cH,0)]) 36 [.c (.func (.yield l) #[] #[]),.c (.ptr 0 0)] Tryz.func102 rfl rfl rfl rfl fun t hk=>?_
 have hm:=Ai.begin h w hh
 replace hm:=hm.addPlc (o:=0) (cs:=[XR q0.places,XR q0.layover,Yb p q0.empty.length v,Yb a q0.trips.length d]) (fun j c hj=>by rw [Y3]; exact fC j _ (Ak hj)) rfl (by kernel_rfl) (by kernel_rfl)
 replace hm:Ai _ _ [(cH,0)] [⟨NW q0 p v a d,none⟩] [] _:=hm
 unfold Ef at H
 refine XT (Aa (Rk 0 4 [tI 10 0,tI 9 ((q0.trips.length:Nat):Int),tS 8 a q0.trips.length d,(0,.one (.c (.func (.yield l) #[] #[]))),tP 1 0 0] hk hm fun ef c5=>?_))
 refine wf ?_
 obtain⟨b4,bn,H⟩:=Ao H
 refine Ar (fun a' w'=>∃ (a1:σ)(bm:World)(bb:Ac)(bh:Array Value)(aq:Ac),a' = ⟨bh,[]⟩∧Kn 36 [(cH,0)] [] bh∧Ai ⟨bm,bb,BF⟩ aq [(cH,0)] [⟨NW q0 p v a d,none⟩] [] w'∧Ac.le h aq∧J a1 bb bm∧b4=.go a1) ?_ ?_
 ·
  refine wp_block ?_
  refine Av (fun dj a' w'=>∃ (aB:Int)(aA:σ)(aj:World)(af:Ac)(bi:Array Value)(a6:Ac),a' = ⟨bi,[]⟩∧Kn 36 [(cH,0)] [tI 10 aB,tI 9 ((q0.trips.length:Nat):Int),tS 8 a q0.trips.length d,(0,.one (.c (.func (.yield l) #[] #[]))),tP 1 0 0] bi∧Ai ⟨aj,af,BF⟩ a6 [(cH,0)] [⟨NW q0 p v a d,none⟩] [] w'∧Ac.le h a6∧J aA af aj∧Br dj dT q0 aB aA=some b4) n ?_ ?_
  ·
   exact XY 0 ⟨s,w,h,_,_,rfl,c5.kp,hm,Ac.le_refl _,hw,bn⟩
  rintro a0 _ eo ⟨aB,aA,aj,af,bi,a6,rfl,cw,ay,ah,bp,y⟩
  clear bn
  obtain _ | a0:=a0
  ·
   rw [Br] at y; cases y
  rw [Br] at y
  replace ab:=ab.mono ah
  replace z:=z.mono ah
  refine XT (Aa (Rk 0 1 [tB 11 (decide (aB<((q0.trips.length:Nat):Int))),tI 10 aB,tI 9 ((q0.trips.length:Nat):Int),tS 8 a q0.trips.length d,(0,.one (.c (.func (.yield l) #[] #[]))),tP 1 0 0] cw ay fun eb bc=>?_))
  refine wf (XT (wC (decide (aB<((q0.trips.length:Nat):Int))) bc (fun a9=>?_) (fun a9=>?_)))
  ·
   rw [a9,XW] at y
   refine wp_skip (XT (wp_block (XT (Aa (Rk 0 1 [tI 12 aB,tI 10 aB,tI 9 ((q0.trips.length:Nat):Int),tS 8 a q0.trips.length d,(0,.one (.c (.func (.yield l) #[] #[]))),tP 1 0 0] bc ay fun ec cx=>?_)))))
   obtain⟨cC,fY,y⟩:=Ao y
   obtain⟨dc,de,di⟩:=Aj fY
   obtain⟨f,k,dx,cb,df,cd⟩:=z.get (by decide) di
   obtain⟨_,_,rfl,rfl,⟨_,_,rfl,rfl,⟨_,_,rfl,rfl,⟨_,_,rfl,rfl,⟨_,_,rfl,rfl,rfl⟩⟩⟩⟩⟩:=df
   have b1:=ay.addPlc (b:=f) (o:=k+Yc aB*6) (cs:=(VU cC)) (fun j c hj=>cd j _ (Ak hj)) rfl (by kernel_rfl) (by kernel_rfl)
   refine A9 1 (aB) rfl rfl (rfl) rfl (by decide) cx (by rfl) (by rfl) (by rfl) cb (by rfl) dc de (by kernel_rfl) fun dr (cy:Kn _ [(cH,0),(f,k+Yc aB*6)] [tP 13 1 0,tI 12 aB,tI 10 aB,tI 9 ((q0.trips.length:Nat):Int),tS 8 a q0.trips.length d,(0,.one (.c (.func (.yield l) #[] #[]))),tP 1 0 0] _)=>?_
   refine Rk 2 1 [tA 14 (VU cC),tI 12 aB,tI 10 aB,tI 9 ((q0.trips.length:Nat):Int),tS 8 a q0.trips.length d,(0,.one (.c (.func (.yield l) #[] #[]))),tP 1 0 0] cy b1 fun ed cz=>?_
   refine wl fun K hK=>?_
   refine wa [XR 0,XR 0,XR 0,XR 0,XR 0,XR 0] cz b1 fun g ds ep (c0:Kn _ (UR cH f k aB g) [tP 4 2 0,tA 14 (VU cC),tI 12 aB,tI 10 aB,tI 9 ((q0.trips.length:Nat):Int),tS 8 a q0.trips.length d,(0,.one (.c (.func (.yield l) #[] #[]))),tP 1 0 0] _) b2=>hK _ _ ?_
   refine Rk 4 1 [tI 3 aB,tP 4 2 0,tA 14 (VU cC),tI 10 aB,tI 9 ((q0.trips.length:Nat):Int),tS 8 a q0.trips.length d,(0,.one (.c (.func (.yield l) #[] #[]))),tP 1 0 0] c0 b2 fun dt c1=>?_
   refine wl fun K hK=>?_
   refine DT 2 0 (.agg (VU cC)) (VU cC) c1 b2 fun dv c2 b3=>hK _ _ ?_
   have c3:Kn _ _ [tI 3 aB,tP 4 2 0,tI 10 aB,tI 9 ((q0.trips.length:Nat):Int),tS 8 a q0.trips.length d,(0,.one (.c (.func (.yield l) #[] #[]))),tP 1 0 0] _:=c2.kp
   refine wf (XT (Aa (Rk 0 4 [tI 18 0,tI 17 ((q0.trips.length:Nat):Int),tS 16 a q0.trips.length d,tI 3 aB,tP 4 2 0,tI 10 aB,tI 9 ((q0.trips.length:Nat):Int),tS 8 a q0.trips.length d,(0,.one (.c (.func (.yield l) #[] #[]))),tP 1 0 0] c3 b3 fun ee c4=>?_)))
   refine wf ?_
   obtain⟨ad,am,br,bg⟩:=b3.settlePlc (i:=2) rfl
   replace ab:=ab.mono am
   replace z:=z.mono am
   replace bg:Ai _ _ (UR cH f k aB g) [⟨NW q0 p v a d,none⟩,⟨VU cC,none⟩,⟨VU cC,none⟩] [] _:=bg
   have ar:B9 ad g (cC:AH):=B9.of (e:=(UR cH f k aB g)) (cs:=(VU cC)) ((Ab Ad (Ab Ad (Ab Ad (Ab Ad (Ab Ad Ad))))):rep ad (cC:AH) _) rfl br
   have av:As ad g [.int .i64 cC.fr,.int .i64 cC.to_,.int .i64 cC.start,.int .i64 cC.least,.int .i64 cC.most,.int .i64 cC.kind]:=As.of (e:=[(cH,0),(f,k+Yc aB*6),(g,0)]) (cs:=[.int .i64 cC.fr,.int .i64 cC.to_,.int .i64 cC.start,.int .i64 cC.least,.int .i64 cC.most,.int .i64 cC.kind]) rfl br
   obtain⟨b5,bo,y⟩:=Ao y
   refine Ar (fun a' w'=>∃ (a2:σ)(a3:World)(au:Ac)(bj:Array Value)(a7:Ac),a' = ⟨bj,[]⟩∧Kn 36 (UR cH f k aB g) [tI 10 aB,tI 9 ((q0.trips.length:Nat):Int),tS 8 a q0.trips.length d,(0,.one (.c (.func (.yield l) #[] #[]))),tP 1 0 0] bj∧Ai ⟨a3,au,BF⟩ a7 (UR cH f k aB g) [⟨NW q0 p v a d,none⟩,⟨VU cC,none⟩,⟨VU cC,none⟩] [] w'∧Ac.le ad a7∧J a2 au a3∧b5=.go a2) ?_ ?_
   ·
    refine wp_block ?_
    refine Av (fun dk a' w'=>∃ (aD:Int)(aE:σ)(ak:World)(ag:Ac)(bk:Array Value)(ae:Ac),a' = ⟨bk,[]⟩∧Kn 36 (UR cH f k aB g) [tI 18 aD,tI 17 ((q0.trips.length:Nat):Int),tS 16 a q0.trips.length d,tI 3 aB,tP 4 2 0,tI 10 aB,tI 9 ((q0.trips.length:Nat):Int),tS 8 a q0.trips.length d,(0,.one (.c (.func (.yield l) #[] #[]))),tP 1 0 0] bk∧Ai ⟨ak,ag,BF⟩ ae (UR cH f k aB g) [⟨NW q0 p v a d,none⟩,⟨VU cC,none⟩,⟨VU cC,none⟩] [] w'∧Ac.le ad ae∧J aE ag ak∧Bq dk dT q0 aB cC aD aE=some b5) a0 ?_ ?_
    ·
     exact XY 0 ⟨aA,aj,af,_,_,rfl,c4.kp,bg,Ac.le_refl _,bp,bo⟩
    rintro an _ er ⟨aD,aE,ak,ag,bk,ae,rfl,c6,az,aa,a5,m⟩
    clear bo
    obtain _ | an:=an
    ·
     rw [Bq] at m; cases m
    rw [Bq] at m
    replace ab:=ab.mono aa
    replace z:=z.mono aa
    refine XT (Aa (Rk 0 1 [tB 19 (decide (aD<((q0.trips.length:Nat):Int))),tI 18 aD,tI 17 ((q0.trips.length:Nat):Int),tS 16 a q0.trips.length d,tI 3 aB,tP 4 2 0,tI 10 aB,tI 9 ((q0.trips.length:Nat):Int),tS 8 a q0.trips.length d,(0,.one (.c (.func (.yield l) #[] #[]))),tP 1 0 0] c6 az fun eg bd=>?_))
    refine wf (XT (wC (decide (aD<((q0.trips.length:Nat):Int))) bd (fun ba=>?_) (fun ba=>?_)))
    ·
     rw [ba,XW] at m
     refine wp_skip (XT (wp_block (XT (Aa (Rk 0 1 [tI 20 aD,tI 18 aD,tI 17 ((q0.trips.length:Nat):Int),tS 16 a q0.trips.length d,tI 3 aB,tP 4 2 0,tI 10 aB,tI 9 ((q0.trips.length:Nat):Int),tS 8 a q0.trips.length d,(0,.one (.c (.func (.yield l) #[] #[]))),tP 1 0 0] bd az fun eh c7=>?_)))))
     obtain⟨cR,iY,m⟩:=Ao m
     obtain⟨db,dd,dh⟩:=Aj iY
     obtain⟨u,x,dy,cc,dg,ce⟩:=z.get (by decide) dh
     obtain⟨_,_,rfl,rfl,⟨_,_,rfl,rfl,⟨_,_,rfl,rfl,⟨_,_,rfl,rfl,⟨_,_,rfl,rfl,rfl⟩⟩⟩⟩⟩:=dg
     have bx:=az.addPlc (b:=u) (o:=x+Yc aD*6) (cs:=(VU cR)) (fun j c hj=>ce j _ (Ak hj)) rfl (by kernel_rfl) (by kernel_rfl)
     refine A9 1 (aD) rfl rfl (rfl) rfl (by decide) c7 (by rfl) (by rfl) (by rfl) cc (by rfl) db dd (by kernel_rfl) fun dl (cf:Kn _ [(cH,0),(f,k+Yc aB*6),(g,0),(u,x+Yc aD*6)] [tP 21 3 0,tI 20 aD,tI 18 aD,tI 17 ((q0.trips.length:Nat):Int),tS 16 a q0.trips.length d,tI 3 aB,tP 4 2 0,tI 10 aB,tI 9 ((q0.trips.length:Nat):Int),tS 8 a q0.trips.length d,(0,.one (.c (.func (.yield l) #[] #[]))),tP 1 0 0] _)=>?_
     refine Rk 2 1 [tA 22 (VU cR),tI 20 aD,tI 18 aD,tI 17 ((q0.trips.length:Nat):Int),tS 16 a q0.trips.length d,tI 3 aB,tP 4 2 0,tI 10 aB,tI 9 ((q0.trips.length:Nat):Int),tS 8 a q0.trips.length d,(0,.one (.c (.func (.yield l) #[] #[]))),tP 1 0 0] cf bx fun d3 cg=>?_
     refine wl fun K hK=>?_
     refine wa [XR 0,XR 0,XR 0,XR 0,XR 0,XR 0] cg bx fun q dm ej (ch:Kn _ (Py cH f k aB g u x aD q) [tP 6 4 0,tA 22 (VU cR),tI 20 aD,tI 18 aD,tI 17 ((q0.trips.length:Nat):Int),tS 16 a q0.trips.length d,tI 3 aB,tP 4 2 0,tI 10 aB,tI 9 ((q0.trips.length:Nat):Int),tS 8 a q0.trips.length d,(0,.one (.c (.func (.yield l) #[] #[]))),tP 1 0 0] _) bz=>hK _ _ ?_
     refine Rk 4 1 [tI 5 aD,tP 6 4 0,tA 22 (VU cR),tI 18 aD,tI 17 ((q0.trips.length:Nat):Int),tS 16 a q0.trips.length d,tI 3 aB,tP 4 2 0,tI 10 aB,tI 9 ((q0.trips.length:Nat):Int),tS 8 a q0.trips.length d,(0,.one (.c (.func (.yield l) #[] #[]))),tP 1 0 0] ch bz fun dn ci=>?_
     refine wl fun K hK=>?_
     refine DT 4 0 (.agg (VU cR)) (VU cR) ci bz fun ek cj bf=>hK _ _ ?_
     have ck:Kn _ _ [tI 5 aD,tP 6 4 0,tI 18 aD,tI 17 ((q0.trips.length:Nat):Int),tS 16 a q0.trips.length d,tI 3 aB,tP 4 2 0,tI 10 aB,tI 9 ((q0.trips.length:Nat):Int),tS 8 a q0.trips.length d,(0,.one (.c (.func (.yield l) #[] #[]))),tP 1 0 0] _:=cj.kp
     refine wf (XT (IA ?_))
     refine Iz 0 3 [25,24,23,5,18,17,16,3,4,10,9,8,0,1] [tA 25 (VU cR),tA 24 (VU cC),tA 23 (NW q0 p v a d),tI 5 aD,tI 18 aD,tI 17 ((q0.trips.length:Nat):Int),tS 16 a q0.trips.length d,tI 3 aB,tP 4 2 0,tI 10 aB,tI 9 ((q0.trips.length:Nat):Int),tS 8 a q0.trips.length d,(0,.one (.c (.func (.yield l) #[] #[]))),tP 1 0 0] ck bf.plOk (by kernel_rfl) fun d4 cl=>?_
     obtain⟨cJ,gD,m⟩:=Ao m
     refine QY _ rfl (rfl) fun K hK=>?_
     refine wc [.agg (NW q0 p v a d),.agg (VU cC),.agg (VU cR)] cl bf (MZ an bf.has q0 ((Ab Ad (Ab Ad (Ab (Af ab) (Af z)))):rep ae q0 _) cC ((Ab Ad (Ab Ad (Ab Ad (Ab Ad (Ab Ad Ad))))):rep ae cC _) cR ((Ab Ad (Ab Ad (Ab Ad (Ab Ad (Ab Ad Ad))))):rep ae cR _) gD) fun ei dz du b9 ac ai=>?_
     obtain rfl:=b9
     refine⟨.one (.c (.bool cJ)),rfl,fun dp (cm:Kn _ (Py cH f k aB g u x aD q) [tB 26 cJ,tA 25 (VU cR),tA 24 (VU cC),tA 23 (NW q0 p v a d),tI 5 aD,tI 18 aD,tI 17 ((q0.trips.length:Nat):Int),tS 16 a q0.trips.length d,tI 3 aB,tP 4 2 0,tI 10 aB,tI 9 ((q0.trips.length:Nat):Int),tS 8 a q0.trips.length d,(0,.one (.c (.func (.yield l) #[] #[]))),tP 1 0 0] _)=>hK _ _ ?_⟩
     refine Iz 4 1 [27,5,18,17,16,3,4,10,9,8,0,1] [tB 27 cJ,tI 5 aD,tI 18 aD,tI 17 ((q0.trips.length:Nat):Int),tS 16 a q0.trips.length d,tI 3 aB,tP 4 2 0,tI 10 aB,tI 9 ((q0.trips.length:Nat):Int),tS 8 a q0.trips.length d,(0,.one (.c (.func (.yield l) #[] #[]))),tP 1 0 0] cm ai.plOk (by kernel_rfl) fun b6 bs=>?_
     rcases Y2 (cJ) with al | al
     ·
      rw [Ba al] at m
      have cn:Kn _ _ [tB 27 true,tI 5 aD,tI 18 aD,tI 17 ((q0.trips.length:Nat):Int),tS 16 a q0.trips.length d,tI 3 aB,tP 4 2 0,tI 10 aB,tI 9 ((q0.trips.length:Nat):Int),tS 8 a q0.trips.length d,(0,.one (.c (.func (.yield l) #[] #[]))),tP 1 0 0] _:=(bs.setB 27 true (by rfl) al).kp
      refine Iz 5 3 [30,29,28,27,18,17,16,3,4,10,9,8,0,1] [tI 30 aD,tI 29 aB,(28,.one (.c (.func (.yield l) #[] #[]))),tB 27 true,tI 18 aD,tI 17 ((q0.trips.length:Nat):Int),tS 16 a q0.trips.length d,tI 3 aB,tP 4 2 0,tI 10 aB,tI 9 ((q0.trips.length:Nat):Int),tS 8 a q0.trips.length d,(0,.one (.c (.func (.yield l) #[] #[]))),tP 1 0 0] cn ai.plOk (by kernel_rfl) fun d5 bt=>?_
      obtain⟨ao,bw,bq,aw⟩:=ai.settlePlc (i:=4) rfl
      replace aw:Ai _ _ (Py cH f k aB g u x aD q) [⟨NW q0 p v a d,none⟩,⟨VU cC,none⟩,⟨VU cC,none⟩,⟨VU cR,none⟩,⟨VU cR,none⟩] [] _:=aw
      have d0:B9 ao q (cR:AH):=B9.of (e:=(Py cH f k aB g u x aD q)) (cs:=(VU cR)) ((Ab Ad (Ab Ad (Ab Ad (Ab Ad (Ab Ad Ad))))):rep ao (cR:AH) _) rfl bq
      have d1:As ao q [.int .i64 cR.fr,.int .i64 cR.to_,.int .i64 cR.start,.int .i64 cR.least,.int .i64 cR.most,.int .i64 cR.kind]:=As.of (e:=[(cH,0),(f,k+Yc aB*6),(g,0),(u,x+Yc aD*6),(q,0)]) (cs:=[.int .i64 cR.fr,.int .i64 cR.to_,.int .i64 cR.start,.int .i64 cR.least,.int .i64 cR.most,.int .i64 cR.kind]) rfl bq
      obtain⟨eH,jF,m⟩:=Ao m
      refine Sr 8 [.c (XR aB),.c (XR aD)] _ bt rfl rfl (Al bt (by kernel_rfl)) rfl (by decide) (by rfl) (by rfl) rfl (hy _ aB aD _ _ _ _ (aw.J hJ a5) jF) fun dw bl ca dq co=>?_
      obtain⟨rfl,ap,be,a4⟩:=ca
      have cp:Kn _ _ [tB 31 eH.2,tI 30 aD,tI 29 aB,(28,.one (.c (.func (.yield l) #[] #[]))),tB 27 true,tI 18 aD,tI 17 ((q0.trips.length:Nat):Int),tS 16 a q0.trips.length d,tI 3 aB,tP 4 2 0,tI 10 aB,tI 9 ((q0.trips.length:Nat):Int),tS 8 a q0.trips.length d,(0,.one (.c (.func (.yield l) #[] #[]))),tP 1 0 0] _:=co.kp
      have ax:Ai _ _ (Py cH f k aB g u x aD q) [⟨NW q0 p v a d,none⟩,⟨VU cC,none⟩,⟨VU cC,none⟩,⟨VU cR,none⟩,⟨VU cR,none⟩] [] _:=aw.rebase be (hJ.has _ _ _ a4) (by kernel_rfl)
      refine Iz 9 2 [33,18,17,16,3,4,10,9,8,0,1] [tB 33 (!eH.2),tI 18 aD,tI 17 ((q0.trips.length:Nat):Int),tS 16 a q0.trips.length d,tI 3 aB,tP 4 2 0,tI 10 aB,tI 9 ((q0.trips.length:Nat):Int),tS 8 a q0.trips.length d,(0,.one (.c (.func (.yield l) #[] #[]))),tP 1 0 0] cp ax.plOk (by kernel_rfl) fun d6 bu=>?_
      refine Ju (by decide) (wC ((!eH.2)) bu (fun a8=>?_) (fun a8=>?_))
      ·
       rw [a8,XW] at m
       refine wp_ret ?_
       obtain rfl:=XZ m
       obtain rfl:=XZ y
       obtain rfl:=XZ H
       exact VF (J:=fun w'=>∃ h',Ac.le h h'∧J eH.1 h' w') rfl ⟨ap,XU ah (XU am (XU aa (XU ac (XU bw be)))),ax.J hJ a4⟩
      rw [a8,XV] at m
      refine wp_skip (Aa (Rk 0 2 [tI 18 (Ya (aD+1)),tI 17 ((q0.trips.length:Nat):Int),tS 16 a q0.trips.length d,tI 3 aB,tP 4 2 0,tI 10 aB,tI 9 ((q0.trips.length:Nat):Int),tS 8 a q0.trips.length d,(0,.one (.c (.func (.yield l) #[] #[]))),tP 1 0 0] bu ax fun d7 cq=>?_))
      refine wf ?_
      exact XY an ⟨Y4 _,XY (Ya (aD+1)) ⟨eH.1,bl,ap,_,_,rfl,(cq.keep [18,17,16,3,4,10,9,8,0,1] (by rfl)).cut 3 (by kernel_rfl),ax.cutPl 3 (by kernel_rfl),XU aa (XU ac (XU bw be)),a4,m⟩⟩
     rw [Bb al] at m
     have cr:Kn _ _ [tB 27 false,tI 5 aD,tI 18 aD,tI 17 ((q0.trips.length:Nat):Int),tS 16 a q0.trips.length d,tI 3 aB,tP 4 2 0,tI 10 aB,tI 9 ((q0.trips.length:Nat):Int),tS 8 a q0.trips.length d,(0,.one (.c (.func (.yield l) #[] #[]))),tP 1 0 0] _:=(bs.setB 27 false (by rfl) al).kp
     refine Iz 5 6 [33,18,17,16,3,4,10,9,8,0,1] [tB 33 false,tI 18 aD,tI 17 ((q0.trips.length:Nat):Int),tS 16 a q0.trips.length d,tI 3 aB,tP 4 2 0,tI 10 aB,tI 9 ((q0.trips.length:Nat):Int),tS 8 a q0.trips.length d,(0,.one (.c (.func (.yield l) #[] #[]))),tP 1 0 0] cr ai.plOk (by kernel_rfl) fun d8 bv=>?_
     refine Ju (by decide) (wC false bv (fun hb=>?_) (fun hb=>?_))
     ·
      cases hb
     refine wp_skip (Aa (Rk 0 2 [tI 18 (Ya (aD+1)),tI 17 ((q0.trips.length:Nat):Int),tS 16 a q0.trips.length d,tI 3 aB,tP 4 2 0,tI 10 aB,tI 9 ((q0.trips.length:Nat):Int),tS 8 a q0.trips.length d,(0,.one (.c (.func (.yield l) #[] #[]))),tP 1 0 0] bv ai fun d9 ct=>?_))
     refine wf ?_
     exact XY an ⟨Y4 _,XY (Ya (aD+1)) ⟨aE,ak,ag,_,_,rfl,(ct.keep [18,17,16,3,4,10,9,8,0,1] (by rfl)).cut 3 (by kernel_rfl),ai.cutPl 3 (by kernel_rfl),XU aa ac,a5,m⟩⟩
    rw [ba,XV] at m
    refine wp_exit ?_
    obtain rfl:=XZ m
    exact XY aE ⟨ak,ag,_,_,rfl,bd.kp,az,aa,a5,rfl⟩
   rintro _ el ⟨a2,a3,au,bj,a7,rfl,cu,b0,c8,b8,rfl⟩
   rw [Ex.bind_go] at y
   refine Aa (Rk 0 2 [tI 10 (Ya (aB+1)),tI 9 ((q0.trips.length:Nat):Int),tS 8 a q0.trips.length d,(0,.one (.c (.func (.yield l) #[] #[]))),tP 1 0 0] cu b0 fun ea cv=>?_)
   refine wf ?_
   exact XY a0 ⟨Y4 _,XY (Ya (aB+1)) ⟨a2,a3,au,_,_,rfl,(cv.keep [10,9,8,0,1] (by rfl)).cut 1 (by kernel_rfl),b0.cutPl 1 (by kernel_rfl),XU ah (XU am c8),b8,y⟩⟩
  rw [a9,XV] at y
  refine wp_exit ?_
  obtain rfl:=XZ y
  exact XY aA ⟨aj,af,_,_,rfl,bc.kp,ay,ah,bp,rfl⟩
 rintro _ em ⟨a1,bm,bb,bh,aq,rfl,d2,da,c9,b7,rfl⟩
 rw [Ex.bind_go] at H
 obtain rfl:=XZ H
 exact VE (J:=fun w'=>∃ h',Ac.le h h'∧J a1 h' w') rfl ⟨aq,c9,da.J hJ b7⟩
theorem Lc (n:Nat) {h:Ac} {w:World} (hh:CK h w) (t_:An) {cN:Ye} (dL:rep h t_ cN) {r:An} (H:Fg n t_=some r) :
  Calls Tryz.prog 78 #[.agg cN.toArray] w (CP (fun h v=>∃ b0:Nat,v=.func (.func 102) #[] #[.pointer (some ⟨b0,0,none⟩)]∧B9 h b0 r) h w):=by
 obtain⟨_,_,rfl,rfl,⟨_,_,rfl,rfl,⟨_,_,rfl,⟨b,f,rfl,l⟩,⟨d,g,rfl,m⟩⟩⟩⟩:=dL
 refine enter 4 [.agg (NW t_ b f d g)] Tryz.func78 rfl rfl rfl rfl fun t hk=>?_
 have hm:=Ai.begin h w hh
 unfold Fg at H
 refine XT (Aa (wl fun K hK=>?_))
 refine wb (.agg (NW t_ b f d g)) hk hm fun a ab ac (u:Kn _ [(a,0)] [tP 1 0 0,tA 0 (NW t_ b f d g)] _) q=>hK _ _ ?_
 refine Rk 1 1 [tP 1 0 0] u q fun ae x=>?_
 refine wf (XT (Aa ?_))
 obtain⟨j,p,o,k⟩:=q.settlePlc (i:=0) rfl
 replace l:=l.mono p
 replace m:=m.mono p
 replace k:Ai _ _ [(a,0)] [⟨NW t_ b f d g,none⟩] [] _:=k
 have s:B9 j a (t_:An):=B9.of (e:=[(a,0)]) (cs:=(NW t_ b f d g)) ((Ab Ad (Ab Ad (Ab (Af l) (Af m)))):rep j (t_:An) _) rfl o
 have ad:As j a [.int .i64 t_.places,.int .i64 t_.layover,.slice b t_.empty.length f,.slice d t_.trips.length g]:=As.of (e:=[(a,0)]) (cs:=[.int .i64 t_.places,.int .i64 t_.layover,.slice b t_.empty.length f,.slice d t_.trips.length g]) rfl o
 refine Ey 0 #[] #[.pointer (some ⟨a,0,none⟩)] x rfl rfl (rfl) rfl (by decide) (by rfl) (by rfl) (by rfl) (by rfl) fun aa (y:Kn _ [(a,0)] [(3,.one (.c (.func (.func 102) #[] #[.pointer (some ⟨a,0,none⟩)]))),tP 1 0 0] _)=>?_
 refine Rk 1 1 [(2,.one (.c (.func (.func 102) #[] #[.pointer (some ⟨a,0,none⟩)])))] y k fun af z=>?_
 refine wf (wp_ret ?_)
 obtain rfl:=XZ H
 exact rt (.one (.c (.func (.func 102) #[] #[.pointer (some ⟨a,0,none⟩)]))) z k ⟨_,rfl,s⟩
theorem Bt (n:Nat) {h:Ac} {w:World} (hh:CK h w) (t_:An) {cN:Ye} (dL:rep h t_ cN) {r:List (List Int)} (H:Di n t_=some r) :
  Calls Tryz.prog 46 #[.agg cN.toArray] w (CP (fun h v=>∃ a c,v=.slice a r.length c∧At h a c r) h w):=by
 obtain⟨_,_,rfl,rfl,⟨_,_,rfl,rfl,⟨_,_,rfl,⟨q,y,rfl,bo⟩,⟨u,z,rfl,bp⟩⟩⟩⟩:=dL
 refine QZ (e:=[]) 25 [.agg (NW t_ q y u z)] Tryz.func46 rfl rfl rfl rfl fun t hk=>?_
 have hm:=Ai.begin h w hh
 unfold Di at H
 refine XT (Aa (wl fun K hK=>?_))
 refine wb (.agg (NW t_ q y u z)) hk hm fun m ek fj (da:Kn _ [(m,0)] [tP 1 0 0,tA 0 (NW t_ q y u z)] _) bi=>hK _ _ ?_
 refine Rk 1 1 [tP 1 0 0] da bi fun e5 dd=>?_
 refine wf (XT (Aa (Rk 0 3 [tI 8 ((t_.trips.length:Nat):Int),tP 1 0 0] dd bi fun e6 dh=>?_)))
 obtain⟨x9,kW,H⟩:=Ao H
 obtain⟨ec,ed,cg⟩:=Oe kW
 refine wl fun K hK=>?_
 refine GJ 26 1 24 [Yb none 0 0] (((t_.trips.length:Nat):Int)) dh bi rfl rfl (by decide) (by rfl) (by kernel_rfl) (by kernel_rfl) (by rfl) ec ed (by decide) fun aq ej cl (b4:Kn _ [(m,0)] [(9,.one (.c (Yb aq ((((t_.trips.length:Nat):Int):Int).toNat) ((((t_.trips.length:Nat):Int):Int).toNat)))),(8,.one (.c (XR ((t_.trips.length:Nat):Int)))),(1,.one (.c (.ptr 0 0)))] _) (d8:Ai _ _ [(m,0)] [⟨[XR t_.places,XR t_.layover,Yb q t_.empty.length y,Yb u t_.trips.length z],some 36⟩] [⟨aq,(((t_.trips.length:Nat):Int):Int).toNat,(((t_.trips.length:Nat):Int):Int).toNat,26,1,List.flatten (List.replicate (((t_.trips.length:Nat):Int):Int).toNat ([.slice none 0 0]:Ye)),0⟩] _)=>?_
 have dx:(((t_.trips.length:Nat):Int):Int).toNat=x9.length:=by rw [cg]; simp
 obtain⟨bb,be,bk⟩:=EM.make (g:=Pe) (pr:=XD) (rw:=[]) (x:=(([]:List Int):List Int)) 3 1 rfl rfl cg d8
 rw [dx] at b4
 replace bk:Ai _ _ [(m,0)] [⟨NW t_ q y u z,some 36⟩] (⟨aq,x9.length,x9.length,26,1,B2 Pe bb x9,0⟩::bb) _:=bk
 refine hK _ _ ?_
 refine wl fun K hK=>?_
 refine wa [Yb none 0 0] b4 bk fun p ci fh (dj:Kn _ [(m,0),(p,0)] [tP 3 1 0,tS 9 aq x9.length x9.length,tI 8 ((t_.trips.length:Nat):Int),tP 1 0 0] _) d9=>hK _ _ ?_
 refine wl fun K hK=>?_
 refine DT 1 0 (.c (Yb aq x9.length x9.length)) [Yb aq x9.length x9.length] dj d9 fun fi dk bl=>hK _ _ ?_
 have dl:Kn _ _ [tP 3 1 0,tP 1 0 0] _:=dk.kp
 refine wf (XT (XT (Aa (Rk 0 1 [tA 10 (NW t_ q y u z),tP 3 1 0] dl bl fun e8 dm=>?_))))
 obtain⟨cY,gR,H⟩:=Ao H
 refine wl fun K hK=>?_
 refine wc [.agg (NW t_ q y u z)] dm bl (Lc n bl.has t_ ((Ab Ad (Ab Ad (Ab (Af bo) (Af bp)))):rep h t_ _) gR) fun fd c1 au cx bg ea=>?_
 replace be:=be.mono bg
 obtain⟨a2,rfl,c2⟩:=cx
 refine⟨.one (.c (.func (.func 102) #[] #[.pointer (some ⟨a2,0,none⟩)])),rfl,fun cj (dp:Kn _ [(m,0),(p,0)] [(11,.one (.c (.func (.func 102) #[] #[.pointer (some ⟨a2,0,none⟩)]))),tA 10 (NW t_ q y u z),tP 3 1 0] _)=>hK _ _ ?_⟩
 have bf:Kn _ _ [(11,.one (.c (.func (.func 102) #[] #[.pointer (some ⟨a2,0,none⟩)]))),tP 3 1 0] _:=dp.kp
 refine wf (wp_block ?_)
 obtain⟨ab,ct,H⟩:=Ao H
 refine MN (.func (.func 102) #[] #[.pointer (some ⟨a2,0,none⟩)]) bf (by rfl) rfl (fun _ _=>by kernel_rfl) fun al ce=>?_
 obtain⟨co,d2,es,eb⟩:=Ai.loopBegin ea (Gp.nil _) ⟨rfl,rfl⟩ al
 have cw:Xz (fun(s:List (List Int))(h':Ac)(w':World)=>∃ (Fj:Fr)(d:Yd)(l:Nat)(aa:List Ca),I1 w h Fj ((au).heap.size+1) al ((au).heap.size::([]:List Nat))∧Ai Fj h' [(m,0),(p,0)] [⟨NW t_ q y u z,some 36⟩,⟨[Yb d s.length l],some 22⟩] (⟨d,s.length,l,26,1,B2 Pe aa s,0⟩::aa) w'∧EM XD 3 1 h' aa s∧Ac.le c1 h'):=⟨fun s h' w' hj=>by obtain⟨_,d,l,aa,_,hm,ak,_⟩:=hj; exact hm.has,fun s h' h'' w' w'' hj hb hle hn=>by obtain⟨Fj,d,l,aa,hlf,hm,ak,hle0⟩:=hj; exact⟨Fj,d,l,aa,hlf,hm.call hb hle hn,ak.mono hle,XU hle0 hle⟩⟩
 refine⟨_,JE n cw (fun(s:List (List Int))(cI:Int)(cC:Int)=>((((Bm s cI).bind fun cS =>
    ((Ih cS ([cC]:List Int)).bind fun cB =>
    ((Bm s cI).bind fun eS =>
    ((upd s cI cB).bind fun ac =>
    some ac)))):Option (List (List Int))).bind fun s1=>some (s1,true))) ?_ x9 ⟨co,aq,x9.length,bb,d2,eb,be,Ac.le_refl _⟩ cY c2 ct,?_⟩
 ·
  intro s cI cC s' eo ai cm c9  ba
  obtain⟨cp,d,l,aa,bh,ar,ak,d0⟩:=c9
  obtain⟨e4,aj,ba⟩:=Ao ba
  cases ba
  replace ar:Ai _ _ [(m,0),(p,0)] [⟨NW t_ q y u z,some 36⟩,⟨[Yb d s.length l],some 22⟩] (⟨d,s.length,l,26,1,B2 Pe aa s,0⟩::aa) _:=ar
  refine W7 ce (ar.ext bh.loop) ?_
  have dq:Kn _ [(m,0),(p,0)] [tI 13 cC,tI 12 cI,tP 3 1 0] _:=((bf.kp.put (k:=12) (by decide) (.one (.c (XR cI)))).put (k:=13) (by decide) (.one (.c (XR cC))))
  refine F9 (AI (by kernel_rfl) (Rk 0 1 [tI 4 cI,tI 13 cC,tP 3 1 0] dq ar fun e9 dr=>?_))
  refine wf (AI (by kernel_rfl) (Rk 0 1 [tI 5 cC,tI 4 cI,tP 3 1 0] dr ar fun fa ds=>?_))
  refine wf ?_
  refine⟨ar.ext bh.loop,?_⟩
  obtain⟨a1,b7,et,ap⟩:=Ai.loopStep ar bh { al with state:=.busy }
  replace ap:Ai _ _ [(m,0),(p,0)] [⟨NW t_ q y u z,some 36⟩,⟨[Yb d s.length l],some 22⟩] (⟨d,s.length,l,26,1,B2 Pe aa s,0⟩::aa) _:=ap
  refine Jx (N9 (by kernel_rfl) (by kernel_rfl) ?_)
  replace ap:=ap.drew
  refine Ax [] [(m,0),(p,0)] [⟨NW t_ q y u z,some 36⟩,⟨[Yb d s.length l],some 22⟩] ?_
  refine Dr [0,1,2,3] (dn 3) [tI 17 cI,tS 16 d s.length l,tI 15 cI,tS 14 d s.length l,tI 5 cC] ds ap fun fb dt=>?_
  obtain⟨cS,gW,aj⟩:=Ao aj
  obtain⟨cb,cd,ch⟩:=Aj gW
  have dy:=AG cb cd
  obtain⟨ag,az⟩:=AP ap (i:=0) rfl (b0:=0+Yc cI*1) (Ok I4 (by decide) ak.len dy)
  have bm:=ap.addPlc (b:=ag) (o:=0+Yc cI*1) (cs:=[]) (fun j c hj=>by simp at hj) rfl (by kernel_rfl) (by kernel_rfl)
  obtain⟨ad,ae,a0,b3,c4⟩:=ak.get ch
  have a3:∀ (e:AJ) k c,([Yb ad cS.length ae]:List SC)[k]? = some c→((B2 Pe aa s))[0+Yc cI*1+k]? = some (c.den e):=fun e k c hk=>FA I4 b3 ch k _ (Ak hk)
  refine A5 4 (cI) [Yb ad cS.length ae] (fun _ _ _ _ _ h=>h) rfl rfl (rfl) rfl (by decide) (by kernel_rfl) (by kernel_rfl) dt ap.plOk (by rfl) (by rfl) (by rfl) az (by rfl) cb cd (by kernel_rfl) fun el (du:Kn _ [(m,0),(p,0),(ag,0+Yc cI*1)] [tP 18 2 0,tI 17 cI,tS 16 d s.length l,tI 15 cI,tS 14 d s.length l,tI 5 cC] _)=>?_
  refine Dj [5,6] [6,5,4,3,2,1,0] [20,19,15,14] [tI 20 cC,tS 19 ad cS.length ae,tI 15 cI,tS 14 d s.length l] (fun _ _ _ _ _ h=>h) du (Ay.peek bm.plOk bm 0 2 rfl rfl az [Yb ad cS.length ae] (a3 _)) (by kernel_rfl) (by rfl) (by kernel_rfl) fun fc dv=>?_
  refine Dl 7 fun K hK=>?_
  refine wS 3 1 [XR cC] dv bm fun am eh em (db:Kn _ [(m,0),(p,0),(ag,0+Yc cI*1)] [tS 21 am 1 1,tI 20 cC,tS 19 ad cS.length ae,tI 15 cI,tS 14 d s.length l] _) d3=>?_
  have a5:Ai _ _ [(m,0),(p,0),(ag,0+Yc cI*1)] [⟨NW t_ q y u z,some 36⟩,⟨[.slice d s.length l],some 22⟩,⟨[],none⟩] (⟨d,s.length,l,26,1,B2 Pe aa s,0⟩::⟨am,1,1,3,1,([.int .i64 cC]:Ye),0⟩::aa) _:=Ai.famIn [⟨d,s.length,l,26,1,B2 Pe aa s,0⟩] d3
  have bc:Ae ai ([cC]:List Int) ([.int .i64 cC]:Ye):=⟨_,_,rfl,(Ad:rep ai (cC:Int) _),rfl⟩
  refine hK _ _ (Ay.peek a5.plOk a5 0 2 rfl rfl az [Yb ad cS.length ae] (a3 _)) ?_
  obtain⟨cB,gL,aj⟩:=Ao aj
  obtain⟨bq,dw⟩:=Bj gL
  refine Dl 8 fun K hK=>?_
  refine AS (r:=⟨ad,cS.length,ae,3,1,a0,0⟩) ((cI:Int).toNat+2) 8 1 _ (cB.length) _ ([.int .i64 cC]:Ye) db a5 rfl rfl (by decide) (by exact b3) (by rfl) (by kernel_rfl) (by rfl) (by rfl) (Ae.len bc) (a5.rowCell (i:=1) rfl) bc.one (by rw [bq]; simp <;> omega) (by rw [bq]; exact dw) (by decide) fun an ao cv ei fg c5 (dc:Kn _ [(m,0),(p,0),(ag,0+(cI:Int).toNat*1)] [tS 22 an cB.length ao,tS 21 am 1 1,tI 20 cC,tS 19 ad cS.length ae,tI 15 cI,tS 14 d s.length l] _) ax=>?_
  have c3:Ae ai cB (a0++([.int .i64 cC]:Ye)):=by rw [bq]; exact Ae.append c4 bc
  obtain rfl:cv=0:=Nat.le_zero.1 c5
  refine hK _ _ (Ay.peek ax.plOk ax 0 2 rfl rfl az [Yb ad cS.length ae] (a3 _)) ?_
  obtain⟨eS,kA,aj⟩:=Ao aj
  obtain⟨ca,cc,br⟩:=Aj kA
  have a4:=AG ca cc
  obtain⟨av,bz⟩:=AP ax (i:=0) rfl (b0:=0+Yc cI*1) (Ok I4 (by decide) ak.len a4)
  have d4:=ax.addPlc (b:=av) (o:=0+Yc cI*1) (cs:=[]) (fun j c hj=>by simp at hj) rfl (by kernel_rfl) (by kernel_rfl)
  obtain⟨bv,bw,fe,b2,eu⟩:=ak.get br
  have ev:∀ (e:AJ) k c,([Yb bv eS.length bw]:List SC)[k]? = some c→((B2 Pe aa s))[0+Yc cI*1+k]? = some (c.den e):=fun e k c hk=>FA I4 b2 br k _ (Ak hk)
  refine A5 9 (cI) [Yb bv eS.length bw] (fun _ _ _ _ _ h=>h) rfl rfl (rfl) rfl (by decide) (by kernel_rfl) (by kernel_rfl) dc (Ay.peek ax.plOk ax 0 2 rfl rfl az [Yb ad cS.length ae] (a3 _)) (by rfl) (by rfl) (by rfl) bz (by rfl) ca cc (by kernel_rfl) fun bt (de:Kn _ [(m,0),(p,0),(ag,0+Yc cI*1),(av,0+Yc cI*1)] [tP 23 3 0,tS 22 an cB.length ao,tS 21 am 1 1,tI 20 cC,tS 19 ad cS.length ae,tI 15 cI,tS 14 d s.length l] _)=>?_
  obtain⟨ac,cu,aj⟩:=Ao aj
  obtain⟨e2,e3,a8⟩:=Cl cu
  refine CU 10 rfl (by kernel_rfl) (by decide) (rfl) (by kernel_rfl) fun K hK=>?_
  refine B4 0 3 0 (0+Yc cI*1) (.c (Yb an cB.length ao)) de d4 rfl rfl (by rfl) (by rfl) rfl rfl bz rfl (by kernel_rfl) (Me I4 ak.len a4 (Y7 rfl)) fun ck df d5=>?_
  have eg:((B2 Pe aa s).take (0+Yc cI*1+0)++([.slice an cB.length ao]:Ye)++(B2 Pe aa s).drop (0+Yc cI*1+0+1))=(B2 Pe (List.set aa (Yc cI) ⟨an,cB.length,ao,3,1,a0++([.int .i64 cC]:Ye),0⟩) ac):=by rw [a8]; exact J0 (r':=⟨an,cB.length,ao,3,1,a0++([.int .i64 cC]:Ye),0⟩) I4 b2 br rfl (Y7 rfl)
  have bn:s.length=ac.length:=by rw [a8]; simp
  obtain⟨ay,b1,d6⟩:∃ f,EM XD 3 1 ai f ac∧Ai a1 ai [(m,0),(p,0),(ag,0+Yc cI*1),(av,0+Yc cI*1)] [⟨[XR t_.places,XR t_.layover,Yb q t_.empty.length y,Yb u t_.trips.length z],some 36⟩,⟨[Yb d s.length l],some 22⟩,⟨[],none⟩,⟨[],none⟩] (⟨d,s.length,l,26,1,B2 Pe f ac,0⟩::⟨am,1,1,3,1,([.int .i64 cC]:Ye),0⟩::f) ck:=⟨List.set aa (Yc cI) ⟨an,cB.length,ao,3,1,a0++([.int .i64 cC]:Ye),0⟩,(by rw [a8]; exact ak.set ⟨rfl,rfl,rfl,rfl,c3⟩),by rw [← eg]; exact d5⟩
  have dg:Kn 25 [(m,0),(p,0),(ag,0+Yc cI*1),(av,0+Yc cI*1)] [(23,.one (.c (.ptr 3 0))),(22,.one (.c (Yb an cB.length ao))),(21,.one (.c (Yb am 1 1))),(20,.one (.c (XR cC))),(19,.one (.c (Yb ad cS.length ae))),(15,.one (.c (XR cI))),(14,.one (.c (Yb d ac.length l)))] bt:=by rw [← bn]; exact df
  have b8:Ai a1 ai [(m,0),(p,0),(ag,0+Yc cI*1),(av,0+Yc cI*1)] [⟨[.int .i64 t_.places,.int .i64 t_.layover,.slice q t_.empty.length y,.slice u t_.trips.length z],some 36⟩,⟨[.slice d ac.length l],some 22⟩,⟨[],none⟩,⟨[],none⟩] (⟨d,ac.length,l,26,1,B2 Pe ay ac,0⟩::⟨am,1,1,3,1,([.int .i64 cC]:Ye),0⟩::ay) ck:=by rw [← bn]; exact d6
  have ez:(Yc cI)<ac.length:=by rw [← bn]; exact a4
  have cf:ac[(Yc cI)]? = some cB:=by rw [a8]; exact Yz a4
  obtain⟨cq,cr,ff,c7,ew⟩:=b1.get cf
  have ex:∀ (e:AJ) k c,([Yb cq cB.length cr]:List SC)[k]? = some c→((B2 Pe ay ac))[0+Yc cI*1+k]? = some (c.den e):=fun e k c hk=>FA I4 c7 cf k _ (Ak hk)
  refine hK _ _ ?_
  refine Iv (by kernel_rfl) ?_
  obtain rfl:=XZ aj
  refine⟨b8.ext b7.loop,?_⟩
  rw [ce.eq]
  obtain⟨cn,d1,ep,d7⟩:=Ai.loopStep b8 b7 al
  exact⟨rfl,ai,Ac.le_refl _,cn,d,l,ay,d1,(Ai.famCut [⟨d,ac.length,l,26,1,B2 Pe ay ac,0⟩] [⟨am,1,1,3,1,([.int .i64 cC]:Ye),0⟩] (d7)).cutPl 2 (by kernel_rfl),b1,d0⟩
 intro bu cy
 obtain⟨cz,_,c8⟩:=cy
 obtain⟨en,af,ah,aw,b5,b9,c6,e0⟩:=c8
 refine⟨b9.ext b5.loop,?_⟩
 obtain⟨a9,b6,er,a6⟩:=Ai.loopStep b9 b5 { al with state:=.exhausted }
 replace a6:Ai _ _ [(m,0),(p,0)] [⟨NW t_ q y u z,some 36⟩,⟨[Yb af ab.length ah],some 22⟩] (⟨af,ab.length,ah,26,1,B2 Pe aw ab,0⟩::aw) _:=a6
 refine XT (Aa (Rk 0 2 [tS 2 af ab.length ah] bf a6 fun e7 di=>?_))
 refine wf (wp_ret ?_)
 obtain⟨c0,e1,a7,bd⟩:=EM.settleAll [⟨af,ab.length,ah,26,1,B2 Pe aw ab,0⟩] c6 WA a6
 replace a7:Ai _ _ [(m,0),(p,0)] [⟨NW t_ q y u z,some 36⟩,⟨[Yb af ab.length ah],some 22⟩] [⟨af,ab.length,ah,26,1,B2 Pe aw ab,0⟩] _:=a7
 obtain⟨bx,dz,ef,bj⟩:=a7.settle (i:=0) rfl
 replace bd:=bd.mono dz
 replace bj:Ai _ _ [(m,0),(p,0)] [⟨NW t_ q y u z,some 36⟩,⟨[Yb af ab.length ah],some 22⟩] [⟨af,ab.length,ah,26,1,B2 Pe aw ab,_⟩] _:=bj
 have ee:At bx af ah ab:=⟨_,bd,ef,a7.rowCap (i:=0) rfl⟩
 obtain rfl:=XZ H
 exact OW (bs:=((au).heap.size::([]:List Nat))) (.one (.c (Yb af ab.length ah))) di bj b6.marks b6.of (by kernel_rfl) ⟨_,_,rfl,ee⟩
end Go.Proofs.YtinminkmefljbaaGreat
