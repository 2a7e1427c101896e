/- What a proof leans on: a machine that steps through code, and what functions compute. -/
import Derived.Test.YtkpgggfibljflaaGreatDoorgSS17
set_option linter.all false
set_option maxRecDepth 100000
namespace Go.Proofs.YtkpgggfibljflaaGreatDoor
noncomputable section
open Go Go.RowKit Go.Proofs
open Rep (rep)
def W6:Code→Code
 | .seq a _=>a
 | c=>c
theorem AbR:Bz Tryz.f84=.seq (W6 (Bz Tryz.f84)) (.seq (W6 (Nn 1 (Bz Tryz.f84))) (Nn 2 (Bz Tryz.f84))):=by kernel_rfl
def GS:List (Nat×C):=[(0,.u 114),(1,.s 9)]
def Py:List Wo:=[⟨.ret,[.u 114],[],[.s 37]⟩]
def AgG (n:Nat) (g:Ab) (text:ByteArray):Option (Ab×Int×Unit):=(Aan n g text 0).bind fun y=>match y with
 | .inl a=>some (a.1,a.2.1.1,())
 | .inr a=>some (a.1,a.2.2.2.1.errno,())
def AcH (n:Nat) (y:C.Ds Ty (AH GS)):Option (YT Ty Py):=AgG n y.1 y.2.1
def Zgx (n:Nat):GL Ty:=FA GS 1 Py (AcH n)
def Zcm (x:C.Ds Ty (AH GS)):St Ty:=⟨[(4,.ptr 2000 0),(0,.ptr 0 0),(1,ZE (UV.view 9 x.2.1))],[(0,.blk 0 (UV.view 114 x.1)),(2000,.blk 37 [.int .i64 0])],2064⟩
theorem AgH (x:C.Ds Ty (AH GS)):(CI Tryz.prog 50 (Ca Tryz.prog [] []) (A6 []) (W6 (Bz Tryz.f84)) (By GS x)).runK some=some ⟨.normal,Zcm x⟩:=by kernel_rfl
theorem AgI (t:Array Value) (d:List Deferred) (w:World) (Q:Exit→Act→World→Prop) (p:Addr) (ht:t.size=50) (hp:t[4]? = some (.pointer (some p)))
  (hQ:∀ t',t'.size=50→(∀ k,k≠11→t'[k]? = t[k]?)→Q .normal ⟨t',⟨.fn (.func 137) #[.pointer (some p)],#[]⟩::d⟩ w):(W6 (Nn 1 (Bz Tryz.f84))).wp Tryz.prog Q ⟨t,d⟩ w:=by
 have hc:W6 (Nn 1 (Bz Tryz.f84))=Code.region 1
  #[{ dst:=some 11,op:=Op.makeFunc (Fn.func 137) #[] #[Operand.tmp 4],type:=1,pos := "garage.go:102",
      after:=#[],guard:=none },
    { dst:=none,op:=Op.defer { callee:=Callee.value (Operand.tmp 11),args:=#[],argTypes:=#[] },
      type:=0,pos := "garage.go:102",after:=#[{ on:=0,ground:=Ground.data }],guard:=none }]
  false:=by kernel_rfl
 rw [hc]
 have hmf:∀ (fn:Fn)(first cap:Array Value)(w:World),(Instr.makeFunc fn first cap).run Tryz.prog w=.ok (.func fn first cap) w:=fun _ _ _ _=>rfl
 have h4:4<t.size:=by omega
 have h11:11<t.size:=by omega
 have he:t.getD 4 Go.undef=.pointer (some p):=by simp [ZaH,hp]
 refine wp_region ?_
 simp [wpOps,go_sem,hmf,Region.wanted,Act.eval,h11]
 rw [hp]
 exact .inl (.inl (hQ _ (by simp [ht]) fun k hk=>by rw [ZaX (Ne.symm hk)]))
def ZbH (a:Ab) (e:Int):A7 Ty:=[(2000,.blk 0 [.int .i64 e]),(0,.blk 0 (UV.view 114 a))]
def Zg9 (k:EK) (a:Ab) (e r:Int):Lf Ty:=⟨k.ext [.ifc 234 (.agg [.int .i64 r])],⟨[(4,.ptr 2000 0)],ZbH a e,2064⟩⟩
theorem Aek (Fn:C.Ds Ty (AH Jq)→Option (YT Ty KN)) (x:C.Ds Ty (AH GS)):(MU Jq 2 KN Fn (Zcm x)).runK some=(Fn (x.1,x.2.1,((0:Int),()),())).bind fun y=>y.elim (fun a=>some (Zg9 .ret a.1 a.2.1.1 0)) (fun a=>some (Zg9 .pan a.1 a.2.1.1 a.2.2.2.1.errno)):=by kernel_rfl
theorem Ael {F:Fr} {h:Ad} {g:GE} {t:Array Value} {w:World} {a:Ab} {e:Int} (hk:P3 g h ([(4,.ptr 2000 0)]:List (Nat×V Ty)) t) (hm:Al F h g (AL.get (ZbH a e)) w):∃ us,V.dens g h ([.int .i64 e]:List (V Ty)) us∧(results Tryz.f84 t).run Tryz.prog w=.ok (NO us) w :=
 II (P:=Tryz.prog) (m:=[(4,.ptr 2000 0)]) (s:=ZbH a e) (vs:=[.int .i64 e]) hk hm (by kernel_rfl)
theorem AgJ (a:Ab) (e:Int):Fl 1 false ([.int .i64 e]:List (V Ty)) ⟨[],ZbH a e,2064⟩ Py=some (a,e,()):=by kernel_rfl
theorem AcI (a:Ab) (e:Int):AL.get (ZbH a e) 2000=some (.blk 0 [.int .i64 e]):=by kernel_rfl
theorem AbS (n:Nat) (x:C.Ds Ty (AH GS)) (y:YT Ty Py) (hy:AcH n x=some y) (F:Fr) (h:Ad) (g:GE) (t:Array Value) (w:World) (R:Ending→World→Prop) (hs:RS Tryz.f84.ntmps F h g (2*Ax) (By GS x).m (By GS x).s t w)
  (hfin:∀ (F3:Fr)(h2:Ad)(g2:GE)(w3:World)(st:St Ty)(p:Bool)(rv:List (V Ty))(rus:List Value),st.m=[]→FD F F3 [] []→Ad.le h h2→(∀ i,i<2*Ax→g2 i=g i)→2*Ax≤st.nx→Al F3 h2 g2 (AL.get st.s) w3→JD st.nx (AL.get st.s)→Fl 1 p rv st Py=some y→V.dens g2 h2 rv rus→V.oksB (CT st.nx) rv=true→R (Ra p (NO rus)) w3) :
  (Bz Tryz.f84).wp Tryz.prog (bodyPostM Fence.wide 0 Tryz.prog Tryz.f84 R) ⟨t,[]⟩ w:=by
 have hn:Tryz.f84.ntmps=50:=by kernel_rfl
 rw [hn] at hs
 rw [AbR]
 refine wp_seq ?_
 refine Bt (y:=true) (call:=Ca Tryz.prog [] []) (cuts:=A6 []) Af Am (A5 (T:=[]) (I:=[]) Af Am trivial trivial) (fun h=>by cases h) (W6 (Bz Tryz.f84)) (fun h=>by cases h) (fun _ _ _ hf=>by cases hf) (By GS x) _ (AgH x) F h g t w _ [] hs ?_
 intro F1 d1 h1 g1 t1 w1 q0 q1 q2 q3 q4
 have hnx:(By GS x).nx=2*Ax:=rfl
 rw [hnx] at q2
 show Code.wp Tryz.prog _ (bodyPostM Fence.wide 0 Tryz.prog Tryz.f84 R) ⟨t1,d1⟩ w1
 refine wp_seq ?_
 obtain⟨u,hu,hd⟩:=q4.kn 4 (.ptr 2000 0) rfl
 unfold V.den at hd
 subst hd
 refine AgI t1 d1 w1 _ ⟨(g1 2000).b,0,none⟩ q4.size hu fun t2 ht2 hk2=>?_
 show Code.wp Tryz.prog (Nn 2 (Bz Tryz.f84)) (bodyPostM Fence.wide 0 Tryz.prog Tryz.f84 R) _ w1
 have hcut:B7 true Tryz.prog 50 (MU Jq 2 KN (Px n)) (Nn 2 (Bz Tryz.f84)):=H1 fun x y hy=>Aej n hy
 have hk3:P3 g1 h1 (Zcm x).m t2:=fun k v hv=>by
  obtain⟨u',e1,e2⟩:=q4.kn k v hv
  refine⟨u',?_,e2⟩
  rw [hk2 k ?_]; exact e1
  intro hh
  subst hh
  cases hv
 have hs2:RS 50 F1 h1 g1 (Zcm x).nx (Zcm x).m (Zcm x).s t2 w1:=⟨ht2,hk3,q4.mem,q4.im,q4.is_⟩
 -- what comes behind the body
 have fin:∀ (a:Ab)(e:Int),(a,e,())=y→∀ (F3:Fr)(h2:Ad)(g2:GE)(t3:Array Value)(w3:World),FD F F3 [] []→Ad.le h1 h2→(∀ i,i<2064→g2 i=g1 i)→P3 g2 h2 ([(4,.ptr 2000 0)]:List (Nat×V Ty)) t3→Al F3 h2 g2 (AL.get (ZbH a e)) w3→JD 2064 (AL.get (ZbH a e))→LeavesInM Fence.wide 0 Tryz.prog Tryz.f84 t3 R [] .returning w3:=by
  intro a e hye F3 h2 g2 t3 w3 f1 f2 f3 f4 f5 f6
  obtain⟨us,r1,r2⟩:=Ael f4 f5
  refine⟨NO us,r2,?_⟩
  have hlt:2*Ax≤2064:=by decide
  exact hfin F3 h2 g2 w3 ⟨[],ZbH a e,2064⟩ false [.int .i64 e] us rfl f1 (Ad.le_trans q1 f2) (fun i hi=>by rw [f3 i (Zaq hi hlt),q2 i hi]) hlt f5 f6 ((AgJ a e).trans (congrArg some hye)) r1 rfl
 obtain⟨bs1,hd1,nd1,hX1⟩:=q0.ds
 rw [Zbh] at hd1
 have rest:∀ (a:Ab)(e:Int),(a,e,())=y→∀ (F3:Fr)(h2:Ad)(g2:GE)(t3:Array Value)(w3:World),FD F1 F3 [] []→Ad.le h1 h2→(∀ i,i<2064→g2 i=g1 i)→P3 g2 h2 ([(4,.ptr 2000 0)]:List (Nat×V Ty)) t3→Al F3 h2 g2 (AL.get (ZbH a e)) w3→JD 2064 (AL.get (ZbH a e))→LeavesInM Fence.wide 0 Tryz.prog Tryz.f84 t3 R d1 .returning w3:=by
  intro a e hye F3 h2 g2 t3 w3 f1 f2 f3 f4 f5 f6
  have:=EW (P:=Tryz.prog) (F:=F) (h:=h2) (g:=g2) (M:=AL.get (ZbH a e)) (fn:=Tryz.f84) (t:=t3) (R:=R) (u:=.returning) (rest:=[]) (by simp) (fun F4 w4 k1 k2=>fin a e hye F4 h2 g2 t3 w4 k1 f2 f3 f4 k2 f6) bs1 F3 w3 ⟨by rw [f1.w,q0.w],by rw [f1.h,q0.h],fun b o hb=>f1.X b o (q0.X b o hb),[],rfl,Zb4,by simp⟩ f5 nd1 fun b hb=>⟨(hX1 b hb).1,f1.X _ _ (hX1 b hb).2⟩
  rw [Zbh] at this
  rw [hd1]; exact this
 have hy2:((Aan n x.1 x.2.1 0).bind fun y=>match y with
  | .inl a=>some (a.1,a.2.1.1,())
  | .inr a=>some (a.1,a.2.2.2.1.errno,()))=some y:=hy
 obtain⟨y0,hy0,hy3⟩:=Zag.1 hy2
 have hrun:=Aek (Px n) x
 have hB:Px n (x.1,x.2.1,((0:Int),()),())=some y0:=hy0
 rw [hB] at hrun
 cases y0 with
 | inl a =>
  have hye:=Option.some.inj hy3
  refine hcut (Zcm x) _ hrun F1 h1 g1 t2 w1 _ _ hs2 ?_
  intro F2 d2 h2 g2 t3 w2 p0 p1 p2 p3 p4
  show LeavesInM Fence.wide 0 Tryz.prog Tryz.f84 t3 R d2 .returning w2
  obtain⟨bs,hd2,nd,hX⟩:=p0.ds
  rw [hd2]
  refine EW (P:=Tryz.prog) (F:=F1) (h:=h2) (g:=g2) (M:=AL.get (ZbH a.1 a.2.1.1)) (by simp) (fun F4 w4 k1 k2=>?_) bs F2 w2 p0.nil p4.mem nd hX
  refine⟨by simp,.inr ⟨fun hh=>by simp [Fence.wide] at hh,_,_,137,#[.pointer (some ⟨(g1 2000).b,0,none⟩)],rfl,by simp [go_sem],fun _ _=>trivial,?_⟩⟩
  refine(AbP _ w4).mono ?_
  rintro e u' w' ⟨rfl,rfl,rfl⟩
  exact rest a.1 a.2.1.1 hye F4 h2 g2 t3 w' k1 p1 (fun i hi=>p2 i hi) p4.kn k2 p4.is_
 | inr a =>
  have hye:=Option.some.inj hy3
  refine hcut (Zcm x) _ hrun F1 h1 g1 t2 w1 _ _ hs2 ?_
  intro F2 d2 h2 g2 t3 w2 p0 p1 p2 p3 p4
  intro v hv _
  show LeavesInM Fence.wide 0 Tryz.prog Tryz.f84 t3 R d2 (.panicking [{ v:=v,recovered:=false }]) w2
  have hvv:v=.iface 234 (.agg #[.int .i64 a.2.2.2.1.errno]):=by
   have hv:V.den g2 h2 (.ifc 234 (.agg [.int .i64 a.2.2.2.1.errno]):V Ty) v:=hv
   unfold V.den at hv
   obtain⟨z,rfl,hz⟩:=hv
   unfold V.den at hz
   obtain⟨us,rfl,hz⟩:=hz
   unfold V.dens at hz
   obtain⟨u1,us1,rfl,hz1,hz2⟩:=hz
   unfold V.dens at hz2
   unfold V.den at hz1
   subst hz1 hz2
   rfl
  subst hvv
  obtain⟨bs,hd2,nd,hX⟩:=p0.ds
  rw [hd2]
  refine EW (P:=Tryz.prog) (F:=F1) (h:=h2) (g:=g2) (M:=AL.get (ZbH a.1 a.2.1.1)) (by simp) (fun F4 w4 k1 k2=>?_) bs F2 w2 p0.nil p4.mem nd hX
  refine⟨by simp,.inr ⟨fun hh=>by simp [Fence.wide] at hh,_,_,137,#[.pointer (some ⟨(g1 2000).b,0,none⟩)],rfl,by simp [go_sem],fun _ _=>trivial,?_⟩⟩
  have hm20:=AcI a.1 a.2.1.1
  obtain⟨us,T,b1,b2,b3,b4,b5⟩:=k2.blk hm20
  unfold V.dens at b2
  obtain⟨u1,us1,rfl,b6,b7⟩:=b2
  unfold V.dens at b7
  unfold V.den at b6
  subst b6 b7
  have hg20:(g2 2000).b=(g1 2000).b:=by rw [p2 2000 (show(2000:Nat)<2064 by decide)]
  rw [hg20] at b1
  have hlt:(g1 2000).b<w4.heap.size:=(Zak.1 b1).1
  have hfz:w4.frozen? ⟨(g1 2000).b,0,none⟩=false:=by simp [World.frozen?,b1]
  have hcl:w4.cell? ⟨(g1 2000).b,0,none⟩=some (.int .i64 a.2.1.1):=by
   have:=b5 0 _ rfl
   rw [hg20] at this
   exact this
  refine(RG ⟨(g1 2000).b,0,none⟩ a.2.1.1 a.2.2.2.1.errno w4 hlt hcl hfz).mono ?_
  rintro e u' w' ⟨rfl,rfl,rfl⟩
  have ha:(w4.alloc (.cells #[.int .i64 a.2.2.2.1.errno] 234)).heap[(g1 2000).b]? = some (.cells #[.int .i64 a.2.1.1] T (0,0)):=by
   rw [show(w4.alloc (.cells #[.int .i64 a.2.2.2.1.errno] 234)).heap=w4.heap.push (.cells #[.int .i64 a.2.2.2.1.errno] 234) from rfl,Zbl,if_neg (by omega)]
   exact b1
  have hgr:w4.grownBy (w4.alloc (.cells #[.int .i64 a.2.2.2.1.errno] 234)) none:=World.grownBy_alloc _ _ none
  have hm5:=(k2.grow hgr).set hm20 b4 (w':=(w4.alloc (.cells #[.int .i64 a.2.2.2.1.errno] 234)).setCell ⟨(g1 2000).b,0,none⟩ (.int .i64 a.2.2.2.1.errno)) (by rw [hg20]; exact J2 _ ⟨(g1 2000).b,0,none⟩ _) (c':=.blk 0 [.int .i64 a.2.2.2.1.errno]) ⟨b4,[.int .i64 a.2.2.2.1.errno],T,by rw [hg20]; exact XH ha,by unfold V.dens V.dens; exact⟨_,[],rfl,by unfold V.den; rfl,rfl⟩,fun u hu=>by simp at hu; subst hu; rfl,.inl rfl⟩
  have hsame:Mo.put (AL.get (ZbH a.1 a.2.1.1)) 2000 (some (.blk 0 [.int .i64 a.2.2.2.1.errno]))=AL.get (ZbH a.1 a.2.2.2.1.errno):=by
   funext j
   unfold Mo.put
   by_cases hj:j=2000
   · subst hj; rw [if_pos rfl,AcI]
   · rw [if_neg hj]
     show(bif Nat.beq 2000 j then _ else(bif Nat.beq 0 j then _ else none))=(bif Nat.beq 2000 j then _ else(bif Nat.beq 0 j then _ else none))
     have:Nat.beq 2000 j=false:=by
      cases hb:Nat.beq 2000 j with
      | false=>rfl
      | true=>exact absurd (Zac hb).symm hj
     rw [this]; rfl
  rw [hsame] at hm5
  have his5:JD 2064 (AL.get (ZbH a.1 a.2.2.2.1.errno)):=fun i c hi=>by
   rw [← hsame] at hi
   unfold Mo.put at hi
   split at hi
   · rename_i hj; subst hj; cases hi; exact⟨rfl,rfl⟩
   · exact p4.is_ i c hi
  exact rest a.1 a.2.2.2.1.errno hye F4 h2 g2 t3 _ k1 p1 (fun i hi=>p2 i hi) p4.kn hm5 his5
theorem Aaq (n:Nat):Bb Tryz.prog 84 (Zgx n):=HF Tryz.func84 rfl rfl (by decide) rfl (AbS n)
def Ef:Nat→(List ByteArray)→Int→Int→Option (Unit ⊕ ((Int×Unit)))
 | 0,_,_,_=>none
 | n+1,x8,x9,x10 =>
  bif decide (x10<x9) then((Ao x8 x10).bind fun v0 =>
  bif decide ((↑v0.size:Int)>200) then(some (.inr (3,()))) else
  Ef n x8 x9 (IntKind.i64.wrap (x10+1))) else
  some (.inl ())
def DG (n:Nat) (lines:List ByteArray):Option ((Int×Unit)) :=
 bif decide ((↑lines.length:Int)>50) then(some (3,())) else
 (Ef n lines (↑lines.length:Int) 0).bind fun v0 =>
 Sum.elim (fun v1=>some (0,())) (fun v1=>some (v1.fst,())) (v0)
def ZeA:CB Tryz.f52:=lp 4 [(8,.l 9),(9,.s 3),(10,.s 3)] 0 [⟨.exit 0,[],[],[]⟩,⟨.ret,[],[(2,.s 3)],[]⟩] (u3 Ef) [] []
def Zch:LB:=(lw Tryz.func52 [.l 9] 0 (rt [.s 3]) (u1 DG) [] [ZeA]).rd
def AZ:Nat→Int→Int→Int→(List Ls)→Int→Int→Option ((Int×Int×Unit))
 | 0,_,_,_,_,_,_=>none
 | n+1,bus,n_,runs,x12,x13,x14 =>
  bif decide (x14<x13) then((Ao x12 x14).bind fun v0 =>
  bif decide (v0.bus=bus) then(AZ n bus (IntKind.i64.wrap (n_+v0.miles)) (IntKind.i64.wrap (runs+1)) x12 x13 (IntKind.i64.wrap (x14+1))) else
  AZ n bus n_ runs x12 x13 (IntKind.i64.wrap (x14+1))) else
  some (n_,(runs,()))
def Bd (n:Nat) (g:Ab) (bus:Int):Option ((Ab×Int×Int×Unit)) :=
 (AZ n bus 0 0 g.state.runs (↑g.state.runs.length:Int) 0).bind fun v0 =>
 some (g,(v0.fst,(v0.snd.fst,())))
def Zdf:CB Tryz.f76:=lp 2 [(1,.s 3),(4,.s 3),(5,.s 3),(12,.l 62),(13,.s 3),(14,.s 3)] 0 [⟨.exit 0,[],[(4,.s 3),(5,.s 3)],[]⟩] (u6 AZ) [] []
def Zcr:LB:=lw Tryz.func76 [.u 114,.s 3] 1 [⟨.ret,[.u 114],[],[.s 3,.s 3]⟩] (u2 Bd) [] [Zdf]
def KP:Nat→(List Int)→(List Int)→Int→Option (Unit ⊕ ((Bool×Unit)))
 | 0,_,_,_=>none
 | n+1,a,b,i =>
  bif decide (i<(↑a.length:Int)) then((Ao a i).bind fun v0 =>
  (Ao b i).bind fun v1 =>
  bif v0 != v1 then(some (.inr (false,()))) else
  KP n a b (IntKind.i64.wrap (i+1))) else
  some (.inl ())
def Q8 (n:Nat) (a:List Int) (b:List Int):Option ((Bool×Unit)) :=
 bif (↑a.length:Int) != (↑b.length:Int) then(some (false,())) else
 (KP n a b 0).bind fun v0 =>
 Sum.elim (fun v1=>some (true,())) (fun v1=>some (v1.fst,())) (v0)
def Zga:CB Tryz.f32:=lp 4 [(0,.l 3),(1,.l 3),(5,.s 3)] 0 [⟨.exit 0,[],[],[]⟩,⟨.ret,[],[(4,.s 4)],[]⟩] (u3 KP) [] []
def ZgJ:LB:=(lw Tryz.func32 [.l 3,.l 3] 0 (rt [.s 4]) (u2 Q8) [] [Zga]).rd
def Fv:Nat→(List ByteArray)→Int→Int→Option ((List ByteArray×Int×Unit))
 | 0,_,_,_=>none
 | n+1,lines,n_,i =>
  bif decide (i<(↑lines.length:Int)) then((Ao lines i).bind fun v0 =>
  Fv n lines (IntKind.i64.wrap (n_+(↑v0.size:Int))) (IntKind.i64.wrap (i+1))) else
  some (lines,(n_,()))
def Ki (n:Nat) (lines:List ByteArray):Option ((Bool×Unit)) :=
 (Fv n lines 0 0).bind fun v0 =>
 bif decide ((↑v0.fst.length:Int)≤30) then(bif !decide (v0.snd.fst≤1200) then(bif decide ((↑v0.fst.length:Int)≤52) then(bif !decide (v0.snd.fst≤400) then(bif decide ((↑v0.fst.length:Int)=1) then(some (decide (v0.snd.fst≤210),())) else
 some (false,())) else
 some (true,())) else
 bif decide ((↑v0.fst.length:Int)=1) then(some (decide (v0.snd.fst≤210),())) else
 some (false,())) else
 some (true,())) else
 bif decide ((↑v0.fst.length:Int)≤52) then(bif !decide (v0.snd.fst≤400) then(bif decide ((↑v0.fst.length:Int)=1) then(some (decide (v0.snd.fst≤210),())) else
 some (false,())) else
 some (true,())) else
 bif decide ((↑v0.fst.length:Int)=1) then(some (decide (v0.snd.fst≤210),())) else
 some (false,())
def Zgy:CB Tryz.f19:=lp 3 [(0,.l 9),(3,.s 3),(4,.s 3)] 0 [⟨.exit 0,[],[(0,.l 9),(3,.s 3)],[]⟩] (u3 Fv) [] []
def flaw_Few_b:LB:=(lw Tryz.func19 [.l 9] 0 (rt [.s 4]) (u1 Ki) [] [Zgy]).rd
def MJ (n:Nat) (l:List ByteArray):Option ((List ByteArray×Unit)) :=
 (app [] l).bind fun v0 =>
 some (v0,())
def flaw_list_b:LB:=lw Tryz.func22 [.l 9] 0 (rt [.o 9]) (u1 MJ) [] []
def CK:Nat→(List Int)→Int→Int→Option ((Int×Unit))
 | 0,_,_,_=>none
 | n+1,roster,n_,i =>
  bif decide (i<(↑roster.length:Int)) then((Ao roster i).bind fun v0 =>
  bif decide (v0≥0) then(CK n roster (IntKind.i64.wrap (n_+1)) (IntKind.i64.wrap (i+1))) else
  CK n roster n_ (IntKind.i64.wrap (i+1))) else
  some (n_,())
def Ge (n:Nat) (roster:List Int):Option ((Int×Unit)) :=
 (CK n roster 0 0).bind fun v0 =>
 some (v0.fst,())
def ZeB:CB Tryz.f100:=lp 3 [(0,.l 3),(3,.s 3),(4,.s 3)] 0 [⟨.exit 0,[],[(3,.s 3)],[]⟩] (u3 CK) [] []
def ZfC:LB:=(lw Tryz.func100 [.l 3] 0 (rt [.s 3]) (u1 Ge) [] [ZeB]).rd
def Mp (n:Nat) (roster:List Int) (duty:Int) (driver:Int):Option ((List Int×Unit)) :=
 (app [] roster).bind fun v0 =>
 (Ao v0 duty).bind fun v1 =>
 (v0.get?Internal duty.toNat).bind fun v2 =>
 some (v0.set duty.toNat driver,())
def Zgz:LB:=lw Tryz.func147 [.l 3,.s 3,.s 3] 0 (rt [.l 3]) (u3 Mp) [] []
def AK (n:Nat) (n_:Int) (low:Int) (high:Int):Option ((Bool×Unit)) :=
 bif decide (n_≥low) then(some (decide (n_≤high),())) else
 some (false,())
def ZdA:LB:=lw Tryz.func146 [.s 3,.s 3,.s 3] 0 (rt [.s 4]) (u3 AK) [] []
def E9:Nat→(List Int)→Int→Int→Int→Option (Unit ⊕ ((Bool×Unit)))
 | 0,_,_,_,_=>none
 | n+1,l,low,high,i =>
  bif decide (i<(↑l.length:Int)) then((Ao l i).bind fun v0 =>
  (AK n v0 low high).bind fun v1 =>
  bif !!v1.fst then(bif decide (i>0) then((Ao l i).bind fun v2 =>
  (Ao l (IntKind.i64.wrap (i-1))).bind fun v3 =>
  bif decide (v2≤v3) then(some (.inr (false,()))) else
  E9 n l low high (IntKind.i64.wrap (i+1))) else
  E9 n l low high (IntKind.i64.wrap (i+1))) else
  some (.inr (false,()))) else
  some (.inl ())
def Cf (n:Nat) (l:List Int) (low:Int) (high:Int):Option ((Bool×Unit)) :=
 (E9 n l low high 0).bind fun v0 =>
 Sum.elim (fun v1=>some (true,())) (fun v1=>some (v1.fst,())) (v0)
def ZdO:List LB:=[ZdA]
def ZeP:CB Tryz.f206:=lp 2 [(0,.l 3),(1,.s 3),(2,.s 3),(7,.s 3)] 0 [⟨.exit 0,[],[],[]⟩,⟨.ret,[],[(6,.s 4)],[]⟩] (u4 E9) ZdO []
def Zgb:LB:=(lw Tryz.func206 [.l 3,.s 3,.s 3] 0 (rt [.s 4]) (u3 Cf) ZdO [ZeP]).rd
def MK (n:Nat) (word:ByteArray):Option ((Int×Unit)) :=
 bif word.beq (B [111,117,116]) then(bif word.beq (B [111,117,116]) then(some (2,())) else
 bif word.beq (B [99,104,101,99,107,101,100]) then(bif word.beq (B [99,104,101,99,107,101,100]) then(some (3,())) else
 bif word.beq (B [102,111,117,110,100]) then(bif word.beq (B [102,111,117,110,100]) then(some (4,())) else
 bif word.beq (B [115,97,108,101]) then(bif word.beq (B [115,97,108,101]) then(some (5,())) else
 some (0,())) else
 bif word.beq (B [99,108,111,115,101]) then(bif word.beq (B [99,108,111,115,101]) then(some (5,())) else
 some (0,())) else
 bif word.beq (B [100,117,116,121]) then(some (5,())) else
 some (0,())) else
 bif word.beq (B [104,101,108,100]) then(bif word.beq (B [104,101,108,100]) then(some (4,())) else
 bif word.beq (B [115,97,108,101]) then(bif word.beq (B [115,97,108,101]) then(some (5,())) else
 some (0,())) else
 bif word.beq (B [99,108,111,115,101]) then(bif word.beq (B [99,108,111,115,101]) then(some (5,())) else
 some (0,())) else
 bif word.beq (B [100,117,116,121]) then(some (5,())) else
 some (0,())) else
 bif word.beq (B [115,105,103,110,101,100]) then(bif word.beq (B [115,105,103,110,101,100]) then(some (4,())) else
 bif word.beq (B [115,97,108,101]) then(bif word.beq (B [115,97,108,101]) then(some (5,())) else
 some (0,())) else
 bif word.beq (B [99,108,111,115,101]) then(bif word.beq (B [99,108,111,115,101]) then(some (5,())) else
 some (0,())) else
 bif word.beq (B [100,117,116,121]) then(some (5,())) else
 some (0,())) else
 bif word.beq (B [115,121,110,99]) then(some (4,())) else
 bif word.beq (B [115,97,108,101]) then(bif word.beq (B [115,97,108,101]) then(some (5,())) else
 some (0,())) else
 bif word.beq (B [99,108,111,115,101]) then(bif word.beq (B [99,108,111,115,101]) then(some (5,())) else
 some (0,())) else
 bif word.beq (B [100,117,116,121]) then(some (5,())) else
 some (0,())) else
 bif word.beq (B [105,110]) then(some (3,())) else
 bif word.beq (B [102,111,117,110,100]) then(bif word.beq (B [102,111,117,110,100]) then(some (4,())) else
 bif word.beq (B [115,97,108,101]) then(bif word.beq (B [115,97,108,101]) then(some (5,())) else
 some (0,())) else
 bif word.beq (B [99,108,111,115,101]) then(bif word.beq (B [99,108,111,115,101]) then(some (5,())) else
 some (0,())) else
 bif word.beq (B [100,117,116,121]) then(some (5,())) else
 some (0,())) else
 bif word.beq (B [104,101,108,100]) then(bif word.beq (B [104,101,108,100]) then(some (4,())) else
 bif word.beq (B [115,97,108,101]) then(bif word.beq (B [115,97,108,101]) then(some (5,())) else
 some (0,())) else
 bif word.beq (B [99,108,111,115,101]) then(bif word.beq (B [99,108,111,115,101]) then(some (5,())) else
 some (0,())) else
 bif word.beq (B [100,117,116,121]) then(some (5,())) else
 some (0,())) else
 bif word.beq (B [115,105,103,110,101,100]) then(bif word.beq (B [115,105,103,110,101,100]) then(some (4,())) else
 bif word.beq (B [115,97,108,101]) then(bif word.beq (B [115,97,108,101]) then(some (5,())) else
 some (0,())) else
 bif word.beq (B [99,108,111,115,101]) then(bif word.beq (B [99,108,111,115,101]) then(some (5,())) else
 some (0,())) else
 bif word.beq (B [100,117,116,121]) then(some (5,())) else
 some (0,())) else
 bif word.beq (B [115,121,110,99]) then(some (4,())) else
 bif word.beq (B [115,97,108,101]) then(bif word.beq (B [115,97,108,101]) then(some (5,())) else
 some (0,())) else
 bif word.beq (B [99,108,111,115,101]) then(bif word.beq (B [99,108,111,115,101]) then(some (5,())) else
 some (0,())) else
 bif word.beq (B [100,117,116,121]) then(some (5,())) else
 some (0,())) else
 bif word.beq (B [100,114,105,118,101,114]) then(bif word.beq (B [100,114,105,118,101,114]) then(some (2,())) else
 bif word.beq (B [99,104,101,99,107,101,100]) then(bif word.beq (B [99,104,101,99,107,101,100]) then(some (3,())) else
 bif word.beq (B [102,111,117,110,100]) then(bif word.beq (B [102,111,117,110,100]) then(some (4,())) else
 bif word.beq (B [115,97,108,101]) then(bif word.beq (B [115,97,108,101]) then(some (5,())) else
 some (0,())) else
 bif word.beq (B [99,108,111,115,101]) then(bif word.beq (B [99,108,111,115,101]) then(some (5,())) else
 some (0,())) else
 bif word.beq (B [100,117,116,121]) then(some (5,())) else
 some (0,())) else
 bif word.beq (B [104,101,108,100]) then(bif word.beq (B [104,101,108,100]) then(some (4,())) else
 bif word.beq (B [115,97,108,101]) then(bif word.beq (B [115,97,108,101]) then(some (5,())) else
 some (0,())) else
 bif word.beq (B [99,108,111,115,101]) then(bif word.beq (B [99,108,111,115,101]) then(some (5,())) else
 some (0,())) else
 bif word.beq (B [100,117,116,121]) then(some (5,())) else
 some (0,())) else
 bif word.beq (B [115,105,103,110,101,100]) then(bif word.beq (B [115,105,103,110,101,100]) then(some (4,())) else
 bif word.beq (B [115,97,108,101]) then(bif word.beq (B [115,97,108,101]) then(some (5,())) else
 some (0,())) else
 bif word.beq (B [99,108,111,115,101]) then(bif word.beq (B [99,108,111,115,101]) then(some (5,())) else
 some (0,())) else
 bif word.beq (B [100,117,116,121]) then(some (5,())) else
 some (0,())) else
 bif word.beq (B [115,121,110,99]) then(some (4,())) else
 bif word.beq (B [115,97,108,101]) then(bif word.beq (B [115,97,108,101]) then(some (5,())) else
 some (0,())) else
 bif word.beq (B [99,108,111,115,101]) then(bif word.beq (B [99,108,111,115,101]) then(some (5,())) else
 some (0,())) else
 bif word.beq (B [100,117,116,121]) then(some (5,())) else
 some (0,())) else
 bif word.beq (B [105,110]) then(some (3,())) else
 bif word.beq (B [102,111,117,110,100]) then(bif word.beq (B [102,111,117,110,100]) then(some (4,())) else
 bif word.beq (B [115,97,108,101]) then(bif word.beq (B [115,97,108,101]) then(some (5,())) else
 some (0,())) else
 bif word.beq (B [99,108,111,115,101]) then(bif word.beq (B [99,108,111,115,101]) then(some (5,())) else
 some (0,())) else
 bif word.beq (B [100,117,116,121]) then(some (5,())) else
 some (0,())) else
 bif word.beq (B [104,101,108,100]) then(bif word.beq (B [104,101,108,100]) then(some (4,())) else
 bif word.beq (B [115,97,108,101]) then(bif word.beq (B [115,97,108,101]) then(some (5,())) else
 some (0,())) else
 bif word.beq (B [99,108,111,115,101]) then(bif word.beq (B [99,108,111,115,101]) then(some (5,())) else
 some (0,())) else
 bif word.beq (B [100,117,116,121]) then(some (5,())) else
 some (0,())) else
 bif word.beq (B [115,105,103,110,101,100]) then(bif word.beq (B [115,105,103,110,101,100]) then(some (4,())) else
 bif word.beq (B [115,97,108,101]) then(bif word.beq (B [115,97,108,101]) then(some (5,())) else
 some (0,())) else
 bif word.beq (B [99,108,111,115,101]) then(bif word.beq (B [99,108,111,115,101]) then(some (5,())) else
 some (0,())) else
 bif word.beq (B [100,117,116,121]) then(some (5,())) else
 some (0,())) else
 bif word.beq (B [115,121,110,99]) then(some (4,())) else
 bif word.beq (B [115,97,108,101]) then(bif word.beq (B [115,97,108,101]) then(some (5,())) else
 some (0,())) else
 bif word.beq (B [99,108,111,115,101]) then(bif word.beq (B [99,108,111,115,101]) then(some (5,())) else
 some (0,())) else
 bif word.beq (B [100,117,116,121]) then(some (5,())) else
 some (0,())) else
 bif word.beq (B [103,105,118,101]) then(some (2,())) else
 bif word.beq (B [99,104,101,99,107,101,100]) then(bif word.beq (B [99,104,101,99,107,101,100]) then(some (3,())) else
 bif word.beq (B [102,111,117,110,100]) then(bif word.beq (B [102,111,117,110,100]) then(some (4,())) else
 bif word.beq (B [115,97,108,101]) then(bif word.beq (B [115,97,108,101]) then(some (5,())) else
 some (0,())) else
 bif word.beq (B [99,108,111,115,101]) then(bif word.beq (B [99,108,111,115,101]) then(some (5,())) else
 some (0,())) else
 bif word.beq (B [100,117,116,121]) then(some (5,())) else
 some (0,())) else
 bif word.beq (B [104,101,108,100]) then(bif word.beq (B [104,101,108,100]) then(some (4,())) else
 bif word.beq (B [115,97,108,101]) then(bif word.beq (B [115,97,108,101]) then(some (5,())) else
 some (0,())) else
 bif word.beq (B [99,108,111,115,101]) then(bif word.beq (B [99,108,111,115,101]) then(some (5,())) else
 some (0,())) else
 bif word.beq (B [100,117,116,121]) then(some (5,())) else
 some (0,())) else
 bif word.beq (B [115,105,103,110,101,100]) then(bif word.beq (B [115,105,103,110,101,100]) then(some (4,())) else
 bif word.beq (B [115,97,108,101]) then(bif word.beq (B [115,97,108,101]) then(some (5,())) else
 some (0,())) else
 bif word.beq (B [99,108,111,115,101]) then(bif word.beq (B [99,108,111,115,101]) then(some (5,())) else
 some (0,())) else
 bif word.beq (B [100,117,116,121]) then(some (5,())) else
 some (0,())) else
 bif word.beq (B [115,121,110,99]) then(some (4,())) else
 bif word.beq (B [115,97,108,101]) then(bif word.beq (B [115,97,108,101]) then(some (5,())) else
 some (0,())) else
 bif word.beq (B [99,108,111,115,101]) then(bif word.beq (B [99,108,111,115,101]) then(some (5,())) else
 some (0,())) else
 bif word.beq (B [100,117,116,121]) then(some (5,())) else
 some (0,())) else
 bif word.beq (B [105,110]) then(some (3,())) else
 bif word.beq (B [102,111,117,110,100]) then(bif word.beq (B [102,111,117,110,100]) then(some (4,())) else
 bif word.beq (B [115,97,108,101]) then(bif word.beq (B [115,97,108,101]) then(some (5,())) else
 some (0,())) else
 bif word.beq (B [99,108,111,115,101]) then(bif word.beq (B [99,108,111,115,101]) then(some (5,())) else
 some (0,())) else
 bif word.beq (B [100,117,116,121]) then(some (5,())) else
 some (0,())) else
 bif word.beq (B [104,101,108,100]) then(bif word.beq (B [104,101,108,100]) then(some (4,())) else
 bif word.beq (B [115,97,108,101]) then(bif word.beq (B [115,97,108,101]) then(some (5,())) else
 some (0,())) else
 bif word.beq (B [99,108,111,115,101]) then(bif word.beq (B [99,108,111,115,101]) then(some (5,())) else
 some (0,())) else
 bif word.beq (B [100,117,116,121]) then(some (5,())) else
 some (0,())) else
 bif word.beq (B [115,105,103,110,101,100]) then(bif word.beq (B [115,105,103,110,101,100]) then(some (4,())) else
 bif word.beq (B [115,97,108,101]) then(bif word.beq (B [115,97,108,101]) then(some (5,())) else
 some (0,())) else
 bif word.beq (B [99,108,111,115,101]) then(bif word.beq (B [99,108,111,115,101]) then(some (5,())) else
 some (0,())) else
 bif word.beq (B [100,117,116,121]) then(some (5,())) else
 some (0,())) else
 bif word.beq (B [115,121,110,99]) then(some (4,())) else
 bif word.beq (B [115,97,108,101]) then(bif word.beq (B [115,97,108,101]) then(some (5,())) else
 some (0,())) else
 bif word.beq (B [99,108,111,115,101]) then(bif word.beq (B [99,108,111,115,101]) then(some (5,())) else
 some (0,())) else
 bif word.beq (B [100,117,116,121]) then(some (5,())) else
 some (0,())
def ZgK:LB:=lw Tryz.func64 [.s 9] 0 (rt [.s 3]) (u1 MK) [] []
def CF:Nat→ByteArray→(List ByteArray)→Int→Int→Option ((List ByteArray×Unit))
 | 0,_,_,_,_=>none
 | n+1,s,out,from_,i =>
  bif decide (i≤(↑s.size:Int)) then(bif !decide (i=(↑s.size:Int)) then((Le s i).bind fun v0 =>
  bif decide (v0.n=32) then((HR s from_ i).bind fun v1 =>
  (app out [v1]).bind fun v2 =>
  CF n s v2 (IntKind.i64.wrap (i+1)) (IntKind.i64.wrap (i+1))) else
  CF n s out from_ (IntKind.i64.wrap (i+1))) else
  (HR s from_ i).bind fun v0 =>
  (app out [v0]).bind fun v1 =>
  CF n s v1 (IntKind.i64.wrap (i+1)) (IntKind.i64.wrap (i+1))) else
  some (out,())
def KQ (n:Nat) (s:ByteArray):Option ((List ByteArray×Unit)) :=
 (CF n s [] 0 0).bind fun v0 =>
 some (v0.fst,())
def ZfD:CB Tryz.f63:=lp 4 [(0,.s 9),(3,.o 9),(4,.s 3),(5,.s 3)] 0 [⟨.exit 0,[],[(3,.o 9)],[]⟩] (u4 CF) [] []
def ZgA:LB:=lw Tryz.func63 [.s 9] 0 (rt [.l 9]) (u1 KQ) [] [ZfD]
def Ba:Nat→Bool→ByteArray→Int→Int→Option ((Bool×Int×Unit) ⊕ ((Int×Bool×Unit)))
 | 0,_,_,_,_=>none
 | n+1,minus,d,n_,i =>
  bif decide (i<(↑d.size:Int)) then((Le d i).bind fun v0 =>
  bif !decide (v0.n<48) then((Le d i).bind fun v1 =>
  bif decide (v1.n>57) then(some (.inr (0,(false,())))) else
  (Le d i).bind fun v2 =>
  Ba n minus d (IntKind.i64.wrap (IntKind.i64.wrap (10*n_)+IntKind.i64.wrap (IntKind.u8.wrap (v2.n-48)))) (IntKind.i64.wrap (i+1))) else
  some (.inr (0,(false,())))) else
  some (.inl (minus,(n_,())))
def KR (n:Nat) (s:ByteArray):Option ((Int×Bool×Unit)) :=
 bif decide ((↑s.size:Int)>0) then((Le s 0).bind fun v0 =>
 bif decide (v0.n=45) then((HR s 1 (↑s.size:Int)).bind fun v1 =>
 bif !decide ((↑v1.size:Int)=0) then(bif !decide ((↑v1.size:Int)>9) then((Le v1 0).bind fun v2 =>
 bif decide (v2.n=48) then(bif !decide ((↑v1.size:Int)>1) then(bif decide (v0.n=45) then(some (0,(false,()))) else
 (Ba n (decide (v0.n=45)) v1 0 0).bind fun v3 =>
 Sum.elim (fun v4=>bif v4.fst then(some (IntKind.i64.wrap (0-v4.snd.fst),(true,()))) else
 some (v4.snd.fst,(true,()))) (fun v4=>some (v4.fst,(v4.snd.fst,()))) (v3)) else
 some (0,(false,()))) else
 (Ba n (decide (v0.n=45)) v1 0 0).bind fun v3 =>
 Sum.elim (fun v4=>bif v4.fst then(some (IntKind.i64.wrap (0-v4.snd.fst),(true,()))) else
 some (v4.snd.fst,(true,()))) (fun v4=>some (v4.fst,(v4.snd.fst,()))) (v3)) else
 some (0,(false,()))) else
 some (0,(false,()))) else
 bif !decide ((↑s.size:Int)=0) then(bif !decide ((↑s.size:Int)>9) then((Le s 0).bind fun v1 =>
 bif decide (v1.n=48) then(bif !decide ((↑s.size:Int)>1) then(bif decide (v0.n=45) then(some (0,(false,()))) else
 (Ba n (decide (v0.n=45)) s 0 0).bind fun v2 =>
 Sum.elim (fun v3=>bif v3.fst then(some (IntKind.i64.wrap (0-v3.snd.fst),(true,()))) else
 some (v3.snd.fst,(true,()))) (fun v3=>some (v3.fst,(v3.snd.fst,()))) (v2)) else
 some (0,(false,()))) else
 (Ba n (decide (v0.n=45)) s 0 0).bind fun v2 =>
 Sum.elim (fun v3=>bif v3.fst then(some (IntKind.i64.wrap (0-v3.snd.fst),(true,()))) else
 some (v3.snd.fst,(true,()))) (fun v3=>some (v3.fst,(v3.snd.fst,()))) (v2)) else
 some (0,(false,()))) else
 some (0,(false,()))) else
 bif !decide ((↑s.size:Int)=0) then(bif !decide ((↑s.size:Int)>9) then((Le s 0).bind fun v0 =>
 bif decide (v0.n=48) then(bif !decide ((↑s.size:Int)>1) then((Ba n false s 0 0).bind fun v1 =>
 Sum.elim (fun v2=>bif v2.fst then(some (IntKind.i64.wrap (0-v2.snd.fst),(true,()))) else
 some (v2.snd.fst,(true,()))) (fun v2=>some (v2.fst,(v2.snd.fst,()))) (v1)) else
 some (0,(false,()))) else
 (Ba n false s 0 0).bind fun v1 =>
 Sum.elim (fun v2=>bif v2.fst then(some (IntKind.i64.wrap (0-v2.snd.fst),(true,()))) else
 some (v2.snd.fst,(true,()))) (fun v2=>some (v2.fst,(v2.snd.fst,()))) (v1)) else
 some (0,(false,()))) else
 some (0,(false,()))
def ZfE:CB Tryz.f65:=lp 9 [(4,.s 4),(5,.s 9),(6,.s 3),(7,.s 3)] 0 [⟨.exit 0,[],[(4,.s 4),(6,.s 3)],[]⟩,⟨.ret,[],[(2,.s 3),(3,.s 4)],[]⟩] (u4 Ba) [] []
def ZgB:LB:=lw Tryz.func65 [.s 9] 0 (rt [.s 3,.s 4]) (u1 KR) [] [ZfE]
def Jr:List (Nat×C):=[(0,.s 3)]
def Mq:List Wo:=[⟨.ret,[],[],[.s 9]⟩]
def AB:Nat→Int→Option ((ByteArray×Unit))
 | 0,_=>none
 | n+1,n_ =>
  bif decide (n_<10) then(some (Q2 [IK.mk (IntKind.u8.wrap (IntKind.i64.wrap (48+(if n_>0 then n_ else 0).tmod 10)))],())) else
  (AB n (IntKind.i64.wrap (n_.tdiv 10))).bind fun v0 =>
  (AB n (n_.tmod 10)).bind fun v1 =>
  (An v0.fst v1.fst).bind fun v2 =>
  some (v2,())
def Rz (n:Nat) (y:C.Ds Ty (AH Jr)):Option (YT Ty Mq):=AB n y.1
def Zdg (n:Nat):GL Ty:=FA Jr 0 Mq (Rz n)
def Zfl (n:Nat):List (Nat×GL Ty):=[(97,Zdg n)]
def Zfm (n:Nat):FO Ty:=[]
theorem XT (n:Nat) (x:C.Ds Ty (AH Jr)):(CI Tryz.prog 19 (Ca Tryz.prog (Zfl n) []) (A6 (Zfm n)) (Bz Tryz.f97) (By Jr x)).runK (GN Tryz.prog Tryz.f97.results.toList 0 Mq)=Rz (n+1) x:=by kernel_rfl
theorem Lh:∀ n:Nat,Bb Tryz.prog 97 (Zdg n)
 | 0=>Agp
 | n+1=>HT Tryz.func97 rfl rfl (by decide) rfl Af Am (A5 (T:=Zfl n) Af Am ⟨Lh n,trivial⟩ EO) (A0 (fn:=Tryz.f97) (L:=Zfm n) (ks:=[]) trivial (by kernel_rfl) (by kernel_rfl)) (XT n)
def A4:Nat→(List Ak)→Int→Ak→Int→Option ((Ak×Unit) ⊕ ((Ak×Bool×Unit)))
 | 0,_,_,_,_=>none
 | n+1,l,minute,d,i =>
  bif decide (i<(↑l.length:Int)) then((Ao l i).bind fun v0 =>
  bif !v0.bus != d.bus then(bif !decide (v0.minute<d.minute) then(bif decide (v0.minute>minute) then(A4 n l minute d (IntKind.i64.wrap (i+1))) else
  bif decide (v0.kind.n=2) then(bif !decide (v0.sg=d.number) then(bif decide (v0.kind.n=3) then(bif decide (d.kind.n=0) then(some (.inr (d,(false,())))) else
  A4 n l minute d (IntKind.i64.wrap (i+1))) else
  A4 n l minute d (IntKind.i64.wrap (i+1))) else
  some (.inr (d,(false,())))) else
  bif decide (v0.kind.n=3) then(bif decide (d.kind.n=0) then(some (.inr (d,(false,())))) else
  A4 n l minute d (IntKind.i64.wrap (i+1))) else
  A4 n l minute d (IntKind.i64.wrap (i+1))) else
  A4 n l minute d (IntKind.i64.wrap (i+1))) else
  A4 n l minute d (IntKind.i64.wrap (i+1))) else
  some (.inl (d,()))
def Js (n:Nat) (l:List Ak) (d:Ak) (minute:Int):Option ((Bool×Unit)) :=
 bif decide (d.minute>minute) then(some (false,())) else
 (A4 n l minute d 0).bind fun v0 =>
 Sum.elim (fun v1=>some (true,())) (fun v1=>some (v1.snd.fst,())) (v0)
def Zfw:CB Tryz.f124:=lp 4 [(0,.l 65),(2,.s 3),(4,.u 65),(7,.s 3)] 1 [⟨.exit 0,[.u 65],[],[]⟩,⟨.ret,[.u 65],[(6,.s 4)],[]⟩] (u4 A4) [] []
def Zg0:LB:=(lw Tryz.func124 [.l 65,.g 65,.s 3] 0 (rt [.s 4]) (u3 Js) [] [Zfw]).rd
def GT (n:Nat) (a:Aa) (b:Aa):Option ((Bool×Unit)) :=
 bif !(decide (a.machine=b.machine) && (decide (a.seq=b.seq) && (decide (a.minute=b.minute) && (decide (a.kind.n=b.kind.n) && (decide (a.a=b.a) && (decide (a.b=b.b) && true)))))) then(bif a.machine != b.machine then(some (false,())) else
 bif !decide (a.seq=b.seq) then(bif decide (a.seq>b.seq) then(bif !decide (a.minute<b.minute) then(bif decide (a.seq<b.seq) then(some (decide (a.minute>b.minute),())) else
 some (false,())) else
 some (true,())) else
 bif decide (a.seq<b.seq) then(some (decide (a.minute>b.minute),())) else
 some (false,())) else
 some (true,())) else
 some (false,())
def Zep:LB:=lw Tryz.func203 [.g 90,.g 90] 0 (rt [.s 4]) (u2 GT) [] []
def B9:Nat→(List Aa)→Int→Int→Option ((List Aa×Int×Unit) ⊕ ((Bool×Unit)))
 | 0,_,_,_=>none
 | n+1,l,i,k =>
  bif decide (k<i) then((Ao l i).bind fun v0 =>
  (Ao l k).bind fun v1 =>
  (GT n v0 v1).bind fun v2 =>
  bif v2.fst then(some (.inr (true,()))) else
  B9 n l i (IntKind.i64.wrap (k+1))) else
  some (.inl (l,(i,())))
def BA:Nat→(List Aa)→Int→Option (Unit ⊕ ((Bool×Unit)))
 | 0,_,_=>none
 | n+1,l,i =>
  bif decide (i<(↑l.length:Int)) then((B9 n l i 0).bind fun v0 =>
  Sum.elim (fun v1=>BA n v1.fst (IntKind.i64.wrap (v1.snd.fst+1))) (fun v1=>some (.inr (v1.fst,()))) (v0)) else
  some (.inl ())
def D6 (n:Nat) (l:List Aa):Option ((Bool×Unit)) :=
 (BA n l 0).bind fun v0 =>
 Sum.elim (fun v1=>some (false,())) (fun v1=>some (v1.fst,())) (v0)
def ZbU:List LB:=[Zep]
def Zdp:CB Tryz.f143:=lp 5 [(0,.l 90),(3,.s 3),(4,.s 3)] 0 [⟨.exit 2,[],[(0,.l 90),(3,.s 3)],[]⟩,⟨.ret,[],[(2,.s 4)],[]⟩] (u3 B9) ZbU []
def Zdq:CB Tryz.f143:=lp 2 [(0,.l 90),(3,.s 3)] 0 [⟨.exit 0,[],[],[]⟩,⟨.ret,[],[(2,.s 4)],[]⟩] (u2 BA) ZbU [Zdp]
def ZdB:LB:=(lw Tryz.func143 [.l 90] 0 (rt [.s 4]) (u1 D6) ZbU [Zdq]).rd
def Eg (n:Nat) (n_:Int) (low:Int) (high:Int):Option ((Bool×Unit)) :=
 bif decide (n_≥low) then(some (decide (n_≤high),())) else
 some (false,())
def Zfn:LB:=lw Tryz.func145 [.s 3,.s 3,.s 3] 0 (rt [.s 4]) (u3 Eg) [] []
def GU (n:Nat) (c:Ak):Option ((Bool×Unit)) :=
 (Eg n c.bus 0 99).bind fun v0 =>
 bif !!v0.fst then((Eg n c.number 1 999).bind fun v1 =>
 bif !!v1.fst then((Eg n c.minute 0 1000000).bind fun v2 =>
 bif !!v2.fst then(bif decide (c.kind.n>3) then(some (false,())) else
 bif decide (c.kind.n<2) then((Eg n c.part 0 15).bind fun v3 =>
 bif v3.fst then(some (decide (c.sg=0),())) else
 some (false,())) else
 bif decide (c.part=0) then(bif decide (c.kind.n=2) then((Eg n c.sg 1 999).bind fun v3 =>
 bif !v3.fst then(bif decide (c.kind.n=3) then(some (decide (c.sg=0),())) else
 some (false,())) else
 some (true,())) else
 bif decide (c.kind.n=3) then(some (decide (c.sg=0),())) else
 some (false,())) else
 some (false,())) else
 some (false,())) else
 some (false,())) else
 some (false,())
def Zgc:LB:=lw Tryz.func201 [.g 65] 0 (rt [.s 4]) (u1 GU) [Zfn] []
def CL (n:Nat) (n_:Int) (low:Int) (high:Int):Option ((Bool×Unit)) :=
 bif decide (n_≥low) then(some (decide (n_≤high),())) else
 some (false,())
def Zfo:LB:=lw Tryz.func156 [.s 3,.s 3,.s 3] 0 (rt [.s 4]) (u3 CL) [] []
def Io (n:Nat) (r:Aa):Option ((Bool×Unit)) :=
 (CL n r.machine 0 999).bind fun v0 =>
 bif !!v0.fst then((CL n r.seq 1 9999).bind fun v1 =>
 bif !!v1.fst then((CL n r.minute 0 1000000).bind fun v2 =>
 bif !v2.fst then(some (false,())) else
 bif decide (r.kind.n=0) then((CL n r.a 0 99).bind fun v3 =>
 bif v3.fst then((CL n r.b 0 10000).bind fun v4 =>
 some (v4.fst,())) else
 some (false,())) else
 bif decide (r.kind.n=1) then((CL n r.a 0 1000000).bind fun v3 =>
 bif v3.fst then(some (decide (r.b=0),())) else
 some (false,())) else
 bif decide (r.kind.n=2) then((CL n r.a 0 9999).bind fun v3 =>
 bif v3.fst then((CL n r.b 0 10000000).bind fun v4 =>
 some (v4.fst,())) else
 some (false,())) else
 some (false,())) else
 some (false,())) else
 some (false,())
def Zgd:LB:=lw Tryz.func202 [.g 90] 0 (rt [.s 4]) (u1 Io) [Zfo] []
def GV:Nat→Int→Ae→Int→Option ((Ae×Unit) ⊕ ((Ae×Int×Unit)))
 | 0,_,_,_=>none
 | n+1,bus,s,i =>
  bif decide (i<(↑s.outs.length:Int)) then((Ao s.outs i).bind fun v0 =>
  bif decide (v0.bus=bus) then(some (.inr (s,(i,())))) else
  GV n bus s (IntKind.i64.wrap (i+1))) else
  some (.inl (s,()))
def Gy (n:Nat) (s:Ae) (bus:Int):Option ((Int×Unit)) :=
 (GV n bus s 0).bind fun v0 =>
 Sum.elim (fun v1=>some (-1,())) (fun v1=>some (v1.snd.fst,())) (v0)
def Zge:CB Tryz.f144:=lp 2 [(1,.s 3),(2,.u 51),(5,.s 3)] 1 [⟨.exit 0,[.u 51],[],[]⟩,⟨.ret,[.u 51],[(4,.s 3)],[]⟩] (u3 GV) [] []
def Zfp:LB:=lw Tryz.func144 [.g 51,.s 3] 0 (rt [.s 3]) (u2 Gy) [] [Zge]
def H7:Nat→(List ByteArray)→Int→Option ((List ByteArray×Unit) ⊕ ((Bool×Unit)))
 | 0,_,_=>none
 | n+1,lines,i =>
  bif decide (i<(↑lines.length:Int)) then((Ao lines i).bind fun v0 =>
  bif decide ((↑v0.size:Int)>200) then(some (.inr (false,()))) else
  H7 n lines (IntKind.i64.wrap (i+1))) else
  some (.inl (lines,()))
def KS (n:Nat) (lines:List ByteArray):Option ((Bool×Unit)) :=
 (H7 n lines 0).bind fun v0 =>
 Sum.elim (fun v1=>some (decide ((↑v1.fst.length:Int)≤50),())) (fun v1=>some (v1.fst,())) (v0)
def ZfF:CB Tryz.f23:=lp 2 [(0,.l 9),(3,.s 3)] 0 [⟨.exit 0,[],[(0,.l 9)],[]⟩,⟨.ret,[],[(2,.s 4)],[]⟩] (u2 H7) [] []
def fref_Right_b:LB:=(lw Tryz.func23 [.l 9] 0 (rt [.s 4]) (u1 KS) [] [ZfF]).rd
def No (n:Nat):Option ((Ab×Unit)) :=
 some (Ab.mk (Ae.mk [] [] [] [] (Ai.mk 7 [] [] 600 5 3000) []),())
def ZfG:LB:=lw Tryz.func101 [] 0 (rt [.u 114]) (fun n _=>No n) [] []
def NW (n:Nat):Option ((Ae×Unit)) :=
 some (Ae.mk [] [] [] [] (Ai.mk 7 [] [] 600 5 3000) [],())
def ZgC:LB:=lw Tryz.func59 [] 0 (rt [.g 51]) (fun n _=>NW n) [] []
def EA:Nat→(List Ak)→Int→Option ((List Ak×Unit) ⊕ ((Int×Unit)))
 | 0,_,_=>none
 | n+1,l,i =>
  bif decide (i<(↑l.length:Int)) then((Ao l i).bind fun v0 =>
  (GU n v0).bind fun v1 =>
  bif !v1.fst then(some (.inr (1,()))) else
  EA n l (IntKind.i64.wrap (i+1))) else
  some (.inl (l,()))
def Dk:Nat→(List Ak)→Int→Int→Option ((List Ak×Int×Unit) ⊕ ((Int×Unit)))
 | 0,_,_,_=>none
 | n+1,l,i,k =>
  bif decide (k<i) then((Ao l i).bind fun v0 =>
  (Ao l k).bind fun v1 =>
  bif decide (v0.number=v1.number) then((Ao l i).bind fun v2 =>
  (Ao l k).bind fun v3 =>
  bif !(decide (v2.bus=v3.bus) && (decide (v2.number=v3.number) && (decide (v2.minute=v3.minute) && (decide (v2.kind.n=v3.kind.n) && (decide (v2.part=v3.part) && (decide (v2.sg=v3.sg) && true)))))) then(some (.inr (6,()))) else
  Dk n l i (IntKind.i64.wrap (k+1))) else
  Dk n l i (IntKind.i64.wrap (k+1))) else
  some (.inl (l,(i,())))
def EB:Nat→(List Ak)→Int→Option (Unit ⊕ ((Int×Unit)))
 | 0,_,_=>none
 | n+1,l,i =>
  bif decide (i<(↑l.length:Int)) then((Dk n l i 0).bind fun v0 =>
  Sum.elim (fun v1=>EB n v1.fst (IntKind.i64.wrap (v1.snd.fst+1))) (fun v1=>some (.inr (v1.fst,()))) (v0)) else
  some (.inl ())
def Ip (n:Nat) (l:List Ak):Option ((Int×Unit)) :=
 bif decide ((↑l.length:Int)>40) then(some (3,())) else
 (EA n l 0).bind fun v0 =>
 Sum.elim (fun v1=>(EB n v1.fst 0).bind fun v2 =>
 Sum.elim (fun v3=>some (0,())) (fun v3=>some (v3.fst,())) (v2)) (fun v1=>some (v1.fst,())) (v0)
def Zco:List LB:=[Zgc]
def ZeQ:CB Tryz.f141:=lp 4 [(0,.l 65),(3,.s 3)] 0 [⟨.exit 0,[],[(0,.l 65)],[]⟩,⟨.ret,[],[(2,.s 3)],[]⟩] (u2 EA) Zco []
def ZeR:CB Tryz.f141:=lp 12 [(0,.l 65),(4,.s 3),(5,.s 3)] 0 [⟨.exit 4,[],[(0,.l 65),(4,.s 3)],[]⟩,⟨.ret,[],[(2,.s 3)],[]⟩] (u3 Dk) Zco []
def ZeS:CB Tryz.f141:=lp 9 [(0,.l 65),(4,.s 3)] 0 [⟨.exit 2,[],[],[]⟩,⟨.ret,[],[(2,.s 3)],[]⟩] (u2 EB) Zco [ZeR]
def Zgf:LB:=(lw Tryz.func141 [.l 65] 0 (rt [.s 3]) (u1 Ip) Zco [ZeQ,ZeS]).rd
def GW:Nat→Ae→Ak→Ae→Int→Option ((Ae×Ak×Ae×Unit×Unit×Unit×Unit) ⊕ ((Ae×Ak×Ae×Unit×Int×Unit)))
 | 0,_,_,_,_=>none
 | n+1,s,c,x4,i =>
  bif decide (i<(↑s.cards.length:Int)) then((Ao s.cards i).bind fun v0 =>
  bif decide (v0.bus=c.bus) && (decide (v0.number=c.number) && (decide (v0.minute=c.minute) && (decide (v0.kind.n=c.kind.n) && (decide (v0.part=c.part) && (decide (v0.sg=c.sg) && true))))) then(some (.inr (s,(c,(s,((),(6,()))))))) else
  GW n s c x4 (IntKind.i64.wrap (i+1))) else
  some (.inl (s,(c,(x4,((),((),((),())))))))
def Kj (n:Nat) (s:Ae) (c:Ak):Option ((Ae×Int×Unit)) :=
 (GW n s c (Ae.mk [] [] [] [] (Ai.mk 0 [] [] 0 0 0) []) 0).bind fun v0 =>
 Sum.elim (fun v1=>(app [] v1.fst.cards).bind fun v2 =>
 (app v2 [v1.snd.fst]).bind fun v3 =>
 (Ip n v3).bind fun v4 =>
 bif v4.fst != 0 then(some (v1.fst,(v4.fst,()))) else
 some (Ae.mk v3 v1.fst.outs v1.fst.runs v1.fst.records v1.fst.week v1.fst.roster,(0,()))) (fun v1=>some (v1.snd.snd.fst,(v1.snd.snd.snd.snd.fst,()))) (v0)
def Zfq:List LB:=[Zgf]
def Zgg:CB Tryz.f85:=lp 2 [(2,.u 51),(3,.u 65),(4,.u 51),(6,.s 3)] 3 [⟨.exit 0,[.u 51,.u 65,.u 51],[(2,.q 0),(3,.q 1),(4,.q 2)],[]⟩,⟨.ret,[.u 51,.u 65,.u 51],[(4,.q 2),(5,.s 3)],[]⟩] (u4 GW) Zfq []
def ZgL:LB:=lw Tryz.func85 [.g 51,.g 65] 0 (rt [.g 51,.s 3]) (u2 Kj) Zfq [Zgg]
def EC:Nat→(List (List Aa))→Int→Option ((List (List Aa)×Unit) ⊕ ((Int×Unit)))
 | 0,_,_=>none
 | n+1,lists,i =>
  bif decide (i<(↑lists.length:Int)) then((Ao lists i).bind fun v0 =>
  bif decide ((↑v0.length:Int)>60) then(some (.inr (3,()))) else
  EC n lists (IntKind.i64.wrap (i+1))) else
  some (.inl (lists,()))
def ED:Nat→(List (List Aa))→Int→Int→Option ((List (List Aa)×Int×Unit) ⊕ ((Int×Unit)))
 | 0,_,_,_=>none
 | n+1,lists,i,k =>
  (Ao lists i).bind fun v0 =>
  bif decide (k<(↑v0.length:Int)) then((Ao lists i).bind fun v1 =>
  (Ao v1 k).bind fun v2 =>
  (Io n v2).bind fun v3 =>
  bif !v3.fst then(some (.inr (1,()))) else
  ED n lists i (IntKind.i64.wrap (k+1))) else
  some (.inl (lists,(i,())))
def EE:Nat→(List (List Aa))→Int→Option (Unit ⊕ ((Int×Unit)))
 | 0,_,_=>none
 | n+1,lists,i =>
  bif decide (i<(↑lists.length:Int)) then((ED n lists i 0).bind fun v0 =>
  Sum.elim (fun v1=>EE n v1.fst (IntKind.i64.wrap (v1.snd.fst+1))) (fun v1=>some (.inr (v1.fst,()))) (v0)) else
  some (.inl ())
def Iq (n:Nat) (lists:List (List Aa)):Option ((Int×Unit)) :=
 bif decide ((↑lists.length:Int)>6) then(some (3,())) else
 (EC n lists 0).bind fun v0 =>
 Sum.elim (fun v1=>(EE n v1.fst 0).bind fun v2 =>
 Sum.elim (fun v3=>some (0,())) (fun v3=>some (v3.fst,())) (v2)) (fun v1=>some (v1.fst,())) (v0)
def Zcp:List LB:=[Zgd]
def ZeT:CB Tryz.f142:=lp 4 [(0,.l 45),(3,.s 3)] 0 [⟨.exit 0,[],[(0,.l 45)],[]⟩,⟨.ret,[],[(2,.s 3)],[]⟩] (u2 EC) Zcp []
def ZeU:CB Tryz.f142:=lp 12 [(0,.l 45),(4,.s 3),(5,.s 3)] 0 [⟨.exit 4,[],[(0,.l 45),(4,.s 3)],[]⟩,⟨.ret,[],[(2,.s 3)],[]⟩] (u3 ED) Zcp []
def ZeV:CB Tryz.f142:=lp 9 [(0,.l 45),(4,.s 3)] 0 [⟨.exit 2,[],[],[]⟩,⟨.ret,[],[(2,.s 3)],[]⟩] (u2 EE) Zcp [ZeU]
def Zgh:LB:=(lw Tryz.func142 [.l 45] 0 (rt [.s 3]) (u1 Iq) Zcp [ZeT,ZeV]).rd
def Fw:Nat→Ae→Aa→Ae→Int→Option ((Ae×Aa×Ae×Unit×Unit×Unit×Unit) ⊕ ((Ae×Aa×Ae×Unit×Int×Unit)))
 | 0,_,_,_,_=>none
 | n+1,s,r,x4,i =>
  bif decide (i<(↑s.records.length:Int)) then((Ao s.records i).bind fun v0 =>
  bif decide (v0.machine=r.machine) && (decide (v0.seq=r.seq) && (decide (v0.minute=r.minute) && (decide (v0.kind.n=r.kind.n) && (decide (v0.a=r.a) && (decide (v0.b=r.b) && true))))) then(some (.inr (s,(r,(s,((),(6,()))))))) else
  Fw n s r x4 (IntKind.i64.wrap (i+1))) else
  some (.inl (s,(r,(x4,((),((),((),())))))))
def HH (n:Nat) (s:Ae) (r:Aa):Option ((Ae×Int×Unit)) :=
 (Fw n s r (Ae.mk [] [] [] [] (Ai.mk 0 [] [] 0 0 0) []) 0).bind fun v0 =>
 Sum.elim (fun v1=>(Iq n [v1.fst.records,[v1.snd.fst]]).bind fun v2 =>
 bif v2.fst != 0 then(some (v1.fst,(v2.fst,()))) else
 (app [] v1.fst.records).bind fun v3 =>
 (app v3 [v1.snd.fst]).bind fun v4 =>
 (D6 n v4).bind fun v5 =>
 bif v5.fst then(some (v1.fst,(6,()))) else
 bif decide ((↑v4.length:Int)>60) then(some (v1.fst,(3,()))) else
 some (Ae.mk v1.fst.cards v1.fst.outs v1.fst.runs v4 v1.fst.week v1.fst.roster,(0,()))) (fun v1=>some (v1.snd.snd.fst,(v1.snd.snd.snd.snd.fst,()))) (v0)
def Zee:List LB:=[Zgh,ZdB]
def Zfx:CB Tryz.f86:=lp 2 [(2,.u 51),(3,.u 90),(4,.u 51),(6,.s 3)] 3 [⟨.exit 0,[.u 51,.u 90,.u 51],[(2,.q 0),(3,.q 1),(4,.q 2)],[]⟩,⟨.ret,[.u 51,.u 90,.u 51],[(4,.q 2),(5,.s 3)],[]⟩] (u4 Fw) Zee []
def Zg1:LB:=lw Tryz.func86 [.g 51,.g 90] 0 (rt [.g 51,.s 3]) (u2 HH) Zee [Zfx]
def Da:Nat→(List Aa)→Int→Aa→Int→Option ((Aa×List Aa×Int×Unit×Unit) ⊕ ((Aa×Unit×Unit)))
 | 0,_,_,_,_=>none
 | n+1,l,at_,x4,i =>
  bif decide (i≥0) then((Ao l i).bind fun v0 =>
  (Ao l at_).bind fun v1 =>
  bif decide (v0.machine=v1.machine) then((Ao l i).bind fun v2 =>
  bif decide (v2.kind.n=2) then((Ao l i).bind fun v3 =>
  some (.inr (v3,((),())))) else
  Da n l at_ x4 (IntKind.i64.wrap (i-1))) else
  Da n l at_ x4 (IntKind.i64.wrap (i-1))) else
  some (.inl (x4,(l,(at_,((),())))))
def HI (n:Nat) (l:List Aa) (at_:Int):Option ((Aa×Unit)) :=
 (Da n l at_ (Aa.mk 0 0 0 (IK.mk 0) 0 0) (IntKind.i64.wrap (at_-1))).bind fun v0 =>
 Sum.elim (fun v1=>(Ao v1.snd.fst v1.snd.snd.fst).bind fun v2 =>
 some (Aa.mk v2.machine 0 0 (IK.mk 0) 0 0,())) (fun v1=>some (v1.fst,())) (v0)
def Zfy:CB Tryz.f211:=lp 2 [(0,.l 90),(1,.s 3),(4,.u 90),(5,.s 3)] 1 [⟨.exit 0,[.u 90],[(0,.l 90),(1,.s 3),(4,.q 0)],[]⟩,⟨.ret,[.u 90],[(4,.q 0)],[]⟩] (u4 Da) [] []
def Zef:LB:=(lw Tryz.func211 [.l 90,.s 3] 0 (rt [.g 90]) (u2 HI) [] [Zfy]).rd
def BB:Nat→(List Aa)→Int→Bc→Aa→Bc→Int→Option ((Bc×Aa×Bc×Unit×Unit×Unit))
 | 0,_,_,_,_,_,_=>none
 | n+1,l,at_,x4,from_,out,i =>
  bif decide (i<at_) then((Ao l i).bind fun v0 =>
  bif decide (v0.machine=out.machine) then(bif decide (v0.seq>from_.seq) then(bif decide (v0.kind.n=0) then(BB n l at_ x4 from_ (Bc.mk out.machine out.fr out.to_ (IntKind.i64.wrap (out.sales-1)) (IntKind.i64.wrap (out.coins-v0.b))) (IntKind.i64.wrap (i+1))) else
  BB n l at_ x4 from_ out (IntKind.i64.wrap (i+1))) else
  BB n l at_ x4 from_ out (IntKind.i64.wrap (i+1))) else
  BB n l at_ x4 from_ out (IntKind.i64.wrap (i+1))) else
  some (x4,(from_,(out,((),((),())))))
def H8 (n:Nat) (l:List Aa) (at_:Int):Option ((Bc×Unit)) :=
 (HI n l at_).bind fun v0 =>
 (Ao l at_).bind fun v1 =>
 (Ao l at_).bind fun v2 =>
 (Ao l at_).bind fun v3 =>
 (Ao l at_).bind fun v4 =>
 (BB n l at_ (Bc.mk 0 0 0 0 0) v0.fst (Bc.mk v1.machine v0.fst.seq v2.seq (IntKind.i64.wrap (v3.a-v0.fst.a)) (IntKind.i64.wrap (v4.b-v0.fst.b))) 0).bind fun v5 =>
 some (v5.snd.snd.fst,())
def Zd3:List LB:=[Zef]
def ZeC:CB Tryz.f155:=lp 4 [(0,.l 90),(1,.s 3),(4,.u 178),(5,.u 90),(6,.u 178),(7,.s 3)] 3 [⟨.exit 0,[.u 178,.u 90,.u 178],[(4,.q 0),(6,.q 2)],[]⟩] (u6 BB) Zd3 []
def ZfH:LB:=(lw Tryz.func155 [.l 90,.s 3] 0 (rt [.g 178]) (u2 H8) Zd3 [ZeC]).rd
def Db:Nat→(List Aa)→Int→Aa→Int→Int→Option ((Aa×Int×Unit))
 | 0,_,_,_,_,_=>none
 | n+1,l,at_,from_,n_,i =>
  bif decide (i<at_) then((Ao l i).bind fun v0 =>
  bif decide (v0.machine=from_.machine) then((Ao l i).bind fun v1 =>
  bif decide (v1.seq>from_.seq) then(Db n l at_ from_ (IntKind.i64.wrap (n_-1)) (IntKind.i64.wrap (i+1))) else
  Db n l at_ from_ n_ (IntKind.i64.wrap (i+1))) else
  Db n l at_ from_ n_ (IntKind.i64.wrap (i+1))) else
  some (from_,(n_,()))
def Jt (n:Nat) (l:List Aa) (at_:Int):Option ((Int×Unit)) :=
 (HI n l at_).bind fun v0 =>
 (Ao l at_).bind fun v1 =>
 (Db n l at_ v0.fst (IntKind.i64.wrap (IntKind.i64.wrap (v1.seq-v0.fst.seq)-1)) 0).bind fun v2 =>
 some (v2.snd.fst,())
def Zeg:List LB:=[Zef]
def Zfz:CB Tryz.f157:=lp 4 [(0,.l 90),(1,.s 3),(5,.u 90),(6,.s 3),(7,.s 3)] 1 [⟨.exit 0,[.u 90],[(6,.s 3)],[]⟩] (u5 Db) Zeg []
def Zg2:LB:=(lw Tryz.func157 [.l 90,.s 3] 0 (rt [.s 3]) (u2 Jt) Zeg [Zfz]).rd
def BS:Nat→(List Aa)→(List Bc)→Int→Option ((List Bc×Unit) ⊕ ((List Bc×Bool×Unit)))
 | 0,_,_,_=>none
 | n+1,l,out,i =>
  bif decide (i<(↑l.length:Int)) then((Ao l i).bind fun v0 =>
  bif v0.kind.n != 2 then(BS n l out (IntKind.i64.wrap (i+1))) else
  (H8 n l i).bind fun v1 =>
  (Jt n l i).bind fun v2 =>
  (CL n v1.fst.sales 0 v2.fst).bind fun v3 =>
  bif !!v3.fst then((CL n v1.fst.coins 0 (IntKind.i64.wrap (10000*v1.fst.sales))).bind fun v4 =>
  bif !v4.fst then(some (.inr ([],(false,())))) else
  bif !decide (v1.fst.sales>0) then(bif decide (v1.fst.coins>0) then((app out [v1.fst]).bind fun v5 =>
  BS n l v5 (IntKind.i64.wrap (i+1))) else
  BS n l out (IntKind.i64.wrap (i+1))) else
  (app out [v1.fst]).bind fun v5 =>
  BS n l v5 (IntKind.i64.wrap (i+1))) else
  some (.inr ([],(false,())))) else
  some (.inl (out,()))
def GX (n:Nat) (l:List Aa):Option ((List Bc×Bool×Unit)) :=
 (BS n l [] 0).bind fun v0 =>
 Sum.elim (fun v1=>some (v1.fst,(true,()))) (fun v1=>some (v1.fst,(v1.snd.fst,()))) (v0)
def ZdP:List LB:=[ZfH,Zg2,Zfo]
def ZeW:CB Tryz.f98:=lp 3 [(0,.l 90),(4,.o 178),(5,.s 3)] 0 [⟨.exit 0,[],[(4,.o 178)],[]⟩,⟨.ret,[],[(2,.l 178),(3,.s 4)],[]⟩] (u3 BS) ZdP []
def Zgi:LB:=lw Tryz.func98 [.l 90] 0 (rt [.l 178,.s 4]) (u1 GX) ZdP [ZeW]
def EJ:Nat→(List Aa)→(List Aa)→Int→Bool→Int→Option ((List Aa×List Aa×Int×Bool×Unit))
 | 0,_,_,_,_,_=>none
 | n+1,l,out,i,again,k =>
  bif decide (k<(↑out.length:Int)) then(bif !again then((Ao out k).bind fun v0 =>
  (out.get?Internal k.toNat).bind fun v1 =>
  (Ao l i).bind fun v2 =>
  EJ n l out i (decide (v1.machine=v2.machine) && (decide (v1.seq=v2.seq) && (decide (v1.minute=v2.minute) && (decide (v1.kind.n=v2.kind.n) && (decide (v1.a=v2.a) && (decide (v1.b=v2.b) && true)))))) (IntKind.i64.wrap (k+1))) else
  EJ n l out i true (IntKind.i64.wrap (k+1))) else
  some (l,(out,(i,(again,()))))
def CG:Nat→(List Aa)→(List Aa)→Int→Int→Option ((List Aa×List Aa×Int×Unit))
 | 0,_,_,_,_=>none
 | n+1,l,out,i,k =>
  bif decide (k>0) then((Ao out k).bind fun v0 =>
  (out.get?Internal k.toNat).bind fun v1 =>
  (Ao out (IntKind.i64.wrap (k-1))).bind fun v2 =>
  (out.get?Internal (IntKind.i64.wrap (k-1)).toNat).bind fun v3 =>
  bif !decide (v1.machine<v3.machine) then((Ao out k).bind fun v4 =>
  (out.get?Internal k.toNat).bind fun v5 =>
  (Ao out (IntKind.i64.wrap (k-1))).bind fun v6 =>
  (out.get?Internal (IntKind.i64.wrap (k-1)).toNat).bind fun v7 =>
  bif decide (v5.machine=v7.machine) then((Ao out k).bind fun v8 =>
  (out.get?Internal k.toNat).bind fun v9 =>
  (Ao out (IntKind.i64.wrap (k-1))).bind fun v10 =>
  (out.get?Internal (IntKind.i64.wrap (k-1)).toNat).bind fun v11 =>
  bif decide (v9.seq<v11.seq) then((Ao out (IntKind.i64.wrap (k-1))).bind fun v12 =>
  (out.get?Internal (IntKind.i64.wrap (k-1)).toNat).bind fun v13 =>
  (Ao out k).bind fun v14 =>
  (out.get?Internal k.toNat).bind fun v15 =>
  (Ao out k).bind fun v16 =>
  (out.get?Internal k.toNat).bind fun v17 =>
  (Ao (out.set k.toNat v13) (IntKind.i64.wrap (k-1))).bind fun v18 =>
  ((out.set k.toNat v13).get?Internal (IntKind.i64.wrap (k-1)).toNat).bind fun v19 =>
  CG n l ((out.set k.toNat v13).set (IntKind.i64.wrap (k-1)).toNat v15) i (IntKind.i64.wrap (k-1))) else
  some (l,(out,(i,())))) else
  some (l,(out,(i,())))) else
  (Ao out (IntKind.i64.wrap (k-1))).bind fun v4 =>
  (out.get?Internal (IntKind.i64.wrap (k-1)).toNat).bind fun v5 =>
  (Ao out k).bind fun v6 =>
  (out.get?Internal k.toNat).bind fun v7 =>
  (Ao out k).bind fun v8 =>
  (out.get?Internal k.toNat).bind fun v9 =>
  (Ao (out.set k.toNat v5) (IntKind.i64.wrap (k-1))).bind fun v10 =>
  ((out.set k.toNat v5).get?Internal (IntKind.i64.wrap (k-1)).toNat).bind fun v11 =>
  CG n l ((out.set k.toNat v5).set (IntKind.i64.wrap (k-1)).toNat v7) i (IntKind.i64.wrap (k-1))) else
  some (l,(out,(i,())))
def EL:Nat→(List Aa)→(List Aa)→Int→Option ((List Aa×Unit))
 | 0,_,_,_=>none
 | n+1,l,out,i =>
  bif decide (i<(↑l.length:Int)) then((EJ n l out i false 0).bind fun v0 =>
  bif v0.snd.snd.snd.fst then(EL n v0.fst v0.snd.fst (IntKind.i64.wrap (v0.snd.snd.fst+1))) else
  (Ao v0.fst v0.snd.snd.fst).bind fun v1 =>
  (app v0.snd.fst [v1]).bind fun v2 =>
  (CG n v0.fst v2 v0.snd.snd.fst (IntKind.i64.wrap ((↑v2.length:Int)-1))).bind fun v3 =>
  EL n v3.fst v3.snd.fst (IntKind.i64.wrap (v3.snd.snd.fst+1))) else
  some (out,())
def KU (n:Nat) (l:List Aa):Option ((List Aa×Unit)) :=
 (EL n l [] 0).bind fun v0 =>
 some (v0.fst,())
def ZfI:CB Tryz.f99:=lp 7 [(0,.l 90),(3,.o 90),(4,.s 3),(5,.s 4),(6,.s 3)] 0 [⟨.exit 2,[],[(0,.l 90),(3,.o 90),(4,.s 3),(5,.s 4)],[]⟩] (u5 EJ) [] []
def ZfJ:CB Tryz.f99:=lp 13 [(0,.l 90),(3,.o 90),(4,.s 3),(7,.s 3)] 0 [⟨.exit 4,[],[(0,.l 90),(3,.o 90),(4,.s 3)],[]⟩] (u4 CG) [] []
def ZfK:CB Tryz.f99:=lp 3 [(0,.l 90),(3,.o 90),(4,.s 3)] 0 [⟨.exit 0,[],[(3,.o 90)],[]⟩] (u3 EL) [] [ZfI,ZfJ]
def ZgD:LB:=lw Tryz.func99 [.l 90] 0 (rt [.l 90]) (u1 KU) [] [ZfK]
def Gf:Nat→(List ByteArray)→Int→(List Int)→Int→Option ((List ByteArray×List Int×Unit) ⊕ ((ByteArray×List Int×Bool×Unit)))
 | 0,_,_,_,_=>none
 | n+1,parts,n_,l,i =>
  bif decide (i≤n_) then((Ao parts i).bind fun v0 =>
  (KR n v0).bind fun v1 =>
  bif !v1.snd.fst then(some (.inr (B [],([],(false,()))))) else
  (app l [v1.fst]).bind fun v2 =>
  Gf n parts n_ v2 (IntKind.i64.wrap (i+1))) else
  some (.inl (parts,(l,())))
def Gr (n:Nat) (line:ByteArray):Option ((ByteArray×List Int×Bool×Unit)) :=
 (KQ n line).bind fun v0 =>
 (Ao v0.fst 0).bind fun v1 =>
 (MK n v1).bind fun v2 =>
 bif !decide (v2.fst=0) then(bif (↑v0.fst.length:Int) != IntKind.i64.wrap (v2.fst+1) then(some (B [],([],(false,())))) else
 (Gf n v0.fst v2.fst [] 1).bind fun v3 =>
 Sum.elim (fun v4=>(Ao v4.fst 0).bind fun v5 =>
 some (v5,(v4.snd.fst,(true,())))) (fun v4=>some (v4.fst,(v4.snd.fst,(v4.snd.snd.fst,())))) (v3)) else
 some (B [],([],(false,())))
def ZeD:List LB:=[ZgA,ZgK,ZgB]
def ZfL:CB Tryz.f28:=lp 7 [(5,.l 9),(6,.s 3),(7,.o 3),(8,.s 3)] 0 [⟨.exit 0,[],[(5,.l 9),(7,.o 3)],[]⟩,⟨.ret,[],[(2,.s 9),(3,.l 3),(4,.s 4)],[]⟩] (u4 Gf) ZeD []
def ZcM:LB:=lw Tryz.func28 [.s 9] 0 (rt [.s 9,.l 3,.s 4]) (u1 Gr) ZeD [ZfL]
def J7 (n:Nat) (c:Ak):Option ((Bool×Unit)) :=
 some (decide (c.kind.n<2),())
def ZfM:LB:=lw Tryz.func123 [.g 65] 0 (rt [.s 4]) (u1 J7) [] []
def B6:Nat→(List Ak)→Int→Int→(List Int)→Int→Bool→Int→Option ((List Ak×Int×Int×List Int×Int×Bool×Unit))
 | 0,_,_,_,_,_,_,_=>none
 | n+1,l,bus,minute,out,n_,is,i =>
  bif decide (i<(↑l.length:Int)) then(bif !is then((Ao l i).bind fun v0 =>
  bif decide (v0.number=n_) then((Ao l i).bind fun v1 =>
  bif decide (v1.bus=bus) then((Ao l i).bind fun v2 =>
  (J7 n v2).bind fun v3 =>
  bif v3.fst then((Ao l i).bind fun v4 =>
  (Js n l v4 minute).bind fun v5 =>
  B6 n l bus minute out n_ v5.fst (IntKind.i64.wrap (i+1))) else
  B6 n l bus minute out n_ false (IntKind.i64.wrap (i+1))) else
  B6 n l bus minute out n_ false (IntKind.i64.wrap (i+1))) else
  B6 n l bus minute out n_ false (IntKind.i64.wrap (i+1))) else
  B6 n l bus minute out n_ true (IntKind.i64.wrap (i+1))) else
  some (l,(bus,(minute,(out,(n_,(is,()))))))
def Dl:Nat→(List Ak)→Int→Int→(List Int)→Int→Option ((List Int×Unit))
 | 0,_,_,_,_,_=>none
 | n+1,l,bus,minute,out,n_ =>
  bif decide (n_≤999) then((B6 n l bus minute out n_ false 0).bind fun v0 =>
  bif v0.snd.snd.snd.snd.snd.fst then((app v0.snd.snd.snd.fst [v0.snd.snd.snd.snd.fst]).bind fun v1 =>
  Dl n v0.fst v0.snd.fst v0.snd.snd.fst v1 (IntKind.i64.wrap (v0.snd.snd.snd.snd.fst+1))) else
  Dl n v0.fst v0.snd.fst v0.snd.snd.fst v0.snd.snd.snd.fst (IntKind.i64.wrap (v0.snd.snd.snd.snd.fst+1))) else
  some (out,())
def D7 (n:Nat) (l:List Ak) (bus:Int) (minute:Int):Option ((List Int×Unit)) :=
 (Dl n l bus minute [] 1).bind fun v0 =>
 some (v0.fst,())
def ZcV:List LB:=[ZfM,Zg0]
def ZeX:CB Tryz.f77:=lp 7 [(0,.l 65),(1,.s 3),(2,.s 3),(7,.o 3),(8,.s 3),(9,.s 4),(10,.s 3)] 0 [⟨.exit 2,[],[(0,.l 65),(1,.s 3),(2,.s 3),(7,.o 3),(8,.s 3),(9,.s 4)],[]⟩] (u7 B6) ZcV []
def ZeY:CB Tryz.f77:=lp 3 [(0,.l 65),(1,.s 3),(2,.s 3),(7,.o 3),(8,.s 3)] 0 [⟨.exit 0,[],[(7,.o 3)],[]⟩] (u5 Dl) ZcV [ZeX]
def ZcW:LB:=lw Tryz.func77 [.l 65,.s 3,.s 3] 0 (rt [.l 3]) (u3 D7) ZcV [ZeY]
def CD:Nat→(List ByteArray)→(List Int)→Ae→(List Int)→Int→Option ((Ae×List Int×Unit))
 | 0,_,_,_,_,_=>none
 | n+1,lines,errors,s,out,i =>
  bif decide (i<(↑lines.length:Int)) then((Ao lines i).bind fun v0 =>
  (Gr n v0).bind fun v1 =>
  bif v1.snd.snd.fst then(bif v1.fst.beq (B [111,117,116]) then((Ao errors i).bind fun v2 =>
  bif decide (v2=0) then((Ao v1.snd.fst 0).bind fun v3 =>
  (Ao v1.snd.fst 1).bind fun v4 =>
  (D7 n s.cards v3 v4).bind fun v5 =>
  bif decide ((↑v5.fst.length:Int)>0) then((app out [i]).bind fun v6 =>
  CD n lines errors s v6 (IntKind.i64.wrap (i+1))) else
  CD n lines errors s out (IntKind.i64.wrap (i+1))) else
  CD n lines errors s out (IntKind.i64.wrap (i+1))) else
  CD n lines errors s out (IntKind.i64.wrap (i+1))) else
  CD n lines errors s out (IntKind.i64.wrap (i+1))) else
  some (s,(out,()))
def ML (n:Nat) (s:Ae) (lines:List ByteArray) (errors:List Int):Option ((List Int×Unit)) :=
 (CD n lines errors s [] 0).bind fun v0 =>
 some (v0.snd.fst,())
def Zfr:List LB:=[ZcM,ZcW]
def Zgj:CB Tryz.f35:=lp 3 [(1,.l 9),(2,.l 3),(3,.u 51),(7,.o 3),(8,.s 3)] 1 [⟨.exit 0,[.u 51],[(7,.o 3)],[]⟩] (u5 CD) Zfr []
def ZgM:LB:=lw Tryz.func35 [.g 51,.l 9,.l 3] 0 (rt [.l 3]) (u3 ML) Zfr [Zgj]
def EM:Nat→Int→Ae→Int→Int→Int→Option ((Ae×Int×Int×Unit))
 | 0,_,_,_,_,_=>none
 | n+1,bus,s,n_,runs,i =>
  bif decide (i<(↑s.runs.length:Int)) then((Ao s.runs i).bind fun v0 =>
  bif decide (v0.bus=bus) then((Ao s.runs i).bind fun v1 =>
  EM n bus s (IntKind.i64.wrap (n_+v1.miles)) (IntKind.i64.wrap (runs+1)) (IntKind.i64.wrap (i+1))) else
  EM n bus s n_ runs (IntKind.i64.wrap (i+1))) else
  some (s,(n_,(runs,())))
def KV (n:Nat) (s:Ae) (bus:Int):Option ((Int×Int×Unit)) :=
 (EM n bus s 0 0 0).bind fun v0 =>
 some (v0.snd.fst,(v0.snd.snd.fst,()))
def ZfN:CB Tryz.f36:=lp 3 [(1,.s 3),(2,.u 51),(6,.s 3),(7,.s 3),(8,.s 3)] 1 [⟨.exit 0,[.u 51],[(6,.s 3),(7,.s 3)],[]⟩] (u5 EM) [] []
def ZgE:LB:=lw Tryz.func36 [.g 51,.s 3] 0 (rt [.s 3,.s 3]) (u2 KV) [] [ZfN]
def Eh:Nat→Ai→(List Int)→Int→Option ((Ai×List Int×Unit))
 | 0,_,_,_=>none
 | n+1,w,out,i =>
  bif decide (i<(↑w.duties.length:Int)) then((Ao w.duties i).bind fun v0 =>
  (app out [v0.off.hi]).bind fun v1 =>
  Eh n w v1 (IntKind.i64.wrap (i+1))) else
  some (w,(out,()))
def J8 (n:Nat) (w:Ai):Option ((List Int×Unit)) :=
 (Eh n w [] 0).bind fun v0 =>
 some (v0.snd.fst,())
def ZeE:CB Tryz.f205:=lp 3 [(1,.u 49),(3,.o 3),(4,.s 3)] 1 [⟨.exit 0,[.u 49],[(3,.o 3)],[]⟩] (u3 Eh) [] []
def ZfO:LB:=lw Tryz.func205 [.g 49] 0 (rt [.l 3]) (u1 J8) [] [ZeE]
def Dm:Nat→(List Int)→Int→Int→Ai→Int→Option ((Ai×Unit) ⊕ ((Ai×Int×Unit)))
 | 0,_,_,_,_,_=>none
 | n+1,roster,driver,day,w,i =>
  bif decide (i<(↑w.duties.length:Int)) then((Ao roster i).bind fun v0 =>
  bif decide (v0=driver) then((Ao w.duties i).bind fun v1 =>
  bif decide (v1.day=day) then(some (.inr (w,(i,())))) else
  Dm n roster driver day w (IntKind.i64.wrap (i+1))) else
  Dm n roster driver day w (IntKind.i64.wrap (i+1))) else
  some (.inl (w,()))
def Cg (n:Nat) (w:Ai) (roster:List Int) (driver:Int) (day:Int):Option ((Int×Unit)) :=
 (Dm n roster driver day w 0).bind fun v0 =>
 Sum.elim (fun v1=>some (-1,())) (fun v1=>some (v1.snd.fst,())) (v0)
def ZeZ:CB Tryz.f316:=lp 2 [(1,.l 3),(2,.s 3),(3,.s 3),(4,.u 49),(9,.s 3)] 1 [⟨.exit 0,[.u 49],[],[]⟩,⟨.ret,[.u 49],[(8,.s 3)],[]⟩] (u5 Dm) [] []
def ZcX:LB:=(lw Tryz.func316 [.g 49,.l 3,.s 3,.s 3] 0 (rt [.s 3]) (u4 Cg) [] [ZeZ]).rd
def H9:Nat→(List Int)→Int→Int→Option (Unit ⊕ ((Bool×Unit)))
 | 0,_,_,_=>none
 | n+1,l,n_,i =>
  bif decide (i<(↑l.length:Int)) then((Ao l i).bind fun v0 =>
  bif decide (v0=n_) then(some (.inr (true,()))) else
  H9 n l n_ (IntKind.i64.wrap (i+1))) else
  some (.inl ())
def H5 (n:Nat) (l:List Int) (n_:Int):Option ((Bool×Unit)) :=
 (H9 n l n_ 0).bind fun v0 =>
 Sum.elim (fun v1=>some (false,())) (fun v1=>some (v1.fst,())) (v0)
def ZfP:CB Tryz.f317:=lp 2 [(0,.l 3),(1,.s 3),(5,.s 3)] 0 [⟨.exit 0,[],[],[]⟩,⟨.ret,[],[(4,.s 4)],[]⟩] (u3 H9) [] []
def ZgF:LB:=(lw Tryz.func317 [.l 3,.s 3] 0 (rt [.s 4]) (u2 H5) [] [ZfP]).rd
def Ei:Nat→(List Int)→(List Int)→Int→Ai→Int→Option ((Ai×Int×Unit×Unit) ⊕ ((Ai×Int×Unit)))
 | 0,_,_,_,_,_=>none
 | n+1,roster,truth,driver,w,d =>
  bif decide (d≥0) then((Cg n w roster driver d).bind fun v0 =>
  bif decide (v0.fst≥0) then((Ao truth v0.fst).bind fun v1 =>
  some (.inr (w,(IntKind.i64.wrap (IntKind.i64.wrap (1440*d)+v1),())))) else
  Ei n roster truth driver w (IntKind.i64.wrap (d-1))) else
  some (.inl (w,(driver,((),()))))
def Ju (n:Nat) (w:Ai) (roster:List Int) (truth:List Int) (driver:Int) (day:Int):Option ((Int×Unit)) :=
 (Ei n roster truth driver w (IntKind.i64.wrap (day-1))).bind fun v0 =>
 Sum.elim (fun v1=>(Ao v1.fst.drivers v1.snd.fst).bind fun v2 =>
 some (v2.off,())) (fun v1=>some (v1.snd.fst,())) (v0)
def Zeh:List LB:=[ZcX]
def Zf0:CB Tryz.f318:=lp 2 [(1,.l 3),(2,.l 3),(3,.s 3),(5,.u 49),(11,.s 3)] 1 [⟨.exit 0,[.u 49],[(3,.s 3),(5,.q 0)],[]⟩,⟨.ret,[.u 49],[(10,.s 3)],[]⟩] (u5 Ei) Zeh []
def Zg3:LB:=(lw Tryz.func318 [.g 49,.l 3,.l 3,.s 3,.s 3] 0 (rt [.s 3]) (u5 Ju) Zeh [Zf0]).rd
def Dn:Nat→(List Int)→Int→Int→Ai→Int→Option ((Ai×Int×Int×Unit×Int×Unit))
 | 0,_,_,_,_,_=>none
 | n+1,roster,driver,day,w,n_ =>
  bif decide (day≥0) then((Cg n w roster driver day).bind fun v0 =>
  bif decide (v0.fst≥0) then(Dn n roster driver (IntKind.i64.wrap (day-1)) w (IntKind.i64.wrap (n_+1))) else
  some (w,(driver,(day,((),(n_,())))))) else
  some (w,(driver,(day,((),(n_,())))))
def Ir (n:Nat) (w:Ai) (roster:List Int) (driver:Int) (day:Int):Option ((Int×Unit)) :=
 (Dn n roster driver day w 0).bind fun v0 =>
 bif decide (v0.snd.snd.fst<0) then((Ao v0.fst.drivers v0.snd.fst).bind fun v1 =>
 some (IntKind.i64.wrap (v0.snd.snd.snd.snd.fst+v1.row),())) else
 some (v0.snd.snd.snd.snd.fst,())
def ZdQ:List LB:=[ZcX]
def Zfa:CB Tryz.f319:=lp 2 [(1,.l 3),(2,.s 3),(3,.s 3),(4,.u 49),(9,.s 3)] 1 [⟨.exit 0,[.u 49],[(2,.s 3),(3,.s 3),(4,.q 0),(9,.s 3)],[]⟩] (u5 Dn) ZdQ []
def Zgk:LB:=(lw Tryz.func319 [.g 49,.l 3,.s 3,.s 3] 0 (rt [.s 3]) (u4 Ir) ZdQ [Zfa]).rd
def CM:Nat→(List Int)→(List Int)→Int→Ai→Int→Int→Option ((Ai×Unit×Int×Unit))
 | 0,_,_,_,_,_,_=>none
 | n+1,roster,truth,driver,w,sum,i =>
  bif decide (i<(↑w.duties.length:Int)) then((Ao roster i).bind fun v0 =>
  bif decide (v0=driver) then((Ao truth i).bind fun v1 =>
  (Ao w.duties i).bind fun v2 =>
  CM n roster truth driver w (IntKind.i64.wrap (sum+IntKind.i64.wrap (v1-v2.on))) (IntKind.i64.wrap (i+1))) else
  CM n roster truth driver w sum (IntKind.i64.wrap (i+1))) else
  some (w,((),(sum,())))
def DH (n:Nat) (w:Ai) (roster:List Int) (truth:List Int) (kind:IK .u8) (driver:Int) (duty:Int):Option ((Bool×Unit)) :=
 bif decide (kind.n=5) then((Ao w.drivers driver).bind fun v0 =>
 (CM n roster truth driver w v0.used 0).bind fun v1 =>
 some (decide (v1.snd.snd.fst>v1.fst.hours),())) else
 (Ao roster duty).bind fun v0 =>
 bif v0 != driver then(some (false,())) else
 (Ao w.duties duty).bind fun v1 =>
 (Ao w.drivers driver).bind fun v2 =>
 (Cg n w roster driver v1.day).bind fun v3 =>
 bif decide (kind.n=0) then((H5 n v2.knows v1.route).bind fun v4 =>
 some (!v4.fst,())) else
 bif decide (kind.n=1) then((H5 n v2.leave v1.day).bind fun v4 =>
 some (v4.fst,())) else
 bif decide (kind.n=2) then(some (!decide (v3.fst=duty),())) else
 bif decide (kind.n=3) then(bif decide (v3.fst=duty) then((Ju n w roster truth driver v1.day).bind fun v4 =>
 some (decide (IntKind.i64.wrap (IntKind.i64.wrap (IntKind.i64.wrap (1440*v1.day)+v1.on)-v4.fst)<w.rest),())) else
 some (false,())) else
 bif decide (v3.fst=duty) then((Ir n w roster driver v1.day).bind fun v4 =>
 some (decide (v4.fst>w.run),())) else
 some (false,())
def Zd4:List LB:=[ZcX,ZgF,Zg3,Zgk]
def ZeF:CB Tryz.f269:=lp 4 [(1,.l 3),(2,.l 3),(4,.s 3),(6,.u 49),(13,.s 3),(14,.s 3)] 1 [⟨.exit 0,[.u 49],[(6,.q 0),(13,.s 3)],[]⟩] (u6 CM) Zd4 []
def ZfQ:LB:=(lw Tryz.func269 [.g 49,.l 3,.l 3,.s 5,.s 3,.s 3] 0 (rt [.s 4]) (u6 DH) Zd4 [ZeF]).rd
def CN:Nat→(List Int)→(List Int)→Ai→(List Ah)→Int→(IK .u8)→Int→Option ((Ai×List Int×List Int×Unit×List Ah×Int×IK .u8×Unit))
 | 0,_,_,_,_,_,_,_=>none
 | n+1,roster,truth,w,out,driver,kind,duty =>
  bif decide (duty<(↑w.duties.length:Int)) then((DH n w roster truth kind driver duty).bind fun v0 =>
  bif v0.fst then((app out [Ah.mk kind driver duty]).bind fun v1 =>
  CN n roster truth w v1 driver kind (IntKind.i64.wrap (duty+1))) else
  CN n roster truth w out driver kind (IntKind.i64.wrap (duty+1))) else
  some (w,(roster,(truth,((),(out,(driver,(kind,())))))))
def Ej:Nat→(List Int)→(List Int)→Ai→(List Ah)→Int→(IK .u8)→Option ((Ai×List Int×List Int×Unit×List Ah×Int×Unit))
 | 0,_,_,_,_,_,_=>none
 | n+1,roster,truth,w,out,driver,kind =>
  bif decide (kind.n<5) then((CN n roster truth w out driver kind 0).bind fun v0 =>
  Ej n v0.snd.fst v0.snd.snd.fst v0.fst v0.snd.snd.snd.snd.fst v0.snd.snd.snd.snd.snd.fst (IK.mk (IntKind.u8.wrap (v0.snd.snd.snd.snd.snd.snd.fst.n+1)))) else
  some (w,(roster,(truth,((),(out,(driver,()))))))
def CO:Nat→(List Int)→(List Int)→Ai→(List Ah)→Int→Option ((Ai×List Ah×Unit))
 | 0,_,_,_,_,_=>none
 | n+1,roster,truth,w,out,driver =>
  bif decide (driver<(↑w.drivers.length:Int)) then((Ej n roster truth w out driver (IK.mk 0)).bind fun v0 =>
  (DH n v0.fst v0.snd.fst v0.snd.snd.fst (IK.mk 5) v0.snd.snd.snd.snd.snd.fst 0).bind fun v1 =>
  bif v1.fst then((app v0.snd.snd.snd.snd.fst [Ah.mk (IK.mk 5) v0.snd.snd.snd.snd.snd.fst 0]).bind fun v2 =>
  CO n v0.snd.fst v0.snd.snd.fst v0.fst v2 (IntKind.i64.wrap (v0.snd.snd.snd.snd.snd.fst+1))) else
  CO n v0.snd.fst v0.snd.snd.fst v0.fst v0.snd.snd.snd.snd.fst (IntKind.i64.wrap (v0.snd.snd.snd.snd.snd.fst+1))) else
  some (w,(out,()))
def J9 (n:Nat) (w:Ai) (roster:List Int) (truth:List Int):Option ((List Ah×Unit)) :=
 (CO n roster truth w [] 0).bind fun v0 =>
 some (v0.snd.fst,())
def Zci:List LB:=[ZfQ]
def ZeG:CB Tryz.f204:=lp 9 [(1,.l 3),(2,.l 3),(3,.u 49),(7,.o 346),(8,.s 3),(9,.s 5),(10,.s 3)] 1 [⟨.exit 4,[.u 49],[(1,.l 3),(2,.l 3),(3,.q 0),(7,.o 346),(8,.s 3),(9,.s 5)],[]⟩] (u7 CN) Zci []
def ZeH:CB Tryz.f204:=lp 6 [(1,.l 3),(2,.l 3),(3,.u 49),(7,.o 346),(8,.s 3),(9,.s 5)] 1 [⟨.exit 2,[.u 49],[(1,.l 3),(2,.l 3),(3,.q 0),(7,.o 346),(8,.s 3)],[]⟩] (u6 Ej) Zci [ZeG]
def ZeI:CB Tryz.f204:=lp 3 [(1,.l 3),(2,.l 3),(3,.u 49),(7,.o 346),(8,.s 3)] 1 [⟨.exit 0,[.u 49],[(7,.o 346)],[]⟩] (u5 CO) Zci [ZeH]
def ZfR:LB:=lw Tryz.func204 [.g 49,.l 3,.l 3] 0 (rt [.l 346]) (u3 J9) Zci [ZeI]
def Is (n:Nat) (w:Ai) (roster:List Int):Option ((Bool×Unit)) :=
 (J8 n w).bind fun v0 =>
 (J9 n w roster v0.fst).bind fun v1 =>
 some (decide ((↑v1.fst.length:Int)=0),())
def Zgl:LB:=(lw Tryz.func148 [.g 49,.l 3] 0 (rt [.s 4]) (u2 Is) [ZfO,ZfR] []).rd
def Dp:Nat→Ai→Int→Option ((Ai×Unit×Unit) ⊕ ((Ai×Int×Unit)))
 | 0,_,_=>none
 | n+1,w,i =>
  bif decide (i<(↑w.duties.length:Int)) then((Ao w.duties i).bind fun v0 =>
  (AK n v0.day 0 (IntKind.i64.wrap (w.days-1))).bind fun v1 =>
  bif !!v1.fst then((AK n v0.on 0 1439).bind fun v2 =>
  bif !!v2.fst then((AK n v0.off.lo v0.on v0.off.hi).bind fun v3 =>
  bif !!v3.fst then(bif !decide (v0.off.hi>IntKind.i64.wrap (v0.on+1440)) then((AK n v0.route 0 15).bind fun v4 =>
  bif !v4.fst then(some (.inr (w,(1,())))) else
  Dp n w (IntKind.i64.wrap (i+1))) else
  some (.inr (w,(1,())))) else
  some (.inr (w,(1,())))) else
  some (.inr (w,(1,())))) else
  some (.inr (w,(1,())))) else
  some (.inl (w,((),())))
def EF:Nat→Ai→Int→Option ((Ai×Unit) ⊕ ((Ai×Int×Unit)))
 | 0,_,_=>none
 | n+1,w,k =>
  bif decide (k<(↑w.drivers.length:Int)) then((Ao w.drivers k).bind fun v0 =>
  (Cf n v0.knows 0 15).bind fun v1 =>
  bif !!v1.fst then((Cf n v0.leave 0 (IntKind.i64.wrap (w.days-1))).bind fun v2 =>
  bif !!v2.fst then((Cf n v0.wish 0 (IntKind.i64.wrap (w.days-1))).bind fun v3 =>
  bif !!v3.fst then((AK n v0.off (-10080) 1440).bind fun v4 =>
  bif !!v4.fst then((AK n v0.row 0 14).bind fun v5 =>
  bif !!v5.fst then((AK n v0.used 0 w.hours).bind fun v6 =>
  bif !v6.fst then(some (.inr (w,(1,())))) else
  EF n w (IntKind.i64.wrap (k+1))) else
  some (.inr (w,(1,())))) else
  some (.inr (w,(1,())))) else
  some (.inr (w,(1,())))) else
  some (.inr (w,(1,())))) else
  some (.inr (w,(1,())))) else
  some (.inl (w,()))
def E3 (n:Nat) (w:Ai):Option ((Int×Unit)) :=
 bif !decide ((↑w.duties.length:Int)>12) then(bif decide ((↑w.drivers.length:Int)>6) then(some (3,())) else
 (AK n w.days 1 7).bind fun v0 =>
 bif !!v0.fst then((AK n w.rest 0 3000).bind fun v1 =>
 bif !!v1.fst then((AK n w.run 1 14).bind fun v2 =>
 bif !!v2.fst then((AK n w.hours 0 20000).bind fun v3 =>
 bif !v3.fst then(some (1,())) else
 (Dp n w 0).bind fun v4 =>
 Sum.elim (fun v5=>(EF n v5.fst 0).bind fun v6 =>
 Sum.elim (fun v7=>some (0,())) (fun v7=>some (v7.snd.fst,())) (v6)) (fun v5=>some (v5.snd.fst,())) (v4)) else
 some (1,())) else
 some (1,())) else
 some (1,())) else
 some (3,())
def ZcY:List LB:=[ZdA,Zgb]
def Zfb:CB Tryz.f149:=lp 6 [(1,.u 49),(3,.s 3)] 1 [⟨.exit 0,[.u 49],[(1,.q 0)],[]⟩,⟨.ret,[.u 49],[(2,.s 3)],[]⟩] (u2 Dp) ZcY []
def Zfc:CB Tryz.f149:=lp 12 [(1,.u 49),(5,.s 3)] 1 [⟨.exit 2,[.u 49],[],[]⟩,⟨.ret,[.u 49],[(2,.s 3)],[]⟩] (u2 EF) ZcY []
def Zgm:LB:=(lw Tryz.func149 [.g 49] 0 (rt [.s 3]) (u1 E3) ZcY [Zfb,Zfc]).rd
def Ch:Nat→(List Int)→Ae→Ae→Int→Option ((Ae×Ae×List Int×Unit×Unit×Unit) ⊕ ((Ae×Ae×Unit×Int×Unit)))
 | 0,_,_,_,_=>none
 | n+1,l,s,x6,i =>
  bif decide (i<(↑s.runs.length:Int)) then((Ao s.runs i).bind fun v0 =>
  (Ao l 0).bind fun v1 =>
  bif decide (v0.bus=v1) then((Ao s.runs i).bind fun v2 =>
  (Ao l 1).bind fun v3 =>
  bif decide (v2.to_>v3) then(some (.inr (s,(s,((),(8,())))))) else
  Ch n l s x6 (IntKind.i64.wrap (i+1))) else
  Ch n l s x6 (IntKind.i64.wrap (i+1))) else
  some (.inl (s,(x6,(l,((),((),()))))))
def E4 (n:Nat) (s:Ae) (word:ByteArray) (l:List Int):Option ((Ae×Int×Unit)) :=
 (Ao l 0).bind fun v0 =>
 (Gy n s v0).bind fun v1 =>
 bif word.beq (B [105,110]) then(bif decide (v1.fst<0) then(some (s,(8,()))) else
 (Ao s.outs v1.fst).bind fun v2 =>
 (Ao l 1).bind fun v3 =>
 bif !decide (v3<v2.fr) then((Ao l 1).bind fun v4 =>
 bif !decide (v4>1000000) then((Ao l 2).bind fun v5 =>
 (Eg n v5 0 1000).bind fun v6 =>
 bif !v6.fst then(some (s,(2,()))) else
 (Gl s.outs 0 v1.fst).bind fun v7 =>
 (app [] v7).bind fun v8 =>
 (Gl s.outs (IntKind.i64.wrap (v1.fst+1)) (↑s.outs.length:Int)).bind fun v9 =>
 (app v8 v9).bind fun v10 =>
 (app [] s.runs).bind fun v11 =>
 (Ao l 1).bind fun v12 =>
 (Ao l 2).bind fun v13 =>
 (app v11 [Ls.mk v2.bus v2.fr v12 v13]).bind fun v14 =>
 some (Ae.mk s.cards v10 v14 s.records s.week s.roster,(0,()))) else
 some (s,(2,()))) else
 some (s,(2,()))) else
 (Ao l 0).bind fun v2 =>
 (Eg n v2 0 99).bind fun v3 =>
 bif !!v3.fst then((Ao l 1).bind fun v4 =>
 (Eg n v4 0 1000000).bind fun v5 =>
 bif !v5.fst then(some (s,(2,()))) else
 bif decide (v1.fst≥0) then(some (s,(8,()))) else
 (Ch n l s (Ae.mk [] [] [] [] (Ai.mk 0 [] [] 0 0 0) []) 0).bind fun v6 =>
 Sum.elim (fun v7=>(Ao v7.snd.snd.fst 0).bind fun v8 =>
 (Ao v7.snd.snd.fst 1).bind fun v9 =>
 (D7 n v7.fst.cards v8 v9).bind fun v10 =>
 bif decide ((↑v10.fst.length:Int)>0) then(some (v7.fst,(11,()))) else
 (app [] v7.fst.outs).bind fun v11 =>
 (Ao v7.snd.snd.fst 0).bind fun v12 =>
 (Ao v7.snd.snd.fst 1).bind fun v13 =>
 (app v11 [MV.mk v12 v13]).bind fun v14 =>
 some (Ae.mk v7.fst.cards v14 v7.fst.runs v7.fst.records v7.fst.week v7.fst.roster,(0,()))) (fun v7=>some (v7.snd.fst,(v7.snd.snd.snd.fst,()))) (v6)) else
 some (s,(2,()))
def ZeJ:List LB:=[Zfp,Zfn,ZcW]
def ZfS:CB Tryz.f87:=lp 16 [(2,.l 3),(3,.u 51),(6,.u 51),(10,.s 3)] 2 [⟨.exit 0,[.u 51,.u 51],[(2,.l 3),(3,.q 0),(6,.q 1)],[]⟩,⟨.ret,[.u 51,.u 51],[(6,.q 1),(7,.s 3)],[]⟩] (u4 Ch) ZeJ []
def ZgG:LB:=lw Tryz.func87 [.g 51,.s 9,.l 3] 0 (rt [.g 51,.s 3]) (u3 E4) ZeJ [ZfS]
def Dc (n:Nat) (s:Ae) (word:ByteArray) (l:List Int):Option ((Ae×Int×Unit)) :=
 bif word.beq (B [100,114,105,118,101,114]) then((app [] s.week.drivers).bind fun v0 =>
 (Ao l 0).bind fun v1 =>
 (Ao l 1).bind fun v2 =>
 (app v0 [AJ.mk [v1] [] [] v2 0 0]).bind fun v3 =>
 (E3 n (Ai.mk s.week.days s.week.duties v3 s.week.rest s.week.run s.week.hours)).bind fun v4 =>
 bif v4.fst != 0 then(some (s,(v4.fst,()))) else
 some (Ae.mk s.cards s.outs s.runs s.records (Ai.mk s.week.days s.week.duties v3 s.week.rest s.week.run s.week.hours) s.roster,(0,()))) else
 bif word.beq (B [100,117,116,121]) then((app [] s.week.duties).bind fun v0 =>
 (Ao l 0).bind fun v1 =>
 (Ao l 1).bind fun v2 =>
 (Ao l 2).bind fun v3 =>
 (Ao l 3).bind fun v4 =>
 (Ao l 4).bind fun v5 =>
 (app v0 [AA.mk v1 v2 (Rg.mk v3 v4) v5]).bind fun v6 =>
 (app [] s.roster).bind fun v7 =>
 (app v7 [-1]).bind fun v8 =>
 (E3 n (Ai.mk s.week.days v6 s.week.drivers s.week.rest s.week.run s.week.hours)).bind fun v9 =>
 bif v9.fst != 0 then(some (s,(v9.fst,()))) else
 some (Ae.mk s.cards s.outs s.runs s.records (Ai.mk s.week.days v6 s.week.drivers s.week.rest s.week.run s.week.hours) v8,(0,()))) else
 (Ao l 0).bind fun v0 =>
 (AK n v0 0 (IntKind.i64.wrap ((↑s.roster.length:Int)-1))).bind fun v1 =>
 bif !!v1.fst then((Ao l 1).bind fun v2 =>
 (AK n v2 (-1) (IntKind.i64.wrap ((↑s.week.drivers.length:Int)-1))).bind fun v3 =>
 bif !v3.fst then(some (s,(2,()))) else
 (Ao l 0).bind fun v4 =>
 (Ao l 1).bind fun v5 =>
 (Mp n s.roster v4 v5).bind fun v6 =>
 (Is n s.week v6.fst).bind fun v7 =>
 bif !v7.fst then(some (s,(10,()))) else
 some (Ae.mk s.cards s.outs s.runs s.records s.week v6.fst,(0,()))) else
 some (s,(2,()))
def ZgH:LB:=lw Tryz.func88 [.g 51,.s 9,.l 3] 0 (rt [.g 51,.s 3]) (u3 Dc) [ZdA,Zgz,Zgl,Zgm] []
def MM (n:Nat) (line:ByteArray):Option ((Ak×Bool×Unit)) :=
 (Gr n line).bind fun v0 =>
 bif !v0.snd.snd.fst then(some (Ak.mk 0 0 0 (IK.mk 0) 0 0,(false,()))) else
 bif v0.fst.beq (B [102,111,117,110,100]) then((Ao v0.snd.fst 0).bind fun v1 =>
 (Ao v0.snd.fst 1).bind fun v2 =>
 (Ao v0.snd.fst 2).bind fun v3 =>
 (Ao v0.snd.fst 3).bind fun v4 =>
 some (Ak.mk v1 v2 v3 (IK.mk 0) v4 0,(true,()))) else
 bif v0.fst.beq (B [104,101,108,100]) then((Ao v0.snd.fst 0).bind fun v1 =>
 (Ao v0.snd.fst 1).bind fun v2 =>
 (Ao v0.snd.fst 2).bind fun v3 =>
 (Ao v0.snd.fst 3).bind fun v4 =>
 some (Ak.mk v1 v2 v3 (IK.mk 1) v4 0,(true,()))) else
 bif v0.fst.beq (B [115,105,103,110,101,100]) then((Ao v0.snd.fst 0).bind fun v1 =>
 (Ao v0.snd.fst 1).bind fun v2 =>
 (Ao v0.snd.fst 2).bind fun v3 =>
 (Ao v0.snd.fst 3).bind fun v4 =>
 some (Ak.mk v1 v2 v3 (IK.mk 2) 0 v4,(true,()))) else
 bif v0.fst.beq (B [99,104,101,99,107,101,100]) then((Ao v0.snd.fst 0).bind fun v1 =>
 (Ao v0.snd.fst 1).bind fun v2 =>
 (Ao v0.snd.fst 2).bind fun v3 =>
 some (Ak.mk v1 v2 v3 (IK.mk 3) 0 0,(true,()))) else
 some (Ak.mk 0 0 0 (IK.mk 0) 0 0,(false,()))
def ZgN:LB:=lw Tryz.func30 [.s 9] 0 (rt [.g 65,.s 4]) (u1 MM) [ZcM] []
def Jv (n:Nat) (line:ByteArray):Option ((Aa×Bool×Unit)) :=
 (Gr n line).bind fun v0 =>
 bif !v0.snd.snd.fst then(some (Aa.mk 0 0 0 (IK.mk 0) 0 0,(false,()))) else
 bif v0.fst.beq (B [115,97,108,101]) then((Ao v0.snd.fst 0).bind fun v1 =>
 (Ao v0.snd.fst 1).bind fun v2 =>
 (Ao v0.snd.fst 2).bind fun v3 =>
 (Ao v0.snd.fst 3).bind fun v4 =>
 (Ao v0.snd.fst 4).bind fun v5 =>
 some (Aa.mk v1 v2 v3 (IK.mk 0) v4 v5,(true,()))) else
 bif v0.fst.beq (B [115,121,110,99]) then((Ao v0.snd.fst 0).bind fun v1 =>
 (Ao v0.snd.fst 1).bind fun v2 =>
 (Ao v0.snd.fst 2).bind fun v3 =>
 (Ao v0.snd.fst 3).bind fun v4 =>
 some (Aa.mk v1 v2 v3 (IK.mk 1) v4 0,(true,()))) else
 bif v0.fst.beq (B [99,108,111,115,101]) then((Ao v0.snd.fst 0).bind fun v1 =>
 (Ao v0.snd.fst 1).bind fun v2 =>
 (Ao v0.snd.fst 2).bind fun v3 =>
 (Ao v0.snd.fst 3).bind fun v4 =>
 (Ao v0.snd.fst 4).bind fun v5 =>
 some (Aa.mk v1 v2 v3 (IK.mk 2) v4 v5,(true,()))) else
 some (Aa.mk 0 0 0 (IK.mk 0) 0 0,(false,()))
def Zg4:LB:=lw Tryz.func43 [.s 9] 0 (rt [.g 90,.s 4]) (u1 Jv) [ZcM] []
def RT (n:Nat) (s:Ae) (line:ByteArray):Option ((Ae×Int×Unit)) :=
 (Gr n line).bind fun v0 =>
 bif !v0.snd.snd.fst then(some (s,(4,()))) else
 (MM n line).bind fun v1 =>
 bif v1.snd.fst then((Kj n s v1.fst).bind fun v2 =>
 some (v2.fst,(v2.snd.fst,()))) else
 (Jv n line).bind fun v2 =>
 bif v2.snd.fst then((HH n s v2.fst).bind fun v3 =>
 some (v3.fst,(v3.snd.fst,()))) else
 bif !v0.fst.beq (B [111,117,116]) then(bif v0.fst.beq (B [105,110]) then((E4 n s v0.fst v0.snd.fst).bind fun v3 =>
 some (v3.fst,(v3.snd.fst,()))) else
 (Dc n s v0.fst v0.snd.fst).bind fun v3 =>
 some (v3.fst,(v3.snd.fst,()))) else
 (E4 n s v0.fst v0.snd.fst).bind fun v3 =>
 some (v3.fst,(v3.snd.fst,()))
def Zha:LB:=lw Tryz.func46 [.g 51,.s 9] 0 (rt [.g 51,.s 3]) (u2 RT) [ZcM,ZgN,ZgL,Zg4,Zg1,ZgG,ZgH] []
def Jw:List (Nat×C):=[(0,.l 9)]
def Mr:List Wo:=[⟨.ret,[],[],[.g 51,.l 3]⟩]
def FG:Nat→(List ByteArray)→Ae→Ae→(List Int)→Int→Option ((Ae×Ae×Unit×Unit×List Int×Unit))
 | 0,_,_,_,_,_=>none
 | n+1,lines,x2,s,errors,i =>
  bif decide (i<(↑lines.length:Int)) then((Ao lines i).bind fun v0 =>
  (RT n s v0).bind fun v1 =>
  (app errors [v1.snd.fst]).bind fun v2 =>
  FG n lines x2 v1.fst v2 (IntKind.i64.wrap (i+1))) else
  some (x2,(s,((),((),(errors,())))))
def MN (n:Nat) (lines:List ByteArray):Option ((Ae×List Int×Unit)) :=
 (NW n).bind fun v0 =>
 (FG n lines (Ae.mk [] [] [] [] (Ai.mk 0 [] [] 0 0 0) []) v0.fst [] 0).bind fun v1 =>
 some (v1.snd.fst,(v1.snd.snd.snd.snd.fst,()))
def R0 (n:Nat) (y:C.Ds Ty (AH Jw)):Option (YT Ty Mr):=MN n y.1
def Zei (n:Nat):GL Ty:=AcB (FA Jw 0 Mr (R0 n))
def ZdC:List LB:=[ZgC,Zha]
def fref_Play_l1_b:CB Tryz.f25:=lp 4 [(0,.l 9),(2,.u 51),(4,.u 51),(5,.o 3),(6,.s 3)] 2 [⟨.exit 0,[.u 51,.u 51],[(2,.q 0),(4,.q 1),(5,.o 3)],[]⟩] (u5 FG) ZdC []
def Zfs (n:Nat):FO Ty:=[(.loop 4,(fref_Play_l1_b.F n))]
theorem XU (n:Nat) (x:C.Ds Ty (AH Jw)):(CI Tryz.prog 32 (Ca Tryz.prog ((Rx ZdC n)) []) (A6 (Zfs n)) (Bz Tryz.f25) (By Jw x)).runK (GN Tryz.prog Tryz.f25.results.toList 0 Mr)=R0 n x:=by kernel_rfl
theorem RH (n:Nat):Bb Tryz.prog 25 (Zei n):=ZX (by decide) (HT Tryz.func25 rfl rfl (by decide) rfl Af Am (A5 Af Am ((Es ZdC n)) EO) (A0 (fn:=Tryz.f25) (L:=Zfs n) (ks:=[.loop 4]) ⟨fref_Play_l1_b.ok n,trivial⟩ (by kernel_rfl) (by kernel_rfl)) (XU n))
def Bq:Nat→Ey→Bc→Bc→(List Aa)→Int→Int→Option ((Ey×Bc×Bc×Unit×Unit×Unit×Unit))
 | 0,_,_,_,_,_,_=>none
 | n+1,s,x2,out,x33,x34,x35 =>
  bif decide (x35<x34) then((Ao x33 x35).bind fun v0 =>
  bif decide (v0.kind.n=0) then(Bq n s x2 (Bc.mk out.machine out.fr out.to_ (IntKind.i64.wrap (out.sales-1)) (IntKind.i64.wrap (out.coins-v0.b))) x33 x34 (IntKind.i64.wrap (x35+1))) else
  Bq n s x2 out x33 x34 (IntKind.i64.wrap (x35+1))) else
  some (s,(x2,(out,((),((),((),()))))))
def Bu (n:Nat) (s:Ey):Option ((Bc×Bool×Unit)) :=
 (Bq n s (Bc.mk 0 0 0 0 0) (Bc.mk s.to_.machine s.fr.seq s.to_.seq (IntKind.i64.wrap (s.to_.a-s.fr.a)) (IntKind.i64.wrap (s.to_.b-s.fr.b))) s.between (↑s.between.length:Int) 0).bind fun v0 =>
 bif decide (0≤v0.snd.snd.fst.sales) then(bif decide (v0.snd.snd.fst.sales≤IntKind.i64.wrap (IntKind.i64.wrap (IntKind.i64.wrap (v0.fst.to_.seq-v0.fst.fr.seq)-1)-(↑v0.fst.between.length:Int))) then(bif decide (0≤v0.snd.snd.fst.coins) then(some (v0.snd.snd.fst,(decide (v0.snd.snd.fst.coins≤IntKind.i64.wrap (10000*v0.snd.snd.fst.sales)),()))) else
 some (v0.snd.snd.fst,(false,()))) else
 some (v0.snd.snd.fst,(false,()))) else
 some (v0.snd.snd.fst,(false,()))
def Zdy:CB Tryz.f83:=lp 3 [(1,.u 154),(2,.u 98),(4,.u 98),(33,.l 93),(34,.s 3),(35,.s 3)] 3 [⟨.exit 0,[.u 154,.u 98,.u 98],[(1,.q 0),(2,.q 1),(4,.q 2)],[]⟩] (u6 Bq) [] []
def ZdR:LB:=(lw Tryz.func83 [.g 154] 0 (rt [.g 98,.s 4]) (u1 Bu) [] [Zdy]).rd
def D8:List (Nat×C):=[(0,.y 0 44 [2,3,5] [.p 0 [.l 98],.p 0 [.s 37],.p 0 [.o 98]]),(1,.p 0 [.l 93]),(3,.p 0 [.s 3,.s 3,.s 3,.s 5,.s 3,.s 3,.s 3,.s 3,.s 3,.s 5,.s 3,.s 3,.o 93]),(6,.l 93),(7,.s 3),(8,.s 3)]
def GY:List Wo:=[⟨.exit 0,[.y 0 44 [2,3,5] [.p 0 [.l 98],.p 0 [.s 37],.p 0 [.o 98]],.q 1,.q 2,.q 3,.p 0 [.l 93],.p 0 [.s 3,.s 3,.s 3,.s 5,.s 3,.s 3,.s 3,.s 3,.s 3,.s 5,.s 3,.s 3,.o 93]],[],[]⟩,⟨.ret,[.y 1 44 [2,3,5] [.p 0 [.l 98],.p 0 [.s 37],.p 0 [.o 98]],.q 1,.q 2,.q 3,.p 0 [.l 93],.p 0 [.s 3,.s 3,.s 3,.s 5,.s 3,.s 3,.s 3,.s 3,.s 3,.s 5,.s 3,.s 3,.o 93]],[],[]⟩]
def Av:Nat→(List Bc)→Int→(List Bc)→(List Aa)→Int→Int→Int→(IK .u8)→Int→Int→Int→Int→Int→(IK .u8)→Int→Int→(List Aa)→(List Aa)→Int→Int→Option ((((List Bc×Unit)×(Int×Unit)×(List Bc×Unit)×Unit)×Unit×Unit×Unit×(List Aa×Unit)×(Int×Int×Int×IK .u8×Int×Int×Int×Int×Int×IK .u8×Int×Int×List Aa×Unit)×Unit) ⊕ ((((List Bc×Unit)×(Int×Unit)×(List Bc×Unit)×Unit)×Unit×Unit×Unit×(List Aa×Unit)×(Int×Int×Int×IK .u8×Int×Int×Int×Int×Int×IK .u8×Int×Int×List Aa×Unit)×Unit)))
 | 0,_,_,_,_,_,_,_,_,_,_,_,_,_,_,_,_,_,_,_,_=>none
 | n+1,yield1,yield2,yield3,x1,s1,s2,s3,s4,s5,s6,s7,s8,s9,s10,s11,s12,s13,x6,x7,x8 =>
  bif decide (x8<x7) then((Ao x6 x8).bind fun v0 =>
  bif !decide (x8=0) then((Ao x1 (IntKind.i64.wrap (x8-1))).bind fun v1 =>
  bif v1.machine != v0.machine then(bif v0.kind.n != 2 then(Av n yield1 yield2 yield3 x1 v0.machine 0 0 (IK.mk 0) 0 0 0 0 0 (IK.mk 0) 0 0 ([].append [v0]) x6 x7 (IntKind.i64.wrap (x8+1))) else
  (Bu n (Ey.mk (Aa.mk v0.machine 0 0 (IK.mk 0) 0 0) v0 [])).bind fun v2 =>
  bif !v2.snd.fst then(some (.inr ((([],()),((9,()),((yield3,()),()))),((),((),((),((x1,()),((v0.machine,(0,(0,(IK.mk 0,(0,(0,(v0.machine,(v0.seq,(v0.minute,(v0.kind,(v0.a,(v0.b,([],()))))))))))))),())))))))) else
  bif decide (v2.fst.sales>0) then((app yield3 [v2.fst]).bind fun v3 =>
  Av n yield1 yield2 v3 x1 v0.machine v0.seq v0.minute v0.kind v0.a v0.b 0 0 0 (IK.mk 0) 0 0 [] x6 x7 (IntKind.i64.wrap (x8+1))) else
  Av n yield1 yield2 yield3 x1 v0.machine v0.seq v0.minute v0.kind v0.a v0.b 0 0 0 (IK.mk 0) 0 0 [] x6 x7 (IntKind.i64.wrap (x8+1))) else
  bif v0.kind.n != 2 then((app s13 [v0]).bind fun v2 =>
  Av n yield1 yield2 yield3 x1 s1 s2 s3 s4 s5 s6 s7 s8 s9 s10 s11 s12 v2 x6 x7 (IntKind.i64.wrap (x8+1))) else
  (Bu n (Ey.mk (Aa.mk s1 s2 s3 s4 s5 s6) v0 s13)).bind fun v2 =>
  bif !v2.snd.fst then(some (.inr ((([],()),((9,()),((yield3,()),()))),((),((),((),((x1,()),((s1,(s2,(s3,(s4,(s5,(s6,(v0.machine,(v0.seq,(v0.minute,(v0.kind,(v0.a,(v0.b,(s13,()))))))))))))),())))))))) else
  bif decide (v2.fst.sales>0) then((app yield3 [v2.fst]).bind fun v3 =>
  Av n yield1 yield2 v3 x1 v0.machine v0.seq v0.minute v0.kind v0.a v0.b 0 0 0 (IK.mk 0) 0 0 [] x6 x7 (IntKind.i64.wrap (x8+1))) else
  Av n yield1 yield2 yield3 x1 v0.machine v0.seq v0.minute v0.kind v0.a v0.b 0 0 0 (IK.mk 0) 0 0 [] x6 x7 (IntKind.i64.wrap (x8+1))) else
  bif v0.kind.n != 2 then(Av n yield1 yield2 yield3 x1 v0.machine 0 0 (IK.mk 0) 0 0 0 0 0 (IK.mk 0) 0 0 ([].append [v0]) x6 x7 (IntKind.i64.wrap (x8+1))) else
  (Bu n (Ey.mk (Aa.mk v0.machine 0 0 (IK.mk 0) 0 0) v0 [])).bind fun v1 =>
  bif !v1.snd.fst then(some (.inr ((([],()),((9,()),((yield3,()),()))),((),((),((),((x1,()),((v0.machine,(0,(0,(IK.mk 0,(0,(0,(v0.machine,(v0.seq,(v0.minute,(v0.kind,(v0.a,(v0.b,([],()))))))))))))),())))))))) else
  bif decide (v1.fst.sales>0) then((app yield3 [v1.fst]).bind fun v2 =>
  Av n yield1 yield2 v2 x1 v0.machine v0.seq v0.minute v0.kind v0.a v0.b 0 0 0 (IK.mk 0) 0 0 [] x6 x7 (IntKind.i64.wrap (x8+1))) else
  Av n yield1 yield2 yield3 x1 v0.machine v0.seq v0.minute v0.kind v0.a v0.b 0 0 0 (IK.mk 0) 0 0 [] x6 x7 (IntKind.i64.wrap (x8+1))) else
  some (.inl (((yield1,()),((yield2,()),((yield3,()),()))),((),((),((),((x1,()),((s1,(s2,(s3,(s4,(s5,(s6,(s7,(s8,(s9,(s10,(s11,(s12,(s13,()))))))))))))),())))))))
def Fb (n:Nat) (y:C.Ds Ty (AH D8)):Option (YT Ty GY):=Av n y.1.1.1 y.1.2.1.1 y.1.2.2.1.1 y.2.1.1 y.2.2.1.1 y.2.2.1.2.1 y.2.2.1.2.2.1 y.2.2.1.2.2.2.1 y.2.2.1.2.2.2.2.1 y.2.2.1.2.2.2.2.2.1 y.2.2.1.2.2.2.2.2.2.1 y.2.2.1.2.2.2.2.2.2.2.1 y.2.2.1.2.2.2.2.2.2.2.2.1 y.2.2.1.2.2.2.2.2.2.2.2.2.1 y.2.2.1.2.2.2.2.2.2.2.2.2.2.1 y.2.2.1.2.2.2.2.2.2.2.2.2.2.2.1 y.2.2.1.2.2.2.2.2.2.2.2.2.2.2.2.1 y.2.2.2.1 y.2.2.2.2.1 y.2.2.2.2.2.1
def Zcf (n:Nat):St Ty→Tr (Lf Ty):=MU D8 6 GY (Fb n)
def D9 (n:Nat) (l:List Aa):Option ((List Bc×Int×Unit)) :=
 (EH n [l]).bind fun v0 =>
 bif v0.snd.fst != 0 then(some ([],(v0.snd.fst,()))) else
 (Av n [] 0 [] v0.fst 0 0 0 (IK.mk 0) 0 0 0 0 0 (IK.mk 0) 0 0 [] v0.fst (↑v0.fst.length:Int) 0).bind fun v1 =>
 Sum.elim (fun v2=>some (v2.fst.snd.snd.fst.fst,(0,()))) (fun v2=>some (v2.fst.fst.fst,(v2.fst.snd.fst.fst,()))) (v1)
def ZbZ:List LB:=[Zd2,ZdR]
def ZdS (n:Nat):FO Ty:=[]
def ZcZ (n:Nat):List (Nat×GL Ty):=(Ar,AjK Tryz.prog (Ca Tryz.prog ((Rx ZbZ n)) []) (A6 []) (A6 (ZdS n)) 44)::(Rx ZbZ n)
theorem Kk (n:Nat):K7 Tryz.prog (ZcZ n):=⟨Ab5 Af Am (A5 Af Am ((Es ZbZ n)) EO) (fun _ _ _ h=>by cases h) (A0 (fn:=Tryz.f44) (c:=(RFs.rf 44).body) (N:=(RFs.rf 44).n) (L:=ZdS n) (ks:=[]) trivial (by kernel_rfl) (by kernel_rfl)),Es ZbZ n⟩
def Zdk (n:Nat):FO Ty:=[]
theorem NX (n:Nat) (x:C.Ds Ty (AH D8)):(CI Tryz.prog 48 (Ca Tryz.prog (ZcZ n) []) (A6 (Zdk n)) (Cv 2 Tryz.f135) (By D8 x)).runK (Gn 6 D8 GY (Fb n))=Fb (n+1) x:=by kernel_rfl
theorem NY (n:Nat):B7 true Tryz.prog 48 (Zcf n) (.loop (Cv 2 Tryz.f135)):=H1 fun x y hy=>Fk (Fn:=Fb) Af Am (fun n=>A5 Af Am (Kk n) EO) (fun h=>by cases h) (fun h=>by cases h) (fun n=>(A0 (fn:=Tryz.f135) (L:=Zdk n) (ks:=[]) trivial (by kernel_rfl) (by kernel_rfl))) (by decide) (fun _=>rfl) NX hy
def ZdT (n:Nat):Lm Ty:=[(135,[(.loop 2,Zcf n)])]
theorem Q9 (n:Nat):HX Tryz.prog (ZdT n):=⟨EU (f:=135) Tryz.func135 rfl (A0 (fn:=Tryz.f135) (L:=[(.loop 2,Zcf n)]) (ks:=[.loop 2]) ⟨NY n,trivial⟩ (by kernel_rfl) (by kernel_rfl)),trivial⟩
def Zd5 (n:Nat):St Ty→Tr (Lf Ty):=Ajo Tryz.prog (Ca Tryz.prog (ZcZ n) (ZdT n)) (.tmp 19) 44 [2,3,5]
theorem Pz (n:Nat):B7 true Tryz.prog 36 (Zd5 n) (Fm (.rf 7) Tryz.f44):=Ab8 (A5 Af Am (Kk n) (Q9 n)) (by kernel_rfl) (by kernel_rfl)
def Zgn:LB:=lw Tryz.func44 [.l 93] 0 (rt [.l 98,.s 37]) (u1 D9) ZbZ [⟨.rf 7,fun n=>Zd5 n,fun n=>Pz n⟩]
def GZ:List (Nat×C):=[(0,.l 9)]
def IT:List Wo:=[⟨.ret,[],[],[.u 114,.l 37]⟩]
def Dq:Nat→Ab→(List Int)→(List ByteArray)→Int→Int→Option ((Ab×Unit×List Int×Unit))
 | 0,_,_,_,_,_=>none
 | n+1,g,errors,x12,x13,x14 =>
  bif decide (x14<x13) then((Ao x12 x14).bind fun v0 =>
  (AgG n g v0).bind fun v1 =>
  (app errors [v1.snd.fst]).bind fun v2 =>
  Dq n v1.fst v2 x12 x13 (IntKind.i64.wrap (x14+1))) else
  some (g,((),(errors,())))
def FH (n:Nat) (lines:List ByteArray):Option ((Ab×List Int×Unit)) :=
 (No n).bind fun v0 =>
 (Dq n v0.fst [] lines (↑lines.length:Int) 0).bind fun v1 =>
 some (v1.fst,(v1.snd.snd.fst,()))
def Ms (n:Nat) (y:C.Ds Ty (AH GZ)):Option (YT Ty IT):=FH n y.1
def Zdz (n:Nat):GL Ty:=AcB (FA GZ 0 IT (Ms n))
def Zhj:LB:=⟨84,Zgx,Aaq⟩
def Zda:List LB:=[ZfG,Zhj]
def fgarage_play_l1_b:CB Tryz.f53:=lp 5 [(4,.u 114),(5,.f 84 [.q 0] []),(6,.o 37),(12,.l 9),(13,.s 3),(14,.s 3)] 1 [⟨.exit 0,[.u 114],[(4,.q 0),(6,.o 37)],[]⟩] (fun n y=>Dq n y.1 y.2.2.1 y.2.2.2.1 y.2.2.2.2.1 y.2.2.2.2.2.1) Zda []
def ZdU (n:Nat):FO Ty:=[(.loop 5,(fgarage_play_l1_b.F n))]
theorem RI (n:Nat) (x:C.Ds Ty (AH GZ)):(CI Tryz.prog 27 (Ca Tryz.prog ((Rx Zda n)) []) (A6 (ZdU n)) (Bz Tryz.f53) (By GZ x)).runK (GN Tryz.prog Tryz.f53.results.toList 0 IT)=Ms n x:=by kernel_rfl
theorem NZ (n:Nat):Bb Tryz.prog 53 (Zdz n):=ZX (by decide) (HT Tryz.func53 rfl rfl (by decide) rfl Af Am (A5 Af Am ((Es Zda n)) EO) (A0 (fn:=Tryz.f53) (L:=ZdU n) (ks:=[.loop 5]) ⟨fgarage_play_l1_b.ok n,trivial⟩ (by kernel_rfl) (by kernel_rfl)) (RI n))
def P0 (n:Nat) (lines:List ByteArray):Option ((Ae×List Int×Int×Unit)) :=
 (DG n lines).bind fun v0 =>
 bif v0.fst != 0 then(some (Ae.mk [] [] [] [] (Ai.mk 0 [] [] 0 0 0) [],([],(v0.fst,())))) else
 (FH n lines).bind fun v1 =>
 some (v1.fst.state,(v1.snd.fst,(0,())))
def Zdb:LB:=⟨53,Zdz,NZ⟩
def Zgo:LB:=lw Tryz.func21 [.l 9] 0 (rt [.g 35,.l 37,.s 37]) (u1 P0) [Zch,Zdb] []
def Ha (n:Nat) (text:ByteArray) (x1:Ab):Option (((Ab×Unit)×Unit×Bool×Unit)) :=
 (Q6 n text (B [32])).bind fun v0 =>
 (Ao v0.fst 0).bind fun v1 =>
 bif !v1.beq (B [111,117,116]) then(some ((x1,()),((),(false,())))) else
 (Ao v0.fst 1).bind fun v2 =>
 (Nk v2).bind fun v3 =>
 Sum.elim (fun v4=>(Ao v0.fst 2).bind fun v5 =>
 (Nk v5).bind fun v6 =>
 Sum.elim (fun v7=>(Dj n x1.state.cards v4 v7).bind fun v8 =>
 some ((x1,()),((),(decide ((↑v8.fst.length:Int)>0),())))) (fun v7=>(Dj n x1.state.cards v4 v7).bind fun v8 =>
 some ((x1,()),((),(decide ((↑v8.fst.length:Int)>0),())))) (v6)) (fun v4=>(Ao v0.fst 2).bind fun v5 =>
 (Nk v5).bind fun v6 =>
 Sum.elim (fun v7=>(Dj n x1.state.cards v4 v7).bind fun v8 =>
 some ((x1,()),((),(decide ((↑v8.fst.length:Int)>0),())))) (fun v7=>(Dj n x1.state.cards v4 v7).bind fun v8 =>
 some ((x1,()),((),(decide ((↑v8.fst.length:Int)>0),())))) (v6)) (v3)
def Zhd:LB:=⟨112,ZdY,Pq⟩
def Zf1:LB:=lw Tryz.func111 [.s 9,.p 0 [.u 114]] 2 [⟨.ret,[.p 0 [.u 114],.q 1],[],[.s 4]⟩] (fun n y=>Ha n y.1 y.2.1.1) [Zhd,ZgP,Zd7] []
def Cw:Nat→(List Int)→(List Int)→Ab→(List ByteArray)→Int→Int→Option (((Ab×Unit)×Unit×List Int×Unit))
 | 0,_,_,_,_,_,_=>none
 | n+1,errors,out,is,x11,x12,x13 =>
  bif decide (x13<x12) then((Ao x11 x13).bind fun v0 =>
  (Ao errors x13).bind fun v1 =>
  bif decide (v1=0) then((Ha n v0 is).bind fun v2 =>
  bif v2.snd.snd.fst then((app out [x13]).bind fun v3 =>
  Cw n errors v3 v2.fst.fst x11 x12 (IntKind.i64.wrap (x13+1))) else
  Cw n errors out v2.fst.fst x11 x12 (IntKind.i64.wrap (x13+1))) else
  Cw n errors out is x11 x12 (IntKind.i64.wrap (x13+1))) else
  some ((is,()),((),(out,())))
def FI (n:Nat) (lines:List ByteArray) (g:Ab) (errors:List Int):Option ((Ab×List Int×Unit)) :=
 (Cw n errors [] g lines (↑lines.length:Int) 0).bind fun v0 =>
 some (v0.fst.fst,(v0.snd.snd.fst,()))
def ZdV:List LB:=[Zf1]
def Zfd:CB Tryz.f70:=lp 3 [(2,.l 37),(6,.o 3),(7,.f 111 [] [.p 0 [.u 114]]),(11,.l 9),(12,.s 3),(13,.s 3)] 2 [⟨.exit 0,[.p 0 [.u 114],.q 1],[(6,.o 3)],[]⟩] (fun n y=>Cw n y.1 y.2.1 y.2.2.1.2.1.1 y.2.2.2.1 y.2.2.2.2.1 y.2.2.2.2.2.1) ZdV []
def ZdW:LB:=lw Tryz.func70 [.l 9,.u 114,.l 37] 1 [⟨.ret,[.u 114],[],[.o 3]⟩] (u3 FI) ZdV [Zfd]
def P1 (n:Nat) (lines:List ByteArray):Option ((List Int×Int×Unit)) :=
 (DG n lines).bind fun v0 =>
 bif v0.fst != 0 then(some ([],(v0.fst,()))) else
 (FH n lines).bind fun v1 =>
 (FI n lines v1.fst v1.snd.fst).bind fun v2 =>
 some (v2.snd.fst,(0,()))
def Zgp:LB:=lw Tryz.func31 [.l 9] 0 (rt [.l 3,.s 37]) (u1 P1) [Zch,Zdb,ZdW] []
def Cr:List (Nat×C):=[(0,.u 114),(1,.s 3)]
def Ek:List Wo:=[⟨.ret,[.u 114],[],[.s 4]⟩]
def B4:Nat→(List Ak)→Int→Int→Int→Option (((Int×Unit)×Unit) ⊕ (((Int×Unit)×Int×Unit)))
 | 0,_,_,_,_=>none
 | n+1,s,f,x7,x8 =>
  bif decide (x8<x7) then((Ao s x8).bind fun v0 =>
  bif decide (v0.bus=f) then(some (.inr ((f,()),(x8,())))) else
  B4 n s f x7 (IntKind.i64.wrap (x8+1))) else
  some (.inl ((f,()),()))
def BW (n:Nat) (g:Ab) (bus:Int):Option ((Ab×Bool×Unit)) :=
 (Bd n g bus).bind fun v0 =>
 bif !decide (v0.snd.snd.fst>0) then((Vj n v0.fst bus).bind fun v1 =>
 bif !decide (v1.snd.fst≥0) then((B4 n v1.fst.state.cards bus (↑v1.fst.state.cards.length:Int) 0).bind fun v2 =>
 Sum.elim (fun v3=>some (v1.fst,(decide (-1≥0),()))) (fun v3=>some (v1.fst,(decide (v3.snd.fst≥0),()))) (v2)) else
 some (v1.fst,(true,()))) else
 some (v0.fst,(true,()))
def Gz (n:Nat) (y:C.Ds Ty (AH Cr)):Option (YT Ty Ek):=BW n y.1 y.2.1
def Zcj (n:Nat):GL Ty:=FA Cr 1 Ek (Gz n)
def ZbR:List LB:=[Zcr,Zf9]
def fgarage_session_known_i1_b:CB Tryz.f210:=lp 2 [(0,.l 180),(1,.f 153 [] [.p 0 [.s 3]]),(7,.s 3),(8,.s 3)] 1 [⟨.exit 0,[.p 0 [.s 3]],[],[]⟩,⟨.ret,[.p 0 [.s 3]],[(4,.s 3)],[]⟩] (fun n y=>B4 n y.1 y.2.1.2.1.1 y.2.2.1 y.2.2.2.1) ZbR []
def Zcn (n:Nat):Lm Ty:=[(210,[(.loop 2,(fgarage_session_known_i1_b.F n))])]
theorem IU (n:Nat):HX Tryz.prog (Zcn n):=⟨EU (f:=210) Tryz.func210 rfl (A0 (fn:=Tryz.f210) (L:=[(.loop 2,(fgarage_session_known_i1_b.F n))]) (ks:=[.loop 2]) ⟨fgarage_session_known_i1_b.ok n,trivial⟩ (by kernel_rfl) (by kernel_rfl)),trivial⟩
def Zcs (n:Nat):FO Ty:=[]
theorem JA (n:Nat) (x:C.Ds Ty (AH Cr)):(CI Tryz.prog 32 (Ca Tryz.prog ((Rx ZbR n)) (Zcn n)) (A6 (Zcs n)) (Bz Tryz.f93) (By Cr x)).runK (GN Tryz.prog Tryz.f93.results.toList 1 Ek)=Gz n x:=by kernel_rfl
theorem It (n:Nat):Bb Tryz.prog 93 (Zcj n):=HT Tryz.func93 rfl rfl (by decide) rfl Af Am (A5 Af Am ((Es ZbR n)) (IU n)) (A0 (fn:=Tryz.f93) (L:=Zcs n) (ks:=[]) trivial (by kernel_rfl) (by kernel_rfl)) (JA n)
def Hb (n:Nat) (n_:Int) (many:Int):Option ((ByteArray×Unit)) :=
 (BV n n_).bind fun v0 =>
 (AcE n (B [48]) (if IntKind.i64.wrap (many-(↑v0.fst.size:Int))>0 then IntKind.i64.wrap (many-(↑v0.fst.size:Int)) else 0)).bind fun v1 =>
 (An v1.fst v0.fst).bind fun v2 =>
 some (v2,())
def Zhb:LB:=⟨244,Zfi,Vi⟩
def Zf2:LB:=lw Tryz.func181 [.s 3,.s 3] 0 (rt [.s 9]) (u2 Hb) [ZfY,Zhb] []
def Hc:Nat→ByteArray→Int→(List (IK .u8))→Int→Int→Option ((ByteArray×Int×Unit))
 | 0,_,_,_,_,_=>none
 | n+1,s,check,x12,x13,x14 =>
  bif decide (x14<x13) then((Ao x12 x14).bind fun v0 =>
  Hc n s (IntKind.i64.wrap (check+IntKind.i64.wrap (IntKind.i64.wrap (x14+1)*IntKind.i64.wrap (IntKind.i64.wrap v0.n+1)))) x12 x13 (IntKind.i64.wrap (x14+1))) else
  some (s,(check,()))
def Mt (n:Nat) (s:ByteArray) (index:Int):Option ((ByteArray×Unit)) :=
 (Hc n s (IntKind.i64.wrap (7*IntKind.i64.wrap (index+1))) (HE s) (↑(HE s).length:Int) 0).bind fun v0 =>
 (Hb n (↑v0.fst.size:Int) 3).bind fun v1 =>
 (An (B [91]) v1.fst).bind fun v2 =>
 (An v2 (B [47])).bind fun v3 =>
 (Hb n (IntKind.i64.wrap (999-(↑v0.fst.size:Int))) 3).bind fun v4 =>
 (An v3 v4.fst).bind fun v5 =>
 (An v5 (B [47])).bind fun v6 =>
 (Hb n (v0.snd.fst.tmod 99991) 5).bind fun v7 =>
 (An v6 v7.fst).bind fun v8 =>
 (An v8 (B [93])).bind fun v9 =>
 (An v9 v0.fst).bind fun v10 =>
 (An v10 (B [10])).bind fun v11 =>
 some (v11,())
def Zd0:List LB:=[Zf2]
def Zeq:CB Tryz.f125:=lp 3 [(0,.s 9),(5,.s 3),(12,.l 5),(13,.s 3),(14,.s 3)] 0 [⟨.exit 0,[],[(0,.s 9),(5,.s 3)],[]⟩] (u5 Hc) Zd0 []
def Zf3:LB:=lw Tryz.func125 [.s 9,.s 3] 0 (rt [.s 9]) (u2 Mt) Zd0 [Zeq]
def Gs:Nat→(List (IK .u8))→(List ByteArray)→Int→Int→Option ((List (IK .u8)×Unit))
 | 0,_,_,_,_=>none
 | n+1,out,x5,x6,x7 =>
  bif decide (x7<x6) then((Ao x5 x7).bind fun v0 =>
  (Mt n v0 x7).bind fun v1 =>
  (app out (HE v1.fst)).bind fun v2 =>
  Gs n v2 x5 x6 (IntKind.i64.wrap (x7+1))) else
  some (out,())
def Li (n:Nat) (lines:List ByteArray):Option ((List (IK .u8)×Unit)) :=
 (Gs n [] lines (↑lines.length:Int) 0).bind fun v0 =>
 some (v0.fst,())
def Zdl:List LB:=[Zf3]
def Zec:CB Tryz.f78:=lp 2 [(2,.o 5),(5,.l 9),(6,.s 3),(7,.s 3)] 0 [⟨.exit 0,[],[(2,.o 5)],[]⟩] (u4 Gs) Zdl []
def Zfe:LB:=lw Tryz.func78 [.l 9] 0 (rt [.l 5]) (u1 Li) Zdl [Zec]
def Np (n:Nat) (lines:List ByteArray):Option ((List (IK .u8)×Int×Unit)) :=
 (DG n lines).bind fun v0 =>
 bif v0.fst != 0 then(some ([],(v0.fst,()))) else
 (Li n lines).bind fun v1 =>
 some (v1.fst,(0,()))
def ZfT:LB:=lw Tryz.func37 [.l 9] 0 (rt [.l 5,.s 37]) (u1 Np) [Zch,Zfe] []
def Fc:Nat→Int→(List (IK .u8))→Int→Int→Option ((Int×Unit) ⊕ ((Int×Unit)))
 | 0,_,_,_,_=>none
 | n+1,n_,x6,x7,x8 =>
  bif decide (x8<x7) then((Ao x6 x8).bind fun v0 =>
  bif !decide (v0.n<48) then(bif decide (v0.n>57) then(some (.inr (-1,()))) else
  Fc n (IntKind.i64.wrap (IntKind.i64.wrap (10*n_)+IntKind.i64.wrap (IntKind.u8.wrap (v0.n-48)))) x6 x7 (IntKind.i64.wrap (x8+1))) else
  some (.inr (-1,()))) else
  some (.inl (n_,()))
def Mu (n:Nat) (l:List (IK .u8)):Option ((Int×Unit)) :=
 (Fc n 0 l (↑l.length:Int) 0).bind fun v0 =>
 Sum.elim (fun v1=>some (v1.fst,())) (fun v1=>some (v1.fst,())) (v0)
def Oa (n:Nat):Option ((List ByteArray×Unit)) :=
 some ([B [102,111,117,110,100,32,55,32,49,32,49,48,48,32,51],B [111,117,116,32,55,32,49,53,48],B [111,117,116,32,56,32,49,53,48],B [105,110,32,56,32,50,48,48,32,51,48],B [115,105,103,110,101,100,32,55,32,50,32,49,54,48,32,49],B [111,117,116,32,55,32,49,55,48],B [104,101,108,100,32,56,32,51,32,49,52,48,32,50],B [111,117,116,32,56,32,51,48,48],B [115,97,108,101,32,53,32,50,32,49,53,32,49,32,51,48,48],B [99,108,111,115,101,32,53,32,52,32,51,48,32,50,32,53,48,48],B [100,114,105,118,101,114,32,49,32,45,57,48,48],B [100,117,116,121,32,48,32,51,48,48,32,57,48,48,32,49,48,48,48,32,49],B [100,117,116,121,32,49,32,49,48,48,32,53,48,48,32,53,48,48,32,49],B [103,105,118,101,32,48,32,48],B [103,105,118,101,32,49,32,48],B [105,110,32,55,32,49,54,53,32,53]],())
def ZgI:LB:=lw Tryz.func51 [] 0 (rt [.o 9]) (fun n _=>Oa n) [] []
def H6 (n:Nat):Option ((Bool×Unit)) :=
 (Oa n).bind fun v0 =>
 (P0 n v0.fst).bind fun v1 =>
 (Oa n).bind fun v2 =>
 (P1 n v2.fst).bind fun v3 =>
 (Np n [B [97]]).bind fun v4 =>
 bif !v1.snd.snd.fst != 0 then(bif !v3.snd.fst != 0 then(bif !v4.snd.fst != 0 then(bif (↑v1.snd.fst.length:Int) != 16 then(some (false,())) else
 (Ao v1.snd.fst 1).bind fun v5 =>
 bif decide (v5=11) then((Ao v1.snd.fst 7).bind fun v6 =>
 bif decide (v6=11) then((Ao v1.snd.fst 14).bind fun v7 =>
 bif decide (v7=10) then((Ao v1.snd.fst 15).bind fun v8 =>
 bif decide (v8=2) then(bif decide ((↑v1.fst.runs.length:Int)=1) then((Ao v1.fst.runs 0).bind fun v9 =>
 bif decide (v9.bus=8) && (decide (v9.fr=150) && (decide (v9.to_=200) && (decide (v9.miles=30) && true))) then(bif decide ((↑v1.fst.outs.length:Int)=1) then((Ao v1.fst.outs 0).bind fun v10 =>
 bif decide (v10.bus=7) && (decide (v10.fr=170) && true) then((Q8 n v1.fst.roster [0,-1]).bind fun v11 =>
 bif v11.fst then((Q8 n v3.fst [2]).bind fun v12 =>
 bif v12.fst then(some ((Q2 v4.fst).beq (B [91,48,48,49,47,57,57,56,47,48,48,49,48,53,93,97,10]),())) else
 some (false,())) else
 some (false,())) else
 some (false,())) else
 some (false,())) else
 some (false,())) else
 some (false,())) else
 some (false,())) else
 some (false,())) else
 some (false,())) else
 some (false,())) else
 some (false,())) else
 some (false,())) else
 some (false,())
def flaw_wakes_b:LB:=lw Tryz.func20 [] 0 (rt [.s 4]) (fun n _=>H6 n) [ZgI,Zgo,Zgp,ZfT,ZgJ] []
def ZgO:LB:=⟨25,Zei,RH⟩
def Fx:Nat→Int→Ae→Int→Bool→Int→Option ((Ae×Int×Unit×Int×Bool×Unit))
 | 0,_,_,_,_,_=>none
 | n+1,b,s,miles,is,i =>
  bif decide (i<(↑s.cards.length:Int)) then(bif !is then((Ao s.cards i).bind fun v0 =>
  Fx n b s miles (decide (v0.bus=b)) (IntKind.i64.wrap (i+1))) else
  Fx n b s miles true (IntKind.i64.wrap (i+1))) else
  some (s,(b,((),(miles,(is,())))))
def P2 (n:Nat) (s:Ae) (b:Int):Option ((ByteArray×Unit)) :=
 (KV n s b).bind fun v0 =>
 bif !decide (v0.snd.fst>0) then((Gy n s b).bind fun v1 =>
 (Fx n b s v0.fst (decide (v1.fst≥0)) 0).bind fun v2 =>
 bif !v2.snd.snd.snd.snd.fst then(some (B [],())) else
 (AB n v2.snd.fst).bind fun v3 =>
 (An (B [98,117,115,32]) v3.fst).bind fun v4 =>
 (An v4 (B [32,109,105,108,101,115,32])).bind fun v5 =>
 (AB n v2.snd.snd.snd.fst).bind fun v6 =>
 (An v5 v6.fst).bind fun v7 =>
 (An v7 (B [32,111,112,101,110,32])).bind fun v8 =>
 (D7 n v2.fst.cards v2.snd.fst 1000000).bind fun v9 =>
 (AB n (↑v9.fst.length:Int)).bind fun v10 =>
 (An v8 v10.fst).bind fun v11 =>
 (Gy n v2.fst v2.snd.fst).bind fun v12 =>
 bif decide (v12.fst≥0) then((An v11 (B [32,111,117,116])).bind fun v13 =>
 (An v13 (B [10])).bind fun v14 =>
 some (v14,())) else
 (An v11 (B [10])).bind fun v13 =>
 some (v13,())) else
 (Fx n b s v0.fst true 0).bind fun v1 =>
 bif !v1.snd.snd.snd.snd.fst then(some (B [],())) else
 (AB n v1.snd.fst).bind fun v2 =>
 (An (B [98,117,115,32]) v2.fst).bind fun v3 =>
 (An v3 (B [32,109,105,108,101,115,32])).bind fun v4 =>
 (AB n v1.snd.snd.snd.fst).bind fun v5 =>
 (An v4 v5.fst).bind fun v6 =>
 (An v6 (B [32,111,112,101,110,32])).bind fun v7 =>
 (D7 n v1.fst.cards v1.snd.fst 1000000).bind fun v8 =>
 (AB n (↑v8.fst.length:Int)).bind fun v9 =>
 (An v7 v9.fst).bind fun v10 =>
 (Gy n v1.fst v1.snd.fst).bind fun v11 =>
 bif decide (v11.fst≥0) then((An v10 (B [32,111,117,116])).bind fun v12 =>
 (An v12 (B [10])).bind fun v13 =>
 some (v13,())) else
 (An v10 (B [10])).bind fun v12 =>
 some (v12,())
def Zft:LB:=⟨97,Zdg,Lh⟩
def ZfU:List LB:=[ZgE,Zfp,Zft,ZcW]
def Zg5:CB Tryz.f96:=lp 4 [(1,.s 3),(2,.u 51),(5,.s 3),(7,.s 4),(8,.s 3)] 1 [⟨.exit 0,[.u 51],[(1,.s 3),(2,.q 0),(5,.s 3),(7,.s 4)],[]⟩] (u5 Fx) ZfU []
def ZgV:LB:=lw Tryz.func96 [.g 51,.s 3] 0 (rt [.s 9]) (u2 P2) ZfU [Zg5]
def El:Nat→(List ByteArray)→Ae→(List Int)→ByteArray→Int→Option ((Ae×List ByteArray×Unit×List Int×ByteArray×Unit))
 | 0,_,_,_,_,_=>none
 | n+1,lines,s,errors,out,b =>
  bif decide (b≤99) then((P2 n s b).bind fun v0 =>
  (An out v0.fst).bind fun v1 =>
  El n lines s errors v1 (IntKind.i64.wrap (b+1))) else
  some (s,(lines,((),(errors,(out,())))))
def Dd:Nat→Ae→ByteArray→Int→Int→Int→Option ((Ae×Unit×ByteArray×Int×Int×Unit))
 | 0,_,_,_,_,_=>none
 | n+1,s,out,sales,coins,i =>
  bif decide (i<(↑s.records.length:Int)) then((Ao s.records i).bind fun v0 =>
  bif decide (v0.kind.n=0) then((Ao s.records i).bind fun v1 =>
  Dd n s out (IntKind.i64.wrap (sales+1)) (IntKind.i64.wrap (coins+v1.b)) (IntKind.i64.wrap (i+1))) else
  Dd n s out sales coins (IntKind.i64.wrap (i+1))) else
  some (s,((),(out,(sales,(coins,())))))
def Em:Nat→Ae→ByteArray→Int→Int→(List Bc)→Bool→Int→Option ((Ae×Unit×ByteArray×Int×Int×Bool×Unit))
 | 0,_,_,_,_,_,_,_=>none
 | n+1,s,out,sales,coins,lacks,can,i =>
  bif decide (i<(↑lacks.length:Int)) then((Ao lacks i).bind fun v0 =>
  (Ao lacks i).bind fun v1 =>
  Em n s out (IntKind.i64.wrap (sales+v0.sales)) (IntKind.i64.wrap (coins+v1.coins)) lacks can (IntKind.i64.wrap (i+1))) else
  some (s,((),(out,(sales,(coins,(can,()))))))
def Jx (n:Nat) (lines:List ByteArray):Option ((ByteArray×Unit)) :=
 (MN n lines).bind fun v0 =>
 (El n lines v0.fst v0.snd.fst (B []) 0).bind fun v1 =>
 (An v1.snd.snd.snd.snd.fst (B [108,97,116,101,32])).bind fun v2 =>
 (ML n v1.fst v1.snd.fst v1.snd.snd.snd.fst).bind fun v3 =>
 (AB n (↑v3.fst.length:Int)).bind fun v4 =>
 (An v2 v4.fst).bind fun v5 =>
 (An v5 (B [10])).bind fun v6 =>
 (Dd n v1.fst v6 0 0 0).bind fun v7 =>
 (An v7.snd.snd.fst (B [115,97,108,101,115,32])).bind fun v8 =>
 (AB n v7.snd.snd.snd.fst).bind fun v9 =>
 (An v8 v9.fst).bind fun v10 =>
 (An v10 (B [32,99,111,105,110,115,32])).bind fun v11 =>
 (AB n v7.snd.snd.snd.snd.fst).bind fun v12 =>
 (An v11 v12.fst).bind fun v13 =>
 (An v13 (B [10])).bind fun v14 =>
 (KU n v7.fst.records).bind fun v15 =>
 (GX n v15.fst).bind fun v16 =>
 (Em n v7.fst v14 0 0 v16.fst v16.snd.fst 0).bind fun v17 =>
 bif v17.snd.snd.snd.snd.snd.fst then((An v17.snd.snd.fst (B [108,97,99,107,32])).bind fun v18 =>
 (AB n v17.snd.snd.snd.fst).bind fun v19 =>
 (An v18 v19.fst).bind fun v20 =>
 (An v20 (B [32,99,111,105,110,115,32])).bind fun v21 =>
 (AB n v17.snd.snd.snd.snd.fst).bind fun v22 =>
 (An v21 v22.fst).bind fun v23 =>
 (An v23 (B [10])).bind fun v24 =>
 (An v24 (B [100,117,116,105,101,115,32])).bind fun v25 =>
 (Ge n v17.fst.roster).bind fun v26 =>
 (AB n v26.fst).bind fun v27 =>
 (An v25 v27.fst).bind fun v28 =>
 (An v28 (B [32,111,102,32])).bind fun v29 =>
 (AB n (↑v17.fst.roster.length:Int)).bind fun v30 =>
 (An v29 v30.fst).bind fun v31 =>
 (An v31 (B [10])).bind fun v32 =>
 some (v32,())) else
 (An v17.snd.snd.fst (B [108,97,99,107,32,117,110,107,110,111,119,110,10])).bind fun v18 =>
 (An v18 (B [100,117,116,105,101,115,32])).bind fun v19 =>
 (Ge n v17.fst.roster).bind fun v20 =>
 (AB n v20.fst).bind fun v21 =>
 (An v19 v21.fst).bind fun v22 =>
 (An v22 (B [32,111,102,32])).bind fun v23 =>
 (AB n (↑v17.fst.roster.length:Int)).bind fun v24 =>
 (An v23 v24.fst).bind fun v25 =>
 (An v25 (B [10])).bind fun v26 =>
 some (v26,())
def Zc2:List LB:=[ZgO,ZgV,ZgM,Zft,ZgD,Zgi,ZfC]
def Zf4:CB Tryz.f49:=lp 4 [(0,.l 9),(3,.u 51),(4,.l 3),(5,.s 9),(6,.s 3)] 1 [⟨.exit 0,[.u 51],[(0,.l 9),(3,.q 0),(4,.l 3),(5,.s 9)],[]⟩] (u5 El) Zc2 []
def Zf5:CB Tryz.f49:=lp 10 [(3,.u 51),(5,.s 9),(7,.s 3),(8,.s 3),(9,.s 3)] 1 [⟨.exit 2,[.u 51],[(3,.q 0),(5,.s 9),(7,.s 3),(8,.s 3)],[]⟩] (u5 Dd) Zc2 []
def Zf6:CB Tryz.f49:=lp 19 [(3,.u 51),(5,.s 9),(7,.s 3),(8,.s 3),(10,.l 178),(11,.s 4),(12,.s 3)] 1 [⟨.exit 4,[.u 51],[(3,.q 0),(5,.s 9),(7,.s 3),(8,.s 3),(11,.s 4)],[]⟩] (u7 Em) Zc2 []
def fref_Report_b:LB:=(lw Tryz.func49 [.l 9] 0 (rt [.s 9]) (u1 Jx) Zc2 [Zf4,Zf5,Zf6]).rd
def BP:List (Nat×C):=[(0,.l 9),(5,.u 114),(6,.l 37),(7,.p 163 [.q 1,.o 5]),(8,.f 89 [] []),(9,.f 90 [] [.q 1]),(38,.s 3)]
def FU:List Wo:=[⟨.exit 0,[.u 114,.p 163 [.z,.o 5]],[(0,.l 9),(5,.q 0),(6,.l 37),(7,.q 1),(8,.f 89 [] []),(9,.f 90 [] [.q 1])],[]⟩,⟨.exit 0,[.u 114,.p 163 [.q 1,.o 5]],[(0,.l 9),(5,.q 0),(6,.l 37),(7,.q 1),(8,.f 89 [] []),(9,.f 90 [] [.q 1])],[]⟩]
def C5:List (Nat×C):=[(0,.l 9),(5,.u 114),(6,.l 37),(7,.p 163 [.z,.o 5]),(8,.f 89 [] []),(9,.f 90 [] [.q 1]),(38,.s 3)]
def FV:List Wo:=[⟨.exit 0,[.u 114,.p 163 [.z,.o 5]],[(0,.l 9),(5,.q 0),(6,.l 37),(7,.q 1),(8,.f 89 [] []),(9,.f 90 [] [.q 1])],[]⟩,⟨.exit 0,[.u 114,.p 163 [.q 1,.o 5]],[(0,.l 9),(5,.q 0),(6,.l 37),(7,.q 1),(8,.f 89 [] []),(9,.f 90 [] [.q 1])],[]⟩]
def AR:Nat→(List ByteArray)→Ab→(List Int)→(List (IK .u8))→Int→Option ((Ab×(Unit×List (IK .u8)×Unit)×List ByteArray×Unit×List Int×Unit×(Unit×Unit)×(Unit×(Unit×Unit))×Unit) ⊕ ((Ab×(Unit×List (IK .u8)×Unit)×List ByteArray×Unit×List Int×Unit×(Unit×Unit)×(Unit×(Unit×Unit))×Unit)))
 | 0,_,_,_,_,_=>none
 | n+1,lines,g,errors,out,x38 =>
  bif decide (x38<100) then((BW n g x38).bind fun v0 =>
  bif !v0.snd.fst then(AR n lines v0.fst errors out (IntKind.i64.wrap (x38+1))) else
  (Bd n v0.fst x38).bind fun v1 =>
  (Dj n v1.fst.state.cards x38 1000000).bind fun v2 =>
  (BV n x38).bind fun v3 =>
  (BV n v1.snd.fst).bind fun v4 =>
  (BV n (↑v2.fst.length:Int)).bind fun v5 =>
  (Vj n v1.fst x38).bind fun v6 =>
  bif decide (v6.snd.fst≥0) then((FJ n ([B [98,117,115],v3.fst,B [109,105,108,101,115],v4.fst,B [111,112,101,110],v5.fst].append [B [111,117,116]]) (B [32])).bind fun v7 =>
  (An v7.fst (B [10])).bind fun v8 =>
  (app out (HE v8)).bind fun v9 =>
  AR n lines v6.fst errors v9 (IntKind.i64.wrap (x38+1))) else
  (FJ n [B [98,117,115],v3.fst,B [109,105,108,101,115],v4.fst,B [111,112,101,110],v5.fst] (B [32])).bind fun v7 =>
  (An v7.fst (B [10])).bind fun v8 =>
  (app out (HE v8)).bind fun v9 =>
  AR n lines v6.fst errors v9 (IntKind.i64.wrap (x38+1))) else
  some (.inr (g,(((),(out,())),(lines,((),(errors,((),(((),()),(((),((),())),())))))))))
def BQ (n:Nat) (y:C.Ds Ty (AH BP)):Option (YT Ty FU):=AR n y.1 y.2.1 y.2.2.1 y.2.2.2.1.2.1 y.2.2.2.2.2.2.1
def ZcB (n:Nat):St Ty→Tr (Lf Ty):=MU BP 2 FU (BQ n)
def BM:Nat→(List ByteArray)→Ab→(List Int)→(List (IK .u8))→Int→Option ((Ab×(Unit×List (IK .u8)×Unit)×List ByteArray×Unit×List Int×Unit×(Unit×Unit)×(Unit×(Unit×Unit))×Unit) ⊕ ((Ab×(Unit×List (IK .u8)×Unit)×List ByteArray×Unit×List Int×Unit×(Unit×Unit)×(Unit×(Unit×Unit))×Unit)))
 | 0,_,_,_,_,_=>none
 | n+1,lines,g,errors,out,x38 =>
  bif decide (x38<100) then((BW n g x38).bind fun v0 =>
  bif !v0.snd.fst then(BM n lines v0.fst errors out (IntKind.i64.wrap (x38+1))) else
  (Bd n v0.fst x38).bind fun v1 =>
  (Dj n v1.fst.state.cards x38 1000000).bind fun v2 =>
  (BV n x38).bind fun v3 =>
  (BV n v1.snd.fst).bind fun v4 =>
  (BV n (↑v2.fst.length:Int)).bind fun v5 =>
  (Vj n v1.fst x38).bind fun v6 =>
  bif decide (v6.snd.fst≥0) then((FJ n ([B [98,117,115],v3.fst,B [109,105,108,101,115],v4.fst,B [111,112,101,110],v5.fst].append [B [111,117,116]]) (B [32])).bind fun v7 =>
  (An v7.fst (B [10])).bind fun v8 =>
  (app out (HE v8)).bind fun v9 =>
  AR n lines v6.fst errors v9 (IntKind.i64.wrap (x38+1))) else
  (FJ n [B [98,117,115],v3.fst,B [109,105,108,101,115],v4.fst,B [111,112,101,110],v5.fst] (B [32])).bind fun v7 =>
  (An v7.fst (B [10])).bind fun v8 =>
  (app out (HE v8)).bind fun v9 =>
  AR n lines v6.fst errors v9 (IntKind.i64.wrap (x38+1))) else
  some (.inl (g,(((),(out,())),(lines,((),(errors,((),(((),()),(((),((),())),())))))))))
def DX (n:Nat) (y:C.Ds Ty (AH C5)):Option (YT Ty FV):=BM n y.1 y.2.1 y.2.2.1 y.2.2.2.1.2.1 y.2.2.2.2.2.2.1
def ZcC (n:Nat):St Ty→Tr (Lf Ty):=MU C5 2 FV (DX n)
def Bf:Nat→Ab→(List (IK .u8))→Int→Int→(List Aa)→Int→Int→Option ((Ab×(Unit×List (IK .u8)×Unit)×Unit×Unit×(Unit×Unit)×(Unit×(Unit×Unit))×Int×Int×Unit))
 | 0,_,_,_,_,_,_,_=>none
 | n+1,g,out,sales,coins,x97,x98,x99 =>
  bif decide (x99<x98) then((Ao x97 x99).bind fun v0 =>
  bif decide (v0.kind.n=0) then(Bf n g out (IntKind.i64.wrap (sales+1)) (IntKind.i64.wrap (coins+v0.b)) x97 x98 (IntKind.i64.wrap (x99+1))) else
  Bf n g out sales coins x97 x98 (IntKind.i64.wrap (x99+1))) else
  some (g,(((),(out,())),((),((),(((),()),(((),((),())),(sales,(coins,()))))))))
def BN:Nat→Ab→(List (IK .u8))→Int→Int→Int→(List Bc)→Int→Int→Option ((Ab×(Unit×List (IK .u8)×Unit)×Unit×Unit×(Unit×Unit)×(Unit×(Unit×Unit))×Int×Int×Int×Unit))
 | 0,_,_,_,_,_,_,_,_=>none
 | n+1,g,out,sales,coins,e,x131,x132,x133 =>
  bif decide (x133<x132) then((Ao x131 x133).bind fun v0 =>
  BN n g out (IntKind.i64.wrap (sales+v0.sales)) (IntKind.i64.wrap (coins+v0.coins)) e x131 x132 (IntKind.i64.wrap (x133+1))) else
  some (g,(((),(out,())),((),((),(((),()),(((),((),())),(sales,(coins,(e,())))))))))
def AD:Nat→Ab→(List (IK .u8))→Int→(List Int)→Int→Int→Option ((Ab×(Unit×List (IK .u8)×Unit)×Unit×Unit×(Unit×Unit)×(Unit×(Unit×Unit))×Int×Unit))
 | 0,_,_,_,_,_,_=>none
 | n+1,g,out,given,x164,x165,x166 =>
  bif decide (x166<x165) then((Ao x164 x166).bind fun v0 =>
  bif v0 != -1 then(AD n g out (IntKind.i64.wrap (given+1)) x164 x165 (IntKind.i64.wrap (x166+1))) else
  AD n g out given x164 x165 (IntKind.i64.wrap (x166+1))) else
  some (g,(((),(out,())),((),((),(((),()),(((),((),())),(given,())))))))
def En (n:Nat) (lines:List ByteArray):Option ((ByteArray×Int×Unit)) :=
 (DG n lines).bind fun v0 =>
 bif v0.fst != 0 then(some (B [],(v0.fst,()))) else
 (FH n lines).bind fun v1 =>
 (BM n lines v1.fst v1.snd.fst [] 0).bind fun v2 =>
 Sum.elim (fun v3=>(FI n v3.snd.snd.fst v3.fst v3.snd.snd.snd.snd.fst).bind fun v4 =>
 (BV n (↑v4.snd.fst.length:Int)).bind fun v5 =>
 (FJ n [B [108,97,116,101],v5.fst] (B [32])).bind fun v6 =>
 (An v6.fst (B [10])).bind fun v7 =>
 (app v3.snd.fst.snd.fst (HE v7)).bind fun v8 =>
 (Bf n v4.fst v8 0 0 v4.fst.state.records (↑v4.fst.state.records.length:Int) 0).bind fun v9 =>
 (BV n v9.snd.snd.snd.snd.snd.snd.fst).bind fun v10 =>
 (BV n v9.snd.snd.snd.snd.snd.snd.snd.fst).bind fun v11 =>
 (FJ n [B [115,97,108,101,115],v10.fst,B [99,111,105,110,115],v11.fst] (B [32])).bind fun v12 =>
 (An v12.fst (B [10])).bind fun v13 =>
 (app v9.snd.fst.snd.fst (HE v13)).bind fun v14 =>
 (D9 n v9.fst.state.records).bind fun v15 =>
 (BN n v9.fst v14 0 0 v15.snd.fst v15.fst (↑v15.fst.length:Int) 0).bind fun v16 =>
 bif decide (v16.snd.snd.snd.snd.snd.snd.snd.snd.fst=0) then((BV n v16.snd.snd.snd.snd.snd.snd.fst).bind fun v17 =>
 (BV n v16.snd.snd.snd.snd.snd.snd.snd.fst).bind fun v18 =>
 (FJ n [B [108,97,99,107],v17.fst,B [99,111,105,110,115],v18.fst] (B [32])).bind fun v19 =>
 (An v19.fst (B [10])).bind fun v20 =>
 (app v16.snd.fst.snd.fst (HE v20)).bind fun v21 =>
 (AD n v16.fst v21 0 v16.fst.state.roster (↑v16.fst.state.roster.length:Int) 0).bind fun v22 =>
 (BV n v22.snd.snd.snd.snd.snd.snd.fst).bind fun v23 =>
 (BV n (↑v22.fst.state.roster.length:Int)).bind fun v24 =>
 (FJ n [B [100,117,116,105,101,115],v23.fst,B [111,102],v24.fst] (B [32])).bind fun v25 =>
 (An v25.fst (B [10])).bind fun v26 =>
 (app v22.snd.fst.snd.fst (HE v26)).bind fun v27 =>
 (Nl v27).bind fun v28 =>
 some (v28,(0,()))) else
 (FJ n [B [108,97,99,107],B [117,110,107,110,111,119,110]] (B [32])).bind fun v17 =>
 (An v17.fst (B [10])).bind fun v18 =>
 (app v16.snd.fst.snd.fst (HE v18)).bind fun v19 =>
 (AD n v16.fst v19 0 v16.fst.state.roster (↑v16.fst.state.roster.length:Int) 0).bind fun v20 =>
 (BV n v20.snd.snd.snd.snd.snd.snd.fst).bind fun v21 =>
 (BV n (↑v20.fst.state.roster.length:Int)).bind fun v22 =>
 (FJ n [B [100,117,116,105,101,115],v21.fst,B [111,102],v22.fst] (B [32])).bind fun v23 =>
 (An v23.fst (B [10])).bind fun v24 =>
 (app v20.snd.fst.snd.fst (HE v24)).bind fun v25 =>
 (Nl v25).bind fun v26 =>
 some (v26,(0,()))) (fun v3=>(FI n v3.snd.snd.fst v3.fst v3.snd.snd.snd.snd.fst).bind fun v4 =>
 (BV n (↑v4.snd.fst.length:Int)).bind fun v5 =>
 (FJ n [B [108,97,116,101],v5.fst] (B [32])).bind fun v6 =>
 (An v6.fst (B [10])).bind fun v7 =>
 (app v3.snd.fst.snd.fst (HE v7)).bind fun v8 =>
 (Bf n v4.fst v8 0 0 v4.fst.state.records (↑v4.fst.state.records.length:Int) 0).bind fun v9 =>
 (BV n v9.snd.snd.snd.snd.snd.snd.fst).bind fun v10 =>
 (BV n v9.snd.snd.snd.snd.snd.snd.snd.fst).bind fun v11 =>
 (FJ n [B [115,97,108,101,115],v10.fst,B [99,111,105,110,115],v11.fst] (B [32])).bind fun v12 =>
 (An v12.fst (B [10])).bind fun v13 =>
 (app v9.snd.fst.snd.fst (HE v13)).bind fun v14 =>
 (D9 n v9.fst.state.records).bind fun v15 =>
 (BN n v9.fst v14 0 0 v15.snd.fst v15.fst (↑v15.fst.length:Int) 0).bind fun v16 =>
 bif decide (v16.snd.snd.snd.snd.snd.snd.snd.snd.fst=0) then((BV n v16.snd.snd.snd.snd.snd.snd.fst).bind fun v17 =>
 (BV n v16.snd.snd.snd.snd.snd.snd.snd.fst).bind fun v18 =>
 (FJ n [B [108,97,99,107],v17.fst,B [99,111,105,110,115],v18.fst] (B [32])).bind fun v19 =>
 (An v19.fst (B [10])).bind fun v20 =>
 (app v16.snd.fst.snd.fst (HE v20)).bind fun v21 =>
 (AD n v16.fst v21 0 v16.fst.state.roster (↑v16.fst.state.roster.length:Int) 0).bind fun v22 =>
 (BV n v22.snd.snd.snd.snd.snd.snd.fst).bind fun v23 =>
 (BV n (↑v22.fst.state.roster.length:Int)).bind fun v24 =>
 (FJ n [B [100,117,116,105,101,115],v23.fst,B [111,102],v24.fst] (B [32])).bind fun v25 =>
 (An v25.fst (B [10])).bind fun v26 =>
 (app v22.snd.fst.snd.fst (HE v26)).bind fun v27 =>
 (Nl v27).bind fun v28 =>
 some (v28,(0,()))) else
 (FJ n [B [108,97,99,107],B [117,110,107,110,111,119,110]] (B [32])).bind fun v17 =>
 (An v17.fst (B [10])).bind fun v18 =>
 (app v16.snd.fst.snd.fst (HE v18)).bind fun v19 =>
 (AD n v16.fst v19 0 v16.fst.state.roster (↑v16.fst.state.roster.length:Int) 0).bind fun v20 =>
 (BV n v20.snd.snd.snd.snd.snd.snd.fst).bind fun v21 =>
 (BV n (↑v20.fst.state.roster.length:Int)).bind fun v22 =>
 (FJ n [B [100,117,116,105,101,115],v21.fst,B [111,102],v22.fst] (B [32])).bind fun v23 =>
 (An v23.fst (B [10])).bind fun v24 =>
 (app v20.snd.fst.snd.fst (HE v24)).bind fun v25 =>
 (Nl v25).bind fun v26 =>
 some (v26,(0,()))) (v2)
def Zhk:LB:=⟨92,Zgv,Aak⟩
def Zhl:LB:=⟨151,Zex,Aal⟩
def Zd1:LB:=⟨93,Zcj,It⟩
def Zhm:LB:=⟨95,Zey,Aam⟩
def ZbG:List LB:=[Zch,Zdb,ZfY,Zhk,Zhl,Zd1,Zcr,Zd7,Zf9,ZdW,Zgn,Zhm]
def Zcg (n:Nat):FO Ty:=[]
theorem HJ (n:Nat) (x:C.Ds Ty (AH BP)):(CI Tryz.prog 190 (Ca Tryz.prog ((Rx ZbG n)) []) (A6 (Zcg n)) (Cv 9 Tryz.f48) (By BP x)).runK (Gn 2 BP FU (BQ n))=BQ (n+1) x:=by kernel_rfl
theorem Mv (n:Nat):B7 true Tryz.prog 190 (ZcB n) (.loop (Cv 9 Tryz.f48)):=H1 fun x y hy=>Fk (Fn:=BQ) Af Am (fun n=>A5 Af Am ((Es ZbG n)) EO) (fun h=>by cases h) (fun h=>by cases h) (fun n=>(A0 (fn:=Tryz.f48) (L:=Zcg n) (ks:=[]) trivial (by kernel_rfl) (by kernel_rfl))) (by decide) (fun _=>rfl) HJ hy
def ZcU (n:Nat):FO Ty:=[]
theorem Mw (n:Nat) (x:C.Ds Ty (AH C5)):(CI Tryz.prog 190 (Ca Tryz.prog ((Rx ZbG n)) []) (A6 (ZcU n)) (Cv 9 Tryz.f48) (By C5 x)).runK (XK 2 C5 BP FV (DX n) (BQ n))=DX (n+1) x:=by kernel_rfl
theorem Mx (n:Nat):B7 true Tryz.prog 190 (ZcC n) (.loop (Cv 9 Tryz.f48)):=H1 fun x y hy=>AdU (Fn:=DX) (F2:=BQ) Af Am (fun n=>A5 Af Am ((Es ZbG n)) EO) (fun n=>A5 Af Am ((Es ZbG n)) EO) (fun h=>by cases h) (fun h=>by cases h) (fun h=>by cases h) (fun n=>(A0 (fn:=Tryz.f48) (L:=ZcU n) (ks:=[]) trivial (by kernel_rfl) (by kernel_rfl))) (fun n=>(A0 (fn:=Tryz.f48) (L:=Zcg n) (ks:=[]) trivial (by kernel_rfl) (by kernel_rfl))) (by decide) (fun _=>rfl) (fun _=>rfl) Mw HJ hy
def Zer:CB Tryz.f48:=lp 22 [(5,.u 114),(7,.p 163 [.q 1,.o 5]),(8,.f 89 [] []),(9,.f 90 [] [.q 1]),(16,.s 3),(17,.s 3),(97,.l 93),(98,.s 3),(99,.s 3)] 2 [⟨.exit 2,[.u 114,.p 163 [.q 1,.o 5]],[(5,.q 0),(7,.q 1),(8,.f 89 [] []),(9,.f 90 [] [.q 1]),(16,.s 3),(17,.s 3)],[]⟩] (fun n y=>Bf n y.1 y.2.1.2.1 y.2.2.2.2.1 y.2.2.2.2.2.1 y.2.2.2.2.2.2.1 y.2.2.2.2.2.2.2.1 y.2.2.2.2.2.2.2.2.1) ZbG []
def Zes:CB Tryz.f48:=lp 32 [(5,.u 114),(7,.p 163 [.q 1,.o 5]),(8,.f 89 [] []),(9,.f 90 [] [.q 1]),(16,.s 3),(17,.s 3),(21,.s 3),(131,.l 98),(132,.s 3),(133,.s 3)] 2 [⟨.exit 4,[.u 114,.p 163 [.q 1,.o 5]],[(5,.q 0),(7,.q 1),(8,.f 89 [] []),(9,.f 90 [] [.q 1]),(16,.s 3),(17,.s 3),(21,.s 3)],[]⟩] (fun n y=>BN n y.1 y.2.1.2.1 y.2.2.2.2.1 y.2.2.2.2.2.1 y.2.2.2.2.2.2.1 y.2.2.2.2.2.2.2.1 y.2.2.2.2.2.2.2.2.1 y.2.2.2.2.2.2.2.2.2.1) ZbG []
def Zet:CB Tryz.f48:=lp 42 [(5,.u 114),(7,.p 163 [.q 1,.o 5]),(8,.f 89 [] []),(9,.f 90 [] [.q 1]),(24,.s 3),(164,.l 3),(165,.s 3),(166,.s 3)] 2 [⟨.exit 6,[.u 114,.p 163 [.q 1,.o 5]],[(5,.q 0),(7,.q 1),(8,.f 89 [] []),(9,.f 90 [] [.q 1]),(24,.s 3)],[]⟩] (fun n y=>AD n y.1 y.2.1.2.1 y.2.2.2.2.1 y.2.2.2.2.2.1 y.2.2.2.2.2.2.1 y.2.2.2.2.2.2.2.1) ZbG []
def fgarage_Report_b:LB:=(lw Tryz.func48 [.l 9] 0 (rt [.s 9,.s 37]) (u1 En) ZbG [⟨.loop 9,fun n=>Agn (ZcB n) (ZcC n),fun n=>Ac3 (Mv n) (Mx n)⟩,Zer,Zes,Zet]).rd
def DA:List (Nat×C):=[(0,.l 9)]
def Fy:List Wo:=[⟨.ret,[],[],[.s 4]⟩]
def E5 (n:Nat) (lines:List ByteArray):Option ((Bool×Unit)) :=
 (Ki n lines).bind fun v0 =>
 bif !v0.fst then((H6 n).bind fun v1 =>
 some (v1.fst,())) else
 (MJ n lines).bind fun v1 =>
 (En n v1.fst).bind fun v2 =>
 (KS n lines).bind fun v3 =>
 bif !v3.fst then(bif decide (v2.snd.fst=3) then(bif v2.fst.beq (B []) then((H6 n).bind fun v4 =>
 some (v4.fst,())) else
 some (false,())) else
 some (false,())) else
 bif decide (v2.snd.fst=0) then((Jx n lines).bind fun v4 =>
 bif v2.fst.beq v4.fst then((H6 n).bind fun v5 =>
 some (v5.fst,())) else
 some (false,())) else
 some (false,())
def HK (n:Nat) (y:C.Ds Ty (AH DA)):Option (YT Ty Fy):=E5 n y.1
def Zc1 (n:Nat):GL Ty:=Ui (FA DA 0 Fy (HK n))
def ZcN (n:Nat):List (Nat×GL Ty):=[(19,(flaw_Few_b.law n)),(20,(flaw_wakes_b.law n)),(22,(flaw_list_b.law n)),(48,(fgarage_Report_b.law n)),(23,(fref_Right_b.law n)),(49,(fref_Report_b.law n))]
theorem KW (n:Nat):K7 Tryz.prog (ZcN n):=⟨flaw_Few_b.ok n,⟨flaw_wakes_b.ok n,⟨flaw_list_b.ok n,⟨fgarage_Report_b.ok n,⟨fref_Right_b.ok n,⟨fref_Report_b.ok n,trivial⟩⟩⟩⟩⟩⟩
def ZcO (n:Nat):FO Ty:=[]
theorem Lq (n:Nat) (x:C.Ds Ty (AH DA)):(CI Tryz.prog 38 (Ca Tryz.prog (ZcN n) []) (A6 (ZcO n)) (Bz Tryz.f16) (By DA x)).runK (GN Tryz.prog Tryz.f16.results.toList 0 Fy)=HK n x:=by kernel_rfl
theorem JB (n:Nat):Bb Tryz.prog 16 (Zc1 n):=Ma (HT Tryz.func16 rfl rfl (by decide) rfl Af Am (A5 Af Am (KW n) EO) (A0 (fn:=Tryz.f16) (L:=ZcO n) (ks:=[]) trivial (by kernel_rfl) (by kernel_rfl)) (Lq n))
theorem AgK (k:Nat):H6 (k+60)=some (true,()):=by kernel_rfl
end
end Go.Proofs.YtkpgggfibljflaaGreatDoor
