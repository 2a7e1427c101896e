/- What a proof leans on: a machine that steps through code, and what functions compute. -/
import Derived.Test.YtkpgggfibljflaaGreatDoorgFS17
set_option linter.all false
set_option maxRecDepth 100000
namespace Go.Proofs.YtkpgggfibljflaaGreatDoor
noncomputable section
open Go Go.RowKit Go.Proofs
open Rep (rep)
def Am9:Code→Code
 | .seq a _=>a
 | c=>c
theorem ArK:Ao Tryz.f84=.seq (Am9 (Ao Tryz.f84)) (.seq (Am9 (ZI 1 (Ao Tryz.f84))) (ZI 2 (Ao Tryz.f84))):=by kernel_rfl
def LL:List (Nat×C):=[(0,.u 114),(1,.s 9)]
def Ac6:List Wo:=[⟨.ret,[.u 114],[],[.s 37]⟩]
def Aw6 (n:Nat) (g:Aj) (text:ByteArray):Option (Aj×Int×Unit):=(Aqj n g text 0).bind fun y=>match y with
 | .inl a=>some (a.1,a.2.1.1,())
 | .inr a=>some (a.1,a.2.2.2.1.errno,())
def AsI (n:Nat) (y:C.Ds Ty (Af LL)):Option (YT Ty Ac6):=Aw6 n y.1 y.2.1
def Zlf (n:Nat):A9 Ty:=AA LL 1 Ac6 (AsI n)
def ZcZ (x:C.Ds Ty (Af LL)):St Ty:=⟨[(4,.ptr 2000 0),(0,.ptr 0 0),(1,ApE (UV.view 9 x.2.1))],[(0,.blk (UV.view 114 x.1)),(2000,.blk [.int .i64 0])],2064⟩
theorem Aw7 (x:C.Ds Ty (Af LL)):(Ax Tryz.prog 50 (Am Tryz.prog [] []) (Ae []) (Am9 (Ao Tryz.f84)) (Aw LL x)).runK some=some ⟨.normal,ZcZ x⟩:=by kernel_rfl
theorem Aw8 (t:Array Value) (d:List Deferred) (w:World) (Q:Exit→Act→World→Prop) (p:Addr) (ht:t.size=50) (hp:t[4]? = some (.pointer (some p)))
  (hQ:∀ t',t'.size=50→(∀ k,k≠11→t'[k]? = t[k]?)→Q .normal ⟨t',⟨.fn (.func 137) #[.pointer (some p)],#[]⟩::d⟩ w):(Am9 (ZI 1 (Ao Tryz.f84))).wp Tryz.prog Q ⟨t,d⟩ w:=by
 have hc:Am9 (ZI 1 (Ao Tryz.f84))=Code.region 1
  #[{ dst:=some 11,op:=Op.makeFunc (Fn.func 137) #[] #[Operand.tmp 4],type:=1,pos := "garage.go:102",
      after:=#[],guard:=none },
    { dst:=none,op:=Op.defer { callee:=Callee.value (Operand.tmp 11),args:=#[],argTypes:=#[] },
      type:=0,pos := "garage.go:102",after:=#[{ on:=0,ground:=Ground.data }],guard:=none }]
  false:=by kernel_rfl
 rw [hc]
 have hmf:∀ (fn:Fn)(first cap:Array Value)(w:World),(Instr.makeFunc fn first cap).run Tryz.prog w=.ok (.func fn first cap) w:=fun _ _ _ _=>rfl
 have h4:4<t.size:=by omega
 have h11:11<t.size:=by omega
 have he:t.getD 4 Go.undef=.pointer (some p):=by simp [ZaE,hp]
 refine wp_region ?_
 simp [wpOps,go_sem,hmf,Region.wanted,Act.eval,h11]
 rw [hp]
 exact .inl (.inl (hQ _ (by simp [ht]) fun k hk=>by rw [ZaS (Ne.symm hk)]))
def Zb6 (a:Aj) (e:Int):AQ Ty:=[(2000,.blk [.int .i64 e]),(0,.blk (UV.view 114 a))]
def Zlj (k:EK) (a:Aj) (e r:Int):Lf Ty:=⟨k.ext [.ifc 234 (.agg [.int .i64 r])],⟨[(4,.ptr 2000 0)],Zb6 a e,2064⟩⟩
theorem Aum (Fn:C.Ds Ty (Af RM)→Option (YT Ty Ve)) (x:C.Ds Ty (Af LL)):(AZ RM 2 Ve Fn (ZcZ x)).runK some=(Fn (x.1,x.2.1,((0:Int),()),())).bind fun y=>y.elim (fun a=>some (Zlj .ret a.1 a.2.1.1 0)) (fun a=>some (Zlj .pan a.1 a.2.1.1 a.2.2.2.1.errno)):=by kernel_rfl
theorem Aun {F:Fr} {h:Ak} {g:GE} {t:Array Value} {w:World} {a:Aj} {e:Int} (hk:Adp g h ([(4,.ptr 2000 0)]:List (Nat×V Ty)) t) (hm:A2 F h g (AL.get (Zb6 a e)) w):∃ us,V.dens g h ([.int .i64 e]:List (V Ty)) us∧(results Tryz.f84 t).run Tryz.prog w=.ok (Aa1 us) w :=
 PN (P:=Tryz.prog) (m:=[(4,.ptr 2000 0)]) (s:=Zb6 a e) (vs:=[.int .i64 e]) hk hm (by kernel_rfl)
theorem Aw9 (a:Aj) (e:Int):Iw 1 false ([.int .i64 e]:List (V Ty)) ⟨[],Zb6 a e,2064⟩ Ac6=some (a,e,()):=by kernel_rfl
theorem AsJ (a:Aj) (e:Int):AL.get (Zb6 a e) 2000=some (.blk [.int .i64 e]):=by kernel_rfl
theorem ArL (n:Nat) (x:C.Ds Ty (Af LL)) (y:YT Ty Ac6) (hy:AsI n x=some y) (F:Fr) (h:Ak) (g:GE) (t:Array Value) (w:World) (R:Ending→World→Prop) (hs:RS Tryz.f84.ntmps F h g (2*AO) (Aw LL x).m (Aw LL x).s t w)
  (hfin:∀ (F3:Fr)(h2:Ak)(g2:GE)(w3:World)(st:St Ty)(p:Bool)(rv:List (V Ty))(rus:List Value),st.m=[]→FD F F3 [] []→Ak.le h h2→(∀ i,i<2*AO→g2 i=g i)→2*AO≤st.nx→A2 F3 h2 g2 (AL.get st.s) w3→Uf st.nx (AL.get st.s)→Iw 1 p rv st Ac6=some y→V.dens g2 h2 rv rus→V.oksB (Em st.nx) rv=true→R (Afv p (Aa1 rus)) w3) :
  (Ao Tryz.f84).wp Tryz.prog (bodyPostM Fence.wide 0 Tryz.prog Tryz.f84 R) ⟨t,[]⟩ w:=by
 have hn:Tryz.f84.ntmps=50:=by kernel_rfl
 rw [hn] at hs
 rw [ArK]
 refine wp_seq ?_
 refine BR (y:=true) (call:=Am Tryz.prog [] []) (cuts:=Ae []) Aa Ab (Ac (T:=[]) (I:=[]) Aa Ab trivial trivial) (fun h=>by cases h) (Am9 (Ao Tryz.f84)) (fun h=>by cases h) (fun _ _ _ hf=>by cases hf) (Aw LL x) _ (Aw7 x) F h g t w _ [] hs ?_
 intro F1 d1 h1 g1 t1 w1 q0 q1 q2 q3 q4
 have hnx:(Aw LL x).nx=2*AO:=rfl
 rw [hnx] at q2
 show Code.wp Tryz.prog _ (bodyPostM Fence.wide 0 Tryz.prog Tryz.f84 R) ⟨t1,d1⟩ w1
 refine wp_seq ?_
 obtain⟨u,hu,hd⟩:=q4.kn 4 (.ptr 2000 0) rfl
 unfold V.den at hd
 subst hd
 refine Aw8 t1 d1 w1 _ ⟨(g1 2000).b,0,none⟩ q4.size hu fun t2 ht2 hk2=>?_
 show Code.wp Tryz.prog (ZI 2 (Ao Tryz.f84)) (bodyPostM Fence.wide 0 Tryz.prog Tryz.f84 R) _ w1
 have hcut:A5 true Tryz.prog 50 (AZ RM 2 Ve (Ac5 n)) (ZI 2 (Ao Tryz.f84)):=A4 fun x y hy=>Aul n hy
 have hk3:Adp g1 h1 (ZcZ x).m t2:=fun k v hv=>by
  obtain⟨u',e1,e2⟩:=q4.kn k v hv
  refine⟨u',?_,e2⟩
  rw [hk2 k ?_]; exact e1
  intro hh
  subst hh
  cases hv
 have hs2:RS 50 F1 h1 g1 (ZcZ x).nx (ZcZ x).m (ZcZ x).s t2 w1:=⟨ht2,hk3,q4.mem,q4.im,q4.is_⟩
 -- what comes behind the body
 have fin:∀ (a:Aj)(e:Int),(a,e,())=y→∀ (F3:Fr)(h2:Ak)(g2:GE)(t3:Array Value)(w3:World),FD F F3 [] []→Ak.le h1 h2→(∀ i,i<2064→g2 i=g1 i)→Adp g2 h2 ([(4,.ptr 2000 0)]:List (Nat×V Ty)) t3→A2 F3 h2 g2 (AL.get (Zb6 a e)) w3→Uf 2064 (AL.get (Zb6 a e))→LeavesInM Fence.wide 0 Tryz.prog Tryz.f84 t3 R [] .returning w3:=by
  intro a e hye F3 h2 g2 t3 w3 f1 f2 f3 f4 f5 f6
  obtain⟨us,r1,r2⟩:=Aun f4 f5
  refine⟨Aa1 us,r2,?_⟩
  have hlt:2*AO≤2064:=by decide
  exact hfin F3 h2 g2 w3 ⟨[],Zb6 a e,2064⟩ false [.int .i64 e] us rfl f1 (Ak.le_trans q1 f2) (fun i hi=>by rw [f3 i (Zao hi hlt),q2 i hi]) hlt f5 f6 ((Aw9 a e).trans (congrArg some hye)) r1 rfl
 obtain⟨bs1,hd1,nd1,hX1⟩:=q0.ds
 rw [Zbg] at hd1
 have rest:∀ (a:Aj)(e:Int),(a,e,())=y→∀ (F3:Fr)(h2:Ak)(g2:GE)(t3:Array Value)(w3:World),FD F1 F3 [] []→Ak.le h1 h2→(∀ i,i<2064→g2 i=g1 i)→Adp g2 h2 ([(4,.ptr 2000 0)]:List (Nat×V Ty)) t3→A2 F3 h2 g2 (AL.get (Zb6 a e)) w3→Uf 2064 (AL.get (Zb6 a e))→LeavesInM Fence.wide 0 Tryz.prog Tryz.f84 t3 R d1 .returning w3:=by
  intro a e hye F3 h2 g2 t3 w3 f1 f2 f3 f4 f5 f6
  have:=HM (P:=Tryz.prog) (F:=F) (h:=h2) (g:=g2) (M:=AL.get (Zb6 a e)) (fn:=Tryz.f84) (t:=t3) (R:=R) (u:=.returning) (rest:=[]) (by simp) (fun F4 w4 k1 k2=>fin a e hye F4 h2 g2 t3 w4 k1 f2 f3 f4 k2 f6) bs1 F3 w3 ⟨by rw [f1.w,q0.w],by rw [f1.h,q0.h],fun b o hb=>f1.X b o (q0.X b o hb),[],rfl,Zbr,by simp⟩ f5 nd1 fun b hb=>⟨(hX1 b hb).1,f1.X _ _ (hX1 b hb).2⟩
  rw [Zbg] at this
  rw [hd1]; exact this
 have hy2:((Aqj n x.1 x.2.1 0).bind fun y=>match y with
  | .inl a=>some (a.1,a.2.1.1,())
  | .inr a=>some (a.1,a.2.2.2.1.errno,()))=some y:=hy
 obtain⟨y0,hy0,hy3⟩:=Zag.1 hy2
 have hrun:=Aum (Ac5 n) x
 have hB:Ac5 n (x.1,x.2.1,((0:Int),()),())=some y0:=hy0
 rw [hB] at hrun
 cases y0 with
 | inl a =>
  have hye:=Option.some.inj hy3
  refine hcut (ZcZ x) _ hrun F1 h1 g1 t2 w1 _ _ hs2 ?_
  intro F2 d2 h2 g2 t3 w2 p0 p1 p2 p3 p4
  show LeavesInM Fence.wide 0 Tryz.prog Tryz.f84 t3 R d2 .returning w2
  obtain⟨bs,hd2,nd,hX⟩:=p0.ds
  rw [hd2]
  refine HM (P:=Tryz.prog) (F:=F1) (h:=h2) (g:=g2) (M:=AL.get (Zb6 a.1 a.2.1.1)) (by simp) (fun F4 w4 k1 k2=>?_) bs F2 w2 p0.nil p4.mem nd hX
  refine⟨by simp,.inr ⟨fun hh=>by simp [Fence.wide] at hh,_,_,137,#[.pointer (some ⟨(g1 2000).b,0,none⟩)],rfl,by simp [go_sem],fun _ _=>trivial,?_⟩⟩
  refine(ArI _ w4).mono ?_
  rintro e u' w' ⟨rfl,rfl,rfl⟩
  exact rest a.1 a.2.1.1 hye F4 h2 g2 t3 w' k1 p1 (fun i hi=>p2 i hi) p4.kn k2 p4.is_
 | inr a =>
  have hye:=Option.some.inj hy3
  refine hcut (ZcZ x) _ hrun F1 h1 g1 t2 w1 _ _ hs2 ?_
  intro F2 d2 h2 g2 t3 w2 p0 p1 p2 p3 p4
  intro v hv _
  show LeavesInM Fence.wide 0 Tryz.prog Tryz.f84 t3 R d2 (.panicking [{ v:=v,recovered:=false }]) w2
  have hvv:v=.iface 234 (.agg #[.int .i64 a.2.2.2.1.errno]):=by
   have hv:V.den g2 h2 (.ifc 234 (.agg [.int .i64 a.2.2.2.1.errno]):V Ty) v:=hv
   unfold V.den at hv
   obtain⟨z,rfl,hz⟩:=hv
   unfold V.den at hz
   obtain⟨us,rfl,hz⟩:=hz
   unfold V.dens at hz
   obtain⟨u1,us1,rfl,hz1,hz2⟩:=hz
   unfold V.dens at hz2
   unfold V.den at hz1
   subst hz1 hz2
   rfl
  subst hvv
  obtain⟨bs,hd2,nd,hX⟩:=p0.ds
  rw [hd2]
  refine HM (P:=Tryz.prog) (F:=F1) (h:=h2) (g:=g2) (M:=AL.get (Zb6 a.1 a.2.1.1)) (by simp) (fun F4 w4 k1 k2=>?_) bs F2 w2 p0.nil p4.mem nd hX
  refine⟨by simp,.inr ⟨fun hh=>by simp [Fence.wide] at hh,_,_,137,#[.pointer (some ⟨(g1 2000).b,0,none⟩)],rfl,by simp [go_sem],fun _ _=>trivial,?_⟩⟩
  have hm20:=AsJ a.1 a.2.1.1
  obtain⟨us,T,b1,b2,b3,b4,b5⟩:=k2.blk hm20
  unfold V.dens at b2
  obtain⟨u1,us1,rfl,b6,b7⟩:=b2
  unfold V.dens at b7
  unfold V.den at b6
  subst b6 b7
  have hg20:(g2 2000).b=(g1 2000).b:=by rw [p2 2000 (show(2000:Nat)<2064 by decide)]
  rw [hg20] at b1
  have hlt:(g1 2000).b<w4.heap.size:=(Zai.1 b1).1
  have hfz:w4.frozen? ⟨(g1 2000).b,0,none⟩=false:=by simp [World.frozen?,b1]
  have hcl:w4.cell? ⟨(g1 2000).b,0,none⟩=some (.int .i64 a.2.1.1):=by
   have:=b5 0 _ rfl
   rw [hg20] at this
   exact this
  refine(AgO ⟨(g1 2000).b,0,none⟩ a.2.1.1 a.2.2.2.1.errno w4 hlt hcl hfz).mono ?_
  rintro e u' w' ⟨rfl,rfl,rfl⟩
  have ha:(w4.alloc (.cells #[.int .i64 a.2.2.2.1.errno] 234)).heap[(g1 2000).b]? = some (.cells #[.int .i64 a.2.1.1] T (0,0)):=by
   rw [show(w4.alloc (.cells #[.int .i64 a.2.2.2.1.errno] 234)).heap=w4.heap.push (.cells #[.int .i64 a.2.2.2.1.errno] 234) from rfl,Zbe,if_neg (by omega)]
   exact b1
  have hgr:w4.grownBy (w4.alloc (.cells #[.int .i64 a.2.2.2.1.errno] 234)) none:=World.grownBy_alloc _ _ none
  have hm5:=(k2.grow hgr).set hm20 b4 (w':=(w4.alloc (.cells #[.int .i64 a.2.2.2.1.errno] 234)).setCell ⟨(g1 2000).b,0,none⟩ (.int .i64 a.2.2.2.1.errno)) (by rw [hg20]; exact ZE _ ⟨(g1 2000).b,0,none⟩ _) (c':=.blk [.int .i64 a.2.2.2.1.errno]) ⟨b4,[.int .i64 a.2.2.2.1.errno],T,by rw [hg20]; exact AnA ha,by unfold V.dens V.dens; exact⟨_,[],rfl,by unfold V.den; rfl,rfl⟩,fun u hu=>by simp at hu; subst hu; rfl⟩
  have hsame:Mo.put (AL.get (Zb6 a.1 a.2.1.1)) 2000 (some (.blk [.int .i64 a.2.2.2.1.errno]))=AL.get (Zb6 a.1 a.2.2.2.1.errno):=by
   funext j
   unfold Mo.put
   by_cases hj:j=2000
   · subst hj; rw [if_pos rfl,AsJ]
   · rw [if_neg hj]
     show(bif Nat.beq 2000 j then _ else(bif Nat.beq 0 j then _ else none))=(bif Nat.beq 2000 j then _ else(bif Nat.beq 0 j then _ else none))
     have:Nat.beq 2000 j=false:=by
      cases hb:Nat.beq 2000 j with
      | false=>rfl
      | true=>exact absurd (Zac hb).symm hj
     rw [this]; rfl
  rw [hsame] at hm5
  have his5:Uf 2064 (AL.get (Zb6 a.1 a.2.2.2.1.errno)):=fun i c hi=>by
   rw [← hsame] at hi
   unfold Mo.put at hi
   split at hi
   · rename_i hj; subst hj; cases hi; exact⟨rfl,rfl⟩
   · exact p4.is_ i c hi
  exact rest a.1 a.2.2.2.1.errno hye F4 h2 g2 t3 _ k1 p1 (fun i hi=>p2 i hi) p4.kn hm5 his5
theorem Aqm (n:Nat):Au Tryz.prog 84 (Zlf n):=NN Tryz.func84 rfl rfl (by decide) rfl (ArL n)
def DN:List (Nat×C):=[(8,.l 9),(9,.s 3),(10,.s 3)]
def KA:List Wo:=[⟨.exit 0,[],[],[]⟩,⟨.ret,[],[(2,.s 3)],[]⟩]
def Kc:List (Nat×C):=[(0,.l 9)]
def Og:List Wo:=[⟨.ret,[],[],[.s 3]⟩]
def Gh:Nat→(List ByteArray)→Int→Int→Option (Unit ⊕ ((Int×Unit)))
 | 0,_,_,_=>none
 | n+1,x8,x9,x10 =>
  bif decide (x10<x9) then((A6 x8 x10).bind fun v0 =>
  bif decide ((↑v0.size:Int)>200) then(some (.inr (3,()))) else
  Gh n x8 x9 (IntKind.i64.wrap (x10+1))) else
  some (.inl ())
def GN (n:Nat) (y:C.Ds Ty (Af DN)):Option (YT Ty KA):=Gh n y.1 y.2.1 y.2.2.1
def ZeK (n:Nat):St Ty→Tr (Lf Ty):=AZ DN 0 KA (GN n)
def Fv (n:Nat) (lines:List ByteArray):Option ((Int×Unit)) :=
 bif decide ((↑lines.length:Int)>50) then(some (3,())) else
 (Gh n lines (↑lines.length:Int) 0).bind fun v0 =>
 Sum.elim (fun v1=>some (0,())) (fun v1=>some (v1.fst,())) (v0)
def VK (n:Nat) (y:C.Ds Ty (Af Kc)):Option (YT Ty Og):=Fv n y.1
def ZbJ (n:Nat):A9 Ty:=CG (AA Kc 0 Og (VK n))
def ZeL (n:Nat):List (Nat×A9 Ty):=[]
theorem RN (n:Nat):Ap Tryz.prog (ZeL n):=trivial
def ZfY (n:Nat):Az Ty:=[]
theorem Ze (n:Nat) (x:C.Ds Ty (Af DN)):(Ax Tryz.prog 18 (Am Tryz.prog (ZeL n) []) (Ae (ZfY n)) (Al 4 Tryz.f52) (Aw DN x)).runK (A3 0 DN KA (GN n))=GN (n+1) x:=by kernel_rfl
theorem Zf (n:Nat):A5 true Tryz.prog 18 (ZeK n) (.loop (Al 4 Tryz.f52)):=A4 fun x y hy=>At (Fn:=GN) Aa Ab (fun n=>Ac Aa Ab (RN n) Ah) (fun h=>by cases h) (fun h=>by cases h) (fun n=>(Ad (fn:=Tryz.f52) (L:=ZfY n) (ks:=[]) trivial (by kernel_rfl) (by kernel_rfl))) (by decide) (fun _=>rfl) Ze hy
def ZhZ (n:Nat):Az Ty:=[(.loop 4,ZeK n)]
theorem Aek (n:Nat) (x:C.Ds Ty (Af Kc)):(Ax Tryz.prog 18 (Am Tryz.prog (ZeL n) []) (Ae (ZhZ n)) (Ao Tryz.f52) (Aw Kc x)).runK (Aq Tryz.prog Tryz.f52.results.toList 0 Og)=VK n x:=by kernel_rfl
theorem FT (n:Nat):Au Tryz.prog 52 (ZbJ n):=AS (As Tryz.func52 rfl rfl (by decide) rfl Aa Ab (Ac Aa Ab (RN n) Ah) (Ad (fn:=Tryz.f52) (L:=ZhZ n) (ks:=[.loop 4]) ⟨Zf n,trivial⟩ (by kernel_rfl) (by kernel_rfl)) (Aek n))
def B0:List (Nat×C):=[(1,.s 3),(4,.s 3),(5,.s 3),(12,.l 62),(13,.s 3),(14,.s 3)]
def DO:List Wo:=[⟨.exit 0,[],[(4,.s 3),(5,.s 3)],[]⟩]
def CP:List (Nat×C):=[(0,.u 114),(1,.s 3)]
def Gi:List Wo:=[⟨.ret,[.u 114],[],[.s 3,.s 3]⟩]
def Bn:Nat→Int→Int→Int→(List SM)→Int→Int→Option ((Int×Int×Unit))
 | 0,_,_,_,_,_,_=>none
 | n+1,bus,n_,runs,x12,x13,x14 =>
  bif decide (x14<x13) then((A6 x12 x14).bind fun v0 =>
  bif decide (v0.bus=bus) then(Bn n bus (IntKind.i64.wrap (n_+v0.miles)) (IntKind.i64.wrap (runs+1)) x12 x13 (IntKind.i64.wrap (x14+1))) else
  Bn n bus n_ runs x12 x13 (IntKind.i64.wrap (x14+1))) else
  some (n_,(runs,()))
def Ca (n:Nat) (y:C.Ds Ty (Af B0)):Option (YT Ty DO):=Bn n y.1 y.2.1 y.2.2.1 y.2.2.2.1 y.2.2.2.2.1 y.2.2.2.2.2.1
def Zcn (n:Nat):St Ty→Tr (Lf Ty):=AZ B0 0 DO (Ca n)
def HH (n:Nat) (g:Aj) (bus:Int):Option ((Aj×Int×Int×Unit)) :=
 (Bn n bus 0 0 g.state.runs (↑g.state.runs.length:Int) 0).bind fun v0 =>
 some (g,(v0.fst,(v0.snd.fst,())))
def Lc (n:Nat) (y:C.Ds Ty (Af CP)):Option (YT Ty Gi):=HH n y.1 y.2.1
def ZcH (n:Nat):A9 Ty:=AA CP 1 Gi (Lc n)
def ZbY (n:Nat):List (Nat×A9 Ty):=[]
theorem Jz (n:Nat):Ap Tryz.prog (ZbY n):=trivial
def Zc6 (n:Nat):Az Ty:=[]
theorem OU (n:Nat) (x:C.Ds Ty (Af B0)):(Ax Tryz.prog 31 (Am Tryz.prog (ZbY n) []) (Ae (Zc6 n)) (Al 2 Tryz.f76) (Aw B0 x)).runK (A3 0 B0 DO (Ca n))=Ca (n+1) x:=by kernel_rfl
theorem OV (n:Nat):A5 true Tryz.prog 31 (Zcn n) (.loop (Al 2 Tryz.f76)):=A4 fun x y hy=>At (Fn:=Ca) Aa Ab (fun n=>Ac Aa Ab (Jz n) Ah) (fun h=>by cases h) (fun h=>by cases h) (fun n=>(Ad (fn:=Tryz.f76) (L:=Zc6 n) (ks:=[]) trivial (by kernel_rfl) (by kernel_rfl))) (by decide) (fun _=>rfl) OU hy
def Zdt (n:Nat):Az Ty:=[(.loop 2,Zcn n)]
theorem S6 (n:Nat) (x:C.Ds Ty (Af CP)):(Ax Tryz.prog 31 (Am Tryz.prog (ZbY n) []) (Ae (Zdt n)) (Ao Tryz.f76) (Aw CP x)).runK (Aq Tryz.prog Tryz.f76.results.toList 1 Gi)=Lc n x:=by kernel_rfl
theorem OW (n:Nat):Au Tryz.prog 76 (ZcH n):=As Tryz.func76 rfl rfl (by decide) rfl Aa Ab (Ac Aa Ab (Jz n) Ah) (Ad (fn:=Tryz.f76) (L:=Zdt n) (ks:=[.loop 2]) ⟨OV n,trivial⟩ (by kernel_rfl) (by kernel_rfl)) (S6 n)
def He:List (Nat×C):=[(0,.l 180),(1,.l 180),(5,.s 3)]
def Oh:List Wo:=[⟨.exit 0,[],[],[]⟩,⟨.ret,[],[(4,.s 4)],[]⟩]
def OX:List (Nat×C):=[(0,.l 180),(1,.l 180)]
def Vg:List Wo:=[⟨.ret,[],[],[.s 4]⟩]
def Hz:Nat→(List A0)→(List A0)→Int→Option (Unit ⊕ ((Bool×Unit)))
 | 0,_,_,_=>none
 | n+1,a,b,i =>
  bif decide (i<(↑a.length:Int)) then((A6 a i).bind fun v0 =>
  (A6 b i).bind fun v1 =>
  bif !(decide (v0.bus=v1.bus) && (decide (v0.number=v1.number) && (decide (v0.minute=v1.minute) && (decide (v0.kind.n=v1.kind.n) && (decide (v0.part=v1.part) && (decide (v0.sg=v1.sg) && true)))))) then(some (.inr (false,()))) else
  Hz n a b (IntKind.i64.wrap (i+1))) else
  some (.inl ())
def Kd (n:Nat) (y:C.Ds Ty (Af He)):Option (YT Ty Oh):=Hz n y.1 y.2.1 y.2.2.1
def Zg8 (n:Nat):St Ty→Tr (Lf Ty):=AZ He 0 Oh (Kd n)
def Vh (n:Nat) (a:List A0) (b:List A0):Option ((Bool×Unit)) :=
 bif (↑a.length:Int) != (↑b.length:Int) then(some (false,())) else
 (Hz n a b 0).bind fun v0 =>
 Sum.elim (fun v1=>some (true,())) (fun v1=>some (v1.fst,())) (v0)
def Ac7 (n:Nat) (y:C.Ds Ty (Af OX)):Option (YT Ty Vg):=Vh n y.1 y.2.1
def ZiP (n:Nat):A9 Ty:=CG (AA OX 0 Vg (Ac7 n))
def Zht (n:Nat):List (Nat×A9 Ty):=[]
theorem X4 (n:Nat):Ap Tryz.prog (Zht n):=trivial
def Zia (n:Nat):Az Ty:=[]
theorem Ael (n:Nat) (x:C.Ds Ty (Af He)):(Ax Tryz.prog 26 (Am Tryz.prog (Zht n) []) (Ae (Zia n)) (Al 4 Tryz.f54) (Aw He x)).runK (A3 0 He Oh (Kd n))=Kd (n+1) x:=by kernel_rfl
theorem Aem (n:Nat):A5 true Tryz.prog 26 (Zg8 n) (.loop (Al 4 Tryz.f54)):=A4 fun x y hy=>At (Fn:=Kd) Aa Ab (fun n=>Ac Aa Ab (X4 n) Ah) (fun h=>by cases h) (fun h=>by cases h) (fun n=>(Ad (fn:=Tryz.f54) (L:=Zia n) (ks:=[]) trivial (by kernel_rfl) (by kernel_rfl))) (by decide) (fun _=>rfl) Ael hy
def Zkd (n:Nat):Az Ty:=[(.loop 4,Zg8 n)]
theorem Ale (n:Nat) (x:C.Ds Ty (Af OX)):(Ax Tryz.prog 26 (Am Tryz.prog (Zht n) []) (Ae (Zkd n)) (Ao Tryz.f54) (Aw OX x)).runK (Aq Tryz.prog Tryz.f54.results.toList 0 Vg)=Ac7 n x:=by kernel_rfl
theorem Aen (n:Nat):Au Tryz.prog 54 (ZiP n):=AS (As Tryz.func54 rfl rfl (by decide) rfl Aa Ab (Ac Aa Ab (X4 n) Ah) (Ad (fn:=Tryz.f54) (L:=Zkd n) (ks:=[.loop 4]) ⟨Aem n,trivial⟩ (by kernel_rfl) (by kernel_rfl)) (Ale n))
def IC:List (Nat×C):=[(0,.l 60),(1,.l 60),(5,.s 3)]
def Qo:List Wo:=[⟨.exit 0,[],[],[]⟩,⟨.ret,[],[(4,.s 4)],[]⟩]
def RO:List (Nat×C):=[(0,.l 60),(1,.l 60)]
def X5:List Wo:=[⟨.ret,[],[],[.s 4]⟩]
def Jd:Nat→(List Sm)→(List Sm)→Int→Option (Unit ⊕ ((Bool×Unit)))
 | 0,_,_,_=>none
 | n+1,a,b,i =>
  bif decide (i<(↑a.length:Int)) then((A6 a i).bind fun v0 =>
  (A6 b i).bind fun v1 =>
  bif !(decide (v0.bus=v1.bus) && (decide (v0.fr=v1.fr) && true)) then(some (.inr (false,()))) else
  Jd n a b (IntKind.i64.wrap (i+1))) else
  some (.inl ())
def LM (n:Nat) (y:C.Ds Ty (Af IC)):Option (YT Ty Qo):=Jd n y.1 y.2.1 y.2.2.1
def Zhu (n:Nat):St Ty→Tr (Lf Ty):=AZ IC 0 Qo (LM n)
def YA (n:Nat) (a:List Sm) (b:List Sm):Option ((Bool×Unit)) :=
 bif (↑a.length:Int) != (↑b.length:Int) then(some (false,())) else
 (Jd n a b 0).bind fun v0 =>
 Sum.elim (fun v1=>some (true,())) (fun v1=>some (v1.fst,())) (v0)
def AfK (n:Nat) (y:C.Ds Ty (Af RO)):Option (YT Ty X5):=YA n y.1 y.2.1
def Zj9 (n:Nat):A9 Ty:=CG (AA RO 0 X5 (AfK n))
def ZiA (n:Nat):List (Nat×A9 Ty):=[]
theorem ZJ (n:Nat):Ap Tryz.prog (ZiA n):=trivial
def ZiQ (n:Nat):Az Ty:=[]
theorem AgP (n:Nat) (x:C.Ds Ty (Af IC)):(Ax Tryz.prog 26 (Am Tryz.prog (ZiA n) []) (Ae (ZiQ n)) (Al 4 Tryz.f55) (Aw IC x)).runK (A3 0 IC Qo (LM n))=LM (n+1) x:=by kernel_rfl
theorem AgQ (n:Nat):A5 true Tryz.prog 26 (Zhu n) (.loop (Al 4 Tryz.f55)):=A4 fun x y hy=>At (Fn:=LM) Aa Ab (fun n=>Ac Aa Ab (ZJ n) Ah) (fun h=>by cases h) (fun h=>by cases h) (fun n=>(Ad (fn:=Tryz.f55) (L:=ZiQ n) (ks:=[]) trivial (by kernel_rfl) (by kernel_rfl))) (by decide) (fun _=>rfl) AgP hy
def Zk7 (n:Nat):Az Ty:=[(.loop 4,Zhu n)]
theorem AnN (n:Nat) (x:C.Ds Ty (Af RO)):(Ax Tryz.prog 26 (Am Tryz.prog (ZiA n) []) (Ae (Zk7 n)) (Ao Tryz.f55) (Aw RO x)).runK (Aq Tryz.prog Tryz.f55.results.toList 0 X5)=AfK n x:=by kernel_rfl
theorem AgR (n:Nat):Au Tryz.prog 55 (Zj9 n):=AS (As Tryz.func55 rfl rfl (by decide) rfl Aa Ab (Ac Aa Ab (ZJ n) Ah) (Ad (fn:=Tryz.f55) (L:=Zk7 n) (ks:=[.loop 4]) ⟨AgQ n,trivial⟩ (by kernel_rfl) (by kernel_rfl)) (AnN n))
def ID:List (Nat×C):=[(0,.l 62),(1,.l 62),(5,.s 3)]
def Qp:List Wo:=[⟨.exit 0,[],[],[]⟩,⟨.ret,[],[(4,.s 4)],[]⟩]
def RP:List (Nat×C):=[(0,.l 62),(1,.l 62)]
def X6:List Wo:=[⟨.ret,[],[],[.s 4]⟩]
def Je:Nat→(List SM)→(List SM)→Int→Option (Unit ⊕ ((Bool×Unit)))
 | 0,_,_,_=>none
 | n+1,a,b,i =>
  bif decide (i<(↑a.length:Int)) then((A6 a i).bind fun v0 =>
  (A6 b i).bind fun v1 =>
  bif !(decide (v0.bus=v1.bus) && (decide (v0.fr=v1.fr) && (decide (v0.to_=v1.to_) && (decide (v0.miles=v1.miles) && true)))) then(some (.inr (false,()))) else
  Je n a b (IntKind.i64.wrap (i+1))) else
  some (.inl ())
def LN (n:Nat) (y:C.Ds Ty (Af ID)):Option (YT Ty Qp):=Je n y.1 y.2.1 y.2.2.1
def Zhv (n:Nat):St Ty→Tr (Lf Ty):=AZ ID 0 Qp (LN n)
def YB (n:Nat) (a:List SM) (b:List SM):Option ((Bool×Unit)) :=
 bif (↑a.length:Int) != (↑b.length:Int) then(some (false,())) else
 (Je n a b 0).bind fun v0 =>
 Sum.elim (fun v1=>some (true,())) (fun v1=>some (v1.fst,())) (v0)
def AfL (n:Nat) (y:C.Ds Ty (Af RP)):Option (YT Ty X6):=YB n y.1 y.2.1
def ZjA (n:Nat):A9 Ty:=CG (AA RP 0 X6 (AfL n))
def ZiB (n:Nat):List (Nat×A9 Ty):=[]
theorem ZK (n:Nat):Ap Tryz.prog (ZiB n):=trivial
def ZiR (n:Nat):Az Ty:=[]
theorem AgS (n:Nat) (x:C.Ds Ty (Af ID)):(Ax Tryz.prog 26 (Am Tryz.prog (ZiB n) []) (Ae (ZiR n)) (Al 4 Tryz.f56) (Aw ID x)).runK (A3 0 ID Qp (LN n))=LN (n+1) x:=by kernel_rfl
theorem AgT (n:Nat):A5 true Tryz.prog 26 (Zhv n) (.loop (Al 4 Tryz.f56)):=A4 fun x y hy=>At (Fn:=LN) Aa Ab (fun n=>Ac Aa Ab (ZK n) Ah) (fun h=>by cases h) (fun h=>by cases h) (fun n=>(Ad (fn:=Tryz.f56) (L:=ZiR n) (ks:=[]) trivial (by kernel_rfl) (by kernel_rfl))) (by decide) (fun _=>rfl) AgS hy
def Zk8 (n:Nat):Az Ty:=[(.loop 4,Zhv n)]
theorem AnO (n:Nat) (x:C.Ds Ty (Af RP)):(Ax Tryz.prog 26 (Am Tryz.prog (ZiB n) []) (Ae (Zk8 n)) (Ao Tryz.f56) (Aw RP x)).runK (Aq Tryz.prog Tryz.f56.results.toList 0 X6)=AfL n x:=by kernel_rfl
theorem AgU (n:Nat):Au Tryz.prog 56 (ZjA n):=AS (As Tryz.func56 rfl rfl (by decide) rfl Aa Ab (Ac Aa Ab (ZK n) Ah) (Ad (fn:=Tryz.f56) (L:=Zk8 n) (ks:=[.loop 4]) ⟨AgT n,trivial⟩ (by kernel_rfl) (by kernel_rfl)) (AnO n))
def EL:List (Nat×C):=[(0,.l 93),(1,.l 93),(5,.s 3)]
def LO:List Wo:=[⟨.exit 0,[],[],[]⟩,⟨.ret,[],[(4,.s 4)],[]⟩]
def LP:List (Nat×C):=[(0,.l 93),(1,.l 93)]
def Qq:List Wo:=[⟨.ret,[],[],[.s 4]⟩]
def Ey:Nat→(List Ag)→(List Ag)→Int→Option (Unit ⊕ ((Bool×Unit)))
 | 0,_,_,_=>none
 | n+1,a,b,i =>
  bif decide (i<(↑a.length:Int)) then((A6 a i).bind fun v0 =>
  (A6 b i).bind fun v1 =>
  bif !(decide (v0.machine=v1.machine) && (decide (v0.seq=v1.seq) && (decide (v0.minute=v1.minute) && (decide (v0.kind.n=v1.kind.n) && (decide (v0.a=v1.a) && (decide (v0.b=v1.b) && true)))))) then(some (.inr (false,()))) else
  Ey n a b (IntKind.i64.wrap (i+1))) else
  some (.inl ())
def HV (n:Nat) (y:C.Ds Ty (Af EL)):Option (YT Ty LO):=Ey n y.1 y.2.1 y.2.2.1
def Zfo (n:Nat):St Ty→Tr (Lf Ty):=AZ EL 0 LO (HV n)
def OY (n:Nat) (a:List Ag) (b:List Ag):Option ((Bool×Unit)) :=
 bif (↑a.length:Int) != (↑b.length:Int) then(some (false,())) else
 (Ey n a b 0).bind fun v0 =>
 Sum.elim (fun v1=>some (true,())) (fun v1=>some (v1.fst,())) (v0)
def X7 (n:Nat) (y:C.Ds Ty (Af LP)):Option (YT Ty Qq):=OY n y.1 y.2.1
def Zhw (n:Nat):A9 Ty:=CG (AA LP 0 Qq (X7 n))
def ZfA (n:Nat):List (Nat×A9 Ty):=[]
theorem TN (n:Nat):Ap Tryz.prog (ZfA n):=trivial
def Zg9 (n:Nat):Az Ty:=[]
theorem AaF (n:Nat) (x:C.Ds Ty (Af EL)):(Ax Tryz.prog 26 (Am Tryz.prog (ZfA n) []) (Ae (Zg9 n)) (Al 4 Tryz.f57) (Aw EL x)).runK (A3 0 EL LO (HV n))=HV (n+1) x:=by kernel_rfl
theorem AaG (n:Nat):A5 true Tryz.prog 26 (Zfo n) (.loop (Al 4 Tryz.f57)):=A4 fun x y hy=>At (Fn:=HV) Aa Ab (fun n=>Ac Aa Ab (TN n) Ah) (fun h=>by cases h) (fun h=>by cases h) (fun n=>(Ad (fn:=Tryz.f57) (L:=Zg9 n) (ks:=[]) trivial (by kernel_rfl) (by kernel_rfl))) (by decide) (fun _=>rfl) AaF hy
def ZiS (n:Nat):Az Ty:=[(.loop 4,Zfo n)]
theorem AgV (n:Nat) (x:C.Ds Ty (Af LP)):(Ax Tryz.prog 26 (Am Tryz.prog (ZfA n) []) (Ae (ZiS n)) (Ao Tryz.f57) (Aw LP x)).runK (Aq Tryz.prog Tryz.f57.results.toList 0 Qq)=X7 n x:=by kernel_rfl
theorem AaH (n:Nat):Au Tryz.prog 57 (Zhw n):=AS (As Tryz.func57 rfl rfl (by decide) rfl Aa Ab (Ac Aa Ab (TN n) Ah) (Ad (fn:=Tryz.f57) (L:=ZiS n) (ks:=[.loop 4]) ⟨AaG n,trivial⟩ (by kernel_rfl) (by kernel_rfl)) (AgV n))
def IE:List (Nat×C):=[(0,.l 3),(1,.l 3),(5,.s 3)]
def Qr:List Wo:=[⟨.exit 0,[],[],[]⟩,⟨.ret,[],[(4,.s 4)],[]⟩]
def RQ:List (Nat×C):=[(0,.l 3),(1,.l 3)]
def X8:List Wo:=[⟨.ret,[],[],[.s 4]⟩]
def Jf:Nat→(List Int)→(List Int)→Int→Option (Unit ⊕ ((Bool×Unit)))
 | 0,_,_,_=>none
 | n+1,a,b,i =>
  bif decide (i<(↑a.length:Int)) then((A6 a i).bind fun v0 =>
  (A6 b i).bind fun v1 =>
  bif v0 != v1 then(some (.inr (false,()))) else
  Jf n a b (IntKind.i64.wrap (i+1))) else
  some (.inl ())
def LQ (n:Nat) (y:C.Ds Ty (Af IE)):Option (YT Ty Qr):=Jf n y.1 y.2.1 y.2.2.1
def Zhx (n:Nat):St Ty→Tr (Lf Ty):=AZ IE 0 Qr (LQ n)
def D8 (n:Nat) (a:List Int) (b:List Int):Option ((Bool×Unit)) :=
 bif (↑a.length:Int) != (↑b.length:Int) then(some (false,())) else
 (Jf n a b 0).bind fun v0 =>
 Sum.elim (fun v1=>some (true,())) (fun v1=>some (v1.fst,())) (v0)
def AfM (n:Nat) (y:C.Ds Ty (Af RQ)):Option (YT Ty X8):=D8 n y.1 y.2.1
def Zc7 (n:Nat):A9 Ty:=CG (AA RQ 0 X8 (AfM n))
def ZiC (n:Nat):List (Nat×A9 Ty):=[]
theorem ZL (n:Nat):Ap Tryz.prog (ZiC n):=trivial
def ZiT (n:Nat):Az Ty:=[]
theorem AgW (n:Nat) (x:C.Ds Ty (Af IE)):(Ax Tryz.prog 26 (Am Tryz.prog (ZiC n) []) (Ae (ZiT n)) (Al 4 Tryz.f32) (Aw IE x)).runK (A3 0 IE Qr (LQ n))=LQ (n+1) x:=by kernel_rfl
theorem AgX (n:Nat):A5 true Tryz.prog 26 (Zhx n) (.loop (Al 4 Tryz.f32)):=A4 fun x y hy=>At (Fn:=LQ) Aa Ab (fun n=>Ac Aa Ab (ZL n) Ah) (fun h=>by cases h) (fun h=>by cases h) (fun n=>(Ad (fn:=Tryz.f32) (L:=ZiT n) (ks:=[]) trivial (by kernel_rfl) (by kernel_rfl))) (by decide) (fun _=>rfl) AgW hy
def Zk9 (n:Nat):Az Ty:=[(.loop 4,Zhx n)]
theorem AnP (n:Nat) (x:C.Ds Ty (Af RQ)):(Ax Tryz.prog 26 (Am Tryz.prog (ZiC n) []) (Ae (Zk9 n)) (Ao Tryz.f32) (Aw RQ x)).runK (Aq Tryz.prog Tryz.f32.results.toList 0 X8)=AfM n x:=by kernel_rfl
theorem Ke (n:Nat):Au Tryz.prog 32 (Zc7 n):=AS (As Tryz.func32 rfl rfl (by decide) rfl Aa Ab (Ac Aa Ab (ZL n) Ah) (Ad (fn:=Tryz.f32) (L:=Zk9 n) (ks:=[.loop 4]) ⟨AgX n,trivial⟩ (by kernel_rfl) (by kernel_rfl)) (AnP n))
def Hf:List (Nat×C):=[(2,.u 32),(3,.u 32),(5,.s 3)]
def Oi:List Wo:=[⟨.exit 0,[.u 32,.u 32],[(2,.q 0),(3,.q 1)],[]⟩,⟨.ret,[.u 32,.u 32],[(4,.s 4)],[]⟩]
def Hg:List (Nat×C):=[(2,.u 32),(3,.u 32),(6,.s 3)]
def Oj:List Wo:=[⟨.exit 2,[.u 32,.u 32],[],[]⟩,⟨.ret,[.u 32,.u 32],[(4,.s 4)],[]⟩]
def OZ:List (Nat×C):=[(0,.g 32),(1,.g 32)]
def Vi:List Wo:=[⟨.ret,[],[],[.s 4]⟩]
def Fw:Nat→Ar→Ar→Int→Option ((Ar×Ar×Unit×Unit×Unit) ⊕ ((Ar×Ar×Bool×Unit)))
 | 0,_,_,_=>none
 | n+1,a,b,i =>
  bif decide (i<(↑a.duties.length:Int)) then((A6 a.duties i).bind fun v0 =>
  (A6 b.duties i).bind fun v1 =>
  bif !(decide (v0.day=v1.day) && (decide (v0.on=v1.on) && (decide (v0.off.lo=v1.off.lo) && (decide (v0.off.hi=v1.off.hi) && true) && (decide (v0.route=v1.route) && true)))) then(some (.inr (a,(b,(false,()))))) else
  Fw n a b (IntKind.i64.wrap (i+1))) else
  some (.inl (a,(b,((),((),())))))
def Kf (n:Nat) (y:C.Ds Ty (Af Hf)):Option (YT Ty Oi):=Fw n y.1 y.2.1 y.2.2.1
def ZgA (n:Nat):St Ty→Tr (Lf Ty):=AZ Hf 2 Oi (Kf n)
def Fx:Nat→Ar→Ar→Int→Option ((Ar×Ar×Unit) ⊕ ((Ar×Ar×Bool×Unit)))
 | 0,_,_,_=>none
 | n+1,a,b,i =>
  bif decide (i<(↑a.drivers.length:Int)) then((A6 a.drivers i).bind fun v0 =>
  (A6 b.drivers i).bind fun v1 =>
  bif !v0.off != v1.off then(bif !v0.row != v1.row then(bif !v0.used != v1.used then((D8 n v0.knows v1.knows).bind fun v2 =>
  bif !!v2.fst then((D8 n v0.leave v1.leave).bind fun v3 =>
  bif !!v3.fst then((D8 n v0.wish v1.wish).bind fun v4 =>
  bif !v4.fst then(some (.inr (a,(b,(false,()))))) else
  Fx n a b (IntKind.i64.wrap (i+1))) else
  some (.inr (a,(b,(false,()))))) else
  some (.inr (a,(b,(false,()))))) else
  some (.inr (a,(b,(false,()))))) else
  some (.inr (a,(b,(false,()))))) else
  some (.inr (a,(b,(false,()))))) else
  some (.inl (a,(b,())))
def Kg (n:Nat) (y:C.Ds Ty (Af Hg)):Option (YT Ty Oj):=Fx n y.1 y.2.1 y.2.2.1
def ZgB (n:Nat):St Ty→Tr (Lf Ty):=AZ Hg 2 Oj (Kg n)
def Vj (n:Nat) (a:Ar) (b:Ar):Option ((Bool×Unit)) :=
 bif !a.days != b.days then(bif !a.rest != b.rest then(bif !a.run != b.run then(bif !a.hours != b.hours then(bif !(↑a.duties.length:Int) != (↑b.duties.length:Int) then(bif (↑a.drivers.length:Int) != (↑b.drivers.length:Int) then(some (false,())) else
 (Fw n a b 0).bind fun v0 =>
 Sum.elim (fun v1=>(Fx n v1.fst v1.snd.fst 0).bind fun v2 =>
 Sum.elim (fun v3=>some (true,())) (fun v3=>some (v3.snd.snd.fst,())) (v2)) (fun v1=>some (v1.snd.snd.fst,())) (v0)) else
 some (false,())) else
 some (false,())) else
 some (false,())) else
 some (false,())) else
 some (false,())
def Ac8 (n:Nat) (y:C.Ds Ty (Af OZ)):Option (YT Ty Vi):=Vj n y.1 y.2.1
def ZiU (n:Nat):A9 Ty:=AA OZ 0 Vi (Ac8 n)
def ZeM (n:Nat):List (Nat×A9 Ty):=[(32,Zc7 n)]
theorem Qs (n:Nat):Ap Tryz.prog (ZeM n):=⟨Ke n,trivial⟩
def Zib (n:Nat):Az Ty:=[]
theorem Aeo (n:Nat) (x:C.Ds Ty (Af Hf)):(Ax Tryz.prog 131 (Am Tryz.prog (ZeM n) []) (Ae (Zib n)) (Al 4 Tryz.f58) (Aw Hf x)).runK (A3 2 Hf Oi (Kf n))=Kf (n+1) x:=by kernel_rfl
theorem Aep (n:Nat):A5 true Tryz.prog 131 (ZgA n) (.loop (Al 4 Tryz.f58)):=A4 fun x y hy=>At (Fn:=Kf) Aa Ab (fun n=>Ac Aa Ab (Qs n) Ah) (fun h=>by cases h) (fun h=>by cases h) (fun n=>(Ad (fn:=Tryz.f58) (L:=Zib n) (ks:=[]) trivial (by kernel_rfl) (by kernel_rfl))) (by decide) (fun _=>rfl) Aeo hy
def Zic (n:Nat):Az Ty:=[]
theorem Aeq (n:Nat) (x:C.Ds Ty (Af Hg)):(Ax Tryz.prog 131 (Am Tryz.prog (ZeM n) []) (Ae (Zic n)) (Al 9 Tryz.f58) (Aw Hg x)).runK (A3 2 Hg Oj (Kg n))=Kg (n+1) x:=by kernel_rfl
theorem Aer (n:Nat):A5 true Tryz.prog 131 (ZgB n) (.loop (Al 9 Tryz.f58)):=A4 fun x y hy=>At (Fn:=Kg) Aa Ab (fun n=>Ac Aa Ab (Qs n) Ah) (fun h=>by cases h) (fun h=>by cases h) (fun n=>(Ad (fn:=Tryz.f58) (L:=Zic n) (ks:=[]) trivial (by kernel_rfl) (by kernel_rfl))) (by decide) (fun _=>rfl) Aeq hy
def Zke (n:Nat):Az Ty:=[(.loop 4,ZgA n),(.loop 9,ZgB n)]
theorem Alf (n:Nat) (x:C.Ds Ty (Af OZ)):(Ax Tryz.prog 131 (Am Tryz.prog (ZeM n) []) (Ae (Zke n)) (Ao Tryz.f58) (Aw OZ x)).runK (Aq Tryz.prog Tryz.f58.results.toList 0 Vi)=Ac8 n x:=by kernel_rfl
theorem Aes (n:Nat):Au Tryz.prog 58 (ZiU n):=As Tryz.func58 rfl rfl (by decide) rfl Aa Ab (Ac Aa Ab (Qs n) Ah) (Ad (fn:=Tryz.f58) (L:=Zke n) (ks:=[.loop 4,.loop 9]) ⟨Aep n,⟨Aer n,trivial⟩⟩ (by kernel_rfl) (by kernel_rfl)) (Alf n)
def JT:List (Nat×C):=[(0,.l 9),(3,.s 3),(4,.s 3)]
def S7:List Wo:=[⟨.exit 0,[],[(0,.l 9),(3,.s 3)],[]⟩]
def Vk:List (Nat×C):=[(0,.l 9)]
def AaI:List Wo:=[⟨.ret,[],[],[.s 4]⟩]
def IF:Nat→(List ByteArray)→Int→Int→Option ((List ByteArray×Int×Unit))
 | 0,_,_,_=>none
 | n+1,lines,n_,i =>
  bif decide (i<(↑lines.length:Int)) then((A6 lines i).bind fun v0 =>
  IF n lines (IntKind.i64.wrap (n_+(↑v0.size:Int))) (IntKind.i64.wrap (i+1))) else
  some (lines,(n_,()))
def N8 (n:Nat) (y:C.Ds Ty (Af JT)):Option (YT Ty S7):=IF n y.1 y.2.1 y.2.2.1
def Zid (n:Nat):St Ty→Tr (Lf Ty):=AZ JT 0 S7 (N8 n)
def Qt (n:Nat) (lines:List ByteArray):Option ((Bool×Unit)) :=
 (IF n lines 0 0).bind fun v0 =>
 bif decide ((↑v0.fst.length:Int)≤30) then(bif !decide (v0.snd.fst≤1200) then(bif decide ((↑v0.fst.length:Int)≤52) then(bif !decide (v0.snd.fst≤400) then(bif decide ((↑v0.fst.length:Int)=1) then(some (decide (v0.snd.fst≤210),())) else
 some (false,())) else
 some (true,())) else
 bif decide ((↑v0.fst.length:Int)=1) then(some (decide (v0.snd.fst≤210),())) else
 some (false,())) else
 some (true,())) else
 bif decide ((↑v0.fst.length:Int)≤52) then(bif !decide (v0.snd.fst≤400) then(bif decide ((↑v0.fst.length:Int)=1) then(some (decide (v0.snd.fst≤210),())) else
 some (false,())) else
 some (true,())) else
 bif decide ((↑v0.fst.length:Int)=1) then(some (decide (v0.snd.fst≤210),())) else
 some (false,())
def Akp (n:Nat) (y:C.Ds Ty (Af Vk)):Option (YT Ty AaI):=Qt n y.1
def Zhy (n:Nat):A9 Ty:=CG (AA Vk 0 AaI (Akp n))
def Zj6 (n:Nat):List (Nat×A9 Ty):=[]
theorem Ac9 (n:Nat):Ap Tryz.prog (Zj6 n):=trivial
def ZjB (n:Nat):Az Ty:=[]
theorem Akq (n:Nat) (x:C.Ds Ty (Af JT)):(Ax Tryz.prog 43 (Am Tryz.prog (Zj6 n) []) (Ae (ZjB n)) (Al 3 Tryz.f19) (Aw JT x)).runK (A3 0 JT S7 (N8 n))=N8 (n+1) x:=by kernel_rfl
theorem Akr (n:Nat):A5 true Tryz.prog 43 (Zid n) (.loop (Al 3 Tryz.f19)):=A4 fun x y hy=>At (Fn:=N8) Aa Ab (fun n=>Ac Aa Ab (Ac9 n) Ah) (fun h=>by cases h) (fun h=>by cases h) (fun n=>(Ad (fn:=Tryz.f19) (L:=ZjB n) (ks:=[]) trivial (by kernel_rfl) (by kernel_rfl))) (by decide) (fun _=>rfl) Akq hy
def ZkU (n:Nat):Az Ty:=[(.loop 3,Zid n)]
theorem Aqn (n:Nat) (x:C.Ds Ty (Af Vk)):(Ax Tryz.prog 43 (Am Tryz.prog (Zj6 n) []) (Ae (ZkU n)) (Ao Tryz.f19) (Aw Vk x)).runK (Aq Tryz.prog Tryz.f19.results.toList 0 AaI)=Akp n x:=by kernel_rfl
theorem X9 (n:Nat):Au Tryz.prog 19 (Zhy n):=AS (As Tryz.func19 rfl rfl (by decide) rfl Aa Ab (Ac Aa Ab (Ac9 n) Ah) (Ad (fn:=Tryz.f19) (L:=ZkU n) (ks:=[.loop 3]) ⟨Akr n,trivial⟩ (by kernel_rfl) (by kernel_rfl)) (Aqn n))
def RR:List (Nat×C):=[(0,.l 9)]
def XA:List Wo:=[⟨.ret,[],[],[.o 9]⟩]
def P1 (n:Nat) (l:List ByteArray):Option ((List ByteArray×Unit)) :=
 (app [] l).bind fun v0 =>
 some (v0,())
def AfN (n:Nat) (y:C.Ds Ty (Af RR)):Option (YT Ty XA):=P1 n y.1
def Zgs (n:Nat):A9 Ty:=AA RR 0 XA (AfN n)
def ZkA (n:Nat):List (Nat×A9 Ty):=[]
theorem Alg (n:Nat):Ap Tryz.prog (ZkA n):=trivial
def ZkB (n:Nat):Az Ty:=[]
theorem AnQ (n:Nat) (x:C.Ds Ty (Af RR)):(Ax Tryz.prog 6 (Am Tryz.prog (ZkA n) []) (Ae (ZkB n)) (Ao Tryz.f22) (Aw RR x)).runK (Aq Tryz.prog Tryz.f22.results.toList 0 XA)=AfN n x:=by kernel_rfl
theorem VL (n:Nat):Au Tryz.prog 22 (Zgs n):=As Tryz.func22 rfl rfl (by decide) rfl Aa Ab (Ac Aa Ab (Alg n) Ah) (Ad (fn:=Tryz.f22) (L:=ZkB n) (ks:=[]) trivial (by kernel_rfl) (by kernel_rfl)) (AnQ n)
def N9:List (Nat×C):=[(0,.g 65)]
def S8:List Wo:=[⟨.ret,[],[],[.g 180]⟩]
def XB (n:Nat) (c:A0):Option ((A0×Unit)) :=
 some (c,())
def ZM (n:Nat) (y:C.Ds Ty (Af N9)):Option (YT Ty S8):=XB n y.1
def Zie (n:Nat):A9 Ty:=AA N9 0 S8 (ZM n)
def ZjC (n:Nat):List (Nat×A9 Ty):=[]
theorem AgY (n:Nat):Ap Tryz.prog (ZjC n):=trivial
def ZjD (n:Nat):Az Ty:=[]
theorem Aks (n:Nat) (x:C.Ds Ty (Af N9)):(Ax Tryz.prog 16 (Am Tryz.prog (ZjC n) []) (Ae (ZjD n)) (Ao Tryz.f102) (Aw N9 x)).runK (Aq Tryz.prog Tryz.f102.results.toList 0 S8)=ZM n x:=by kernel_rfl
theorem AcA (n:Nat):Au Tryz.prog 102 (Zie n):=As Tryz.func102 rfl rfl (by decide) rfl Aa Ab (Ac Aa Ab (AgY n) Ah) (Ad (fn:=Tryz.f102) (L:=ZjD n) (ks:=[]) trivial (by kernel_rfl) (by kernel_rfl)) (Aks n)
def EM:List (Nat×C):=[(0,.l 65),(3,.o 180),(4,.s 3)]
def LR:List Wo:=[⟨.exit 0,[],[(3,.o 180)],[]⟩]
def LS:List (Nat×C):=[(0,.l 65)]
def Qu:List Wo:=[⟨.ret,[],[],[.l 180]⟩]
def CU:Nat→(List A0)→(List A0)→Int→Option ((List A0×Unit))
 | 0,_,_,_=>none
 | n+1,l,out,i =>
  bif decide (i<(↑l.length:Int)) then((A6 l i).bind fun v0 =>
  (XB n v0).bind fun v1 =>
  (app out [v1.fst]).bind fun v2 =>
  CU n l v2 (IntKind.i64.wrap (i+1))) else
  some (out,())
def HW (n:Nat) (y:C.Ds Ty (Af EM)):Option (YT Ty LR):=CU n y.1 y.2.1 y.2.2.1
def Zfp (n:Nat):St Ty→Tr (Lf Ty):=AZ EM 0 LR (HW n)
def Pa (n:Nat) (l:List A0):Option ((List A0×Unit)) :=
 (CU n l [] 0).bind fun v0 =>
 some (v0.fst,())
def XC (n:Nat) (y:C.Ds Ty (Af LS)):Option (YT Ty Qu):=Pa n y.1
def Zhz (n:Nat):A9 Ty:=AA LS 0 Qu (XC n)
def ZfB (n:Nat):List (Nat×A9 Ty):=[(102,Zie n)]
theorem TO (n:Nat):Ap Tryz.prog (ZfB n):=⟨AcA n,trivial⟩
def ZgC (n:Nat):Az Ty:=[]
theorem AaJ (n:Nat) (x:C.Ds Ty (Af EM)):(Ax Tryz.prog 20 (Am Tryz.prog (ZfB n) []) (Ae (ZgC n)) (Al 3 Tryz.f60) (Aw EM x)).runK (A3 0 EM LR (HW n))=HW (n+1) x:=by kernel_rfl
theorem AaK (n:Nat):A5 true Tryz.prog 20 (Zfp n) (.loop (Al 3 Tryz.f60)):=A4 fun x y hy=>At (Fn:=HW) Aa Ab (fun n=>Ac Aa Ab (TO n) Ah) (fun h=>by cases h) (fun h=>by cases h) (fun n=>(Ad (fn:=Tryz.f60) (L:=ZgC n) (ks:=[]) trivial (by kernel_rfl) (by kernel_rfl))) (by decide) (fun _=>rfl) AaJ hy
def ZiV (n:Nat):Az Ty:=[(.loop 3,Zfp n)]
theorem AgZ (n:Nat) (x:C.Ds Ty (Af LS)):(Ax Tryz.prog 20 (Am Tryz.prog (ZfB n) []) (Ae (ZiV n)) (Ao Tryz.f60) (Aw LS x)).runK (Aq Tryz.prog Tryz.f60.results.toList 0 Qu)=XC n x:=by kernel_rfl
theorem AaL (n:Nat):Au Tryz.prog 60 (Zhz n):=As Tryz.func60 rfl rfl (by decide) rfl Aa Ab (Ac Aa Ab (TO n) Ah) (Ad (fn:=Tryz.f60) (L:=ZiV n) (ks:=[.loop 3]) ⟨AaK n,trivial⟩ (by kernel_rfl) (by kernel_rfl)) (AgZ n)
def Kh:List (Nat×C):=[(0,.g 90)]
def Ol:List Wo:=[⟨.ret,[],[],[.g 93]⟩]
def S9 (n:Nat) (r:Ag):Option ((Ag×Unit)) :=
 some (r,())
def VM (n:Nat) (y:C.Ds Ty (Af Kh)):Option (YT Ty Ol):=S9 n y.1
def ZgD (n:Nat):A9 Ty:=AA Kh 0 Ol (VM n)
def Zif (n:Nat):List (Nat×A9 Ty):=[]
theorem AcB (n:Nat):Ap Tryz.prog (Zif n):=trivial
def Zig (n:Nat):Az Ty:=[]
theorem Aet (n:Nat) (x:C.Ds Ty (Af Kh)):(Ax Tryz.prog 16 (Am Tryz.prog (Zif n) []) (Ae (Zig n)) (Ao Tryz.f103) (Aw Kh x)).runK (Aq Tryz.prog Tryz.f103.results.toList 0 Ol)=VM n x:=by kernel_rfl
theorem Zg (n:Nat):Au Tryz.prog 103 (ZgD n):=As Tryz.func103 rfl rfl (by decide) rfl Aa Ab (Ac Aa Ab (AcB n) Ah) (Ad (fn:=Tryz.f103) (L:=Zig n) (ks:=[]) trivial (by kernel_rfl) (by kernel_rfl)) (Aet n)
def Dh:List (Nat×C):=[(0,.l 90),(3,.o 93),(4,.s 3)]
def JE:List Wo:=[⟨.exit 0,[],[(3,.o 93)],[]⟩]
def Jg:List (Nat×C):=[(0,.l 90)]
def Nt:List Wo:=[⟨.ret,[],[],[.l 93]⟩]
def Cb:Nat→(List Ag)→(List Ag)→Int→Option ((List Ag×Unit))
 | 0,_,_,_=>none
 | n+1,l,out,i =>
  bif decide (i<(↑l.length:Int)) then((A6 l i).bind fun v0 =>
  (S9 n v0).bind fun v1 =>
  (app out [v1.fst]).bind fun v2 =>
  Cb n l v2 (IntKind.i64.wrap (i+1))) else
  some (out,())
def FU (n:Nat) (y:C.Ds Ty (Af Dh)):Option (YT Ty JE):=Cb n y.1 y.2.1 y.2.2.1
def Zev (n:Nat):St Ty→Tr (Lf Ty):=AZ Dh 0 JE (FU n)
def LU (n:Nat) (l:List Ag):Option ((List Ag×Unit)) :=
 (Cb n l [] 0).bind fun v0 =>
 some (v0.fst,())
def TP (n:Nat) (y:C.Ds Ty (Af Jg)):Option (YT Ty Nt):=LU n y.1
def ZfZ (n:Nat):A9 Ty:=AA Jg 0 Nt (TP n)
def ZdP (n:Nat):List (Nat×A9 Ty):=[(103,ZgD n)]
theorem Qv (n:Nat):Ap Tryz.prog (ZdP n):=⟨Zg n,trivial⟩
def Zfq (n:Nat):Az Ty:=[]
theorem XD (n:Nat) (x:C.Ds Ty (Af Dh)):(Ax Tryz.prog 20 (Am Tryz.prog (ZdP n) []) (Ae (Zfq n)) (Al 3 Tryz.f61) (Aw Dh x)).runK (A3 0 Dh JE (FU n))=FU (n+1) x:=by kernel_rfl
theorem XE (n:Nat):A5 true Tryz.prog 20 (Zev n) (.loop (Al 3 Tryz.f61)):=A4 fun x y hy=>At (Fn:=FU) Aa Ab (fun n=>Ac Aa Ab (Qv n) Ah) (fun h=>by cases h) (fun h=>by cases h) (fun n=>(Ad (fn:=Tryz.f61) (L:=Zfq n) (ks:=[]) trivial (by kernel_rfl) (by kernel_rfl))) (by decide) (fun _=>rfl) XD hy
def Zh0 (n:Nat):Az Ty:=[(.loop 3,Zev n)]
theorem AcC (n:Nat) (x:C.Ds Ty (Af Jg)):(Ax Tryz.prog 20 (Am Tryz.prog (ZdP n) []) (Ae (Zh0 n)) (Ao Tryz.f61) (Aw Jg x)).runK (Aq Tryz.prog Tryz.f61.results.toList 0 Nt)=TP n x:=by kernel_rfl
theorem XF (n:Nat):Au Tryz.prog 61 (ZfZ n):=As Tryz.func61 rfl rfl (by decide) rfl Aa Ab (Ac Aa Ab (Qv n) Ah) (Ad (fn:=Tryz.f61) (L:=Zh0 n) (ks:=[.loop 3]) ⟨XE n,trivial⟩ (by kernel_rfl) (by kernel_rfl)) (AcC n)
def NA:List (Nat×C):=[(0,.l 3)]
def SB:List Wo:=[⟨.ret,[],[],[.l 3]⟩]
def Gw (n:Nat) (l:List Int):Option ((List Int×Unit)) :=
 (app [] l).bind fun v0 =>
 some (v0,())
def ZN (n:Nat) (y:C.Ds Ty (Af NA)):Option (YT Ty SB):=Gw n y.1
def Zih (n:Nat):A9 Ty:=AA NA 0 SB (ZN n)
def ZjE (n:Nat):List (Nat×A9 Ty):=[]
theorem Aha (n:Nat):Ap Tryz.prog (ZjE n):=trivial
def ZjF (n:Nat):Az Ty:=[]
theorem Akt (n:Nat) (x:C.Ds Ty (Af NA)):(Ax Tryz.prog 6 (Am Tryz.prog (ZjE n) []) (Ae (ZjF n)) (Ao Tryz.f104) (Aw NA x)).runK (Aq Tryz.prog Tryz.f104.results.toList 0 SB)=ZN n x:=by kernel_rfl
theorem AcD (n:Nat):Au Tryz.prog 104 (Zih n):=As Tryz.func104 rfl rfl (by decide) rfl Aa Ab (Ac Aa Ab (Aha n) Ah) (Ad (fn:=Tryz.f104) (L:=ZjF n) (ks:=[]) trivial (by kernel_rfl) (by kernel_rfl)) (Akt n)
def Gj:List (Nat×C):=[(1,.u 49),(2,.u 32),(3,.p [.s 3,.o 184,.o 186,.s 3,.s 3,.s 3]),(4,.s 3)]
def Nu:List Wo:=[⟨.exit 0,[.u 49,.u 32,.p [.s 3,.o 184,.o 186,.s 3,.s 3,.s 3]],[(1,.q 0),(2,.q 1),(3,.q 2)],[]⟩]
def Gk:List (Nat×C):=[(1,.u 49),(2,.u 32),(3,.p [.s 3,.o 184,.o 186,.s 3,.s 3,.s 3]),(6,.s 3)]
def Nv:List Wo:=[⟨.exit 2,[.u 49,.u 32,.p [.s 3,.o 184,.o 186,.s 3,.s 3,.s 3]],[(2,.q 1),(3,.q 2)],[]⟩]
def NB:List (Nat×C):=[(0,.g 49)]
def SD:List Wo:=[⟨.ret,[],[],[.g 32]⟩]
def DP:Nat→Ar→Ar→Int→(List AP)→(List AJ)→Int→Int→Int→Int→Option ((Ar×Ar×(Int×List AP×List AJ×Int×Int×Int×Unit)×Unit×Unit×Unit×Unit))
 | 0,_,_,_,_,_,_,_,_,_=>none
 | n+1,w,x2,out1,out2,out3,out4,out5,out6,i =>
  bif decide (i<(↑w.duties.length:Int)) then((A6 w.duties i).bind fun v0 =>
  (app out2 [v0]).bind fun v1 =>
  DP n w x2 out1 v1 out3 out4 out5 out6 (IntKind.i64.wrap (i+1))) else
  some (w,(x2,((out1,(out2,(out3,(out4,(out5,(out6,())))))),((),((),((),()))))))
def Jh (n:Nat) (y:C.Ds Ty (Af Gj)):Option (YT Ty Nu):=DP n y.1 y.2.1 y.2.2.1.1 y.2.2.1.2.1 y.2.2.1.2.2.1 y.2.2.1.2.2.2.1 y.2.2.1.2.2.2.2.1 y.2.2.1.2.2.2.2.2.1 y.2.2.2.1
def Zga (n:Nat):St Ty→Tr (Lf Ty):=AZ Gj 3 Nu (Jh n)
def DQ:Nat→Ar→Ar→Int→(List AP)→(List AJ)→Int→Int→Int→Int→Option ((Ar×Ar×(Int×List AP×List AJ×Int×Int×Int×Unit)×Unit×Unit×Unit))
 | 0,_,_,_,_,_,_,_,_,_=>none
 | n+1,w,x2,out1,out2,out3,out4,out5,out6,k =>
  bif decide (k<(↑w.drivers.length:Int)) then((A6 w.drivers k).bind fun v0 =>
  (Gw n v0.knows).bind fun v1 =>
  (Gw n v0.leave).bind fun v2 =>
  (Gw n v0.wish).bind fun v3 =>
  (app out3 [AJ.mk v1.fst v2.fst v3.fst v0.off v0.row v0.used]).bind fun v4 =>
  DQ n w x2 out1 out2 v4 out4 out5 out6 (IntKind.i64.wrap (k+1))) else
  some (w,(x2,((out1,(out2,(out3,(out4,(out5,(out6,())))))),((),((),())))))
def Ji (n:Nat) (y:C.Ds Ty (Af Gk)):Option (YT Ty Nv):=DQ n y.1 y.2.1 y.2.2.1.1 y.2.2.1.2.1 y.2.2.1.2.2.1 y.2.2.1.2.2.2.1 y.2.2.1.2.2.2.2.1 y.2.2.1.2.2.2.2.2.1 y.2.2.2.1
def Zgb (n:Nat):St Ty→Tr (Lf Ty):=AZ Gk 3 Nv (Ji n)
def RT (n:Nat) (w:Ar):Option ((Ar×Unit)) :=
 (DP n w (Ar.mk 0 [] [] 0 0 0) w.days [] [] w.rest w.run w.hours 0).bind fun v0 =>
 (DQ n v0.fst v0.snd.fst v0.snd.snd.fst.fst v0.snd.snd.fst.snd.fst v0.snd.snd.fst.snd.snd.fst v0.snd.snd.fst.snd.snd.snd.fst v0.snd.snd.fst.snd.snd.snd.snd.fst v0.snd.snd.fst.snd.snd.snd.snd.snd.fst 0).bind fun v1 =>
 some (Ar.mk v1.snd.snd.fst.fst v1.snd.snd.fst.snd.fst v1.snd.snd.fst.snd.snd.fst v1.snd.snd.fst.snd.snd.snd.fst v1.snd.snd.fst.snd.snd.snd.snd.fst v1.snd.snd.fst.snd.snd.snd.snd.snd.fst,())
def ZO (n:Nat) (y:C.Ds Ty (Af NB)):Option (YT Ty SD):=RT n y.1
def Zii (n:Nat):A9 Ty:=AA NB 0 SD (ZO n)
def ZdL (n:Nat):List (Nat×A9 Ty):=[(104,Zih n)]
theorem Om (n:Nat):Ap Tryz.prog (ZdL n):=⟨AcD n,trivial⟩
def Zh1 (n:Nat):Az Ty:=[]
theorem AcE (n:Nat) (x:C.Ds Ty (Af Gj)):(Ax Tryz.prog 82 (Am Tryz.prog (ZdL n) []) (Ae (Zh1 n)) (Al 3 Tryz.f62) (Aw Gj x)).runK (A3 3 Gj Nu (Jh n))=Jh (n+1) x:=by kernel_rfl
theorem AcF (n:Nat):A5 true Tryz.prog 82 (Zga n) (.loop (Al 3 Tryz.f62)):=A4 fun x y hy=>At (Fn:=Jh) Aa Ab (fun n=>Ac Aa Ab (Om n) Ah) (fun h=>by cases h) (fun h=>by cases h) (fun n=>(Ad (fn:=Tryz.f62) (L:=Zh1 n) (ks:=[]) trivial (by kernel_rfl) (by kernel_rfl))) (by decide) (fun _=>rfl) AcE hy
def Zh2 (n:Nat):Az Ty:=[]
theorem AcG (n:Nat) (x:C.Ds Ty (Af Gk)):(Ax Tryz.prog 82 (Am Tryz.prog (ZdL n) []) (Ae (Zh2 n)) (Al 8 Tryz.f62) (Aw Gk x)).runK (A3 3 Gk Nv (Ji n))=Ji (n+1) x:=by kernel_rfl
theorem AcH (n:Nat):A5 true Tryz.prog 82 (Zgb n) (.loop (Al 8 Tryz.f62)):=A4 fun x y hy=>At (Fn:=Ji) Aa Ab (fun n=>Ac Aa Ab (Om n) Ah) (fun h=>by cases h) (fun h=>by cases h) (fun n=>(Ad (fn:=Tryz.f62) (L:=Zh2 n) (ks:=[]) trivial (by kernel_rfl) (by kernel_rfl))) (by decide) (fun _=>rfl) AcG hy
def ZjG (n:Nat):Az Ty:=[(.loop 3,Zga n),(.loop 8,Zgb n)]
theorem Aku (n:Nat) (x:C.Ds Ty (Af NB)):(Ax Tryz.prog 82 (Am Tryz.prog (ZdL n) []) (Ae (ZjG n)) (Ao Tryz.f62) (Aw NB x)).runK (Aq Tryz.prog Tryz.f62.results.toList 0 SD)=ZO n x:=by kernel_rfl
theorem AcI (n:Nat):Au Tryz.prog 62 (Zii n):=As Tryz.func62 rfl rfl (by decide) rfl Aa Ab (Ac Aa Ab (Om n) Ah) (Ad (fn:=Tryz.f62) (L:=ZjG n) (ks:=[.loop 3,.loop 8]) ⟨AcF n,⟨AcH n,trivial⟩⟩ (by kernel_rfl) (by kernel_rfl)) (Aku n)
def NC:List (Nat×C):=[(0,.l 3),(1,.s 3),(2,.s 3)]
def SE:List Wo:=[⟨.ret,[],[],[.l 3]⟩]
def XG (n:Nat) (roster:List Int) (duty:Int) (driver:Int):Option ((List Int×Unit)) :=
 (app [] roster).bind fun v0 =>
 (A6 v0 duty).bind fun v1 =>
 (v0.get?Internal duty.toNat).bind fun v2 =>
 some (v0.set duty.toNat driver,())
def ZP (n:Nat) (y:C.Ds Ty (Af NC)):Option (YT Ty SE):=XG n y.1 y.2.1 y.2.2.1
def Zij (n:Nat):A9 Ty:=AA NC 0 SE (ZP n)
def ZjH (n:Nat):List (Nat×A9 Ty):=[]
theorem Ahb (n:Nat):Ap Tryz.prog (ZjH n):=trivial
def ZjI (n:Nat):Az Ty:=[]
theorem Akv (n:Nat) (x:C.Ds Ty (Af NC)):(Ax Tryz.prog 16 (Am Tryz.prog (ZjH n) []) (Ae (ZjI n)) (Ao Tryz.f147) (Aw NC x)).runK (Aq Tryz.prog Tryz.f147.results.toList 0 SE)=ZP n x:=by kernel_rfl
theorem AcJ (n:Nat):Au Tryz.prog 147 (Zij n):=As Tryz.func147 rfl rfl (by decide) rfl Aa Ab (Ac Aa Ab (Ahb n) Ah) (Ad (fn:=Tryz.f147) (L:=ZjI n) (ks:=[]) trivial (by kernel_rfl) (by kernel_rfl)) (Akv n)
def RU:List (Nat×C):=[(0,.s 3),(1,.s 3),(2,.s 3)]
def XH:List Wo:=[⟨.ret,[],[],[.s 4]⟩]
def AX (n:Nat) (n_:Int) (low:Int) (high:Int):Option ((Bool×Unit)) :=
 bif decide (n_≥low) then(some (decide (n_≤high),())) else
 some (false,())
def AfO (n:Nat) (y:C.Ds Ty (Af RU)):Option (YT Ty XH):=AX n y.1 y.2.1 y.2.2.1
def ZdM (n:Nat):A9 Ty:=AA RU 0 XH (AfO n)
def ZkC (n:Nat):List (Nat×A9 Ty):=[]
theorem Alh (n:Nat):Ap Tryz.prog (ZkC n):=trivial
def ZkD (n:Nat):Az Ty:=[]
theorem AnR (n:Nat) (x:C.Ds Ty (Af RU)):(Ax Tryz.prog 15 (Am Tryz.prog (ZkC n) []) (Ae (ZkD n)) (Ao Tryz.f146) (Aw RU x)).runK (Aq Tryz.prog Tryz.f146.results.toList 0 XH)=AfO n x:=by kernel_rfl
theorem On (n:Nat):Au Tryz.prog 146 (ZdM n):=As Tryz.func146 rfl rfl (by decide) rfl Aa Ab (Ac Aa Ab (Alh n) Ah) (Ad (fn:=Tryz.f146) (L:=ZkD n) (ks:=[]) trivial (by kernel_rfl) (by kernel_rfl)) (AnR n)
def EN:List (Nat×C):=[(0,.l 3),(1,.s 3),(2,.s 3),(7,.s 3)]
def LV:List Wo:=[⟨.exit 0,[],[],[]⟩,⟨.ret,[],[(6,.s 4)],[]⟩]
def LW:List (Nat×C):=[(0,.l 3),(1,.s 3),(2,.s 3)]
def Qw:List Wo:=[⟨.ret,[],[],[.s 4]⟩]
def Hh:Nat→(List Int)→Int→Int→Int→Option (Unit ⊕ ((Bool×Unit)))
 | 0,_,_,_,_=>none
 | n+1,l,low,high,i =>
  bif decide (i<(↑l.length:Int)) then((A6 l i).bind fun v0 =>
  (AX n v0 low high).bind fun v1 =>
  bif !!v1.fst then(bif decide (i>0) then((A6 l i).bind fun v2 =>
  (A6 l (IntKind.i64.wrap (i-1))).bind fun v3 =>
  bif decide (v2≤v3) then(some (.inr (false,()))) else
  Hh n l low high (IntKind.i64.wrap (i+1))) else
  Hh n l low high (IntKind.i64.wrap (i+1))) else
  some (.inr (false,()))) else
  some (.inl ())
def HX (n:Nat) (y:C.Ds Ty (Af EN)):Option (YT Ty LV):=Hh n y.1 y.2.1 y.2.2.1 y.2.2.2.1
def Zfr (n:Nat):St Ty→Tr (Lf Ty):=AZ EN 0 LV (HX n)
def C6 (n:Nat) (l:List Int) (low:Int) (high:Int):Option ((Bool×Unit)) :=
 (Hh n l low high 0).bind fun v0 =>
 Sum.elim (fun v1=>some (true,())) (fun v1=>some (v1.fst,())) (v0)
def XI (n:Nat) (y:C.Ds Ty (Af LW)):Option (YT Ty Qw):=C6 n y.1 y.2.1 y.2.2.1
def Zh3 (n:Nat):A9 Ty:=CG (AA LW 0 Qw (XI n))
def ZfC (n:Nat):List (Nat×A9 Ty):=[(146,ZdM n)]
theorem TQ (n:Nat):Ap Tryz.prog (ZfC n):=⟨On n,trivial⟩
def ZgE (n:Nat):Az Ty:=[]
theorem AaM (n:Nat) (x:C.Ds Ty (Af EN)):(Ax Tryz.prog 38 (Am Tryz.prog (ZfC n) []) (Ae (ZgE n)) (Al 2 Tryz.f206) (Aw EN x)).runK (A3 0 EN LV (HX n))=HX (n+1) x:=by kernel_rfl
theorem AaN (n:Nat):A5 true Tryz.prog 38 (Zfr n) (.loop (Al 2 Tryz.f206)):=A4 fun x y hy=>At (Fn:=HX) Aa Ab (fun n=>Ac Aa Ab (TQ n) Ah) (fun h=>by cases h) (fun h=>by cases h) (fun n=>(Ad (fn:=Tryz.f206) (L:=ZgE n) (ks:=[]) trivial (by kernel_rfl) (by kernel_rfl))) (by decide) (fun _=>rfl) AaM hy
def ZiW (n:Nat):Az Ty:=[(.loop 2,Zfr n)]
theorem Ahc (n:Nat) (x:C.Ds Ty (Af LW)):(Ax Tryz.prog 38 (Am Tryz.prog (ZfC n) []) (Ae (ZiW n)) (Ao Tryz.f206) (Aw LW x)).runK (Aq Tryz.prog Tryz.f206.results.toList 0 Qw)=XI n x:=by kernel_rfl
theorem AaO (n:Nat):Au Tryz.prog 206 (Zh3 n):=AS (As Tryz.func206 rfl rfl (by decide) rfl Aa Ab (Ac Aa Ab (TQ n) Ah) (Ad (fn:=Tryz.f206) (L:=ZiW n) (ks:=[.loop 2]) ⟨AaN n,trivial⟩ (by kernel_rfl) (by kernel_rfl)) (Ahc n))
def RV:List (Nat×C):=[(0,.s 9)]
def XJ:List Wo:=[⟨.ret,[],[],[.s 3]⟩]
def YC (n:Nat) (word:ByteArray):Option ((Int×Unit)) :=
 bif word.beq (B [111,117,116]) then(bif word.beq (B [111,117,116]) then(some (2,())) else
 bif word.beq (B [99,104,101,99,107,101,100]) then(bif word.beq (B [99,104,101,99,107,101,100]) then(some (3,())) else
 bif word.beq (B [102,111,117,110,100]) then(bif word.beq (B [102,111,117,110,100]) then(some (4,())) else
 bif word.beq (B [115,97,108,101]) then(bif word.beq (B [115,97,108,101]) then(some (5,())) else
 some (0,())) else
 bif word.beq (B [99,108,111,115,101]) then(bif word.beq (B [99,108,111,115,101]) then(some (5,())) else
 some (0,())) else
 bif word.beq (B [100,117,116,121]) then(some (5,())) else
 some (0,())) else
 bif word.beq (B [104,101,108,100]) then(bif word.beq (B [104,101,108,100]) then(some (4,())) else
 bif word.beq (B [115,97,108,101]) then(bif word.beq (B [115,97,108,101]) then(some (5,())) else
 some (0,())) else
 bif word.beq (B [99,108,111,115,101]) then(bif word.beq (B [99,108,111,115,101]) then(some (5,())) else
 some (0,())) else
 bif word.beq (B [100,117,116,121]) then(some (5,())) else
 some (0,())) else
 bif word.beq (B [115,105,103,110,101,100]) then(bif word.beq (B [115,105,103,110,101,100]) then(some (4,())) else
 bif word.beq (B [115,97,108,101]) then(bif word.beq (B [115,97,108,101]) then(some (5,())) else
 some (0,())) else
 bif word.beq (B [99,108,111,115,101]) then(bif word.beq (B [99,108,111,115,101]) then(some (5,())) else
 some (0,())) else
 bif word.beq (B [100,117,116,121]) then(some (5,())) else
 some (0,())) else
 bif word.beq (B [115,121,110,99]) then(some (4,())) else
 bif word.beq (B [115,97,108,101]) then(bif word.beq (B [115,97,108,101]) then(some (5,())) else
 some (0,())) else
 bif word.beq (B [99,108,111,115,101]) then(bif word.beq (B [99,108,111,115,101]) then(some (5,())) else
 some (0,())) else
 bif word.beq (B [100,117,116,121]) then(some (5,())) else
 some (0,())) else
 bif word.beq (B [105,110]) then(some (3,())) else
 bif word.beq (B [102,111,117,110,100]) then(bif word.beq (B [102,111,117,110,100]) then(some (4,())) else
 bif word.beq (B [115,97,108,101]) then(bif word.beq (B [115,97,108,101]) then(some (5,())) else
 some (0,())) else
 bif word.beq (B [99,108,111,115,101]) then(bif word.beq (B [99,108,111,115,101]) then(some (5,())) else
 some (0,())) else
 bif word.beq (B [100,117,116,121]) then(some (5,())) else
 some (0,())) else
 bif word.beq (B [104,101,108,100]) then(bif word.beq (B [104,101,108,100]) then(some (4,())) else
 bif word.beq (B [115,97,108,101]) then(bif word.beq (B [115,97,108,101]) then(some (5,())) else
 some (0,())) else
 bif word.beq (B [99,108,111,115,101]) then(bif word.beq (B [99,108,111,115,101]) then(some (5,())) else
 some (0,())) else
 bif word.beq (B [100,117,116,121]) then(some (5,())) else
 some (0,())) else
 bif word.beq (B [115,105,103,110,101,100]) then(bif word.beq (B [115,105,103,110,101,100]) then(some (4,())) else
 bif word.beq (B [115,97,108,101]) then(bif word.beq (B [115,97,108,101]) then(some (5,())) else
 some (0,())) else
 bif word.beq (B [99,108,111,115,101]) then(bif word.beq (B [99,108,111,115,101]) then(some (5,())) else
 some (0,())) else
 bif word.beq (B [100,117,116,121]) then(some (5,())) else
 some (0,())) else
 bif word.beq (B [115,121,110,99]) then(some (4,())) else
 bif word.beq (B [115,97,108,101]) then(bif word.beq (B [115,97,108,101]) then(some (5,())) else
 some (0,())) else
 bif word.beq (B [99,108,111,115,101]) then(bif word.beq (B [99,108,111,115,101]) then(some (5,())) else
 some (0,())) else
 bif word.beq (B [100,117,116,121]) then(some (5,())) else
 some (0,())) else
 bif word.beq (B [100,114,105,118,101,114]) then(bif word.beq (B [100,114,105,118,101,114]) then(some (2,())) else
 bif word.beq (B [99,104,101,99,107,101,100]) then(bif word.beq (B [99,104,101,99,107,101,100]) then(some (3,())) else
 bif word.beq (B [102,111,117,110,100]) then(bif word.beq (B [102,111,117,110,100]) then(some (4,())) else
 bif word.beq (B [115,97,108,101]) then(bif word.beq (B [115,97,108,101]) then(some (5,())) else
 some (0,())) else
 bif word.beq (B [99,108,111,115,101]) then(bif word.beq (B [99,108,111,115,101]) then(some (5,())) else
 some (0,())) else
 bif word.beq (B [100,117,116,121]) then(some (5,())) else
 some (0,())) else
 bif word.beq (B [104,101,108,100]) then(bif word.beq (B [104,101,108,100]) then(some (4,())) else
 bif word.beq (B [115,97,108,101]) then(bif word.beq (B [115,97,108,101]) then(some (5,())) else
 some (0,())) else
 bif word.beq (B [99,108,111,115,101]) then(bif word.beq (B [99,108,111,115,101]) then(some (5,())) else
 some (0,())) else
 bif word.beq (B [100,117,116,121]) then(some (5,())) else
 some (0,())) else
 bif word.beq (B [115,105,103,110,101,100]) then(bif word.beq (B [115,105,103,110,101,100]) then(some (4,())) else
 bif word.beq (B [115,97,108,101]) then(bif word.beq (B [115,97,108,101]) then(some (5,())) else
 some (0,())) else
 bif word.beq (B [99,108,111,115,101]) then(bif word.beq (B [99,108,111,115,101]) then(some (5,())) else
 some (0,())) else
 bif word.beq (B [100,117,116,121]) then(some (5,())) else
 some (0,())) else
 bif word.beq (B [115,121,110,99]) then(some (4,())) else
 bif word.beq (B [115,97,108,101]) then(bif word.beq (B [115,97,108,101]) then(some (5,())) else
 some (0,())) else
 bif word.beq (B [99,108,111,115,101]) then(bif word.beq (B [99,108,111,115,101]) then(some (5,())) else
 some (0,())) else
 bif word.beq (B [100,117,116,121]) then(some (5,())) else
 some (0,())) else
 bif word.beq (B [105,110]) then(some (3,())) else
 bif word.beq (B [102,111,117,110,100]) then(bif word.beq (B [102,111,117,110,100]) then(some (4,())) else
 bif word.beq (B [115,97,108,101]) then(bif word.beq (B [115,97,108,101]) then(some (5,())) else
 some (0,())) else
 bif word.beq (B [99,108,111,115,101]) then(bif word.beq (B [99,108,111,115,101]) then(some (5,())) else
 some (0,())) else
 bif word.beq (B [100,117,116,121]) then(some (5,())) else
 some (0,())) else
 bif word.beq (B [104,101,108,100]) then(bif word.beq (B [104,101,108,100]) then(some (4,())) else
 bif word.beq (B [115,97,108,101]) then(bif word.beq (B [115,97,108,101]) then(some (5,())) else
 some (0,())) else
 bif word.beq (B [99,108,111,115,101]) then(bif word.beq (B [99,108,111,115,101]) then(some (5,())) else
 some (0,())) else
 bif word.beq (B [100,117,116,121]) then(some (5,())) else
 some (0,())) else
 bif word.beq (B [115,105,103,110,101,100]) then(bif word.beq (B [115,105,103,110,101,100]) then(some (4,())) else
 bif word.beq (B [115,97,108,101]) then(bif word.beq (B [115,97,108,101]) then(some (5,())) else
 some (0,())) else
 bif word.beq (B [99,108,111,115,101]) then(bif word.beq (B [99,108,111,115,101]) then(some (5,())) else
 some (0,())) else
 bif word.beq (B [100,117,116,121]) then(some (5,())) else
 some (0,())) else
 bif word.beq (B [115,121,110,99]) then(some (4,())) else
 bif word.beq (B [115,97,108,101]) then(bif word.beq (B [115,97,108,101]) then(some (5,())) else
 some (0,())) else
 bif word.beq (B [99,108,111,115,101]) then(bif word.beq (B [99,108,111,115,101]) then(some (5,())) else
 some (0,())) else
 bif word.beq (B [100,117,116,121]) then(some (5,())) else
 some (0,())) else
 bif word.beq (B [103,105,118,101]) then(some (2,())) else
 bif word.beq (B [99,104,101,99,107,101,100]) then(bif word.beq (B [99,104,101,99,107,101,100]) then(some (3,())) else
 bif word.beq (B [102,111,117,110,100]) then(bif word.beq (B [102,111,117,110,100]) then(some (4,())) else
 bif word.beq (B [115,97,108,101]) then(bif word.beq (B [115,97,108,101]) then(some (5,())) else
 some (0,())) else
 bif word.beq (B [99,108,111,115,101]) then(bif word.beq (B [99,108,111,115,101]) then(some (5,())) else
 some (0,())) else
 bif word.beq (B [100,117,116,121]) then(some (5,())) else
 some (0,())) else
 bif word.beq (B [104,101,108,100]) then(bif word.beq (B [104,101,108,100]) then(some (4,())) else
 bif word.beq (B [115,97,108,101]) then(bif word.beq (B [115,97,108,101]) then(some (5,())) else
 some (0,())) else
 bif word.beq (B [99,108,111,115,101]) then(bif word.beq (B [99,108,111,115,101]) then(some (5,())) else
 some (0,())) else
 bif word.beq (B [100,117,116,121]) then(some (5,())) else
 some (0,())) else
 bif word.beq (B [115,105,103,110,101,100]) then(bif word.beq (B [115,105,103,110,101,100]) then(some (4,())) else
 bif word.beq (B [115,97,108,101]) then(bif word.beq (B [115,97,108,101]) then(some (5,())) else
 some (0,())) else
 bif word.beq (B [99,108,111,115,101]) then(bif word.beq (B [99,108,111,115,101]) then(some (5,())) else
 some (0,())) else
 bif word.beq (B [100,117,116,121]) then(some (5,())) else
 some (0,())) else
 bif word.beq (B [115,121,110,99]) then(some (4,())) else
 bif word.beq (B [115,97,108,101]) then(bif word.beq (B [115,97,108,101]) then(some (5,())) else
 some (0,())) else
 bif word.beq (B [99,108,111,115,101]) then(bif word.beq (B [99,108,111,115,101]) then(some (5,())) else
 some (0,())) else
 bif word.beq (B [100,117,116,121]) then(some (5,())) else
 some (0,())) else
 bif word.beq (B [105,110]) then(some (3,())) else
 bif word.beq (B [102,111,117,110,100]) then(bif word.beq (B [102,111,117,110,100]) then(some (4,())) else
 bif word.beq (B [115,97,108,101]) then(bif word.beq (B [115,97,108,101]) then(some (5,())) else
 some (0,())) else
 bif word.beq (B [99,108,111,115,101]) then(bif word.beq (B [99,108,111,115,101]) then(some (5,())) else
 some (0,())) else
 bif word.beq (B [100,117,116,121]) then(some (5,())) else
 some (0,())) else
 bif word.beq (B [104,101,108,100]) then(bif word.beq (B [104,101,108,100]) then(some (4,())) else
 bif word.beq (B [115,97,108,101]) then(bif word.beq (B [115,97,108,101]) then(some (5,())) else
 some (0,())) else
 bif word.beq (B [99,108,111,115,101]) then(bif word.beq (B [99,108,111,115,101]) then(some (5,())) else
 some (0,())) else
 bif word.beq (B [100,117,116,121]) then(some (5,())) else
 some (0,())) else
 bif word.beq (B [115,105,103,110,101,100]) then(bif word.beq (B [115,105,103,110,101,100]) then(some (4,())) else
 bif word.beq (B [115,97,108,101]) then(bif word.beq (B [115,97,108,101]) then(some (5,())) else
 some (0,())) else
 bif word.beq (B [99,108,111,115,101]) then(bif word.beq (B [99,108,111,115,101]) then(some (5,())) else
 some (0,())) else
 bif word.beq (B [100,117,116,121]) then(some (5,())) else
 some (0,())) else
 bif word.beq (B [115,121,110,99]) then(some (4,())) else
 bif word.beq (B [115,97,108,101]) then(bif word.beq (B [115,97,108,101]) then(some (5,())) else
 some (0,())) else
 bif word.beq (B [99,108,111,115,101]) then(bif word.beq (B [99,108,111,115,101]) then(some (5,())) else
 some (0,())) else
 bif word.beq (B [100,117,116,121]) then(some (5,())) else
 some (0,())
def AfP (n:Nat) (y:C.Ds Ty (Af RV)):Option (YT Ty XJ):=YC n y.1
def ZjJ (n:Nat):A9 Ty:=AA RV 0 XJ (AfP n)
def ZkE (n:Nat):List (Nat×A9 Ty):=[]
theorem Ali (n:Nat):Ap Tryz.prog (ZkE n):=trivial
def ZkF (n:Nat):Az Ty:=[]
theorem AnS (n:Nat) (x:C.Ds Ty (Af RV)):(Ax Tryz.prog 20 (Am Tryz.prog (ZkE n) []) (Ae (ZkF n)) (Ao Tryz.f64) (Aw RV x)).runK (Aq Tryz.prog Tryz.f64.results.toList 0 XJ)=AfP n x:=by kernel_rfl
theorem Ahd (n:Nat):Au Tryz.prog 64 (ZjJ n):=As Tryz.func64 rfl rfl (by decide) rfl Aa Ab (Ac Aa Ab (Ali n) Ah) (Ad (fn:=Tryz.f64) (L:=ZkF n) (ks:=[]) trivial (by kernel_rfl) (by kernel_rfl)) (AnS n)
def Hi:List (Nat×C):=[(0,.s 9),(3,.o 9),(4,.s 3),(5,.s 3)]
def Oo:List Wo:=[⟨.exit 0,[],[(3,.o 9)],[]⟩]
def Pb:List (Nat×C):=[(0,.s 9)]
def Vl:List Wo:=[⟨.ret,[],[],[.l 9]⟩]
def D5:Nat→ByteArray→(List ByteArray)→Int→Int→Option ((List ByteArray×Unit))
 | 0,_,_,_,_=>none
 | n+1,s,out,from_,i =>
  bif decide (i≤(↑s.size:Int)) then(bif !decide (i=(↑s.size:Int)) then((VE s i).bind fun v0 =>
  bif decide (v0.n=32) then((Ob s from_ i).bind fun v1 =>
  (app out [v1]).bind fun v2 =>
  D5 n s v2 (IntKind.i64.wrap (i+1)) (IntKind.i64.wrap (i+1))) else
  D5 n s out from_ (IntKind.i64.wrap (i+1))) else
  (Ob s from_ i).bind fun v0 =>
  (app out [v0]).bind fun v1 =>
  D5 n s v1 (IntKind.i64.wrap (i+1)) (IntKind.i64.wrap (i+1))) else
  some (out,())
def Ki (n:Nat) (y:C.Ds Ty (Af Hi)):Option (YT Ty Oo):=D5 n y.1 y.2.1 y.2.2.1 y.2.2.2.1
def ZgF (n:Nat):St Ty→Tr (Lf Ty):=AZ Hi 0 Oo (Ki n)
def Vm (n:Nat) (s:ByteArray):Option ((List ByteArray×Unit)) :=
 (D5 n s [] 0 0).bind fun v0 =>
 some (v0.fst,())
def AcK (n:Nat) (y:C.Ds Ty (Af Pb)):Option (YT Ty Vl):=Vm n y.1
def ZiX (n:Nat):A9 Ty:=AA Pb 0 Vl (AcK n)
def Zh4 (n:Nat):List (Nat×A9 Ty):=[]
theorem XK (n:Nat):Ap Tryz.prog (Zh4 n):=trivial
def Zik (n:Nat):Az Ty:=[]
theorem Aeu (n:Nat) (x:C.Ds Ty (Af Hi)):(Ax Tryz.prog 32 (Am Tryz.prog (Zh4 n) []) (Ae (Zik n)) (Al 4 Tryz.f63) (Aw Hi x)).runK (A3 0 Hi Oo (Ki n))=Ki (n+1) x:=by kernel_rfl
theorem Aev (n:Nat):A5 true Tryz.prog 32 (ZgF n) (.loop (Al 4 Tryz.f63)):=A4 fun x y hy=>At (Fn:=Ki) Aa Ab (fun n=>Ac Aa Ab (XK n) Ah) (fun h=>by cases h) (fun h=>by cases h) (fun n=>(Ad (fn:=Tryz.f63) (L:=Zik n) (ks:=[]) trivial (by kernel_rfl) (by kernel_rfl))) (by decide) (fun _=>rfl) Aeu hy
def Zkf (n:Nat):Az Ty:=[(.loop 4,ZgF n)]
theorem Alj (n:Nat) (x:C.Ds Ty (Af Pb)):(Ax Tryz.prog 32 (Am Tryz.prog (Zh4 n) []) (Ae (Zkf n)) (Ao Tryz.f63) (Aw Pb x)).runK (Aq Tryz.prog Tryz.f63.results.toList 0 Vl)=AcK n x:=by kernel_rfl
theorem Aew (n:Nat):Au Tryz.prog 63 (ZiX n):=As Tryz.func63 rfl rfl (by decide) rfl Aa Ab (Ac Aa Ab (XK n) Ah) (Ad (fn:=Tryz.f63) (L:=Zkf n) (ks:=[.loop 4]) ⟨Aev n,trivial⟩ (by kernel_rfl) (by kernel_rfl)) (Alj n)
def Hj:List (Nat×C):=[(4,.s 4),(5,.s 9),(6,.s 3),(7,.s 3)]
def Oq:List Wo:=[⟨.exit 0,[],[(4,.s 4),(6,.s 3)],[]⟩,⟨.ret,[],[(2,.s 3),(3,.s 4)],[]⟩]
def Pc:List (Nat×C):=[(0,.s 9)]
def Vn:List Wo:=[⟨.ret,[],[],[.s 3,.s 4]⟩]
def Bo:Nat→Bool→ByteArray→Int→Int→Option ((Bool×Int×Unit) ⊕ ((Int×Bool×Unit)))
 | 0,_,_,_,_=>none
 | n+1,minus,d,n_,i =>
  bif decide (i<(↑d.size:Int)) then((VE d i).bind fun v0 =>
  bif !decide (v0.n<48) then((VE d i).bind fun v1 =>
  bif decide (v1.n>57) then(some (.inr (0,(false,())))) else
  (VE d i).bind fun v2 =>
  Bo n minus d (IntKind.i64.wrap (IntKind.i64.wrap (10*n_)+IntKind.i64.wrap (IntKind.u8.wrap (v2.n-48)))) (IntKind.i64.wrap (i+1))) else
  some (.inr (0,(false,())))) else
  some (.inl (minus,(n_,())))
def Kj (n:Nat) (y:C.Ds Ty (Af Hj)):Option (YT Ty Oq):=Bo n y.1 y.2.1 y.2.2.1 y.2.2.2.1
def ZgG (n:Nat):St Ty→Tr (Lf Ty):=AZ Hj 0 Oq (Kj n)
def Vo (n:Nat) (s:ByteArray):Option ((Int×Bool×Unit)) :=
 bif decide ((↑s.size:Int)>0) then((VE s 0).bind fun v0 =>
 bif decide (v0.n=45) then((Ob s 1 (↑s.size:Int)).bind fun v1 =>
 bif !decide ((↑v1.size:Int)=0) then(bif !decide ((↑v1.size:Int)>9) then((VE v1 0).bind fun v2 =>
 bif decide (v2.n=48) then(bif !decide ((↑v1.size:Int)>1) then(bif decide (v0.n=45) then(some (0,(false,()))) else
 (Bo n (decide (v0.n=45)) v1 0 0).bind fun v3 =>
 Sum.elim (fun v4=>bif v4.fst then(some (IntKind.i64.wrap (0-v4.snd.fst),(true,()))) else
 some (v4.snd.fst,(true,()))) (fun v4=>some (v4.fst,(v4.snd.fst,()))) (v3)) else
 some (0,(false,()))) else
 (Bo n (decide (v0.n=45)) v1 0 0).bind fun v3 =>
 Sum.elim (fun v4=>bif v4.fst then(some (IntKind.i64.wrap (0-v4.snd.fst),(true,()))) else
 some (v4.snd.fst,(true,()))) (fun v4=>some (v4.fst,(v4.snd.fst,()))) (v3)) else
 some (0,(false,()))) else
 some (0,(false,()))) else
 bif !decide ((↑s.size:Int)=0) then(bif !decide ((↑s.size:Int)>9) then((VE s 0).bind fun v1 =>
 bif decide (v1.n=48) then(bif !decide ((↑s.size:Int)>1) then(bif decide (v0.n=45) then(some (0,(false,()))) else
 (Bo n (decide (v0.n=45)) s 0 0).bind fun v2 =>
 Sum.elim (fun v3=>bif v3.fst then(some (IntKind.i64.wrap (0-v3.snd.fst),(true,()))) else
 some (v3.snd.fst,(true,()))) (fun v3=>some (v3.fst,(v3.snd.fst,()))) (v2)) else
 some (0,(false,()))) else
 (Bo n (decide (v0.n=45)) s 0 0).bind fun v2 =>
 Sum.elim (fun v3=>bif v3.fst then(some (IntKind.i64.wrap (0-v3.snd.fst),(true,()))) else
 some (v3.snd.fst,(true,()))) (fun v3=>some (v3.fst,(v3.snd.fst,()))) (v2)) else
 some (0,(false,()))) else
 some (0,(false,()))) else
 bif !decide ((↑s.size:Int)=0) then(bif !decide ((↑s.size:Int)>9) then((VE s 0).bind fun v0 =>
 bif decide (v0.n=48) then(bif !decide ((↑s.size:Int)>1) then((Bo n false s 0 0).bind fun v1 =>
 Sum.elim (fun v2=>bif v2.fst then(some (IntKind.i64.wrap (0-v2.snd.fst),(true,()))) else
 some (v2.snd.fst,(true,()))) (fun v2=>some (v2.fst,(v2.snd.fst,()))) (v1)) else
 some (0,(false,()))) else
 (Bo n false s 0 0).bind fun v1 =>
 Sum.elim (fun v2=>bif v2.fst then(some (IntKind.i64.wrap (0-v2.snd.fst),(true,()))) else
 some (v2.snd.fst,(true,()))) (fun v2=>some (v2.fst,(v2.snd.fst,()))) (v1)) else
 some (0,(false,()))) else
 some (0,(false,()))
def AcL (n:Nat) (y:C.Ds Ty (Af Pc)):Option (YT Ty Vn):=Vo n y.1
def ZiY (n:Nat):A9 Ty:=AA Pc 0 Vn (AcL n)
def Zh5 (n:Nat):List (Nat×A9 Ty):=[]
theorem XL (n:Nat):Ap Tryz.prog (Zh5 n):=trivial
def Zil (n:Nat):Az Ty:=[]
theorem Aex (n:Nat) (x:C.Ds Ty (Af Hj)):(Ax Tryz.prog 69 (Am Tryz.prog (Zh5 n) []) (Ae (Zil n)) (Al 9 Tryz.f65) (Aw Hj x)).runK (A3 0 Hj Oq (Kj n))=Kj (n+1) x:=by kernel_rfl
theorem Aey (n:Nat):A5 true Tryz.prog 69 (ZgG n) (.loop (Al 9 Tryz.f65)):=A4 fun x y hy=>At (Fn:=Kj) Aa Ab (fun n=>Ac Aa Ab (XL n) Ah) (fun h=>by cases h) (fun h=>by cases h) (fun n=>(Ad (fn:=Tryz.f65) (L:=Zil n) (ks:=[]) trivial (by kernel_rfl) (by kernel_rfl))) (by decide) (fun _=>rfl) Aex hy
def Zkg (n:Nat):Az Ty:=[(.loop 9,ZgG n)]
theorem Alk (n:Nat) (x:C.Ds Ty (Af Pc)):(Ax Tryz.prog 69 (Am Tryz.prog (Zh5 n) []) (Ae (Zkg n)) (Ao Tryz.f65) (Aw Pc x)).runK (Aq Tryz.prog Tryz.f65.results.toList 0 Vn)=AcL n x:=by kernel_rfl
theorem Aez (n:Nat):Au Tryz.prog 65 (ZiY n):=As Tryz.func65 rfl rfl (by decide) rfl Aa Ab (Ac Aa Ab (XL n) Ah) (Ad (fn:=Tryz.f65) (L:=Zkg n) (ks:=[.loop 9]) ⟨Aey n,trivial⟩ (by kernel_rfl) (by kernel_rfl)) (Alk n)
def Gl:List (Nat×C):=[(0,.l 65),(2,.s 3),(4,.u 65),(7,.s 3)]
def Nw:List Wo:=[⟨.exit 0,[.u 65],[],[]⟩,⟨.ret,[.u 65],[(6,.s 4)],[]⟩]
def ND:List (Nat×C):=[(0,.l 65),(1,.g 65),(2,.s 3)]
def SF:List Wo:=[⟨.ret,[],[],[.s 4]⟩]
def AN:Nat→(List A0)→Int→A0→Int→Option ((A0×Unit) ⊕ ((A0×Bool×Unit)))
 | 0,_,_,_,_=>none
 | n+1,l,minute,d,i =>
  bif decide (i<(↑l.length:Int)) then((A6 l i).bind fun v0 =>
  bif !v0.bus != d.bus then(bif !decide (v0.minute<d.minute) then(bif decide (v0.minute>minute) then(AN n l minute d (IntKind.i64.wrap (i+1))) else
  bif decide (v0.kind.n=2) then(bif !decide (v0.sg=d.number) then(bif decide (v0.kind.n=3) then(bif decide (d.kind.n=0) then(some (.inr (d,(false,())))) else
  AN n l minute d (IntKind.i64.wrap (i+1))) else
  AN n l minute d (IntKind.i64.wrap (i+1))) else
  some (.inr (d,(false,())))) else
  bif decide (v0.kind.n=3) then(bif decide (d.kind.n=0) then(some (.inr (d,(false,())))) else
  AN n l minute d (IntKind.i64.wrap (i+1))) else
  AN n l minute d (IntKind.i64.wrap (i+1))) else
  AN n l minute d (IntKind.i64.wrap (i+1))) else
  AN n l minute d (IntKind.i64.wrap (i+1))) else
  some (.inl (d,()))
def Jj (n:Nat) (y:C.Ds Ty (Af Gl)):Option (YT Ty Nw):=AN n y.1 y.2.1 y.2.2.1 y.2.2.2.1
def Zgc (n:Nat):St Ty→Tr (Lf Ty):=AZ Gl 1 Nw (Jj n)
def RW (n:Nat) (l:List A0) (d:A0) (minute:Int):Option ((Bool×Unit)) :=
 bif decide (d.minute>minute) then(some (false,())) else
 (AN n l minute d 0).bind fun v0 =>
 Sum.elim (fun v1=>some (true,())) (fun v1=>some (v1.snd.fst,())) (v0)
def ZQ (n:Nat) (y:C.Ds Ty (Af ND)):Option (YT Ty SF):=RW n y.1 y.2.1 y.2.2.1
def Zim (n:Nat):A9 Ty:=CG (AA ND 0 SF (ZQ n))
def Zgt (n:Nat):List (Nat×A9 Ty):=[]
theorem VN (n:Nat):Ap Tryz.prog (Zgt n):=trivial
def Zh6 (n:Nat):Az Ty:=[]
theorem AcM (n:Nat) (x:C.Ds Ty (Af Gl)):(Ax Tryz.prog 61 (Am Tryz.prog (Zgt n) []) (Ae (Zh6 n)) (Al 4 Tryz.f124) (Aw Gl x)).runK (A3 1 Gl Nw (Jj n))=Jj (n+1) x:=by kernel_rfl
theorem AcN (n:Nat):A5 true Tryz.prog 61 (Zgc n) (.loop (Al 4 Tryz.f124)):=A4 fun x y hy=>At (Fn:=Jj) Aa Ab (fun n=>Ac Aa Ab (VN n) Ah) (fun h=>by cases h) (fun h=>by cases h) (fun n=>(Ad (fn:=Tryz.f124) (L:=Zh6 n) (ks:=[]) trivial (by kernel_rfl) (by kernel_rfl))) (by decide) (fun _=>rfl) AcM hy
def ZjK (n:Nat):Az Ty:=[(.loop 4,Zgc n)]
theorem Akw (n:Nat) (x:C.Ds Ty (Af ND)):(Ax Tryz.prog 61 (Am Tryz.prog (Zgt n) []) (Ae (ZjK n)) (Ao Tryz.f124) (Aw ND x)).runK (Aq Tryz.prog Tryz.f124.results.toList 0 SF)=ZQ n x:=by kernel_rfl
theorem AcO (n:Nat):Au Tryz.prog 124 (Zim n):=AS (As Tryz.func124 rfl rfl (by decide) rfl Aa Ab (Ac Aa Ab (VN n) Ah) (Ad (fn:=Tryz.f124) (L:=ZjK n) (ks:=[.loop 4]) ⟨AcN n,trivial⟩ (by kernel_rfl) (by kernel_rfl)) (Akw n))
def FV:List (Nat×C):=[(0,.g 90),(1,.g 90)]
def JF:List Wo:=[⟨.ret,[],[],[.s 4]⟩]
def LX (n:Nat) (a:Ag) (b:Ag):Option ((Bool×Unit)) :=
 bif !(decide (a.machine=b.machine) && (decide (a.seq=b.seq) && (decide (a.minute=b.minute) && (decide (a.kind.n=b.kind.n) && (decide (a.a=b.a) && (decide (a.b=b.b) && true)))))) then(bif a.machine != b.machine then(some (false,())) else
 bif !decide (a.seq=b.seq) then(bif decide (a.seq>b.seq) then(bif !decide (a.minute<b.minute) then(bif decide (a.seq<b.seq) then(some (decide (a.minute>b.minute),())) else
 some (false,())) else
 some (true,())) else
 bif decide (a.seq<b.seq) then(some (decide (a.minute>b.minute),())) else
 some (false,())) else
 some (true,())) else
 some (false,())
def OF (n:Nat) (y:C.Ds Ty (Af FV)):Option (YT Ty JF):=LX n y.1 y.2.1
def Zew (n:Nat):A9 Ty:=AA FV 0 JF (OF n)
def Zfs (n:Nat):List (Nat×A9 Ty):=[]
theorem Ws (n:Nat):Ap Tryz.prog (Zfs n):=trivial
def Zft (n:Nat):Az Ty:=[]
theorem XM (n:Nat) (x:C.Ds Ty (Af FV)):(Ax Tryz.prog 48 (Am Tryz.prog (Zfs n) []) (Ae (Zft n)) (Ao Tryz.f203) (Aw FV x)).runK (Aq Tryz.prog Tryz.f203.results.toList 0 JF)=OF n x:=by kernel_rfl
theorem TR (n:Nat):Au Tryz.prog 203 (Zew n):=As Tryz.func203 rfl rfl (by decide) rfl Aa Ab (Ac Aa Ab (Ws n) Ah) (Ad (fn:=Tryz.f203) (L:=Zft n) (ks:=[]) trivial (by kernel_rfl) (by kernel_rfl)) (XM n)
def B7:List (Nat×C):=[(0,.l 90),(3,.s 3),(4,.s 3)]
def Ev:List Wo:=[⟨.exit 2,[],[(0,.l 90),(3,.s 3)],[]⟩,⟨.ret,[],[(2,.s 4)],[]⟩]
def B8:List (Nat×C):=[(0,.l 90),(3,.s 3)]
def Ew:List Wo:=[⟨.exit 0,[],[],[]⟩,⟨.ret,[],[(2,.s 4)],[]⟩]
def D2:List (Nat×C):=[(0,.l 90)]
def GO:List Wo:=[⟨.ret,[],[],[.s 4]⟩]
def BO:Nat→(List Ag)→Int→Int→Option ((List Ag×Int×Unit) ⊕ ((Bool×Unit)))
 | 0,_,_,_=>none
 | n+1,l,i,k =>
  bif decide (k<i) then((A6 l i).bind fun v0 =>
  (A6 l k).bind fun v1 =>
  (LX n v0 v1).bind fun v2 =>
  bif v2.fst then(some (.inr (true,()))) else
  BO n l i (IntKind.i64.wrap (k+1))) else
  some (.inl (l,(i,())))
def Cm (n:Nat) (y:C.Ds Ty (Af B7)):Option (YT Ty Ev):=BO n y.1 y.2.1 y.2.2.1
def Zcu (n:Nat):St Ty→Tr (Lf Ty):=AZ B7 0 Ev (Cm n)
def BP:Nat→(List Ag)→Int→Option (Unit ⊕ ((Bool×Unit)))
 | 0,_,_=>none
 | n+1,l,i =>
  bif decide (i<(↑l.length:Int)) then((BO n l i 0).bind fun v0 =>
  Sum.elim (fun v1=>BP n v1.fst (IntKind.i64.wrap (v1.snd.fst+1))) (fun v1=>some (.inr (v1.fst,()))) (v0)) else
  some (.inl ())
def Cn (n:Nat) (y:C.Ds Ty (Af B8)):Option (YT Ty Ew):=BP n y.1 y.2.1
def Zcv (n:Nat):St Ty→Tr (Lf Ty):=AZ B8 0 Ew (Cn n)
def EO (n:Nat) (l:List Ag):Option ((Bool×Unit)) :=
 (BP n l 0).bind fun v0 =>
 Sum.elim (fun v1=>some (false,())) (fun v1=>some (v1.fst,())) (v0)
def LY (n:Nat) (y:C.Ds Ty (Af D2)):Option (YT Ty GO):=EO n y.1
def Zda (n:Nat):A9 Ty:=CG (AA D2 0 GO (LY n))
def ZbC (n:Nat):List (Nat×A9 Ty):=[(203,Zew n)]
theorem Fy (n:Nat):Ap Tryz.prog (ZbC n):=⟨TR n,trivial⟩
def ZcI (n:Nat):Az Ty:=[]
theorem Qx (n:Nat) (x:C.Ds Ty (Af B7)):(Ax Tryz.prog 25 (Am Tryz.prog (ZbC n) []) (Ae (ZcI n)) (Al 5 Tryz.f143) (Aw B7 x)).runK (A3 0 B7 Ev (Cm n))=Cm (n+1) x:=by kernel_rfl
theorem Qy (n:Nat):A5 true Tryz.prog 25 (Zcu n) (.loop (Al 5 Tryz.f143)):=A4 fun x y hy=>At (Fn:=Cm) Aa Ab (fun n=>Ac Aa Ab (Fy n) Ah) (fun h=>by cases h) (fun h=>by cases h) (fun n=>(Ad (fn:=Tryz.f143) (L:=ZcI n) (ks:=[]) trivial (by kernel_rfl) (by kernel_rfl))) (by decide) (fun _=>rfl) Qx hy
def ZcJ (n:Nat):Az Ty:=[(.loop 5,Zcu n)]
theorem Qz (n:Nat) (x:C.Ds Ty (Af B8)):(Ax Tryz.prog 25 (Am Tryz.prog (ZbC n) []) (Ae (ZcJ n)) (Al 2 Tryz.f143) (Aw B8 x)).runK (A3 0 B8 Ew (Cn n))=Cn (n+1) x:=by kernel_rfl
theorem Q0 (n:Nat):A5 true Tryz.prog 25 (Zcv n) (.loop (Al 2 Tryz.f143)):=A4 fun x y hy=>At (Fn:=Cn) Aa Ab (fun n=>Ac Aa Ab (Fy n) Ah) (fun h=>by cases h) (fun h=>by cases h) (fun n=>(Ad (fn:=Tryz.f143) (L:=ZcJ n) (ks:=[.loop 5]) ⟨Qy n,trivial⟩ (by kernel_rfl) (by kernel_rfl))) (by decide) (fun _=>rfl) Qz hy
def ZdJ (n:Nat):Az Ty:=[(.loop 2,Zcv n)]
theorem TS (n:Nat) (x:C.Ds Ty (Af D2)):(Ax Tryz.prog 25 (Am Tryz.prog (ZbC n) []) (Ae (ZdJ n)) (Ao Tryz.f143) (Aw D2 x)).runK (Aq Tryz.prog Tryz.f143.results.toList 0 GO)=LY n x:=by kernel_rfl
theorem Q1 (n:Nat):Au Tryz.prog 143 (Zda n):=AS (As Tryz.func143 rfl rfl (by decide) rfl Aa Ab (Ac Aa Ab (Fy n) Ah) (Ad (fn:=Tryz.f143) (L:=ZdJ n) (ks:=[.loop 2]) ⟨Q0 n,trivial⟩ (by kernel_rfl) (by kernel_rfl)) (TS n))
def RX:List (Nat×C):=[(0,.s 3),(1,.s 3),(2,.s 3)]
def XN:List Wo:=[⟨.ret,[],[],[.s 4]⟩]
def Gm (n:Nat) (n_:Int) (low:Int) (high:Int):Option ((Bool×Unit)) :=
 bif decide (n_≥low) then(some (decide (n_≤high),())) else
 some (false,())
def AfQ (n:Nat) (y:C.Ds Ty (Af RX)):Option (YT Ty XN):=Gm n y.1 y.2.1 y.2.2.1
def Zgu (n:Nat):A9 Ty:=AA RX 0 XN (AfQ n)
def ZkG (n:Nat):List (Nat×A9 Ty):=[]
theorem All (n:Nat):Ap Tryz.prog (ZkG n):=trivial
def ZkH (n:Nat):Az Ty:=[]
theorem AnT (n:Nat) (x:C.Ds Ty (Af RX)):(Ax Tryz.prog 15 (Am Tryz.prog (ZkG n) []) (Ae (ZkH n)) (Ao Tryz.f145) (Aw RX x)).runK (Aq Tryz.prog Tryz.f145.results.toList 0 XN)=AfQ n x:=by kernel_rfl
theorem VO (n:Nat):Au Tryz.prog 145 (Zgu n):=As Tryz.func145 rfl rfl (by decide) rfl Aa Ab (Ac Aa Ab (All n) Ah) (Ad (fn:=Tryz.f145) (L:=ZkH n) (ks:=[]) trivial (by kernel_rfl) (by kernel_rfl)) (AnT n)
def LZ:List (Nat×C):=[(0,.g 65)]
def Q2:List Wo:=[⟨.ret,[],[],[.s 4]⟩]
def Ma (n:Nat) (c:A0):Option ((Bool×Unit)) :=
 (Gm n c.bus 0 99).bind fun v0 =>
 bif !!v0.fst then((Gm n c.number 1 999).bind fun v1 =>
 bif !!v1.fst then((Gm n c.minute 0 1000000).bind fun v2 =>
 bif !!v2.fst then(bif decide (c.kind.n>3) then(some (false,())) else
 bif decide (c.kind.n<2) then((Gm n c.part 0 15).bind fun v3 =>
 bif v3.fst then(some (decide (c.sg=0),())) else
 some (false,())) else
 bif decide (c.part=0) then(bif decide (c.kind.n=2) then((Gm n c.sg 1 999).bind fun v3 =>
 bif !v3.fst then(bif decide (c.kind.n=3) then(some (decide (c.sg=0),())) else
 some (false,())) else
 some (true,())) else
 bif decide (c.kind.n=3) then(some (decide (c.sg=0),())) else
 some (false,())) else
 some (false,())) else
 some (false,())) else
 some (false,())) else
 some (false,())
def XO (n:Nat) (y:C.Ds Ty (Af LZ)):Option (YT Ty Q2):=Ma n y.1
def Zh7 (n:Nat):A9 Ty:=AA LZ 0 Q2 (XO n)
def ZiZ (n:Nat):List (Nat×A9 Ty):=[(145,Zgu n)]
theorem Ae0 (n:Nat):Ap Tryz.prog (ZiZ n):=⟨VO n,trivial⟩
def Zja (n:Nat):Az Ty:=[]
theorem Ahe (n:Nat) (x:C.Ds Ty (Af LZ)):(Ax Tryz.prog 58 (Am Tryz.prog (ZiZ n) []) (Ae (Zja n)) (Ao Tryz.f201) (Aw LZ x)).runK (Aq Tryz.prog Tryz.f201.results.toList 0 Q2)=XO n x:=by kernel_rfl
theorem AaP (n:Nat):Au Tryz.prog 201 (Zh7 n):=As Tryz.func201 rfl rfl (by decide) rfl Aa Ab (Ac Aa Ab (Ae0 n) Ah) (Ad (fn:=Tryz.f201) (L:=Zja n) (ks:=[]) trivial (by kernel_rfl) (by kernel_rfl)) (Ahe n)
def RY:List (Nat×C):=[(0,.s 3),(1,.s 3),(2,.s 3)]
def XP:List Wo:=[⟨.ret,[],[],[.s 4]⟩]
def Gn (n:Nat) (n_:Int) (low:Int) (high:Int):Option ((Bool×Unit)) :=
 bif decide (n_≥low) then(some (decide (n_≤high),())) else
 some (false,())
def AfR (n:Nat) (y:C.Ds Ty (Af RY)):Option (YT Ty XP):=Gn n y.1 y.2.1 y.2.2.1
def ZjL (n:Nat):A9 Ty:=AA RY 0 XP (AfR n)
def ZkI (n:Nat):List (Nat×A9 Ty):=[]
theorem Alm (n:Nat):Ap Tryz.prog (ZkI n):=trivial
def ZkJ (n:Nat):Az Ty:=[]
theorem AnU (n:Nat) (x:C.Ds Ty (Af RY)):(Ax Tryz.prog 15 (Am Tryz.prog (ZkI n) []) (Ae (ZkJ n)) (Ao Tryz.f156) (Aw RY x)).runK (Aq Tryz.prog Tryz.f156.results.toList 0 XP)=AfR n x:=by kernel_rfl
theorem Ahf (n:Nat):Au Tryz.prog 156 (ZjL n):=As Tryz.func156 rfl rfl (by decide) rfl Aa Ab (Ac Aa Ab (Alm n) Ah) (Ad (fn:=Tryz.f156) (L:=ZkJ n) (ks:=[]) trivial (by kernel_rfl) (by kernel_rfl)) (AnU n)
def Mb:List (Nat×C):=[(0,.g 90)]
def Q3:List Wo:=[⟨.ret,[],[],[.s 4]⟩]
def Pd (n:Nat) (r:Ag):Option ((Bool×Unit)) :=
 (Gn n r.machine 0 999).bind fun v0 =>
 bif !!v0.fst then((Gn n r.seq 1 9999).bind fun v1 =>
 bif !!v1.fst then((Gn n r.minute 0 1000000).bind fun v2 =>
 bif !v2.fst then(some (false,())) else
 bif decide (r.kind.n=0) then((Gn n r.a 0 99).bind fun v3 =>
 bif v3.fst then((Gn n r.b 0 10000).bind fun v4 =>
 some (v4.fst,())) else
 some (false,())) else
 bif decide (r.kind.n=1) then((Gn n r.a 0 1000000).bind fun v3 =>
 bif v3.fst then(some (decide (r.b=0),())) else
 some (false,())) else
 bif decide (r.kind.n=2) then((Gn n r.a 0 9999).bind fun v3 =>
 bif v3.fst then((Gn n r.b 0 10000000).bind fun v4 =>
 some (v4.fst,())) else
 some (false,())) else
 some (false,())) else
 some (false,())) else
 some (false,())
def XQ (n:Nat) (y:C.Ds Ty (Af Mb)):Option (YT Ty Q3):=Pd n y.1
def Zh8 (n:Nat):A9 Ty:=AA Mb 0 Q3 (XQ n)
def Zjb (n:Nat):List (Nat×A9 Ty):=[(156,ZjL n)]
theorem Ae1 (n:Nat):Ap Tryz.prog (Zjb n):=⟨Ahf n,trivial⟩
def Zjc (n:Nat):Az Ty:=[]
theorem Ahg (n:Nat) (x:C.Ds Ty (Af Mb)):(Ax Tryz.prog 51 (Am Tryz.prog (Zjb n) []) (Ae (Zjc n)) (Ao Tryz.f202) (Aw Mb x)).runK (Aq Tryz.prog Tryz.f202.results.toList 0 Q3)=XQ n x:=by kernel_rfl
theorem AaQ (n:Nat):Au Tryz.prog 202 (Zh8 n):=As Tryz.func202 rfl rfl (by decide) rfl Aa Ab (Ac Aa Ab (Ae1 n) Ah) (Ad (fn:=Tryz.f202) (L:=Zjc n) (ks:=[]) trivial (by kernel_rfl) (by kernel_rfl)) (Ahg n)
def IG:List (Nat×C):=[(1,.s 3),(2,.u 51),(5,.s 3)]
def Q4:List Wo:=[⟨.exit 0,[.u 51],[],[]⟩,⟨.ret,[.u 51],[(4,.s 3)],[]⟩]
def RZ:List (Nat×C):=[(0,.g 51),(1,.s 3)]
def XR:List Wo:=[⟨.ret,[],[],[.s 3]⟩]
def Mc:Nat→Int→An→Int→Option ((An×Unit) ⊕ ((An×Int×Unit)))
 | 0,_,_,_=>none
 | n+1,bus,s,i =>
  bif decide (i<(↑s.outs.length:Int)) then((A6 s.outs i).bind fun v0 =>
  bif decide (v0.bus=bus) then(some (.inr (s,(i,())))) else
  Mc n bus s (IntKind.i64.wrap (i+1))) else
  some (.inl (s,()))
def Md (n:Nat) (y:C.Ds Ty (Af IG)):Option (YT Ty Q4):=Mc n y.1 y.2.1 y.2.2.1
def Zh9 (n:Nat):St Ty→Tr (Lf Ty):=AZ IG 1 Q4 (Md n)
def YD (n:Nat) (s:An) (bus:Int):Option ((Int×Unit)) :=
 (Mc n bus s 0).bind fun v0 =>
 Sum.elim (fun v1=>some (-1,())) (fun v1=>some (v1.snd.fst,())) (v0)
def AfS (n:Nat) (y:C.Ds Ty (Af RZ)):Option (YT Ty XR):=YD n y.1 y.2.1
def ZjM (n:Nat):A9 Ty:=AA RZ 0 XR (AfS n)
def ZiD (n:Nat):List (Nat×A9 Ty):=[]
theorem ZR (n:Nat):Ap Tryz.prog (ZiD n):=trivial
def Zjd (n:Nat):Az Ty:=[]
theorem Ahh (n:Nat) (x:C.Ds Ty (Af IG)):(Ax Tryz.prog 22 (Am Tryz.prog (ZiD n) []) (Ae (Zjd n)) (Al 2 Tryz.f144) (Aw IG x)).runK (A3 1 IG Q4 (Md n))=Md (n+1) x:=by kernel_rfl
theorem Ahi (n:Nat):A5 true Tryz.prog 22 (Zh9 n) (.loop (Al 2 Tryz.f144)):=A4 fun x y hy=>At (Fn:=Md) Aa Ab (fun n=>Ac Aa Ab (ZR n) Ah) (fun h=>by cases h) (fun h=>by cases h) (fun n=>(Ad (fn:=Tryz.f144) (L:=Zjd n) (ks:=[]) trivial (by kernel_rfl) (by kernel_rfl))) (by decide) (fun _=>rfl) Ahh hy
def ZkK (n:Nat):Az Ty:=[(.loop 2,Zh9 n)]
theorem AnV (n:Nat) (x:C.Ds Ty (Af RZ)):(Ax Tryz.prog 22 (Am Tryz.prog (ZiD n) []) (Ae (ZkK n)) (Ao Tryz.f144) (Aw RZ x)).runK (Aq Tryz.prog Tryz.f144.results.toList 0 XR)=AfS n x:=by kernel_rfl
theorem Ahj (n:Nat):Au Tryz.prog 144 (ZjM n):=As Tryz.func144 rfl rfl (by decide) rfl Aa Ab (Ac Aa Ab (ZR n) Ah) (Ad (fn:=Tryz.f144) (L:=ZkK n) (ks:=[.loop 2]) ⟨Ahi n,trivial⟩ (by kernel_rfl) (by kernel_rfl)) (AnV n)
def Hk:List (Nat×C):=[(0,.l 9),(3,.s 3)]
def Ot:List Wo:=[⟨.exit 0,[],[(0,.l 9)],[]⟩,⟨.ret,[],[(2,.s 4)],[]⟩]
def Pe:List (Nat×C):=[(0,.l 9)]
def Vp:List Wo:=[⟨.ret,[],[],[.s 4]⟩]
def NE:Nat→(List ByteArray)→Int→Option ((List ByteArray×Unit) ⊕ ((Bool×Unit)))
 | 0,_,_=>none
 | n+1,lines,i =>
  bif decide (i<(↑lines.length:Int)) then((A6 lines i).bind fun v0 =>
  bif decide ((↑v0.size:Int)>200) then(some (.inr (false,()))) else
  NE n lines (IntKind.i64.wrap (i+1))) else
  some (.inl (lines,()))
def Kk (n:Nat) (y:C.Ds Ty (Af Hk)):Option (YT Ty Ot):=NE n y.1 y.2.1
def ZgH (n:Nat):St Ty→Tr (Lf Ty):=AZ Hk 0 Ot (Kk n)
def Q5 (n:Nat) (lines:List ByteArray):Option ((Bool×Unit)) :=
 (NE n lines 0).bind fun v0 =>
 Sum.elim (fun v1=>some (decide ((↑v1.fst.length:Int)≤50),())) (fun v1=>some (v1.fst,())) (v0)
def AcP (n:Nat) (y:C.Ds Ty (Af Pe)):Option (YT Ty Vp):=Q5 n y.1
def ZfD (n:Nat):A9 Ty:=CG (AA Pe 0 Vp (AcP n))
def ZhA (n:Nat):List (Nat×A9 Ty):=[]
theorem XS (n:Nat):Ap Tryz.prog (ZhA n):=trivial
def Zin (n:Nat):Az Ty:=[]
theorem Ae2 (n:Nat) (x:C.Ds Ty (Af Hk)):(Ax Tryz.prog 19 (Am Tryz.prog (ZhA n) []) (Ae (Zin n)) (Al 2 Tryz.f23) (Aw Hk x)).runK (A3 0 Hk Ot (Kk n))=Kk (n+1) x:=by kernel_rfl
theorem Ae3 (n:Nat):A5 true Tryz.prog 19 (ZgH n) (.loop (Al 2 Tryz.f23)):=A4 fun x y hy=>At (Fn:=Kk) Aa Ab (fun n=>Ac Aa Ab (XS n) Ah) (fun h=>by cases h) (fun h=>by cases h) (fun n=>(Ad (fn:=Tryz.f23) (L:=Zin n) (ks:=[]) trivial (by kernel_rfl) (by kernel_rfl))) (by decide) (fun _=>rfl) Ae2 hy
def Zkh (n:Nat):Az Ty:=[(.loop 2,ZgH n)]
theorem Aln (n:Nat) (x:C.Ds Ty (Af Pe)):(Ax Tryz.prog 19 (Am Tryz.prog (ZhA n) []) (Ae (Zkh n)) (Ao Tryz.f23) (Aw Pe x)).runK (Aq Tryz.prog Tryz.f23.results.toList 0 Vp)=AcP n x:=by kernel_rfl
theorem TU (n:Nat):Au Tryz.prog 23 (ZfD n):=AS (As Tryz.func23 rfl rfl (by decide) rfl Aa Ab (Ac Aa Ab (XS n) Ah) (Ad (fn:=Tryz.f23) (L:=Zkh n) (ks:=[.loop 2]) ⟨Ae3 n,trivial⟩ (by kernel_rfl) (by kernel_rfl)) (Aln n))
def Kl:List (Nat×C):=[]
def Ou:List Wo:=[⟨.ret,[],[],[.u 114]⟩]
def ZS (n:Nat):Option ((Aj×Unit)) :=
 some (Aj.mk (An.mk [] [] [] [] (Ar.mk 7 [] [] 600 5 3000) []),())
def VP (n:Nat) (y:C.Ds Ty (Af Kl)):Option (YT Ty Ou):=ZS n
def ZgI (n:Nat):A9 Ty:=AA Kl 0 Ou (VP n)
def Zio (n:Nat):List (Nat×A9 Ty):=[]
theorem AcQ (n:Nat):Ap Tryz.prog (Zio n):=trivial
def Zip (n:Nat):Az Ty:=[]
theorem Ae4 (n:Nat) (x:C.Ds Ty (Af Kl)):(Ax Tryz.prog 5 (Am Tryz.prog (Zio n) []) (Ae (Zip n)) (Ao Tryz.f101) (Aw Kl x)).runK (Aq Tryz.prog Tryz.f101.results.toList 0 Ou)=VP n x:=by kernel_rfl
theorem Zh (n:Nat):Au Tryz.prog 101 (ZgI n):=As Tryz.func101 rfl rfl (by decide) rfl Aa Ab (Ac Aa Ab (AcQ n) Ah) (Ad (fn:=Tryz.f101) (L:=Zip n) (ks:=[]) trivial (by kernel_rfl) (by kernel_rfl)) (Ae4 n)
def Pf:List (Nat×C):=[]
def Vq:List Wo:=[⟨.ret,[],[],[.g 51]⟩]
def AaR (n:Nat):Option ((An×Unit)) :=
 some (An.mk [] [] [] [] (Ar.mk 7 [] [] 600 5 3000) [],())
def AcR (n:Nat) (y:C.Ds Ty (Af Pf)):Option (YT Ty Vq):=AaR n
def Zje (n:Nat):A9 Ty:=AA Pf 0 Vq (AcR n)
def Zki (n:Nat):List (Nat×A9 Ty):=[]
theorem Akx (n:Nat):Ap Tryz.prog (Zki n):=trivial
def Zkj (n:Nat):Az Ty:=[]
theorem Alo (n:Nat) (x:C.Ds Ty (Af Pf)):(Ax Tryz.prog 3 (Am Tryz.prog (Zki n) []) (Ae (Zkj n)) (Ao Tryz.f59) (Aw Pf x)).runK (Aq Tryz.prog Tryz.f59.results.toList 0 Vq)=AcR n x:=by kernel_rfl
theorem Ae5 (n:Nat):Au Tryz.prog 59 (Zje n):=As Tryz.func59 rfl rfl (by decide) rfl Aa Ab (Ac Aa Ab (Akx n) Ah) (Ad (fn:=Tryz.f59) (L:=Zkj n) (ks:=[]) trivial (by kernel_rfl) (by kernel_rfl)) (Alo n)
def EP:List (Nat×C):=[(0,.l 65),(3,.s 3)]
def Me:List Wo:=[⟨.exit 0,[],[(0,.l 65)],[]⟩,⟨.ret,[],[(2,.s 3)],[]⟩]
def EQ:List (Nat×C):=[(0,.l 65),(4,.s 3),(5,.s 3)]
def Mf:List Wo:=[⟨.exit 4,[],[(0,.l 65),(4,.s 3)],[]⟩,⟨.ret,[],[(2,.s 3)],[]⟩]
def ER:List (Nat×C):=[(0,.l 65),(4,.s 3)]
def Mg:List Wo:=[⟨.exit 2,[],[],[]⟩,⟨.ret,[],[(2,.s 3)],[]⟩]
def Mh:List (Nat×C):=[(0,.l 65)]
def Q6:List Wo:=[⟨.ret,[],[],[.s 3]⟩]
def Hl:Nat→(List A0)→Int→Option ((List A0×Unit) ⊕ ((Int×Unit)))
 | 0,_,_=>none
 | n+1,l,i =>
  bif decide (i<(↑l.length:Int)) then((A6 l i).bind fun v0 =>
  (Ma n v0).bind fun v1 =>
  bif !v1.fst then(some (.inr (1,()))) else
  Hl n l (IntKind.i64.wrap (i+1))) else
  some (.inl (l,()))
def HY (n:Nat) (y:C.Ds Ty (Af EP)):Option (YT Ty Me):=Hl n y.1 y.2.1
def Zfu (n:Nat):St Ty→Tr (Lf Ty):=AZ EP 0 Me (HY n)
def Ez:Nat→(List A0)→Int→Int→Option ((List A0×Int×Unit) ⊕ ((Int×Unit)))
 | 0,_,_,_=>none
 | n+1,l,i,k =>
  bif decide (k<i) then((A6 l i).bind fun v0 =>
  (A6 l k).bind fun v1 =>
  bif decide (v0.number=v1.number) then((A6 l i).bind fun v2 =>
  (A6 l k).bind fun v3 =>
  bif !(decide (v2.bus=v3.bus) && (decide (v2.number=v3.number) && (decide (v2.minute=v3.minute) && (decide (v2.kind.n=v3.kind.n) && (decide (v2.part=v3.part) && (decide (v2.sg=v3.sg) && true)))))) then(some (.inr (6,()))) else
  Ez n l i (IntKind.i64.wrap (k+1))) else
  Ez n l i (IntKind.i64.wrap (k+1))) else
  some (.inl (l,(i,())))
def HZ (n:Nat) (y:C.Ds Ty (Af EQ)):Option (YT Ty Mf):=Ez n y.1 y.2.1 y.2.2.1
def Zfv (n:Nat):St Ty→Tr (Lf Ty):=AZ EQ 0 Mf (HZ n)
def Hm:Nat→(List A0)→Int→Option (Unit ⊕ ((Int×Unit)))
 | 0,_,_=>none
 | n+1,l,i =>
  bif decide (i<(↑l.length:Int)) then((Ez n l i 0).bind fun v0 =>
  Sum.elim (fun v1=>Hm n v1.fst (IntKind.i64.wrap (v1.snd.fst+1))) (fun v1=>some (.inr (v1.fst,()))) (v0)) else
  some (.inl ())
def Ia (n:Nat) (y:C.Ds Ty (Af ER)):Option (YT Ty Mg):=Hm n y.1 y.2.1
def Zfw (n:Nat):St Ty→Tr (Lf Ty):=AZ ER 0 Mg (Ia n)
def Pg (n:Nat) (l:List A0):Option ((Int×Unit)) :=
 bif decide ((↑l.length:Int)>40) then(some (3,())) else
 (Hl n l 0).bind fun v0 =>
 Sum.elim (fun v1=>(Hm n v1.fst 0).bind fun v2 =>
 Sum.elim (fun v3=>some (0,())) (fun v3=>some (v3.fst,())) (v2)) (fun v1=>some (v1.fst,())) (v0)
def XT (n:Nat) (y:C.Ds Ty (Af Mh)):Option (YT Ty Q6):=Pg n y.1
def ZhB (n:Nat):A9 Ty:=CG (AA Mh 0 Q6 (XT n))
def Zco (n:Nat):List (Nat×A9 Ty):=[(201,Zh7 n)]
theorem Jk (n:Nat):Ap Tryz.prog (Zco n):=⟨AaP n,trivial⟩
def ZgJ (n:Nat):Az Ty:=[]
theorem AaS (n:Nat) (x:C.Ds Ty (Af EP)):(Ax Tryz.prog 54 (Am Tryz.prog (Zco n) []) (Ae (ZgJ n)) (Al 4 Tryz.f141) (Aw EP x)).runK (A3 0 EP Me (HY n))=HY (n+1) x:=by kernel_rfl
theorem AaT (n:Nat):A5 true Tryz.prog 54 (Zfu n) (.loop (Al 4 Tryz.f141)):=A4 fun x y hy=>At (Fn:=HY) Aa Ab (fun n=>Ac Aa Ab (Jk n) Ah) (fun h=>by cases h) (fun h=>by cases h) (fun n=>(Ad (fn:=Tryz.f141) (L:=ZgJ n) (ks:=[]) trivial (by kernel_rfl) (by kernel_rfl))) (by decide) (fun _=>rfl) AaS hy
def ZgK (n:Nat):Az Ty:=[]
theorem AaU (n:Nat) (x:C.Ds Ty (Af EQ)):(Ax Tryz.prog 54 (Am Tryz.prog (Zco n) []) (Ae (ZgK n)) (Al 12 Tryz.f141) (Aw EQ x)).runK (A3 0 EQ Mf (HZ n))=HZ (n+1) x:=by kernel_rfl
theorem AaV (n:Nat):A5 true Tryz.prog 54 (Zfv n) (.loop (Al 12 Tryz.f141)):=A4 fun x y hy=>At (Fn:=HZ) Aa Ab (fun n=>Ac Aa Ab (Jk n) Ah) (fun h=>by cases h) (fun h=>by cases h) (fun n=>(Ad (fn:=Tryz.f141) (L:=ZgK n) (ks:=[]) trivial (by kernel_rfl) (by kernel_rfl))) (by decide) (fun _=>rfl) AaU hy
def ZgL (n:Nat):Az Ty:=[(.loop 12,Zfv n)]
theorem AaW (n:Nat) (x:C.Ds Ty (Af ER)):(Ax Tryz.prog 54 (Am Tryz.prog (Zco n) []) (Ae (ZgL n)) (Al 9 Tryz.f141) (Aw ER x)).runK (A3 0 ER Mg (Ia n))=Ia (n+1) x:=by kernel_rfl
theorem AaX (n:Nat):A5 true Tryz.prog 54 (Zfw n) (.loop (Al 9 Tryz.f141)):=A4 fun x y hy=>At (Fn:=Ia) Aa Ab (fun n=>Ac Aa Ab (Jk n) Ah) (fun h=>by cases h) (fun h=>by cases h) (fun n=>(Ad (fn:=Tryz.f141) (L:=ZgL n) (ks:=[.loop 12]) ⟨AaV n,trivial⟩ (by kernel_rfl) (by kernel_rfl))) (by decide) (fun _=>rfl) AaW hy
def Zjf (n:Nat):Az Ty:=[(.loop 4,Zfu n),(.loop 9,Zfw n)]
theorem Ahk (n:Nat) (x:C.Ds Ty (Af Mh)):(Ax Tryz.prog 54 (Am Tryz.prog (Zco n) []) (Ae (Zjf n)) (Ao Tryz.f141) (Aw Mh x)).runK (Aq Tryz.prog Tryz.f141.results.toList 0 Q6)=XT n x:=by kernel_rfl
theorem AaY (n:Nat):Au Tryz.prog 141 (ZhB n):=AS (As Tryz.func141 rfl rfl (by decide) rfl Aa Ab (Ac Aa Ab (Jk n) Ah) (Ad (fn:=Tryz.f141) (L:=Zjf n) (ks:=[.loop 4,.loop 9]) ⟨AaT n,⟨AaX n,trivial⟩⟩ (by kernel_rfl) (by kernel_rfl)) (Ahk n))
def IH:List (Nat×C):=[(2,.u 51),(3,.u 65),(4,.u 51),(6,.s 3)]
def Q7:List Wo:=[⟨.exit 0,[.u 51,.u 65,.u 51],[(2,.q 0),(3,.q 1),(4,.q 2)],[]⟩,⟨.ret,[.u 51,.u 65,.u 51],[(4,.q 2),(5,.s 3)],[]⟩]
def Sa:List (Nat×C):=[(0,.g 51),(1,.g 65)]
def XU:List Wo:=[⟨.ret,[],[],[.g 51,.s 3]⟩]
def Mi:Nat→An→A0→An→Int→Option ((An×A0×An×Unit×Unit×Unit×Unit) ⊕ ((An×A0×An×Unit×Int×Unit)))
 | 0,_,_,_,_=>none
 | n+1,s,c,x4,i =>
  bif decide (i<(↑s.cards.length:Int)) then((A6 s.cards i).bind fun v0 =>
  bif decide (v0.bus=c.bus) && (decide (v0.number=c.number) && (decide (v0.minute=c.minute) && (decide (v0.kind.n=c.kind.n) && (decide (v0.part=c.part) && (decide (v0.sg=c.sg) && true))))) then(some (.inr (s,(c,(s,((),(6,()))))))) else
  Mi n s c x4 (IntKind.i64.wrap (i+1))) else
  some (.inl (s,(c,(x4,((),((),((),())))))))
def Mj (n:Nat) (y:C.Ds Ty (Af IH)):Option (YT Ty Q7):=Mi n y.1 y.2.1 y.2.2.1 y.2.2.2.1
def ZhC (n:Nat):St Ty→Tr (Lf Ty):=AZ IH 3 Q7 (Mj n)
def TV (n:Nat) (s:An) (c:A0):Option ((An×Int×Unit)) :=
 (Mi n s c (An.mk [] [] [] [] (Ar.mk 0 [] [] 0 0 0) []) 0).bind fun v0 =>
 Sum.elim (fun v1=>(app [] v1.fst.cards).bind fun v2 =>
 (app v2 [v1.snd.fst]).bind fun v3 =>
 (Pg n v3).bind fun v4 =>
 bif v4.fst != 0 then(some (v1.fst,(v4.fst,()))) else
 some (An.mk v3 v1.fst.outs v1.fst.runs v1.fst.records v1.fst.week v1.fst.roster,(0,()))) (fun v1=>some (v1.snd.snd.fst,(v1.snd.snd.snd.snd.fst,()))) (v0)
def AfT (n:Nat) (y:C.Ds Ty (Af Sa)):Option (YT Ty XU):=TV n y.1 y.2.1
def ZjN (n:Nat):A9 Ty:=AA Sa 0 XU (AfT n)
def ZiE (n:Nat):List (Nat×A9 Ty):=[(141,ZhB n)]
theorem ZT (n:Nat):Ap Tryz.prog (ZiE n):=⟨AaY n,trivial⟩
def Zjg (n:Nat):Az Ty:=[]
theorem Ahl (n:Nat) (x:C.Ds Ty (Af IH)):(Ax Tryz.prog 40 (Am Tryz.prog (ZiE n) []) (Ae (Zjg n)) (Al 2 Tryz.f85) (Aw IH x)).runK (A3 3 IH Q7 (Mj n))=Mj (n+1) x:=by kernel_rfl
theorem Ahm (n:Nat):A5 true Tryz.prog 40 (ZhC n) (.loop (Al 2 Tryz.f85)):=A4 fun x y hy=>At (Fn:=Mj) Aa Ab (fun n=>Ac Aa Ab (ZT n) Ah) (fun h=>by cases h) (fun h=>by cases h) (fun n=>(Ad (fn:=Tryz.f85) (L:=Zjg n) (ks:=[]) trivial (by kernel_rfl) (by kernel_rfl))) (by decide) (fun _=>rfl) Ahl hy
def ZkL (n:Nat):Az Ty:=[(.loop 2,ZhC n)]
theorem AnW (n:Nat) (x:C.Ds Ty (Af Sa)):(Ax Tryz.prog 40 (Am Tryz.prog (ZiE n) []) (Ae (ZkL n)) (Ao Tryz.f85) (Aw Sa x)).runK (Aq Tryz.prog Tryz.f85.results.toList 0 XU)=AfT n x:=by kernel_rfl
theorem Ahn (n:Nat):Au Tryz.prog 85 (ZjN n):=As Tryz.func85 rfl rfl (by decide) rfl Aa Ab (Ac Aa Ab (ZT n) Ah) (Ad (fn:=Tryz.f85) (L:=ZkL n) (ks:=[.loop 2]) ⟨Ahm n,trivial⟩ (by kernel_rfl) (by kernel_rfl)) (AnW n)
def ET:List (Nat×C):=[(0,.l 45),(3,.s 3)]
def Ml:List Wo:=[⟨.exit 0,[],[(0,.l 45)],[]⟩,⟨.ret,[],[(2,.s 3)],[]⟩]
def EU:List (Nat×C):=[(0,.l 45),(4,.s 3),(5,.s 3)]
def Mm:List Wo:=[⟨.exit 4,[],[(0,.l 45),(4,.s 3)],[]⟩,⟨.ret,[],[(2,.s 3)],[]⟩]
def EV:List (Nat×C):=[(0,.l 45),(4,.s 3)]
def Mn:List Wo:=[⟨.exit 2,[],[],[]⟩,⟨.ret,[],[(2,.s 3)],[]⟩]
def Mp:List (Nat×C):=[(0,.l 45)]
def Q8:List Wo:=[⟨.ret,[],[],[.s 3]⟩]
def Hn:Nat→(List (List Ag))→Int→Option ((List (List Ag)×Unit) ⊕ ((Int×Unit)))
 | 0,_,_=>none
 | n+1,lists,i =>
  bif decide (i<(↑lists.length:Int)) then((A6 lists i).bind fun v0 =>
  bif decide ((↑v0.length:Int)>60) then(some (.inr (3,()))) else
  Hn n lists (IntKind.i64.wrap (i+1))) else
  some (.inl (lists,()))
def Ib (n:Nat) (y:C.Ds Ty (Af ET)):Option (YT Ty Ml):=Hn n y.1 y.2.1
def Zfx (n:Nat):St Ty→Tr (Lf Ty):=AZ ET 0 Ml (Ib n)
def Ho:Nat→(List (List Ag))→Int→Int→Option ((List (List Ag)×Int×Unit) ⊕ ((Int×Unit)))
 | 0,_,_,_=>none
 | n+1,lists,i,k =>
  (A6 lists i).bind fun v0 =>
  bif decide (k<(↑v0.length:Int)) then((A6 lists i).bind fun v1 =>
  (A6 v1 k).bind fun v2 =>
  (Pd n v2).bind fun v3 =>
  bif !v3.fst then(some (.inr (1,()))) else
  Ho n lists i (IntKind.i64.wrap (k+1))) else
  some (.inl (lists,(i,())))
def Ic (n:Nat) (y:C.Ds Ty (Af EU)):Option (YT Ty Mm):=Ho n y.1 y.2.1 y.2.2.1
def Zfy (n:Nat):St Ty→Tr (Lf Ty):=AZ EU 0 Mm (Ic n)
def Hp:Nat→(List (List Ag))→Int→Option (Unit ⊕ ((Int×Unit)))
 | 0,_,_=>none
 | n+1,lists,i =>
  bif decide (i<(↑lists.length:Int)) then((Ho n lists i 0).bind fun v0 =>
  Sum.elim (fun v1=>Hp n v1.fst (IntKind.i64.wrap (v1.snd.fst+1))) (fun v1=>some (.inr (v1.fst,()))) (v0)) else
  some (.inl ())
def Ie (n:Nat) (y:C.Ds Ty (Af EV)):Option (YT Ty Mn):=Hp n y.1 y.2.1
def Zfz (n:Nat):St Ty→Tr (Lf Ty):=AZ EV 0 Mn (Ie n)
def Ph (n:Nat) (lists:List (List Ag)):Option ((Int×Unit)) :=
 bif decide ((↑lists.length:Int)>6) then(some (3,())) else
 (Hn n lists 0).bind fun v0 =>
 Sum.elim (fun v1=>(Hp n v1.fst 0).bind fun v2 =>
 Sum.elim (fun v3=>some (0,())) (fun v3=>some (v3.fst,())) (v2)) (fun v1=>some (v1.fst,())) (v0)
def XV (n:Nat) (y:C.Ds Ty (Af Mp)):Option (YT Ty Q8):=Ph n y.1
def ZhD (n:Nat):A9 Ty:=CG (AA Mp 0 Q8 (XV n))
def Zcp (n:Nat):List (Nat×A9 Ty):=[(202,Zh8 n)]
theorem Jl (n:Nat):Ap Tryz.prog (Zcp n):=⟨AaQ n,trivial⟩
def ZgM (n:Nat):Az Ty:=[]
theorem AaZ (n:Nat) (x:C.Ds Ty (Af ET)):(Ax Tryz.prog 45 (Am Tryz.prog (Zcp n) []) (Ae (ZgM n)) (Al 4 Tryz.f142) (Aw ET x)).runK (A3 0 ET Ml (Ib n))=Ib (n+1) x:=by kernel_rfl
theorem Aba (n:Nat):A5 true Tryz.prog 45 (Zfx n) (.loop (Al 4 Tryz.f142)):=A4 fun x y hy=>At (Fn:=Ib) Aa Ab (fun n=>Ac Aa Ab (Jl n) Ah) (fun h=>by cases h) (fun h=>by cases h) (fun n=>(Ad (fn:=Tryz.f142) (L:=ZgM n) (ks:=[]) trivial (by kernel_rfl) (by kernel_rfl))) (by decide) (fun _=>rfl) AaZ hy
def ZgN (n:Nat):Az Ty:=[]
theorem Abb (n:Nat) (x:C.Ds Ty (Af EU)):(Ax Tryz.prog 45 (Am Tryz.prog (Zcp n) []) (Ae (ZgN n)) (Al 12 Tryz.f142) (Aw EU x)).runK (A3 0 EU Mm (Ic n))=Ic (n+1) x:=by kernel_rfl
theorem Abc (n:Nat):A5 true Tryz.prog 45 (Zfy n) (.loop (Al 12 Tryz.f142)):=A4 fun x y hy=>At (Fn:=Ic) Aa Ab (fun n=>Ac Aa Ab (Jl n) Ah) (fun h=>by cases h) (fun h=>by cases h) (fun n=>(Ad (fn:=Tryz.f142) (L:=ZgN n) (ks:=[]) trivial (by kernel_rfl) (by kernel_rfl))) (by decide) (fun _=>rfl) Abb hy
def ZgO (n:Nat):Az Ty:=[(.loop 12,Zfy n)]
theorem Abd (n:Nat) (x:C.Ds Ty (Af EV)):(Ax Tryz.prog 45 (Am Tryz.prog (Zcp n) []) (Ae (ZgO n)) (Al 9 Tryz.f142) (Aw EV x)).runK (A3 0 EV Mn (Ie n))=Ie (n+1) x:=by kernel_rfl
theorem Abe (n:Nat):A5 true Tryz.prog 45 (Zfz n) (.loop (Al 9 Tryz.f142)):=A4 fun x y hy=>At (Fn:=Ie) Aa Ab (fun n=>Ac Aa Ab (Jl n) Ah) (fun h=>by cases h) (fun h=>by cases h) (fun n=>(Ad (fn:=Tryz.f142) (L:=ZgO n) (ks:=[.loop 12]) ⟨Abc n,trivial⟩ (by kernel_rfl) (by kernel_rfl))) (by decide) (fun _=>rfl) Abd hy
def Zjh (n:Nat):Az Ty:=[(.loop 4,Zfx n),(.loop 9,Zfz n)]
theorem Aho (n:Nat) (x:C.Ds Ty (Af Mp)):(Ax Tryz.prog 45 (Am Tryz.prog (Zcp n) []) (Ae (Zjh n)) (Ao Tryz.f142) (Aw Mp x)).runK (Aq Tryz.prog Tryz.f142.results.toList 0 Q8)=XV n x:=by kernel_rfl
theorem Abf (n:Nat):Au Tryz.prog 142 (ZhD n):=AS (As Tryz.func142 rfl rfl (by decide) rfl Aa Ab (Ac Aa Ab (Jl n) Ah) (Ad (fn:=Tryz.f142) (L:=Zjh n) (ks:=[.loop 4,.loop 9]) ⟨Aba n,⟨Abe n,trivial⟩⟩ (by kernel_rfl) (by kernel_rfl)) (Aho n))
def Gp:List (Nat×C):=[(2,.u 51),(3,.u 90),(4,.u 51),(6,.s 3)]
def Nx:List Wo:=[⟨.exit 0,[.u 51,.u 90,.u 51],[(2,.q 0),(3,.q 1),(4,.q 2)],[]⟩,⟨.ret,[.u 51,.u 90,.u 51],[(4,.q 2),(5,.s 3)],[]⟩]
def NF:List (Nat×C):=[(0,.g 51),(1,.g 90)]
def SG:List Wo:=[⟨.ret,[],[],[.g 51,.s 3]⟩]
def II:Nat→An→Ag→An→Int→Option ((An×Ag×An×Unit×Unit×Unit×Unit) ⊕ ((An×Ag×An×Unit×Int×Unit)))
 | 0,_,_,_,_=>none
 | n+1,s,r,x4,i =>
  bif decide (i<(↑s.records.length:Int)) then((A6 s.records i).bind fun v0 =>
  bif decide (v0.machine=r.machine) && (decide (v0.seq=r.seq) && (decide (v0.minute=r.minute) && (decide (v0.kind.n=r.kind.n) && (decide (v0.a=r.a) && (decide (v0.b=r.b) && true))))) then(some (.inr (s,(r,(s,((),(6,()))))))) else
  II n s r x4 (IntKind.i64.wrap (i+1))) else
  some (.inl (s,(r,(x4,((),((),((),())))))))
def Jm (n:Nat) (y:C.Ds Ty (Af Gp)):Option (YT Ty Nx):=II n y.1 y.2.1 y.2.2.1 y.2.2.2.1
def Zgd (n:Nat):St Ty→Tr (Lf Ty):=AZ Gp 3 Nx (Jm n)
def NV (n:Nat) (s:An) (r:Ag):Option ((An×Int×Unit)) :=
 (II n s r (An.mk [] [] [] [] (Ar.mk 0 [] [] 0 0 0) []) 0).bind fun v0 =>
 Sum.elim (fun v1=>(Ph n [v1.fst.records,[v1.snd.fst]]).bind fun v2 =>
 bif v2.fst != 0 then(some (v1.fst,(v2.fst,()))) else
 (app [] v1.fst.records).bind fun v3 =>
 (app v3 [v1.snd.fst]).bind fun v4 =>
 (EO n v4).bind fun v5 =>
 bif v5.fst then(some (v1.fst,(6,()))) else
 bif decide ((↑v4.length:Int)>60) then(some (v1.fst,(3,()))) else
 some (An.mk v1.fst.cards v1.fst.outs v1.fst.runs v4 v1.fst.week v1.fst.roster,(0,()))) (fun v1=>some (v1.snd.snd.fst,(v1.snd.snd.snd.snd.fst,()))) (v0)
def ZU (n:Nat) (y:C.Ds Ty (Af NF)):Option (YT Ty SG):=NV n y.1 y.2.1
def Ziq (n:Nat):A9 Ty:=AA NF 0 SG (ZU n)
def Zgv (n:Nat):List (Nat×A9 Ty):=[(142,ZhD n),(143,Zda n)]
theorem VQ (n:Nat):Ap Tryz.prog (Zgv n):=⟨Abf n,⟨Q1 n,trivial⟩⟩
def ZhE (n:Nat):Az Ty:=[]
theorem AcS (n:Nat) (x:C.Ds Ty (Af Gp)):(Ax Tryz.prog 51 (Am Tryz.prog (Zgv n) []) (Ae (ZhE n)) (Al 2 Tryz.f86) (Aw Gp x)).runK (A3 3 Gp Nx (Jm n))=Jm (n+1) x:=by kernel_rfl
theorem AcT (n:Nat):A5 true Tryz.prog 51 (Zgd n) (.loop (Al 2 Tryz.f86)):=A4 fun x y hy=>At (Fn:=Jm) Aa Ab (fun n=>Ac Aa Ab (VQ n) Ah) (fun h=>by cases h) (fun h=>by cases h) (fun n=>(Ad (fn:=Tryz.f86) (L:=ZhE n) (ks:=[]) trivial (by kernel_rfl) (by kernel_rfl))) (by decide) (fun _=>rfl) AcS hy
def ZjO (n:Nat):Az Ty:=[(.loop 2,Zgd n)]
theorem Aky (n:Nat) (x:C.Ds Ty (Af NF)):(Ax Tryz.prog 51 (Am Tryz.prog (Zgv n) []) (Ae (ZjO n)) (Ao Tryz.f86) (Aw NF x)).runK (Aq Tryz.prog Tryz.f86.results.toList 0 SG)=ZU n x:=by kernel_rfl
theorem AcU (n:Nat):Au Tryz.prog 86 (Ziq n):=As Tryz.func86 rfl rfl (by decide) rfl Aa Ab (Ac Aa Ab (VQ n) Ah) (Ad (fn:=Tryz.f86) (L:=ZjO n) (ks:=[.loop 2]) ⟨AcT n,trivial⟩ (by kernel_rfl) (by kernel_rfl)) (Aky n)
def Hq:List (Nat×C):=[(5,.l 9),(6,.s 3),(7,.o 3),(8,.s 3)]
def Ov:List Wo:=[⟨.exit 0,[],[(5,.l 9),(7,.o 3)],[]⟩,⟨.ret,[],[(2,.s 9),(3,.l 3),(4,.s 4)],[]⟩]
def Pi:List (Nat×C):=[(0,.s 9)]
def Vr:List Wo:=[⟨.ret,[],[],[.s 9,.l 3,.s 4]⟩]
def JU:Nat→(List ByteArray)→Int→(List Int)→Int→Option ((List ByteArray×List Int×Unit) ⊕ ((ByteArray×List Int×Bool×Unit)))
 | 0,_,_,_,_=>none
 | n+1,parts,n_,l,i =>
  bif decide (i≤n_) then((A6 parts i).bind fun v0 =>
  (Vo n v0).bind fun v1 =>
  bif !v1.snd.fst then(some (.inr (B [],([],(false,()))))) else
  (app l [v1.fst]).bind fun v2 =>
  JU n parts n_ v2 (IntKind.i64.wrap (i+1))) else
  some (.inl (parts,(l,())))
def Km (n:Nat) (y:C.Ds Ty (Af Hq)):Option (YT Ty Ov):=JU n y.1 y.2.1 y.2.2.1 y.2.2.2.1
def ZgP (n:Nat):St Ty→Tr (Lf Ty):=AZ Hq 0 Ov (Km n)
def KB (n:Nat) (line:ByteArray):Option ((ByteArray×List Int×Bool×Unit)) :=
 (Vm n line).bind fun v0 =>
 (A6 v0.fst 0).bind fun v1 =>
 (YC n v1).bind fun v2 =>
 bif !decide (v2.fst=0) then(bif (↑v0.fst.length:Int) != IntKind.i64.wrap (v2.fst+1) then(some (B [],([],(false,())))) else
 (JU n v0.fst v2.fst [] 1).bind fun v3 =>
 Sum.elim (fun v4=>(A6 v4.fst 0).bind fun v5 =>
 some (v5,(v4.snd.fst,(true,())))) (fun v4=>some (v4.fst,(v4.snd.fst,(v4.snd.snd.fst,())))) (v3)) else
 some (B [],([],(false,())))
def AcV (n:Nat) (y:C.Ds Ty (Af Pi)):Option (YT Ty Vr):=KB n y.1
def Zcq (n:Nat):A9 Ty:=AA Pi 0 Vr (AcV n)
def ZhF (n:Nat):List (Nat×A9 Ty):=[(63,ZiX n),(64,ZjJ n),(65,ZiY n)]
theorem XW (n:Nat):Ap Tryz.prog (ZhF n):=⟨Aew n,⟨Ahd n,⟨Aez n,trivial⟩⟩⟩
def Zir (n:Nat):Az Ty:=[]
theorem Ae6 (n:Nat) (x:C.Ds Ty (Af Hq)):(Ax Tryz.prog 49 (Am Tryz.prog (ZhF n) []) (Ae (Zir n)) (Al 7 Tryz.f28) (Aw Hq x)).runK (A3 0 Hq Ov (Km n))=Km (n+1) x:=by kernel_rfl
theorem Ae7 (n:Nat):A5 true Tryz.prog 49 (ZgP n) (.loop (Al 7 Tryz.f28)):=A4 fun x y hy=>At (Fn:=Km) Aa Ab (fun n=>Ac Aa Ab (XW n) Ah) (fun h=>by cases h) (fun h=>by cases h) (fun n=>(Ad (fn:=Tryz.f28) (L:=Zir n) (ks:=[]) trivial (by kernel_rfl) (by kernel_rfl))) (by decide) (fun _=>rfl) Ae6 hy
def Zkk (n:Nat):Az Ty:=[(.loop 7,ZgP n)]
theorem Alp (n:Nat) (x:C.Ds Ty (Af Pi)):(Ax Tryz.prog 49 (Am Tryz.prog (ZhF n) []) (Ae (Zkk n)) (Ao Tryz.f28) (Aw Pi x)).runK (Aq Tryz.prog Tryz.f28.results.toList 0 Vr)=AcV n x:=by kernel_rfl
theorem Jn (n:Nat):Au Tryz.prog 28 (Zcq n):=As Tryz.func28 rfl rfl (by decide) rfl Aa Ab (Ac Aa Ab (XW n) Ah) (Ad (fn:=Tryz.f28) (L:=Zkk n) (ks:=[.loop 7]) ⟨Ae7 n,trivial⟩ (by kernel_rfl) (by kernel_rfl)) (Alp n)
def Ko:List (Nat×C):=[(0,.g 65)]
def Ow:List Wo:=[⟨.ret,[],[],[.s 4]⟩]
def SH (n:Nat) (c:A0):Option ((Bool×Unit)) :=
 some (decide (c.kind.n<2),())
def VR (n:Nat) (y:C.Ds Ty (Af Ko)):Option (YT Ty Ow):=SH n y.1
def ZgQ (n:Nat):A9 Ty:=AA Ko 0 Ow (VR n)
def Zis (n:Nat):List (Nat×A9 Ty):=[]
theorem AcW (n:Nat):Ap Tryz.prog (Zis n):=trivial
def Zit (n:Nat):Az Ty:=[]
theorem Ae8 (n:Nat) (x:C.Ds Ty (Af Ko)):(Ax Tryz.prog 6 (Am Tryz.prog (Zis n) []) (Ae (Zit n)) (Ao Tryz.f123) (Aw Ko x)).runK (Aq Tryz.prog Tryz.f123.results.toList 0 Ow)=VR n x:=by kernel_rfl
theorem Zi (n:Nat):Au Tryz.prog 123 (ZgQ n):=As Tryz.func123 rfl rfl (by decide) rfl Aa Ab (Ac Aa Ab (AcW n) Ah) (Ad (fn:=Tryz.f123) (L:=Zit n) (ks:=[]) trivial (by kernel_rfl) (by kernel_rfl)) (Ae8 n)
def EW:List (Nat×C):=[(0,.l 65),(1,.s 3),(2,.s 3),(7,.o 3),(8,.s 3),(9,.s 4),(10,.s 3)]
def Mq:List Wo:=[⟨.exit 2,[],[(0,.l 65),(1,.s 3),(2,.s 3),(7,.o 3),(8,.s 3),(9,.s 4)],[]⟩]
def EX:List (Nat×C):=[(0,.l 65),(1,.s 3),(2,.s 3),(7,.o 3),(8,.s 3)]
def Mr:List Wo:=[⟨.exit 0,[],[(7,.o 3)],[]⟩]
def Ms:List (Nat×C):=[(0,.l 65),(1,.s 3),(2,.s 3)]
def Q9:List Wo:=[⟨.ret,[],[],[.l 3]⟩]
def BM:Nat→(List A0)→Int→Int→(List Int)→Int→Bool→Int→Option ((List A0×Int×Int×List Int×Int×Bool×Unit))
 | 0,_,_,_,_,_,_,_=>none
 | n+1,l,bus,minute,out,n_,is,i =>
  bif decide (i<(↑l.length:Int)) then(bif !is then((A6 l i).bind fun v0 =>
  bif decide (v0.number=n_) then((A6 l i).bind fun v1 =>
  bif decide (v1.bus=bus) then((A6 l i).bind fun v2 =>
  (SH n v2).bind fun v3 =>
  bif v3.fst then((A6 l i).bind fun v4 =>
  (RW n l v4 minute).bind fun v5 =>
  BM n l bus minute out n_ v5.fst (IntKind.i64.wrap (i+1))) else
  BM n l bus minute out n_ false (IntKind.i64.wrap (i+1))) else
  BM n l bus minute out n_ false (IntKind.i64.wrap (i+1))) else
  BM n l bus minute out n_ false (IntKind.i64.wrap (i+1))) else
  BM n l bus minute out n_ true (IntKind.i64.wrap (i+1))) else
  some (l,(bus,(minute,(out,(n_,(is,()))))))
def Ig (n:Nat) (y:C.Ds Ty (Af EW)):Option (YT Ty Mq):=BM n y.1 y.2.1 y.2.2.1 y.2.2.2.1 y.2.2.2.2.1 y.2.2.2.2.2.1 y.2.2.2.2.2.2.1
def Zf0 (n:Nat):St Ty→Tr (Lf Ty):=AZ EW 0 Mq (Ig n)
def E0:Nat→(List A0)→Int→Int→(List Int)→Int→Option ((List Int×Unit))
 | 0,_,_,_,_,_=>none
 | n+1,l,bus,minute,out,n_ =>
  bif decide (n_≤999) then((BM n l bus minute out n_ false 0).bind fun v0 =>
  bif v0.snd.snd.snd.snd.snd.fst then((app v0.snd.snd.snd.fst [v0.snd.snd.snd.snd.fst]).bind fun v1 =>
  E0 n v0.fst v0.snd.fst v0.snd.snd.fst v1 (IntKind.i64.wrap (v0.snd.snd.snd.snd.fst+1))) else
  E0 n v0.fst v0.snd.fst v0.snd.snd.fst v0.snd.snd.snd.fst (IntKind.i64.wrap (v0.snd.snd.snd.snd.fst+1))) else
  some (out,())
def Ih (n:Nat) (y:C.Ds Ty (Af EX)):Option (YT Ty Mr):=E0 n y.1 y.2.1 y.2.2.1 y.2.2.2.1 y.2.2.2.2.1
def Zf1 (n:Nat):St Ty→Tr (Lf Ty):=AZ EX 0 Mr (Ih n)
def Mt (n:Nat) (l:List A0) (bus:Int) (minute:Int):Option ((List Int×Unit)) :=
 (E0 n l bus minute [] 1).bind fun v0 =>
 some (v0.fst,())
def XX (n:Nat) (y:C.Ds Ty (Af Ms)):Option (YT Ty Q9):=Mt n y.1 y.2.1 y.2.2.1
def ZdQ (n:Nat):A9 Ty:=AA Ms 0 Q9 (XX n)
def Zdc (n:Nat):List (Nat×A9 Ty):=[(123,ZgQ n),(124,Zim n)]
theorem Ny (n:Nat):Ap Tryz.prog (Zdc n):=⟨Zi n,⟨AcO n,trivial⟩⟩
def ZgR (n:Nat):Az Ty:=[]
theorem Abg (n:Nat) (x:C.Ds Ty (Af EW)):(Ax Tryz.prog 62 (Am Tryz.prog (Zdc n) []) (Ae (ZgR n)) (Al 7 Tryz.f77) (Aw EW x)).runK (A3 0 EW Mq (Ig n))=Ig (n+1) x:=by kernel_rfl
theorem Abh (n:Nat):A5 true Tryz.prog 62 (Zf0 n) (.loop (Al 7 Tryz.f77)):=A4 fun x y hy=>At (Fn:=Ig) Aa Ab (fun n=>Ac Aa Ab (Ny n) Ah) (fun h=>by cases h) (fun h=>by cases h) (fun n=>(Ad (fn:=Tryz.f77) (L:=ZgR n) (ks:=[]) trivial (by kernel_rfl) (by kernel_rfl))) (by decide) (fun _=>rfl) Abg hy
def ZgS (n:Nat):Az Ty:=[(.loop 7,Zf0 n)]
theorem Abi (n:Nat) (x:C.Ds Ty (Af EX)):(Ax Tryz.prog 62 (Am Tryz.prog (Zdc n) []) (Ae (ZgS n)) (Al 3 Tryz.f77) (Aw EX x)).runK (A3 0 EX Mr (Ih n))=Ih (n+1) x:=by kernel_rfl
theorem Abj (n:Nat):A5 true Tryz.prog 62 (Zf1 n) (.loop (Al 3 Tryz.f77)):=A4 fun x y hy=>At (Fn:=Ih) Aa Ab (fun n=>Ac Aa Ab (Ny n) Ah) (fun h=>by cases h) (fun h=>by cases h) (fun n=>(Ad (fn:=Tryz.f77) (L:=ZgS n) (ks:=[.loop 7]) ⟨Abh n,trivial⟩ (by kernel_rfl) (by kernel_rfl))) (by decide) (fun _=>rfl) Abi hy
def Zji (n:Nat):Az Ty:=[(.loop 3,Zf1 n)]
theorem Ahp (n:Nat) (x:C.Ds Ty (Af Ms)):(Ax Tryz.prog 62 (Am Tryz.prog (Zdc n) []) (Ae (Zji n)) (Ao Tryz.f77) (Aw Ms x)).runK (Aq Tryz.prog Tryz.f77.results.toList 0 Q9)=XX n x:=by kernel_rfl
theorem QA (n:Nat):Au Tryz.prog 77 (ZdQ n):=As Tryz.func77 rfl rfl (by decide) rfl Aa Ab (Ac Aa Ab (Ny n) Ah) (Ad (fn:=Tryz.f77) (L:=Zji n) (ks:=[.loop 3]) ⟨Abj n,trivial⟩ (by kernel_rfl) (by kernel_rfl)) (Ahp n)
def IJ:List (Nat×C):=[(1,.l 9),(2,.l 3),(3,.u 51),(7,.o 3),(8,.s 3)]
def QB:List Wo:=[⟨.exit 0,[.u 51],[(7,.o 3)],[]⟩]
def Sb:List (Nat×C):=[(0,.g 51),(1,.l 9),(2,.l 3)]
def XY:List Wo:=[⟨.ret,[],[],[.l 3]⟩]
def D3:Nat→(List ByteArray)→(List Int)→An→(List Int)→Int→Option ((An×List Int×Unit))
 | 0,_,_,_,_,_=>none
 | n+1,lines,errors,s,out,i =>
  bif decide (i<(↑lines.length:Int)) then((A6 lines i).bind fun v0 =>
  (KB n v0).bind fun v1 =>
  bif v1.snd.snd.fst then(bif v1.fst.beq (B [111,117,116]) then((A6 errors i).bind fun v2 =>
  bif decide (v2=0) then((A6 v1.snd.fst 0).bind fun v3 =>
  (A6 v1.snd.fst 1).bind fun v4 =>
  (Mt n s.cards v3 v4).bind fun v5 =>
  bif decide ((↑v5.fst.length:Int)>0) then((app out [i]).bind fun v6 =>
  D3 n lines errors s v6 (IntKind.i64.wrap (i+1))) else
  D3 n lines errors s out (IntKind.i64.wrap (i+1))) else
  D3 n lines errors s out (IntKind.i64.wrap (i+1))) else
  D3 n lines errors s out (IntKind.i64.wrap (i+1))) else
  D3 n lines errors s out (IntKind.i64.wrap (i+1))) else
  some (s,(out,()))
def Mu (n:Nat) (y:C.Ds Ty (Af IJ)):Option (YT Ty QB):=D3 n y.1 y.2.1 y.2.2.1 y.2.2.2.1 y.2.2.2.2.1
def ZhG (n:Nat):St Ty→Tr (Lf Ty):=AZ IJ 1 QB (Mu n)
def YE (n:Nat) (s:An) (lines:List ByteArray) (errors:List Int):Option ((List Int×Unit)) :=
 (D3 n lines errors s [] 0).bind fun v0 =>
 some (v0.snd.fst,())
def AfU (n:Nat) (y:C.Ds Ty (Af Sb)):Option (YT Ty XY):=YE n y.1 y.2.1 y.2.2.1
def ZjP (n:Nat):A9 Ty:=AA Sb 0 XY (AfU n)
def ZiF (n:Nat):List (Nat×A9 Ty):=[(28,Zcq n),(77,ZdQ n)]
theorem ZV (n:Nat):Ap Tryz.prog (ZiF n):=⟨Jn n,⟨QA n,trivial⟩⟩
def Zjj (n:Nat):Az Ty:=[]
theorem Ahq (n:Nat) (x:C.Ds Ty (Af IJ)):(Ax Tryz.prog 57 (Am Tryz.prog (ZiF n) []) (Ae (Zjj n)) (Al 3 Tryz.f35) (Aw IJ x)).runK (A3 1 IJ QB (Mu n))=Mu (n+1) x:=by kernel_rfl
theorem Ahr (n:Nat):A5 true Tryz.prog 57 (ZhG n) (.loop (Al 3 Tryz.f35)):=A4 fun x y hy=>At (Fn:=Mu) Aa Ab (fun n=>Ac Aa Ab (ZV n) Ah) (fun h=>by cases h) (fun h=>by cases h) (fun n=>(Ad (fn:=Tryz.f35) (L:=Zjj n) (ks:=[]) trivial (by kernel_rfl) (by kernel_rfl))) (by decide) (fun _=>rfl) Ahq hy
def ZkM (n:Nat):Az Ty:=[(.loop 3,ZhG n)]
theorem AnX (n:Nat) (x:C.Ds Ty (Af Sb)):(Ax Tryz.prog 57 (Am Tryz.prog (ZiF n) []) (Ae (ZkM n)) (Ao Tryz.f35) (Aw Sb x)).runK (Aq Tryz.prog Tryz.f35.results.toList 0 XY)=AfU n x:=by kernel_rfl
theorem Ahs (n:Nat):Au Tryz.prog 35 (ZjP n):=As Tryz.func35 rfl rfl (by decide) rfl Aa Ab (Ac Aa Ab (ZV n) Ah) (Ad (fn:=Tryz.f35) (L:=ZkM n) (ks:=[.loop 3]) ⟨Ahr n,trivial⟩ (by kernel_rfl) (by kernel_rfl)) (AnX n)
def Hr:List (Nat×C):=[(1,.s 3),(2,.u 51),(6,.s 3),(7,.s 3),(8,.s 3)]
def Ox:List Wo:=[⟨.exit 0,[.u 51],[(6,.s 3),(7,.s 3)],[]⟩]
def Pj:List (Nat×C):=[(0,.g 51),(1,.s 3)]
def Vs:List Wo:=[⟨.ret,[],[],[.s 3,.s 3]⟩]
def H1:Nat→Int→An→Int→Int→Int→Option ((An×Int×Int×Unit))
 | 0,_,_,_,_,_=>none
 | n+1,bus,s,n_,runs,i =>
  bif decide (i<(↑s.runs.length:Int)) then((A6 s.runs i).bind fun v0 =>
  bif decide (v0.bus=bus) then((A6 s.runs i).bind fun v1 =>
  H1 n bus s (IntKind.i64.wrap (n_+v1.miles)) (IntKind.i64.wrap (runs+1)) (IntKind.i64.wrap (i+1))) else
  H1 n bus s n_ runs (IntKind.i64.wrap (i+1))) else
  some (s,(n_,(runs,())))
def Kp (n:Nat) (y:C.Ds Ty (Af Hr)):Option (YT Ty Ox):=H1 n y.1 y.2.1 y.2.2.1 y.2.2.2.1 y.2.2.2.2.1
def ZgT (n:Nat):St Ty→Tr (Lf Ty):=AZ Hr 1 Ox (Kp n)
def Vt (n:Nat) (s:An) (bus:Int):Option ((Int×Int×Unit)) :=
 (H1 n bus s 0 0 0).bind fun v0 =>
 some (v0.snd.fst,(v0.snd.snd.fst,()))
def AcX (n:Nat) (y:C.Ds Ty (Af Pj)):Option (YT Ty Vs):=Vt n y.1 y.2.1
def Zjk (n:Nat):A9 Ty:=AA Pj 0 Vs (AcX n)
def ZhH (n:Nat):List (Nat×A9 Ty):=[]
theorem XZ (n:Nat):Ap Tryz.prog (ZhH n):=trivial
def Ziu (n:Nat):Az Ty:=[]
theorem Ae9 (n:Nat) (x:C.Ds Ty (Af Hr)):(Ax Tryz.prog 36 (Am Tryz.prog (ZhH n) []) (Ae (Ziu n)) (Al 3 Tryz.f36) (Aw Hr x)).runK (A3 1 Hr Ox (Kp n))=Kp (n+1) x:=by kernel_rfl
theorem AeA (n:Nat):A5 true Tryz.prog 36 (ZgT n) (.loop (Al 3 Tryz.f36)):=A4 fun x y hy=>At (Fn:=Kp) Aa Ab (fun n=>Ac Aa Ab (XZ n) Ah) (fun h=>by cases h) (fun h=>by cases h) (fun n=>(Ad (fn:=Tryz.f36) (L:=Ziu n) (ks:=[]) trivial (by kernel_rfl) (by kernel_rfl))) (by decide) (fun _=>rfl) Ae9 hy
def Zkl (n:Nat):Az Ty:=[(.loop 3,ZgT n)]
theorem Alq (n:Nat) (x:C.Ds Ty (Af Pj)):(Ax Tryz.prog 36 (Am Tryz.prog (ZhH n) []) (Ae (Zkl n)) (Ao Tryz.f36) (Aw Pj x)).runK (Aq Tryz.prog Tryz.f36.results.toList 0 Vs)=AcX n x:=by kernel_rfl
theorem AeB (n:Nat):Au Tryz.prog 36 (Zjk n):=As Tryz.func36 rfl rfl (by decide) rfl Aa Ab (Ac Aa Ab (XZ n) Ah) (Ad (fn:=Tryz.f36) (L:=Zkl n) (ks:=[.loop 3]) ⟨AeA n,trivial⟩ (by kernel_rfl) (by kernel_rfl)) (Alq n)
def DR:List (Nat×C):=[(1,.u 49),(3,.o 3),(4,.s 3)]
def KC:List Wo:=[⟨.exit 0,[.u 49],[(3,.o 3)],[]⟩]
def Kq:List (Nat×C):=[(0,.g 49)]
def Oy:List Wo:=[⟨.ret,[],[],[.l 3]⟩]
def Gq:Nat→Ar→(List Int)→Int→Option ((Ar×List Int×Unit))
 | 0,_,_,_=>none
 | n+1,w,out,i =>
  bif decide (i<(↑w.duties.length:Int)) then((A6 w.duties i).bind fun v0 =>
  (app out [v0.off.hi]).bind fun v1 =>
  Gq n w v1 (IntKind.i64.wrap (i+1))) else
  some (w,(out,()))
def GP (n:Nat) (y:C.Ds Ty (Af DR)):Option (YT Ty KC):=Gq n y.1 y.2.1 y.2.2.1
def ZeN (n:Nat):St Ty→Tr (Lf Ty):=AZ DR 1 KC (GP n)
def SI (n:Nat) (w:Ar):Option ((List Int×Unit)) :=
 (Gq n w [] 0).bind fun v0 =>
 some (v0.snd.fst,())
def VS (n:Nat) (y:C.Ds Ty (Af Kq)):Option (YT Ty Oy):=SI n y.1
def ZgU (n:Nat):A9 Ty:=AA Kq 0 Oy (VS n)
def ZeO (n:Nat):List (Nat×A9 Ty):=[]
theorem Sc (n:Nat):Ap Tryz.prog (ZeO n):=trivial
def Zge (n:Nat):Az Ty:=[]
theorem Zj (n:Nat) (x:C.Ds Ty (Af DR)):(Ax Tryz.prog 23 (Am Tryz.prog (ZeO n) []) (Ae (Zge n)) (Al 3 Tryz.f205) (Aw DR x)).runK (A3 1 DR KC (GP n))=GP (n+1) x:=by kernel_rfl
theorem Zk (n:Nat):A5 true Tryz.prog 23 (ZeN n) (.loop (Al 3 Tryz.f205)):=A4 fun x y hy=>At (Fn:=GP) Aa Ab (fun n=>Ac Aa Ab (Sc n) Ah) (fun h=>by cases h) (fun h=>by cases h) (fun n=>(Ad (fn:=Tryz.f205) (L:=Zge n) (ks:=[]) trivial (by kernel_rfl) (by kernel_rfl))) (by decide) (fun _=>rfl) Zj hy
def Ziv (n:Nat):Az Ty:=[(.loop 3,ZeN n)]
theorem AeC (n:Nat) (x:C.Ds Ty (Af Kq)):(Ax Tryz.prog 23 (Am Tryz.prog (ZeO n) []) (Ae (Ziv n)) (Ao Tryz.f205) (Aw Kq x)).runK (Aq Tryz.prog Tryz.f205.results.toList 0 Oy)=VS n x:=by kernel_rfl
theorem Zl (n:Nat):Au Tryz.prog 205 (ZgU n):=As Tryz.func205 rfl rfl (by decide) rfl Aa Ab (Ac Aa Ab (Sc n) Ah) (Ad (fn:=Tryz.f205) (L:=Ziv n) (ks:=[.loop 3]) ⟨Zk n,trivial⟩ (by kernel_rfl) (by kernel_rfl)) (AeC n)
def EY:List (Nat×C):=[(1,.l 3),(2,.s 3),(3,.s 3),(4,.u 49),(9,.s 3)]
def Mv:List Wo:=[⟨.exit 0,[.u 49],[],[]⟩,⟨.ret,[.u 49],[(8,.s 3)],[]⟩]
def Mw:List (Nat×C):=[(0,.g 49),(1,.l 3),(2,.s 3),(3,.s 3)]
def QC:List Wo:=[⟨.ret,[],[],[.s 3]⟩]
def E1:Nat→(List Int)→Int→Int→Ar→Int→Option ((Ar×Unit) ⊕ ((Ar×Int×Unit)))
 | 0,_,_,_,_,_=>none
 | n+1,roster,driver,day,w,i =>
  bif decide (i<(↑w.duties.length:Int)) then((A6 roster i).bind fun v0 =>
  bif decide (v0=driver) then((A6 w.duties i).bind fun v1 =>
  bif decide (v1.day=day) then(some (.inr (w,(i,())))) else
  E1 n roster driver day w (IntKind.i64.wrap (i+1))) else
  E1 n roster driver day w (IntKind.i64.wrap (i+1))) else
  some (.inl (w,()))
def Ii (n:Nat) (y:C.Ds Ty (Af EY)):Option (YT Ty Mv):=E1 n y.1 y.2.1 y.2.2.1 y.2.2.2.1 y.2.2.2.2.1
def Zf2 (n:Nat):St Ty→Tr (Lf Ty):=AZ EY 1 Mv (Ii n)
def C7 (n:Nat) (w:Ar) (roster:List Int) (driver:Int) (day:Int):Option ((Int×Unit)) :=
 (E1 n roster driver day w 0).bind fun v0 =>
 Sum.elim (fun v1=>some (-1,())) (fun v1=>some (v1.snd.fst,())) (v0)
def Ya (n:Nat) (y:C.Ds Ty (Af Mw)):Option (YT Ty QC):=C7 n y.1 y.2.1 y.2.2.1 y.2.2.2.1
def Zcz (n:Nat):A9 Ty:=CG (AA Mw 0 QC (Ya n))
def ZfE (n:Nat):List (Nat×A9 Ty):=[]
theorem TW (n:Nat):Ap Tryz.prog (ZfE n):=trivial
def ZgV (n:Nat):Az Ty:=[]
theorem Abk (n:Nat) (x:C.Ds Ty (Af EY)):(Ax Tryz.prog 34 (Am Tryz.prog (ZfE n) []) (Ae (ZgV n)) (Al 2 Tryz.f316) (Aw EY x)).runK (A3 1 EY Mv (Ii n))=Ii (n+1) x:=by kernel_rfl
theorem Abl (n:Nat):A5 true Tryz.prog 34 (Zf2 n) (.loop (Al 2 Tryz.f316)):=A4 fun x y hy=>At (Fn:=Ii) Aa Ab (fun n=>Ac Aa Ab (TW n) Ah) (fun h=>by cases h) (fun h=>by cases h) (fun n=>(Ad (fn:=Tryz.f316) (L:=ZgV n) (ks:=[]) trivial (by kernel_rfl) (by kernel_rfl))) (by decide) (fun _=>rfl) Abk hy
def Zjl (n:Nat):Az Ty:=[(.loop 2,Zf2 n)]
theorem Aht (n:Nat) (x:C.Ds Ty (Af Mw)):(Ax Tryz.prog 34 (Am Tryz.prog (ZfE n) []) (Ae (Zjl n)) (Ao Tryz.f316) (Aw Mw x)).runK (Aq Tryz.prog Tryz.f316.results.toList 0 QC)=Ya n x:=by kernel_rfl
theorem KD (n:Nat):Au Tryz.prog 316 (Zcz n):=AS (As Tryz.func316 rfl rfl (by decide) rfl Aa Ab (Ac Aa Ab (TW n) Ah) (Ad (fn:=Tryz.f316) (L:=Zjl n) (ks:=[.loop 2]) ⟨Abl n,trivial⟩ (by kernel_rfl) (by kernel_rfl)) (Aht n))
def Hs:List (Nat×C):=[(0,.l 3),(1,.s 3),(5,.s 3)]
def Oz:List Wo:=[⟨.exit 0,[],[],[]⟩,⟨.ret,[],[(4,.s 4)],[]⟩]
def Pk:List (Nat×C):=[(0,.l 3),(1,.s 3)]
def Vu:List Wo:=[⟨.ret,[],[],[.s 4]⟩]
def NG:Nat→(List Int)→Int→Int→Option (Unit ⊕ ((Bool×Unit)))
 | 0,_,_,_=>none
 | n+1,l,n_,i =>
  bif decide (i<(↑l.length:Int)) then((A6 l i).bind fun v0 =>
  bif decide (v0=n_) then(some (.inr (true,()))) else
  NG n l n_ (IntKind.i64.wrap (i+1))) else
  some (.inl ())
def Kr (n:Nat) (y:C.Ds Ty (Af Hs)):Option (YT Ty Oz):=NG n y.1 y.2.1 y.2.2.1
def ZgW (n:Nat):St Ty→Tr (Lf Ty):=AZ Hs 0 Oz (Kr n)
def Nz (n:Nat) (l:List Int) (n_:Int):Option ((Bool×Unit)) :=
 (NG n l n_ 0).bind fun v0 =>
 Sum.elim (fun v1=>some (false,())) (fun v1=>some (v1.fst,())) (v0)
def AcY (n:Nat) (y:C.Ds Ty (Af Pk)):Option (YT Ty Vu):=Nz n y.1 y.2.1
def Zjm (n:Nat):A9 Ty:=CG (AA Pk 0 Vu (AcY n))
def ZhI (n:Nat):List (Nat×A9 Ty):=[]
theorem Yb (n:Nat):Ap Tryz.prog (ZhI n):=trivial
def Ziw (n:Nat):Az Ty:=[]
theorem AeD (n:Nat) (x:C.Ds Ty (Af Hs)):(Ax Tryz.prog 18 (Am Tryz.prog (ZhI n) []) (Ae (Ziw n)) (Al 2 Tryz.f317) (Aw Hs x)).runK (A3 0 Hs Oz (Kr n))=Kr (n+1) x:=by kernel_rfl
theorem AeE (n:Nat):A5 true Tryz.prog 18 (ZgW n) (.loop (Al 2 Tryz.f317)):=A4 fun x y hy=>At (Fn:=Kr) Aa Ab (fun n=>Ac Aa Ab (Yb n) Ah) (fun h=>by cases h) (fun h=>by cases h) (fun n=>(Ad (fn:=Tryz.f317) (L:=Ziw n) (ks:=[]) trivial (by kernel_rfl) (by kernel_rfl))) (by decide) (fun _=>rfl) AeD hy
def Zkm (n:Nat):Az Ty:=[(.loop 2,ZgW n)]
theorem Alr (n:Nat) (x:C.Ds Ty (Af Pk)):(Ax Tryz.prog 18 (Am Tryz.prog (ZhI n) []) (Ae (Zkm n)) (Ao Tryz.f317) (Aw Pk x)).runK (Aq Tryz.prog Tryz.f317.results.toList 0 Vu)=AcY n x:=by kernel_rfl
theorem AeF (n:Nat):Au Tryz.prog 317 (Zjm n):=AS (As Tryz.func317 rfl rfl (by decide) rfl Aa Ab (Ac Aa Ab (Yb n) Ah) (Ad (fn:=Tryz.f317) (L:=Zkm n) (ks:=[.loop 2]) ⟨AeE n,trivial⟩ (by kernel_rfl) (by kernel_rfl)) (Alr n))
def Gr:List (Nat×C):=[(1,.l 3),(2,.l 3),(3,.s 3),(5,.u 49),(11,.s 3)]
def N0:List Wo:=[⟨.exit 0,[.u 49],[(3,.s 3),(5,.q 0)],[]⟩,⟨.ret,[.u 49],[(10,.s 3)],[]⟩]
def NH:List (Nat×C):=[(0,.g 49),(1,.l 3),(2,.l 3),(3,.s 3),(4,.s 3)]
def SJ:List Wo:=[⟨.ret,[],[],[.s 3]⟩]
def Gs:Nat→(List Int)→(List Int)→Int→Ar→Int→Option ((Ar×Int×Unit×Unit) ⊕ ((Ar×Int×Unit)))
 | 0,_,_,_,_,_=>none
 | n+1,roster,truth,driver,w,d =>
  bif decide (d≥0) then((C7 n w roster driver d).bind fun v0 =>
  bif decide (v0.fst≥0) then((A6 truth v0.fst).bind fun v1 =>
  some (.inr (w,(IntKind.i64.wrap (IntKind.i64.wrap (1440*d)+v1),())))) else
  Gs n roster truth driver w (IntKind.i64.wrap (d-1))) else
  some (.inl (w,(driver,((),()))))
def Jo (n:Nat) (y:C.Ds Ty (Af Gr)):Option (YT Ty N0):=Gs n y.1 y.2.1 y.2.2.1 y.2.2.2.1 y.2.2.2.2.1
def Zgf (n:Nat):St Ty→Tr (Lf Ty):=AZ Gr 1 N0 (Jo n)
def Sd (n:Nat) (w:Ar) (roster:List Int) (truth:List Int) (driver:Int) (day:Int):Option ((Int×Unit)) :=
 (Gs n roster truth driver w (IntKind.i64.wrap (day-1))).bind fun v0 =>
 Sum.elim (fun v1=>(A6 v1.fst.drivers v1.snd.fst).bind fun v2 =>
 some (v2.off,())) (fun v1=>some (v1.snd.fst,())) (v0)
def ZW (n:Nat) (y:C.Ds Ty (Af NH)):Option (YT Ty SJ):=Sd n y.1 y.2.1 y.2.2.1 y.2.2.2.1 y.2.2.2.2.1
def Zix (n:Nat):A9 Ty:=CG (AA NH 0 SJ (ZW n))
def Zgw (n:Nat):List (Nat×A9 Ty):=[(316,Zcz n)]
theorem VT (n:Nat):Ap Tryz.prog (Zgw n):=⟨KD n,trivial⟩
def ZhJ (n:Nat):Az Ty:=[]
theorem AcZ (n:Nat) (x:C.Ds Ty (Af Gr)):(Ax Tryz.prog 39 (Am Tryz.prog (Zgw n) []) (Ae (ZhJ n)) (Al 2 Tryz.f318) (Aw Gr x)).runK (A3 1 Gr N0 (Jo n))=Jo (n+1) x:=by kernel_rfl
theorem Ada (n:Nat):A5 true Tryz.prog 39 (Zgf n) (.loop (Al 2 Tryz.f318)):=A4 fun x y hy=>At (Fn:=Jo) Aa Ab (fun n=>Ac Aa Ab (VT n) Ah) (fun h=>by cases h) (fun h=>by cases h) (fun n=>(Ad (fn:=Tryz.f318) (L:=ZhJ n) (ks:=[]) trivial (by kernel_rfl) (by kernel_rfl))) (by decide) (fun _=>rfl) AcZ hy
def ZjQ (n:Nat):Az Ty:=[(.loop 2,Zgf n)]
theorem Akz (n:Nat) (x:C.Ds Ty (Af NH)):(Ax Tryz.prog 39 (Am Tryz.prog (Zgw n) []) (Ae (ZjQ n)) (Ao Tryz.f318) (Aw NH x)).runK (Aq Tryz.prog Tryz.f318.results.toList 0 SJ)=ZW n x:=by kernel_rfl
theorem Adb (n:Nat):Au Tryz.prog 318 (Zix n):=AS (As Tryz.func318 rfl rfl (by decide) rfl Aa Ab (Ac Aa Ab (VT n) Ah) (Ad (fn:=Tryz.f318) (L:=ZjQ n) (ks:=[.loop 2]) ⟨Ada n,trivial⟩ (by kernel_rfl) (by kernel_rfl)) (Akz n))
def EZ:List (Nat×C):=[(1,.l 3),(2,.s 3),(3,.s 3),(4,.u 49),(9,.s 3)]
def Mx:List Wo:=[⟨.exit 0,[.u 49],[(2,.s 3),(3,.s 3),(4,.q 0),(9,.s 3)],[]⟩]
def My:List (Nat×C):=[(0,.g 49),(1,.l 3),(2,.s 3),(3,.s 3)]
def QD:List Wo:=[⟨.ret,[],[],[.s 3]⟩]
def E2:Nat→(List Int)→Int→Int→Ar→Int→Option ((Ar×Int×Int×Unit×Int×Unit))
 | 0,_,_,_,_,_=>none
 | n+1,roster,driver,day,w,n_ =>
  bif decide (day≥0) then((C7 n w roster driver day).bind fun v0 =>
  bif decide (v0.fst≥0) then(E2 n roster driver (IntKind.i64.wrap (day-1)) w (IntKind.i64.wrap (n_+1))) else
  some (w,(driver,(day,((),(n_,())))))) else
  some (w,(driver,(day,((),(n_,())))))
def Ij (n:Nat) (y:C.Ds Ty (Af EZ)):Option (YT Ty Mx):=E2 n y.1 y.2.1 y.2.2.1 y.2.2.2.1 y.2.2.2.2.1
def Zf3 (n:Nat):St Ty→Tr (Lf Ty):=AZ EZ 1 Mx (Ij n)
def Pm (n:Nat) (w:Ar) (roster:List Int) (driver:Int) (day:Int):Option ((Int×Unit)) :=
 (E2 n roster driver day w 0).bind fun v0 =>
 bif decide (v0.snd.snd.fst<0) then((A6 v0.fst.drivers v0.snd.fst).bind fun v1 =>
 some (IntKind.i64.wrap (v0.snd.snd.snd.snd.fst+v1.row),())) else
 some (v0.snd.snd.snd.snd.fst,())
def Yc (n:Nat) (y:C.Ds Ty (Af My)):Option (YT Ty QD):=Pm n y.1 y.2.1 y.2.2.1 y.2.2.2.1
def ZhK (n:Nat):A9 Ty:=CG (AA My 0 QD (Yc n))
def ZfF (n:Nat):List (Nat×A9 Ty):=[(316,Zcz n)]
theorem TX (n:Nat):Ap Tryz.prog (ZfF n):=⟨KD n,trivial⟩
def ZgX (n:Nat):Az Ty:=[]
theorem Abm (n:Nat) (x:C.Ds Ty (Af EZ)):(Ax Tryz.prog 35 (Am Tryz.prog (ZfF n) []) (Ae (ZgX n)) (Al 2 Tryz.f319) (Aw EZ x)).runK (A3 1 EZ Mx (Ij n))=Ij (n+1) x:=by kernel_rfl
theorem Abn (n:Nat):A5 true Tryz.prog 35 (Zf3 n) (.loop (Al 2 Tryz.f319)):=A4 fun x y hy=>At (Fn:=Ij) Aa Ab (fun n=>Ac Aa Ab (TX n) Ah) (fun h=>by cases h) (fun h=>by cases h) (fun n=>(Ad (fn:=Tryz.f319) (L:=ZgX n) (ks:=[]) trivial (by kernel_rfl) (by kernel_rfl))) (by decide) (fun _=>rfl) Abm hy
def Zjn (n:Nat):Az Ty:=[(.loop 2,Zf3 n)]
theorem Ahu (n:Nat) (x:C.Ds Ty (Af My)):(Ax Tryz.prog 35 (Am Tryz.prog (ZfF n) []) (Ae (Zjn n)) (Ao Tryz.f319) (Aw My x)).runK (Aq Tryz.prog Tryz.f319.results.toList 0 QD)=Yc n x:=by kernel_rfl
theorem Abo (n:Nat):Au Tryz.prog 319 (ZhK n):=AS (As Tryz.func319 rfl rfl (by decide) rfl Aa Ab (Ac Aa Ab (TX n) Ah) (Ad (fn:=Tryz.f319) (L:=Zjn n) (ks:=[.loop 2]) ⟨Abn n,trivial⟩ (by kernel_rfl) (by kernel_rfl)) (Ahu n))
def DS:List (Nat×C):=[(1,.l 3),(2,.l 3),(4,.s 3),(6,.u 49),(13,.s 3),(14,.s 3)]
def KE:List Wo:=[⟨.exit 0,[.u 49],[(6,.q 0),(13,.s 3)],[]⟩]
def Ks:List (Nat×C):=[(0,.g 49),(1,.l 3),(2,.l 3),(3,.s 5),(4,.s 3),(5,.s 3)]
def O0:List Wo:=[⟨.ret,[],[],[.s 4]⟩]
def D9:Nat→(List Int)→(List Int)→Int→Ar→Int→Int→Option ((Ar×Unit×Int×Unit))
 | 0,_,_,_,_,_,_=>none
 | n+1,roster,truth,driver,w,sum,i =>
  bif decide (i<(↑w.duties.length:Int)) then((A6 roster i).bind fun v0 =>
  bif decide (v0=driver) then((A6 truth i).bind fun v1 =>
  (A6 w.duties i).bind fun v2 =>
  D9 n roster truth driver w (IntKind.i64.wrap (sum+IntKind.i64.wrap (v1-v2.on))) (IntKind.i64.wrap (i+1))) else
  D9 n roster truth driver w sum (IntKind.i64.wrap (i+1))) else
  some (w,((),(sum,())))
def GQ (n:Nat) (y:C.Ds Ty (Af DS)):Option (YT Ty KE):=D9 n y.1 y.2.1 y.2.2.1 y.2.2.2.1 y.2.2.2.2.1 y.2.2.2.2.2.1
def ZeP (n:Nat):St Ty→Tr (Lf Ty):=AZ DS 1 KE (GQ n)
def Fz (n:Nat) (w:Ar) (roster:List Int) (truth:List Int) (kind:IK .u8) (driver:Int) (duty:Int):Option ((Bool×Unit)) :=
 bif decide (kind.n=5) then((A6 w.drivers driver).bind fun v0 =>
 (D9 n roster truth driver w v0.used 0).bind fun v1 =>
 some (decide (v1.snd.snd.fst>v1.fst.hours),())) else
 (A6 roster duty).bind fun v0 =>
 bif v0 != driver then(some (false,())) else
 (A6 w.duties duty).bind fun v1 =>
 (A6 w.drivers driver).bind fun v2 =>
 (C7 n w roster driver v1.day).bind fun v3 =>
 bif decide (kind.n=0) then((Nz n v2.knows v1.route).bind fun v4 =>
 some (!v4.fst,())) else
 bif decide (kind.n=1) then((Nz n v2.leave v1.day).bind fun v4 =>
 some (v4.fst,())) else
 bif decide (kind.n=2) then(some (!decide (v3.fst=duty),())) else
 bif decide (kind.n=3) then(bif decide (v3.fst=duty) then((Sd n w roster truth driver v1.day).bind fun v4 =>
 some (decide (IntKind.i64.wrap (IntKind.i64.wrap (IntKind.i64.wrap (1440*v1.day)+v1.on)-v4.fst)<w.rest),())) else
 some (false,())) else
 bif decide (v3.fst=duty) then((Pm n w roster driver v1.day).bind fun v4 =>
 some (decide (v4.fst>w.run),())) else
 some (false,())
def VU (n:Nat) (y:C.Ds Ty (Af Ks)):Option (YT Ty O0):=Fz n y.1 y.2.1 y.2.2.1 y.2.2.2.1 y.2.2.2.2.1 y.2.2.2.2.2.1
def ZgY (n:Nat):A9 Ty:=CG (AA Ks 0 O0 (VU n))
def ZeQ (n:Nat):List (Nat×A9 Ty):=[(316,Zcz n),(317,Zjm n),(318,Zix n),(319,ZhK n)]
theorem Se (n:Nat):Ap Tryz.prog (ZeQ n):=⟨KD n,⟨AeF n,⟨Adb n,⟨Abo n,trivial⟩⟩⟩⟩
def Zgg (n:Nat):Az Ty:=[]
theorem Zm (n:Nat) (x:C.Ds Ty (Af DS)):(Ax Tryz.prog 134 (Am Tryz.prog (ZeQ n) []) (Ae (Zgg n)) (Al 4 Tryz.f269) (Aw DS x)).runK (A3 1 DS KE (GQ n))=GQ (n+1) x:=by kernel_rfl
theorem Zn (n:Nat):A5 true Tryz.prog 134 (ZeP n) (.loop (Al 4 Tryz.f269)):=A4 fun x y hy=>At (Fn:=GQ) Aa Ab (fun n=>Ac Aa Ab (Se n) Ah) (fun h=>by cases h) (fun h=>by cases h) (fun n=>(Ad (fn:=Tryz.f269) (L:=Zgg n) (ks:=[]) trivial (by kernel_rfl) (by kernel_rfl))) (by decide) (fun _=>rfl) Zm hy
def Ziy (n:Nat):Az Ty:=[(.loop 4,ZeP n)]
theorem AeG (n:Nat) (x:C.Ds Ty (Af Ks)):(Ax Tryz.prog 134 (Am Tryz.prog (ZeQ n) []) (Ae (Ziy n)) (Ao Tryz.f269) (Aw Ks x)).runK (Aq Tryz.prog Tryz.f269.results.toList 0 O0)=VU n x:=by kernel_rfl
theorem Zo (n:Nat):Au Tryz.prog 269 (ZgY n):=AS (As Tryz.func269 rfl rfl (by decide) rfl Aa Ab (Ac Aa Ab (Se n) Ah) (Ad (fn:=Tryz.f269) (L:=Ziy n) (ks:=[.loop 4]) ⟨Zn n,trivial⟩ (by kernel_rfl) (by kernel_rfl)) (AeG n))
def DT:List (Nat×C):=[(1,.l 3),(2,.l 3),(3,.u 49),(7,.o 346),(8,.s 3),(9,.s 5),(10,.s 3)]
def KF:List Wo:=[⟨.exit 4,[.u 49],[(1,.l 3),(2,.l 3),(3,.q 0),(7,.o 346),(8,.s 3),(9,.s 5)],[]⟩]
def DU:List (Nat×C):=[(1,.l 3),(2,.l 3),(3,.u 49),(7,.o 346),(8,.s 3),(9,.s 5)]
def KG:List Wo:=[⟨.exit 2,[.u 49],[(1,.l 3),(2,.l 3),(3,.q 0),(7,.o 346),(8,.s 3)],[]⟩]
def DV:List (Nat×C):=[(1,.l 3),(2,.l 3),(3,.u 49),(7,.o 346),(8,.s 3)]
def KH:List Wo:=[⟨.exit 0,[.u 49],[(7,.o 346)],[]⟩]
def Kt:List (Nat×C):=[(0,.g 49),(1,.l 3),(2,.l 3)]
def O1:List Wo:=[⟨.ret,[],[],[.l 346]⟩]
def DA:Nat→(List Int)→(List Int)→Ar→(List Ay)→Int→(IK .u8)→Int→Option ((Ar×List Int×List Int×Unit×List Ay×Int×IK .u8×Unit))
 | 0,_,_,_,_,_,_,_=>none
 | n+1,roster,truth,w,out,driver,kind,duty =>
  bif decide (duty<(↑w.duties.length:Int)) then((Fz n w roster truth kind driver duty).bind fun v0 =>
  bif v0.fst then((app out [Ay.mk kind driver duty]).bind fun v1 =>
  DA n roster truth w v1 driver kind (IntKind.i64.wrap (duty+1))) else
  DA n roster truth w out driver kind (IntKind.i64.wrap (duty+1))) else
  some (w,(roster,(truth,((),(out,(driver,(kind,())))))))
def GR (n:Nat) (y:C.Ds Ty (Af DT)):Option (YT Ty KF):=DA n y.1 y.2.1 y.2.2.1 y.2.2.2.1 y.2.2.2.2.1 y.2.2.2.2.2.1 y.2.2.2.2.2.2.1
def ZeR (n:Nat):St Ty→Tr (Lf Ty):=AZ DT 1 KF (GR n)
def Gt:Nat→(List Int)→(List Int)→Ar→(List Ay)→Int→(IK .u8)→Option ((Ar×List Int×List Int×Unit×List Ay×Int×Unit))
 | 0,_,_,_,_,_,_=>none
 | n+1,roster,truth,w,out,driver,kind =>
  bif decide (kind.n<5) then((DA n roster truth w out driver kind 0).bind fun v0 =>
  Gt n v0.snd.fst v0.snd.snd.fst v0.fst v0.snd.snd.snd.snd.fst v0.snd.snd.snd.snd.snd.fst (IK.mk (IntKind.u8.wrap (v0.snd.snd.snd.snd.snd.snd.fst.n+1)))) else
  some (w,(roster,(truth,((),(out,(driver,()))))))
def GS (n:Nat) (y:C.Ds Ty (Af DU)):Option (YT Ty KG):=Gt n y.1 y.2.1 y.2.2.1 y.2.2.2.1 y.2.2.2.2.1 y.2.2.2.2.2.1
def ZeS (n:Nat):St Ty→Tr (Lf Ty):=AZ DU 1 KG (GS n)
def DB:Nat→(List Int)→(List Int)→Ar→(List Ay)→Int→Option ((Ar×List Ay×Unit))
 | 0,_,_,_,_,_=>none
 | n+1,roster,truth,w,out,driver =>
  bif decide (driver<(↑w.drivers.length:Int)) then((Gt n roster truth w out driver (IK.mk 0)).bind fun v0 =>
  (Fz n v0.fst v0.snd.fst v0.snd.snd.fst (IK.mk 5) v0.snd.snd.snd.snd.snd.fst 0).bind fun v1 =>
  bif v1.fst then((app v0.snd.snd.snd.snd.fst [Ay.mk (IK.mk 5) v0.snd.snd.snd.snd.snd.fst 0]).bind fun v2 =>
  DB n v0.snd.fst v0.snd.snd.fst v0.fst v2 (IntKind.i64.wrap (v0.snd.snd.snd.snd.snd.fst+1))) else
  DB n v0.snd.fst v0.snd.snd.fst v0.fst v0.snd.snd.snd.snd.fst (IntKind.i64.wrap (v0.snd.snd.snd.snd.snd.fst+1))) else
  some (w,(out,()))
def GT (n:Nat) (y:C.Ds Ty (Af DV)):Option (YT Ty KH):=DB n y.1 y.2.1 y.2.2.1 y.2.2.2.1 y.2.2.2.2.1
def ZeT (n:Nat):St Ty→Tr (Lf Ty):=AZ DV 1 KH (GT n)
def SK (n:Nat) (w:Ar) (roster:List Int) (truth:List Int):Option ((List Ay×Unit)) :=
 (DB n roster truth w [] 0).bind fun v0 =>
 some (v0.snd.fst,())
def VV (n:Nat) (y:C.Ds Ty (Af Kt)):Option (YT Ty O1):=SK n y.1 y.2.1 y.2.2.1
def ZgZ (n:Nat):A9 Ty:=AA Kt 0 O1 (VV n)
def Zca (n:Nat):List (Nat×A9 Ty):=[(269,ZgY n)]
theorem Ik (n:Nat):Ap Tryz.prog (Zca n):=⟨Zo n,trivial⟩
def Zgh (n:Nat):Az Ty:=[]
theorem Zp (n:Nat) (x:C.Ds Ty (Af DT)):(Ax Tryz.prog 54 (Am Tryz.prog (Zca n) []) (Ae (Zgh n)) (Al 9 Tryz.f204) (Aw DT x)).runK (A3 1 DT KF (GR n))=GR (n+1) x:=by kernel_rfl
theorem Zq (n:Nat):A5 true Tryz.prog 54 (ZeR n) (.loop (Al 9 Tryz.f204)):=A4 fun x y hy=>At (Fn:=GR) Aa Ab (fun n=>Ac Aa Ab (Ik n) Ah) (fun h=>by cases h) (fun h=>by cases h) (fun n=>(Ad (fn:=Tryz.f204) (L:=Zgh n) (ks:=[]) trivial (by kernel_rfl) (by kernel_rfl))) (by decide) (fun _=>rfl) Zp hy
def Zgi (n:Nat):Az Ty:=[(.loop 9,ZeR n)]
theorem Zr (n:Nat) (x:C.Ds Ty (Af DU)):(Ax Tryz.prog 54 (Am Tryz.prog (Zca n) []) (Ae (Zgi n)) (Al 6 Tryz.f204) (Aw DU x)).runK (A3 1 DU KG (GS n))=GS (n+1) x:=by kernel_rfl
theorem Zs (n:Nat):A5 true Tryz.prog 54 (ZeS n) (.loop (Al 6 Tryz.f204)):=A4 fun x y hy=>At (Fn:=GS) Aa Ab (fun n=>Ac Aa Ab (Ik n) Ah) (fun h=>by cases h) (fun h=>by cases h) (fun n=>(Ad (fn:=Tryz.f204) (L:=Zgi n) (ks:=[.loop 9]) ⟨Zq n,trivial⟩ (by kernel_rfl) (by kernel_rfl))) (by decide) (fun _=>rfl) Zr hy
def Zgj (n:Nat):Az Ty:=[(.loop 6,ZeS n)]
theorem Zt (n:Nat) (x:C.Ds Ty (Af DV)):(Ax Tryz.prog 54 (Am Tryz.prog (Zca n) []) (Ae (Zgj n)) (Al 3 Tryz.f204) (Aw DV x)).runK (A3 1 DV KH (GT n))=GT (n+1) x:=by kernel_rfl
theorem Zu (n:Nat):A5 true Tryz.prog 54 (ZeT n) (.loop (Al 3 Tryz.f204)):=A4 fun x y hy=>At (Fn:=GT) Aa Ab (fun n=>Ac Aa Ab (Ik n) Ah) (fun h=>by cases h) (fun h=>by cases h) (fun n=>(Ad (fn:=Tryz.f204) (L:=Zgj n) (ks:=[.loop 6]) ⟨Zs n,trivial⟩ (by kernel_rfl) (by kernel_rfl))) (by decide) (fun _=>rfl) Zt hy
def Ziz (n:Nat):Az Ty:=[(.loop 3,ZeT n)]
theorem AeH (n:Nat) (x:C.Ds Ty (Af Kt)):(Ax Tryz.prog 54 (Am Tryz.prog (Zca n) []) (Ae (Ziz n)) (Ao Tryz.f204) (Aw Kt x)).runK (Aq Tryz.prog Tryz.f204.results.toList 0 O1)=VV n x:=by kernel_rfl
theorem Zv (n:Nat):Au Tryz.prog 204 (ZgZ n):=As Tryz.func204 rfl rfl (by decide) rfl Aa Ab (Ac Aa Ab (Ik n) Ah) (Ad (fn:=Tryz.f204) (L:=Ziz n) (ks:=[.loop 3]) ⟨Zu n,trivial⟩ (by kernel_rfl) (by kernel_rfl)) (AeH n)
def Mz:List (Nat×C):=[(0,.g 49),(1,.l 3)]
def QE:List Wo:=[⟨.ret,[],[],[.s 4]⟩]
def Pn (n:Nat) (w:Ar) (roster:List Int):Option ((Bool×Unit)) :=
 (SI n w).bind fun v0 =>
 (SK n w roster v0.fst).bind fun v1 =>
 some (decide ((↑v1.fst.length:Int)=0),())
def Yd (n:Nat) (y:C.Ds Ty (Af Mz)):Option (YT Ty QE):=Pn n y.1 y.2.1
def ZhL (n:Nat):A9 Ty:=CG (AA Mz 0 QE (Yd n))
def Zjo (n:Nat):List (Nat×A9 Ty):=[(205,ZgU n),(204,ZgZ n)]
theorem AeI (n:Nat):Ap Tryz.prog (Zjo n):=⟨Zl n,⟨Zv n,trivial⟩⟩
def Zjp (n:Nat):Az Ty:=[]
theorem Ahv (n:Nat) (x:C.Ds Ty (Af Mz)):(Ax Tryz.prog 12 (Am Tryz.prog (Zjo n) []) (Ae (Zjp n)) (Ao Tryz.f148) (Aw Mz x)).runK (Aq Tryz.prog Tryz.f148.results.toList 0 QE)=Yd n x:=by kernel_rfl
theorem Abp (n:Nat):Au Tryz.prog 148 (ZhL n):=AS (As Tryz.func148 rfl rfl (by decide) rfl Aa Ab (Ac Aa Ab (AeI n) Ah) (Ad (fn:=Tryz.f148) (L:=Zjp n) (ks:=[]) trivial (by kernel_rfl) (by kernel_rfl)) (Ahv n))
def Fa:List (Nat×C):=[(1,.u 49),(3,.s 3)]
def M3:List Wo:=[⟨.exit 0,[.u 49],[(1,.q 0)],[]⟩,⟨.ret,[.u 49],[(2,.s 3)],[]⟩]
def Fb:List (Nat×C):=[(1,.u 49),(5,.s 3)]
def M4:List Wo:=[⟨.exit 2,[.u 49],[],[]⟩,⟨.ret,[.u 49],[(2,.s 3)],[]⟩]
def M5:List (Nat×C):=[(0,.g 49)]
def QF:List Wo:=[⟨.ret,[],[],[.s 3]⟩]
def E3:Nat→Ar→Int→Option ((Ar×Unit×Unit) ⊕ ((Ar×Int×Unit)))
 | 0,_,_=>none
 | n+1,w,i =>
  bif decide (i<(↑w.duties.length:Int)) then((A6 w.duties i).bind fun v0 =>
  (AX n v0.day 0 (IntKind.i64.wrap (w.days-1))).bind fun v1 =>
  bif !!v1.fst then((AX n v0.on 0 1439).bind fun v2 =>
  bif !!v2.fst then((AX n v0.off.lo v0.on v0.off.hi).bind fun v3 =>
  bif !!v3.fst then(bif !decide (v0.off.hi>IntKind.i64.wrap (v0.on+1440)) then((AX n v0.route 0 15).bind fun v4 =>
  bif !v4.fst then(some (.inr (w,(1,())))) else
  E3 n w (IntKind.i64.wrap (i+1))) else
  some (.inr (w,(1,())))) else
  some (.inr (w,(1,())))) else
  some (.inr (w,(1,())))) else
  some (.inr (w,(1,())))) else
  some (.inl (w,((),())))
def Il (n:Nat) (y:C.Ds Ty (Af Fa)):Option (YT Ty M3):=E3 n y.1 y.2.1
def Zf4 (n:Nat):St Ty→Tr (Lf Ty):=AZ Fa 1 M3 (Il n)
def Ht:Nat→Ar→Int→Option ((Ar×Unit) ⊕ ((Ar×Int×Unit)))
 | 0,_,_=>none
 | n+1,w,k =>
  bif decide (k<(↑w.drivers.length:Int)) then((A6 w.drivers k).bind fun v0 =>
  (C6 n v0.knows 0 15).bind fun v1 =>
  bif !!v1.fst then((C6 n v0.leave 0 (IntKind.i64.wrap (w.days-1))).bind fun v2 =>
  bif !!v2.fst then((C6 n v0.wish 0 (IntKind.i64.wrap (w.days-1))).bind fun v3 =>
  bif !!v3.fst then((AX n v0.off (-10080) 1440).bind fun v4 =>
  bif !!v4.fst then((AX n v0.row 0 14).bind fun v5 =>
  bif !!v5.fst then((AX n v0.used 0 w.hours).bind fun v6 =>
  bif !v6.fst then(some (.inr (w,(1,())))) else
  Ht n w (IntKind.i64.wrap (k+1))) else
  some (.inr (w,(1,())))) else
  some (.inr (w,(1,())))) else
  some (.inr (w,(1,())))) else
  some (.inr (w,(1,())))) else
  some (.inr (w,(1,())))) else
  some (.inl (w,()))
def Im (n:Nat) (y:C.Ds Ty (Af Fb)):Option (YT Ty M4):=Ht n y.1 y.2.1
def Zf5 (n:Nat):St Ty→Tr (Lf Ty):=AZ Fb 1 M4 (Im n)
def GU (n:Nat) (w:Ar):Option ((Int×Unit)) :=
 bif !decide ((↑w.duties.length:Int)>12) then(bif decide ((↑w.drivers.length:Int)>6) then(some (3,())) else
 (AX n w.days 1 7).bind fun v0 =>
 bif !!v0.fst then((AX n w.rest 0 3000).bind fun v1 =>
 bif !!v1.fst then((AX n w.run 1 14).bind fun v2 =>
 bif !!v2.fst then((AX n w.hours 0 20000).bind fun v3 =>
 bif !v3.fst then(some (1,())) else
 (E3 n w 0).bind fun v4 =>
 Sum.elim (fun v5=>(Ht n v5.fst 0).bind fun v6 =>
 Sum.elim (fun v7=>some (0,())) (fun v7=>some (v7.snd.fst,())) (v6)) (fun v5=>some (v5.snd.fst,())) (v4)) else
 some (1,())) else
 some (1,())) else
 some (1,())) else
 some (3,())
def Ye (n:Nat) (y:C.Ds Ty (Af M5)):Option (YT Ty QF):=GU n y.1
def ZhM (n:Nat):A9 Ty:=CG (AA M5 0 QF (Ye n))
def Zdd (n:Nat):List (Nat×A9 Ty):=[(146,ZdM n),(206,Zh3 n)]
theorem N1 (n:Nat):Ap Tryz.prog (Zdd n):=⟨On n,⟨AaO n,trivial⟩⟩
def Zha (n:Nat):Az Ty:=[]
theorem Abq (n:Nat) (x:C.Ds Ty (Af Fa)):(Ax Tryz.prog 145 (Am Tryz.prog (Zdd n) []) (Ae (Zha n)) (Al 6 Tryz.f149) (Aw Fa x)).runK (A3 1 Fa M3 (Il n))=Il (n+1) x:=by kernel_rfl
theorem Abr (n:Nat):A5 true Tryz.prog 145 (Zf4 n) (.loop (Al 6 Tryz.f149)):=A4 fun x y hy=>At (Fn:=Il) Aa Ab (fun n=>Ac Aa Ab (N1 n) Ah) (fun h=>by cases h) (fun h=>by cases h) (fun n=>(Ad (fn:=Tryz.f149) (L:=Zha n) (ks:=[]) trivial (by kernel_rfl) (by kernel_rfl))) (by decide) (fun _=>rfl) Abq hy
def Zhb (n:Nat):Az Ty:=[]
theorem Abs (n:Nat) (x:C.Ds Ty (Af Fb)):(Ax Tryz.prog 145 (Am Tryz.prog (Zdd n) []) (Ae (Zhb n)) (Al 12 Tryz.f149) (Aw Fb x)).runK (A3 1 Fb M4 (Im n))=Im (n+1) x:=by kernel_rfl
theorem Abt (n:Nat):A5 true Tryz.prog 145 (Zf5 n) (.loop (Al 12 Tryz.f149)):=A4 fun x y hy=>At (Fn:=Im) Aa Ab (fun n=>Ac Aa Ab (N1 n) Ah) (fun h=>by cases h) (fun h=>by cases h) (fun n=>(Ad (fn:=Tryz.f149) (L:=Zhb n) (ks:=[]) trivial (by kernel_rfl) (by kernel_rfl))) (by decide) (fun _=>rfl) Abs hy
def Zjq (n:Nat):Az Ty:=[(.loop 6,Zf4 n),(.loop 12,Zf5 n)]
theorem Ahw (n:Nat) (x:C.Ds Ty (Af M5)):(Ax Tryz.prog 145 (Am Tryz.prog (Zdd n) []) (Ae (Zjq n)) (Ao Tryz.f149) (Aw M5 x)).runK (Aq Tryz.prog Tryz.f149.results.toList 0 QF)=Ye n x:=by kernel_rfl
theorem Abu (n:Nat):Au Tryz.prog 149 (ZhM n):=AS (As Tryz.func149 rfl rfl (by decide) rfl Aa Ab (Ac Aa Ab (N1 n) Ah) (Ad (fn:=Tryz.f149) (L:=Zjq n) (ks:=[.loop 6,.loop 12]) ⟨Abr n,⟨Abt n,trivial⟩⟩ (by kernel_rfl) (by kernel_rfl)) (Ahw n))
def Hu:List (Nat×C):=[(2,.l 3),(3,.u 51),(6,.u 51),(10,.s 3)]
def O2:List Wo:=[⟨.exit 0,[.u 51,.u 51],[(2,.l 3),(3,.q 0),(6,.q 1)],[]⟩,⟨.ret,[.u 51,.u 51],[(6,.q 1),(7,.s 3)],[]⟩]
def Po:List (Nat×C):=[(0,.g 51),(1,.s 9),(2,.l 3)]
def Vv:List Wo:=[⟨.ret,[],[],[.g 51,.s 3]⟩]
def C8:Nat→(List Int)→An→An→Int→Option ((An×An×List Int×Unit×Unit×Unit) ⊕ ((An×An×Unit×Int×Unit)))
 | 0,_,_,_,_=>none
 | n+1,l,s,x6,i =>
  bif decide (i<(↑s.runs.length:Int)) then((A6 s.runs i).bind fun v0 =>
  (A6 l 0).bind fun v1 =>
  bif decide (v0.bus=v1) then((A6 s.runs i).bind fun v2 =>
  (A6 l 1).bind fun v3 =>
  bif decide (v2.to_>v3) then(some (.inr (s,(s,((),(8,())))))) else
  C8 n l s x6 (IntKind.i64.wrap (i+1))) else
  C8 n l s x6 (IntKind.i64.wrap (i+1))) else
  some (.inl (s,(x6,(l,((),((),()))))))
def Ku (n:Nat) (y:C.Ds Ty (Af Hu)):Option (YT Ty O2):=C8 n y.1 y.2.1 y.2.2.1 y.2.2.2.1
def Zhc (n:Nat):St Ty→Tr (Lf Ty):=AZ Hu 2 O2 (Ku n)
def GV (n:Nat) (s:An) (word:ByteArray) (l:List Int):Option ((An×Int×Unit)) :=
 (A6 l 0).bind fun v0 =>
 (YD n s v0).bind fun v1 =>
 bif word.beq (B [105,110]) then(bif decide (v1.fst<0) then(some (s,(8,()))) else
 (A6 s.outs v1.fst).bind fun v2 =>
 (A6 l 1).bind fun v3 =>
 bif !decide (v3<v2.fr) then((A6 l 1).bind fun v4 =>
 bif !decide (v4>1000000) then((A6 l 2).bind fun v5 =>
 (Gm n v5 0 1000).bind fun v6 =>
 bif !v6.fst then(some (s,(2,()))) else
 (K0 s.outs 0 v1.fst).bind fun v7 =>
 (app [] v7).bind fun v8 =>
 (K0 s.outs (IntKind.i64.wrap (v1.fst+1)) (↑s.outs.length:Int)).bind fun v9 =>
 (app v8 v9).bind fun v10 =>
 (app [] s.runs).bind fun v11 =>
 (A6 l 1).bind fun v12 =>
 (A6 l 2).bind fun v13 =>
 (app v11 [SM.mk v2.bus v2.fr v12 v13]).bind fun v14 =>
 some (An.mk s.cards v10 v14 s.records s.week s.roster,(0,()))) else
 some (s,(2,()))) else
 some (s,(2,()))) else
 (A6 l 0).bind fun v2 =>
 (Gm n v2 0 99).bind fun v3 =>
 bif !!v3.fst then((A6 l 1).bind fun v4 =>
 (Gm n v4 0 1000000).bind fun v5 =>
 bif !v5.fst then(some (s,(2,()))) else
 bif decide (v1.fst≥0) then(some (s,(8,()))) else
 (C8 n l s (An.mk [] [] [] [] (Ar.mk 0 [] [] 0 0 0) []) 0).bind fun v6 =>
 Sum.elim (fun v7=>(A6 v7.snd.snd.fst 0).bind fun v8 =>
 (A6 v7.snd.snd.fst 1).bind fun v9 =>
 (Mt n v7.fst.cards v8 v9).bind fun v10 =>
 bif decide ((↑v10.fst.length:Int)>0) then(some (v7.fst,(11,()))) else
 (app [] v7.fst.outs).bind fun v11 =>
 (A6 v7.snd.snd.fst 0).bind fun v12 =>
 (A6 v7.snd.snd.fst 1).bind fun v13 =>
 (app v11 [Sm.mk v12 v13]).bind fun v14 =>
 some (An.mk v7.fst.cards v14 v7.fst.runs v7.fst.records v7.fst.week v7.fst.roster,(0,()))) (fun v7=>some (v7.snd.fst,(v7.snd.snd.snd.fst,()))) (v6)) else
 some (s,(2,()))
def Adc (n:Nat) (y:C.Ds Ty (Af Po)):Option (YT Ty Vv):=GV n y.1 y.2.1 y.2.2.1
def Zjr (n:Nat):A9 Ty:=AA Po 0 Vv (Adc n)
def ZhN (n:Nat):List (Nat×A9 Ty):=[(144,ZjM n),(145,Zgu n),(77,ZdQ n)]
theorem Yf (n:Nat):Ap Tryz.prog (ZhN n):=⟨Ahj n,⟨VO n,⟨QA n,trivial⟩⟩⟩
def Zi0 (n:Nat):Az Ty:=[]
theorem AeJ (n:Nat) (x:C.Ds Ty (Af Hu)):(Ax Tryz.prog 151 (Am Tryz.prog (ZhN n) []) (Ae (Zi0 n)) (Al 16 Tryz.f87) (Aw Hu x)).runK (A3 2 Hu O2 (Ku n))=Ku (n+1) x:=by kernel_rfl
theorem AeK (n:Nat):A5 true Tryz.prog 151 (Zhc n) (.loop (Al 16 Tryz.f87)):=A4 fun x y hy=>At (Fn:=Ku) Aa Ab (fun n=>Ac Aa Ab (Yf n) Ah) (fun h=>by cases h) (fun h=>by cases h) (fun n=>(Ad (fn:=Tryz.f87) (L:=Zi0 n) (ks:=[]) trivial (by kernel_rfl) (by kernel_rfl))) (by decide) (fun _=>rfl) AeJ hy
def Zkn (n:Nat):Az Ty:=[(.loop 16,Zhc n)]
theorem Als (n:Nat) (x:C.Ds Ty (Af Po)):(Ax Tryz.prog 151 (Am Tryz.prog (ZhN n) []) (Ae (Zkn n)) (Ao Tryz.f87) (Aw Po x)).runK (Aq Tryz.prog Tryz.f87.results.toList 0 Vv)=Adc n x:=by kernel_rfl
theorem AeL (n:Nat):Au Tryz.prog 87 (Zjr n):=As Tryz.func87 rfl rfl (by decide) rfl Aa Ab (Ac Aa Ab (Yf n) Ah) (Ad (fn:=Tryz.f87) (L:=Zkn n) (ks:=[.loop 16]) ⟨AeK n,trivial⟩ (by kernel_rfl) (by kernel_rfl)) (Als n)
def Pp:List (Nat×C):=[(0,.g 51),(1,.s 9),(2,.l 3)]
def Vw:List Wo:=[⟨.ret,[],[],[.g 51,.s 3]⟩]
def DW (n:Nat) (s:An) (word:ByteArray) (l:List Int):Option ((An×Int×Unit)) :=
 bif word.beq (B [100,114,105,118,101,114]) then((app [] s.week.drivers).bind fun v0 =>
 (A6 l 0).bind fun v1 =>
 (A6 l 1).bind fun v2 =>
 (app v0 [AJ.mk [v1] [] [] v2 0 0]).bind fun v3 =>
 (GU n (Ar.mk s.week.days s.week.duties v3 s.week.rest s.week.run s.week.hours)).bind fun v4 =>
 bif v4.fst != 0 then(some (s,(v4.fst,()))) else
 some (An.mk s.cards s.outs s.runs s.records (Ar.mk s.week.days s.week.duties v3 s.week.rest s.week.run s.week.hours) s.roster,(0,()))) else
 bif word.beq (B [100,117,116,121]) then((app [] s.week.duties).bind fun v0 =>
 (A6 l 0).bind fun v1 =>
 (A6 l 1).bind fun v2 =>
 (A6 l 2).bind fun v3 =>
 (A6 l 3).bind fun v4 =>
 (A6 l 4).bind fun v5 =>
 (app v0 [AP.mk v1 v2 (Rg.mk v3 v4) v5]).bind fun v6 =>
 (app [] s.roster).bind fun v7 =>
 (app v7 [-1]).bind fun v8 =>
 (GU n (Ar.mk s.week.days v6 s.week.drivers s.week.rest s.week.run s.week.hours)).bind fun v9 =>
 bif v9.fst != 0 then(some (s,(v9.fst,()))) else
 some (An.mk s.cards s.outs s.runs s.records (Ar.mk s.week.days v6 s.week.drivers s.week.rest s.week.run s.week.hours) v8,(0,()))) else
 (A6 l 0).bind fun v0 =>
 (AX n v0 0 (IntKind.i64.wrap ((↑s.roster.length:Int)-1))).bind fun v1 =>
 bif !!v1.fst then((A6 l 1).bind fun v2 =>
 (AX n v2 (-1) (IntKind.i64.wrap ((↑s.week.drivers.length:Int)-1))).bind fun v3 =>
 bif !v3.fst then(some (s,(2,()))) else
 (A6 l 0).bind fun v4 =>
 (A6 l 1).bind fun v5 =>
 (XG n s.roster v4 v5).bind fun v6 =>
 (Pn n s.week v6.fst).bind fun v7 =>
 bif !v7.fst then(some (s,(10,()))) else
 some (An.mk s.cards s.outs s.runs s.records s.week v6.fst,(0,()))) else
 some (s,(2,()))
def Ade (n:Nat) (y:C.Ds Ty (Af Pp)):Option (YT Ty Vw):=DW n y.1 y.2.1 y.2.2.1
def Zjs (n:Nat):A9 Ty:=AA Pp 0 Vw (Ade n)
def Zko (n:Nat):List (Nat×A9 Ty):=[(146,ZdM n),(147,Zij n),(148,ZhL n),(149,ZhM n)]
theorem Ak0 (n:Nat):Ap Tryz.prog (Zko n):=⟨On n,⟨AcJ n,⟨Abp n,⟨Abu n,trivial⟩⟩⟩⟩
def Zkp (n:Nat):Az Ty:=[]
theorem Alt (n:Nat) (x:C.Ds Ty (Af Pp)):(Ax Tryz.prog 114 (Am Tryz.prog (Zko n) []) (Ae (Zkp n)) (Ao Tryz.f88) (Aw Pp x)).runK (Aq Tryz.prog Tryz.f88.results.toList 0 Vw)=Ade n x:=by kernel_rfl
theorem AeM (n:Nat):Au Tryz.prog 88 (Zjs n):=As Tryz.func88 rfl rfl (by decide) rfl Aa Ab (Ac Aa Ab (Ak0 n) Ah) (Ad (fn:=Tryz.f88) (L:=Zkp n) (ks:=[]) trivial (by kernel_rfl) (by kernel_rfl)) (Alt n)
def Sf:List (Nat×C):=[(0,.s 9)]
def Yg:List Wo:=[⟨.ret,[],[],[.g 65,.s 4]⟩]
def YF (n:Nat) (line:ByteArray):Option ((A0×Bool×Unit)) :=
 (KB n line).bind fun v0 =>
 bif !v0.snd.snd.fst then(some (A0.mk 0 0 0 (IK.mk 0) 0 0,(false,()))) else
 bif v0.fst.beq (B [102,111,117,110,100]) then((A6 v0.snd.fst 0).bind fun v1 =>
 (A6 v0.snd.fst 1).bind fun v2 =>
 (A6 v0.snd.fst 2).bind fun v3 =>
 (A6 v0.snd.fst 3).bind fun v4 =>
 some (A0.mk v1 v2 v3 (IK.mk 0) v4 0,(true,()))) else
 bif v0.fst.beq (B [104,101,108,100]) then((A6 v0.snd.fst 0).bind fun v1 =>
 (A6 v0.snd.fst 1).bind fun v2 =>
 (A6 v0.snd.fst 2).bind fun v3 =>
 (A6 v0.snd.fst 3).bind fun v4 =>
 some (A0.mk v1 v2 v3 (IK.mk 1) v4 0,(true,()))) else
 bif v0.fst.beq (B [115,105,103,110,101,100]) then((A6 v0.snd.fst 0).bind fun v1 =>
 (A6 v0.snd.fst 1).bind fun v2 =>
 (A6 v0.snd.fst 2).bind fun v3 =>
 (A6 v0.snd.fst 3).bind fun v4 =>
 some (A0.mk v1 v2 v3 (IK.mk 2) 0 v4,(true,()))) else
 bif v0.fst.beq (B [99,104,101,99,107,101,100]) then((A6 v0.snd.fst 0).bind fun v1 =>
 (A6 v0.snd.fst 1).bind fun v2 =>
 (A6 v0.snd.fst 2).bind fun v3 =>
 some (A0.mk v1 v2 v3 (IK.mk 3) 0 0,(true,()))) else
 some (A0.mk 0 0 0 (IK.mk 0) 0 0,(false,()))
def AfV (n:Nat) (y:C.Ds Ty (Af Sf)):Option (YT Ty Yg):=YF n y.1
def ZjR (n:Nat):A9 Ty:=AA Sf 0 Yg (AfV n)
def ZkN (n:Nat):List (Nat×A9 Ty):=[(28,Zcq n)]
theorem Alu (n:Nat):Ap Tryz.prog (ZkN n):=⟨Jn n,trivial⟩
def ZkO (n:Nat):Az Ty:=[]
theorem AnY (n:Nat) (x:C.Ds Ty (Af Sf)):(Ax Tryz.prog 75 (Am Tryz.prog (ZkN n) []) (Ae (ZkO n)) (Ao Tryz.f30) (Aw Sf x)).runK (Aq Tryz.prog Tryz.f30.results.toList 0 Yg)=AfV n x:=by kernel_rfl
theorem Ahx (n:Nat):Au Tryz.prog 30 (ZjR n):=As Tryz.func30 rfl rfl (by decide) rfl Aa Ab (Ac Aa Ab (Alu n) Ah) (Ad (fn:=Tryz.f30) (L:=ZkO n) (ks:=[]) trivial (by kernel_rfl) (by kernel_rfl)) (AnY n)
def NI:List (Nat×C):=[(0,.s 9)]
def SL:List Wo:=[⟨.ret,[],[],[.g 90,.s 4]⟩]
def Sg (n:Nat) (line:ByteArray):Option ((Ag×Bool×Unit)) :=
 (KB n line).bind fun v0 =>
 bif !v0.snd.snd.fst then(some (Ag.mk 0 0 0 (IK.mk 0) 0 0,(false,()))) else
 bif v0.fst.beq (B [115,97,108,101]) then((A6 v0.snd.fst 0).bind fun v1 =>
 (A6 v0.snd.fst 1).bind fun v2 =>
 (A6 v0.snd.fst 2).bind fun v3 =>
 (A6 v0.snd.fst 3).bind fun v4 =>
 (A6 v0.snd.fst 4).bind fun v5 =>
 some (Ag.mk v1 v2 v3 (IK.mk 0) v4 v5,(true,()))) else
 bif v0.fst.beq (B [115,121,110,99]) then((A6 v0.snd.fst 0).bind fun v1 =>
 (A6 v0.snd.fst 1).bind fun v2 =>
 (A6 v0.snd.fst 2).bind fun v3 =>
 (A6 v0.snd.fst 3).bind fun v4 =>
 some (Ag.mk v1 v2 v3 (IK.mk 1) v4 0,(true,()))) else
 bif v0.fst.beq (B [99,108,111,115,101]) then((A6 v0.snd.fst 0).bind fun v1 =>
 (A6 v0.snd.fst 1).bind fun v2 =>
 (A6 v0.snd.fst 2).bind fun v3 =>
 (A6 v0.snd.fst 3).bind fun v4 =>
 (A6 v0.snd.fst 4).bind fun v5 =>
 some (Ag.mk v1 v2 v3 (IK.mk 2) v4 v5,(true,()))) else
 some (Ag.mk 0 0 0 (IK.mk 0) 0 0,(false,()))
def ZX (n:Nat) (y:C.Ds Ty (Af NI)):Option (YT Ty SL):=Sg n y.1
def Zi1 (n:Nat):A9 Ty:=AA NI 0 SL (ZX n)
def ZjS (n:Nat):List (Nat×A9 Ty):=[(28,Zcq n)]
theorem Ahy (n:Nat):Ap Tryz.prog (ZjS n):=⟨Jn n,trivial⟩
def ZjT (n:Nat):Az Ty:=[]
theorem Ak1 (n:Nat) (x:C.Ds Ty (Af NI)):(Ax Tryz.prog 69 (Am Tryz.prog (ZjS n) []) (Ae (ZjT n)) (Ao Tryz.f43) (Aw NI x)).runK (Aq Tryz.prog Tryz.f43.results.toList 0 SL)=ZX n x:=by kernel_rfl
theorem Adf (n:Nat):Au Tryz.prog 43 (Zi1 n):=As Tryz.func43 rfl rfl (by decide) rfl Aa Ab (Ac Aa Ab (Ahy n) Ah) (Ad (fn:=Tryz.f43) (L:=ZjT n) (ks:=[]) trivial (by kernel_rfl) (by kernel_rfl)) (Ak1 n)
def YG:List (Nat×C):=[(0,.g 51),(1,.s 9)]
def AeN:List Wo:=[⟨.ret,[],[],[.g 51,.s 3]⟩]
def AhE (n:Nat) (s:An) (line:ByteArray):Option ((An×Int×Unit)) :=
 (KB n line).bind fun v0 =>
 bif !v0.snd.snd.fst then(some (s,(4,()))) else
 (YF n line).bind fun v1 =>
 bif v1.snd.fst then((TV n s v1.fst).bind fun v2 =>
 some (v2.fst,(v2.snd.fst,()))) else
 (Sg n line).bind fun v2 =>
 bif v2.snd.fst then((NV n s v2.fst).bind fun v3 =>
 some (v3.fst,(v3.snd.fst,()))) else
 bif !v0.fst.beq (B [111,117,116]) then(bif v0.fst.beq (B [105,110]) then((GV n s v0.fst v0.snd.fst).bind fun v3 =>
 some (v3.fst,(v3.snd.fst,()))) else
 (DW n s v0.fst v0.snd.fst).bind fun v3 =>
 some (v3.fst,(v3.snd.fst,()))) else
 (GV n s v0.fst v0.snd.fst).bind fun v3 =>
 some (v3.fst,(v3.snd.fst,()))
def AmA (n:Nat) (y:C.Ds Ty (Af YG)):Option (YT Ty AeN):=AhE n y.1 y.2.1
def ZkP (n:Nat):A9 Ty:=AA YG 0 AeN (AmA n)
def Zlg (n:Nat):List (Nat×A9 Ty):=[(28,Zcq n),(30,ZjR n),(85,ZjN n),(43,Zi1 n),(86,Ziq n),(87,Zjr n),(88,Zjs n)]
theorem Aqo (n:Nat):Ap Tryz.prog (Zlg n):=⟨Jn n,⟨Ahx n,⟨Ahn n,⟨Adf n,⟨AcU n,⟨AeL n,⟨AeM n,trivial⟩⟩⟩⟩⟩⟩⟩
def Zlh (n:Nat):Az Ty:=[]
theorem ArM (n:Nat) (x:C.Ds Ty (Af YG)):(Ax Tryz.prog 62 (Am Tryz.prog (Zlg n) []) (Ae (Zlh n)) (Ao Tryz.f46) (Aw YG x)).runK (Aq Tryz.prog Tryz.f46.results.toList 0 AeN)=AmA n x:=by kernel_rfl
theorem Alv (n:Nat):Au Tryz.prog 46 (ZkP n):=As Tryz.func46 rfl rfl (by decide) rfl Aa Ab (Ac Aa Ab (Aqo n) Ah) (Ad (fn:=Tryz.f46) (L:=Zlh n) (ks:=[]) trivial (by kernel_rfl) (by kernel_rfl)) (ArM n)
def IL:List (Nat×C):=[(0,.l 9),(2,.u 51),(4,.u 51),(5,.o 3),(6,.s 3)]
def QG:List Wo:=[⟨.exit 0,[.u 51,.u 51],[(2,.q 0),(4,.q 1),(5,.o 3)],[]⟩]
def Sh:List (Nat×C):=[(0,.l 9)]
def Yh:List Wo:=[⟨.ret,[],[],[.g 51,.l 3]⟩]
def Jp:Nat→(List ByteArray)→An→An→(List Int)→Int→Option ((An×An×Unit×Unit×List Int×Unit))
 | 0,_,_,_,_,_=>none
 | n+1,lines,x2,s,errors,i =>
  bif decide (i<(↑lines.length:Int)) then((A6 lines i).bind fun v0 =>
  (AhE n s v0).bind fun v1 =>
  (app errors [v1.snd.fst]).bind fun v2 =>
  Jp n lines x2 v1.fst v2 (IntKind.i64.wrap (i+1))) else
  some (x2,(s,((),((),(errors,())))))
def M6 (n:Nat) (y:C.Ds Ty (Af IL)):Option (YT Ty QG):=Jp n y.1 y.2.1 y.2.2.1 y.2.2.2.1 y.2.2.2.2.1
def ZhO (n:Nat):St Ty→Tr (Lf Ty):=AZ IL 2 QG (M6 n)
def TY (n:Nat) (lines:List ByteArray):Option ((An×List Int×Unit)) :=
 (AaR n).bind fun v0 =>
 (Jp n lines (An.mk [] [] [] [] (Ar.mk 0 [] [] 0 0 0) []) v0.fst [] 0).bind fun v1 =>
 some (v1.snd.fst,(v1.snd.snd.snd.snd.fst,()))
def AfW (n:Nat) (y:C.Ds Ty (Af Sh)):Option (YT Ty Yh):=TY n y.1
def Zgx (n:Nat):A9 Ty:=AsB (AA Sh 0 Yh (AfW n))
def ZiG (n:Nat):List (Nat×A9 Ty):=[(59,Zje n),(46,ZkP n)]
theorem ZY (n:Nat):Ap Tryz.prog (ZiG n):=⟨Ae5 n,⟨Alv n,trivial⟩⟩
def Zjt (n:Nat):Az Ty:=[]
theorem Ahz (n:Nat) (x:C.Ds Ty (Af IL)):(Ax Tryz.prog 32 (Am Tryz.prog (ZiG n) []) (Ae (Zjt n)) (Al 4 Tryz.f25) (Aw IL x)).runK (A3 2 IL QG (M6 n))=M6 (n+1) x:=by kernel_rfl
theorem Ah0 (n:Nat):A5 true Tryz.prog 32 (ZhO n) (.loop (Al 4 Tryz.f25)):=A4 fun x y hy=>At (Fn:=M6) Aa Ab (fun n=>Ac Aa Ab (ZY n) Ah) (fun h=>by cases h) (fun h=>by cases h) (fun n=>(Ad (fn:=Tryz.f25) (L:=Zjt n) (ks:=[]) trivial (by kernel_rfl) (by kernel_rfl))) (by decide) (fun _=>rfl) Ahz hy
def ZkQ (n:Nat):Az Ty:=[(.loop 4,ZhO n)]
theorem AnZ (n:Nat) (x:C.Ds Ty (Af Sh)):(Ax Tryz.prog 32 (Am Tryz.prog (ZiG n) []) (Ae (ZkQ n)) (Ao Tryz.f25) (Aw Sh x)).runK (Aq Tryz.prog Tryz.f25.results.toList 0 Yh)=AfW n x:=by kernel_rfl
theorem VW (n:Nat):Au Tryz.prog 25 (Zgx n):=ApW (by decide) (As Tryz.func25 rfl rfl (by decide) rfl Aa Ab (Ac Aa Ab (ZY n) Ah) (Ad (fn:=Tryz.f25) (L:=ZkQ n) (ks:=[.loop 4]) ⟨Ah0 n,trivial⟩ (by kernel_rfl) (by kernel_rfl)) (AnZ n))
def Fc:List (Nat×C):=[(4,.u 114),(5,.f 84 [.q 0] []),(6,.o 37),(12,.l 9),(13,.s 3),(14,.s 3)]
def M7:List Wo:=[⟨.exit 0,[.u 114],[(4,.q 0),(6,.o 37)],[]⟩]
def M8:List (Nat×C):=[(0,.l 9)]
def QH:List Wo:=[⟨.ret,[],[],[.u 114,.l 37]⟩]
def E4:Nat→Aj→(List Int)→(List ByteArray)→Int→Int→Option ((Aj×Unit×List Int×Unit))
 | 0,_,_,_,_,_=>none
 | n+1,g,errors,x12,x13,x14 =>
  bif decide (x14<x13) then((A6 x12 x14).bind fun v0 =>
  (Aw6 n g v0).bind fun v1 =>
  (app errors [v1.snd.fst]).bind fun v2 =>
  E4 n v1.fst v2 x12 x13 (IntKind.i64.wrap (x14+1))) else
  some (g,((),(errors,())))
def Io (n:Nat) (y:C.Ds Ty (Af Fc)):Option (YT Ty M7):=E4 n y.1 y.2.2.1 y.2.2.2.1 y.2.2.2.2.1 y.2.2.2.2.2.1
def Zf6 (n:Nat):St Ty→Tr (Lf Ty):=AZ Fc 1 M7 (Io n)
def Jq (n:Nat) (lines:List ByteArray):Option ((Aj×List Int×Unit)) :=
 (ZS n).bind fun v0 =>
 (E4 n v0.fst [] lines (↑lines.length:Int) 0).bind fun v1 =>
 some (v1.fst,(v1.snd.snd.fst,()))
def Yi (n:Nat) (y:C.Ds Ty (Af M8)):Option (YT Ty QH):=Jq n y.1
def Zc0 (n:Nat):A9 Ty:=AsB (AA M8 0 QH (Yi n))
def ZfG (n:Nat):List (Nat×A9 Ty):=[(101,ZgI n),(84,Zlf n)]
theorem TZ (n:Nat):Ap Tryz.prog (ZfG n):=⟨Zh n,⟨Aqm n,trivial⟩⟩
def Zhd (n:Nat):Az Ty:=[]
theorem Abv (n:Nat) (x:C.Ds Ty (Af Fc)):(Ax Tryz.prog 27 (Am Tryz.prog (ZfG n) []) (Ae (Zhd n)) (Al 5 Tryz.f53) (Aw Fc x)).runK (A3 1 Fc M7 (Io n))=Io (n+1) x:=by kernel_rfl
theorem Abw (n:Nat):A5 true Tryz.prog 27 (Zf6 n) (.loop (Al 5 Tryz.f53)):=A4 fun x y hy=>At (Fn:=Io) Aa Ab (fun n=>Ac Aa Ab (TZ n) Ah) (fun h=>by cases h) (fun h=>by cases h) (fun n=>(Ad (fn:=Tryz.f53) (L:=Zhd n) (ks:=[]) trivial (by kernel_rfl) (by kernel_rfl))) (by decide) (fun _=>rfl) Abv hy
def Zju (n:Nat):Az Ty:=[(.loop 5,Zf6 n)]
theorem Ah1 (n:Nat) (x:C.Ds Ty (Af M8)):(Ax Tryz.prog 27 (Am Tryz.prog (ZfG n) []) (Ae (Zju n)) (Ao Tryz.f53) (Aw M8 x)).runK (Aq Tryz.prog Tryz.f53.results.toList 0 QH)=Yi n x:=by kernel_rfl
theorem KI (n:Nat):Au Tryz.prog 53 (Zc0 n):=ApW (by decide) (As Tryz.func53 rfl rfl (by decide) rfl Aa Ab (Ac Aa Ab (TZ n) Ah) (Ad (fn:=Tryz.f53) (L:=Zju n) (ks:=[.loop 5]) ⟨Abw n,trivial⟩ (by kernel_rfl) (by kernel_rfl)) (Ah1 n))
def M9:List (Nat×C):=[(0,.l 9)]
def QI:List Wo:=[⟨.ret,[],[],[.g 35,.l 37,.s 37]⟩]
def GW (n:Nat) (lines:List ByteArray):Option ((An×List Int×Int×Unit)) :=
 (Fv n lines).bind fun v0 =>
 bif v0.fst != 0 then(some (An.mk [] [] [] [] (Ar.mk 0 [] [] 0 0 0) [],([],(v0.fst,())))) else
 (Jq n lines).bind fun v1 =>
 some (v1.fst.state,(v1.snd.fst,(0,())))
def Yj (n:Nat) (y:C.Ds Ty (Af M9)):Option (YT Ty QI):=GW n y.1
def ZdR (n:Nat):A9 Ty:=AA M9 0 QI (Yj n)
def Zjv (n:Nat):List (Nat×A9 Ty):=[(52,ZbJ n),(53,Zc0 n)]
theorem AeO (n:Nat):Ap Tryz.prog (Zjv n):=⟨FT n,⟨KI n,trivial⟩⟩
def Zjw (n:Nat):Az Ty:=[]
theorem Ah2 (n:Nat) (x:C.Ds Ty (Af M9)):(Ax Tryz.prog 24 (Am Tryz.prog (Zjv n) []) (Ae (Zjw n)) (Ao Tryz.f21) (Aw M9 x)).runK (Aq Tryz.prog Tryz.f21.results.toList 0 QI)=Yj n x:=by kernel_rfl
theorem QJ (n:Nat):Au Tryz.prog 21 (ZdR n):=As Tryz.func21 rfl rfl (by decide) rfl Aa Ab (Ac Aa Ab (AeO n) Ah) (Ad (fn:=Tryz.f21) (L:=Zjw n) (ks:=[]) trivial (by kernel_rfl) (by kernel_rfl)) (Ah2 n)
def Jr:List (Nat×C):=[(0,.s 9),(1,.p [.u 114])]
def N2:List Wo:=[⟨.ret,[.p [.u 114],.q 1],[],[.s 4]⟩]
def MA (n:Nat) (text:ByteArray) (x1:Aj):Option (((Aj×Unit)×Unit×Bool×Unit)) :=
 (Aec n text (B [32])).bind fun v0 =>
 (A6 v0.fst 0).bind fun v1 =>
 bif !v1.beq (B [111,117,116]) then(some ((x1,()),((),(false,())))) else
 (A6 v0.fst 1).bind fun v2 =>
 (ZC v2).bind fun v3 =>
 Sum.elim (fun v4=>(A6 v0.fst 2).bind fun v5 =>
 (ZC v5).bind fun v6 =>
 Sum.elim (fun v7=>(IX n x1.state.cards v4 v7).bind fun v8 =>
 some ((x1,()),((),(decide ((↑v8.fst.length:Int)>0),())))) (fun v7=>(IX n x1.state.cards v4 v7).bind fun v8 =>
 some ((x1,()),((),(decide ((↑v8.fst.length:Int)>0),())))) (v6)) (fun v4=>(A6 v0.fst 2).bind fun v5 =>
 (ZC v5).bind fun v6 =>
 Sum.elim (fun v7=>(IX n x1.state.cards v4 v7).bind fun v8 =>
 some ((x1,()),((),(decide ((↑v8.fst.length:Int)>0),())))) (fun v7=>(IX n x1.state.cards v4 v7).bind fun v8 =>
 some ((x1,()),((),(decide ((↑v8.fst.length:Int)>0),())))) (v6)) (v3)
def Ua (n:Nat) (y:C.Ds Ty (Af Jr)):Option (YT Ty N2):=MA n y.1 y.2.1.1
def Zgk (n:Nat):A9 Ty:=AA Jr 2 N2 (Ua n)
def ZhP (n:Nat):List (Nat×A9 Ty):=[(112,Zj5 n),(113,ZhV n),(29,Zgr n)]
theorem Abx (n:Nat):Ap Tryz.prog (ZhP n):=⟨Acv n,⟨AfG n,⟨VH n,trivial⟩⟩⟩
def ZhQ (n:Nat):Az Ty:=[]
theorem Adg (n:Nat) (x:C.Ds Ty (Af Jr)):(Ax Tryz.prog 45 (Am Tryz.prog (ZhP n) []) (Ae (ZhQ n)) (Ao Tryz.f111) (Aw Jr x)).runK (Aq Tryz.prog Tryz.f111.results.toList 2 N2)=Ua n x:=by kernel_rfl
theorem Yk (n:Nat):Au Tryz.prog 111 (Zgk n):=As Tryz.func111 rfl rfl (by decide) rfl Aa Ab (Ac Aa Ab (Abx n) Ah) (Ad (fn:=Tryz.f111) (L:=ZhQ n) (ks:=[]) trivial (by kernel_rfl) (by kernel_rfl)) (Adg n)
def Fd:List (Nat×C):=[(2,.l 37),(6,.o 3),(7,.f 111 [] [.p [.u 114]]),(11,.l 9),(12,.s 3),(13,.s 3)]
def MB:List Wo:=[⟨.exit 0,[.p [.u 114],.q 1],[(6,.o 3)],[]⟩]
def MC:List (Nat×C):=[(0,.l 9),(1,.u 114),(2,.l 37)]
def QK:List Wo:=[⟨.ret,[.u 114],[],[.o 3]⟩]
def CV:Nat→(List Int)→(List Int)→Aj→(List ByteArray)→Int→Int→Option (((Aj×Unit)×Unit×List Int×Unit))
 | 0,_,_,_,_,_,_=>none
 | n+1,errors,out,is,x11,x12,x13 =>
  bif decide (x13<x12) then((A6 x11 x13).bind fun v0 =>
  (A6 errors x13).bind fun v1 =>
  bif decide (v1=0) then((MA n v0 is).bind fun v2 =>
  bif v2.snd.snd.fst then((app out [x13]).bind fun v3 =>
  CV n errors v3 v2.fst.fst x11 x12 (IntKind.i64.wrap (x13+1))) else
  CV n errors out v2.fst.fst x11 x12 (IntKind.i64.wrap (x13+1))) else
  CV n errors out is x11 x12 (IntKind.i64.wrap (x13+1))) else
  some ((is,()),((),(out,())))
def Ip (n:Nat) (y:C.Ds Ty (Af Fd)):Option (YT Ty MB):=CV n y.1 y.2.1 y.2.2.1.2.1.1 y.2.2.2.1 y.2.2.2.2.1 y.2.2.2.2.2.1
def Zf7 (n:Nat):St Ty→Tr (Lf Ty):=AZ Fd 2 MB (Ip n)
def Vx (n:Nat) (lines:List ByteArray) (g:Aj) (errors:List Int):Option ((Aj×List Int×Unit)) :=
 (CV n errors [] g lines (↑lines.length:Int) 0).bind fun v0 =>
 some (v0.fst.fst,(v0.snd.snd.fst,()))
def Yl (n:Nat) (y:C.Ds Ty (Af MC)):Option (YT Ty QK):=Vx n y.1 y.2.1 y.2.2.1
def ZhR (n:Nat):A9 Ty:=AA MC 1 QK (Yl n)
def ZfH (n:Nat):List (Nat×A9 Ty):=[(111,Zgk n)]
theorem Ub (n:Nat):Ap Tryz.prog (ZfH n):=⟨Yk n,trivial⟩
def Zhe (n:Nat):Az Ty:=[]
theorem Aby (n:Nat) (x:C.Ds Ty (Af Fd)):(Ax Tryz.prog 34 (Am Tryz.prog (ZfH n) []) (Ae (Zhe n)) (Al 3 Tryz.f70) (Aw Fd x)).runK (A3 2 Fd MB (Ip n))=Ip (n+1) x:=by kernel_rfl
theorem Abz (n:Nat):A5 true Tryz.prog 34 (Zf7 n) (.loop (Al 3 Tryz.f70)):=A4 fun x y hy=>At (Fn:=Ip) Aa Ab (fun n=>Ac Aa Ab (Ub n) Ah) (fun h=>by cases h) (fun h=>by cases h) (fun n=>(Ad (fn:=Tryz.f70) (L:=Zhe n) (ks:=[]) trivial (by kernel_rfl) (by kernel_rfl))) (by decide) (fun _=>rfl) Aby hy
def Zjx (n:Nat):Az Ty:=[(.loop 3,Zf7 n)]
theorem Ah3 (n:Nat) (x:C.Ds Ty (Af MC)):(Ax Tryz.prog 34 (Am Tryz.prog (ZfH n) []) (Ae (Zjx n)) (Ao Tryz.f70) (Aw MC x)).runK (Aq Tryz.prog Tryz.f70.results.toList 1 QK)=Yl n x:=by kernel_rfl
theorem Ab0 (n:Nat):Au Tryz.prog 70 (ZhR n):=As Tryz.func70 rfl rfl (by decide) rfl Aa Ab (Ac Aa Ab (Ub n) Ah) (Ad (fn:=Tryz.f70) (L:=Zjx n) (ks:=[.loop 3]) ⟨Abz n,trivial⟩ (by kernel_rfl) (by kernel_rfl)) (Ah3 n)
def ME:List (Nat×C):=[(0,.l 9)]
def QL:List Wo:=[⟨.ret,[],[],[.l 3,.s 37]⟩]
def GX (n:Nat) (lines:List ByteArray):Option ((List Int×Int×Unit)) :=
 (Fv n lines).bind fun v0 =>
 bif v0.fst != 0 then(some ([],(v0.fst,()))) else
 (Jq n lines).bind fun v1 =>
 (Vx n lines v1.fst v1.snd.fst).bind fun v2 =>
 some (v2.snd.fst,(0,()))
def Ym (n:Nat) (y:C.Ds Ty (Af ME)):Option (YT Ty QL):=GX n y.1
def ZdS (n:Nat):A9 Ty:=AA ME 0 QL (Ym n)
def Zjy (n:Nat):List (Nat×A9 Ty):=[(52,ZbJ n),(53,Zc0 n),(70,ZhR n)]
theorem AeP (n:Nat):Ap Tryz.prog (Zjy n):=⟨FT n,⟨KI n,⟨Ab0 n,trivial⟩⟩⟩
def Zjz (n:Nat):Az Ty:=[]
theorem Ah4 (n:Nat) (x:C.Ds Ty (Af ME)):(Ax Tryz.prog 21 (Am Tryz.prog (Zjy n) []) (Ae (Zjz n)) (Ao Tryz.f31) (Aw ME x)).runK (Aq Tryz.prog Tryz.f31.results.toList 0 QL)=Ym n x:=by kernel_rfl
theorem QM (n:Nat):Au Tryz.prog 31 (ZdS n):=As Tryz.func31 rfl rfl (by decide) rfl Aa Ab (Ac Aa Ab (AeP n) Ah) (Ad (fn:=Tryz.f31) (L:=Zjz n) (ks:=[]) trivial (by kernel_rfl) (by kernel_rfl)) (Ah4 n)
def Kv:List (Nat×C):=[(0,.l 9),(1,.s 3)]
def O3:List Wo:=[⟨.ret,[],[],[.s 3,.s 3]⟩]
def D6 (n:Nat) (lines:List ByteArray) (bus:Int):Option ((Int×Int×Unit)) :=
 (Fv n lines).bind fun v0 =>
 bif v0.fst != 0 then(some (0,(v0.fst,()))) else
 (Bz n bus 0 99).bind fun v1 =>
 bif !v1.fst then(some (0,(2,()))) else
 (Jq n lines).bind fun v2 =>
 (HH n v2.fst bus).bind fun v3 =>
 bif decide (v3.snd.snd.fst=0) then(some (0,(7,()))) else
 some (v3.snd.fst,(0,()))
def VX (n:Nat) (y:C.Ds Ty (Af Kv)):Option (YT Ty O3):=D6 n y.1 y.2.1
def Zhf (n:Nat):A9 Ty:=CG (AA Kv 0 O3 (VX n))
def Zi2 (n:Nat):List (Nat×A9 Ty):=[(52,ZbJ n),(75,Zb8 n),(53,Zc0 n),(76,ZcH n)]
theorem Adh (n:Nat):Ap Tryz.prog (Zi2 n):=⟨FT n,⟨CA n,⟨KI n,⟨OW n,trivial⟩⟩⟩⟩
def Zi3 (n:Nat):Az Ty:=[]
theorem AeQ (n:Nat) (x:C.Ds Ty (Af Kv)):(Ax Tryz.prog 33 (Am Tryz.prog (Zi2 n) []) (Ae (Zi3 n)) (Ao Tryz.f34) (Aw Kv x)).runK (Aq Tryz.prog Tryz.f34.results.toList 0 O3)=VX n x:=by kernel_rfl
theorem Zw (n:Nat):Au Tryz.prog 34 (Zhf n):=AS (As Tryz.func34 rfl rfl (by decide) rfl Aa Ab (Ac Aa Ab (Adh n) Ah) (Ad (fn:=Tryz.f34) (L:=Zi3 n) (ks:=[]) trivial (by kernel_rfl) (by kernel_rfl)) (AeQ n))
def Js:List (Nat×C):=[(0,.s 3),(1,.s 3)]
def N3:List Wo:=[⟨.ret,[],[],[.s 9]⟩]
def MF (n:Nat) (n_:Int) (many:Int):Option ((ByteArray×Unit)) :=
 (AfE n n_).bind fun v0 =>
 (AsE n (B [48]) (if IntKind.i64.wrap (many-(↑v0.fst.size:Int))>0 then IntKind.i64.wrap (many-(↑v0.fst.size:Int)) else 0)).bind fun v1 =>
 (PE v1.fst v0.fst).bind fun v2 =>
 some (v2,())
def Uc (n:Nat) (y:C.Ds Ty (Af Js)):Option (YT Ty N3):=MF n y.1 y.2.1
def Zgl (n:Nat):A9 Ty:=AA Js 0 N3 (Uc n)
def ZhS (n:Nat):List (Nat×A9 Ty):=[(89,ZjZ n),(244,Zk1 n)]
theorem Ab1 (n:Nat):Ap Tryz.prog (ZhS n):=⟨AfF n,⟨AkX n,trivial⟩⟩
def ZhT (n:Nat):Az Ty:=[]
theorem Adi (n:Nat) (x:C.Ds Ty (Af Js)):(Ax Tryz.prog 16 (Am Tryz.prog (ZhS n) []) (Ae (ZhT n)) (Ao Tryz.f181) (Aw Js x)).runK (Aq Tryz.prog Tryz.f181.results.toList 0 N3)=Uc n x:=by kernel_rfl
theorem Yn (n:Nat):Au Tryz.prog 181 (Zgl n):=As Tryz.func181 rfl rfl (by decide) rfl Aa Ab (Ac Aa Ab (Ab1 n) Ah) (Ad (fn:=Tryz.f181) (L:=ZhT n) (ks:=[]) trivial (by kernel_rfl) (by kernel_rfl)) (Adi n)
def Di:List (Nat×C):=[(0,.s 9),(5,.s 3),(12,.l 5),(13,.s 3),(14,.s 3)]
def JG:List Wo:=[⟨.exit 0,[],[(0,.s 9),(5,.s 3)],[]⟩]
def Jt:List (Nat×C):=[(0,.s 9),(1,.s 3)]
def N4:List Wo:=[⟨.ret,[],[],[.s 9]⟩]
def MG:Nat→ByteArray→Int→(List (IK .u8))→Int→Int→Option ((ByteArray×Int×Unit))
 | 0,_,_,_,_,_=>none
 | n+1,s,check,x12,x13,x14 =>
  bif decide (x14<x13) then((A6 x12 x14).bind fun v0 =>
  MG n s (IntKind.i64.wrap (check+IntKind.i64.wrap (IntKind.i64.wrap (x14+1)*IntKind.i64.wrap (IntKind.i64.wrap v0.n+1)))) x12 x13 (IntKind.i64.wrap (x14+1))) else
  some (s,(check,()))
def FW (n:Nat) (y:C.Ds Ty (Af Di)):Option (YT Ty JG):=MG n y.1 y.2.1 y.2.2.1 y.2.2.2.1 y.2.2.2.2.1
def Zex (n:Nat):St Ty→Tr (Lf Ty):=AZ Di 0 JG (FW n)
def Yo (n:Nat) (s:ByteArray) (index:Int):Option ((ByteArray×Unit)) :=
 (MG n s (IntKind.i64.wrap (7*IntKind.i64.wrap (index+1))) (AxC s) (↑(AxC s).length:Int) 0).bind fun v0 =>
 (MF n (↑v0.fst.size:Int) 3).bind fun v1 =>
 (PE (B [91]) v1.fst).bind fun v2 =>
 (PE v2 (B [47])).bind fun v3 =>
 (MF n (IntKind.i64.wrap (999-(↑v0.fst.size:Int))) 3).bind fun v4 =>
 (PE v3 v4.fst).bind fun v5 =>
 (PE v5 (B [47])).bind fun v6 =>
 (MF n (v0.snd.fst.tmod 99991) 5).bind fun v7 =>
 (PE v6 v7.fst).bind fun v8 =>
 (PE v8 (B [93])).bind fun v9 =>
 (PE v9 v0.fst).bind fun v10 =>
 (PE v10 (B [10])).bind fun v11 =>
 some (v11,())
def Ud (n:Nat) (y:C.Ds Ty (Af Jt)):Option (YT Ty N4):=Yo n y.1 y.2.1
def Zgm (n:Nat):A9 Ty:=AA Jt 0 N4 (Ud n)
def ZdT (n:Nat):List (Nat×A9 Ty):=[(181,Zgl n)]
theorem QN (n:Nat):Ap Tryz.prog (ZdT n):=⟨Yn n,trivial⟩
def Zf8 (n:Nat):Az Ty:=[]
theorem Yp (n:Nat) (x:C.Ds Ty (Af Di)):(Ax Tryz.prog 47 (Am Tryz.prog (ZdT n) []) (Ae (Zf8 n)) (Al 3 Tryz.f125) (Aw Di x)).runK (A3 0 Di JG (FW n))=FW (n+1) x:=by kernel_rfl
theorem Yq (n:Nat):A5 true Tryz.prog 47 (Zex n) (.loop (Al 3 Tryz.f125)):=A4 fun x y hy=>At (Fn:=FW) Aa Ab (fun n=>Ac Aa Ab (QN n) Ah) (fun h=>by cases h) (fun h=>by cases h) (fun n=>(Ad (fn:=Tryz.f125) (L:=Zf8 n) (ks:=[]) trivial (by kernel_rfl) (by kernel_rfl))) (by decide) (fun _=>rfl) Yp hy
def ZhU (n:Nat):Az Ty:=[(.loop 3,Zex n)]
theorem Adj (n:Nat) (x:C.Ds Ty (Af Jt)):(Ax Tryz.prog 47 (Am Tryz.prog (ZdT n) []) (Ae (ZhU n)) (Ao Tryz.f125) (Aw Jt x)).runK (Aq Tryz.prog Tryz.f125.results.toList 0 N4)=Ud n x:=by kernel_rfl
theorem Yr (n:Nat):Au Tryz.prog 125 (Zgm n):=As Tryz.func125 rfl rfl (by decide) rfl Aa Ab (Ac Aa Ab (QN n) Ah) (Ad (fn:=Tryz.f125) (L:=ZhU n) (ks:=[.loop 3]) ⟨Yq n,trivial⟩ (by kernel_rfl) (by kernel_rfl)) (Adj n)
def CF:List (Nat×C):=[(2,.o 5),(5,.l 9),(6,.s 3),(7,.s 3)]
def IM:List Wo:=[⟨.exit 0,[],[(2,.o 5)],[]⟩]
def Iq:List (Nat×C):=[(0,.l 9)]
def MH:List Wo:=[⟨.ret,[],[],[.l 5]⟩]
def KJ:Nat→(List (IK .u8))→(List ByteArray)→Int→Int→Option ((List (IK .u8)×Unit))
 | 0,_,_,_,_=>none
 | n+1,out,x5,x6,x7 =>
  bif decide (x7<x6) then((A6 x5 x7).bind fun v0 =>
  (Yo n v0 x7).bind fun v1 =>
  (app out (AxC v1.fst)).bind fun v2 =>
  KJ n v2 x5 x6 (IntKind.i64.wrap (x7+1))) else
  some (out,())
def Fe (n:Nat) (y:C.Ds Ty (Af CF)):Option (YT Ty IM):=KJ n y.1 y.2.1 y.2.2.1 y.2.2.2.1
def ZdK (n:Nat):St Ty→Tr (Lf Ty):=AZ CF 0 IM (Fe n)
def VY (n:Nat) (lines:List ByteArray):Option ((List (IK .u8)×Unit)) :=
 (KJ n [] lines (↑lines.length:Int) 0).bind fun v0 =>
 some (v0.fst,())
def Si (n:Nat) (y:C.Ds Ty (Af Iq)):Option (YT Ty MH):=VY n y.1
def Zf9 (n:Nat):A9 Ty:=AA Iq 0 MH (Si n)
def Zdx (n:Nat):List (Nat×A9 Ty):=[(125,Zgm n)]
theorem OG (n:Nat):Ap Tryz.prog (Zdx n):=⟨Yr n,trivial⟩
def ZeU (n:Nat):Az Ty:=[]
theorem Wt (n:Nat) (x:C.Ds Ty (Af CF)):(Ax Tryz.prog 19 (Am Tryz.prog (Zdx n) []) (Ae (ZeU n)) (Al 2 Tryz.f78) (Aw CF x)).runK (A3 0 CF IM (Fe n))=Fe (n+1) x:=by kernel_rfl
theorem Wu (n:Nat):A5 true Tryz.prog 19 (ZdK n) (.loop (Al 2 Tryz.f78)):=A4 fun x y hy=>At (Fn:=Fe) Aa Ab (fun n=>Ac Aa Ab (OG n) Ah) (fun h=>by cases h) (fun h=>by cases h) (fun n=>(Ad (fn:=Tryz.f78) (L:=ZeU n) (ks:=[]) trivial (by kernel_rfl) (by kernel_rfl))) (by decide) (fun _=>rfl) Wt hy
def Zhg (n:Nat):Az Ty:=[(.loop 2,ZdK n)]
theorem Ab2 (n:Nat) (x:C.Ds Ty (Af Iq)):(Ax Tryz.prog 19 (Am Tryz.prog (Zdx n) []) (Ae (Zhg n)) (Ao Tryz.f78) (Aw Iq x)).runK (Aq Tryz.prog Tryz.f78.results.toList 0 MH)=Si n x:=by kernel_rfl
theorem Wv (n:Nat):Au Tryz.prog 78 (Zf9 n):=As Tryz.func78 rfl rfl (by decide) rfl Aa Ab (Ac Aa Ab (OG n) Ah) (Ad (fn:=Tryz.f78) (L:=Zhg n) (ks:=[.loop 2]) ⟨Wu n,trivial⟩ (by kernel_rfl) (by kernel_rfl)) (Ab2 n)
def Kw:List (Nat×C):=[(0,.l 9)]
def O4:List Wo:=[⟨.ret,[],[],[.l 5,.s 37]⟩]
def ZZ (n:Nat) (lines:List ByteArray):Option ((List (IK .u8)×Int×Unit)) :=
 (Fv n lines).bind fun v0 =>
 bif v0.fst != 0 then(some ([],(v0.fst,()))) else
 (VY n lines).bind fun v1 =>
 some (v1.fst,(0,()))
def VZ (n:Nat) (y:C.Ds Ty (Af Kw)):Option (YT Ty O4):=ZZ n y.1
def Zhh (n:Nat):A9 Ty:=AA Kw 0 O4 (VZ n)
def Zi4 (n:Nat):List (Nat×A9 Ty):=[(52,ZbJ n),(78,Zf9 n)]
theorem Adk (n:Nat):Ap Tryz.prog (Zi4 n):=⟨FT n,⟨Wv n,trivial⟩⟩
def Zi5 (n:Nat):Az Ty:=[]
theorem AeR (n:Nat) (x:C.Ds Ty (Af Kw)):(Ax Tryz.prog 12 (Am Tryz.prog (Zi4 n) []) (Ae (Zi5 n)) (Ao Tryz.f37) (Aw Kw x)).runK (Aq Tryz.prog Tryz.f37.results.toList 0 O4)=VZ n x:=by kernel_rfl
theorem Zx (n:Nat):Au Tryz.prog 37 (Zhh n):=As Tryz.func37 rfl rfl (by decide) rfl Aa Ab (Ac Aa Ab (Adk n) Ah) (Ad (fn:=Tryz.f37) (L:=Zi5 n) (ks:=[]) trivial (by kernel_rfl) (by kernel_rfl)) (AeR n)
def Ir:Nat→Int→(List (IK .u8))→Int→Int→Option ((Int×Unit) ⊕ ((Int×Unit)))
 | 0,_,_,_,_=>none
 | n+1,n_,x6,x7,x8 =>
  bif decide (x8<x7) then((A6 x6 x8).bind fun v0 =>
  bif !decide (v0.n<48) then(bif decide (v0.n>57) then(some (.inr (-1,()))) else
  Ir n (IntKind.i64.wrap (IntKind.i64.wrap (10*n_)+IntKind.i64.wrap (IntKind.u8.wrap (v0.n-48)))) x6 x7 (IntKind.i64.wrap (x8+1))) else
  some (.inr (-1,()))) else
  some (.inl (n_,()))
def Ys (n:Nat) (l:List (IK .u8)):Option ((Int×Unit)) :=
 (Ir n 0 l (↑l.length:Int) 0).bind fun v0 =>
 Sum.elim (fun v1=>some (v1.fst,())) (fun v1=>some (v1.fst,())) (v0)
def Pq:List (Nat×C):=[]
def Vy:List Wo:=[⟨.ret,[],[],[.l 9]⟩]
def Ab3 (n:Nat):Option ((List ByteArray×Unit)) :=
 some ([B [102,111,117,110,100,32,55,32,49,32,49,48,48,32,51],B [111,117,116,32,55,32,49,53,48],B [111,117,116,32,56,32,49,53,48],B [105,110,32,56,32,50,48,48,32,51,48],B [115,105,103,110,101,100,32,55,32,50,32,49,54,48,32,49],B [111,117,116,32,55,32,49,55,48],B [104,101,108,100,32,56,32,51,32,49,52,48,32,50],B [111,117,116,32,56,32,51,48,48],B [115,97,108,101,32,53,32,50,32,49,53,32,49,32,51,48,48],B [99,108,111,115,101,32,53,32,52,32,51,48,32,50,32,53,48,48],B [100,114,105,118,101,114,32,49,32,45,57,48,48],B [100,117,116,121,32,48,32,51,48,48,32,57,48,48,32,49,48,48,48,32,49],B [100,117,116,121,32,49,32,49,48,48,32,53,48,48,32,53,48,48,32,49],B [103,105,118,101,32,48,32,48],B [103,105,118,101,32,49,32,48],B [105,110,32,55,32,49,54,53,32,53]],())
def Adl (n:Nat) (y:C.Ds Ty (Af Pq)):Option (YT Ty Vy):=Ab3 n
def Zj0 (n:Nat):A9 Ty:=AA Pq 0 Vy (Adl n)
def Zkq (n:Nat):List (Nat×A9 Ty):=[]
theorem Ak2 (n:Nat):Ap Tryz.prog (Zkq n):=trivial
def Zkr (n:Nat):Az Ty:=[]
theorem Alw (n:Nat) (x:C.Ds Ty (Af Pq)):(Ax Tryz.prog 2 (Am Tryz.prog (Zkq n) []) (Ae (Zkr n)) (Ao Tryz.f51) (Aw Pq x)).runK (Aq Tryz.prog Tryz.f51.results.toList 0 Vy)=Adl n x:=by kernel_rfl
theorem AeS (n:Nat):Au Tryz.prog 51 (Zj0 n):=As Tryz.func51 rfl rfl (by decide) rfl Aa Ab (Ac Aa Ab (Ak2 n) Ah) (Ad (fn:=Tryz.f51) (L:=Zkr n) (ks:=[]) trivial (by kernel_rfl) (by kernel_rfl)) (Alw n)
def Pr:List (Nat×C):=[]
def Vz:List Wo:=[⟨.ret,[],[],[.s 4]⟩]
def CW (n:Nat):Option ((Bool×Unit)) :=
 (Ab3 n).bind fun v0 =>
 (GW n v0.fst).bind fun v1 =>
 (Ab3 n).bind fun v2 =>
 (GX n v2.fst).bind fun v3 =>
 (ZZ n [B [97]]).bind fun v4 =>
 bif !v1.snd.snd.fst != 0 then(bif !v3.snd.fst != 0 then(bif !v4.snd.fst != 0 then(bif (↑v1.snd.fst.length:Int) != 16 then(some (false,())) else
 (A6 v1.snd.fst 1).bind fun v5 =>
 bif decide (v5=11) then((A6 v1.snd.fst 7).bind fun v6 =>
 bif decide (v6=11) then((A6 v1.snd.fst 14).bind fun v7 =>
 bif decide (v7=10) then((A6 v1.snd.fst 15).bind fun v8 =>
 bif decide (v8=2) then(bif decide ((↑v1.fst.runs.length:Int)=1) then((A6 v1.fst.runs 0).bind fun v9 =>
 bif decide (v9.bus=8) && (decide (v9.fr=150) && (decide (v9.to_=200) && (decide (v9.miles=30) && true))) then(bif decide ((↑v1.fst.outs.length:Int)=1) then((A6 v1.fst.outs 0).bind fun v10 =>
 bif decide (v10.bus=7) && (decide (v10.fr=170) && true) then((D8 n v1.fst.roster [0,-1]).bind fun v11 =>
 bif v11.fst then((D8 n v3.fst [2]).bind fun v12 =>
 bif v12.fst then(some ((AxB v4.fst).beq (B [91,48,48,49,47,57,57,56,47,48,48,49,48,53,93,97,10]),())) else
 some (false,())) else
 some (false,())) else
 some (false,())) else
 some (false,())) else
 some (false,())) else
 some (false,())) else
 some (false,())) else
 some (false,())) else
 some (false,())) else
 some (false,())) else
 some (false,())) else
 some (false,())) else
 some (false,())
def Adm (n:Nat) (y:C.Ds Ty (Af Pr)):Option (YT Ty Vz):=CW n
def ZfI (n:Nat):A9 Ty:=AA Pr 0 Vz (Adm n)
def Zks (n:Nat):List (Nat×A9 Ty):=[(51,Zj0 n),(21,ZdR n),(31,ZdS n),(37,Zhh n),(32,Zc7 n)]
theorem Ak3 (n:Nat):Ap Tryz.prog (Zks n):=⟨AeS n,⟨QJ n,⟨QM n,⟨Zx n,⟨Ke n,trivial⟩⟩⟩⟩⟩
def Zkt (n:Nat):Az Ty:=[]
theorem Alx (n:Nat) (x:C.Ds Ty (Af Pr)):(Ax Tryz.prog 105 (Am Tryz.prog (Zks n) []) (Ae (Zkt n)) (Ao Tryz.f20) (Aw Pr x)).runK (Aq Tryz.prog Tryz.f20.results.toList 0 Vz)=Adm n x:=by kernel_rfl
theorem Ue (n:Nat):Au Tryz.prog 20 (ZfI n):=As Tryz.func20 rfl rfl (by decide) rfl Aa Ab (Ac Aa Ab (Ak3 n) Ah) (Ad (fn:=Tryz.f20) (L:=Zkt n) (ks:=[]) trivial (by kernel_rfl) (by kernel_rfl)) (Alx n)
def Ps:List (Nat×C):=[(0,.g 35),(1,.g 35)]
def V0:List Wo:=[⟨.ret,[],[],[.s 4]⟩]
def QO (n:Nat) (a:An) (b:An):Option ((Bool×Unit)) :=
 (Vh n a.cards b.cards).bind fun v0 =>
 bif v0.fst then((YA n a.outs b.outs).bind fun v1 =>
 bif v1.fst then((YB n a.runs b.runs).bind fun v2 =>
 bif v2.fst then((OY n a.records b.records).bind fun v3 =>
 bif v3.fst then((Vj n a.week b.week).bind fun v4 =>
 bif v4.fst then((D8 n a.roster b.roster).bind fun v5 =>
 some (v5.fst,())) else
 some (false,())) else
 some (false,())) else
 some (false,())) else
 some (false,())) else
 some (false,())
def Adn (n:Nat) (y:C.Ds Ty (Af Ps)):Option (YT Ty V0):=QO n y.1 y.2.1
def Zj1 (n:Nat):A9 Ty:=AA Ps 0 V0 (Adn n)
def Zku (n:Nat):List (Nat×A9 Ty):=[(54,ZiP n),(55,Zj9 n),(56,ZjA n),(57,Zhw n),(58,ZiU n),(32,Zc7 n)]
theorem Ak4 (n:Nat):Ap Tryz.prog (Zku n):=⟨Aen n,⟨AgR n,⟨AgU n,⟨AaH n,⟨Aes n,⟨Ke n,trivial⟩⟩⟩⟩⟩⟩
def Zkv (n:Nat):Az Ty:=[]
theorem Aly (n:Nat) (x:C.Ds Ty (Af Ps)):(Ax Tryz.prog 45 (Am Tryz.prog (Zku n) []) (Ae (Zkv n)) (Ao Tryz.f24) (Aw Ps x)).runK (Aq Tryz.prog Tryz.f24.results.toList 0 V0)=Adn n x:=by kernel_rfl
theorem AeT (n:Nat):Au Tryz.prog 24 (Zj1 n):=As Tryz.func24 rfl rfl (by decide) rfl Aa Ab (Ac Aa Ab (Ak4 n) Ah) (Ad (fn:=Tryz.f24) (L:=Zkv n) (ks:=[]) trivial (by kernel_rfl) (by kernel_rfl)) (Aly n)
def Hv:List (Nat×C):=[(1,.u 51),(2,.u 35),(3,.p [.l 180,.o 60,.o 62,.l 93,.s 3,.l 184,.l 186,.s 3,.s 3,.s 3,.l 3]),(4,.s 3)]
def O5:List Wo:=[⟨.exit 0,[.u 51,.u 35,.p [.l 180,.o 60,.o 62,.l 93,.s 3,.l 184,.l 186,.s 3,.s 3,.s 3,.l 3]],[(1,.q 0),(2,.q 1),(3,.q 2)],[]⟩]
def Hw:List (Nat×C):=[(1,.u 51),(2,.u 35),(3,.p [.l 180,.o 60,.o 62,.l 93,.s 3,.l 184,.l 186,.s 3,.s 3,.s 3,.l 3]),(5,.s 3)]
def O6:List Wo:=[⟨.exit 2,[.u 51,.u 35,.p [.l 180,.o 60,.o 62,.l 93,.s 3,.l 184,.l 186,.s 3,.s 3,.s 3,.l 3]],[(2,.q 1),(3,.q 2)],[]⟩]
def Pt:List (Nat×C):=[(0,.g 51)]
def V1:List Wo:=[⟨.ret,[],[],[.g 35]⟩]
def F0:Nat→An→An→(List A0)→(List Sm)→(List SM)→(List Ag)→Int→(List AP)→(List AJ)→Int→Int→Int→(List Int)→Int→Option ((An×An×(List A0×List Sm×List SM×List Ag×Int×List AP×List AJ×Int×Int×Int×List Int×Unit)×Unit×Unit×Unit×Unit))
 | 0,_,_,_,_,_,_,_,_,_,_,_,_,_,_=>none
 | n+1,s,x2,out1,out2,out3,out4,out5,out6,out7,out8,out9,out10,out11,i =>
  bif decide (i<(↑s.outs.length:Int)) then((A6 s.outs i).bind fun v0 =>
  (A6 s.outs i).bind fun v1 =>
  (app out2 [Sm.mk v0.bus v1.fr]).bind fun v2 =>
  F0 n s x2 out1 v2 out3 out4 out5 out6 out7 out8 out9 out10 out11 (IntKind.i64.wrap (i+1))) else
  some (s,(x2,((out1,(out2,(out3,(out4,(out5,(out6,(out7,(out8,(out9,(out10,(out11,()))))))))))),((),((),((),()))))))
def Kx (n:Nat) (y:C.Ds Ty (Af Hv)):Option (YT Ty O5):=F0 n y.1 y.2.1 y.2.2.1.1 y.2.2.1.2.1 y.2.2.1.2.2.1 y.2.2.1.2.2.2.1 y.2.2.1.2.2.2.2.1 y.2.2.1.2.2.2.2.2.1 y.2.2.1.2.2.2.2.2.2.1 y.2.2.1.2.2.2.2.2.2.2.1 y.2.2.1.2.2.2.2.2.2.2.2.1 y.2.2.1.2.2.2.2.2.2.2.2.2.1 y.2.2.1.2.2.2.2.2.2.2.2.2.2.1 y.2.2.2.1
def Zhi (n:Nat):St Ty→Tr (Lf Ty):=AZ Hv 3 O5 (Kx n)
def F5:Nat→An→An→(List A0)→(List Sm)→(List SM)→(List Ag)→Int→(List AP)→(List AJ)→Int→Int→Int→(List Int)→Int→Option ((An×An×(List A0×List Sm×List SM×List Ag×Int×List AP×List AJ×Int×Int×Int×List Int×Unit)×Unit×Unit×Unit))
 | 0,_,_,_,_,_,_,_,_,_,_,_,_,_,_=>none
 | n+1,s,x2,out1,out2,out3,out4,out5,out6,out7,out8,out9,out10,out11,i =>
  bif decide (i<(↑s.runs.length:Int)) then((A6 s.runs i).bind fun v0 =>
  (app out3 [v0]).bind fun v1 =>
  F5 n s x2 out1 out2 v1 out4 out5 out6 out7 out8 out9 out10 out11 (IntKind.i64.wrap (i+1))) else
  some (s,(x2,((out1,(out2,(out3,(out4,(out5,(out6,(out7,(out8,(out9,(out10,(out11,()))))))))))),((),((),())))))
def Ky (n:Nat) (y:C.Ds Ty (Af Hw)):Option (YT Ty O6):=F5 n y.1 y.2.1 y.2.2.1.1 y.2.2.1.2.1 y.2.2.1.2.2.1 y.2.2.1.2.2.2.1 y.2.2.1.2.2.2.2.1 y.2.2.1.2.2.2.2.2.1 y.2.2.1.2.2.2.2.2.2.1 y.2.2.1.2.2.2.2.2.2.2.1 y.2.2.1.2.2.2.2.2.2.2.2.1 y.2.2.1.2.2.2.2.2.2.2.2.2.1 y.2.2.1.2.2.2.2.2.2.2.2.2.2.1 y.2.2.2.1
def Zhj (n:Nat):St Ty→Tr (Lf Ty):=AZ Hw 3 O6 (Ky n)
def V2 (n:Nat) (s:An):Option ((An×Unit)) :=
 (Pa n s.cards).bind fun v0 =>
 (LU n s.records).bind fun v1 =>
 (RT n s.week).bind fun v2 =>
 (app [] s.roster).bind fun v3 =>
 (F0 n s (An.mk [] [] [] [] (Ar.mk 0 [] [] 0 0 0) []) v0.fst [] [] v1.fst v2.fst.days v2.fst.duties v2.fst.drivers v2.fst.rest v2.fst.run v2.fst.hours v3 0).bind fun v4 =>
 (F5 n v4.fst v4.snd.fst v4.snd.snd.fst.fst v4.snd.snd.fst.snd.fst v4.snd.snd.fst.snd.snd.fst v4.snd.snd.fst.snd.snd.snd.fst v4.snd.snd.fst.snd.snd.snd.snd.fst v4.snd.snd.fst.snd.snd.snd.snd.snd.fst v4.snd.snd.fst.snd.snd.snd.snd.snd.snd.fst v4.snd.snd.fst.snd.snd.snd.snd.snd.snd.snd.fst v4.snd.snd.fst.snd.snd.snd.snd.snd.snd.snd.snd.fst v4.snd.snd.fst.snd.snd.snd.snd.snd.snd.snd.snd.snd.fst v4.snd.snd.fst.snd.snd.snd.snd.snd.snd.snd.snd.snd.snd.fst 0).bind fun v5 =>
 some (An.mk v5.snd.snd.fst.fst v5.snd.snd.fst.snd.fst v5.snd.snd.fst.snd.snd.fst v5.snd.snd.fst.snd.snd.snd.fst (Ar.mk v5.snd.snd.fst.snd.snd.snd.snd.fst v5.snd.snd.fst.snd.snd.snd.snd.snd.fst v5.snd.snd.fst.snd.snd.snd.snd.snd.snd.fst v5.snd.snd.fst.snd.snd.snd.snd.snd.snd.snd.fst v5.snd.snd.fst.snd.snd.snd.snd.snd.snd.snd.snd.fst v5.snd.snd.fst.snd.snd.snd.snd.snd.snd.snd.snd.snd.fst) v5.snd.snd.fst.snd.snd.snd.snd.snd.snd.snd.snd.snd.snd.fst,())
def Ado (n:Nat) (y:C.Ds Ty (Af Pt)):Option (YT Ty V1):=V2 n y.1
def Zj2 (n:Nat):A9 Ty:=AA Pt 0 V1 (Ado n)
def ZeV (n:Nat):List (Nat×A9 Ty):=[(60,Zhz n),(61,ZfZ n),(62,Zii n)]
theorem QP (n:Nat):Ap Tryz.prog (ZeV n):=⟨AaL n,⟨XF n,⟨AcI n,trivial⟩⟩⟩
def Zi6 (n:Nat):Az Ty:=[]
theorem AeU (n:Nat) (x:C.Ds Ty (Af Hv)):(Ax Tryz.prog 73 (Am Tryz.prog (ZeV n) []) (Ae (Zi6 n)) (Al 3 Tryz.f26) (Aw Hv x)).runK (A3 3 Hv O5 (Kx n))=Kx (n+1) x:=by kernel_rfl
theorem AeV (n:Nat):A5 true Tryz.prog 73 (Zhi n) (.loop (Al 3 Tryz.f26)):=A4 fun x y hy=>At (Fn:=Kx) Aa Ab (fun n=>Ac Aa Ab (QP n) Ah) (fun h=>by cases h) (fun h=>by cases h) (fun n=>(Ad (fn:=Tryz.f26) (L:=Zi6 n) (ks:=[]) trivial (by kernel_rfl) (by kernel_rfl))) (by decide) (fun _=>rfl) AeU hy
def Zi7 (n:Nat):Az Ty:=[]
theorem AeW (n:Nat) (x:C.Ds Ty (Af Hw)):(Ax Tryz.prog 73 (Am Tryz.prog (ZeV n) []) (Ae (Zi7 n)) (Al 7 Tryz.f26) (Aw Hw x)).runK (A3 3 Hw O6 (Ky n))=Ky (n+1) x:=by kernel_rfl
theorem AeX (n:Nat):A5 true Tryz.prog 73 (Zhj n) (.loop (Al 7 Tryz.f26)):=A4 fun x y hy=>At (Fn:=Ky) Aa Ab (fun n=>Ac Aa Ab (QP n) Ah) (fun h=>by cases h) (fun h=>by cases h) (fun n=>(Ad (fn:=Tryz.f26) (L:=Zi7 n) (ks:=[]) trivial (by kernel_rfl) (by kernel_rfl))) (by decide) (fun _=>rfl) AeW hy
def Zkw (n:Nat):Az Ty:=[(.loop 3,Zhi n),(.loop 7,Zhj n)]
theorem Alz (n:Nat) (x:C.Ds Ty (Af Pt)):(Ax Tryz.prog 73 (Am Tryz.prog (ZeV n) []) (Ae (Zkw n)) (Ao Tryz.f26) (Aw Pt x)).runK (Aq Tryz.prog Tryz.f26.results.toList 0 V1)=Ado n x:=by kernel_rfl
theorem AeY (n:Nat):Au Tryz.prog 26 (Zj2 n):=As Tryz.func26 rfl rfl (by decide) rfl Aa Ab (Ac Aa Ab (QP n) Ah) (Ad (fn:=Tryz.f26) (L:=Zkw n) (ks:=[.loop 3,.loop 7]) ⟨AeV n,⟨AeX n,trivial⟩⟩ (by kernel_rfl) (by kernel_rfl)) (Alz n)
def Cq:List (Nat×C):=[(4,.l 37),(7,.l 3),(8,.s 3)]
def HI:List Wo:=[⟨.exit 0,[],[],[]⟩,⟨.ret,[],[(2,.s 4)],[]⟩]
def GY:List (Nat×C):=[(0,.l 9)]
def KM:List Wo:=[⟨.ret,[],[],[.s 4]⟩]
def Cd:Nat→(List Int)→(List Int)→Int→Option (Unit ⊕ ((Bool×Unit)))
 | 0,_,_,_=>none
 | n+1,errors,want,i =>
  bif decide (i<(↑want.length:Int)) then((A6 errors i).bind fun v0 =>
  (A6 want i).bind fun v1 =>
  bif v0 != v1 then(some (.inr (false,()))) else
  Cd n errors want (IntKind.i64.wrap (i+1))) else
  some (.inl ())
def Ek (n:Nat) (y:C.Ds Ty (Af Cq)):Option (YT Ty HI):=Cd n y.1 y.2.1 y.2.2.1
def Zdu (n:Nat):St Ty→Tr (Lf Ty):=AZ Cq 0 HI (Ek n)
def Ju (n:Nat) (lines:List ByteArray):Option ((Bool×Unit)) :=
 (Qt n lines).bind fun v0 =>
 bif !v0.fst then((CW n).bind fun v1 =>
 some (v1.fst,())) else
 (P1 n lines).bind fun v1 =>
 (GW n v1.fst).bind fun v2 =>
 (Q5 n lines).bind fun v3 =>
 bif !v3.fst then(bif decide (v2.snd.snd.fst=3) then(bif decide ((↑v2.snd.fst.length:Int)=0) then((QO n v2.fst (An.mk [] [] [] [] (Ar.mk 0 [] [] 0 0 0) [])).bind fun v4 =>
 bif v4.fst then((CW n).bind fun v5 =>
 some (v5.fst,())) else
 some (false,())) else
 some (false,())) else
 some (false,())) else
 (TY n lines).bind fun v4 =>
 bif !v2.snd.snd.fst != 0 then(bif !(↑v2.snd.fst.length:Int) != (↑v4.snd.fst.length:Int) then((V2 n v4.fst).bind fun v5 =>
 (QO n v2.fst v5.fst).bind fun v6 =>
 bif !v6.fst then(some (false,())) else
 (Cd n v2.snd.fst v4.snd.fst 0).bind fun v7 =>
 Sum.elim (fun v8=>(CW n).bind fun v9 =>
 some (v9.fst,())) (fun v8=>some (v8.fst,())) (v7)) else
 some (false,())) else
 some (false,())
def QQ (n:Nat) (y:C.Ds Ty (Af GY)):Option (YT Ty KM):=Ju n y.1
def ZeW (n:Nat):A9 Ty:=CG (AA GY 0 KM (QQ n))
def Zdb (n:Nat):List (Nat×A9 Ty):=[(19,Zhy n),(20,ZfI n),(22,Zgs n),(21,ZdR n),(23,ZfD n),(24,Zj1 n),(25,Zgx n),(26,Zj2 n)]
theorem NW (n:Nat):Ap Tryz.prog (Zdb n):=⟨X9 n,⟨Ue n,⟨VL n,⟨QJ n,⟨TU n,⟨AeT n,⟨VW n,⟨AeY n,trivial⟩⟩⟩⟩⟩⟩⟩⟩
def Zey (n:Nat):Az Ty:=[]
theorem V3 (n:Nat) (x:C.Ds Ty (Af Cq)):(Ax Tryz.prog 75 (Am Tryz.prog (Zdb n) []) (Ae (Zey n)) (Al 10 Tryz.f3) (Aw Cq x)).runK (A3 0 Cq HI (Ek n))=Ek (n+1) x:=by kernel_rfl
theorem V4 (n:Nat):A5 true Tryz.prog 75 (Zdu n) (.loop (Al 10 Tryz.f3)):=A4 fun x y hy=>At (Fn:=Ek) Aa Ab (fun n=>Ac Aa Ab (NW n) Ah) (fun h=>by cases h) (fun h=>by cases h) (fun n=>(Ad (fn:=Tryz.f3) (L:=Zey n) (ks:=[]) trivial (by kernel_rfl) (by kernel_rfl))) (by decide) (fun _=>rfl) V3 hy
def Zgn (n:Nat):Az Ty:=[(.loop 10,Zdu n)]
theorem Zy (n:Nat) (x:C.Ds Ty (Af GY)):(Ax Tryz.prog 75 (Am Tryz.prog (Zdb n) []) (Ae (Zgn n)) (Ao Tryz.f3) (Aw GY x)).runK (Aq Tryz.prog Tryz.f3.results.toList 0 KM)=QQ n x:=by kernel_rfl
theorem V5 (n:Nat):Au Tryz.prog 3 (ZeW n):=AS (As Tryz.func3 rfl rfl (by decide) rfl Aa Ab (Ac Aa Ab (NW n) Ah) (Ad (fn:=Tryz.f3) (L:=Zgn n) (ks:=[.loop 10]) ⟨V4 n,trivial⟩ (by kernel_rfl) (by kernel_rfl)) (Zy n))
def GZ:List (Nat×C):=[(0,.l 9),(1,.s 3)]
def KN:List Wo:=[⟨.ret,[],[],[.s 4]⟩]
def Jv (n:Nat) (lines:List ByteArray) (bus:Int):Option ((Bool×Unit)) :=
 (Qt n lines).bind fun v0 =>
 bif !v0.fst then((CW n).bind fun v1 =>
 some (v1.fst,())) else
 (P1 n lines).bind fun v1 =>
 (GX n v1.fst).bind fun v2 =>
 (P1 n lines).bind fun v3 =>
 (D6 n v3.fst bus).bind fun v4 =>
 (Q5 n lines).bind fun v5 =>
 bif !v5.fst then(bif decide (v2.snd.fst=3) then(bif decide (v4.snd.fst=3) then(bif decide ((↑v2.fst.length:Int)=0) then(bif decide (v4.fst=0) then((CW n).bind fun v6 =>
 some (v6.fst,())) else
 some (false,())) else
 some (false,())) else
 some (false,())) else
 some (false,())) else
 (TY n lines).bind fun v6 =>
 bif !v2.snd.fst != 0 then((YE n v6.fst lines v6.snd.fst).bind fun v7 =>
 (D8 n v2.fst v7.fst).bind fun v8 =>
 bif !v8.fst then(some (false,())) else
 (Vt n v6.fst bus).bind fun v9 =>
 bif !decide (bus<0) then(bif decide (bus>99) then(bif decide (v4.snd.fst=2) then(bif decide (v4.fst=0) then((CW n).bind fun v10 =>
 some (v10.fst,())) else
 some (false,())) else
 some (false,())) else
 bif decide (v9.snd.fst=0) then(bif decide (v4.snd.fst=7) then(bif decide (v4.fst=0) then((CW n).bind fun v10 =>
 some (v10.fst,())) else
 some (false,())) else
 some (false,())) else
 bif decide (v4.snd.fst=0) then(bif decide (v4.fst=v9.fst) then((CW n).bind fun v10 =>
 some (v10.fst,())) else
 some (false,())) else
 some (false,())) else
 bif decide (v4.snd.fst=2) then(bif decide (v4.fst=0) then((CW n).bind fun v10 =>
 some (v10.fst,())) else
 some (false,())) else
 some (false,())) else
 some (false,())
def QR (n:Nat) (y:C.Ds Ty (Af GZ)):Option (YT Ty KN):=Jv n y.1 y.2.1
def ZeX (n:Nat):A9 Ty:=CG (AA GZ 0 KN (QR n))
def Zgo (n:Nat):List (Nat×A9 Ty):=[(19,Zhy n),(20,ZfI n),(22,Zgs n),(31,ZdS n),(34,Zhf n),(23,ZfD n),(25,Zgx n),(35,ZjP n),(32,Zc7 n),(36,Zjk n)]
theorem Yt (n:Nat):Ap Tryz.prog (Zgo n):=⟨X9 n,⟨Ue n,⟨VL n,⟨QM n,⟨Zw n,⟨TU n,⟨VW n,⟨Ahs n,⟨Ke n,⟨AeB n,trivial⟩⟩⟩⟩⟩⟩⟩⟩⟩⟩
def Zgp (n:Nat):Az Ty:=[]
theorem Zz (n:Nat) (x:C.Ds Ty (Af GZ)):(Ax Tryz.prog 111 (Am Tryz.prog (Zgo n) []) (Ae (Zgp n)) (Ao Tryz.f8) (Aw GZ x)).runK (Aq Tryz.prog Tryz.f8.results.toList 0 KN)=QR n x:=by kernel_rfl
theorem V6 (n:Nat):Au Tryz.prog 8 (ZeX n):=AS (As Tryz.func8 rfl rfl (by decide) rfl Aa Ab (Ac Aa Ab (Yt n) Ah) (Ad (fn:=Tryz.f8) (L:=Zgp n) (ks:=[]) trivial (by kernel_rfl) (by kernel_rfl)) (Zz n))
theorem AwA (k:Nat):CW (k+60)=some (true,()):=by kernel_rfl
end
end Go.Proofs.YtkpgggfibljflaaGreatDoor
