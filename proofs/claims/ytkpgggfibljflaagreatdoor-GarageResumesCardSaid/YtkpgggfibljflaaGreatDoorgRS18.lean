/- What a proof leans on: a machine that steps through code, and what functions compute. -/
import Derived.Test.YtkpgggfibljflaaGreatDoorgRS17
set_option linter.all false
set_option maxRecDepth 100000
namespace Go.Proofs.YtkpgggfibljflaaGreatDoor
noncomputable section
open Go Go.RowKit Go.Proofs
open Rep (rep)
def Aks:Code→Code
 | .seq a _=>a
 | c=>c
theorem Apx:Ao Tryz.f84=.seq (Aks (Ao Tryz.f84)) (.seq (Aks (Yp 1 (Ao Tryz.f84))) (Yp 2 (Ao Tryz.f84))):=by kernel_rfl
def Lx:List (Nat×C):=[(0,.u 114),(1,.s 9)]
def Abw:List Wo:=[⟨.ret,[.u 114],[],[.s 37]⟩]
def Aqu (n:Nat) (g:Aj) (text:ByteArray):Option (Aj×Int×Unit):=(AnI n g text 0).bind fun y=>match y with
 | .inl a=>some (a.1,a.2.1.1,())
 | .inr a=>some (a.1,a.2.2.2.1.errno,())
def Aqv (n:Nat) (y:C.Ds Ty (Af Lx)):Option (YT Ty Abw):=Aqu n y.1 y.2.1
def ZjA (n:Nat):AA Ty:=AB Lx 1 Abw (Aqv n)
def Zdd (x:C.Ds Ty (Af Lx)):St Ty:=⟨[(4,.ptr 2000 0),(0,.ptr 0 0),(1,Anm (UV.view 9 x.2.1))],[(0,.blk (UV.view 114 x.1)),(2000,.blk [.int .i64 0])],2064⟩
theorem Aus (x:C.Ds Ty (Af Lx)):(Ay Tryz.prog 50 (Al Tryz.prog [] []) (Ae []) (Aks (Ao Tryz.f84)) (Av Lx x)).runK some=some ⟨.normal,Zdd x⟩:=by kernel_rfl
theorem Aut (t:Array Value) (d:List Deferred) (w:World) (Q:Exit→Act→World→Prop) (p:Addr) (ht:t.size=50) (hp:t[4]? = some (.pointer (some p)))
  (hQ:∀ t',t'.size=50→(∀ k,k≠11→t'[k]? = t[k]?)→Q .normal ⟨t',⟨.fn (.func 137) #[.pointer (some p)],#[]⟩::d⟩ w):(Aks (Yp 1 (Ao Tryz.f84))).wp Tryz.prog Q ⟨t,d⟩ w:=by
 have hc:Aks (Yp 1 (Ao Tryz.f84))=Code.region 1
  #[{ dst:=some 11,op:=Op.makeFunc (Fn.func 137) #[] #[Operand.tmp 4],type:=1,pos := "garage.go:102",
      after:=#[],guard:=none },
    { dst:=none,op:=Op.defer { callee:=Callee.value (Operand.tmp 11),args:=#[],argTypes:=#[] },
      type:=0,pos := "garage.go:102",after:=#[{ on:=0,ground:=Ground.data }],guard:=none }]
  false:=by kernel_rfl
 rw [hc]
 have hmf:∀ (fn:Fn)(first cap:Array Value)(w:World),(Instr.makeFunc fn first cap).run Tryz.prog w=.ok (.func fn first cap) w:=fun _ _ _ _=>rfl
 have h4:4<t.size:=by omega
 have h11:11<t.size:=by omega
 have he:t.getD 4 Go.undef=.pointer (some p):=by simp [ZaF,hp]
 refine wp_region ?_
 simp [wpOps,go_sem,hmf,Region.wanted,Act.eval,h11]
 rw [hp]
 exact .inl (.inl (hQ _ (by simp [ht]) fun k hk=>by rw [ZaY (Ne.symm hk)]))
def ZbA (a:Aj) (e:Int):AM Ty:=[(2000,.blk [.int .i64 e]),(0,.blk (UV.view 114 a))]
def Zk7 (k:EK) (a:Aj) (e r:Int):Lf Ty:=⟨k.ext [.ifc 234 (.agg [.int .i64 r])],⟨[(4,.ptr 2000 0)],ZbA a e,2064⟩⟩
theorem ArQ (Fn:C.Ds Ty (Af QQ)→Option (YT Ty TV)) (x:C.Ds Ty (Af Lx)):(Bc QQ 2 TV Fn (Zdd x)).runK some=(Fn (x.1,x.2.1,((0:Int),()),())).bind fun y=>y.elim (fun a=>some (Zk7 .ret a.1 a.2.1.1 0)) (fun a=>some (Zk7 .pan a.1 a.2.1.1 a.2.2.2.1.errno)):=by kernel_rfl
theorem ArR {F:Fr} {h:Ak} {g:GE} {t:Array Value} {w:World} {a:Aj} {e:Int} (hk:AbZ g h ([(4,.ptr 2000 0)]:List (Nat×V Ty)) t) (hm:A2 F h g (AL.get (ZbA a e)) w):∃ us,V.dens g h ([.int .i64 e]:List (V Ty)) us∧(results Tryz.f84 t).run Tryz.prog w=.ok (YX us) w :=
 Pi (P:=Tryz.prog) (m:=[(4,.ptr 2000 0)]) (s:=ZbA a e) (vs:=[.int .i64 e]) hk hm (by kernel_rfl)
theorem Auu (a:Aj) (e:Int):Io 1 false ([.int .i64 e]:List (V Ty)) ⟨[],ZbA a e,2064⟩ Abw=some (a,e,()):=by kernel_rfl
theorem Aqw (a:Aj) (e:Int):AL.get (ZbA a e) 2000=some (.blk [.int .i64 e]):=by kernel_rfl
theorem Apy (n:Nat) (x:C.Ds Ty (Af Lx)) (y:YT Ty Abw) (hy:Aqv n x=some y) (F:Fr) (h:Ak) (g:GE) (t:Array Value) (w:World) (R:Ending→World→Prop) (hs:RS Tryz.f84.ntmps F h g (2*AK) (Av Lx x).m (Av Lx x).s t w)
  (hfin:∀ (F3:Fr)(h2:Ak)(g2:GE)(w3:World)(st:St Ty)(p:Bool)(rv:List (V Ty))(rus:List Value),st.m=[]→FD F F3 [] []→Ak.le h h2→(∀ i,i<2*AK→g2 i=g i)→2*AK≤st.nx→A2 F3 h2 g2 (AL.get st.s) w3→SQ st.nx (AL.get st.s)→Io 1 p rv st Abw=some y→V.dens g2 h2 rv rus→V.oksB (Eh st.nx) rv=true→R (Aeb p (YX rus)) w3) :
  (Ao Tryz.f84).wp Tryz.prog (bodyPostM Fence.wide 0 Tryz.prog Tryz.f84 R) ⟨t,[]⟩ w:=by
 have hn:Tryz.f84.ntmps=50:=by kernel_rfl
 rw [hn] at hs
 rw [Apx]
 refine wp_seq ?_
 refine BU (y:=true) (call:=Al Tryz.prog [] []) (cuts:=Ae []) Aa Ab (Ac (T:=[]) (I:=[]) Aa Ab trivial trivial) (fun h=>by cases h) (Aks (Ao Tryz.f84)) (fun h=>by cases h) (fun _ _ _ hf=>by cases hf) (Av Lx x) _ (Aus x) F h g t w _ [] hs ?_
 intro F1 d1 h1 g1 t1 w1 q0 q1 q2 q3 q4
 have hnx:(Av Lx x).nx=2*AK:=rfl
 rw [hnx] at q2
 show Code.wp Tryz.prog _ (bodyPostM Fence.wide 0 Tryz.prog Tryz.f84 R) ⟨t1,d1⟩ w1
 refine wp_seq ?_
 obtain⟨u,hu,hd⟩:=q4.kn 4 (.ptr 2000 0) rfl
 unfold V.den at hd
 subst hd
 refine Aut t1 d1 w1 _ ⟨(g1 2000).b,0,none⟩ q4.size hu fun t2 ht2 hk2=>?_
 show Code.wp Tryz.prog (Yp 2 (Ao Tryz.f84)) (bodyPostM Fence.wide 0 Tryz.prog Tryz.f84 R) _ w1
 have hcut:A5 true Tryz.prog 50 (Bc QQ 2 TV (Abv n)) (Yp 2 (Ao Tryz.f84)):=A6 fun x y hy=>ArP n hy
 have hk3:AbZ g1 h1 (Zdd x).m t2:=fun k v hv=>by
  obtain⟨u',e1,e2⟩:=q4.kn k v hv
  refine⟨u',?_,e2⟩
  rw [hk2 k ?_]; exact e1
  intro hh
  subst hh
  cases hv
 have hs2:RS 50 F1 h1 g1 (Zdd x).nx (Zdd x).m (Zdd x).s t2 w1:=⟨ht2,hk3,q4.mem,q4.im,q4.is_⟩
 -- what comes behind the body
 have fin:∀ (a:Aj)(e:Int),(a,e,())=y→∀ (F3:Fr)(h2:Ak)(g2:GE)(t3:Array Value)(w3:World),FD F F3 [] []→Ak.le h1 h2→(∀ i,i<2064→g2 i=g1 i)→AbZ g2 h2 ([(4,.ptr 2000 0)]:List (Nat×V Ty)) t3→A2 F3 h2 g2 (AL.get (ZbA a e)) w3→SQ 2064 (AL.get (ZbA a e))→LeavesInM Fence.wide 0 Tryz.prog Tryz.f84 t3 R [] .returning w3:=by
  intro a e hye F3 h2 g2 t3 w3 f1 f2 f3 f4 f5 f6
  obtain⟨us,r1,r2⟩:=ArR f4 f5
  refine⟨YX us,r2,?_⟩
  have hlt:2*AK≤2064:=by decide
  exact hfin F3 h2 g2 w3 ⟨[],ZbA a e,2064⟩ false [.int .i64 e] us rfl f1 (Ak.le_trans q1 f2) (fun i hi=>by rw [f3 i (Zao hi hlt),q2 i hi]) hlt f5 f6 ((Auu a e).trans (congrArg some hye)) r1 rfl
 obtain⟨bs1,hd1,nd1,hX1⟩:=q0.ds
 rw [Zbi] at hd1
 have rest:∀ (a:Aj)(e:Int),(a,e,())=y→∀ (F3:Fr)(h2:Ak)(g2:GE)(t3:Array Value)(w3:World),FD F1 F3 [] []→Ak.le h1 h2→(∀ i,i<2064→g2 i=g1 i)→AbZ g2 h2 ([(4,.ptr 2000 0)]:List (Nat×V Ty)) t3→A2 F3 h2 g2 (AL.get (ZbA a e)) w3→SQ 2064 (AL.get (ZbA a e))→LeavesInM Fence.wide 0 Tryz.prog Tryz.f84 t3 R d1 .returning w3:=by
  intro a e hye F3 h2 g2 t3 w3 f1 f2 f3 f4 f5 f6
  have:=HC (P:=Tryz.prog) (F:=F) (h:=h2) (g:=g2) (M:=AL.get (ZbA a e)) (fn:=Tryz.f84) (t:=t3) (R:=R) (u:=.returning) (rest:=[]) (by simp) (fun F4 w4 k1 k2=>fin a e hye F4 h2 g2 t3 w4 k1 f2 f3 f4 k2 f6) bs1 F3 w3 ⟨by rw [f1.w,q0.w],by rw [f1.h,q0.h],fun b o hb=>f1.X b o (q0.X b o hb),[],rfl,Zbv,by simp⟩ f5 nd1 fun b hb=>⟨(hX1 b hb).1,f1.X _ _ (hX1 b hb).2⟩
  rw [Zbi] at this
  rw [hd1]; exact this
 have hy2:((AnI n x.1 x.2.1 0).bind fun y=>match y with
  | .inl a=>some (a.1,a.2.1.1,())
  | .inr a=>some (a.1,a.2.2.2.1.errno,()))=some y:=hy
 obtain⟨y0,hy0,hy3⟩:=Zag.1 hy2
 have hrun:=ArQ (Abv n) x
 have hB:Abv n (x.1,x.2.1,((0:Int),()),())=some y0:=hy0
 rw [hB] at hrun
 cases y0 with
 | inl a =>
  have hye:=Option.some.inj hy3
  refine hcut (Zdd x) _ hrun F1 h1 g1 t2 w1 _ _ hs2 ?_
  intro F2 d2 h2 g2 t3 w2 p0 p1 p2 p3 p4
  show LeavesInM Fence.wide 0 Tryz.prog Tryz.f84 t3 R d2 .returning w2
  obtain⟨bs,hd2,nd,hX⟩:=p0.ds
  rw [hd2]
  refine HC (P:=Tryz.prog) (F:=F1) (h:=h2) (g:=g2) (M:=AL.get (ZbA a.1 a.2.1.1)) (by simp) (fun F4 w4 k1 k2=>?_) bs F2 w2 p0.nil p4.mem nd hX
  refine⟨by simp,.inr ⟨fun hh=>by simp [Fence.wide] at hh,_,_,137,#[.pointer (some ⟨(g1 2000).b,0,none⟩)],rfl,by simp [go_sem],fun _ _=>trivial,?_⟩⟩
  refine(Apv _ w4).mono ?_
  rintro e u' w' ⟨rfl,rfl,rfl⟩
  exact rest a.1 a.2.1.1 hye F4 h2 g2 t3 w' k1 p1 (fun i hi=>p2 i hi) p4.kn k2 p4.is_
 | inr a =>
  have hye:=Option.some.inj hy3
  refine hcut (Zdd x) _ hrun F1 h1 g1 t2 w1 _ _ hs2 ?_
  intro F2 d2 h2 g2 t3 w2 p0 p1 p2 p3 p4
  intro v hv _
  show LeavesInM Fence.wide 0 Tryz.prog Tryz.f84 t3 R d2 (.panicking [{ v:=v,recovered:=false }]) w2
  have hvv:v=.iface 234 (.agg #[.int .i64 a.2.2.2.1.errno]):=by
   have hv:V.den g2 h2 (.ifc 234 (.agg [.int .i64 a.2.2.2.1.errno]):V Ty) v:=hv
   unfold V.den at hv
   obtain⟨z,rfl,hz⟩:=hv
   unfold V.den at hz
   obtain⟨us,rfl,hz⟩:=hz
   unfold V.dens at hz
   obtain⟨u1,us1,rfl,hz1,hz2⟩:=hz
   unfold V.dens at hz2
   unfold V.den at hz1
   subst hz1 hz2
   rfl
  subst hvv
  obtain⟨bs,hd2,nd,hX⟩:=p0.ds
  rw [hd2]
  refine HC (P:=Tryz.prog) (F:=F1) (h:=h2) (g:=g2) (M:=AL.get (ZbA a.1 a.2.1.1)) (by simp) (fun F4 w4 k1 k2=>?_) bs F2 w2 p0.nil p4.mem nd hX
  refine⟨by simp,.inr ⟨fun hh=>by simp [Fence.wide] at hh,_,_,137,#[.pointer (some ⟨(g1 2000).b,0,none⟩)],rfl,by simp [go_sem],fun _ _=>trivial,?_⟩⟩
  have hm20:=Aqw a.1 a.2.1.1
  obtain⟨us,T,b1,b2,b3,b4,b5⟩:=k2.blk hm20
  unfold V.dens at b2
  obtain⟨u1,us1,rfl,b6,b7⟩:=b2
  unfold V.dens at b7
  unfold V.den at b6
  subst b6 b7
  have hg20:(g2 2000).b=(g1 2000).b:=by rw [p2 2000 (show(2000:Nat)<2064 by decide)]
  rw [hg20] at b1
  have hlt:(g1 2000).b<w4.heap.size:=(Zai.1 b1).1
  have hfz:w4.frozen? ⟨(g1 2000).b,0,none⟩=false:=by simp [World.frozen?,b1]
  have hcl:w4.cell? ⟨(g1 2000).b,0,none⟩=some (.int .i64 a.2.1.1):=by
   have:=b5 0 _ rfl
   rw [hg20] at this
   exact this
  refine(AeX ⟨(g1 2000).b,0,none⟩ a.2.1.1 a.2.2.2.1.errno w4 hlt hcl hfz).mono ?_
  rintro e u' w' ⟨rfl,rfl,rfl⟩
  have ha:(w4.alloc (.cells #[.int .i64 a.2.2.2.1.errno] 234)).heap[(g1 2000).b]? = some (.cells #[.int .i64 a.2.1.1] T (0,0)):=by
   rw [show(w4.alloc (.cells #[.int .i64 a.2.2.2.1.errno] 234)).heap=w4.heap.push (.cells #[.int .i64 a.2.2.2.1.errno] 234) from rfl,Zbe,if_neg (by omega)]
   exact b1
  have hgr:w4.grownBy (w4.alloc (.cells #[.int .i64 a.2.2.2.1.errno] 234)) none:=World.grownBy_alloc _ _ none
  have hm5:=(k2.grow hgr).set hm20 b4 (w':=(w4.alloc (.cells #[.int .i64 a.2.2.2.1.errno] 234)).setCell ⟨(g1 2000).b,0,none⟩ (.int .i64 a.2.2.2.1.errno)) (by rw [hg20]; exact Yl _ ⟨(g1 2000).b,0,none⟩ _) (c':=.blk [.int .i64 a.2.2.2.1.errno]) ⟨b4,[.int .i64 a.2.2.2.1.errno],T,by rw [hg20]; exact Als ha,by unfold V.dens V.dens; exact⟨_,[],rfl,by unfold V.den; rfl,rfl⟩,fun u hu=>by simp at hu; subst hu; rfl⟩
  have hsame:Mo.put (AL.get (ZbA a.1 a.2.1.1)) 2000 (some (.blk [.int .i64 a.2.2.2.1.errno]))=AL.get (ZbA a.1 a.2.2.2.1.errno):=by
   funext j
   unfold Mo.put
   by_cases hj:j=2000
   · subst hj; rw [if_pos rfl,Aqw]
   · rw [if_neg hj]
     show(bif Nat.beq 2000 j then _ else(bif Nat.beq 0 j then _ else none))=(bif Nat.beq 2000 j then _ else(bif Nat.beq 0 j then _ else none))
     have:Nat.beq 2000 j=false:=by
      cases hb:Nat.beq 2000 j with
      | false=>rfl
      | true=>exact absurd (Zac hb).symm hj
     rw [this]; rfl
  rw [hsame] at hm5
  have his5:SQ 2064 (AL.get (ZbA a.1 a.2.2.2.1.errno)):=fun i c hi=>by
   rw [← hsame] at hi
   unfold Mo.put at hi
   split at hi
   · rename_i hj; subst hj; cases hi; exact⟨rfl,rfl⟩
   · exact p4.is_ i c hi
  exact rest a.1 a.2.2.2.1.errno hye F4 h2 g2 t3 _ k1 p1 (fun i hi=>p2 i hi) p4.kn hm5 his5
theorem Ae0 (n:Nat):Au Tryz.prog 84 (ZjA n):=Ny Tryz.func84 rfl rfl (by decide) rfl (Apy n)
def DM:List (Nat×C):=[(8,.l 9),(9,.s 3),(10,.s 3)]
def Kt:List Wo:=[⟨.exit 0,[],[],[]⟩,⟨.ret,[],[(2,.s 3)],[]⟩]
def JU:List (Nat×C):=[(0,.l 9)]
def NH:List Wo:=[⟨.ret,[],[],[.s 3]⟩]
def Ge:Nat→(List ByteArray)→Int→Int→Option (Unit ⊕ ((Int×Unit)))
 | 0,_,_,_=>none
 | n+1,x8,x9,x10 =>
  bif decide (x10<x9) then((A3 x8 x10).bind fun v0 =>
  bif decide ((↑v0.size:Int)>200) then(some (.inr (3,()))) else
  Ge n x8 x9 (IntKind.i64.wrap (x10+1))) else
  some (.inl ())
def GK (n:Nat) (y:C.Ds Ty (Af DM)):Option (YT Ty Kt):=Ge n y.1 y.2.1 y.2.2.1
def ZeO (n:Nat):St Ty→Tr (Lf Ty):=Bc DM 0 Kt (GK n)
def Fx (n:Nat) (lines:List ByteArray):Option ((Int×Unit)) :=
 bif decide ((↑lines.length:Int)>50) then(some (3,())) else
 (Ge n lines (↑lines.length:Int) 0).bind fun v0 =>
 Sum.elim (fun v1=>some (0,())) (fun v1=>some (v1.fst,())) (v0)
def Uz (n:Nat) (y:C.Ds Ty (Af JU)):Option (YT Ty NH):=Fx n y.1
def ZbN (n:Nat):AA Ty:=El (AB JU 0 NH (Uz n))
def ZeP (n:Nat):List (Nat×AA Ty):=[]
theorem QR (n:Nat):Ap Tryz.prog (ZeP n):=trivial
def ZfY (n:Nat):A0 Ty:=[]
theorem XF (n:Nat) (x:C.Ds Ty (Af DM)):(Ay Tryz.prog 18 (Al Tryz.prog (ZeP n) []) (Ae (ZfY n)) (Am 4 Tryz.f52) (Av DM x)).runK (A4 0 DM Kt (GK n))=GK (n+1) x:=by kernel_rfl
theorem XG (n:Nat):A5 true Tryz.prog 18 (ZeO n) (.loop (Am 4 Tryz.f52)):=A6 fun x y hy=>At (Fn:=GK) Aa Ab (fun n=>Ac Aa Ab (QR n) Ai) (fun h=>by cases h) (fun h=>by cases h) (fun n=>(Ad (fn:=Tryz.f52) (L:=ZfY n) (ks:=[]) trivial (by kernel_rfl) (by kernel_rfl))) (by decide) (fun _=>rfl) XF hy
def ZhP (n:Nat):A0 Ty:=[(.loop 4,ZeO n)]
theorem Ade (n:Nat) (x:C.Ds Ty (Af JU)):(Ay Tryz.prog 18 (Al Tryz.prog (ZeP n) []) (Ae (ZhP n)) (Ao Tryz.f52) (Av JU x)).runK (Ar Tryz.prog Tryz.f52.results.toList 0 NH)=Uz n x:=by kernel_rfl
theorem FO (n:Nat):Au Tryz.prog 52 (ZbN n):=AX (As Tryz.func52 rfl rfl (by decide) rfl Aa Ab (Ac Aa Ab (QR n) Ai) (Ad (fn:=Tryz.f52) (L:=ZhP n) (ks:=[.loop 4]) ⟨XG n,trivial⟩ (by kernel_rfl) (by kernel_rfl)) (Ade n))
def I4:List (Nat×C):=[(0,.l 3),(1,.l 3),(5,.s 3)]
def P8:List Wo:=[⟨.exit 0,[],[],[]⟩,⟨.ret,[],[(4,.s 4)],[]⟩]
def QS:List (Nat×C):=[(0,.l 3),(1,.l 3)]
def Wg:List Wo:=[⟨.ret,[],[],[.s 4]⟩]
def TX:Nat→(List Int)→(List Int)→Int→Option (Unit ⊕ ((Bool×Unit)))
 | 0,_,_,_=>none
 | n+1,a,b,i =>
  bif decide (i<(↑a.length:Int)) then((A3 a i).bind fun v0 =>
  (A3 b i).bind fun v1 =>
  bif v0 != v1 then(some (.inr (false,()))) else
  TX n a b (IntKind.i64.wrap (i+1))) else
  some (.inl ())
def Ly (n:Nat) (y:C.Ds Ty (Af I4)):Option (YT Ty P8):=TX n y.1 y.2.1 y.2.2.1
def Zhl (n:Nat):St Ty→Tr (Lf Ty):=Bc I4 0 P8 (Ly n)
def Adf (n:Nat) (a:List Int) (b:List Int):Option ((Bool×Unit)) :=
 bif (↑a.length:Int) != (↑b.length:Int) then(some (false,())) else
 (TX n a b 0).bind fun v0 =>
 Sum.elim (fun v1=>some (true,())) (fun v1=>some (v1.fst,())) (v0)
def Ae1 (n:Nat) (y:C.Ds Ty (Af QS)):Option (YT Ty Wg):=Adf n y.1 y.2.1
def Zji (n:Nat):AA Ty:=El (AB QS 0 Wg (Ae1 n))
def Zip (n:Nat):List (Nat×AA Ty):=[]
theorem Yq (n:Nat):Ap Tryz.prog (Zip n):=trivial
def Zi3 (n:Nat):A0 Ty:=[]
theorem AeY (n:Nat) (x:C.Ds Ty (Af I4)):(Ay Tryz.prog 26 (Al Tryz.prog (Zip n) []) (Ae (Zi3 n)) (Am 4 Tryz.f32) (Av I4 x)).runK (A4 0 I4 P8 (Ly n))=Ly (n+1) x:=by kernel_rfl
theorem AeZ (n:Nat):A5 true Tryz.prog 26 (Zhl n) (.loop (Am 4 Tryz.f32)):=A6 fun x y hy=>At (Fn:=Ly) Aa Ab (fun n=>Ac Aa Ab (Yq n) Ai) (fun h=>by cases h) (fun h=>by cases h) (fun n=>(Ad (fn:=Tryz.f32) (L:=Zi3 n) (ks:=[]) trivial (by kernel_rfl) (by kernel_rfl))) (by decide) (fun _=>rfl) AeY hy
def Zkb (n:Nat):A0 Ty:=[(.loop 4,Zhl n)]
theorem Al6 (n:Nat) (x:C.Ds Ty (Af QS)):(Ay Tryz.prog 26 (Al Tryz.prog (Zip n) []) (Ae (Zkb n)) (Ao Tryz.f32) (Av QS x)).runK (Ar Tryz.prog Tryz.f32.results.toList 0 Wg)=Ae1 n x:=by kernel_rfl
theorem Afa (n:Nat):Au Tryz.prog 32 (Zji n):=AX (As Tryz.func32 rfl rfl (by decide) rfl Aa Ab (Ac Aa Ab (Yq n) Ai) (Ad (fn:=Tryz.f32) (L:=Zkb n) (ks:=[.loop 4]) ⟨AeZ n,trivial⟩ (by kernel_rfl) (by kernel_rfl)) (Al6 n))
def JL:List (Nat×C):=[(0,.l 9),(3,.s 3),(4,.s 3)]
def R7:List Wo:=[⟨.exit 0,[],[(0,.l 9),(3,.s 3)],[]⟩]
def TY:List (Nat×C):=[(0,.l 9)]
def Zl:List Wo:=[⟨.ret,[],[],[.s 4]⟩]
def I5:Nat→(List ByteArray)→Int→Int→Option ((List ByteArray×Int×Unit))
 | 0,_,_,_=>none
 | n+1,lines,n_,i =>
  bif decide (i<(↑lines.length:Int)) then((A3 lines i).bind fun v0 =>
  I5 n lines (IntKind.i64.wrap (n_+(↑v0.size:Int))) (IntKind.i64.wrap (i+1))) else
  some (lines,(n_,()))
def Nj (n:Nat) (y:C.Ds Ty (Af JL)):Option (YT Ty R7):=I5 n y.1 y.2.1 y.2.2.1
def ZhQ (n:Nat):St Ty→Tr (Lf Ty):=Bc JL 0 R7 (Nj n)
def P9 (n:Nat) (lines:List ByteArray):Option ((Bool×Unit)) :=
 (I5 n lines 0 0).bind fun v0 =>
 bif decide ((↑v0.fst.length:Int)≤30) then(bif !decide (v0.snd.fst≤1200) then(bif decide ((↑v0.fst.length:Int)≤52) then(bif !decide (v0.snd.fst≤400) then(bif decide ((↑v0.fst.length:Int)=1) then(some (decide (v0.snd.fst≤210),())) else
 some (false,())) else
 some (true,())) else
 bif decide ((↑v0.fst.length:Int)=1) then(some (decide (v0.snd.fst≤210),())) else
 some (false,())) else
 some (true,())) else
 bif decide ((↑v0.fst.length:Int)≤52) then(bif !decide (v0.snd.fst≤400) then(bif decide ((↑v0.fst.length:Int)=1) then(some (decide (v0.snd.fst≤210),())) else
 some (false,())) else
 some (true,())) else
 bif decide ((↑v0.fst.length:Int)=1) then(some (decide (v0.snd.fst≤210),())) else
 some (false,())
def Aih (n:Nat) (y:C.Ds Ty (Af TY)):Option (YT Ty Zl):=P9 n y.1
def ZjB (n:Nat):AA Ty:=El (AB TY 0 Zl (Aih n))
def Zjf (n:Nat):List (Nat×AA Ty):=[]
theorem Abx (n:Nat):Ap Tryz.prog (Zjf n):=trivial
def Zjj (n:Nat):A0 Ty:=[]
theorem Aii (n:Nat) (x:C.Ds Ty (Af JL)):(Ay Tryz.prog 43 (Al Tryz.prog (Zjf n) []) (Ae (Zjj n)) (Am 3 Tryz.f19) (Av JL x)).runK (A4 0 JL R7 (Nj n))=Nj (n+1) x:=by kernel_rfl
theorem Aij (n:Nat):A5 true Tryz.prog 43 (ZhQ n) (.loop (Am 3 Tryz.f19)):=A6 fun x y hy=>At (Fn:=Nj) Aa Ab (fun n=>Ac Aa Ab (Abx n) Ai) (fun h=>by cases h) (fun h=>by cases h) (fun n=>(Ad (fn:=Tryz.f19) (L:=Zjj n) (ks:=[]) trivial (by kernel_rfl) (by kernel_rfl))) (by decide) (fun _=>rfl) Aii hy
def Zkt (n:Nat):A0 Ty:=[(.loop 3,ZhQ n)]
theorem AnL (n:Nat) (x:C.Ds Ty (Af TY)):(Ay Tryz.prog 43 (Al Tryz.prog (Zjf n) []) (Ae (Zkt n)) (Ao Tryz.f19) (Av TY x)).runK (Ar Tryz.prog Tryz.f19.results.toList 0 Zl)=Aih n x:=by kernel_rfl
theorem Aik (n:Nat):Au Tryz.prog 19 (ZjB n):=AX (As Tryz.func19 rfl rfl (by decide) rfl Aa Ab (Ac Aa Ab (Abx n) Ai) (Ad (fn:=Tryz.f19) (L:=Zkt n) (ks:=[.loop 3]) ⟨Aij n,trivial⟩ (by kernel_rfl) (by kernel_rfl)) (AnL n))
def Nk:List (Nat×C):=[(0,.l 3),(1,.s 3),(2,.s 3)]
def R8:List Wo:=[⟨.ret,[],[],[.l 3]⟩]
def Wh (n:Nat) (roster:List Int) (duty:Int) (driver:Int):Option ((List Int×Unit)) :=
 (app [] roster).bind fun v0 =>
 (A3 v0 duty).bind fun v1 =>
 (v0.get?Internal duty.toNat).bind fun v2 =>
 some (v0.set duty.toNat driver,())
def Yr (n:Nat) (y:C.Ds Ty (Af Nk)):Option (YT Ty R8):=Wh n y.1 y.2.1 y.2.2.1
def ZhR (n:Nat):AA Ty:=AB Nk 0 R8 (Yr n)
def Zjk (n:Nat):List (Nat×AA Ty):=[]
theorem Afb (n:Nat):Ap Tryz.prog (Zjk n):=trivial
def Zjl (n:Nat):A0 Ty:=[]
theorem Ail (n:Nat) (x:C.Ds Ty (Af Nk)):(Ay Tryz.prog 16 (Al Tryz.prog (Zjk n) []) (Ae (Zjl n)) (Ao Tryz.f147) (Av Nk x)).runK (Ar Tryz.prog Tryz.f147.results.toList 0 R8)=Yr n x:=by kernel_rfl
theorem Aby (n:Nat):Au Tryz.prog 147 (ZhR n):=As Tryz.func147 rfl rfl (by decide) rfl Aa Ab (Ac Aa Ab (Afb n) Ai) (Ad (fn:=Tryz.f147) (L:=Zjl n) (ks:=[]) trivial (by kernel_rfl) (by kernel_rfl)) (Ail n)
def QT:List (Nat×C):=[(0,.s 3),(1,.s 3),(2,.s 3)]
def Wi:List Wo:=[⟨.ret,[],[],[.s 4]⟩]
def AU (n:Nat) (n_:Int) (low:Int) (high:Int):Option ((Bool×Unit)) :=
 bif decide (n_≥low) then(some (decide (n_≤high),())) else
 some (false,())
def Ae2 (n:Nat) (y:C.Ds Ty (Af QT)):Option (YT Ty Wi):=AU n y.1 y.2.1 y.2.2.1
def ZdS (n:Nat):AA Ty:=AB QT 0 Wi (Ae2 n)
def Zkc (n:Nat):List (Nat×AA Ty):=[]
theorem AiW (n:Nat):Ap Tryz.prog (Zkc n):=trivial
def Zkd (n:Nat):A0 Ty:=[]
theorem Al7 (n:Nat) (x:C.Ds Ty (Af QT)):(Ay Tryz.prog 15 (Al Tryz.prog (Zkc n) []) (Ae (Zkd n)) (Ao Tryz.f146) (Av QT x)).runK (Ar Tryz.prog Tryz.f146.results.toList 0 Wi)=Ae2 n x:=by kernel_rfl
theorem NI (n:Nat):Au Tryz.prog 146 (ZdS n):=As Tryz.func146 rfl rfl (by decide) rfl Aa Ab (Ac Aa Ab (AiW n) Ai) (Ad (fn:=Tryz.f146) (L:=Zkd n) (ks:=[]) trivial (by kernel_rfl) (by kernel_rfl)) (Al7 n)
def EH:List (Nat×C):=[(0,.l 3),(1,.s 3),(2,.s 3),(7,.s 3)]
def Lz:List Wo:=[⟨.exit 0,[],[],[]⟩,⟨.ret,[],[(6,.s 4)],[]⟩]
def L0:List (Nat×C):=[(0,.l 3),(1,.s 3),(2,.s 3)]
def PA:List Wo:=[⟨.ret,[],[],[.s 4]⟩]
def GZ:Nat→(List Int)→Int→Int→Int→Option (Unit ⊕ ((Bool×Unit)))
 | 0,_,_,_,_=>none
 | n+1,l,low,high,i =>
  bif decide (i<(↑l.length:Int)) then((A3 l i).bind fun v0 =>
  (AU n v0 low high).bind fun v1 =>
  bif !!v1.fst then(bif decide (i>0) then((A3 l i).bind fun v2 =>
  (A3 l (IntKind.i64.wrap (i-1))).bind fun v3 =>
  bif decide (v2≤v3) then(some (.inr (false,()))) else
  GZ n l low high (IntKind.i64.wrap (i+1))) else
  GZ n l low high (IntKind.i64.wrap (i+1))) else
  some (.inr (false,()))) else
  some (.inl ())
def HL (n:Nat) (y:C.Ds Ty (Af EH)):Option (YT Ty Lz):=GZ n y.1 y.2.1 y.2.2.1 y.2.2.2.1
def Zfr (n:Nat):St Ty→Tr (Lf Ty):=Bc EH 0 Lz (HL n)
def C4 (n:Nat) (l:List Int) (low:Int) (high:Int):Option ((Bool×Unit)) :=
 (GZ n l low high 0).bind fun v0 =>
 Sum.elim (fun v1=>some (true,())) (fun v1=>some (v1.fst,())) (v0)
def Wj (n:Nat) (y:C.Ds Ty (Af L0)):Option (YT Ty PA):=C4 n y.1 y.2.1 y.2.2.1
def Zhm (n:Nat):AA Ty:=El (AB L0 0 PA (Wj n))
def ZfE (n:Nat):List (Nat×AA Ty):=[(146,ZdS n)]
theorem SD (n:Nat):Ap Tryz.prog (ZfE n):=⟨NI n,trivial⟩
def Zg4 (n:Nat):A0 Ty:=[]
theorem Zm (n:Nat) (x:C.Ds Ty (Af EH)):(Ay Tryz.prog 38 (Al Tryz.prog (ZfE n) []) (Ae (Zg4 n)) (Am 2 Tryz.f206) (Av EH x)).runK (A4 0 EH Lz (HL n))=HL (n+1) x:=by kernel_rfl
theorem Zn (n:Nat):A5 true Tryz.prog 38 (Zfr n) (.loop (Am 2 Tryz.f206)):=A6 fun x y hy=>At (Fn:=HL) Aa Ab (fun n=>Ac Aa Ab (SD n) Ai) (fun h=>by cases h) (fun h=>by cases h) (fun n=>(Ad (fn:=Tryz.f206) (L:=Zg4 n) (ks:=[]) trivial (by kernel_rfl) (by kernel_rfl))) (by decide) (fun _=>rfl) Zm hy
def Zi4 (n:Nat):A0 Ty:=[(.loop 2,Zfr n)]
theorem Afc (n:Nat) (x:C.Ds Ty (Af L0)):(Ay Tryz.prog 38 (Al Tryz.prog (ZfE n) []) (Ae (Zi4 n)) (Ao Tryz.f206) (Av L0 x)).runK (Ar Tryz.prog Tryz.f206.results.toList 0 PA)=Wj n x:=by kernel_rfl
theorem Zo (n:Nat):Au Tryz.prog 206 (Zhm n):=AX (As Tryz.func206 rfl rfl (by decide) rfl Aa Ab (Ac Aa Ab (SD n) Ai) (Ad (fn:=Tryz.f206) (L:=Zi4 n) (ks:=[.loop 2]) ⟨Zn n,trivial⟩ (by kernel_rfl) (by kernel_rfl)) (Afc n))
def QU:List (Nat×C):=[(0,.s 9)]
def Wk:List Wo:=[⟨.ret,[],[],[.s 3]⟩]
def Xm (n:Nat) (word:ByteArray):Option ((Int×Unit)) :=
 bif word.beq (B [111,117,116]) then(bif word.beq (B [111,117,116]) then(some (2,())) else
 bif word.beq (B [99,104,101,99,107,101,100]) then(bif word.beq (B [99,104,101,99,107,101,100]) then(some (3,())) else
 bif word.beq (B [102,111,117,110,100]) then(bif word.beq (B [102,111,117,110,100]) then(some (4,())) else
 bif word.beq (B [115,97,108,101]) then(bif word.beq (B [115,97,108,101]) then(some (5,())) else
 some (0,())) else
 bif word.beq (B [99,108,111,115,101]) then(bif word.beq (B [99,108,111,115,101]) then(some (5,())) else
 some (0,())) else
 bif word.beq (B [100,117,116,121]) then(some (5,())) else
 some (0,())) else
 bif word.beq (B [104,101,108,100]) then(bif word.beq (B [104,101,108,100]) then(some (4,())) else
 bif word.beq (B [115,97,108,101]) then(bif word.beq (B [115,97,108,101]) then(some (5,())) else
 some (0,())) else
 bif word.beq (B [99,108,111,115,101]) then(bif word.beq (B [99,108,111,115,101]) then(some (5,())) else
 some (0,())) else
 bif word.beq (B [100,117,116,121]) then(some (5,())) else
 some (0,())) else
 bif word.beq (B [115,105,103,110,101,100]) then(bif word.beq (B [115,105,103,110,101,100]) then(some (4,())) else
 bif word.beq (B [115,97,108,101]) then(bif word.beq (B [115,97,108,101]) then(some (5,())) else
 some (0,())) else
 bif word.beq (B [99,108,111,115,101]) then(bif word.beq (B [99,108,111,115,101]) then(some (5,())) else
 some (0,())) else
 bif word.beq (B [100,117,116,121]) then(some (5,())) else
 some (0,())) else
 bif word.beq (B [115,121,110,99]) then(some (4,())) else
 bif word.beq (B [115,97,108,101]) then(bif word.beq (B [115,97,108,101]) then(some (5,())) else
 some (0,())) else
 bif word.beq (B [99,108,111,115,101]) then(bif word.beq (B [99,108,111,115,101]) then(some (5,())) else
 some (0,())) else
 bif word.beq (B [100,117,116,121]) then(some (5,())) else
 some (0,())) else
 bif word.beq (B [105,110]) then(some (3,())) else
 bif word.beq (B [102,111,117,110,100]) then(bif word.beq (B [102,111,117,110,100]) then(some (4,())) else
 bif word.beq (B [115,97,108,101]) then(bif word.beq (B [115,97,108,101]) then(some (5,())) else
 some (0,())) else
 bif word.beq (B [99,108,111,115,101]) then(bif word.beq (B [99,108,111,115,101]) then(some (5,())) else
 some (0,())) else
 bif word.beq (B [100,117,116,121]) then(some (5,())) else
 some (0,())) else
 bif word.beq (B [104,101,108,100]) then(bif word.beq (B [104,101,108,100]) then(some (4,())) else
 bif word.beq (B [115,97,108,101]) then(bif word.beq (B [115,97,108,101]) then(some (5,())) else
 some (0,())) else
 bif word.beq (B [99,108,111,115,101]) then(bif word.beq (B [99,108,111,115,101]) then(some (5,())) else
 some (0,())) else
 bif word.beq (B [100,117,116,121]) then(some (5,())) else
 some (0,())) else
 bif word.beq (B [115,105,103,110,101,100]) then(bif word.beq (B [115,105,103,110,101,100]) then(some (4,())) else
 bif word.beq (B [115,97,108,101]) then(bif word.beq (B [115,97,108,101]) then(some (5,())) else
 some (0,())) else
 bif word.beq (B [99,108,111,115,101]) then(bif word.beq (B [99,108,111,115,101]) then(some (5,())) else
 some (0,())) else
 bif word.beq (B [100,117,116,121]) then(some (5,())) else
 some (0,())) else
 bif word.beq (B [115,121,110,99]) then(some (4,())) else
 bif word.beq (B [115,97,108,101]) then(bif word.beq (B [115,97,108,101]) then(some (5,())) else
 some (0,())) else
 bif word.beq (B [99,108,111,115,101]) then(bif word.beq (B [99,108,111,115,101]) then(some (5,())) else
 some (0,())) else
 bif word.beq (B [100,117,116,121]) then(some (5,())) else
 some (0,())) else
 bif word.beq (B [100,114,105,118,101,114]) then(bif word.beq (B [100,114,105,118,101,114]) then(some (2,())) else
 bif word.beq (B [99,104,101,99,107,101,100]) then(bif word.beq (B [99,104,101,99,107,101,100]) then(some (3,())) else
 bif word.beq (B [102,111,117,110,100]) then(bif word.beq (B [102,111,117,110,100]) then(some (4,())) else
 bif word.beq (B [115,97,108,101]) then(bif word.beq (B [115,97,108,101]) then(some (5,())) else
 some (0,())) else
 bif word.beq (B [99,108,111,115,101]) then(bif word.beq (B [99,108,111,115,101]) then(some (5,())) else
 some (0,())) else
 bif word.beq (B [100,117,116,121]) then(some (5,())) else
 some (0,())) else
 bif word.beq (B [104,101,108,100]) then(bif word.beq (B [104,101,108,100]) then(some (4,())) else
 bif word.beq (B [115,97,108,101]) then(bif word.beq (B [115,97,108,101]) then(some (5,())) else
 some (0,())) else
 bif word.beq (B [99,108,111,115,101]) then(bif word.beq (B [99,108,111,115,101]) then(some (5,())) else
 some (0,())) else
 bif word.beq (B [100,117,116,121]) then(some (5,())) else
 some (0,())) else
 bif word.beq (B [115,105,103,110,101,100]) then(bif word.beq (B [115,105,103,110,101,100]) then(some (4,())) else
 bif word.beq (B [115,97,108,101]) then(bif word.beq (B [115,97,108,101]) then(some (5,())) else
 some (0,())) else
 bif word.beq (B [99,108,111,115,101]) then(bif word.beq (B [99,108,111,115,101]) then(some (5,())) else
 some (0,())) else
 bif word.beq (B [100,117,116,121]) then(some (5,())) else
 some (0,())) else
 bif word.beq (B [115,121,110,99]) then(some (4,())) else
 bif word.beq (B [115,97,108,101]) then(bif word.beq (B [115,97,108,101]) then(some (5,())) else
 some (0,())) else
 bif word.beq (B [99,108,111,115,101]) then(bif word.beq (B [99,108,111,115,101]) then(some (5,())) else
 some (0,())) else
 bif word.beq (B [100,117,116,121]) then(some (5,())) else
 some (0,())) else
 bif word.beq (B [105,110]) then(some (3,())) else
 bif word.beq (B [102,111,117,110,100]) then(bif word.beq (B [102,111,117,110,100]) then(some (4,())) else
 bif word.beq (B [115,97,108,101]) then(bif word.beq (B [115,97,108,101]) then(some (5,())) else
 some (0,())) else
 bif word.beq (B [99,108,111,115,101]) then(bif word.beq (B [99,108,111,115,101]) then(some (5,())) else
 some (0,())) else
 bif word.beq (B [100,117,116,121]) then(some (5,())) else
 some (0,())) else
 bif word.beq (B [104,101,108,100]) then(bif word.beq (B [104,101,108,100]) then(some (4,())) else
 bif word.beq (B [115,97,108,101]) then(bif word.beq (B [115,97,108,101]) then(some (5,())) else
 some (0,())) else
 bif word.beq (B [99,108,111,115,101]) then(bif word.beq (B [99,108,111,115,101]) then(some (5,())) else
 some (0,())) else
 bif word.beq (B [100,117,116,121]) then(some (5,())) else
 some (0,())) else
 bif word.beq (B [115,105,103,110,101,100]) then(bif word.beq (B [115,105,103,110,101,100]) then(some (4,())) else
 bif word.beq (B [115,97,108,101]) then(bif word.beq (B [115,97,108,101]) then(some (5,())) else
 some (0,())) else
 bif word.beq (B [99,108,111,115,101]) then(bif word.beq (B [99,108,111,115,101]) then(some (5,())) else
 some (0,())) else
 bif word.beq (B [100,117,116,121]) then(some (5,())) else
 some (0,())) else
 bif word.beq (B [115,121,110,99]) then(some (4,())) else
 bif word.beq (B [115,97,108,101]) then(bif word.beq (B [115,97,108,101]) then(some (5,())) else
 some (0,())) else
 bif word.beq (B [99,108,111,115,101]) then(bif word.beq (B [99,108,111,115,101]) then(some (5,())) else
 some (0,())) else
 bif word.beq (B [100,117,116,121]) then(some (5,())) else
 some (0,())) else
 bif word.beq (B [103,105,118,101]) then(some (2,())) else
 bif word.beq (B [99,104,101,99,107,101,100]) then(bif word.beq (B [99,104,101,99,107,101,100]) then(some (3,())) else
 bif word.beq (B [102,111,117,110,100]) then(bif word.beq (B [102,111,117,110,100]) then(some (4,())) else
 bif word.beq (B [115,97,108,101]) then(bif word.beq (B [115,97,108,101]) then(some (5,())) else
 some (0,())) else
 bif word.beq (B [99,108,111,115,101]) then(bif word.beq (B [99,108,111,115,101]) then(some (5,())) else
 some (0,())) else
 bif word.beq (B [100,117,116,121]) then(some (5,())) else
 some (0,())) else
 bif word.beq (B [104,101,108,100]) then(bif word.beq (B [104,101,108,100]) then(some (4,())) else
 bif word.beq (B [115,97,108,101]) then(bif word.beq (B [115,97,108,101]) then(some (5,())) else
 some (0,())) else
 bif word.beq (B [99,108,111,115,101]) then(bif word.beq (B [99,108,111,115,101]) then(some (5,())) else
 some (0,())) else
 bif word.beq (B [100,117,116,121]) then(some (5,())) else
 some (0,())) else
 bif word.beq (B [115,105,103,110,101,100]) then(bif word.beq (B [115,105,103,110,101,100]) then(some (4,())) else
 bif word.beq (B [115,97,108,101]) then(bif word.beq (B [115,97,108,101]) then(some (5,())) else
 some (0,())) else
 bif word.beq (B [99,108,111,115,101]) then(bif word.beq (B [99,108,111,115,101]) then(some (5,())) else
 some (0,())) else
 bif word.beq (B [100,117,116,121]) then(some (5,())) else
 some (0,())) else
 bif word.beq (B [115,121,110,99]) then(some (4,())) else
 bif word.beq (B [115,97,108,101]) then(bif word.beq (B [115,97,108,101]) then(some (5,())) else
 some (0,())) else
 bif word.beq (B [99,108,111,115,101]) then(bif word.beq (B [99,108,111,115,101]) then(some (5,())) else
 some (0,())) else
 bif word.beq (B [100,117,116,121]) then(some (5,())) else
 some (0,())) else
 bif word.beq (B [105,110]) then(some (3,())) else
 bif word.beq (B [102,111,117,110,100]) then(bif word.beq (B [102,111,117,110,100]) then(some (4,())) else
 bif word.beq (B [115,97,108,101]) then(bif word.beq (B [115,97,108,101]) then(some (5,())) else
 some (0,())) else
 bif word.beq (B [99,108,111,115,101]) then(bif word.beq (B [99,108,111,115,101]) then(some (5,())) else
 some (0,())) else
 bif word.beq (B [100,117,116,121]) then(some (5,())) else
 some (0,())) else
 bif word.beq (B [104,101,108,100]) then(bif word.beq (B [104,101,108,100]) then(some (4,())) else
 bif word.beq (B [115,97,108,101]) then(bif word.beq (B [115,97,108,101]) then(some (5,())) else
 some (0,())) else
 bif word.beq (B [99,108,111,115,101]) then(bif word.beq (B [99,108,111,115,101]) then(some (5,())) else
 some (0,())) else
 bif word.beq (B [100,117,116,121]) then(some (5,())) else
 some (0,())) else
 bif word.beq (B [115,105,103,110,101,100]) then(bif word.beq (B [115,105,103,110,101,100]) then(some (4,())) else
 bif word.beq (B [115,97,108,101]) then(bif word.beq (B [115,97,108,101]) then(some (5,())) else
 some (0,())) else
 bif word.beq (B [99,108,111,115,101]) then(bif word.beq (B [99,108,111,115,101]) then(some (5,())) else
 some (0,())) else
 bif word.beq (B [100,117,116,121]) then(some (5,())) else
 some (0,())) else
 bif word.beq (B [115,121,110,99]) then(some (4,())) else
 bif word.beq (B [115,97,108,101]) then(bif word.beq (B [115,97,108,101]) then(some (5,())) else
 some (0,())) else
 bif word.beq (B [99,108,111,115,101]) then(bif word.beq (B [99,108,111,115,101]) then(some (5,())) else
 some (0,())) else
 bif word.beq (B [100,117,116,121]) then(some (5,())) else
 some (0,())
def Ae3 (n:Nat) (y:C.Ds Ty (Af QU)):Option (YT Ty Wk):=Xm n y.1
def Zjm (n:Nat):AA Ty:=AB QU 0 Wk (Ae3 n)
def Zke (n:Nat):List (Nat×AA Ty):=[]
theorem AiX (n:Nat):Ap Tryz.prog (Zke n):=trivial
def Zkf (n:Nat):A0 Ty:=[]
theorem Al8 (n:Nat) (x:C.Ds Ty (Af QU)):(Ay Tryz.prog 20 (Al Tryz.prog (Zke n) []) (Ae (Zkf n)) (Ao Tryz.f64) (Av QU x)).runK (Ar Tryz.prog Tryz.f64.results.toList 0 Wk)=Ae3 n x:=by kernel_rfl
theorem Afd (n:Nat):Au Tryz.prog 64 (Zjm n):=As Tryz.func64 rfl rfl (by decide) rfl Aa Ab (Ac Aa Ab (AiX n) Ai) (Ad (fn:=Tryz.f64) (L:=Zkf n) (ks:=[]) trivial (by kernel_rfl) (by kernel_rfl)) (Al8 n)
def Ha:List (Nat×C):=[(0,.s 9),(3,.o 9),(4,.s 3),(5,.s 3)]
def NJ:List Wo:=[⟨.exit 0,[],[(3,.o 9)],[]⟩]
def O2:List (Nat×C):=[(0,.s 9)]
def TZ:List Wo:=[⟨.ret,[],[],[.l 9]⟩]
def D3:Nat→ByteArray→(List ByteArray)→Int→Int→Option ((List ByteArray×Unit))
 | 0,_,_,_,_=>none
 | n+1,s,out,from_,i =>
  bif decide (i≤(↑s.size:Int)) then(bif !decide (i=(↑s.size:Int)) then((NX s i).bind fun v0 =>
  bif decide (v0.n=32) then((Ki s from_ i).bind fun v1 =>
  (app out [v1]).bind fun v2 =>
  D3 n s v2 (IntKind.i64.wrap (i+1)) (IntKind.i64.wrap (i+1))) else
  D3 n s out from_ (IntKind.i64.wrap (i+1))) else
  (Ki s from_ i).bind fun v0 =>
  (app out [v0]).bind fun v1 =>
  D3 n s v1 (IntKind.i64.wrap (i+1)) (IntKind.i64.wrap (i+1))) else
  some (out,())
def JV (n:Nat) (y:C.Ds Ty (Af Ha)):Option (YT Ty NJ):=D3 n y.1 y.2.1 y.2.2.1 y.2.2.2.1
def Zg5 (n:Nat):St Ty→Tr (Lf Ty):=Bc Ha 0 NJ (JV n)
def Ua (n:Nat) (s:ByteArray):Option ((List ByteArray×Unit)) :=
 (D3 n s [] 0 0).bind fun v0 =>
 some (v0.fst,())
def Abz (n:Nat) (y:C.Ds Ty (Af O2)):Option (YT Ty TZ):=Ua n y.1
def Zi5 (n:Nat):AA Ty:=AB O2 0 TZ (Abz n)
def Zhn (n:Nat):List (Nat×AA Ty):=[]
theorem Wl (n:Nat):Ap Tryz.prog (Zhn n):=trivial
def ZhS (n:Nat):A0 Ty:=[]
theorem Adg (n:Nat) (x:C.Ds Ty (Af Ha)):(Ay Tryz.prog 32 (Al Tryz.prog (Zhn n) []) (Ae (ZhS n)) (Am 4 Tryz.f63) (Av Ha x)).runK (A4 0 Ha NJ (JV n))=JV (n+1) x:=by kernel_rfl
theorem Adh (n:Nat):A5 true Tryz.prog 32 (Zg5 n) (.loop (Am 4 Tryz.f63)):=A6 fun x y hy=>At (Fn:=JV) Aa Ab (fun n=>Ac Aa Ab (Wl n) Ai) (fun h=>by cases h) (fun h=>by cases h) (fun n=>(Ad (fn:=Tryz.f63) (L:=ZhS n) (ks:=[]) trivial (by kernel_rfl) (by kernel_rfl))) (by decide) (fun _=>rfl) Adg hy
def ZjC (n:Nat):A0 Ty:=[(.loop 4,Zg5 n)]
theorem AiY (n:Nat) (x:C.Ds Ty (Af O2)):(Ay Tryz.prog 32 (Al Tryz.prog (Zhn n) []) (Ae (ZjC n)) (Ao Tryz.f63) (Av O2 x)).runK (Ar Tryz.prog Tryz.f63.results.toList 0 TZ)=Abz n x:=by kernel_rfl
theorem Adi (n:Nat):Au Tryz.prog 63 (Zi5 n):=As Tryz.func63 rfl rfl (by decide) rfl Aa Ab (Ac Aa Ab (Wl n) Ai) (Ad (fn:=Tryz.f63) (L:=ZjC n) (ks:=[.loop 4]) ⟨Adh n,trivial⟩ (by kernel_rfl) (by kernel_rfl)) (AiY n)
def Hb:List (Nat×C):=[(4,.s 4),(5,.s 9),(6,.s 3),(7,.s 3)]
def NK:List Wo:=[⟨.exit 0,[],[(4,.s 4),(6,.s 3)],[]⟩,⟨.ret,[],[(2,.s 3),(3,.s 4)],[]⟩]
def O3:List (Nat×C):=[(0,.s 9)]
def Ub:List Wo:=[⟨.ret,[],[],[.s 3,.s 4]⟩]
def Bl:Nat→Bool→ByteArray→Int→Int→Option ((Bool×Int×Unit) ⊕ ((Int×Bool×Unit)))
 | 0,_,_,_,_=>none
 | n+1,minus,d,n_,i =>
  bif decide (i<(↑d.size:Int)) then((NX d i).bind fun v0 =>
  bif !decide (v0.n<48) then((NX d i).bind fun v1 =>
  bif decide (v1.n>57) then(some (.inr (0,(false,())))) else
  (NX d i).bind fun v2 =>
  Bl n minus d (IntKind.i64.wrap (IntKind.i64.wrap (10*n_)+IntKind.i64.wrap (IntKind.u8.wrap (v2.n-48)))) (IntKind.i64.wrap (i+1))) else
  some (.inr (0,(false,())))) else
  some (.inl (minus,(n_,())))
def JW (n:Nat) (y:C.Ds Ty (Af Hb)):Option (YT Ty NK):=Bl n y.1 y.2.1 y.2.2.1 y.2.2.2.1
def Zg6 (n:Nat):St Ty→Tr (Lf Ty):=Bc Hb 0 NK (JW n)
def Uc (n:Nat) (s:ByteArray):Option ((Int×Bool×Unit)) :=
 bif decide ((↑s.size:Int)>0) then((NX s 0).bind fun v0 =>
 bif decide (v0.n=45) then((Ki s 1 (↑s.size:Int)).bind fun v1 =>
 bif !decide ((↑v1.size:Int)=0) then(bif !decide ((↑v1.size:Int)>9) then((NX v1 0).bind fun v2 =>
 bif decide (v2.n=48) then(bif !decide ((↑v1.size:Int)>1) then(bif decide (v0.n=45) then(some (0,(false,()))) else
 (Bl n (decide (v0.n=45)) v1 0 0).bind fun v3 =>
 Sum.elim (fun v4=>bif v4.fst then(some (IntKind.i64.wrap (0-v4.snd.fst),(true,()))) else
 some (v4.snd.fst,(true,()))) (fun v4=>some (v4.fst,(v4.snd.fst,()))) (v3)) else
 some (0,(false,()))) else
 (Bl n (decide (v0.n=45)) v1 0 0).bind fun v3 =>
 Sum.elim (fun v4=>bif v4.fst then(some (IntKind.i64.wrap (0-v4.snd.fst),(true,()))) else
 some (v4.snd.fst,(true,()))) (fun v4=>some (v4.fst,(v4.snd.fst,()))) (v3)) else
 some (0,(false,()))) else
 some (0,(false,()))) else
 bif !decide ((↑s.size:Int)=0) then(bif !decide ((↑s.size:Int)>9) then((NX s 0).bind fun v1 =>
 bif decide (v1.n=48) then(bif !decide ((↑s.size:Int)>1) then(bif decide (v0.n=45) then(some (0,(false,()))) else
 (Bl n (decide (v0.n=45)) s 0 0).bind fun v2 =>
 Sum.elim (fun v3=>bif v3.fst then(some (IntKind.i64.wrap (0-v3.snd.fst),(true,()))) else
 some (v3.snd.fst,(true,()))) (fun v3=>some (v3.fst,(v3.snd.fst,()))) (v2)) else
 some (0,(false,()))) else
 (Bl n (decide (v0.n=45)) s 0 0).bind fun v2 =>
 Sum.elim (fun v3=>bif v3.fst then(some (IntKind.i64.wrap (0-v3.snd.fst),(true,()))) else
 some (v3.snd.fst,(true,()))) (fun v3=>some (v3.fst,(v3.snd.fst,()))) (v2)) else
 some (0,(false,()))) else
 some (0,(false,()))) else
 bif !decide ((↑s.size:Int)=0) then(bif !decide ((↑s.size:Int)>9) then((NX s 0).bind fun v0 =>
 bif decide (v0.n=48) then(bif !decide ((↑s.size:Int)>1) then((Bl n false s 0 0).bind fun v1 =>
 Sum.elim (fun v2=>bif v2.fst then(some (IntKind.i64.wrap (0-v2.snd.fst),(true,()))) else
 some (v2.snd.fst,(true,()))) (fun v2=>some (v2.fst,(v2.snd.fst,()))) (v1)) else
 some (0,(false,()))) else
 (Bl n false s 0 0).bind fun v1 =>
 Sum.elim (fun v2=>bif v2.fst then(some (IntKind.i64.wrap (0-v2.snd.fst),(true,()))) else
 some (v2.snd.fst,(true,()))) (fun v2=>some (v2.fst,(v2.snd.fst,()))) (v1)) else
 some (0,(false,()))) else
 some (0,(false,()))
def Ab0 (n:Nat) (y:C.Ds Ty (Af O3)):Option (YT Ty Ub):=Uc n y.1
def Zi6 (n:Nat):AA Ty:=AB O3 0 Ub (Ab0 n)
def Zho (n:Nat):List (Nat×AA Ty):=[]
theorem Wm (n:Nat):Ap Tryz.prog (Zho n):=trivial
def ZhT (n:Nat):A0 Ty:=[]
theorem Adj (n:Nat) (x:C.Ds Ty (Af Hb)):(Ay Tryz.prog 69 (Al Tryz.prog (Zho n) []) (Ae (ZhT n)) (Am 9 Tryz.f65) (Av Hb x)).runK (A4 0 Hb NK (JW n))=JW (n+1) x:=by kernel_rfl
theorem Adk (n:Nat):A5 true Tryz.prog 69 (Zg6 n) (.loop (Am 9 Tryz.f65)):=A6 fun x y hy=>At (Fn:=JW) Aa Ab (fun n=>Ac Aa Ab (Wm n) Ai) (fun h=>by cases h) (fun h=>by cases h) (fun n=>(Ad (fn:=Tryz.f65) (L:=ZhT n) (ks:=[]) trivial (by kernel_rfl) (by kernel_rfl))) (by decide) (fun _=>rfl) Adj hy
def ZjD (n:Nat):A0 Ty:=[(.loop 9,Zg6 n)]
theorem AiZ (n:Nat) (x:C.Ds Ty (Af O3)):(Ay Tryz.prog 69 (Al Tryz.prog (Zho n) []) (Ae (ZjD n)) (Ao Tryz.f65) (Av O3 x)).runK (Ar Tryz.prog Tryz.f65.results.toList 0 Ub)=Ab0 n x:=by kernel_rfl
theorem Adl (n:Nat):Au Tryz.prog 65 (Zi6 n):=As Tryz.func65 rfl rfl (by decide) rfl Aa Ab (Ac Aa Ab (Wm n) Ai) (Ad (fn:=Tryz.f65) (L:=ZjD n) (ks:=[.loop 9]) ⟨Adk n,trivial⟩ (by kernel_rfl) (by kernel_rfl)) (AiZ n)
def Gf:List (Nat×C):=[(0,.s 3),(1,.s 3),(5,.s 9),(6,.s 3)]
def MQ:List Wo:=[⟨.exit 0,[],[(5,.s 9)],[]⟩]
def Nl:List (Nat×C):=[(0,.s 3),(1,.s 3)]
def R9:List Wo:=[⟨.ret,[],[],[.s 9]⟩]
def I6:Nat→Int→Int→ByteArray→Int→Option ((ByteArray×Unit))
 | 0,_,_,_,_=>none
 | n+1,n_,many,s,i =>
  bif decide (i<many) then((DC (AcT [IK.mk (IntKind.u8.wrap (IntKind.i64.wrap (48+n_.tmod 10)))]) s).bind fun v0 =>
  I6 n (IntKind.i64.wrap (n_.tdiv 10)) many v0 (IntKind.i64.wrap (i+1))) else
  some (s,())
def IX (n:Nat) (y:C.Ds Ty (Af Gf)):Option (YT Ty MQ):=I6 n y.1 y.2.1 y.2.2.1 y.2.2.2.1
def ZfZ (n:Nat):St Ty→Tr (Lf Ty):=Bc Gf 0 MQ (IX n)
def KD (n:Nat) (n_:Int) (many:Int):Option ((ByteArray×Unit)) :=
 (I6 n n_ many (B []) 0).bind fun v0 =>
 some (v0.fst,())
def Ys (n:Nat) (y:C.Ds Ty (Af Nl)):Option (YT Ty R9):=KD n y.1 y.2.1
def ZhU (n:Nat):AA Ty:=AB Nl 0 R9 (Ys n)
def Zgp (n:Nat):List (Nat×AA Ty):=[]
theorem U0 (n:Nat):Ap Tryz.prog (Zgp n):=trivial
def Zhp (n:Nat):A0 Ty:=[]
theorem Ab1 (n:Nat) (x:C.Ds Ty (Af Gf)):(Ay Tryz.prog 23 (Al Tryz.prog (Zgp n) []) (Ae (Zhp n)) (Am 3 Tryz.f128) (Av Gf x)).runK (A4 0 Gf MQ (IX n))=IX (n+1) x:=by kernel_rfl
theorem Ab2 (n:Nat):A5 true Tryz.prog 23 (ZfZ n) (.loop (Am 3 Tryz.f128)):=A6 fun x y hy=>At (Fn:=IX) Aa Ab (fun n=>Ac Aa Ab (U0 n) Ai) (fun h=>by cases h) (fun h=>by cases h) (fun n=>(Ad (fn:=Tryz.f128) (L:=Zhp n) (ks:=[]) trivial (by kernel_rfl) (by kernel_rfl))) (by decide) (fun _=>rfl) Ab1 hy
def Zjn (n:Nat):A0 Ty:=[(.loop 3,ZfZ n)]
theorem Aim (n:Nat) (x:C.Ds Ty (Af Nl)):(Ay Tryz.prog 23 (Al Tryz.prog (Zgp n) []) (Ae (Zjn n)) (Ao Tryz.f128) (Av Nl x)).runK (Ar Tryz.prog Tryz.f128.results.toList 0 R9)=Ys n x:=by kernel_rfl
theorem Ab3 (n:Nat):Au Tryz.prog 128 (ZhU n):=As Tryz.func128 rfl rfl (by decide) rfl Aa Ab (Ac Aa Ab (U0 n) Ai) (Ad (fn:=Tryz.f128) (L:=Zjn n) (ks:=[.loop 3]) ⟨Ab2 n,trivial⟩ (by kernel_rfl) (by kernel_rfl)) (Aim n)
def Hc:List (Nat×C):=[(0,.s 9),(5,.s 3),(6,.s 3)]
def NL:List Wo:=[⟨.exit 0,[],[(5,.s 3)],[]⟩]
def O4:List (Nat×C):=[(0,.s 9),(1,.s 3)]
def Ud:List Wo:=[⟨.ret,[],[],[.s 3]⟩]
def JM:Nat→ByteArray→Int→Int→Option ((Int×Unit))
 | 0,_,_,_=>none
 | n+1,line,sum,i =>
  bif decide (i<(↑line.size:Int)) then((NX line i).bind fun v0 =>
  JM n line (IntKind.i64.wrap (sum+IntKind.i64.wrap (IntKind.i64.wrap (i+1)*IntKind.i64.wrap (IntKind.i64.wrap v0.n+1)))) (IntKind.i64.wrap (i+1))) else
  some (sum,())
def JX (n:Nat) (y:C.Ds Ty (Af Hc)):Option (YT Ty NL):=JM n y.1 y.2.1 y.2.2.1
def Zg7 (n:Nat):St Ty→Tr (Lf Ty):=Bc Hc 0 NL (JX n)
def Ue (n:Nat) (line:ByteArray) (index:Int):Option ((Int×Unit)) :=
 (JM n line (IntKind.i64.wrap (7*IntKind.i64.wrap (index+1))) 0).bind fun v0 =>
 some (v0.fst.tmod 99991,())
def Ab4 (n:Nat) (y:C.Ds Ty (Af O4)):Option (YT Ty Ud):=Ue n y.1 y.2.1
def Zi7 (n:Nat):AA Ty:=AB O4 0 Ud (Ab4 n)
def Zhq (n:Nat):List (Nat×AA Ty):=[]
theorem Wn (n:Nat):Ap Tryz.prog (Zhq n):=trivial
def ZhV (n:Nat):A0 Ty:=[]
theorem Adm (n:Nat) (x:C.Ds Ty (Af Hc)):(Ay Tryz.prog 28 (Al Tryz.prog (Zhq n) []) (Ae (ZhV n)) (Am 3 Tryz.f129) (Av Hc x)).runK (A4 0 Hc NL (JX n))=JX (n+1) x:=by kernel_rfl
theorem Adn (n:Nat):A5 true Tryz.prog 28 (Zg7 n) (.loop (Am 3 Tryz.f129)):=A6 fun x y hy=>At (Fn:=JX) Aa Ab (fun n=>Ac Aa Ab (Wn n) Ai) (fun h=>by cases h) (fun h=>by cases h) (fun n=>(Ad (fn:=Tryz.f129) (L:=ZhV n) (ks:=[]) trivial (by kernel_rfl) (by kernel_rfl))) (by decide) (fun _=>rfl) Adm hy
def ZjE (n:Nat):A0 Ty:=[(.loop 3,Zg7 n)]
theorem Aja (n:Nat) (x:C.Ds Ty (Af O4)):(Ay Tryz.prog 28 (Al Tryz.prog (Zhq n) []) (Ae (ZjE n)) (Ao Tryz.f129) (Av O4 x)).runK (Ar Tryz.prog Tryz.f129.results.toList 0 Ud)=Ab4 n x:=by kernel_rfl
theorem Ado (n:Nat):Au Tryz.prog 129 (Zi7 n):=As Tryz.func129 rfl rfl (by decide) rfl Aa Ab (Ac Aa Ab (Wn n) Ai) (Ad (fn:=Tryz.f129) (L:=ZjE n) (ks:=[.loop 3]) ⟨Adn n,trivial⟩ (by kernel_rfl) (by kernel_rfl)) (Aja n)
def Gg:List (Nat×C):=[(0,.l 65),(2,.s 3),(4,.u 65),(7,.s 3)]
def MR:List Wo:=[⟨.exit 0,[.u 65],[],[]⟩,⟨.ret,[.u 65],[(6,.s 4)],[]⟩]
def Nm:List (Nat×C):=[(0,.l 65),(1,.g 65),(2,.s 3)]
def RA:List Wo:=[⟨.ret,[],[],[.s 4]⟩]
def AJ:Nat→(List A1)→Int→A1→Int→Option ((A1×Unit) ⊕ ((A1×Bool×Unit)))
 | 0,_,_,_,_=>none
 | n+1,l,minute,d,i =>
  bif decide (i<(↑l.length:Int)) then((A3 l i).bind fun v0 =>
  bif !v0.bus != d.bus then(bif !decide (v0.minute<d.minute) then(bif decide (v0.minute>minute) then(AJ n l minute d (IntKind.i64.wrap (i+1))) else
  bif decide (v0.kind.n=2) then(bif !decide (v0.sg=d.number) then(bif decide (v0.kind.n=3) then(bif decide (d.kind.n=0) then(some (.inr (d,(false,())))) else
  AJ n l minute d (IntKind.i64.wrap (i+1))) else
  AJ n l minute d (IntKind.i64.wrap (i+1))) else
  some (.inr (d,(false,())))) else
  bif decide (v0.kind.n=3) then(bif decide (d.kind.n=0) then(some (.inr (d,(false,())))) else
  AJ n l minute d (IntKind.i64.wrap (i+1))) else
  AJ n l minute d (IntKind.i64.wrap (i+1))) else
  AJ n l minute d (IntKind.i64.wrap (i+1))) else
  AJ n l minute d (IntKind.i64.wrap (i+1))) else
  some (.inl (d,()))
def IY (n:Nat) (y:C.Ds Ty (Af Gg)):Option (YT Ty MR):=AJ n y.1 y.2.1 y.2.2.1 y.2.2.2.1
def Zga (n:Nat):St Ty→Tr (Lf Ty):=Bc Gg 1 MR (IY n)
def QV (n:Nat) (l:List A1) (d:A1) (minute:Int):Option ((Bool×Unit)) :=
 bif decide (d.minute>minute) then(some (false,())) else
 (AJ n l minute d 0).bind fun v0 =>
 Sum.elim (fun v1=>some (true,())) (fun v1=>some (v1.snd.fst,())) (v0)
def Yt (n:Nat) (y:C.Ds Ty (Af Nm)):Option (YT Ty RA):=QV n y.1 y.2.1 y.2.2.1
def ZhW (n:Nat):AA Ty:=El (AB Nm 0 RA (Yt n))
def Zgq (n:Nat):List (Nat×AA Ty):=[]
theorem U1 (n:Nat):Ap Tryz.prog (Zgq n):=trivial
def Zhr (n:Nat):A0 Ty:=[]
theorem Ab5 (n:Nat) (x:C.Ds Ty (Af Gg)):(Ay Tryz.prog 61 (Al Tryz.prog (Zgq n) []) (Ae (Zhr n)) (Am 4 Tryz.f124) (Av Gg x)).runK (A4 1 Gg MR (IY n))=IY (n+1) x:=by kernel_rfl
theorem Ab6 (n:Nat):A5 true Tryz.prog 61 (Zga n) (.loop (Am 4 Tryz.f124)):=A6 fun x y hy=>At (Fn:=IY) Aa Ab (fun n=>Ac Aa Ab (U1 n) Ai) (fun h=>by cases h) (fun h=>by cases h) (fun n=>(Ad (fn:=Tryz.f124) (L:=Zhr n) (ks:=[]) trivial (by kernel_rfl) (by kernel_rfl))) (by decide) (fun _=>rfl) Ab5 hy
def Zjo (n:Nat):A0 Ty:=[(.loop 4,Zga n)]
theorem Ain (n:Nat) (x:C.Ds Ty (Af Nm)):(Ay Tryz.prog 61 (Al Tryz.prog (Zgq n) []) (Ae (Zjo n)) (Ao Tryz.f124) (Av Nm x)).runK (Ar Tryz.prog Tryz.f124.results.toList 0 RA)=Yt n x:=by kernel_rfl
theorem Ab7 (n:Nat):Au Tryz.prog 124 (ZhW n):=AX (As Tryz.func124 rfl rfl (by decide) rfl Aa Ab (Ac Aa Ab (U1 n) Ai) (Ad (fn:=Tryz.f124) (L:=Zjo n) (ks:=[.loop 4]) ⟨Ab6 n,trivial⟩ (by kernel_rfl) (by kernel_rfl)) (Ain n))
def FP:List (Nat×C):=[(0,.g 90),(1,.g 90)]
def J2:List Wo:=[⟨.ret,[],[],[.s 4]⟩]
def L1 (n:Nat) (a:Ag) (b:Ag):Option ((Bool×Unit)) :=
 bif !(decide (a.machine=b.machine) && (decide (a.seq=b.seq) && (decide (a.minute=b.minute) && (decide (a.kind.n=b.kind.n) && (decide (a.a=b.a) && (decide (a.b=b.b) && true)))))) then(bif a.machine != b.machine then(some (false,())) else
 bif !decide (a.seq=b.seq) then(bif decide (a.seq>b.seq) then(bif !decide (a.minute<b.minute) then(bif decide (a.seq<b.seq) then(some (decide (a.minute>b.minute),())) else
 some (false,())) else
 some (true,())) else
 bif decide (a.seq<b.seq) then(some (decide (a.minute>b.minute),())) else
 some (false,())) else
 some (true,())) else
 some (false,())
def Oi (n:Nat) (y:C.Ds Ty (Af FP)):Option (YT Ty J2):=L1 n y.1 y.2.1
def Zez (n:Nat):AA Ty:=AB FP 0 J2 (Oi n)
def Zfs (n:Nat):List (Nat×AA Ty):=[]
theorem UX (n:Nat):Ap Tryz.prog (Zfs n):=trivial
def Zft (n:Nat):A0 Ty:=[]
theorem Wp (n:Nat) (x:C.Ds Ty (Af FP)):(Ay Tryz.prog 48 (Al Tryz.prog (Zfs n) []) (Ae (Zft n)) (Ao Tryz.f203) (Av FP x)).runK (Ar Tryz.prog Tryz.f203.results.toList 0 J2)=Oi n x:=by kernel_rfl
theorem SE (n:Nat):Au Tryz.prog 203 (Zez n):=As Tryz.func203 rfl rfl (by decide) rfl Aa Ab (Ac Aa Ab (UX n) Ai) (Ad (fn:=Tryz.f203) (L:=Zft n) (ks:=[]) trivial (by kernel_rfl) (by kernel_rfl)) (Wp n)
def B3:List (Nat×C):=[(0,.l 90),(3,.s 3),(4,.s 3)]
def Et:List Wo:=[⟨.exit 2,[],[(0,.l 90),(3,.s 3)],[]⟩,⟨.ret,[],[(2,.s 4)],[]⟩]
def B4:List (Nat×C):=[(0,.l 90),(3,.s 3)]
def Eu:List Wo:=[⟨.exit 0,[],[],[]⟩,⟨.ret,[],[(2,.s 4)],[]⟩]
def D1:List (Nat×C):=[(0,.l 90)]
def GL:List Wo:=[⟨.ret,[],[],[.s 4]⟩]
def BP:Nat→(List Ag)→Int→Int→Option ((List Ag×Int×Unit) ⊕ ((Bool×Unit)))
 | 0,_,_,_=>none
 | n+1,l,i,k =>
  bif decide (k<i) then((A3 l i).bind fun v0 =>
  (A3 l k).bind fun v1 =>
  (L1 n v0 v1).bind fun v2 =>
  bif v2.fst then(some (.inr (true,()))) else
  BP n l i (IntKind.i64.wrap (k+1))) else
  some (.inl (l,(i,())))
def Cn (n:Nat) (y:C.Ds Ty (Af B3)):Option (YT Ty Et):=BP n y.1 y.2.1 y.2.2.1
def Zcy (n:Nat):St Ty→Tr (Lf Ty):=Bc B3 0 Et (Cn n)
def BQ:Nat→(List Ag)→Int→Option (Unit ⊕ ((Bool×Unit)))
 | 0,_,_=>none
 | n+1,l,i =>
  bif decide (i<(↑l.length:Int)) then((BP n l i 0).bind fun v0 =>
  Sum.elim (fun v1=>BQ n v1.fst (IntKind.i64.wrap (v1.snd.fst+1))) (fun v1=>some (.inr (v1.fst,()))) (v0)) else
  some (.inl ())
def Co (n:Nat) (y:C.Ds Ty (Af B4)):Option (YT Ty Eu):=BQ n y.1 y.2.1
def Zcz (n:Nat):St Ty→Tr (Lf Ty):=Bc B4 0 Eu (Co n)
def EI (n:Nat) (l:List Ag):Option ((Bool×Unit)) :=
 (BQ n l 0).bind fun v0 =>
 Sum.elim (fun v1=>some (false,())) (fun v1=>some (v1.fst,())) (v0)
def L2 (n:Nat) (y:C.Ds Ty (Af D1)):Option (YT Ty GL):=EI n y.1
def Zde (n:Nat):AA Ty:=El (AB D1 0 GL (L2 n))
def ZbG (n:Nat):List (Nat×AA Ty):=[(203,Zez n)]
theorem Fy (n:Nat):Ap Tryz.prog (ZbG n):=⟨SE n,trivial⟩
def ZcL (n:Nat):A0 Ty:=[]
theorem PB (n:Nat) (x:C.Ds Ty (Af B3)):(Ay Tryz.prog 25 (Al Tryz.prog (ZbG n) []) (Ae (ZcL n)) (Am 5 Tryz.f143) (Av B3 x)).runK (A4 0 B3 Et (Cn n))=Cn (n+1) x:=by kernel_rfl
theorem PC (n:Nat):A5 true Tryz.prog 25 (Zcy n) (.loop (Am 5 Tryz.f143)):=A6 fun x y hy=>At (Fn:=Cn) Aa Ab (fun n=>Ac Aa Ab (Fy n) Ai) (fun h=>by cases h) (fun h=>by cases h) (fun n=>(Ad (fn:=Tryz.f143) (L:=ZcL n) (ks:=[]) trivial (by kernel_rfl) (by kernel_rfl))) (by decide) (fun _=>rfl) PB hy
def ZcM (n:Nat):A0 Ty:=[(.loop 5,Zcy n)]
theorem PD (n:Nat) (x:C.Ds Ty (Af B4)):(Ay Tryz.prog 25 (Al Tryz.prog (ZbG n) []) (Ae (ZcM n)) (Am 2 Tryz.f143) (Av B4 x)).runK (A4 0 B4 Eu (Co n))=Co (n+1) x:=by kernel_rfl
theorem PE (n:Nat):A5 true Tryz.prog 25 (Zcz n) (.loop (Am 2 Tryz.f143)):=A6 fun x y hy=>At (Fn:=Co) Aa Ab (fun n=>Ac Aa Ab (Fy n) Ai) (fun h=>by cases h) (fun h=>by cases h) (fun n=>(Ad (fn:=Tryz.f143) (L:=ZcM n) (ks:=[.loop 5]) ⟨PC n,trivial⟩ (by kernel_rfl) (by kernel_rfl))) (by decide) (fun _=>rfl) PD hy
def ZdP (n:Nat):A0 Ty:=[(.loop 2,Zcz n)]
theorem SF (n:Nat) (x:C.Ds Ty (Af D1)):(Ay Tryz.prog 25 (Al Tryz.prog (ZbG n) []) (Ae (ZdP n)) (Ao Tryz.f143) (Av D1 x)).runK (Ar Tryz.prog Tryz.f143.results.toList 0 GL)=L2 n x:=by kernel_rfl
theorem PF (n:Nat):Au Tryz.prog 143 (Zde n):=AX (As Tryz.func143 rfl rfl (by decide) rfl Aa Ab (Ac Aa Ab (Fy n) Ai) (Ad (fn:=Tryz.f143) (L:=ZdP n) (ks:=[.loop 2]) ⟨PE n,trivial⟩ (by kernel_rfl) (by kernel_rfl)) (SF n))
def QW:List (Nat×C):=[(0,.s 3),(1,.s 3),(2,.s 3)]
def Wq:List Wo:=[⟨.ret,[],[],[.s 4]⟩]
def Gh (n:Nat) (n_:Int) (low:Int) (high:Int):Option ((Bool×Unit)) :=
 bif decide (n_≥low) then(some (decide (n_≤high),())) else
 some (false,())
def Ae4 (n:Nat) (y:C.Ds Ty (Af QW)):Option (YT Ty Wq):=Gh n y.1 y.2.1 y.2.2.1
def Zgr (n:Nat):AA Ty:=AB QW 0 Wq (Ae4 n)
def Zkg (n:Nat):List (Nat×AA Ty):=[]
theorem Ajb (n:Nat):Ap Tryz.prog (Zkg n):=trivial
def Zkh (n:Nat):A0 Ty:=[]
theorem Al9 (n:Nat) (x:C.Ds Ty (Af QW)):(Ay Tryz.prog 15 (Al Tryz.prog (Zkg n) []) (Ae (Zkh n)) (Ao Tryz.f145) (Av QW x)).runK (Ar Tryz.prog Tryz.f145.results.toList 0 Wq)=Ae4 n x:=by kernel_rfl
theorem U2 (n:Nat):Au Tryz.prog 145 (Zgr n):=As Tryz.func145 rfl rfl (by decide) rfl Aa Ab (Ac Aa Ab (Ajb n) Ai) (Ad (fn:=Tryz.f145) (L:=Zkh n) (ks:=[]) trivial (by kernel_rfl) (by kernel_rfl)) (Al9 n)
def L3:List (Nat×C):=[(0,.g 65)]
def PG:List Wo:=[⟨.ret,[],[],[.s 4]⟩]
def L4 (n:Nat) (c:A1):Option ((Bool×Unit)) :=
 (Gh n c.bus 0 99).bind fun v0 =>
 bif !!v0.fst then((Gh n c.number 1 999).bind fun v1 =>
 bif !!v1.fst then((Gh n c.minute 0 1000000).bind fun v2 =>
 bif !!v2.fst then(bif decide (c.kind.n>3) then(some (false,())) else
 bif decide (c.kind.n<2) then((Gh n c.part 0 15).bind fun v3 =>
 bif v3.fst then(some (decide (c.sg=0),())) else
 some (false,())) else
 bif decide (c.part=0) then(bif decide (c.kind.n=2) then((Gh n c.sg 1 999).bind fun v3 =>
 bif !v3.fst then(bif decide (c.kind.n=3) then(some (decide (c.sg=0),())) else
 some (false,())) else
 some (true,())) else
 bif decide (c.kind.n=3) then(some (decide (c.sg=0),())) else
 some (false,())) else
 some (false,())) else
 some (false,())) else
 some (false,())) else
 some (false,())
def Wr (n:Nat) (y:C.Ds Ty (Af L3)):Option (YT Ty PG):=L4 n y.1
def Zhs (n:Nat):AA Ty:=AB L3 0 PG (Wr n)
def Zi8 (n:Nat):List (Nat×AA Ty):=[(145,Zgr n)]
theorem Adp (n:Nat):Ap Tryz.prog (Zi8 n):=⟨U2 n,trivial⟩
def Zi9 (n:Nat):A0 Ty:=[]
theorem Afe (n:Nat) (x:C.Ds Ty (Af L3)):(Ay Tryz.prog 58 (Al Tryz.prog (Zi8 n) []) (Ae (Zi9 n)) (Ao Tryz.f201) (Av L3 x)).runK (Ar Tryz.prog Tryz.f201.results.toList 0 PG)=Wr n x:=by kernel_rfl
theorem Zp (n:Nat):Au Tryz.prog 201 (Zhs n):=As Tryz.func201 rfl rfl (by decide) rfl Aa Ab (Ac Aa Ab (Adp n) Ai) (Ad (fn:=Tryz.f201) (L:=Zi9 n) (ks:=[]) trivial (by kernel_rfl) (by kernel_rfl)) (Afe n)
def QX:List (Nat×C):=[(0,.s 3),(1,.s 3),(2,.s 3)]
def Ws:List Wo:=[⟨.ret,[],[],[.s 4]⟩]
def Gi (n:Nat) (n_:Int) (low:Int) (high:Int):Option ((Bool×Unit)) :=
 bif decide (n_≥low) then(some (decide (n_≤high),())) else
 some (false,())
def Ae5 (n:Nat) (y:C.Ds Ty (Af QX)):Option (YT Ty Ws):=Gi n y.1 y.2.1 y.2.2.1
def Zjp (n:Nat):AA Ty:=AB QX 0 Ws (Ae5 n)
def Zki (n:Nat):List (Nat×AA Ty):=[]
theorem Ajc (n:Nat):Ap Tryz.prog (Zki n):=trivial
def Zkj (n:Nat):A0 Ty:=[]
theorem AlA (n:Nat) (x:C.Ds Ty (Af QX)):(Ay Tryz.prog 15 (Al Tryz.prog (Zki n) []) (Ae (Zkj n)) (Ao Tryz.f156) (Av QX x)).runK (Ar Tryz.prog Tryz.f156.results.toList 0 Ws)=Ae5 n x:=by kernel_rfl
theorem Aff (n:Nat):Au Tryz.prog 156 (Zjp n):=As Tryz.func156 rfl rfl (by decide) rfl Aa Ab (Ac Aa Ab (Ajc n) Ai) (Ad (fn:=Tryz.f156) (L:=Zkj n) (ks:=[]) trivial (by kernel_rfl) (by kernel_rfl)) (AlA n)
def L5:List (Nat×C):=[(0,.g 90)]
def PH:List Wo:=[⟨.ret,[],[],[.s 4]⟩]
def O5 (n:Nat) (r:Ag):Option ((Bool×Unit)) :=
 (Gi n r.machine 0 999).bind fun v0 =>
 bif !!v0.fst then((Gi n r.seq 1 9999).bind fun v1 =>
 bif !!v1.fst then((Gi n r.minute 0 1000000).bind fun v2 =>
 bif !v2.fst then(some (false,())) else
 bif decide (r.kind.n=0) then((Gi n r.a 0 99).bind fun v3 =>
 bif v3.fst then((Gi n r.b 0 10000).bind fun v4 =>
 some (v4.fst,())) else
 some (false,())) else
 bif decide (r.kind.n=1) then((Gi n r.a 0 1000000).bind fun v3 =>
 bif v3.fst then(some (decide (r.b=0),())) else
 some (false,())) else
 bif decide (r.kind.n=2) then((Gi n r.a 0 9999).bind fun v3 =>
 bif v3.fst then((Gi n r.b 0 10000000).bind fun v4 =>
 some (v4.fst,())) else
 some (false,())) else
 some (false,())) else
 some (false,())) else
 some (false,())
def Wt (n:Nat) (y:C.Ds Ty (Af L5)):Option (YT Ty PH):=O5 n y.1
def Zht (n:Nat):AA Ty:=AB L5 0 PH (Wt n)
def ZiA (n:Nat):List (Nat×AA Ty):=[(156,Zjp n)]
theorem Adq (n:Nat):Ap Tryz.prog (ZiA n):=⟨Aff n,trivial⟩
def ZiB (n:Nat):A0 Ty:=[]
theorem Afg (n:Nat) (x:C.Ds Ty (Af L5)):(Ay Tryz.prog 51 (Al Tryz.prog (ZiA n) []) (Ae (ZiB n)) (Ao Tryz.f202) (Av L5 x)).runK (Ar Tryz.prog Tryz.f202.results.toList 0 PH)=Wt n x:=by kernel_rfl
theorem Zq (n:Nat):Au Tryz.prog 202 (Zht n):=As Tryz.func202 rfl rfl (by decide) rfl Aa Ab (Ac Aa Ab (Adq n) Ai) (Ad (fn:=Tryz.f202) (L:=ZiB n) (ks:=[]) trivial (by kernel_rfl) (by kernel_rfl)) (Afg n)
def I7:List (Nat×C):=[(1,.s 3),(2,.u 51),(5,.s 3)]
def PI:List Wo:=[⟨.exit 0,[.u 51],[],[]⟩,⟨.ret,[.u 51],[(4,.s 3)],[]⟩]
def QY:List (Nat×C):=[(0,.g 51),(1,.s 3)]
def Wu:List Wo:=[⟨.ret,[],[],[.s 3]⟩]
def L6:Nat→Int→An→Int→Option ((An×Unit) ⊕ ((An×Int×Unit)))
 | 0,_,_,_=>none
 | n+1,bus,s,i =>
  bif decide (i<(↑s.outs.length:Int)) then((A3 s.outs i).bind fun v0 =>
  bif decide (v0.bus=bus) then(some (.inr (s,(i,())))) else
  L6 n bus s (IntKind.i64.wrap (i+1))) else
  some (.inl (s,()))
def L7 (n:Nat) (y:C.Ds Ty (Af I7)):Option (YT Ty PI):=L6 n y.1 y.2.1 y.2.2.1
def Zhu (n:Nat):St Ty→Tr (Lf Ty):=Bc I7 1 PI (L7 n)
def Xn (n:Nat) (s:An) (bus:Int):Option ((Int×Unit)) :=
 (L6 n bus s 0).bind fun v0 =>
 Sum.elim (fun v1=>some (-1,())) (fun v1=>some (v1.snd.fst,())) (v0)
def Ae6 (n:Nat) (y:C.Ds Ty (Af QY)):Option (YT Ty Wu):=Xn n y.1 y.2.1
def Zjq (n:Nat):AA Ty:=AB QY 0 Wu (Ae6 n)
def Ziq (n:Nat):List (Nat×AA Ty):=[]
theorem Yu (n:Nat):Ap Tryz.prog (Ziq n):=trivial
def ZiC (n:Nat):A0 Ty:=[]
theorem Afh (n:Nat) (x:C.Ds Ty (Af I7)):(Ay Tryz.prog 22 (Al Tryz.prog (Ziq n) []) (Ae (ZiC n)) (Am 2 Tryz.f144) (Av I7 x)).runK (A4 1 I7 PI (L7 n))=L7 (n+1) x:=by kernel_rfl
theorem Afi (n:Nat):A5 true Tryz.prog 22 (Zhu n) (.loop (Am 2 Tryz.f144)):=A6 fun x y hy=>At (Fn:=L7) Aa Ab (fun n=>Ac Aa Ab (Yu n) Ai) (fun h=>by cases h) (fun h=>by cases h) (fun n=>(Ad (fn:=Tryz.f144) (L:=ZiC n) (ks:=[]) trivial (by kernel_rfl) (by kernel_rfl))) (by decide) (fun _=>rfl) Afh hy
def Zkk (n:Nat):A0 Ty:=[(.loop 2,Zhu n)]
theorem AlB (n:Nat) (x:C.Ds Ty (Af QY)):(Ay Tryz.prog 22 (Al Tryz.prog (Ziq n) []) (Ae (Zkk n)) (Ao Tryz.f144) (Av QY x)).runK (Ar Tryz.prog Tryz.f144.results.toList 0 Wu)=Ae6 n x:=by kernel_rfl
theorem Afj (n:Nat):Au Tryz.prog 144 (Zjq n):=As Tryz.func144 rfl rfl (by decide) rfl Aa Ab (Ac Aa Ab (Yu n) Ai) (Ad (fn:=Tryz.f144) (L:=Zkk n) (ks:=[.loop 2]) ⟨Afi n,trivial⟩ (by kernel_rfl) (by kernel_rfl)) (AlB n)
def Hd:List (Nat×C):=[(0,.l 9),(3,.s 3)]
def NM:List Wo:=[⟨.exit 0,[],[(0,.l 9)],[]⟩,⟨.ret,[],[(2,.s 4)],[]⟩]
def O6:List (Nat×C):=[(0,.l 9)]
def Uf:List Wo:=[⟨.ret,[],[],[.s 4]⟩]
def Nn:Nat→(List ByteArray)→Int→Option ((List ByteArray×Unit) ⊕ ((Bool×Unit)))
 | 0,_,_=>none
 | n+1,lines,i =>
  bif decide (i<(↑lines.length:Int)) then((A3 lines i).bind fun v0 =>
  bif decide ((↑v0.size:Int)>200) then(some (.inr (false,()))) else
  Nn n lines (IntKind.i64.wrap (i+1))) else
  some (.inl (lines,()))
def JY (n:Nat) (y:C.Ds Ty (Af Hd)):Option (YT Ty NM):=Nn n y.1 y.2.1
def Zg8 (n:Nat):St Ty→Tr (Lf Ty):=Bc Hd 0 NM (JY n)
def Ug (n:Nat) (lines:List ByteArray):Option ((Bool×Unit)) :=
 (Nn n lines 0).bind fun v0 =>
 Sum.elim (fun v1=>some (decide ((↑v1.fst.length:Int)≤50),())) (fun v1=>some (v1.fst,())) (v0)
def Ab8 (n:Nat) (y:C.Ds Ty (Af O6)):Option (YT Ty Uf):=Ug n y.1
def ZiD (n:Nat):AA Ty:=El (AB O6 0 Uf (Ab8 n))
def Zhv (n:Nat):List (Nat×AA Ty):=[]
theorem Wv (n:Nat):Ap Tryz.prog (Zhv n):=trivial
def ZhX (n:Nat):A0 Ty:=[]
theorem Adr (n:Nat) (x:C.Ds Ty (Af Hd)):(Ay Tryz.prog 19 (Al Tryz.prog (Zhv n) []) (Ae (ZhX n)) (Am 2 Tryz.f23) (Av Hd x)).runK (A4 0 Hd NM (JY n))=JY (n+1) x:=by kernel_rfl
theorem Ads (n:Nat):A5 true Tryz.prog 19 (Zg8 n) (.loop (Am 2 Tryz.f23)):=A6 fun x y hy=>At (Fn:=JY) Aa Ab (fun n=>Ac Aa Ab (Wv n) Ai) (fun h=>by cases h) (fun h=>by cases h) (fun n=>(Ad (fn:=Tryz.f23) (L:=ZhX n) (ks:=[]) trivial (by kernel_rfl) (by kernel_rfl))) (by decide) (fun _=>rfl) Adr hy
def ZjF (n:Nat):A0 Ty:=[(.loop 2,Zg8 n)]
theorem Ajd (n:Nat) (x:C.Ds Ty (Af O6)):(Ay Tryz.prog 19 (Al Tryz.prog (Zhv n) []) (Ae (ZjF n)) (Ao Tryz.f23) (Av O6 x)).runK (Ar Tryz.prog Tryz.f23.results.toList 0 Uf)=Ab8 n x:=by kernel_rfl
theorem Adt (n:Nat):Au Tryz.prog 23 (ZiD n):=AX (As Tryz.func23 rfl rfl (by decide) rfl Aa Ab (Ac Aa Ab (Wv n) Ai) (Ad (fn:=Tryz.f23) (L:=ZjF n) (ks:=[.loop 2]) ⟨Ads n,trivial⟩ (by kernel_rfl) (by kernel_rfl)) (Ajd n))
def JZ:List (Nat×C):=[]
def NN:List Wo:=[⟨.ret,[],[],[.u 114]⟩]
def Yv (n:Nat):Option ((Aj×Unit)) :=
 some (Aj.mk (An.mk [] [] [] [] (Ax.mk 7 [] [] 600 5 3000) []),())
def U3 (n:Nat) (y:C.Ds Ty (Af JZ)):Option (YT Ty NN):=Yv n
def Zg9 (n:Nat):AA Ty:=AB JZ 0 NN (U3 n)
def ZhY (n:Nat):List (Nat×AA Ty):=[]
theorem Ab9 (n:Nat):Ap Tryz.prog (ZhY n):=trivial
def ZhZ (n:Nat):A0 Ty:=[]
theorem Adu (n:Nat) (x:C.Ds Ty (Af JZ)):(Ay Tryz.prog 5 (Al Tryz.prog (ZhY n) []) (Ae (ZhZ n)) (Ao Tryz.f101) (Av JZ x)).runK (Ar Tryz.prog Tryz.f101.results.toList 0 NN)=U3 n x:=by kernel_rfl
theorem XH (n:Nat):Au Tryz.prog 101 (Zg9 n):=As Tryz.func101 rfl rfl (by decide) rfl Aa Ab (Ac Aa Ab (Ab9 n) Ai) (Ad (fn:=Tryz.f101) (L:=ZhZ n) (ks:=[]) trivial (by kernel_rfl) (by kernel_rfl)) (Adu n)
def O7:List (Nat×C):=[]
def Uh:List Wo:=[⟨.ret,[],[],[.g 51]⟩]
def Zr (n:Nat):Option ((An×Unit)) :=
 some (An.mk [] [] [] [] (Ax.mk 7 [] [] 600 5 3000) [],())
def AbA (n:Nat) (y:C.Ds Ty (Af O7)):Option (YT Ty Uh):=Zr n
def ZiE (n:Nat):AA Ty:=AB O7 0 Uh (AbA n)
def ZjG (n:Nat):List (Nat×AA Ty):=[]
theorem Aio (n:Nat):Ap Tryz.prog (ZjG n):=trivial
def ZjH (n:Nat):A0 Ty:=[]
theorem Aje (n:Nat) (x:C.Ds Ty (Af O7)):(Ay Tryz.prog 3 (Al Tryz.prog (ZjG n) []) (Ae (ZjH n)) (Ao Tryz.f59) (Av O7 x)).runK (Ar Tryz.prog Tryz.f59.results.toList 0 Uh)=AbA n x:=by kernel_rfl
theorem Adv (n:Nat):Au Tryz.prog 59 (ZiE n):=As Tryz.func59 rfl rfl (by decide) rfl Aa Ab (Ac Aa Ab (Aio n) Ai) (Ad (fn:=Tryz.f59) (L:=ZjH n) (ks:=[]) trivial (by kernel_rfl) (by kernel_rfl)) (Aje n)
def EJ:List (Nat×C):=[(0,.l 65),(3,.s 3)]
def L8:List Wo:=[⟨.exit 0,[],[(0,.l 65)],[]⟩,⟨.ret,[],[(2,.s 3)],[]⟩]
def EL:List (Nat×C):=[(0,.l 65),(4,.s 3),(5,.s 3)]
def L9:List Wo:=[⟨.exit 4,[],[(0,.l 65),(4,.s 3)],[]⟩,⟨.ret,[],[(2,.s 3)],[]⟩]
def EM:List (Nat×C):=[(0,.l 65),(4,.s 3)]
def LA:List Wo:=[⟨.exit 2,[],[],[]⟩,⟨.ret,[],[(2,.s 3)],[]⟩]
def LB:List (Nat×C):=[(0,.l 65)]
def PJ:List Wo:=[⟨.ret,[],[],[.s 3]⟩]
def He:Nat→(List A1)→Int→Option ((List A1×Unit) ⊕ ((Int×Unit)))
 | 0,_,_=>none
 | n+1,l,i =>
  bif decide (i<(↑l.length:Int)) then((A3 l i).bind fun v0 =>
  (L4 n v0).bind fun v1 =>
  bif !v1.fst then(some (.inr (1,()))) else
  He n l (IntKind.i64.wrap (i+1))) else
  some (.inl (l,()))
def HM (n:Nat) (y:C.Ds Ty (Af EJ)):Option (YT Ty L8):=He n y.1 y.2.1
def Zfu (n:Nat):St Ty→Tr (Lf Ty):=Bc EJ 0 L8 (HM n)
def Ev:Nat→(List A1)→Int→Int→Option ((List A1×Int×Unit) ⊕ ((Int×Unit)))
 | 0,_,_,_=>none
 | n+1,l,i,k =>
  bif decide (k<i) then((A3 l i).bind fun v0 =>
  (A3 l k).bind fun v1 =>
  bif decide (v0.number=v1.number) then((A3 l i).bind fun v2 =>
  (A3 l k).bind fun v3 =>
  bif !(decide (v2.bus=v3.bus) && (decide (v2.number=v3.number) && (decide (v2.minute=v3.minute) && (decide (v2.kind.n=v3.kind.n) && (decide (v2.part=v3.part) && (decide (v2.sg=v3.sg) && true)))))) then(some (.inr (6,()))) else
  Ev n l i (IntKind.i64.wrap (k+1))) else
  Ev n l i (IntKind.i64.wrap (k+1))) else
  some (.inl (l,(i,())))
def HN (n:Nat) (y:C.Ds Ty (Af EL)):Option (YT Ty L9):=Ev n y.1 y.2.1 y.2.2.1
def Zfv (n:Nat):St Ty→Tr (Lf Ty):=Bc EL 0 L9 (HN n)
def Hf:Nat→(List A1)→Int→Option (Unit ⊕ ((Int×Unit)))
 | 0,_,_=>none
 | n+1,l,i =>
  bif decide (i<(↑l.length:Int)) then((Ev n l i 0).bind fun v0 =>
  Sum.elim (fun v1=>Hf n v1.fst (IntKind.i64.wrap (v1.snd.fst+1))) (fun v1=>some (.inr (v1.fst,()))) (v0)) else
  some (.inl ())
def HO (n:Nat) (y:C.Ds Ty (Af EM)):Option (YT Ty LA):=Hf n y.1 y.2.1
def Zfw (n:Nat):St Ty→Tr (Lf Ty):=Bc EM 0 LA (HO n)
def O8 (n:Nat) (l:List A1):Option ((Int×Unit)) :=
 bif decide ((↑l.length:Int)>40) then(some (3,())) else
 (He n l 0).bind fun v0 =>
 Sum.elim (fun v1=>(Hf n v1.fst 0).bind fun v2 =>
 Sum.elim (fun v3=>some (0,())) (fun v3=>some (v3.fst,())) (v2)) (fun v1=>some (v1.fst,())) (v0)
def Ww (n:Nat) (y:C.Ds Ty (Af LB)):Option (YT Ty PJ):=O8 n y.1
def Zhw (n:Nat):AA Ty:=El (AB LB 0 PJ (Ww n))
def Zcs (n:Nat):List (Nat×AA Ty):=[(201,Zhs n)]
theorem IZ (n:Nat):Ap Tryz.prog (Zcs n):=⟨Zp n,trivial⟩
def ZgA (n:Nat):A0 Ty:=[]
theorem Zs (n:Nat) (x:C.Ds Ty (Af EJ)):(Ay Tryz.prog 54 (Al Tryz.prog (Zcs n) []) (Ae (ZgA n)) (Am 4 Tryz.f141) (Av EJ x)).runK (A4 0 EJ L8 (HM n))=HM (n+1) x:=by kernel_rfl
theorem Zt (n:Nat):A5 true Tryz.prog 54 (Zfu n) (.loop (Am 4 Tryz.f141)):=A6 fun x y hy=>At (Fn:=HM) Aa Ab (fun n=>Ac Aa Ab (IZ n) Ai) (fun h=>by cases h) (fun h=>by cases h) (fun n=>(Ad (fn:=Tryz.f141) (L:=ZgA n) (ks:=[]) trivial (by kernel_rfl) (by kernel_rfl))) (by decide) (fun _=>rfl) Zs hy
def ZgB (n:Nat):A0 Ty:=[]
theorem Zu (n:Nat) (x:C.Ds Ty (Af EL)):(Ay Tryz.prog 54 (Al Tryz.prog (Zcs n) []) (Ae (ZgB n)) (Am 12 Tryz.f141) (Av EL x)).runK (A4 0 EL L9 (HN n))=HN (n+1) x:=by kernel_rfl
theorem Zv (n:Nat):A5 true Tryz.prog 54 (Zfv n) (.loop (Am 12 Tryz.f141)):=A6 fun x y hy=>At (Fn:=HN) Aa Ab (fun n=>Ac Aa Ab (IZ n) Ai) (fun h=>by cases h) (fun h=>by cases h) (fun n=>(Ad (fn:=Tryz.f141) (L:=ZgB n) (ks:=[]) trivial (by kernel_rfl) (by kernel_rfl))) (by decide) (fun _=>rfl) Zu hy
def ZgC (n:Nat):A0 Ty:=[(.loop 12,Zfv n)]
theorem Zw (n:Nat) (x:C.Ds Ty (Af EM)):(Ay Tryz.prog 54 (Al Tryz.prog (Zcs n) []) (Ae (ZgC n)) (Am 9 Tryz.f141) (Av EM x)).runK (A4 0 EM LA (HO n))=HO (n+1) x:=by kernel_rfl
theorem Zx (n:Nat):A5 true Tryz.prog 54 (Zfw n) (.loop (Am 9 Tryz.f141)):=A6 fun x y hy=>At (Fn:=HO) Aa Ab (fun n=>Ac Aa Ab (IZ n) Ai) (fun h=>by cases h) (fun h=>by cases h) (fun n=>(Ad (fn:=Tryz.f141) (L:=ZgC n) (ks:=[.loop 12]) ⟨Zv n,trivial⟩ (by kernel_rfl) (by kernel_rfl))) (by decide) (fun _=>rfl) Zw hy
def ZiF (n:Nat):A0 Ty:=[(.loop 4,Zfu n),(.loop 9,Zfw n)]
theorem Afk (n:Nat) (x:C.Ds Ty (Af LB)):(Ay Tryz.prog 54 (Al Tryz.prog (Zcs n) []) (Ae (ZiF n)) (Ao Tryz.f141) (Av LB x)).runK (Ar Tryz.prog Tryz.f141.results.toList 0 PJ)=Ww n x:=by kernel_rfl
theorem Zy (n:Nat):Au Tryz.prog 141 (Zhw n):=AX (As Tryz.func141 rfl rfl (by decide) rfl Aa Ab (Ac Aa Ab (IZ n) Ai) (Ad (fn:=Tryz.f141) (L:=ZiF n) (ks:=[.loop 4,.loop 9]) ⟨Zt n,⟨Zx n,trivial⟩⟩ (by kernel_rfl) (by kernel_rfl)) (Afk n))
def I8:List (Nat×C):=[(2,.u 51),(3,.u 65),(4,.u 51),(6,.s 3)]
def PK:List Wo:=[⟨.exit 0,[.u 51,.u 65,.u 51],[(2,.q 0),(3,.q 1),(4,.q 2)],[]⟩,⟨.ret,[.u 51,.u 65,.u 51],[(4,.q 2),(5,.s 3)],[]⟩]
def QZ:List (Nat×C):=[(0,.g 51),(1,.g 65)]
def Wx:List Wo:=[⟨.ret,[],[],[.g 51,.s 3]⟩]
def LC:Nat→An→A1→An→Int→Option ((An×A1×An×Unit×Unit×Unit×Unit) ⊕ ((An×A1×An×Unit×Int×Unit)))
 | 0,_,_,_,_=>none
 | n+1,s,c,x4,i =>
  bif decide (i<(↑s.cards.length:Int)) then((A3 s.cards i).bind fun v0 =>
  bif decide (v0.bus=c.bus) && (decide (v0.number=c.number) && (decide (v0.minute=c.minute) && (decide (v0.kind.n=c.kind.n) && (decide (v0.part=c.part) && (decide (v0.sg=c.sg) && true))))) then(some (.inr (s,(c,(s,((),(6,()))))))) else
  LC n s c x4 (IntKind.i64.wrap (i+1))) else
  some (.inl (s,(c,(x4,((),((),((),())))))))
def LD (n:Nat) (y:C.Ds Ty (Af I8)):Option (YT Ty PK):=LC n y.1 y.2.1 y.2.2.1 y.2.2.2.1
def Zhx (n:Nat):St Ty→Tr (Lf Ty):=Bc I8 3 PK (LD n)
def SG (n:Nat) (s:An) (c:A1):Option ((An×Int×Unit)) :=
 (LC n s c (An.mk [] [] [] [] (Ax.mk 0 [] [] 0 0 0) []) 0).bind fun v0 =>
 Sum.elim (fun v1=>(app [] v1.fst.cards).bind fun v2 =>
 (app v2 [v1.snd.fst]).bind fun v3 =>
 (O8 n v3).bind fun v4 =>
 bif v4.fst != 0 then(some (v1.fst,(v4.fst,()))) else
 some (An.mk v3 v1.fst.outs v1.fst.runs v1.fst.records v1.fst.week v1.fst.roster,(0,()))) (fun v1=>some (v1.snd.snd.fst,(v1.snd.snd.snd.snd.fst,()))) (v0)
def Ae7 (n:Nat) (y:C.Ds Ty (Af QZ)):Option (YT Ty Wx):=SG n y.1 y.2.1
def Zjr (n:Nat):AA Ty:=AB QZ 0 Wx (Ae7 n)
def Zir (n:Nat):List (Nat×AA Ty):=[(141,Zhw n)]
theorem Yw (n:Nat):Ap Tryz.prog (Zir n):=⟨Zy n,trivial⟩
def ZiG (n:Nat):A0 Ty:=[]
theorem Afl (n:Nat) (x:C.Ds Ty (Af I8)):(Ay Tryz.prog 40 (Al Tryz.prog (Zir n) []) (Ae (ZiG n)) (Am 2 Tryz.f85) (Av I8 x)).runK (A4 3 I8 PK (LD n))=LD (n+1) x:=by kernel_rfl
theorem Afm (n:Nat):A5 true Tryz.prog 40 (Zhx n) (.loop (Am 2 Tryz.f85)):=A6 fun x y hy=>At (Fn:=LD) Aa Ab (fun n=>Ac Aa Ab (Yw n) Ai) (fun h=>by cases h) (fun h=>by cases h) (fun n=>(Ad (fn:=Tryz.f85) (L:=ZiG n) (ks:=[]) trivial (by kernel_rfl) (by kernel_rfl))) (by decide) (fun _=>rfl) Afl hy
def Zkl (n:Nat):A0 Ty:=[(.loop 2,Zhx n)]
theorem AlC (n:Nat) (x:C.Ds Ty (Af QZ)):(Ay Tryz.prog 40 (Al Tryz.prog (Zir n) []) (Ae (Zkl n)) (Ao Tryz.f85) (Av QZ x)).runK (Ar Tryz.prog Tryz.f85.results.toList 0 Wx)=Ae7 n x:=by kernel_rfl
theorem Afn (n:Nat):Au Tryz.prog 85 (Zjr n):=As Tryz.func85 rfl rfl (by decide) rfl Aa Ab (Ac Aa Ab (Yw n) Ai) (Ad (fn:=Tryz.f85) (L:=Zkl n) (ks:=[.loop 2]) ⟨Afm n,trivial⟩ (by kernel_rfl) (by kernel_rfl)) (AlC n)
def EN:List (Nat×C):=[(0,.l 45),(3,.s 3)]
def LF:List Wo:=[⟨.exit 0,[],[(0,.l 45)],[]⟩,⟨.ret,[],[(2,.s 3)],[]⟩]
def EO:List (Nat×C):=[(0,.l 45),(4,.s 3),(5,.s 3)]
def LG:List Wo:=[⟨.exit 4,[],[(0,.l 45),(4,.s 3)],[]⟩,⟨.ret,[],[(2,.s 3)],[]⟩]
def EP:List (Nat×C):=[(0,.l 45),(4,.s 3)]
def LH:List Wo:=[⟨.exit 2,[],[],[]⟩,⟨.ret,[],[(2,.s 3)],[]⟩]
def LJ:List (Nat×C):=[(0,.l 45)]
def PL:List Wo:=[⟨.ret,[],[],[.s 3]⟩]
def Hg:Nat→(List (List Ag))→Int→Option ((List (List Ag)×Unit) ⊕ ((Int×Unit)))
 | 0,_,_=>none
 | n+1,lists,i =>
  bif decide (i<(↑lists.length:Int)) then((A3 lists i).bind fun v0 =>
  bif decide ((↑v0.length:Int)>60) then(some (.inr (3,()))) else
  Hg n lists (IntKind.i64.wrap (i+1))) else
  some (.inl (lists,()))
def HP (n:Nat) (y:C.Ds Ty (Af EN)):Option (YT Ty LF):=Hg n y.1 y.2.1
def Zfx (n:Nat):St Ty→Tr (Lf Ty):=Bc EN 0 LF (HP n)
def Hh:Nat→(List (List Ag))→Int→Int→Option ((List (List Ag)×Int×Unit) ⊕ ((Int×Unit)))
 | 0,_,_,_=>none
 | n+1,lists,i,k =>
  (A3 lists i).bind fun v0 =>
  bif decide (k<(↑v0.length:Int)) then((A3 lists i).bind fun v1 =>
  (A3 v1 k).bind fun v2 =>
  (O5 n v2).bind fun v3 =>
  bif !v3.fst then(some (.inr (1,()))) else
  Hh n lists i (IntKind.i64.wrap (k+1))) else
  some (.inl (lists,(i,())))
def HQ (n:Nat) (y:C.Ds Ty (Af EO)):Option (YT Ty LG):=Hh n y.1 y.2.1 y.2.2.1
def Zfy (n:Nat):St Ty→Tr (Lf Ty):=Bc EO 0 LG (HQ n)
def Hi:Nat→(List (List Ag))→Int→Option (Unit ⊕ ((Int×Unit)))
 | 0,_,_=>none
 | n+1,lists,i =>
  bif decide (i<(↑lists.length:Int)) then((Hh n lists i 0).bind fun v0 =>
  Sum.elim (fun v1=>Hi n v1.fst (IntKind.i64.wrap (v1.snd.fst+1))) (fun v1=>some (.inr (v1.fst,()))) (v0)) else
  some (.inl ())
def HR (n:Nat) (y:C.Ds Ty (Af EP)):Option (YT Ty LH):=Hi n y.1 y.2.1
def Zfz (n:Nat):St Ty→Tr (Lf Ty):=Bc EP 0 LH (HR n)
def O9 (n:Nat) (lists:List (List Ag)):Option ((Int×Unit)) :=
 bif decide ((↑lists.length:Int)>6) then(some (3,())) else
 (Hg n lists 0).bind fun v0 =>
 Sum.elim (fun v1=>(Hi n v1.fst 0).bind fun v2 =>
 Sum.elim (fun v3=>some (0,())) (fun v3=>some (v3.fst,())) (v2)) (fun v1=>some (v1.fst,())) (v0)
def Wy (n:Nat) (y:C.Ds Ty (Af LJ)):Option (YT Ty PL):=O9 n y.1
def Zhy (n:Nat):AA Ty:=El (AB LJ 0 PL (Wy n))
def Zct (n:Nat):List (Nat×AA Ty):=[(202,Zht n)]
theorem Ja (n:Nat):Ap Tryz.prog (Zct n):=⟨Zq n,trivial⟩
def ZgD (n:Nat):A0 Ty:=[]
theorem Zz (n:Nat) (x:C.Ds Ty (Af EN)):(Ay Tryz.prog 45 (Al Tryz.prog (Zct n) []) (Ae (ZgD n)) (Am 4 Tryz.f142) (Av EN x)).runK (A4 0 EN LF (HP n))=HP (n+1) x:=by kernel_rfl
theorem Z0 (n:Nat):A5 true Tryz.prog 45 (Zfx n) (.loop (Am 4 Tryz.f142)):=A6 fun x y hy=>At (Fn:=HP) Aa Ab (fun n=>Ac Aa Ab (Ja n) Ai) (fun h=>by cases h) (fun h=>by cases h) (fun n=>(Ad (fn:=Tryz.f142) (L:=ZgD n) (ks:=[]) trivial (by kernel_rfl) (by kernel_rfl))) (by decide) (fun _=>rfl) Zz hy
def ZgE (n:Nat):A0 Ty:=[]
theorem Z1 (n:Nat) (x:C.Ds Ty (Af EO)):(Ay Tryz.prog 45 (Al Tryz.prog (Zct n) []) (Ae (ZgE n)) (Am 12 Tryz.f142) (Av EO x)).runK (A4 0 EO LG (HQ n))=HQ (n+1) x:=by kernel_rfl
theorem Z2 (n:Nat):A5 true Tryz.prog 45 (Zfy n) (.loop (Am 12 Tryz.f142)):=A6 fun x y hy=>At (Fn:=HQ) Aa Ab (fun n=>Ac Aa Ab (Ja n) Ai) (fun h=>by cases h) (fun h=>by cases h) (fun n=>(Ad (fn:=Tryz.f142) (L:=ZgE n) (ks:=[]) trivial (by kernel_rfl) (by kernel_rfl))) (by decide) (fun _=>rfl) Z1 hy
def ZgF (n:Nat):A0 Ty:=[(.loop 12,Zfy n)]
theorem Z3 (n:Nat) (x:C.Ds Ty (Af EP)):(Ay Tryz.prog 45 (Al Tryz.prog (Zct n) []) (Ae (ZgF n)) (Am 9 Tryz.f142) (Av EP x)).runK (A4 0 EP LH (HR n))=HR (n+1) x:=by kernel_rfl
theorem Z4 (n:Nat):A5 true Tryz.prog 45 (Zfz n) (.loop (Am 9 Tryz.f142)):=A6 fun x y hy=>At (Fn:=HR) Aa Ab (fun n=>Ac Aa Ab (Ja n) Ai) (fun h=>by cases h) (fun h=>by cases h) (fun n=>(Ad (fn:=Tryz.f142) (L:=ZgF n) (ks:=[.loop 12]) ⟨Z2 n,trivial⟩ (by kernel_rfl) (by kernel_rfl))) (by decide) (fun _=>rfl) Z3 hy
def ZiH (n:Nat):A0 Ty:=[(.loop 4,Zfx n),(.loop 9,Zfz n)]
theorem Afo (n:Nat) (x:C.Ds Ty (Af LJ)):(Ay Tryz.prog 45 (Al Tryz.prog (Zct n) []) (Ae (ZiH n)) (Ao Tryz.f142) (Av LJ x)).runK (Ar Tryz.prog Tryz.f142.results.toList 0 PL)=Wy n x:=by kernel_rfl
theorem Z5 (n:Nat):Au Tryz.prog 142 (Zhy n):=AX (As Tryz.func142 rfl rfl (by decide) rfl Aa Ab (Ac Aa Ab (Ja n) Ai) (Ad (fn:=Tryz.f142) (L:=ZiH n) (ks:=[.loop 4,.loop 9]) ⟨Z0 n,⟨Z4 n,trivial⟩⟩ (by kernel_rfl) (by kernel_rfl)) (Afo n))
def Gj:List (Nat×C):=[(2,.u 51),(3,.u 90),(4,.u 51),(6,.s 3)]
def MS:List Wo:=[⟨.exit 0,[.u 51,.u 90,.u 51],[(2,.q 0),(3,.q 1),(4,.q 2)],[]⟩,⟨.ret,[.u 51,.u 90,.u 51],[(4,.q 2),(5,.s 3)],[]⟩]
def No:List (Nat×C):=[(0,.g 51),(1,.g 90)]
def RB:List Wo:=[⟨.ret,[],[],[.g 51,.s 3]⟩]
def I9:Nat→An→Ag→An→Int→Option ((An×Ag×An×Unit×Unit×Unit×Unit) ⊕ ((An×Ag×An×Unit×Int×Unit)))
 | 0,_,_,_,_=>none
 | n+1,s,r,x4,i =>
  bif decide (i<(↑s.records.length:Int)) then((A3 s.records i).bind fun v0 =>
  bif decide (v0.machine=r.machine) && (decide (v0.seq=r.seq) && (decide (v0.minute=r.minute) && (decide (v0.kind.n=r.kind.n) && (decide (v0.a=r.a) && (decide (v0.b=r.b) && true))))) then(some (.inr (s,(r,(s,((),(6,()))))))) else
  I9 n s r x4 (IntKind.i64.wrap (i+1))) else
  some (.inl (s,(r,(x4,((),((),((),())))))))
def Jb (n:Nat) (y:C.Ds Ty (Af Gj)):Option (YT Ty MS):=I9 n y.1 y.2.1 y.2.2.1 y.2.2.2.1
def Zgb (n:Nat):St Ty→Tr (Lf Ty):=Bc Gj 3 MS (Jb n)
def N6 (n:Nat) (s:An) (r:Ag):Option ((An×Int×Unit)) :=
 (I9 n s r (An.mk [] [] [] [] (Ax.mk 0 [] [] 0 0 0) []) 0).bind fun v0 =>
 Sum.elim (fun v1=>(O9 n [v1.fst.records,[v1.snd.fst]]).bind fun v2 =>
 bif v2.fst != 0 then(some (v1.fst,(v2.fst,()))) else
 (app [] v1.fst.records).bind fun v3 =>
 (app v3 [v1.snd.fst]).bind fun v4 =>
 (EI n v4).bind fun v5 =>
 bif v5.fst then(some (v1.fst,(6,()))) else
 bif decide ((↑v4.length:Int)>60) then(some (v1.fst,(3,()))) else
 some (An.mk v1.fst.cards v1.fst.outs v1.fst.runs v4 v1.fst.week v1.fst.roster,(0,()))) (fun v1=>some (v1.snd.snd.fst,(v1.snd.snd.snd.snd.fst,()))) (v0)
def Yx (n:Nat) (y:C.Ds Ty (Af No)):Option (YT Ty RB):=N6 n y.1 y.2.1
def Zia (n:Nat):AA Ty:=AB No 0 RB (Yx n)
def Zgs (n:Nat):List (Nat×AA Ty):=[(142,Zhy n),(143,Zde n)]
theorem U4 (n:Nat):Ap Tryz.prog (Zgs n):=⟨Z5 n,⟨PF n,trivial⟩⟩
def Zhz (n:Nat):A0 Ty:=[]
theorem AbB (n:Nat) (x:C.Ds Ty (Af Gj)):(Ay Tryz.prog 51 (Al Tryz.prog (Zgs n) []) (Ae (Zhz n)) (Am 2 Tryz.f86) (Av Gj x)).runK (A4 3 Gj MS (Jb n))=Jb (n+1) x:=by kernel_rfl
theorem AbC (n:Nat):A5 true Tryz.prog 51 (Zgb n) (.loop (Am 2 Tryz.f86)):=A6 fun x y hy=>At (Fn:=Jb) Aa Ab (fun n=>Ac Aa Ab (U4 n) Ai) (fun h=>by cases h) (fun h=>by cases h) (fun n=>(Ad (fn:=Tryz.f86) (L:=Zhz n) (ks:=[]) trivial (by kernel_rfl) (by kernel_rfl))) (by decide) (fun _=>rfl) AbB hy
def Zjs (n:Nat):A0 Ty:=[(.loop 2,Zgb n)]
theorem Aip (n:Nat) (x:C.Ds Ty (Af No)):(Ay Tryz.prog 51 (Al Tryz.prog (Zgs n) []) (Ae (Zjs n)) (Ao Tryz.f86) (Av No x)).runK (Ar Tryz.prog Tryz.f86.results.toList 0 RB)=Yx n x:=by kernel_rfl
theorem AbD (n:Nat):Au Tryz.prog 86 (Zia n):=As Tryz.func86 rfl rfl (by decide) rfl Aa Ab (Ac Aa Ab (U4 n) Ai) (Ad (fn:=Tryz.f86) (L:=Zjs n) (ks:=[.loop 2]) ⟨AbC n,trivial⟩ (by kernel_rfl) (by kernel_rfl)) (Aip n)
def Hj:List (Nat×C):=[(5,.l 9),(6,.s 3),(7,.o 3),(8,.s 3)]
def NO:List Wo:=[⟨.exit 0,[],[(5,.l 9),(7,.o 3)],[]⟩,⟨.ret,[],[(2,.s 9),(3,.l 3),(4,.s 4)],[]⟩]
def OA:List (Nat×C):=[(0,.s 9)]
def Ui:List Wo:=[⟨.ret,[],[],[.s 9,.l 3,.s 4]⟩]
def JN:Nat→(List ByteArray)→Int→(List Int)→Int→Option ((List ByteArray×List Int×Unit) ⊕ ((ByteArray×List Int×Bool×Unit)))
 | 0,_,_,_,_=>none
 | n+1,parts,n_,l,i =>
  bif decide (i≤n_) then((A3 parts i).bind fun v0 =>
  (Uc n v0).bind fun v1 =>
  bif !v1.snd.fst then(some (.inr (B [],([],(false,()))))) else
  (app l [v1.fst]).bind fun v2 =>
  JN n parts n_ v2 (IntKind.i64.wrap (i+1))) else
  some (.inl (parts,(l,())))
def Ka (n:Nat) (y:C.Ds Ty (Af Hj)):Option (YT Ty NO):=JN n y.1 y.2.1 y.2.2.1 y.2.2.2.1
def ZgG (n:Nat):St Ty→Tr (Lf Ty):=Bc Hj 0 NO (Ka n)
def MT (n:Nat) (line:ByteArray):Option ((ByteArray×List Int×Bool×Unit)) :=
 (Ua n line).bind fun v0 =>
 (A3 v0.fst 0).bind fun v1 =>
 (Xm n v1).bind fun v2 =>
 bif !decide (v2.fst=0) then(bif (↑v0.fst.length:Int) != IntKind.i64.wrap (v2.fst+1) then(some (B [],([],(false,())))) else
 (JN n v0.fst v2.fst [] 1).bind fun v3 =>
 Sum.elim (fun v4=>(A3 v4.fst 0).bind fun v5 =>
 some (v5,(v4.snd.fst,(true,())))) (fun v4=>some (v4.fst,(v4.snd.fst,(v4.snd.snd.fst,())))) (v3)) else
 some (B [],([],(false,())))
def AbE (n:Nat) (y:C.Ds Ty (Af OA)):Option (YT Ty Ui):=MT n y.1
def Zdg (n:Nat):AA Ty:=AB OA 0 Ui (AbE n)
def Zh0 (n:Nat):List (Nat×AA Ty):=[(63,Zi5 n),(64,Zjm n),(65,Zi6 n)]
theorem Wz (n:Nat):Ap Tryz.prog (Zh0 n):=⟨Adi n,⟨Afd n,⟨Adl n,trivial⟩⟩⟩
def Zib (n:Nat):A0 Ty:=[]
theorem Adw (n:Nat) (x:C.Ds Ty (Af Hj)):(Ay Tryz.prog 49 (Al Tryz.prog (Zh0 n) []) (Ae (Zib n)) (Am 7 Tryz.f28) (Av Hj x)).runK (A4 0 Hj NO (Ka n))=Ka (n+1) x:=by kernel_rfl
theorem Adx (n:Nat):A5 true Tryz.prog 49 (ZgG n) (.loop (Am 7 Tryz.f28)):=A6 fun x y hy=>At (Fn:=Ka) Aa Ab (fun n=>Ac Aa Ab (Wz n) Ai) (fun h=>by cases h) (fun h=>by cases h) (fun n=>(Ad (fn:=Tryz.f28) (L:=Zib n) (ks:=[]) trivial (by kernel_rfl) (by kernel_rfl))) (by decide) (fun _=>rfl) Adw hy
def ZjI (n:Nat):A0 Ty:=[(.loop 7,ZgG n)]
theorem Ajf (n:Nat) (x:C.Ds Ty (Af OA)):(Ay Tryz.prog 49 (Al Tryz.prog (Zh0 n) []) (Ae (ZjI n)) (Ao Tryz.f28) (Av OA x)).runK (Ar Tryz.prog Tryz.f28.results.toList 0 Ui)=AbE n x:=by kernel_rfl
theorem MU (n:Nat):Au Tryz.prog 28 (Zdg n):=As Tryz.func28 rfl rfl (by decide) rfl Aa Ab (Ac Aa Ab (Wz n) Ai) (Ad (fn:=Tryz.f28) (L:=ZjI n) (ks:=[.loop 7]) ⟨Adx n,trivial⟩ (by kernel_rfl) (by kernel_rfl)) (Ajf n)
def Kb:List (Nat×C):=[(0,.g 65)]
def NP:List Wo:=[⟨.ret,[],[],[.s 4]⟩]
def RC (n:Nat) (c:A1):Option ((Bool×Unit)) :=
 some (decide (c.kind.n<2),())
def U5 (n:Nat) (y:C.Ds Ty (Af Kb)):Option (YT Ty NP):=RC n y.1
def ZgH (n:Nat):AA Ty:=AB Kb 0 NP (U5 n)
def Zic (n:Nat):List (Nat×AA Ty):=[]
theorem AbF (n:Nat):Ap Tryz.prog (Zic n):=trivial
def Zid (n:Nat):A0 Ty:=[]
theorem Ady (n:Nat) (x:C.Ds Ty (Af Kb)):(Ay Tryz.prog 6 (Al Tryz.prog (Zic n) []) (Ae (Zid n)) (Ao Tryz.f123) (Av Kb x)).runK (Ar Tryz.prog Tryz.f123.results.toList 0 NP)=U5 n x:=by kernel_rfl
theorem XI (n:Nat):Au Tryz.prog 123 (ZgH n):=As Tryz.func123 rfl rfl (by decide) rfl Aa Ab (Ac Aa Ab (AbF n) Ai) (Ad (fn:=Tryz.f123) (L:=Zid n) (ks:=[]) trivial (by kernel_rfl) (by kernel_rfl)) (Ady n)
def EQ:List (Nat×C):=[(0,.l 65),(1,.s 3),(2,.s 3),(7,.o 3),(8,.s 3),(9,.s 4),(10,.s 3)]
def LK:List Wo:=[⟨.exit 2,[],[(0,.l 65),(1,.s 3),(2,.s 3),(7,.o 3),(8,.s 3),(9,.s 4)],[]⟩]
def ER:List (Nat×C):=[(0,.l 65),(1,.s 3),(2,.s 3),(7,.o 3),(8,.s 3)]
def LL:List Wo:=[⟨.exit 0,[],[(7,.o 3)],[]⟩]
def LM:List (Nat×C):=[(0,.l 65),(1,.s 3),(2,.s 3)]
def PM:List Wo:=[⟨.ret,[],[],[.l 3]⟩]
def BK:Nat→(List A1)→Int→Int→(List Int)→Int→Bool→Int→Option ((List A1×Int×Int×List Int×Int×Bool×Unit))
 | 0,_,_,_,_,_,_,_=>none
 | n+1,l,bus,minute,out,n_,is,i =>
  bif decide (i<(↑l.length:Int)) then(bif !is then((A3 l i).bind fun v0 =>
  bif decide (v0.number=n_) then((A3 l i).bind fun v1 =>
  bif decide (v1.bus=bus) then((A3 l i).bind fun v2 =>
  (RC n v2).bind fun v3 =>
  bif v3.fst then((A3 l i).bind fun v4 =>
  (QV n l v4 minute).bind fun v5 =>
  BK n l bus minute out n_ v5.fst (IntKind.i64.wrap (i+1))) else
  BK n l bus minute out n_ false (IntKind.i64.wrap (i+1))) else
  BK n l bus minute out n_ false (IntKind.i64.wrap (i+1))) else
  BK n l bus minute out n_ false (IntKind.i64.wrap (i+1))) else
  BK n l bus minute out n_ true (IntKind.i64.wrap (i+1))) else
  some (l,(bus,(minute,(out,(n_,(is,()))))))
def HS (n:Nat) (y:C.Ds Ty (Af EQ)):Option (YT Ty LK):=BK n y.1 y.2.1 y.2.2.1 y.2.2.2.1 y.2.2.2.2.1 y.2.2.2.2.2.1 y.2.2.2.2.2.2.1
def Zf0 (n:Nat):St Ty→Tr (Lf Ty):=Bc EQ 0 LK (HS n)
def Ew:Nat→(List A1)→Int→Int→(List Int)→Int→Option ((List Int×Unit))
 | 0,_,_,_,_,_=>none
 | n+1,l,bus,minute,out,n_ =>
  bif decide (n_≤999) then((BK n l bus minute out n_ false 0).bind fun v0 =>
  bif v0.snd.snd.snd.snd.snd.fst then((app v0.snd.snd.snd.fst [v0.snd.snd.snd.snd.fst]).bind fun v1 =>
  Ew n v0.fst v0.snd.fst v0.snd.snd.fst v1 (IntKind.i64.wrap (v0.snd.snd.snd.snd.fst+1))) else
  Ew n v0.fst v0.snd.fst v0.snd.snd.fst v0.snd.snd.snd.fst (IntKind.i64.wrap (v0.snd.snd.snd.snd.fst+1))) else
  some (out,())
def HT (n:Nat) (y:C.Ds Ty (Af ER)):Option (YT Ty LL):=Ew n y.1 y.2.1 y.2.2.1 y.2.2.2.1 y.2.2.2.2.1
def Zf1 (n:Nat):St Ty→Tr (Lf Ty):=Bc ER 0 LL (HT n)
def OB (n:Nat) (l:List A1) (bus:Int) (minute:Int):Option ((List Int×Unit)) :=
 (Ew n l bus minute [] 1).bind fun v0 =>
 some (v0.fst,())
def W3 (n:Nat) (y:C.Ds Ty (Af LM)):Option (YT Ty PM):=OB n y.1 y.2.1 y.2.2.1
def Zh1 (n:Nat):AA Ty:=AB LM 0 PM (W3 n)
def Zdh (n:Nat):List (Nat×AA Ty):=[(123,ZgH n),(124,ZhW n)]
theorem MV (n:Nat):Ap Tryz.prog (Zdh n):=⟨XI n,⟨Ab7 n,trivial⟩⟩
def ZgI (n:Nat):A0 Ty:=[]
theorem Z6 (n:Nat) (x:C.Ds Ty (Af EQ)):(Ay Tryz.prog 62 (Al Tryz.prog (Zdh n) []) (Ae (ZgI n)) (Am 7 Tryz.f77) (Av EQ x)).runK (A4 0 EQ LK (HS n))=HS (n+1) x:=by kernel_rfl
theorem Z7 (n:Nat):A5 true Tryz.prog 62 (Zf0 n) (.loop (Am 7 Tryz.f77)):=A6 fun x y hy=>At (Fn:=HS) Aa Ab (fun n=>Ac Aa Ab (MV n) Ai) (fun h=>by cases h) (fun h=>by cases h) (fun n=>(Ad (fn:=Tryz.f77) (L:=ZgI n) (ks:=[]) trivial (by kernel_rfl) (by kernel_rfl))) (by decide) (fun _=>rfl) Z6 hy
def ZgJ (n:Nat):A0 Ty:=[(.loop 7,Zf0 n)]
theorem Z8 (n:Nat) (x:C.Ds Ty (Af ER)):(Ay Tryz.prog 62 (Al Tryz.prog (Zdh n) []) (Ae (ZgJ n)) (Am 3 Tryz.f77) (Av ER x)).runK (A4 0 ER LL (HT n))=HT (n+1) x:=by kernel_rfl
theorem Z9 (n:Nat):A5 true Tryz.prog 62 (Zf1 n) (.loop (Am 3 Tryz.f77)):=A6 fun x y hy=>At (Fn:=HT) Aa Ab (fun n=>Ac Aa Ab (MV n) Ai) (fun h=>by cases h) (fun h=>by cases h) (fun n=>(Ad (fn:=Tryz.f77) (L:=ZgJ n) (ks:=[.loop 7]) ⟨Z7 n,trivial⟩ (by kernel_rfl) (by kernel_rfl))) (by decide) (fun _=>rfl) Z8 hy
def ZiI (n:Nat):A0 Ty:=[(.loop 3,Zf1 n)]
theorem Afp (n:Nat) (x:C.Ds Ty (Af LM)):(Ay Tryz.prog 62 (Al Tryz.prog (Zdh n) []) (Ae (ZiI n)) (Ao Tryz.f77) (Av LM x)).runK (Ar Tryz.prog Tryz.f77.results.toList 0 PM)=W3 n x:=by kernel_rfl
theorem ZA (n:Nat):Au Tryz.prog 77 (Zh1 n):=As Tryz.func77 rfl rfl (by decide) rfl Aa Ab (Ac Aa Ab (MV n) Ai) (Ad (fn:=Tryz.f77) (L:=ZiI n) (ks:=[.loop 3]) ⟨Z9 n,trivial⟩ (by kernel_rfl) (by kernel_rfl)) (Afp n)
def DN:List (Nat×C):=[(1,.u 49),(3,.o 3),(4,.s 3)]
def Ku:List Wo:=[⟨.exit 0,[.u 49],[(3,.o 3)],[]⟩]
def Kc:List (Nat×C):=[(0,.g 49)]
def NQ:List Wo:=[⟨.ret,[],[],[.l 3]⟩]
def Gk:Nat→Ax→(List Int)→Int→Option ((Ax×List Int×Unit))
 | 0,_,_,_=>none
 | n+1,w,out,i =>
  bif decide (i<(↑w.duties.length:Int)) then((A3 w.duties i).bind fun v0 =>
  (app out [v0.off.hi]).bind fun v1 =>
  Gk n w v1 (IntKind.i64.wrap (i+1))) else
  some (w,(out,()))
def GM (n:Nat) (y:C.Ds Ty (Af DN)):Option (YT Ty Ku):=Gk n y.1 y.2.1 y.2.2.1
def ZeQ (n:Nat):St Ty→Tr (Lf Ty):=Bc DN 1 Ku (GM n)
def RD (n:Nat) (w:Ax):Option ((List Int×Unit)) :=
 (Gk n w [] 0).bind fun v0 =>
 some (v0.snd.fst,())
def U6 (n:Nat) (y:C.Ds Ty (Af Kc)):Option (YT Ty NQ):=RD n y.1
def ZgK (n:Nat):AA Ty:=AB Kc 0 NQ (U6 n)
def ZeR (n:Nat):List (Nat×AA Ty):=[]
theorem Ra (n:Nat):Ap Tryz.prog (ZeR n):=trivial
def Zgc (n:Nat):A0 Ty:=[]
theorem XJ (n:Nat) (x:C.Ds Ty (Af DN)):(Ay Tryz.prog 23 (Al Tryz.prog (ZeR n) []) (Ae (Zgc n)) (Am 3 Tryz.f205) (Av DN x)).runK (A4 1 DN Ku (GM n))=GM (n+1) x:=by kernel_rfl
theorem XK (n:Nat):A5 true Tryz.prog 23 (ZeQ n) (.loop (Am 3 Tryz.f205)):=A6 fun x y hy=>At (Fn:=GM) Aa Ab (fun n=>Ac Aa Ab (Ra n) Ai) (fun h=>by cases h) (fun h=>by cases h) (fun n=>(Ad (fn:=Tryz.f205) (L:=Zgc n) (ks:=[]) trivial (by kernel_rfl) (by kernel_rfl))) (by decide) (fun _=>rfl) XJ hy
def Zie (n:Nat):A0 Ty:=[(.loop 3,ZeQ n)]
theorem Adz (n:Nat) (x:C.Ds Ty (Af Kc)):(Ay Tryz.prog 23 (Al Tryz.prog (ZeR n) []) (Ae (Zie n)) (Ao Tryz.f205) (Av Kc x)).runK (Ar Tryz.prog Tryz.f205.results.toList 0 NQ)=U6 n x:=by kernel_rfl
theorem XL (n:Nat):Au Tryz.prog 205 (ZgK n):=As Tryz.func205 rfl rfl (by decide) rfl Aa Ab (Ac Aa Ab (Ra n) Ai) (Ad (fn:=Tryz.f205) (L:=Zie n) (ks:=[.loop 3]) ⟨XK n,trivial⟩ (by kernel_rfl) (by kernel_rfl)) (Adz n)
def ET:List (Nat×C):=[(1,.l 3),(2,.s 3),(3,.s 3),(4,.u 49),(9,.s 3)]
def LN:List Wo:=[⟨.exit 0,[.u 49],[],[]⟩,⟨.ret,[.u 49],[(8,.s 3)],[]⟩]
def LO:List (Nat×C):=[(0,.g 49),(1,.l 3),(2,.s 3),(3,.s 3)]
def PN:List Wo:=[⟨.ret,[],[],[.s 3]⟩]
def Ey:Nat→(List Int)→Int→Int→Ax→Int→Option ((Ax×Unit) ⊕ ((Ax×Int×Unit)))
 | 0,_,_,_,_,_=>none
 | n+1,roster,driver,day,w,i =>
  bif decide (i<(↑w.duties.length:Int)) then((A3 roster i).bind fun v0 =>
  bif decide (v0=driver) then((A3 w.duties i).bind fun v1 =>
  bif decide (v1.day=day) then(some (.inr (w,(i,())))) else
  Ey n roster driver day w (IntKind.i64.wrap (i+1))) else
  Ey n roster driver day w (IntKind.i64.wrap (i+1))) else
  some (.inl (w,()))
def HU (n:Nat) (y:C.Ds Ty (Af ET)):Option (YT Ty LN):=Ey n y.1 y.2.1 y.2.2.1 y.2.2.2.1 y.2.2.2.2.1
def Zf2 (n:Nat):St Ty→Tr (Lf Ty):=Bc ET 1 LN (HU n)
def C5 (n:Nat) (w:Ax) (roster:List Int) (driver:Int) (day:Int):Option ((Int×Unit)) :=
 (Ey n roster driver day w 0).bind fun v0 =>
 Sum.elim (fun v1=>some (-1,())) (fun v1=>some (v1.snd.fst,())) (v0)
def W5 (n:Nat) (y:C.Ds Ty (Af LO)):Option (YT Ty PN):=C5 n y.1 y.2.1 y.2.2.1 y.2.2.2.1
def Zc3 (n:Nat):AA Ty:=El (AB LO 0 PN (W5 n))
def ZfF (n:Nat):List (Nat×AA Ty):=[]
theorem SH (n:Nat):Ap Tryz.prog (ZfF n):=trivial
def ZgL (n:Nat):A0 Ty:=[]
theorem ZB (n:Nat) (x:C.Ds Ty (Af ET)):(Ay Tryz.prog 34 (Al Tryz.prog (ZfF n) []) (Ae (ZgL n)) (Am 2 Tryz.f316) (Av ET x)).runK (A4 1 ET LN (HU n))=HU (n+1) x:=by kernel_rfl
theorem ZC (n:Nat):A5 true Tryz.prog 34 (Zf2 n) (.loop (Am 2 Tryz.f316)):=A6 fun x y hy=>At (Fn:=HU) Aa Ab (fun n=>Ac Aa Ab (SH n) Ai) (fun h=>by cases h) (fun h=>by cases h) (fun n=>(Ad (fn:=Tryz.f316) (L:=ZgL n) (ks:=[]) trivial (by kernel_rfl) (by kernel_rfl))) (by decide) (fun _=>rfl) ZB hy
def ZiJ (n:Nat):A0 Ty:=[(.loop 2,Zf2 n)]
theorem Afq (n:Nat) (x:C.Ds Ty (Af LO)):(Ay Tryz.prog 34 (Al Tryz.prog (ZfF n) []) (Ae (ZiJ n)) (Ao Tryz.f316) (Av LO x)).runK (Ar Tryz.prog Tryz.f316.results.toList 0 PN)=W5 n x:=by kernel_rfl
theorem Kv (n:Nat):Au Tryz.prog 316 (Zc3 n):=AX (As Tryz.func316 rfl rfl (by decide) rfl Aa Ab (Ac Aa Ab (SH n) Ai) (Ad (fn:=Tryz.f316) (L:=ZiJ n) (ks:=[.loop 2]) ⟨ZC n,trivial⟩ (by kernel_rfl) (by kernel_rfl)) (Afq n))
def Hk:List (Nat×C):=[(0,.l 3),(1,.s 3),(5,.s 3)]
def NR:List Wo:=[⟨.exit 0,[],[],[]⟩,⟨.ret,[],[(4,.s 4)],[]⟩]
def OC:List (Nat×C):=[(0,.l 3),(1,.s 3)]
def Uj:List Wo:=[⟨.ret,[],[],[.s 4]⟩]
def Np:Nat→(List Int)→Int→Int→Option (Unit ⊕ ((Bool×Unit)))
 | 0,_,_,_=>none
 | n+1,l,n_,i =>
  bif decide (i<(↑l.length:Int)) then((A3 l i).bind fun v0 =>
  bif decide (v0=n_) then(some (.inr (true,()))) else
  Np n l n_ (IntKind.i64.wrap (i+1))) else
  some (.inl ())
def Kd (n:Nat) (y:C.Ds Ty (Af Hk)):Option (YT Ty NR):=Np n y.1 y.2.1 y.2.2.1
def ZgM (n:Nat):St Ty→Tr (Lf Ty):=Bc Hk 0 NR (Kd n)
def MW (n:Nat) (l:List Int) (n_:Int):Option ((Bool×Unit)) :=
 (Np n l n_ 0).bind fun v0 =>
 Sum.elim (fun v1=>some (false,())) (fun v1=>some (v1.fst,())) (v0)
def AbG (n:Nat) (y:C.Ds Ty (Af OC)):Option (YT Ty Uj):=MW n y.1 y.2.1
def ZiK (n:Nat):AA Ty:=El (AB OC 0 Uj (AbG n))
def Zh2 (n:Nat):List (Nat×AA Ty):=[]
theorem W6 (n:Nat):Ap Tryz.prog (Zh2 n):=trivial
def Zif (n:Nat):A0 Ty:=[]
theorem Ad0 (n:Nat) (x:C.Ds Ty (Af Hk)):(Ay Tryz.prog 18 (Al Tryz.prog (Zh2 n) []) (Ae (Zif n)) (Am 2 Tryz.f317) (Av Hk x)).runK (A4 0 Hk NR (Kd n))=Kd (n+1) x:=by kernel_rfl
theorem Ad1 (n:Nat):A5 true Tryz.prog 18 (ZgM n) (.loop (Am 2 Tryz.f317)):=A6 fun x y hy=>At (Fn:=Kd) Aa Ab (fun n=>Ac Aa Ab (W6 n) Ai) (fun h=>by cases h) (fun h=>by cases h) (fun n=>(Ad (fn:=Tryz.f317) (L:=Zif n) (ks:=[]) trivial (by kernel_rfl) (by kernel_rfl))) (by decide) (fun _=>rfl) Ad0 hy
def ZjJ (n:Nat):A0 Ty:=[(.loop 2,ZgM n)]
theorem Ajg (n:Nat) (x:C.Ds Ty (Af OC)):(Ay Tryz.prog 18 (Al Tryz.prog (Zh2 n) []) (Ae (ZjJ n)) (Ao Tryz.f317) (Av OC x)).runK (Ar Tryz.prog Tryz.f317.results.toList 0 Uj)=AbG n x:=by kernel_rfl
theorem Ad2 (n:Nat):Au Tryz.prog 317 (ZiK n):=AX (As Tryz.func317 rfl rfl (by decide) rfl Aa Ab (Ac Aa Ab (W6 n) Ai) (Ad (fn:=Tryz.f317) (L:=ZjJ n) (ks:=[.loop 2]) ⟨Ad1 n,trivial⟩ (by kernel_rfl) (by kernel_rfl)) (Ajg n))
def Gl:List (Nat×C):=[(1,.l 3),(2,.l 3),(3,.s 3),(5,.u 49),(11,.s 3)]
def MX:List Wo:=[⟨.exit 0,[.u 49],[(3,.s 3),(5,.q 0)],[]⟩,⟨.ret,[.u 49],[(10,.s 3)],[]⟩]
def Nq:List (Nat×C):=[(0,.g 49),(1,.l 3),(2,.l 3),(3,.s 3),(4,.s 3)]
def RE:List Wo:=[⟨.ret,[],[],[.s 3]⟩]
def Gm:Nat→(List Int)→(List Int)→Int→Ax→Int→Option ((Ax×Int×Unit×Unit) ⊕ ((Ax×Int×Unit)))
 | 0,_,_,_,_,_=>none
 | n+1,roster,truth,driver,w,d =>
  bif decide (d≥0) then((C5 n w roster driver d).bind fun v0 =>
  bif decide (v0.fst≥0) then((A3 truth v0.fst).bind fun v1 =>
  some (.inr (w,(IntKind.i64.wrap (IntKind.i64.wrap (1440*d)+v1),())))) else
  Gm n roster truth driver w (IntKind.i64.wrap (d-1))) else
  some (.inl (w,(driver,((),()))))
def Jc (n:Nat) (y:C.Ds Ty (Af Gl)):Option (YT Ty MX):=Gm n y.1 y.2.1 y.2.2.1 y.2.2.2.1 y.2.2.2.2.1
def Zgd (n:Nat):St Ty→Tr (Lf Ty):=Bc Gl 1 MX (Jc n)
def Rb (n:Nat) (w:Ax) (roster:List Int) (truth:List Int) (driver:Int) (day:Int):Option ((Int×Unit)) :=
 (Gm n roster truth driver w (IntKind.i64.wrap (day-1))).bind fun v0 =>
 Sum.elim (fun v1=>(A3 v1.fst.drivers v1.snd.fst).bind fun v2 =>
 some (v2.off,())) (fun v1=>some (v1.snd.fst,())) (v0)
def Yy (n:Nat) (y:C.Ds Ty (Af Nq)):Option (YT Ty RE):=Rb n y.1 y.2.1 y.2.2.1 y.2.2.2.1 y.2.2.2.2.1
def Zig (n:Nat):AA Ty:=El (AB Nq 0 RE (Yy n))
def Zgt (n:Nat):List (Nat×AA Ty):=[(316,Zc3 n)]
theorem U7 (n:Nat):Ap Tryz.prog (Zgt n):=⟨Kv n,trivial⟩
def Zh3 (n:Nat):A0 Ty:=[]
theorem AbH (n:Nat) (x:C.Ds Ty (Af Gl)):(Ay Tryz.prog 39 (Al Tryz.prog (Zgt n) []) (Ae (Zh3 n)) (Am 2 Tryz.f318) (Av Gl x)).runK (A4 1 Gl MX (Jc n))=Jc (n+1) x:=by kernel_rfl
theorem AbI (n:Nat):A5 true Tryz.prog 39 (Zgd n) (.loop (Am 2 Tryz.f318)):=A6 fun x y hy=>At (Fn:=Jc) Aa Ab (fun n=>Ac Aa Ab (U7 n) Ai) (fun h=>by cases h) (fun h=>by cases h) (fun n=>(Ad (fn:=Tryz.f318) (L:=Zh3 n) (ks:=[]) trivial (by kernel_rfl) (by kernel_rfl))) (by decide) (fun _=>rfl) AbH hy
def Zjt (n:Nat):A0 Ty:=[(.loop 2,Zgd n)]
theorem Aiq (n:Nat) (x:C.Ds Ty (Af Nq)):(Ay Tryz.prog 39 (Al Tryz.prog (Zgt n) []) (Ae (Zjt n)) (Ao Tryz.f318) (Av Nq x)).runK (Ar Tryz.prog Tryz.f318.results.toList 0 RE)=Yy n x:=by kernel_rfl
theorem AbJ (n:Nat):Au Tryz.prog 318 (Zig n):=AX (As Tryz.func318 rfl rfl (by decide) rfl Aa Ab (Ac Aa Ab (U7 n) Ai) (Ad (fn:=Tryz.f318) (L:=Zjt n) (ks:=[.loop 2]) ⟨AbI n,trivial⟩ (by kernel_rfl) (by kernel_rfl)) (Aiq n))
def EU:List (Nat×C):=[(1,.l 3),(2,.s 3),(3,.s 3),(4,.u 49),(9,.s 3)]
def LP:List Wo:=[⟨.exit 0,[.u 49],[(2,.s 3),(3,.s 3),(4,.q 0),(9,.s 3)],[]⟩]
def LQ:List (Nat×C):=[(0,.g 49),(1,.l 3),(2,.s 3),(3,.s 3)]
def PO:List Wo:=[⟨.ret,[],[],[.s 3]⟩]
def Ez:Nat→(List Int)→Int→Int→Ax→Int→Option ((Ax×Int×Int×Unit×Int×Unit))
 | 0,_,_,_,_,_=>none
 | n+1,roster,driver,day,w,n_ =>
  bif decide (day≥0) then((C5 n w roster driver day).bind fun v0 =>
  bif decide (v0.fst≥0) then(Ez n roster driver (IntKind.i64.wrap (day-1)) w (IntKind.i64.wrap (n_+1))) else
  some (w,(driver,(day,((),(n_,())))))) else
  some (w,(driver,(day,((),(n_,())))))
def HV (n:Nat) (y:C.Ds Ty (Af EU)):Option (YT Ty LP):=Ez n y.1 y.2.1 y.2.2.1 y.2.2.2.1 y.2.2.2.2.1
def Zf3 (n:Nat):St Ty→Tr (Lf Ty):=Bc EU 1 LP (HV n)
def OD (n:Nat) (w:Ax) (roster:List Int) (driver:Int) (day:Int):Option ((Int×Unit)) :=
 (Ez n roster driver day w 0).bind fun v0 =>
 bif decide (v0.snd.snd.fst<0) then((A3 v0.fst.drivers v0.snd.fst).bind fun v1 =>
 some (IntKind.i64.wrap (v0.snd.snd.snd.snd.fst+v1.row),())) else
 some (v0.snd.snd.snd.snd.fst,())
def W7 (n:Nat) (y:C.Ds Ty (Af LQ)):Option (YT Ty PO):=OD n y.1 y.2.1 y.2.2.1 y.2.2.2.1
def Zh4 (n:Nat):AA Ty:=El (AB LQ 0 PO (W7 n))
def ZfG (n:Nat):List (Nat×AA Ty):=[(316,Zc3 n)]
theorem SI (n:Nat):Ap Tryz.prog (ZfG n):=⟨Kv n,trivial⟩
def ZgN (n:Nat):A0 Ty:=[]
theorem ZD (n:Nat) (x:C.Ds Ty (Af EU)):(Ay Tryz.prog 35 (Al Tryz.prog (ZfG n) []) (Ae (ZgN n)) (Am 2 Tryz.f319) (Av EU x)).runK (A4 1 EU LP (HV n))=HV (n+1) x:=by kernel_rfl
theorem ZE (n:Nat):A5 true Tryz.prog 35 (Zf3 n) (.loop (Am 2 Tryz.f319)):=A6 fun x y hy=>At (Fn:=HV) Aa Ab (fun n=>Ac Aa Ab (SI n) Ai) (fun h=>by cases h) (fun h=>by cases h) (fun n=>(Ad (fn:=Tryz.f319) (L:=ZgN n) (ks:=[]) trivial (by kernel_rfl) (by kernel_rfl))) (by decide) (fun _=>rfl) ZD hy
def ZiL (n:Nat):A0 Ty:=[(.loop 2,Zf3 n)]
theorem Afr (n:Nat) (x:C.Ds Ty (Af LQ)):(Ay Tryz.prog 35 (Al Tryz.prog (ZfG n) []) (Ae (ZiL n)) (Ao Tryz.f319) (Av LQ x)).runK (Ar Tryz.prog Tryz.f319.results.toList 0 PO)=W7 n x:=by kernel_rfl
theorem ZF (n:Nat):Au Tryz.prog 319 (Zh4 n):=AX (As Tryz.func319 rfl rfl (by decide) rfl Aa Ab (Ac Aa Ab (SI n) Ai) (Ad (fn:=Tryz.f319) (L:=ZiL n) (ks:=[.loop 2]) ⟨ZE n,trivial⟩ (by kernel_rfl) (by kernel_rfl)) (Afr n))
def DO:List (Nat×C):=[(1,.l 3),(2,.l 3),(4,.s 3),(6,.u 49),(13,.s 3),(14,.s 3)]
def Kw:List Wo:=[⟨.exit 0,[.u 49],[(6,.q 0),(13,.s 3)],[]⟩]
def Ke:List (Nat×C):=[(0,.g 49),(1,.l 3),(2,.l 3),(3,.s 5),(4,.s 3),(5,.s 3)]
def NS:List Wo:=[⟨.ret,[],[],[.s 4]⟩]
def D5:Nat→(List Int)→(List Int)→Int→Ax→Int→Int→Option ((Ax×Unit×Int×Unit))
 | 0,_,_,_,_,_,_=>none
 | n+1,roster,truth,driver,w,sum,i =>
  bif decide (i<(↑w.duties.length:Int)) then((A3 roster i).bind fun v0 =>
  bif decide (v0=driver) then((A3 truth i).bind fun v1 =>
  (A3 w.duties i).bind fun v2 =>
  D5 n roster truth driver w (IntKind.i64.wrap (sum+IntKind.i64.wrap (v1-v2.on))) (IntKind.i64.wrap (i+1))) else
  D5 n roster truth driver w sum (IntKind.i64.wrap (i+1))) else
  some (w,((),(sum,())))
def GN (n:Nat) (y:C.Ds Ty (Af DO)):Option (YT Ty Kw):=D5 n y.1 y.2.1 y.2.2.1 y.2.2.2.1 y.2.2.2.2.1 y.2.2.2.2.2.1
def ZeS (n:Nat):St Ty→Tr (Lf Ty):=Bc DO 1 Kw (GN n)
def Fz (n:Nat) (w:Ax) (roster:List Int) (truth:List Int) (kind:IK .u8) (driver:Int) (duty:Int):Option ((Bool×Unit)) :=
 bif decide (kind.n=5) then((A3 w.drivers driver).bind fun v0 =>
 (D5 n roster truth driver w v0.used 0).bind fun v1 =>
 some (decide (v1.snd.snd.fst>v1.fst.hours),())) else
 (A3 roster duty).bind fun v0 =>
 bif v0 != driver then(some (false,())) else
 (A3 w.duties duty).bind fun v1 =>
 (A3 w.drivers driver).bind fun v2 =>
 (C5 n w roster driver v1.day).bind fun v3 =>
 bif decide (kind.n=0) then((MW n v2.knows v1.route).bind fun v4 =>
 some (!v4.fst,())) else
 bif decide (kind.n=1) then((MW n v2.leave v1.day).bind fun v4 =>
 some (v4.fst,())) else
 bif decide (kind.n=2) then(some (!decide (v3.fst=duty),())) else
 bif decide (kind.n=3) then(bif decide (v3.fst=duty) then((Rb n w roster truth driver v1.day).bind fun v4 =>
 some (decide (IntKind.i64.wrap (IntKind.i64.wrap (IntKind.i64.wrap (1440*v1.day)+v1.on)-v4.fst)<w.rest),())) else
 some (false,())) else
 bif decide (v3.fst=duty) then((OD n w roster driver v1.day).bind fun v4 =>
 some (decide (v4.fst>w.run),())) else
 some (false,())
def U8 (n:Nat) (y:C.Ds Ty (Af Ke)):Option (YT Ty NS):=Fz n y.1 y.2.1 y.2.2.1 y.2.2.2.1 y.2.2.2.2.1 y.2.2.2.2.2.1
def ZgO (n:Nat):AA Ty:=El (AB Ke 0 NS (U8 n))
def ZeT (n:Nat):List (Nat×AA Ty):=[(316,Zc3 n),(317,ZiK n),(318,Zig n),(319,Zh4 n)]
theorem Re (n:Nat):Ap Tryz.prog (ZeT n):=⟨Kv n,⟨Ad2 n,⟨AbJ n,⟨ZF n,trivial⟩⟩⟩⟩
def Zge (n:Nat):A0 Ty:=[]
theorem XM (n:Nat) (x:C.Ds Ty (Af DO)):(Ay Tryz.prog 134 (Al Tryz.prog (ZeT n) []) (Ae (Zge n)) (Am 4 Tryz.f269) (Av DO x)).runK (A4 1 DO Kw (GN n))=GN (n+1) x:=by kernel_rfl
theorem XN (n:Nat):A5 true Tryz.prog 134 (ZeS n) (.loop (Am 4 Tryz.f269)):=A6 fun x y hy=>At (Fn:=GN) Aa Ab (fun n=>Ac Aa Ab (Re n) Ai) (fun h=>by cases h) (fun h=>by cases h) (fun n=>(Ad (fn:=Tryz.f269) (L:=Zge n) (ks:=[]) trivial (by kernel_rfl) (by kernel_rfl))) (by decide) (fun _=>rfl) XM hy
def Zih (n:Nat):A0 Ty:=[(.loop 4,ZeS n)]
theorem Ad3 (n:Nat) (x:C.Ds Ty (Af Ke)):(Ay Tryz.prog 134 (Al Tryz.prog (ZeT n) []) (Ae (Zih n)) (Ao Tryz.f269) (Av Ke x)).runK (Ar Tryz.prog Tryz.f269.results.toList 0 NS)=U8 n x:=by kernel_rfl
theorem XO (n:Nat):Au Tryz.prog 269 (ZgO n):=AX (As Tryz.func269 rfl rfl (by decide) rfl Aa Ab (Ac Aa Ab (Re n) Ai) (Ad (fn:=Tryz.f269) (L:=Zih n) (ks:=[.loop 4]) ⟨XN n,trivial⟩ (by kernel_rfl) (by kernel_rfl)) (Ad3 n))
def DP:List (Nat×C):=[(1,.l 3),(2,.l 3),(3,.u 49),(7,.o 346),(8,.s 3),(9,.s 5),(10,.s 3)]
def Kx:List Wo:=[⟨.exit 4,[.u 49],[(1,.l 3),(2,.l 3),(3,.q 0),(7,.o 346),(8,.s 3),(9,.s 5)],[]⟩]
def DQ:List (Nat×C):=[(1,.l 3),(2,.l 3),(3,.u 49),(7,.o 346),(8,.s 3),(9,.s 5)]
def Ky:List Wo:=[⟨.exit 2,[.u 49],[(1,.l 3),(2,.l 3),(3,.q 0),(7,.o 346),(8,.s 3)],[]⟩]
def DR:List (Nat×C):=[(1,.l 3),(2,.l 3),(3,.u 49),(7,.o 346),(8,.s 3)]
def Kz:List Wo:=[⟨.exit 0,[.u 49],[(7,.o 346)],[]⟩]
def Kf:List (Nat×C):=[(0,.g 49),(1,.l 3),(2,.l 3)]
def NT:List Wo:=[⟨.ret,[],[],[.l 346]⟩]
def D6:Nat→(List Int)→(List Int)→Ax→(List Aw)→Int→(IK .u8)→Int→Option ((Ax×List Int×List Int×Unit×List Aw×Int×IK .u8×Unit))
 | 0,_,_,_,_,_,_,_=>none
 | n+1,roster,truth,w,out,driver,kind,duty =>
  bif decide (duty<(↑w.duties.length:Int)) then((Fz n w roster truth kind driver duty).bind fun v0 =>
  bif v0.fst then((app out [Aw.mk kind driver duty]).bind fun v1 =>
  D6 n roster truth w v1 driver kind (IntKind.i64.wrap (duty+1))) else
  D6 n roster truth w out driver kind (IntKind.i64.wrap (duty+1))) else
  some (w,(roster,(truth,((),(out,(driver,(kind,())))))))
def GO (n:Nat) (y:C.Ds Ty (Af DP)):Option (YT Ty Kx):=D6 n y.1 y.2.1 y.2.2.1 y.2.2.2.1 y.2.2.2.2.1 y.2.2.2.2.2.1 y.2.2.2.2.2.2.1
def ZeU (n:Nat):St Ty→Tr (Lf Ty):=Bc DP 1 Kx (GO n)
def Gn:Nat→(List Int)→(List Int)→Ax→(List Aw)→Int→(IK .u8)→Option ((Ax×List Int×List Int×Unit×List Aw×Int×Unit))
 | 0,_,_,_,_,_,_=>none
 | n+1,roster,truth,w,out,driver,kind =>
  bif decide (kind.n<5) then((D6 n roster truth w out driver kind 0).bind fun v0 =>
  Gn n v0.snd.fst v0.snd.snd.fst v0.fst v0.snd.snd.snd.snd.fst v0.snd.snd.snd.snd.snd.fst (IK.mk (IntKind.u8.wrap (v0.snd.snd.snd.snd.snd.snd.fst.n+1)))) else
  some (w,(roster,(truth,((),(out,(driver,()))))))
def GP (n:Nat) (y:C.Ds Ty (Af DQ)):Option (YT Ty Ky):=Gn n y.1 y.2.1 y.2.2.1 y.2.2.2.1 y.2.2.2.2.1 y.2.2.2.2.2.1
def ZeV (n:Nat):St Ty→Tr (Lf Ty):=Bc DQ 1 Ky (GP n)
def D7:Nat→(List Int)→(List Int)→Ax→(List Aw)→Int→Option ((Ax×List Aw×Unit))
 | 0,_,_,_,_,_=>none
 | n+1,roster,truth,w,out,driver =>
  bif decide (driver<(↑w.drivers.length:Int)) then((Gn n roster truth w out driver (IK.mk 0)).bind fun v0 =>
  (Fz n v0.fst v0.snd.fst v0.snd.snd.fst (IK.mk 5) v0.snd.snd.snd.snd.snd.fst 0).bind fun v1 =>
  bif v1.fst then((app v0.snd.snd.snd.snd.fst [Aw.mk (IK.mk 5) v0.snd.snd.snd.snd.snd.fst 0]).bind fun v2 =>
  D7 n v0.snd.fst v0.snd.snd.fst v0.fst v2 (IntKind.i64.wrap (v0.snd.snd.snd.snd.snd.fst+1))) else
  D7 n v0.snd.fst v0.snd.snd.fst v0.fst v0.snd.snd.snd.snd.fst (IntKind.i64.wrap (v0.snd.snd.snd.snd.snd.fst+1))) else
  some (w,(out,()))
def GQ (n:Nat) (y:C.Ds Ty (Af DR)):Option (YT Ty Kz):=D7 n y.1 y.2.1 y.2.2.1 y.2.2.2.1 y.2.2.2.2.1
def ZeW (n:Nat):St Ty→Tr (Lf Ty):=Bc DR 1 Kz (GQ n)
def RF (n:Nat) (w:Ax) (roster:List Int) (truth:List Int):Option ((List Aw×Unit)) :=
 (D7 n roster truth w [] 0).bind fun v0 =>
 some (v0.snd.fst,())
def U9 (n:Nat) (y:C.Ds Ty (Af Kf)):Option (YT Ty NT):=RF n y.1 y.2.1 y.2.2.1
def ZgP (n:Nat):AA Ty:=AB Kf 0 NT (U9 n)
def Zcd (n:Nat):List (Nat×AA Ty):=[(269,ZgO n)]
theorem HW (n:Nat):Ap Tryz.prog (Zcd n):=⟨XO n,trivial⟩
def Zgf (n:Nat):A0 Ty:=[]
theorem XP (n:Nat) (x:C.Ds Ty (Af DP)):(Ay Tryz.prog 54 (Al Tryz.prog (Zcd n) []) (Ae (Zgf n)) (Am 9 Tryz.f204) (Av DP x)).runK (A4 1 DP Kx (GO n))=GO (n+1) x:=by kernel_rfl
theorem XQ (n:Nat):A5 true Tryz.prog 54 (ZeU n) (.loop (Am 9 Tryz.f204)):=A6 fun x y hy=>At (Fn:=GO) Aa Ab (fun n=>Ac Aa Ab (HW n) Ai) (fun h=>by cases h) (fun h=>by cases h) (fun n=>(Ad (fn:=Tryz.f204) (L:=Zgf n) (ks:=[]) trivial (by kernel_rfl) (by kernel_rfl))) (by decide) (fun _=>rfl) XP hy
def Zgg (n:Nat):A0 Ty:=[(.loop 9,ZeU n)]
theorem XR (n:Nat) (x:C.Ds Ty (Af DQ)):(Ay Tryz.prog 54 (Al Tryz.prog (Zcd n) []) (Ae (Zgg n)) (Am 6 Tryz.f204) (Av DQ x)).runK (A4 1 DQ Ky (GP n))=GP (n+1) x:=by kernel_rfl
theorem XS (n:Nat):A5 true Tryz.prog 54 (ZeV n) (.loop (Am 6 Tryz.f204)):=A6 fun x y hy=>At (Fn:=GP) Aa Ab (fun n=>Ac Aa Ab (HW n) Ai) (fun h=>by cases h) (fun h=>by cases h) (fun n=>(Ad (fn:=Tryz.f204) (L:=Zgg n) (ks:=[.loop 9]) ⟨XQ n,trivial⟩ (by kernel_rfl) (by kernel_rfl))) (by decide) (fun _=>rfl) XR hy
def Zgh (n:Nat):A0 Ty:=[(.loop 6,ZeV n)]
theorem XT (n:Nat) (x:C.Ds Ty (Af DR)):(Ay Tryz.prog 54 (Al Tryz.prog (Zcd n) []) (Ae (Zgh n)) (Am 3 Tryz.f204) (Av DR x)).runK (A4 1 DR Kz (GQ n))=GQ (n+1) x:=by kernel_rfl
theorem XU (n:Nat):A5 true Tryz.prog 54 (ZeW n) (.loop (Am 3 Tryz.f204)):=A6 fun x y hy=>At (Fn:=GQ) Aa Ab (fun n=>Ac Aa Ab (HW n) Ai) (fun h=>by cases h) (fun h=>by cases h) (fun n=>(Ad (fn:=Tryz.f204) (L:=Zgh n) (ks:=[.loop 6]) ⟨XS n,trivial⟩ (by kernel_rfl) (by kernel_rfl))) (by decide) (fun _=>rfl) XT hy
def Zii (n:Nat):A0 Ty:=[(.loop 3,ZeW n)]
theorem Ad4 (n:Nat) (x:C.Ds Ty (Af Kf)):(Ay Tryz.prog 54 (Al Tryz.prog (Zcd n) []) (Ae (Zii n)) (Ao Tryz.f204) (Av Kf x)).runK (Ar Tryz.prog Tryz.f204.results.toList 0 NT)=U9 n x:=by kernel_rfl
theorem XV (n:Nat):Au Tryz.prog 204 (ZgP n):=As Tryz.func204 rfl rfl (by decide) rfl Aa Ab (Ac Aa Ab (HW n) Ai) (Ad (fn:=Tryz.f204) (L:=Zii n) (ks:=[.loop 3]) ⟨XU n,trivial⟩ (by kernel_rfl) (by kernel_rfl)) (Ad4 n)
def LR:List (Nat×C):=[(0,.g 49),(1,.l 3)]
def PP:List Wo:=[⟨.ret,[],[],[.s 4]⟩]
def OE (n:Nat) (w:Ax) (roster:List Int):Option ((Bool×Unit)) :=
 (RD n w).bind fun v0 =>
 (RF n w roster v0.fst).bind fun v1 =>
 some (decide ((↑v1.fst.length:Int)=0),())
def W8 (n:Nat) (y:C.Ds Ty (Af LR)):Option (YT Ty PP):=OE n y.1 y.2.1
def Zh5 (n:Nat):AA Ty:=El (AB LR 0 PP (W8 n))
def ZiM (n:Nat):List (Nat×AA Ty):=[(205,ZgK n),(204,ZgP n)]
theorem Ad5 (n:Nat):Ap Tryz.prog (ZiM n):=⟨XL n,⟨XV n,trivial⟩⟩
def ZiN (n:Nat):A0 Ty:=[]
theorem Afs (n:Nat) (x:C.Ds Ty (Af LR)):(Ay Tryz.prog 12 (Al Tryz.prog (ZiM n) []) (Ae (ZiN n)) (Ao Tryz.f148) (Av LR x)).runK (Ar Tryz.prog Tryz.f148.results.toList 0 PP)=W8 n x:=by kernel_rfl
theorem ZG (n:Nat):Au Tryz.prog 148 (Zh5 n):=AX (As Tryz.func148 rfl rfl (by decide) rfl Aa Ab (Ac Aa Ab (Ad5 n) Ai) (Ad (fn:=Tryz.f148) (L:=ZiN n) (ks:=[]) trivial (by kernel_rfl) (by kernel_rfl)) (Afs n))
def EV:List (Nat×C):=[(1,.u 49),(3,.s 3)]
def LS:List Wo:=[⟨.exit 0,[.u 49],[(1,.q 0)],[]⟩,⟨.ret,[.u 49],[(2,.s 3)],[]⟩]
def EW:List (Nat×C):=[(1,.u 49),(5,.s 3)]
def LU:List Wo:=[⟨.exit 2,[.u 49],[],[]⟩,⟨.ret,[.u 49],[(2,.s 3)],[]⟩]
def LV:List (Nat×C):=[(0,.g 49)]
def PQ:List Wo:=[⟨.ret,[],[],[.s 3]⟩]
def E0:Nat→Ax→Int→Option ((Ax×Unit×Unit) ⊕ ((Ax×Int×Unit)))
 | 0,_,_=>none
 | n+1,w,i =>
  bif decide (i<(↑w.duties.length:Int)) then((A3 w.duties i).bind fun v0 =>
  (AU n v0.day 0 (IntKind.i64.wrap (w.days-1))).bind fun v1 =>
  bif !!v1.fst then((AU n v0.on 0 1439).bind fun v2 =>
  bif !!v2.fst then((AU n v0.off.lo v0.on v0.off.hi).bind fun v3 =>
  bif !!v3.fst then(bif !decide (v0.off.hi>IntKind.i64.wrap (v0.on+1440)) then((AU n v0.route 0 15).bind fun v4 =>
  bif !v4.fst then(some (.inr (w,(1,())))) else
  E0 n w (IntKind.i64.wrap (i+1))) else
  some (.inr (w,(1,())))) else
  some (.inr (w,(1,())))) else
  some (.inr (w,(1,())))) else
  some (.inr (w,(1,())))) else
  some (.inl (w,((),())))
def HX (n:Nat) (y:C.Ds Ty (Af EV)):Option (YT Ty LS):=E0 n y.1 y.2.1
def Zf4 (n:Nat):St Ty→Tr (Lf Ty):=Bc EV 1 LS (HX n)
def Hl:Nat→Ax→Int→Option ((Ax×Unit) ⊕ ((Ax×Int×Unit)))
 | 0,_,_=>none
 | n+1,w,k =>
  bif decide (k<(↑w.drivers.length:Int)) then((A3 w.drivers k).bind fun v0 =>
  (C4 n v0.knows 0 15).bind fun v1 =>
  bif !!v1.fst then((C4 n v0.leave 0 (IntKind.i64.wrap (w.days-1))).bind fun v2 =>
  bif !!v2.fst then((C4 n v0.wish 0 (IntKind.i64.wrap (w.days-1))).bind fun v3 =>
  bif !!v3.fst then((AU n v0.off (-10080) 1440).bind fun v4 =>
  bif !!v4.fst then((AU n v0.row 0 14).bind fun v5 =>
  bif !!v5.fst then((AU n v0.used 0 w.hours).bind fun v6 =>
  bif !v6.fst then(some (.inr (w,(1,())))) else
  Hl n w (IntKind.i64.wrap (k+1))) else
  some (.inr (w,(1,())))) else
  some (.inr (w,(1,())))) else
  some (.inr (w,(1,())))) else
  some (.inr (w,(1,())))) else
  some (.inr (w,(1,())))) else
  some (.inl (w,()))
def HY (n:Nat) (y:C.Ds Ty (Af EW)):Option (YT Ty LU):=Hl n y.1 y.2.1
def Zf5 (n:Nat):St Ty→Tr (Lf Ty):=Bc EW 1 LU (HY n)
def GR (n:Nat) (w:Ax):Option ((Int×Unit)) :=
 bif !decide ((↑w.duties.length:Int)>12) then(bif decide ((↑w.drivers.length:Int)>6) then(some (3,())) else
 (AU n w.days 1 7).bind fun v0 =>
 bif !!v0.fst then((AU n w.rest 0 3000).bind fun v1 =>
 bif !!v1.fst then((AU n w.run 1 14).bind fun v2 =>
 bif !!v2.fst then((AU n w.hours 0 20000).bind fun v3 =>
 bif !v3.fst then(some (1,())) else
 (E0 n w 0).bind fun v4 =>
 Sum.elim (fun v5=>(Hl n v5.fst 0).bind fun v6 =>
 Sum.elim (fun v7=>some (0,())) (fun v7=>some (v7.snd.fst,())) (v6)) (fun v5=>some (v5.snd.fst,())) (v4)) else
 some (1,())) else
 some (1,())) else
 some (1,())) else
 some (3,())
def W9 (n:Nat) (y:C.Ds Ty (Af LV)):Option (YT Ty PQ):=GR n y.1
def Zh6 (n:Nat):AA Ty:=El (AB LV 0 PQ (W9 n))
def Zdi (n:Nat):List (Nat×AA Ty):=[(146,ZdS n),(206,Zhm n)]
theorem MY (n:Nat):Ap Tryz.prog (Zdi n):=⟨NI n,⟨Zo n,trivial⟩⟩
def ZgQ (n:Nat):A0 Ty:=[]
theorem ZH (n:Nat) (x:C.Ds Ty (Af EV)):(Ay Tryz.prog 145 (Al Tryz.prog (Zdi n) []) (Ae (ZgQ n)) (Am 6 Tryz.f149) (Av EV x)).runK (A4 1 EV LS (HX n))=HX (n+1) x:=by kernel_rfl
theorem ZI (n:Nat):A5 true Tryz.prog 145 (Zf4 n) (.loop (Am 6 Tryz.f149)):=A6 fun x y hy=>At (Fn:=HX) Aa Ab (fun n=>Ac Aa Ab (MY n) Ai) (fun h=>by cases h) (fun h=>by cases h) (fun n=>(Ad (fn:=Tryz.f149) (L:=ZgQ n) (ks:=[]) trivial (by kernel_rfl) (by kernel_rfl))) (by decide) (fun _=>rfl) ZH hy
def ZgR (n:Nat):A0 Ty:=[]
theorem ZJ (n:Nat) (x:C.Ds Ty (Af EW)):(Ay Tryz.prog 145 (Al Tryz.prog (Zdi n) []) (Ae (ZgR n)) (Am 12 Tryz.f149) (Av EW x)).runK (A4 1 EW LU (HY n))=HY (n+1) x:=by kernel_rfl
theorem ZK (n:Nat):A5 true Tryz.prog 145 (Zf5 n) (.loop (Am 12 Tryz.f149)):=A6 fun x y hy=>At (Fn:=HY) Aa Ab (fun n=>Ac Aa Ab (MY n) Ai) (fun h=>by cases h) (fun h=>by cases h) (fun n=>(Ad (fn:=Tryz.f149) (L:=ZgR n) (ks:=[]) trivial (by kernel_rfl) (by kernel_rfl))) (by decide) (fun _=>rfl) ZJ hy
def ZiO (n:Nat):A0 Ty:=[(.loop 6,Zf4 n),(.loop 12,Zf5 n)]
theorem Aft (n:Nat) (x:C.Ds Ty (Af LV)):(Ay Tryz.prog 145 (Al Tryz.prog (Zdi n) []) (Ae (ZiO n)) (Ao Tryz.f149) (Av LV x)).runK (Ar Tryz.prog Tryz.f149.results.toList 0 PQ)=W9 n x:=by kernel_rfl
theorem ZL (n:Nat):Au Tryz.prog 149 (Zh6 n):=AX (As Tryz.func149 rfl rfl (by decide) rfl Aa Ab (Ac Aa Ab (MY n) Ai) (Ad (fn:=Tryz.f149) (L:=ZiO n) (ks:=[.loop 6,.loop 12]) ⟨ZI n,⟨ZK n,trivial⟩⟩ (by kernel_rfl) (by kernel_rfl)) (Aft n))
def Hm:List (Nat×C):=[(2,.l 3),(3,.u 51),(6,.u 51),(10,.s 3)]
def NU:List Wo:=[⟨.exit 0,[.u 51,.u 51],[(2,.l 3),(3,.q 0),(6,.q 1)],[]⟩,⟨.ret,[.u 51,.u 51],[(6,.q 1),(7,.s 3)],[]⟩]
def OF:List (Nat×C):=[(0,.g 51),(1,.s 9),(2,.l 3)]
def Uk:List Wo:=[⟨.ret,[],[],[.g 51,.s 3]⟩]
def C6:Nat→(List Int)→An→An→Int→Option ((An×An×List Int×Unit×Unit×Unit) ⊕ ((An×An×Unit×Int×Unit)))
 | 0,_,_,_,_=>none
 | n+1,l,s,x6,i =>
  bif decide (i<(↑s.runs.length:Int)) then((A3 s.runs i).bind fun v0 =>
  (A3 l 0).bind fun v1 =>
  bif decide (v0.bus=v1) then((A3 s.runs i).bind fun v2 =>
  (A3 l 1).bind fun v3 =>
  bif decide (v2.to_>v3) then(some (.inr (s,(s,((),(8,())))))) else
  C6 n l s x6 (IntKind.i64.wrap (i+1))) else
  C6 n l s x6 (IntKind.i64.wrap (i+1))) else
  some (.inl (s,(x6,(l,((),((),()))))))
def Kg (n:Nat) (y:C.Ds Ty (Af Hm)):Option (YT Ty NU):=C6 n y.1 y.2.1 y.2.2.1 y.2.2.2.1
def ZgS (n:Nat):St Ty→Tr (Lf Ty):=Bc Hm 2 NU (Kg n)
def GS (n:Nat) (s:An) (word:ByteArray) (l:List Int):Option ((An×Int×Unit)) :=
 (A3 l 0).bind fun v0 =>
 (Xn n s v0).bind fun v1 =>
 bif word.beq (B [105,110]) then(bif decide (v1.fst<0) then(some (s,(8,()))) else
 (A3 s.outs v1.fst).bind fun v2 =>
 (A3 l 1).bind fun v3 =>
 bif !decide (v3<v2.fr) then((A3 l 1).bind fun v4 =>
 bif !decide (v4>1000000) then((A3 l 2).bind fun v5 =>
 (Gh n v5 0 1000).bind fun v6 =>
 bif !v6.fst then(some (s,(2,()))) else
 (Gx s.outs 0 v1.fst).bind fun v7 =>
 (app [] v7).bind fun v8 =>
 (Gx s.outs (IntKind.i64.wrap (v1.fst+1)) (↑s.outs.length:Int)).bind fun v9 =>
 (app v8 v9).bind fun v10 =>
 (app [] s.runs).bind fun v11 =>
 (A3 l 1).bind fun v12 =>
 (A3 l 2).bind fun v13 =>
 (app v11 [AcQ.mk v2.bus v2.fr v12 v13]).bind fun v14 =>
 some (An.mk s.cards v10 v14 s.records s.week s.roster,(0,()))) else
 some (s,(2,()))) else
 some (s,(2,()))) else
 (A3 l 0).bind fun v2 =>
 (Gh n v2 0 99).bind fun v3 =>
 bif !!v3.fst then((A3 l 1).bind fun v4 =>
 (Gh n v4 0 1000000).bind fun v5 =>
 bif !v5.fst then(some (s,(2,()))) else
 bif decide (v1.fst≥0) then(some (s,(8,()))) else
 (C6 n l s (An.mk [] [] [] [] (Ax.mk 0 [] [] 0 0 0) []) 0).bind fun v6 =>
 Sum.elim (fun v7=>(A3 v7.snd.snd.fst 0).bind fun v8 =>
 (A3 v7.snd.snd.fst 1).bind fun v9 =>
 (OB n v7.fst.cards v8 v9).bind fun v10 =>
 bif decide ((↑v10.fst.length:Int)>0) then(some (v7.fst,(11,()))) else
 (app [] v7.fst.outs).bind fun v11 =>
 (A3 v7.snd.snd.fst 0).bind fun v12 =>
 (A3 v7.snd.snd.fst 1).bind fun v13 =>
 (app v11 [Xy.mk v12 v13]).bind fun v14 =>
 some (An.mk v7.fst.cards v14 v7.fst.runs v7.fst.records v7.fst.week v7.fst.roster,(0,()))) (fun v7=>some (v7.snd.fst,(v7.snd.snd.snd.fst,()))) (v6)) else
 some (s,(2,()))
def AbK (n:Nat) (y:C.Ds Ty (Af OF)):Option (YT Ty Uk):=GS n y.1 y.2.1 y.2.2.1
def ZiP (n:Nat):AA Ty:=AB OF 0 Uk (AbK n)
def Zh7 (n:Nat):List (Nat×AA Ty):=[(144,Zjq n),(145,Zgr n),(77,Zh1 n)]
theorem WA (n:Nat):Ap Tryz.prog (Zh7 n):=⟨Afj n,⟨U2 n,⟨ZA n,trivial⟩⟩⟩
def Zij (n:Nat):A0 Ty:=[]
theorem Ad6 (n:Nat) (x:C.Ds Ty (Af Hm)):(Ay Tryz.prog 151 (Al Tryz.prog (Zh7 n) []) (Ae (Zij n)) (Am 16 Tryz.f87) (Av Hm x)).runK (A4 2 Hm NU (Kg n))=Kg (n+1) x:=by kernel_rfl
theorem Ad7 (n:Nat):A5 true Tryz.prog 151 (ZgS n) (.loop (Am 16 Tryz.f87)):=A6 fun x y hy=>At (Fn:=Kg) Aa Ab (fun n=>Ac Aa Ab (WA n) Ai) (fun h=>by cases h) (fun h=>by cases h) (fun n=>(Ad (fn:=Tryz.f87) (L:=Zij n) (ks:=[]) trivial (by kernel_rfl) (by kernel_rfl))) (by decide) (fun _=>rfl) Ad6 hy
def ZjK (n:Nat):A0 Ty:=[(.loop 16,ZgS n)]
theorem Ajh (n:Nat) (x:C.Ds Ty (Af OF)):(Ay Tryz.prog 151 (Al Tryz.prog (Zh7 n) []) (Ae (ZjK n)) (Ao Tryz.f87) (Av OF x)).runK (Ar Tryz.prog Tryz.f87.results.toList 0 Uk)=AbK n x:=by kernel_rfl
theorem Ad8 (n:Nat):Au Tryz.prog 87 (ZiP n):=As Tryz.func87 rfl rfl (by decide) rfl Aa Ab (Ac Aa Ab (WA n) Ai) (Ad (fn:=Tryz.f87) (L:=ZjK n) (ks:=[.loop 16]) ⟨Ad7 n,trivial⟩ (by kernel_rfl) (by kernel_rfl)) (Ajh n)
def OG:List (Nat×C):=[(0,.g 51),(1,.s 9),(2,.l 3)]
def Ul:List Wo:=[⟨.ret,[],[],[.g 51,.s 3]⟩]
def DS (n:Nat) (s:An) (word:ByteArray) (l:List Int):Option ((An×Int×Unit)) :=
 bif word.beq (B [100,114,105,118,101,114]) then((app [] s.week.drivers).bind fun v0 =>
 (A3 l 0).bind fun v1 =>
 (A3 l 1).bind fun v2 =>
 (app v0 [AT.mk [v1] [] [] v2 0 0]).bind fun v3 =>
 (GR n (Ax.mk s.week.days s.week.duties v3 s.week.rest s.week.run s.week.hours)).bind fun v4 =>
 bif v4.fst != 0 then(some (s,(v4.fst,()))) else
 some (An.mk s.cards s.outs s.runs s.records (Ax.mk s.week.days s.week.duties v3 s.week.rest s.week.run s.week.hours) s.roster,(0,()))) else
 bif word.beq (B [100,117,116,121]) then((app [] s.week.duties).bind fun v0 =>
 (A3 l 0).bind fun v1 =>
 (A3 l 1).bind fun v2 =>
 (A3 l 2).bind fun v3 =>
 (A3 l 3).bind fun v4 =>
 (A3 l 4).bind fun v5 =>
 (app v0 [AO.mk v1 v2 (Rg.mk v3 v4) v5]).bind fun v6 =>
 (app [] s.roster).bind fun v7 =>
 (app v7 [-1]).bind fun v8 =>
 (GR n (Ax.mk s.week.days v6 s.week.drivers s.week.rest s.week.run s.week.hours)).bind fun v9 =>
 bif v9.fst != 0 then(some (s,(v9.fst,()))) else
 some (An.mk s.cards s.outs s.runs s.records (Ax.mk s.week.days v6 s.week.drivers s.week.rest s.week.run s.week.hours) v8,(0,()))) else
 (A3 l 0).bind fun v0 =>
 (AU n v0 0 (IntKind.i64.wrap ((↑s.roster.length:Int)-1))).bind fun v1 =>
 bif !!v1.fst then((A3 l 1).bind fun v2 =>
 (AU n v2 (-1) (IntKind.i64.wrap ((↑s.week.drivers.length:Int)-1))).bind fun v3 =>
 bif !v3.fst then(some (s,(2,()))) else
 (A3 l 0).bind fun v4 =>
 (A3 l 1).bind fun v5 =>
 (Wh n s.roster v4 v5).bind fun v6 =>
 (OE n s.week v6.fst).bind fun v7 =>
 bif !v7.fst then(some (s,(10,()))) else
 some (An.mk s.cards s.outs s.runs s.records s.week v6.fst,(0,()))) else
 some (s,(2,()))
def AbL (n:Nat) (y:C.Ds Ty (Af OG)):Option (YT Ty Ul):=DS n y.1 y.2.1 y.2.2.1
def ZiQ (n:Nat):AA Ty:=AB OG 0 Ul (AbL n)
def ZjL (n:Nat):List (Nat×AA Ty):=[(146,ZdS n),(147,ZhR n),(148,Zh5 n),(149,Zh6 n)]
theorem Air (n:Nat):Ap Tryz.prog (ZjL n):=⟨NI n,⟨Aby n,⟨ZG n,⟨ZL n,trivial⟩⟩⟩⟩
def ZjM (n:Nat):A0 Ty:=[]
theorem Aji (n:Nat) (x:C.Ds Ty (Af OG)):(Ay Tryz.prog 114 (Al Tryz.prog (ZjL n) []) (Ae (ZjM n)) (Ao Tryz.f88) (Av OG x)).runK (Ar Tryz.prog Tryz.f88.results.toList 0 Ul)=AbL n x:=by kernel_rfl
theorem Ad9 (n:Nat):Au Tryz.prog 88 (ZiQ n):=As Tryz.func88 rfl rfl (by decide) rfl Aa Ab (Ac Aa Ab (Air n) Ai) (Ad (fn:=Tryz.f88) (L:=ZjM n) (ks:=[]) trivial (by kernel_rfl) (by kernel_rfl)) (Aji n)
def Rf:List (Nat×C):=[(0,.s 9)]
def WB:List Wo:=[⟨.ret,[],[],[.g 65,.s 4]⟩]
def Xo (n:Nat) (line:ByteArray):Option ((A1×Bool×Unit)) :=
 (MT n line).bind fun v0 =>
 bif !v0.snd.snd.fst then(some (A1.mk 0 0 0 (IK.mk 0) 0 0,(false,()))) else
 bif v0.fst.beq (B [102,111,117,110,100]) then((A3 v0.snd.fst 0).bind fun v1 =>
 (A3 v0.snd.fst 1).bind fun v2 =>
 (A3 v0.snd.fst 2).bind fun v3 =>
 (A3 v0.snd.fst 3).bind fun v4 =>
 some (A1.mk v1 v2 v3 (IK.mk 0) v4 0,(true,()))) else
 bif v0.fst.beq (B [104,101,108,100]) then((A3 v0.snd.fst 0).bind fun v1 =>
 (A3 v0.snd.fst 1).bind fun v2 =>
 (A3 v0.snd.fst 2).bind fun v3 =>
 (A3 v0.snd.fst 3).bind fun v4 =>
 some (A1.mk v1 v2 v3 (IK.mk 1) v4 0,(true,()))) else
 bif v0.fst.beq (B [115,105,103,110,101,100]) then((A3 v0.snd.fst 0).bind fun v1 =>
 (A3 v0.snd.fst 1).bind fun v2 =>
 (A3 v0.snd.fst 2).bind fun v3 =>
 (A3 v0.snd.fst 3).bind fun v4 =>
 some (A1.mk v1 v2 v3 (IK.mk 2) 0 v4,(true,()))) else
 bif v0.fst.beq (B [99,104,101,99,107,101,100]) then((A3 v0.snd.fst 0).bind fun v1 =>
 (A3 v0.snd.fst 1).bind fun v2 =>
 (A3 v0.snd.fst 2).bind fun v3 =>
 some (A1.mk v1 v2 v3 (IK.mk 3) 0 0,(true,()))) else
 some (A1.mk 0 0 0 (IK.mk 0) 0 0,(false,()))
def Ae8 (n:Nat) (y:C.Ds Ty (Af Rf)):Option (YT Ty WB):=Xo n y.1
def Zju (n:Nat):AA Ty:=AB Rf 0 WB (Ae8 n)
def Zkm (n:Nat):List (Nat×AA Ty):=[(28,Zdg n)]
theorem Ajj (n:Nat):Ap Tryz.prog (Zkm n):=⟨MU n,trivial⟩
def Zkn (n:Nat):A0 Ty:=[]
theorem AlD (n:Nat) (x:C.Ds Ty (Af Rf)):(Ay Tryz.prog 75 (Al Tryz.prog (Zkm n) []) (Ae (Zkn n)) (Ao Tryz.f30) (Av Rf x)).runK (Ar Tryz.prog Tryz.f30.results.toList 0 WB)=Ae8 n x:=by kernel_rfl
theorem Afu (n:Nat):Au Tryz.prog 30 (Zju n):=As Tryz.func30 rfl rfl (by decide) rfl Aa Ab (Ac Aa Ab (Ajj n) Ai) (Ad (fn:=Tryz.f30) (L:=Zkn n) (ks:=[]) trivial (by kernel_rfl) (by kernel_rfl)) (AlD n)
def Nr:List (Nat×C):=[(0,.s 9)]
def RG:List Wo:=[⟨.ret,[],[],[.g 90,.s 4]⟩]
def Rh (n:Nat) (line:ByteArray):Option ((Ag×Bool×Unit)) :=
 (MT n line).bind fun v0 =>
 bif !v0.snd.snd.fst then(some (Ag.mk 0 0 0 (IK.mk 0) 0 0,(false,()))) else
 bif v0.fst.beq (B [115,97,108,101]) then((A3 v0.snd.fst 0).bind fun v1 =>
 (A3 v0.snd.fst 1).bind fun v2 =>
 (A3 v0.snd.fst 2).bind fun v3 =>
 (A3 v0.snd.fst 3).bind fun v4 =>
 (A3 v0.snd.fst 4).bind fun v5 =>
 some (Ag.mk v1 v2 v3 (IK.mk 0) v4 v5,(true,()))) else
 bif v0.fst.beq (B [115,121,110,99]) then((A3 v0.snd.fst 0).bind fun v1 =>
 (A3 v0.snd.fst 1).bind fun v2 =>
 (A3 v0.snd.fst 2).bind fun v3 =>
 (A3 v0.snd.fst 3).bind fun v4 =>
 some (Ag.mk v1 v2 v3 (IK.mk 1) v4 0,(true,()))) else
 bif v0.fst.beq (B [99,108,111,115,101]) then((A3 v0.snd.fst 0).bind fun v1 =>
 (A3 v0.snd.fst 1).bind fun v2 =>
 (A3 v0.snd.fst 2).bind fun v3 =>
 (A3 v0.snd.fst 3).bind fun v4 =>
 (A3 v0.snd.fst 4).bind fun v5 =>
 some (Ag.mk v1 v2 v3 (IK.mk 2) v4 v5,(true,()))) else
 some (Ag.mk 0 0 0 (IK.mk 0) 0 0,(false,()))
def Yz (n:Nat) (y:C.Ds Ty (Af Nr)):Option (YT Ty RG):=Rh n y.1
def Zik (n:Nat):AA Ty:=AB Nr 0 RG (Yz n)
def Zjv (n:Nat):List (Nat×AA Ty):=[(28,Zdg n)]
theorem Afv (n:Nat):Ap Tryz.prog (Zjv n):=⟨MU n,trivial⟩
def Zjw (n:Nat):A0 Ty:=[]
theorem Ais (n:Nat) (x:C.Ds Ty (Af Nr)):(Ay Tryz.prog 69 (Al Tryz.prog (Zjv n) []) (Ae (Zjw n)) (Ao Tryz.f43) (Av Nr x)).runK (Ar Tryz.prog Tryz.f43.results.toList 0 RG)=Yz n x:=by kernel_rfl
theorem AbM (n:Nat):Au Tryz.prog 43 (Zik n):=As Tryz.func43 rfl rfl (by decide) rfl Aa Ab (Ac Aa Ab (Afv n) Ai) (Ad (fn:=Tryz.f43) (L:=Zjw n) (ks:=[]) trivial (by kernel_rfl) (by kernel_rfl)) (Ais n)
def Xp:List (Nat×C):=[(0,.g 51),(1,.s 9)]
def AdA:List Wo:=[⟨.ret,[],[],[.g 51,.s 3]⟩]
def AbN (n:Nat) (s:An) (line:ByteArray):Option ((An×Int×Unit)) :=
 (MT n line).bind fun v0 =>
 bif !v0.snd.snd.fst then(some (s,(4,()))) else
 (Xo n line).bind fun v1 =>
 bif v1.snd.fst then((SG n s v1.fst).bind fun v2 =>
 some (v2.fst,(v2.snd.fst,()))) else
 (Rh n line).bind fun v2 =>
 bif v2.snd.fst then((N6 n s v2.fst).bind fun v3 =>
 some (v3.fst,(v3.snd.fst,()))) else
 bif !v0.fst.beq (B [111,117,116]) then(bif v0.fst.beq (B [105,110]) then((GS n s v0.fst v0.snd.fst).bind fun v3 =>
 some (v3.fst,(v3.snd.fst,()))) else
 (DS n s v0.fst v0.snd.fst).bind fun v3 =>
 some (v3.fst,(v3.snd.fst,()))) else
 (GS n s v0.fst v0.snd.fst).bind fun v3 =>
 some (v3.fst,(v3.snd.fst,()))
def Akt (n:Nat) (y:C.Ds Ty (Af Xp)):Option (YT Ty AdA):=AbN n y.1 y.2.1
def Zis (n:Nat):AA Ty:=AB Xp 0 AdA (Akt n)
def Zk4 (n:Nat):List (Nat×AA Ty):=[(28,Zdg n),(30,Zju n),(85,Zjr n),(43,Zik n),(86,Zia n),(87,ZiP n),(88,ZiQ n)]
theorem AnM (n:Nat):Ap Tryz.prog (Zk4 n):=⟨MU n,⟨Afu n,⟨Afn n,⟨AbM n,⟨AbD n,⟨Ad8 n,⟨Ad9 n,trivial⟩⟩⟩⟩⟩⟩⟩
def Zk5 (n:Nat):A0 Ty:=[]
theorem Apz (n:Nat) (x:C.Ds Ty (Af Xp)):(Ay Tryz.prog 62 (Al Tryz.prog (Zk4 n) []) (Ae (Zk5 n)) (Ao Tryz.f46) (Av Xp x)).runK (Ar Tryz.prog Tryz.f46.results.toList 0 AdA)=Akt n x:=by kernel_rfl
theorem Y0 (n:Nat):Au Tryz.prog 46 (Zis n):=As Tryz.func46 rfl rfl (by decide) rfl Aa Ab (Ac Aa Ab (AnM n) Ai) (Ad (fn:=Tryz.f46) (L:=Zk5 n) (ks:=[]) trivial (by kernel_rfl) (by kernel_rfl)) (Apz n)
def IA:List (Nat×C):=[(0,.l 9),(2,.u 51),(4,.u 51),(5,.o 3),(6,.s 3)]
def PS:List Wo:=[⟨.exit 0,[.u 51,.u 51],[(2,.q 0),(4,.q 1),(5,.o 3)],[]⟩]
def Ri:List (Nat×C):=[(0,.l 9)]
def WC:List Wo:=[⟨.ret,[],[],[.g 51,.l 3]⟩]
def Jd:Nat→(List ByteArray)→An→An→(List Int)→Int→Option ((An×An×Unit×Unit×List Int×Unit))
 | 0,_,_,_,_,_=>none
 | n+1,lines,x2,s,errors,i =>
  bif decide (i<(↑lines.length:Int)) then((A3 lines i).bind fun v0 =>
  (AbN n s v0).bind fun v1 =>
  (app errors [v1.snd.fst]).bind fun v2 =>
  Jd n lines x2 v1.fst v2 (IntKind.i64.wrap (i+1))) else
  some (x2,(s,((),((),(errors,())))))
def LW (n:Nat) (y:C.Ds Ty (Af IA)):Option (YT Ty PS):=Jd n y.1 y.2.1 y.2.2.1 y.2.2.2.1 y.2.2.2.2.1
def Zh8 (n:Nat):St Ty→Tr (Lf Ty):=Bc IA 2 PS (LW n)
def Xq (n:Nat) (lines:List ByteArray):Option ((An×List Int×Unit)) :=
 (Zr n).bind fun v0 =>
 (Jd n lines (An.mk [] [] [] [] (Ax.mk 0 [] [] 0 0 0) []) v0.fst [] 0).bind fun v1 =>
 some (v1.snd.fst,(v1.snd.snd.snd.snd.fst,()))
def Ae9 (n:Nat) (y:C.Ds Ty (Af Ri)):Option (YT Ty WC):=Xq n y.1
def Zjx (n:Nat):AA Ty:=Aqo (AB Ri 0 WC (Ae9 n))
def Zit (n:Nat):List (Nat×AA Ty):=[(59,ZiE n),(46,Zis n)]
theorem Y1 (n:Nat):Ap Tryz.prog (Zit n):=⟨Adv n,⟨Y0 n,trivial⟩⟩
def ZiR (n:Nat):A0 Ty:=[]
theorem Afw (n:Nat) (x:C.Ds Ty (Af IA)):(Ay Tryz.prog 32 (Al Tryz.prog (Zit n) []) (Ae (ZiR n)) (Am 4 Tryz.f25) (Av IA x)).runK (A4 2 IA PS (LW n))=LW (n+1) x:=by kernel_rfl
theorem Afx (n:Nat):A5 true Tryz.prog 32 (Zh8 n) (.loop (Am 4 Tryz.f25)):=A6 fun x y hy=>At (Fn:=LW) Aa Ab (fun n=>Ac Aa Ab (Y1 n) Ai) (fun h=>by cases h) (fun h=>by cases h) (fun n=>(Ad (fn:=Tryz.f25) (L:=ZiR n) (ks:=[]) trivial (by kernel_rfl) (by kernel_rfl))) (by decide) (fun _=>rfl) Afw hy
def Zko (n:Nat):A0 Ty:=[(.loop 4,Zh8 n)]
theorem AlE (n:Nat) (x:C.Ds Ty (Af Ri)):(Ay Tryz.prog 32 (Al Tryz.prog (Zit n) []) (Ae (Zko n)) (Ao Tryz.f25) (Av Ri x)).runK (Ar Tryz.prog Tryz.f25.results.toList 0 WC)=Ae9 n x:=by kernel_rfl
theorem Afy (n:Nat):Au Tryz.prog 25 (Zjx n):=An5 (by decide) (As Tryz.func25 rfl rfl (by decide) rfl Aa Ab (Ac Aa Ab (Y1 n) Ai) (Ad (fn:=Tryz.f25) (L:=Zko n) (ks:=[.loop 4]) ⟨Afx n,trivial⟩ (by kernel_rfl) (by kernel_rfl)) (AlE n))
def EX:List (Nat×C):=[(4,.u 114),(5,.f 84 [.q 0] []),(6,.o 37),(12,.l 9),(13,.s 3),(14,.s 3)]
def LX:List Wo:=[⟨.exit 0,[.u 114],[(4,.q 0),(6,.o 37)],[]⟩]
def LY:List (Nat×C):=[(0,.l 9)]
def PT:List Wo:=[⟨.ret,[],[],[.u 114,.l 37]⟩]
def E1:Nat→Aj→(List Int)→(List ByteArray)→Int→Int→Option ((Aj×Unit×List Int×Unit))
 | 0,_,_,_,_,_=>none
 | n+1,g,errors,x12,x13,x14 =>
  bif decide (x14<x13) then((A3 x12 x14).bind fun v0 =>
  (Aqu n g v0).bind fun v1 =>
  (app errors [v1.snd.fst]).bind fun v2 =>
  E1 n v1.fst v2 x12 x13 (IntKind.i64.wrap (x14+1))) else
  some (g,((),(errors,())))
def HZ (n:Nat) (y:C.Ds Ty (Af EX)):Option (YT Ty LX):=E1 n y.1 y.2.2.1 y.2.2.2.1 y.2.2.2.2.1 y.2.2.2.2.2.1
def Zf6 (n:Nat):St Ty→Tr (Lf Ty):=Bc EX 1 LX (HZ n)
def Je (n:Nat) (lines:List ByteArray):Option ((Aj×List Int×Unit)) :=
 (Yv n).bind fun v0 =>
 (E1 n v0.fst [] lines (↑lines.length:Int) 0).bind fun v1 =>
 some (v1.fst,(v1.snd.snd.fst,()))
def WD (n:Nat) (y:C.Ds Ty (Af LY)):Option (YT Ty PT):=Je n y.1
def Zc4 (n:Nat):AA Ty:=Aqo (AB LY 0 PT (WD n))
def ZfH (n:Nat):List (Nat×AA Ty):=[(101,Zg9 n),(84,ZjA n)]
theorem SJ (n:Nat):Ap Tryz.prog (ZfH n):=⟨XH n,⟨Ae0 n,trivial⟩⟩
def ZgT (n:Nat):A0 Ty:=[]
theorem ZM (n:Nat) (x:C.Ds Ty (Af EX)):(Ay Tryz.prog 27 (Al Tryz.prog (ZfH n) []) (Ae (ZgT n)) (Am 5 Tryz.f53) (Av EX x)).runK (A4 1 EX LX (HZ n))=HZ (n+1) x:=by kernel_rfl
theorem ZN (n:Nat):A5 true Tryz.prog 27 (Zf6 n) (.loop (Am 5 Tryz.f53)):=A6 fun x y hy=>At (Fn:=HZ) Aa Ab (fun n=>Ac Aa Ab (SJ n) Ai) (fun h=>by cases h) (fun h=>by cases h) (fun n=>(Ad (fn:=Tryz.f53) (L:=ZgT n) (ks:=[]) trivial (by kernel_rfl) (by kernel_rfl))) (by decide) (fun _=>rfl) ZM hy
def ZiS (n:Nat):A0 Ty:=[(.loop 5,Zf6 n)]
theorem Afz (n:Nat) (x:C.Ds Ty (Af LY)):(Ay Tryz.prog 27 (Al Tryz.prog (ZfH n) []) (Ae (ZiS n)) (Ao Tryz.f53) (Av LY x)).runK (Ar Tryz.prog Tryz.f53.results.toList 0 PT)=WD n x:=by kernel_rfl
theorem K0 (n:Nat):Au Tryz.prog 53 (Zc4 n):=An5 (by decide) (As Tryz.func53 rfl rfl (by decide) rfl Aa Ab (Ac Aa Ab (SJ n) Ai) (Ad (fn:=Tryz.f53) (L:=ZiS n) (ks:=[.loop 5]) ⟨ZN n,trivial⟩ (by kernel_rfl) (by kernel_rfl)) (Afz n))
def LZ:List (Nat×C):=[(0,.l 9)]
def PU:List Wo:=[⟨.ret,[],[],[.g 35,.l 37,.s 37]⟩]
def AbO (n:Nat) (lines:List ByteArray):Option ((An×List Int×Int×Unit)) :=
 (Fx n lines).bind fun v0 =>
 bif v0.fst != 0 then(some (An.mk [] [] [] [] (Ax.mk 0 [] [] 0 0 0) [],([],(v0.fst,())))) else
 (Je n lines).bind fun v1 =>
 some (v1.fst.state,(v1.snd.fst,(0,())))
def WE (n:Nat) (y:C.Ds Ty (Af LZ)):Option (YT Ty PU):=AbO n y.1
def Zh9 (n:Nat):AA Ty:=AB LZ 0 PU (WE n)
def ZiT (n:Nat):List (Nat×AA Ty):=[(52,ZbN n),(53,Zc4 n)]
theorem AdB (n:Nat):Ap Tryz.prog (ZiT n):=⟨FO n,⟨K0 n,trivial⟩⟩
def ZiU (n:Nat):A0 Ty:=[]
theorem Af0 (n:Nat) (x:C.Ds Ty (Af LZ)):(Ay Tryz.prog 24 (Al Tryz.prog (ZiT n) []) (Ae (ZiU n)) (Ao Tryz.f21) (Av LZ x)).runK (Ar Tryz.prog Tryz.f21.results.toList 0 PU)=WE n x:=by kernel_rfl
theorem ZO (n:Nat):Au Tryz.prog 21 (Zh9 n):=As Tryz.func21 rfl rfl (by decide) rfl Aa Ab (Ac Aa Ab (AdB n) Ai) (Ad (fn:=Tryz.f21) (L:=ZiU n) (ks:=[]) trivial (by kernel_rfl) (by kernel_rfl)) (Af0 n)
def Jf:List (Nat×C):=[(0,.s 9),(1,.p [.u 114])]
def MZ:List Wo:=[⟨.ret,[.p [.u 114],.q 1],[],[.s 4]⟩]
def WF (n:Nat) (text:ByteArray) (x1:Aj):Option (((Aj×Unit)×Unit×Bool×Unit)) :=
 (AhY n text (B [32])).bind fun v0 =>
 (A3 v0.fst 0).bind fun v1 =>
 bif !v1.beq (B [111,117,116]) then(some ((x1,()),((),(false,())))) else
 (A3 v0.fst 1).bind fun v2 =>
 (Aeu v2).bind fun v3 =>
 Sum.elim (fun v4=>(A3 v0.fst 2).bind fun v5 =>
 (Aeu v5).bind fun v6 =>
 Sum.elim (fun v7=>(IQ n x1.state.cards v4 v7).bind fun v8 =>
 some ((x1,()),((),(decide ((↑v8.fst.length:Int)>0),())))) (fun v7=>(IQ n x1.state.cards v4 v7).bind fun v8 =>
 some ((x1,()),((),(decide ((↑v8.fst.length:Int)>0),())))) (v6)) (fun v4=>(A3 v0.fst 2).bind fun v5 =>
 (Aeu v5).bind fun v6 =>
 Sum.elim (fun v7=>(IQ n x1.state.cards v4 v7).bind fun v8 =>
 some ((x1,()),((),(decide ((↑v8.fst.length:Int)>0),())))) (fun v7=>(IQ n x1.state.cards v4 v7).bind fun v8 =>
 some ((x1,()),((),(decide ((↑v8.fst.length:Int)>0),())))) (v6)) (v3)
def SK (n:Nat) (y:C.Ds Ty (Af Jf)):Option (YT Ty MZ):=WF n y.1 y.2.1.1
def Zgi (n:Nat):AA Ty:=AB Jf 2 MZ (SK n)
def ZhA (n:Nat):List (Nat×AA Ty):=[(112,Zje n),(113,ZhL n),(29,Zgo n)]
theorem ZP (n:Nat):Ap Tryz.prog (ZhA n):=⟨Abk n,⟨Aew n,⟨Uw n,trivial⟩⟩⟩
def ZhB (n:Nat):A0 Ty:=[]
theorem AbP (n:Nat) (x:C.Ds Ty (Af Jf)):(Ay Tryz.prog 45 (Al Tryz.prog (ZhA n) []) (Ae (ZhB n)) (Ao Tryz.f111) (Av Jf x)).runK (Ar Tryz.prog Tryz.f111.results.toList 2 MZ)=SK n x:=by kernel_rfl
theorem WG (n:Nat):Au Tryz.prog 111 (Zgi n):=As Tryz.func111 rfl rfl (by decide) rfl Aa Ab (Ac Aa Ab (ZP n) Ai) (Ad (fn:=Tryz.f111) (L:=ZhB n) (ks:=[]) trivial (by kernel_rfl) (by kernel_rfl)) (AbP n)
def EY:List (Nat×C):=[(2,.l 37),(6,.o 3),(7,.f 111 [] [.p [.u 114]]),(11,.l 9),(12,.s 3),(13,.s 3)]
def Ma:List Wo:=[⟨.exit 0,[.p [.u 114],.q 1],[(6,.o 3)],[]⟩]
def Mb:List (Nat×C):=[(0,.l 9),(1,.u 114),(2,.l 37)]
def PV:List Wo:=[⟨.ret,[.u 114],[],[.o 3]⟩]
def Hn:Nat→(List Int)→(List Int)→Aj→(List ByteArray)→Int→Int→Option (((Aj×Unit)×Unit×List Int×Unit))
 | 0,_,_,_,_,_,_=>none
 | n+1,errors,out,is,x11,x12,x13 =>
  bif decide (x13<x12) then((A3 x11 x13).bind fun v0 =>
  (A3 errors x13).bind fun v1 =>
  bif decide (v1=0) then((WF n v0 is).bind fun v2 =>
  bif v2.snd.snd.fst then((app out [x13]).bind fun v3 =>
  Hn n errors v3 v2.fst.fst x11 x12 (IntKind.i64.wrap (x13+1))) else
  Hn n errors out v2.fst.fst x11 x12 (IntKind.i64.wrap (x13+1))) else
  Hn n errors out is x11 x12 (IntKind.i64.wrap (x13+1))) else
  some ((is,()),((),(out,())))
def Ia (n:Nat) (y:C.Ds Ty (Af EY)):Option (YT Ty Ma):=Hn n y.1 y.2.1 y.2.2.1.2.1.1 y.2.2.2.1 y.2.2.2.2.1 y.2.2.2.2.2.1
def Zf7 (n:Nat):St Ty→Tr (Lf Ty):=Bc EY 2 Ma (Ia n)
def AbQ (n:Nat) (lines:List ByteArray) (g:Aj) (errors:List Int):Option ((Aj×List Int×Unit)) :=
 (Hn n errors [] g lines (↑lines.length:Int) 0).bind fun v0 =>
 some (v0.fst.fst,(v0.snd.snd.fst,()))
def WH (n:Nat) (y:C.Ds Ty (Af Mb)):Option (YT Ty PV):=AbQ n y.1 y.2.1 y.2.2.1
def ZhC (n:Nat):AA Ty:=AB Mb 1 PV (WH n)
def ZfI (n:Nat):List (Nat×AA Ty):=[(111,Zgi n)]
theorem SL (n:Nat):Ap Tryz.prog (ZfI n):=⟨WG n,trivial⟩
def ZgU (n:Nat):A0 Ty:=[]
theorem ZQ (n:Nat) (x:C.Ds Ty (Af EY)):(Ay Tryz.prog 34 (Al Tryz.prog (ZfI n) []) (Ae (ZgU n)) (Am 3 Tryz.f70) (Av EY x)).runK (A4 2 EY Ma (Ia n))=Ia (n+1) x:=by kernel_rfl
theorem ZR (n:Nat):A5 true Tryz.prog 34 (Zf7 n) (.loop (Am 3 Tryz.f70)):=A6 fun x y hy=>At (Fn:=Ia) Aa Ab (fun n=>Ac Aa Ab (SL n) Ai) (fun h=>by cases h) (fun h=>by cases h) (fun n=>(Ad (fn:=Tryz.f70) (L:=ZgU n) (ks:=[]) trivial (by kernel_rfl) (by kernel_rfl))) (by decide) (fun _=>rfl) ZQ hy
def ZiV (n:Nat):A0 Ty:=[(.loop 3,Zf7 n)]
theorem Af1 (n:Nat) (x:C.Ds Ty (Af Mb)):(Ay Tryz.prog 34 (Al Tryz.prog (ZfI n) []) (Ae (ZiV n)) (Ao Tryz.f70) (Av Mb x)).runK (Ar Tryz.prog Tryz.f70.results.toList 1 PV)=WH n x:=by kernel_rfl
theorem ZS (n:Nat):Au Tryz.prog 70 (ZhC n):=As Tryz.func70 rfl rfl (by decide) rfl Aa Ab (Ac Aa Ab (SL n) Ai) (Ad (fn:=Tryz.f70) (L:=ZiV n) (ks:=[.loop 3]) ⟨ZR n,trivial⟩ (by kernel_rfl) (by kernel_rfl)) (Af1 n)
def Mc:List (Nat×C):=[(0,.l 9)]
def PW:List Wo:=[⟨.ret,[],[],[.l 3,.s 37]⟩]
def AbR (n:Nat) (lines:List ByteArray):Option ((List Int×Int×Unit)) :=
 (Fx n lines).bind fun v0 =>
 bif v0.fst != 0 then(some ([],(v0.fst,()))) else
 (Je n lines).bind fun v1 =>
 (AbQ n lines v1.fst v1.snd.fst).bind fun v2 =>
 some (v2.snd.fst,(0,()))
def WI (n:Nat) (y:C.Ds Ty (Af Mc)):Option (YT Ty PW):=AbR n y.1
def ZhD (n:Nat):AA Ty:=AB Mc 0 PW (WI n)
def ZiW (n:Nat):List (Nat×AA Ty):=[(52,ZbN n),(53,Zc4 n),(70,ZhC n)]
theorem AdC (n:Nat):Ap Tryz.prog (ZiW n):=⟨FO n,⟨K0 n,⟨ZS n,trivial⟩⟩⟩
def ZiX (n:Nat):A0 Ty:=[]
theorem Af2 (n:Nat) (x:C.Ds Ty (Af Mc)):(Ay Tryz.prog 21 (Al Tryz.prog (ZiW n) []) (Ae (ZiX n)) (Ao Tryz.f31) (Av Mc x)).runK (Ar Tryz.prog Tryz.f31.results.toList 0 PW)=WI n x:=by kernel_rfl
theorem ZT (n:Nat):Au Tryz.prog 31 (ZhD n):=As Tryz.func31 rfl rfl (by decide) rfl Aa Ab (Ac Aa Ab (AdC n) Ai) (Ad (fn:=Tryz.f31) (L:=ZiX n) (ks:=[]) trivial (by kernel_rfl) (by kernel_rfl)) (Af2 n)
def Jg:List (Nat×C):=[(0,.s 3),(1,.s 3)]
def Na:List Wo:=[⟨.ret,[],[],[.s 9]⟩]
def Gp (n:Nat) (n_:Int) (many:Int):Option ((ByteArray×Unit)) :=
 (Abl n n_).bind fun v0 =>
 (Aly n (B [48]) (if IntKind.i64.wrap (many-(↑v0.fst.size:Int))>0 then IntKind.i64.wrap (many-(↑v0.fst.size:Int)) else 0)).bind fun v1 =>
 (DC v1.fst v0.fst).bind fun v2 =>
 some (v2,())
def SM (n:Nat) (y:C.Ds Ty (Af Jg)):Option (YT Ty Na):=Gp n y.1 y.2.1
def Zgj (n:Nat):AA Ty:=AB Jg 0 Na (SM n)
def ZhE (n:Nat):List (Nat×AA Ty):=[(89,Zj6 n),(244,ZjV n)]
theorem ZU (n:Nat):Ap Tryz.prog (ZhE n):=⟨Aev n,⟨AiP n,trivial⟩⟩
def ZhF (n:Nat):A0 Ty:=[]
theorem AbS (n:Nat) (x:C.Ds Ty (Af Jg)):(Ay Tryz.prog 16 (Al Tryz.prog (ZhE n) []) (Ae (ZhF n)) (Ao Tryz.f181) (Av Jg x)).runK (Ar Tryz.prog Tryz.f181.results.toList 0 Na)=SM n x:=by kernel_rfl
theorem WJ (n:Nat):Au Tryz.prog 181 (Zgj n):=As Tryz.func181 rfl rfl (by decide) rfl Aa Ab (Ac Aa Ab (ZU n) Ai) (Ad (fn:=Tryz.f181) (L:=ZhF n) (ks:=[]) trivial (by kernel_rfl) (by kernel_rfl)) (AbS n)
def Df:List (Nat×C):=[(0,.s 9),(5,.s 3),(12,.l 5),(13,.s 3),(14,.s 3)]
def J3:List Wo:=[⟨.exit 0,[],[(0,.s 9),(5,.s 3)],[]⟩]
def Jh:List (Nat×C):=[(0,.s 9),(1,.s 3)]
def Nb:List Wo:=[⟨.ret,[],[],[.s 9]⟩]
def EZ:Nat→ByteArray→Int→(List (IK .u8))→Int→Int→Option ((ByteArray×Int×Unit))
 | 0,_,_,_,_,_=>none
 | n+1,s,check,x12,x13,x14 =>
  bif decide (x14<x13) then((A3 x12 x14).bind fun v0 =>
  EZ n s (IntKind.i64.wrap (check+IntKind.i64.wrap (IntKind.i64.wrap (x14+1)*IntKind.i64.wrap (IntKind.i64.wrap v0.n+1)))) x12 x13 (IntKind.i64.wrap (x14+1))) else
  some (s,(check,()))
def FQ (n:Nat) (y:C.Ds Ty (Af Df)):Option (YT Ty J3):=EZ n y.1 y.2.1 y.2.2.1 y.2.2.2.1 y.2.2.2.2.1
def Ze0 (n:Nat):St Ty→Tr (Lf Ty):=Bc Df 0 J3 (FQ n)
def IB (n:Nat) (s:ByteArray) (index:Int):Option ((ByteArray×Unit)) :=
 (EZ n s (IntKind.i64.wrap (7*IntKind.i64.wrap (index+1))) (Apa s) (↑(Apa s).length:Int) 0).bind fun v0 =>
 (Gp n (↑v0.fst.size:Int) 3).bind fun v1 =>
 (DC (B [91]) v1.fst).bind fun v2 =>
 (DC v2 (B [47])).bind fun v3 =>
 (Gp n (IntKind.i64.wrap (999-(↑v0.fst.size:Int))) 3).bind fun v4 =>
 (DC v3 v4.fst).bind fun v5 =>
 (DC v5 (B [47])).bind fun v6 =>
 (Gp n (v0.snd.fst.tmod 99991) 5).bind fun v7 =>
 (DC v6 v7.fst).bind fun v8 =>
 (DC v8 (B [93])).bind fun v9 =>
 (DC v9 v0.fst).bind fun v10 =>
 (DC v10 (B [10])).bind fun v11 =>
 some (v11,())
def SN (n:Nat) (y:C.Ds Ty (Af Jh)):Option (YT Ty Nb):=IB n y.1 y.2.1
def Zdf (n:Nat):AA Ty:=AB Jh 0 Nb (SN n)
def ZdV (n:Nat):List (Nat×AA Ty):=[(181,Zgj n)]
theorem PX (n:Nat):Ap Tryz.prog (ZdV n):=⟨WJ n,trivial⟩
def Zf8 (n:Nat):A0 Ty:=[]
theorem WK (n:Nat) (x:C.Ds Ty (Af Df)):(Ay Tryz.prog 47 (Al Tryz.prog (ZdV n) []) (Ae (Zf8 n)) (Am 3 Tryz.f125) (Av Df x)).runK (A4 0 Df J3 (FQ n))=FQ (n+1) x:=by kernel_rfl
theorem WL (n:Nat):A5 true Tryz.prog 47 (Ze0 n) (.loop (Am 3 Tryz.f125)):=A6 fun x y hy=>At (Fn:=FQ) Aa Ab (fun n=>Ac Aa Ab (PX n) Ai) (fun h=>by cases h) (fun h=>by cases h) (fun n=>(Ad (fn:=Tryz.f125) (L:=Zf8 n) (ks:=[]) trivial (by kernel_rfl) (by kernel_rfl))) (by decide) (fun _=>rfl) WK hy
def ZhG (n:Nat):A0 Ty:=[(.loop 3,Ze0 n)]
theorem AbT (n:Nat) (x:C.Ds Ty (Af Jh)):(Ay Tryz.prog 47 (Al Tryz.prog (ZdV n) []) (Ae (ZhG n)) (Ao Tryz.f125) (Av Jh x)).runK (Ar Tryz.prog Tryz.f125.results.toList 0 Nb)=SN n x:=by kernel_rfl
theorem N7 (n:Nat):Au Tryz.prog 125 (Zdf n):=As Tryz.func125 rfl rfl (by decide) rfl Aa Ab (Ac Aa Ab (PX n) Ai) (Ad (fn:=Tryz.f125) (L:=ZhG n) (ks:=[.loop 3]) ⟨WL n,trivial⟩ (by kernel_rfl) (by kernel_rfl)) (AbT n)
def CE:List (Nat×C):=[(2,.o 5),(5,.l 9),(6,.s 3),(7,.s 3)]
def IC:List Wo:=[⟨.exit 0,[],[(2,.o 5)],[]⟩]
def Ib:List (Nat×C):=[(0,.l 9)]
def Md:List Wo:=[⟨.ret,[],[],[.l 5]⟩]
def DT:Nat→(List (IK .u8))→(List ByteArray)→Int→Int→Option ((List (IK .u8)×Unit))
 | 0,_,_,_,_=>none
 | n+1,out,x5,x6,x7 =>
  bif decide (x7<x6) then((A3 x5 x7).bind fun v0 =>
  (IB n v0 x7).bind fun v1 =>
  (app out (Apa v1.fst)).bind fun v2 =>
  DT n v2 x5 x6 (IntKind.i64.wrap (x7+1))) else
  some (out,())
def Fa (n:Nat) (y:C.Ds Ty (Af CE)):Option (YT Ty IC):=DT n y.1 y.2.1 y.2.2.1 y.2.2.2.1
def ZdQ (n:Nat):St Ty→Tr (Lf Ty):=Bc CE 0 IC (Fa n)
def Ho (n:Nat) (lines:List ByteArray):Option ((List (IK .u8)×Unit)) :=
 (DT n [] lines (↑lines.length:Int) 0).bind fun v0 =>
 some (v0.fst,())
def Rj (n:Nat) (y:C.Ds Ty (Af Ib)):Option (YT Ty Md):=Ho n y.1
def ZcD (n:Nat):AA Ty:=AB Ib 0 Md (Rj n)
def Zd2 (n:Nat):List (Nat×AA Ty):=[(125,Zdf n)]
theorem Oj (n:Nat):Ap Tryz.prog (Zd2 n):=⟨N7 n,trivial⟩
def ZeX (n:Nat):A0 Ty:=[]
theorem UY (n:Nat) (x:C.Ds Ty (Af CE)):(Ay Tryz.prog 19 (Al Tryz.prog (Zd2 n) []) (Ae (ZeX n)) (Am 2 Tryz.f78) (Av CE x)).runK (A4 0 CE IC (Fa n))=Fa (n+1) x:=by kernel_rfl
theorem UZ (n:Nat):A5 true Tryz.prog 19 (ZdQ n) (.loop (Am 2 Tryz.f78)):=A6 fun x y hy=>At (Fn:=Fa) Aa Ab (fun n=>Ac Aa Ab (Oj n) Ai) (fun h=>by cases h) (fun h=>by cases h) (fun n=>(Ad (fn:=Tryz.f78) (L:=ZeX n) (ks:=[]) trivial (by kernel_rfl) (by kernel_rfl))) (by decide) (fun _=>rfl) UY hy
def ZgV (n:Nat):A0 Ty:=[(.loop 2,ZdQ n)]
theorem ZV (n:Nat) (x:C.Ds Ty (Af Ib)):(Ay Tryz.prog 19 (Al Tryz.prog (Zd2 n) []) (Ae (ZgV n)) (Ao Tryz.f78) (Av Ib x)).runK (Ar Tryz.prog Tryz.f78.results.toList 0 Md)=Rj n x:=by kernel_rfl
theorem M9 (n:Nat):Au Tryz.prog 78 (ZcD n):=As Tryz.func78 rfl rfl (by decide) rfl Aa Ab (Ac Aa Ab (Oj n) Ai) (Ad (fn:=Tryz.f78) (L:=ZgV n) (ks:=[.loop 2]) ⟨UZ n,trivial⟩ (by kernel_rfl) (by kernel_rfl)) (ZV n)
def Kh:List (Nat×C):=[(0,.l 9)]
def NV:List Wo:=[⟨.ret,[],[],[.l 5,.s 37]⟩]
def Y2 (n:Nat) (lines:List ByteArray):Option ((List (IK .u8)×Int×Unit)) :=
 (Fx n lines).bind fun v0 =>
 bif v0.fst != 0 then(some ([],(v0.fst,()))) else
 (Ho n lines).bind fun v1 =>
 some (v1.fst,(0,()))
def UA (n:Nat) (y:C.Ds Ty (Af Kh)):Option (YT Ty NV):=Y2 n y.1
def ZgW (n:Nat):AA Ty:=AB Kh 0 NV (UA n)
def Zil (n:Nat):List (Nat×AA Ty):=[(52,ZbN n),(78,ZcD n)]
theorem AbU (n:Nat):Ap Tryz.prog (Zil n):=⟨FO n,⟨M9 n,trivial⟩⟩
def Zim (n:Nat):A0 Ty:=[]
theorem AdD (n:Nat) (x:C.Ds Ty (Af Kh)):(Ay Tryz.prog 12 (Al Tryz.prog (Zil n) []) (Ae (Zim n)) (Ao Tryz.f37) (Av Kh x)).runK (Ar Tryz.prog Tryz.f37.results.toList 0 NV)=UA n x:=by kernel_rfl
theorem XW (n:Nat):Au Tryz.prog 37 (ZgW n):=As Tryz.func37 rfl rfl (by decide) rfl Aa Ab (Ac Aa Ab (AbU n) Ai) (Ad (fn:=Tryz.f37) (L:=Zim n) (ks:=[]) trivial (by kernel_rfl) (by kernel_rfl)) (AdD n)
def Dg:List (Nat×C):=[(3,.s 3),(6,.l 5),(7,.s 3),(8,.s 3)]
def J4:List Wo:=[⟨.exit 0,[],[(3,.s 3)],[]⟩,⟨.ret,[],[(2,.s 3)],[]⟩]
def Ji:List (Nat×C):=[(0,.l 5)]
def Nc:List Wo:=[⟨.ret,[],[],[.s 3]⟩]
def Fb:Nat→Int→(List (IK .u8))→Int→Int→Option ((Int×Unit) ⊕ ((Int×Unit)))
 | 0,_,_,_,_=>none
 | n+1,n_,x6,x7,x8 =>
  bif decide (x8<x7) then((A3 x6 x8).bind fun v0 =>
  bif !decide (v0.n<48) then(bif decide (v0.n>57) then(some (.inr (-1,()))) else
  Fb n (IntKind.i64.wrap (IntKind.i64.wrap (10*n_)+IntKind.i64.wrap (IntKind.u8.wrap (v0.n-48)))) x6 x7 (IntKind.i64.wrap (x8+1))) else
  some (.inr (-1,()))) else
  some (.inl (n_,()))
def FR (n:Nat) (y:C.Ds Ty (Af Dg)):Option (YT Ty J4):=Fb n y.1 y.2.1 y.2.2.1 y.2.2.2.1
def Ze1 (n:Nat):St Ty→Tr (Lf Ty):=Bc Dg 0 J4 (FR n)
def Me (n:Nat) (l:List (IK .u8)):Option ((Int×Unit)) :=
 (Fb n 0 l (↑l.length:Int) 0).bind fun v0 =>
 Sum.elim (fun v1=>some (v1.fst,())) (fun v1=>some (v1.fst,())) (v0)
def SO (n:Nat) (y:C.Ds Ty (Af Ji)):Option (YT Ty Nc):=Me n y.1
def Zgk (n:Nat):AA Ty:=El (AB Ji 0 Nc (SO n))
def ZdW (n:Nat):List (Nat×AA Ty):=[]
theorem PY (n:Nat):Ap Tryz.prog (ZdW n):=trivial
def Zf9 (n:Nat):A0 Ty:=[]
theorem WM (n:Nat) (x:C.Ds Ty (Af Dg)):(Ay Tryz.prog 26 (Al Tryz.prog (ZdW n) []) (Ae (Zf9 n)) (Am 3 Tryz.f127) (Av Dg x)).runK (A4 0 Dg J4 (FR n))=FR (n+1) x:=by kernel_rfl
theorem WN (n:Nat):A5 true Tryz.prog 26 (Ze1 n) (.loop (Am 3 Tryz.f127)):=A6 fun x y hy=>At (Fn:=FR) Aa Ab (fun n=>Ac Aa Ab (PY n) Ai) (fun h=>by cases h) (fun h=>by cases h) (fun n=>(Ad (fn:=Tryz.f127) (L:=Zf9 n) (ks:=[]) trivial (by kernel_rfl) (by kernel_rfl))) (by decide) (fun _=>rfl) WM hy
def ZhH (n:Nat):A0 Ty:=[(.loop 3,Ze1 n)]
theorem AbV (n:Nat) (x:C.Ds Ty (Af Ji)):(Ay Tryz.prog 26 (Al Tryz.prog (ZdW n) []) (Ae (ZhH n)) (Ao Tryz.f127) (Av Ji x)).runK (Ar Tryz.prog Tryz.f127.results.toList 0 Nc)=SO n x:=by kernel_rfl
theorem WO (n:Nat):Au Tryz.prog 127 (Zgk n):=AX (As Tryz.func127 rfl rfl (by decide) rfl Aa Ab (Ac Aa Ab (PY n) Ai) (Ad (fn:=Tryz.f127) (L:=ZhH n) (ks:=[.loop 3]) ⟨WN n,trivial⟩ (by kernel_rfl) (by kernel_rfl)) (AbV n))
def OH:List (Nat×C):=[]
def Um:List Wo:=[⟨.ret,[],[],[.l 9]⟩]
def ZW (n:Nat):Option ((List ByteArray×Unit)) :=
 some ([B [102,111,117,110,100,32,55,32,49,32,49,48,48,32,51],B [111,117,116,32,55,32,49,53,48],B [111,117,116,32,56,32,49,53,48],B [105,110,32,56,32,50,48,48,32,51,48],B [115,105,103,110,101,100,32,55,32,50,32,49,54,48,32,49],B [111,117,116,32,55,32,49,55,48],B [104,101,108,100,32,56,32,51,32,49,52,48,32,50],B [111,117,116,32,56,32,51,48,48],B [115,97,108,101,32,53,32,50,32,49,53,32,49,32,51,48,48],B [99,108,111,115,101,32,53,32,52,32,51,48,32,50,32,53,48,48],B [100,114,105,118,101,114,32,49,32,45,57,48,48],B [100,117,116,121,32,48,32,51,48,48,32,57,48,48,32,49,48,48,48,32,49],B [100,117,116,121,32,49,32,49,48,48,32,53,48,48,32,53,48,48,32,49],B [103,105,118,101,32,48,32,48],B [103,105,118,101,32,49,32,48],B [105,110,32,55,32,49,54,53,32,53]],())
def AbW (n:Nat) (y:C.Ds Ty (Af OH)):Option (YT Ty Um):=ZW n
def ZiY (n:Nat):AA Ty:=AB OH 0 Um (AbW n)
def ZjN (n:Nat):List (Nat×AA Ty):=[]
theorem Ait (n:Nat):Ap Tryz.prog (ZjN n):=trivial
def ZjO (n:Nat):A0 Ty:=[]
theorem Ajk (n:Nat) (x:C.Ds Ty (Af OH)):(Ay Tryz.prog 2 (Al Tryz.prog (ZjN n) []) (Ae (ZjO n)) (Ao Tryz.f51) (Av OH x)).runK (Ar Tryz.prog Tryz.f51.results.toList 0 Um)=AbW n x:=by kernel_rfl
theorem AdE (n:Nat):Au Tryz.prog 51 (ZiY n):=As Tryz.func51 rfl rfl (by decide) rfl Aa Ab (Ac Aa Ab (Ait n) Ai) (Ad (fn:=Tryz.f51) (L:=ZjO n) (ks:=[]) trivial (by kernel_rfl) (by kernel_rfl)) (Ajk n)
def OI:List (Nat×C):=[]
def Un:List Wo:=[⟨.ret,[],[],[.s 4]⟩]
def GT (n:Nat):Option ((Bool×Unit)) :=
 (ZW n).bind fun v0 =>
 (AbO n v0.fst).bind fun v1 =>
 (ZW n).bind fun v2 =>
 (AbR n v2.fst).bind fun v3 =>
 (Y2 n [B [97]]).bind fun v4 =>
 bif !v1.snd.snd.fst != 0 then(bif !v3.snd.fst != 0 then(bif !v4.snd.fst != 0 then(bif (↑v1.snd.fst.length:Int) != 16 then(some (false,())) else
 (A3 v1.snd.fst 1).bind fun v5 =>
 bif decide (v5=11) then((A3 v1.snd.fst 7).bind fun v6 =>
 bif decide (v6=11) then((A3 v1.snd.fst 14).bind fun v7 =>
 bif decide (v7=10) then((A3 v1.snd.fst 15).bind fun v8 =>
 bif decide (v8=2) then(bif decide ((↑v1.fst.runs.length:Int)=1) then((A3 v1.fst.runs 0).bind fun v9 =>
 bif decide (v9.bus=8) && (decide (v9.fr=150) && (decide (v9.to_=200) && (decide (v9.miles=30) && true))) then(bif decide ((↑v1.fst.outs.length:Int)=1) then((A3 v1.fst.outs 0).bind fun v10 =>
 bif decide (v10.bus=7) && (decide (v10.fr=170) && true) then((Adf n v1.fst.roster [0,-1]).bind fun v11 =>
 bif v11.fst then((Adf n v3.fst [2]).bind fun v12 =>
 bif v12.fst then(some ((AcT v4.fst).beq (B [91,48,48,49,47,57,57,56,47,48,48,49,48,53,93,97,10]),())) else
 some (false,())) else
 some (false,())) else
 some (false,())) else
 some (false,())) else
 some (false,())) else
 some (false,())) else
 some (false,())) else
 some (false,())) else
 some (false,())) else
 some (false,())) else
 some (false,())) else
 some (false,())) else
 some (false,())
def AbX (n:Nat) (y:C.Ds Ty (Af OI)):Option (YT Ty Un):=GT n
def ZiZ (n:Nat):AA Ty:=AB OI 0 Un (AbX n)
def ZjP (n:Nat):List (Nat×AA Ty):=[(51,ZiY n),(21,Zh9 n),(31,ZhD n),(37,ZgW n),(32,Zji n)]
theorem Aiu (n:Nat):Ap Tryz.prog (ZjP n):=⟨AdE n,⟨ZO n,⟨ZT n,⟨XW n,⟨Afa n,trivial⟩⟩⟩⟩⟩
def ZjQ (n:Nat):A0 Ty:=[]
theorem Ajl (n:Nat) (x:C.Ds Ty (Af OI)):(Ay Tryz.prog 105 (Al Tryz.prog (ZjP n) []) (Ae (ZjQ n)) (Ao Tryz.f20) (Av OI x)).runK (Ar Tryz.prog Tryz.f20.results.toList 0 Un)=AbX n x:=by kernel_rfl
theorem AdF (n:Nat):Au Tryz.prog 20 (ZiZ n):=As Tryz.func20 rfl rfl (by decide) rfl Aa Ab (Ac Aa Ab (Aiu n) Ai) (Ad (fn:=Tryz.f20) (L:=ZjQ n) (ks:=[]) trivial (by kernel_rfl) (by kernel_rfl)) (Ajl n)
def CF:List (Nat×C):=[(0,.y 0 38 [2,3] [.p [.o 9],.p [.s 3]]),(1,.p [.l 5]),(3,.s 3),(4,.s 3)]
def ID:List Wo:=[⟨.exit 0,[.y 0 38 [2,3] [.p [.o 9],.p [.s 3]],.q 1,.q 2,.p [.l 5]],[],[]⟩,⟨.ret,[.y 0 38 [2,3] [.p [.o 9],.p [.s 3]],.q 1,.q 2,.p [.l 5]],[],[]⟩,⟨.ret,[.y 2 38 [2,3] [.p [.o 9],.p [.s 3]],.q 1,.q 2,.p [.l 5]],[],[]⟩]
def Ic:List (Nat×C):=[(0,.l 5)]
def Mf:List Wo:=[⟨.ret,[],[],[.o 9,.s 3]⟩]
def Bu:Nat→(List ByteArray)→Int→(List (IK .u8))→Int→Int→Option ((((List ByteArray×Unit)×(Int×Unit)×Unit)×Unit×Unit×(List (IK .u8)×Unit)×Unit) ⊕ ((((List ByteArray×Unit)×(Int×Unit)×Unit)×Unit×Unit×(List (IK .u8)×Unit)×Unit) ⊕ ((((List ByteArray×Unit)×(Int×Unit)×Unit)×Unit×Unit×(List (IK .u8)×Unit)×Unit))))
 | 0,_,_,_,_,_=>none
 | n+1,yield1,yield2,x1,at_,index =>
  bif decide (IntKind.i64.wrap ((↑x1.length:Int)-at_)≥16) then((Gx x1 (IntKind.i64.wrap (at_+1)) (IntKind.i64.wrap (IntKind.i64.wrap (at_+1)+3))).bind fun v0 =>
  (Me n v0).bind fun v1 =>
  (AZ n v1.fst 0 200).bind fun v2 =>
  bif !!v2.fst then(bif decide (IntKind.i64.wrap ((↑x1.length:Int)-at_)<IntKind.i64.wrap (16+v1.fst)) then(some (.inr (.inl (((yield1,()),((yield2,()),())),((),((),((x1,()),()))))))) else
  (Gx x1 (IntKind.i64.wrap (at_+15)) (IntKind.i64.wrap (IntKind.i64.wrap (IntKind.i64.wrap (at_+16)+v1.fst)-1))).bind fun v3 =>
  (IB n (AcT v3) index).bind fun v4 =>
  (Gx x1 at_ (IntKind.i64.wrap (IntKind.i64.wrap (at_+16)+v1.fst))).bind fun v5 =>
  bif !!v4.fst.beq (AcT v5) then(bif decide ((↑yield1.length:Int)=50) then(some (.inr (.inr (((yield1,()),((yield2,()),())),((),((),((x1,()),()))))))) else
  (app yield1 [AcT v3]).bind fun v6 =>
  Bu n v6 (IntKind.i64.wrap (IntKind.i64.wrap (at_+16)+v1.fst)) x1 (IntKind.i64.wrap (IntKind.i64.wrap (at_+16)+v1.fst)) (IntKind.i64.wrap (index+1))) else
  some (.inr (.inl (((yield1,()),((yield2,()),())),((),((),((x1,()),()))))))) else
  some (.inr (.inl (((yield1,()),((yield2,()),())),((),((),((x1,()),()))))))) else
  some (.inl (((yield1,()),((yield2,()),())),((),((),((x1,()),())))))
def Fc (n:Nat) (y:C.Ds Ty (Af CF)):Option (YT Ty ID):=Bu n y.1.1.1 y.1.2.1.1 y.2.1.1 y.2.2.1 y.2.2.2.1
def Zcj (n:Nat):St Ty→Tr (Lf Ty):=Bc CF 4 ID (Fc n)
def Hp (n:Nat) (b:List (IK .u8)):Option ((List ByteArray×Int×Unit)) :=
 (Bu n [] 0 b 0 0).bind fun v0 =>
 Sum.elim (fun v1=>some (v1.fst.fst.fst,(v1.fst.snd.fst.fst,()))) (fun v1=>Sum.elim (fun v2=>some (v2.fst.fst.fst,(v2.fst.snd.fst.fst,()))) (fun v2=>some (v2.fst.fst.fst,(v2.fst.snd.fst.fst,()))) (v1)) (v0)
def Rk (n:Nat) (y:C.Ds Ty (Af Ic)):Option (YT Ty Mf):=Hp n y.1
def ZfA (n:Nat):AA Ty:=AB Ic 0 Mf (Rk n)
def Zcl (n:Nat):List (Nat×AA Ty):=[(127,Zgk n),(75,ZbC n),(125,Zdf n)]
theorem J5 (n:Nat):Ap Tryz.prog (Zcl n):=⟨WO n,⟨C9 n,⟨N7 n,trivial⟩⟩⟩
def ZgX (n:Nat):A0 Ty:=[]
def Zd3 (n:Nat):List (Nat×AA Ty):=(A8,Axl Tryz.prog (Al Tryz.prog (Zcl n) []) (Ae []) (Ae (ZgX n)) 38)::Zcl n
theorem Ol (n:Nat):Ap Tryz.prog (Zd3 n):=⟨AoX Aa Ab (Ac Aa Ab (J5 n) Ai) (fun _ _ _ h=>by cases h) (Ad (fn:=Tryz.f38) (c:=(RFs.rf 38).body) (N:=(RFs.rf 38).n) (L:=ZgX n) (ks:=[]) trivial (by kernel_rfl) (by kernel_rfl)),J5 n⟩
def ZeY (n:Nat):A0 Ty:=[]
theorem Va (n:Nat) (x:C.Ds Ty (Af CF)):(Ay Tryz.prog 63 (Al Tryz.prog (Zd3 n) []) (Ae (ZeY n)) (Am 2 Tryz.f126) (Av CF x)).runK (A4 4 CF ID (Fc n))=Fc (n+1) x:=by kernel_rfl
theorem Vb (n:Nat):A5 true Tryz.prog 63 (Zcj n) (.loop (Am 2 Tryz.f126)):=A6 fun x y hy=>At (Fn:=Fc) Aa Ab (fun n=>Ac Aa Ab (Ol n) Ai) (fun h=>by cases h) (fun h=>by cases h) (fun n=>(Ad (fn:=Tryz.f126) (L:=ZeY n) (ks:=[]) trivial (by kernel_rfl) (by kernel_rfl))) (by decide) (fun _=>rfl) Va hy
def ZgY (n:Nat):UF Ty:=[(126,[(.loop 2,Zcj n)])]
theorem XX (n:Nat):NY Tryz.prog (ZgY n):=⟨HA (f:=126) Tryz.func126 rfl (Ad (fn:=Tryz.f126) (L:=[(.loop 2,Zcj n)]) (ks:=[.loop 2]) ⟨Vb n,trivial⟩ (by kernel_rfl) (by kernel_rfl)),trivial⟩
def Zgl (n:Nat):St Ty→Tr (Lf Ty):=AwK Tryz.prog (Al Tryz.prog (Zd3 n) (ZgY n)) (.tmp 7) 38 [2,3]
theorem WP (n:Nat):A5 true Tryz.prog 20 (Zgl n) (NE (.rf 4) Tryz.f38):=Apb (Ac Aa Ab (Ol n) (XX n)) (by kernel_rfl) (by kernel_rfl)
def ZgZ (n:Nat):A0 Ty:=[(.rf 4,Zgl n)]
theorem ZX (n:Nat) (x:C.Ds Ty (Af Ic)):(Ay Tryz.prog 20 (Al Tryz.prog (Zcl n) []) (Ae (ZgZ n)) (Ao Tryz.f38) (Av Ic x)).runK (Ar Tryz.prog Tryz.f38.results.toList 0 Mf)=Rk n x:=by kernel_rfl
theorem Vc (n:Nat):Au Tryz.prog 38 (ZfA n):=As Tryz.func38 rfl rfl (by decide) rfl Aa Ab (Ac Aa Ab (J5 n) Ai) (Ad (fn:=Tryz.f38) (L:=ZgZ n) (ks:=[.rf 4]) ⟨WP n,trivial⟩ (by kernel_rfl) (by kernel_rfl)) (ZX n)
def Ns:List (Nat×C):=[(0,.s 9),(1,.s 3)]
def RH:List Wo:=[⟨.ret,[],[],[.s 9]⟩]
def N8 (n:Nat) (line:ByteArray) (index:Int):Option ((ByteArray×Unit)) :=
 bif decide ((↑line.size:Int)>999) then(some (B [],())) else
 (KD n (↑line.size:Int) 3).bind fun v0 =>
 (DC (B [91]) v0.fst).bind fun v1 =>
 (DC v1 (B [47])).bind fun v2 =>
 (KD n (IntKind.i64.wrap (999-(↑line.size:Int))) 3).bind fun v3 =>
 (DC v2 v3.fst).bind fun v4 =>
 (DC v4 (B [47])).bind fun v5 =>
 (Ue n line index).bind fun v6 =>
 (KD n v6.fst 5).bind fun v7 =>
 (DC v5 v7.fst).bind fun v8 =>
 (DC v8 (B [93])).bind fun v9 =>
 (DC v9 line).bind fun v10 =>
 (DC v10 (B [10])).bind fun v11 =>
 some (v11,())
def Y3 (n:Nat) (y:C.Ds Ty (Af Ns)):Option (YT Ty RH):=N8 n y.1 y.2.1
def ZeZ (n:Nat):AA Ty:=AB Ns 0 RH (Y3 n)
def Zjy (n:Nat):List (Nat×AA Ty):=[(128,ZhU n),(129,Zi7 n)]
theorem Af3 (n:Nat):Ap Tryz.prog (Zjy n):=⟨Ab3 n,⟨Ado n,trivial⟩⟩
def Zjz (n:Nat):A0 Ty:=[]
theorem Aiv (n:Nat) (x:C.Ds Ty (Af Ns)):(Ay Tryz.prog 28 (Al Tryz.prog (Zjy n) []) (Ae (Zjz n)) (Ao Tryz.f80) (Av Ns x)).runK (Ar Tryz.prog Tryz.f80.results.toList 0 RH)=Y3 n x:=by kernel_rfl
theorem Rl (n:Nat):Au Tryz.prog 80 (ZeZ n):=As Tryz.func80 rfl rfl (by decide) rfl Aa Ab (Ac Aa Ab (Af3 n) Ai) (Ad (fn:=Tryz.f80) (L:=Zjz n) (ks:=[]) trivial (by kernel_rfl) (by kernel_rfl)) (Aiv n)
def IE:List (Nat×C):=[(0,.l 9),(3,.s 9),(4,.s 3)]
def PZ:List Wo:=[⟨.exit 0,[],[(3,.s 9)],[]⟩]
def Rm:List (Nat×C):=[(0,.l 9)]
def WQ:List Wo:=[⟨.ret,[],[],[.s 9]⟩]
def Mg:Nat→(List ByteArray)→ByteArray→Int→Option ((ByteArray×Unit))
 | 0,_,_,_=>none
 | n+1,lines,out,i =>
  bif decide (i<(↑lines.length:Int)) then((A3 lines i).bind fun v0 =>
  (N8 n v0 i).bind fun v1 =>
  (DC out v1.fst).bind fun v2 =>
  Mg n lines v2 (IntKind.i64.wrap (i+1))) else
  some (out,())
def Mh (n:Nat) (y:C.Ds Ty (Af IE)):Option (YT Ty PZ):=Mg n y.1 y.2.1 y.2.2.1
def ZhI (n:Nat):St Ty→Tr (Lf Ty):=Bc IE 0 PZ (Mh n)
def Xr (n:Nat) (lines:List ByteArray):Option ((ByteArray×Unit)) :=
 (Mg n lines (B []) 0).bind fun v0 =>
 some (v0.fst,())
def AeA (n:Nat) (y:C.Ds Ty (Af Rm)):Option (YT Ty WQ):=Xr n y.1
def Zj0 (n:Nat):AA Ty:=El (AB Rm 0 WQ (AeA n))
def Ziu (n:Nat):List (Nat×AA Ty):=[(80,ZeZ n)]
theorem Y4 (n:Nat):Ap Tryz.prog (Ziu n):=⟨Rl n,trivial⟩
def Zja (n:Nat):A0 Ty:=[]
theorem Af4 (n:Nat) (x:C.Ds Ty (Af IE)):(Ay Tryz.prog 20 (Al Tryz.prog (Ziu n) []) (Ae (Zja n)) (Am 3 Tryz.f39) (Av IE x)).runK (A4 0 IE PZ (Mh n))=Mh (n+1) x:=by kernel_rfl
theorem Af5 (n:Nat):A5 true Tryz.prog 20 (ZhI n) (.loop (Am 3 Tryz.f39)):=A6 fun x y hy=>At (Fn:=Mh) Aa Ab (fun n=>Ac Aa Ab (Y4 n) Ai) (fun h=>by cases h) (fun h=>by cases h) (fun n=>(Ad (fn:=Tryz.f39) (L:=Zja n) (ks:=[]) trivial (by kernel_rfl) (by kernel_rfl))) (by decide) (fun _=>rfl) Af4 hy
def Zkp (n:Nat):A0 Ty:=[(.loop 3,ZhI n)]
theorem AlF (n:Nat) (x:C.Ds Ty (Af Rm)):(Ay Tryz.prog 20 (Al Tryz.prog (Ziu n) []) (Ae (Zkp n)) (Ao Tryz.f39) (Av Rm x)).runK (Ar Tryz.prog Tryz.f39.results.toList 0 WQ)=AeA n x:=by kernel_rfl
theorem Af6 (n:Nat):Au Tryz.prog 39 (Zj0 n):=AX (As Tryz.func39 rfl rfl (by decide) rfl Aa Ab (Ac Aa Ab (Y4 n) Ai) (Ad (fn:=Tryz.f39) (L:=Zkp n) (ks:=[.loop 3]) ⟨Af5 n,trivial⟩ (by kernel_rfl) (by kernel_rfl)) (AlF n))
def Fd:List (Nat×C):=[(0,.s 9),(4,.o 9),(5,.s 3),(6,.s 3),(7,.s 3)]
def Mi:List Wo:=[⟨.exit 2,[],[(0,.s 9),(4,.o 9),(5,.s 3),(6,.s 3)],[]⟩,⟨.ret,[],[(2,.o 9),(3,.s 3)],[]⟩]
def Fe:List (Nat×C):=[(0,.s 9),(4,.o 9),(5,.s 3)]
def Mj:List Wo:=[⟨.exit 0,[],[(4,.o 9),(5,.s 3)],[]⟩,⟨.ret,[],[(2,.o 9),(3,.s 3)],[]⟩]
def Ml:List (Nat×C):=[(0,.s 9)]
def Qa:List Wo:=[⟨.ret,[],[],[.o 9,.s 3]⟩]
def Hq:Nat→ByteArray→(List ByteArray)→Int→Int→Int→Option ((ByteArray×List ByteArray×Int×Int×Unit) ⊕ ((List ByteArray×Int×Unit)))
 | 0,_,_,_,_,_=>none
 | n+1,b,out,at_,n_,k =>
  bif decide (k≤IntKind.i64.wrap (at_+3)) then((NX b k).bind fun v0 =>
  bif !decide (v0.n<48) then((NX b k).bind fun v1 =>
  bif decide (v1.n>57) then(some (.inr (out,(at_,())))) else
  (NX b k).bind fun v2 =>
  Hq n b out at_ (IntKind.i64.wrap (IntKind.i64.wrap (10*n_)+IntKind.i64.wrap (IntKind.u8.wrap (v2.n-48)))) (IntKind.i64.wrap (k+1))) else
  some (.inr (out,(at_,())))) else
  some (.inl (b,(out,(at_,(n_,())))))
def Ie (n:Nat) (y:C.Ds Ty (Af Fd)):Option (YT Ty Mi):=Hq n y.1 y.2.1 y.2.2.1 y.2.2.2.1 y.2.2.2.2.1
def ZfB (n:Nat):St Ty→Tr (Lf Ty):=Bc Fd 0 Mi (Ie n)
def Cf:Nat→ByteArray→(List ByteArray)→Int→Option ((List ByteArray×Int×Unit) ⊕ ((List ByteArray×Int×Unit)))
 | 0,_,_,_=>none
 | n+1,b,out,at_ =>
  bif decide ((↑out.length:Int)<50) then(bif decide (IntKind.i64.wrap (at_+16)≤(↑b.size:Int)) then((Hq n b out at_ 0 (IntKind.i64.wrap (at_+1))).bind fun v0 =>
  Sum.elim (fun v1=>bif !decide (v1.snd.snd.snd.fst>200) then(bif decide (IntKind.i64.wrap (IntKind.i64.wrap (v1.snd.snd.fst+16)+v1.snd.snd.snd.fst)>(↑v1.fst.size:Int)) then(some (.inr (v1.snd.fst,(v1.snd.snd.fst,())))) else
  (Ki v1.fst (IntKind.i64.wrap (v1.snd.snd.fst+15)) (IntKind.i64.wrap (IntKind.i64.wrap (v1.snd.snd.fst+15)+v1.snd.snd.snd.fst))).bind fun v2 =>
  (N8 n v2 (↑v1.snd.fst.length:Int)).bind fun v3 =>
  (Ki v1.fst v1.snd.snd.fst (IntKind.i64.wrap (IntKind.i64.wrap (v1.snd.snd.fst+16)+v1.snd.snd.snd.fst))).bind fun v4 =>
  bif !v3.fst.beq v4 then(some (.inr (v1.snd.fst,(v1.snd.snd.fst,())))) else
  (app v1.snd.fst [v2]).bind fun v5 =>
  Cf n v1.fst v5 (IntKind.i64.wrap (IntKind.i64.wrap (v1.snd.snd.fst+16)+v1.snd.snd.snd.fst))) else
  some (.inr (v1.snd.fst,(v1.snd.snd.fst,())))) (fun v1=>some (.inr (v1.fst,(v1.snd.fst,())))) (v0)) else
  some (.inl (out,(at_,())))) else
  some (.inl (out,(at_,())))
def Ig (n:Nat) (y:C.Ds Ty (Af Fe)):Option (YT Ty Mj):=Cf n y.1 y.2.1 y.2.2.1
def ZfC (n:Nat):St Ty→Tr (Lf Ty):=Bc Fe 0 Mj (Ig n)
def OJ (n:Nat) (b:ByteArray):Option ((List ByteArray×Int×Unit)) :=
 (Cf n b [] 0).bind fun v0 =>
 Sum.elim (fun v1=>some (v1.fst,(v1.snd.fst,()))) (fun v1=>some (v1.fst,(v1.snd.fst,()))) (v0)
def WR (n:Nat) (y:C.Ds Ty (Af Ml)):Option (YT Ty Qa):=OJ n y.1
def ZhJ (n:Nat):AA Ty:=AB Ml 0 Qa (WR n)
def Zdj (n:Nat):List (Nat×AA Ty):=[(80,ZeZ n)]
theorem Nd (n:Nat):Ap Tryz.prog (Zdj n):=⟨Rl n,trivial⟩
def Zha (n:Nat):A0 Ty:=[]
theorem ZY (n:Nat) (x:C.Ds Ty (Af Fd)):(Ay Tryz.prog 92 (Al Tryz.prog (Zdj n) []) (Ae (Zha n)) (Am 6 Tryz.f40) (Av Fd x)).runK (A4 0 Fd Mi (Ie n))=Ie (n+1) x:=by kernel_rfl
theorem ZZ (n:Nat):A5 true Tryz.prog 92 (ZfB n) (.loop (Am 6 Tryz.f40)):=A6 fun x y hy=>At (Fn:=Ie) Aa Ab (fun n=>Ac Aa Ab (Nd n) Ai) (fun h=>by cases h) (fun h=>by cases h) (fun n=>(Ad (fn:=Tryz.f40) (L:=Zha n) (ks:=[]) trivial (by kernel_rfl) (by kernel_rfl))) (by decide) (fun _=>rfl) ZY hy
def Zhb (n:Nat):A0 Ty:=[(.loop 6,ZfB n)]
theorem Aaa (n:Nat) (x:C.Ds Ty (Af Fe)):(Ay Tryz.prog 92 (Al Tryz.prog (Zdj n) []) (Ae (Zhb n)) (Am 3 Tryz.f40) (Av Fe x)).runK (A4 0 Fe Mj (Ig n))=Ig (n+1) x:=by kernel_rfl
theorem Aab (n:Nat):A5 true Tryz.prog 92 (ZfC n) (.loop (Am 3 Tryz.f40)):=A6 fun x y hy=>At (Fn:=Ig) Aa Ab (fun n=>Ac Aa Ab (Nd n) Ai) (fun h=>by cases h) (fun h=>by cases h) (fun n=>(Ad (fn:=Tryz.f40) (L:=Zhb n) (ks:=[.loop 6]) ⟨ZZ n,trivial⟩ (by kernel_rfl) (by kernel_rfl))) (by decide) (fun _=>rfl) Aaa hy
def Zjb (n:Nat):A0 Ty:=[(.loop 3,ZfC n)]
theorem Af7 (n:Nat) (x:C.Ds Ty (Af Ml)):(Ay Tryz.prog 92 (Al Tryz.prog (Zdj n) []) (Ae (Zjb n)) (Ao Tryz.f40) (Av Ml x)).runK (Ar Tryz.prog Tryz.f40.results.toList 0 Qa)=WR n x:=by kernel_rfl
theorem Aac (n:Nat):Au Tryz.prog 40 (ZhJ n):=As Tryz.func40 rfl rfl (by decide) rfl Aa Ab (Ac Aa Ab (Nd n) Ai) (Ad (fn:=Tryz.f40) (L:=Zjb n) (ks:=[.loop 3]) ⟨Aab n,trivial⟩ (by kernel_rfl) (by kernel_rfl)) (Af7 n)
def Dh:List (Nat×C):=[(7,.o 9),(9,.u 114),(28,.l 9),(29,.s 3),(30,.s 3)]
def J6:List Wo:=[⟨.exit 0,[.u 114],[(7,.o 9)],[]⟩]
def Jj:List (Nat×C):=[(0,.l 5),(1,.l 9)]
def Nf:List Wo:=[⟨.ret,[],[],[.l 5,.s 37]⟩]
def CP:Nat→(List ByteArray)→Aj→(List ByteArray)→Int→Int→Option ((Aj×List ByteArray×Unit))
 | 0,_,_,_,_,_=>none
 | n+1,lines,now,x28,x29,x30 =>
  bif decide (x30<x29) then((A3 x28 x30).bind fun v0 =>
  (Aqu n now v0).bind fun v1 =>
  bif decide (v1.snd.fst=0) then((app lines [v0]).bind fun v2 =>
  CP n v2 v1.fst x28 x29 (IntKind.i64.wrap (x30+1))) else
  CP n lines v1.fst x28 x29 (IntKind.i64.wrap (x30+1))) else
  some (now,(lines,()))
def FT (n:Nat) (y:C.Ds Ty (Af Dh)):Option (YT Ty J6):=CP n y.1 y.2.1 y.2.2.1 y.2.2.2.1 y.2.2.2.2.1
def Ze2 (n:Nat):St Ty→Tr (Lf Ty):=Bc Dh 1 J6 (FT n)
def CG (n:Nat) (b:List (IK .u8)) (more:List ByteArray):Option ((List (IK .u8)×Int×Unit)) :=
 (Fx n more).bind fun v0 =>
 bif v0.fst != 0 then(some ([],(v0.fst,()))) else
 (Hp n b).bind fun v1 =>
 (Je n v1.fst).bind fun v2 =>
 (CP n v1.fst v2.fst more (↑more.length:Int) 0).bind fun v3 =>
 bif decide ((↑v3.snd.fst.length:Int)>50) then(some ([],(3,()))) else
 (Ho n v3.snd.fst).bind fun v4 =>
 some (v4.fst,(0,()))
def SP (n:Nat) (y:C.Ds Ty (Af Jj)):Option (YT Ty Nf):=CG n y.1 y.2.1
def Zgm (n:Nat):AA Ty:=AB Jj 0 Nf (SP n)
def ZdX (n:Nat):List (Nat×AA Ty):=[(52,ZbN n),(38,ZfA n),(53,Zc4 n),(84,ZjA n),(78,ZcD n)]
theorem Qb (n:Nat):Ap Tryz.prog (ZdX n):=⟨FO n,⟨Vc n,⟨K0 n,⟨Ae0 n,⟨M9 n,trivial⟩⟩⟩⟩⟩
def ZfD (n:Nat):A0 Ty:=[]
theorem WS (n:Nat) (x:C.Ds Ty (Af Dh)):(Ay Tryz.prog 48 (Al Tryz.prog (ZdX n) []) (Ae (ZfD n)) (Am 7 Tryz.f45) (Av Dh x)).runK (A4 1 Dh J6 (FT n))=FT (n+1) x:=by kernel_rfl
theorem WT (n:Nat):A5 true Tryz.prog 48 (Ze2 n) (.loop (Am 7 Tryz.f45)):=A6 fun x y hy=>At (Fn:=FT) Aa Ab (fun n=>Ac Aa Ab (Qb n) Ai) (fun h=>by cases h) (fun h=>by cases h) (fun n=>(Ad (fn:=Tryz.f45) (L:=ZfD n) (ks:=[]) trivial (by kernel_rfl) (by kernel_rfl))) (by decide) (fun _=>rfl) WS hy
def ZhK (n:Nat):A0 Ty:=[(.loop 7,Ze2 n)]
theorem AbY (n:Nat) (x:C.Ds Ty (Af Jj)):(Ay Tryz.prog 48 (Al Tryz.prog (ZdX n) []) (Ae (ZhK n)) (Ao Tryz.f45) (Av Jj x)).runK (Ar Tryz.prog Tryz.f45.results.toList 0 Nf)=SP n x:=by kernel_rfl
theorem WU (n:Nat):Au Tryz.prog 45 (Zgm n):=As Tryz.func45 rfl rfl (by decide) rfl Aa Ab (Ac Aa Ab (Qb n) Ai) (Ad (fn:=Tryz.f45) (L:=ZhK n) (ks:=[.loop 7]) ⟨WT n,trivial⟩ (by kernel_rfl) (by kernel_rfl)) (AbY n)
def BR:List (Nat×C):=[(1,.l 9),(5,.o 9),(7,.l 5),(8,.s 3),(9,.u 51),(11,.s 3)]
def Gq:List Wo:=[⟨.exit 0,[.u 51],[(5,.o 9),(7,.l 5),(8,.s 3)],[]⟩]
def Ff:List (Nat×C):=[(0,.l 5),(1,.l 9)]
def IF:List Wo:=[⟨.ret,[],[],[.s 4]⟩]
def BA:Nat→(List ByteArray)→(List ByteArray)→(List (IK .u8))→Int→An→Int→Option ((An×List ByteArray×List (IK .u8)×Int×Unit))
 | 0,_,_,_,_,_,_=>none
 | n+1,more,have_,x,e,s,i =>
  bif decide (i<(↑more.length:Int)) then((A3 more i).bind fun v0 =>
  (AbN n s v0).bind fun v1 =>
  bif decide (v1.snd.fst=0) then((A3 more i).bind fun v2 =>
  (app have_ [v2]).bind fun v3 =>
  BA n more v3 x e v1.fst (IntKind.i64.wrap (i+1))) else
  BA n more have_ x e v1.fst (IntKind.i64.wrap (i+1))) else
  some (s,(have_,(x,(e,()))))
def CQ (n:Nat) (y:C.Ds Ty (Af BR)):Option (YT Ty Gq):=BA n y.1 y.2.1 y.2.2.1 y.2.2.2.1 y.2.2.2.2.1 y.2.2.2.2.2.1
def ZcN (n:Nat):St Ty→Tr (Lf Ty):=Bc BR 1 Gq (CQ n)
def GU (n:Nat) (b:List (IK .u8)) (more:List ByteArray):Option ((Bool×Unit)) :=
 (P9 n more).bind fun v0 =>
 bif !!v0.fst then(bif decide ((↑b.length:Int)>3000) then((GT n).bind fun v1 =>
 some (v1.fst,())) else
 (OJ n (AcT b)).bind fun v1 =>
 (app [] v1.fst).bind fun v2 =>
 (app v2 more).bind fun v3 =>
 (P9 n v3).bind fun v4 =>
 bif !v4.fst then((GT n).bind fun v5 =>
 some (v5.fst,())) else
 (app [] b).bind fun v5 =>
 (app [] more).bind fun v6 =>
 (CG n v5 v6).bind fun v7 =>
 (Ug n more).bind fun v8 =>
 bif !v8.fst then(bif decide (v7.snd.fst=3) then(bif decide ((↑v7.fst.length:Int)=0) then((GT n).bind fun v9 =>
 some (v9.fst,())) else
 some (false,())) else
 some (false,())) else
 (Xq n v1.fst).bind fun v9 =>
 (BA n more v1.fst v7.fst v7.snd.fst v9.fst 0).bind fun v10 =>
 bif decide ((↑v10.snd.fst.length:Int)>50) then(bif decide (v10.snd.snd.snd.fst=3) then(bif decide ((↑v10.snd.snd.fst.length:Int)=0) then((GT n).bind fun v11 =>
 some (v11.fst,())) else
 some (false,())) else
 some (false,())) else
 bif decide (v10.snd.snd.snd.fst=0) then((Xr n v10.snd.fst).bind fun v11 =>
 bif (AcT v10.snd.snd.fst).beq v11.fst then((GT n).bind fun v12 =>
 some (v12.fst,())) else
 some (false,())) else
 some (false,())) else
 (GT n).bind fun v1 =>
 some (v1.fst,())
def N9 (n:Nat) (y:C.Ds Ty (Af Ff)):Option (YT Ty IF):=GU n y.1 y.2.1
def ZdR (n:Nat):AA Ty:=El (AB Ff 0 IF (N9 n))
def Zc5 (n:Nat):List (Nat×AA Ty):=[(19,ZjB n),(20,ZiZ n),(40,ZhJ n),(45,Zgm n),(23,ZiD n),(25,Zjx n),(46,Zis n),(39,Zj0 n)]
theorem Mm (n:Nat):Ap Tryz.prog (Zc5 n):=⟨Aik n,⟨AdF n,⟨Aac n,⟨WU n,⟨Adt n,⟨Afy n,⟨Y0 n,⟨Af6 n,trivial⟩⟩⟩⟩⟩⟩⟩⟩
def Zcu (n:Nat):UF Ty:=[(22,[])]
theorem KE (n:Nat):NY Tryz.prog (Zcu n):=⟨HA (f:=22) Tryz.func22 rfl (Ad (fn:=Tryz.f22) (L:=[]) (ks:=[]) trivial (by kernel_rfl) (by kernel_rfl)),trivial⟩
def Zdz (n:Nat):A0 Ty:=[]
theorem RI (n:Nat) (x:C.Ds Ty (Af BR)):(Ay Tryz.prog 113 (Al Tryz.prog (Zc5 n) (Zcu n)) (Ae (Zdz n)) (Am 11 Tryz.f14) (Av BR x)).runK (A4 1 BR Gq (CQ n))=CQ (n+1) x:=by kernel_rfl
theorem RJ (n:Nat):A5 true Tryz.prog 113 (ZcN n) (.loop (Am 11 Tryz.f14)):=A6 fun x y hy=>At (Fn:=CQ) Aa Ab (fun n=>Ac Aa Ab (Mm n) (KE n)) (fun h=>by cases h) (fun h=>by cases h) (fun n=>(Ad (fn:=Tryz.f14) (L:=Zdz n) (ks:=[]) trivial (by kernel_rfl) (by kernel_rfl))) (by decide) (fun _=>rfl) RI hy
def Zfa (n:Nat):A0 Ty:=[(.loop 11,ZcN n)]
theorem Vd (n:Nat) (x:C.Ds Ty (Af Ff)):(Ay Tryz.prog 113 (Al Tryz.prog (Zc5 n) (Zcu n)) (Ae (Zfa n)) (Ao Tryz.f14) (Av Ff x)).runK (Ar Tryz.prog Tryz.f14.results.toList 0 IF)=N9 n x:=by kernel_rfl
theorem RK (n:Nat):Au Tryz.prog 14 (ZdR n):=AX (As Tryz.func14 rfl rfl (by decide) rfl Aa Ab (Ac Aa Ab (Mm n) (KE n)) (Ad (fn:=Tryz.f14) (L:=Zfa n) (ks:=[.loop 11]) ⟨RJ n,trivial⟩ (by kernel_rfl) (by kernel_rfl)) (Vd n))
theorem Auv (k:Nat):GT (k+60)=some (true,()):=by kernel_rfl
end
end Go.Proofs.YtkpgggfibljflaaGreatDoor
