/- What a proof leans on: a machine that steps through code, and what functions compute. -/
import Derived.Test.YtkpgggfibljflaaGreatDoorgES17
set_option linter.all false
set_option maxRecDepth 100000
namespace Go.Proofs.YtkpgggfibljflaaGreatDoor
open Go Go.RowKit Go.Proofs
open Rep (rep)
def Ab4:Code→Code
  | .seq a _=>a
  | c=>c
theorem AfK:An Tryz.f84=.seq (Ab4 (An Tryz.f84)) (.seq (Ab4 (Sl 1 (An Tryz.f84))) (Sl 2 (An Tryz.f84))):=by kernel_rfl
def IG:List (Nat×C):=[(0,.u 114),(1,.s 9)]
def Uv:List Wo:=[⟨.ret,[.u 114],[],[.s 37]⟩]
def Akf (n:Nat) (g:Ah) (text:ByteArray):Option (Ah×Int×Unit):=(Ae0 n g text 0).bind fun y=>match y with
  | .inl a=>some (a.1,a.2.1.1,())
  | .inr a=>some (a.1,a.2.2.2.1.errno,())
def Ag6 (n:Nat) (y:C.Ds Ty (Aj IG)):Option (YT Ty Uv):=Akf n y.1 y.2.1
noncomputable def nextS_law (n:Nat):AE Ty:=AF IG 1 Uv (Ag6 n)
noncomputable def nextS_st (x:C.Ds Ty (Aj IG)):St Ty:=⟨[(4,.ptr 2000 0),(0,.ptr 0 0),(1,AdV (UV.view 9 x.2.1))],[(0,.blk (UV.view 114 x.1)),(2000,.blk [.int .i64 0])],2064⟩
theorem Akg (x:C.Ds Ty (Aj IG)):(Az Tryz.prog 50 (Am Tryz.prog [] []) (Ai []) (Ab4 (An Tryz.f84)) (Aw IG x)).runK some=some ⟨.normal,nextS_st x⟩:=by kernel_rfl
theorem Akh (t:Array Value) (d:List Deferred) (w:World) (Q:Exit→Act→World→Prop) (p:Addr) (ht:t.size=50) (hp:t[4]? = some (.pointer (some p)))
    (hQ:∀ t',t'.size=50→(∀ k,k≠11→t'[k]? = t[k]?)→Q .normal ⟨t',⟨.fn (.func 137) #[.pointer (some p)],#[]⟩::d⟩ w):(Ab4 (Sl 1 (An Tryz.f84))).wp Tryz.prog Q ⟨t,d⟩ w:=by
  have hc:Ab4 (Sl 1 (An Tryz.f84))=Code.region 1
      #[{ dst:=some 11,op:=Op.makeFunc (Fn.func 137) #[] #[Operand.tmp 4],type:=1,pos := "garage.go:102",
          after:=#[],guard:=none },
        { dst:=none,op:=Op.defer { callee:=Callee.value (Operand.tmp 11),args:=#[],argTypes:=#[] },
          type:=0,pos := "garage.go:102",after:=#[{ on:=0,ground:=Ground.data }],guard:=none }]
      false:=by kernel_rfl
  rw [hc]
  have hmf:∀ (fn:Fn)(first cap:Array Value)(w:World),(Instr.makeFunc fn first cap).run Tryz.prog w=.ok (.func fn first cap) w:=fun _ _ _ _=>rfl
  have h4:4<t.size:=by omega
  have h11:11<t.size:=by omega
  have he:t.getD 4 Go.undef=.pointer (some p):=by simp [Array.getD_eq_getD_getElem?,hp]
  refine wp_region ?_
  simp [wpOps,go_sem,hmf,Region.wanted,Act.eval,h11]
  rw [hp]
  exact .inl (.inl (hQ _ (by simp [ht]) fun k hk=>by rw [Array.getElem?_setIfInBounds_ne (Ne.symm hk)]))
noncomputable def nextS_m1 (a:Ah) (e:Int):AG Ty:=[(2000,.blk [.int .i64 e]),(0,.blk (UV.view 114 a))]
noncomputable def nextS_lf (k:EK) (a:Ah) (e r:Int):Lf Ty:=⟨k.ext [.ifc 234 (.agg [.int .i64 r])],⟨[(4,.ptr 2000 0)],nextS_m1 a e,2064⟩⟩
theorem AhP (Fn:C.Ds Ty (Aj M7)→Option (YT Ty Pa)) (x:C.Ds Ty (Aj IG)):(CK M7 2 Pa Fn (nextS_st x)).runK some=(Fn (x.1,x.2.1,((0:Int),()),())).bind fun y=>y.elim (fun a=>some (nextS_lf .ret a.1 a.2.1.1 0)) (fun a=>some (nextS_lf .pan a.1 a.2.1.1 a.2.2.2.1.errno)):=by kernel_rfl
theorem AhQ {F:Fr} {h:Ag} {g:GE} {t:Array Value} {w:World} {a:Ah} {e:Int} (hk:UE g h ([(4,.ptr 2000 0)]:List (Nat×V Ty)) t) (hm:Ao F h g (AL.get (nextS_m1 a e)) w):∃ us,V.dens g h ([.int .i64 e]:List (V Ty)) us∧(results Tryz.f84 t).run Tryz.prog w=.ok (SB us) w :=
  KZ (P:=Tryz.prog) (m:=[(4,.ptr 2000 0)]) (s:=nextS_m1 a e) (vs:=[.int .i64 e]) hk hm (by kernel_rfl)
theorem Aki (a:Ah) (e:Int):Gm 1 false ([.int .i64 e]:List (V Ty)) ⟨[],nextS_m1 a e,2064⟩ Uv=some (a,e,()):=by kernel_rfl
theorem Ag7 (a:Ah) (e:Int):AL.get (nextS_m1 a e) 2000=some (.blk [.int .i64 e]):=by kernel_rfl
theorem AfL (n:Nat) (x:C.Ds Ty (Aj IG)) (y:YT Ty Uv) (hy:Ag6 n x=some y) (F:Fr) (h:Ag) (g:GE) (t:Array Value) (w:World) (R:Ending→World→Prop) (hs:RS Tryz.f84.ntmps F h g (2*AC) (Aw IG x).m (Aw IG x).s t w)
    (hfin:∀ (F3:Fr)(h2:Ag)(g2:GE)(w3:World)(st:St Ty)(p:Bool)(rv:List (V Ty))(rus:List Value),st.m=[]→FD F F3 [] []→Ag.le h h2→(∀ i,i<2*AC→g2 i=g i)→2*AC≤st.nx→Ao F3 h2 g2 (AL.get st.s) w3→Oe st.nx (AL.get st.s)→Gm 1 p rv st Uv=some y→V.dens g2 h2 rv rus→V.oksB (D2 st.nx) rv=true→R (Ws p (SB rus)) w3) :
    (An Tryz.f84).wp Tryz.prog (bodyPostM Fence.wide 0 Tryz.prog Tryz.f84 R) ⟨t,[]⟩ w:=by
  have hn:Tryz.f84.ntmps=50:=by kernel_rfl
  rw [hn] at hs
  rw [AfK]
  refine wp_seq ?_
  refine BE (y:=true) (call:=Am Tryz.prog [] []) (cuts:=Ai []) Aa Ab (Ad (T:=[]) (I:=[]) Aa Ab trivial trivial) (fun h=>by cases h) (Ab4 (An Tryz.f84)) (fun h=>by cases h) (fun _ _ _ hf=>by cases hf) (Aw IG x) _ (Akg x) F h g t w _ [] hs ?_
  intro F1 d1 h1 g1 t1 w1 q0 q1 q2 q3 q4
  have hnx:(Aw IG x).nx=2*AC:=rfl
  rw [hnx] at q2
  show Code.wp Tryz.prog _ (bodyPostM Fence.wide 0 Tryz.prog Tryz.f84 R) ⟨t1,d1⟩ w1
  refine wp_seq ?_
  obtain⟨u,hu,hd⟩:=q4.kn 4 (.ptr 2000 0) rfl
  unfold V.den at hd
  subst hd
  refine Akh t1 d1 w1 _ ⟨(g1 2000).b,0,none⟩ q4.size hu fun t2 ht2 hk2=>?_
  show Code.wp Tryz.prog (Sl 2 (An Tryz.f84)) (bodyPostM Fence.wide 0 Tryz.prog Tryz.f84 R) _ w1
  have hcut:A9 true Tryz.prog 50 (CK M7 2 Pa (Uu n)) (Sl 2 (An Tryz.f84)):=AM fun x y hy=>AhO n hy
  have hk3:UE g1 h1 (nextS_st x).m t2:=fun k v hv=>by
    obtain⟨u',e1,e2⟩:=q4.kn k v hv
    refine⟨u',?_,e2⟩
    rw [hk2 k ?_]; exact e1
    intro hh
    subst hh
    cases hv
  have hs2:RS 50 F1 h1 g1 (nextS_st x).nx (nextS_st x).m (nextS_st x).s t2 w1:=⟨ht2,hk3,q4.mem,q4.im,q4.is_⟩
  -- what comes behind the body
  have fin:∀ (a:Ah)(e:Int),(a,e,())=y→∀ (F3:Fr)(h2:Ag)(g2:GE)(t3:Array Value)(w3:World),FD F F3 [] []→Ag.le h1 h2→(∀ i,i<2064→g2 i=g1 i)→UE g2 h2 ([(4,.ptr 2000 0)]:List (Nat×V Ty)) t3→Ao F3 h2 g2 (AL.get (nextS_m1 a e)) w3→Oe 2064 (AL.get (nextS_m1 a e))→LeavesInM Fence.wide 0 Tryz.prog Tryz.f84 t3 R [] .returning w3:=by
    intro a e hye F3 h2 g2 t3 w3 f1 f2 f3 f4 f5 f6
    obtain⟨us,r1,r2⟩:=AhQ f4 f5
    refine⟨SB us,r2,?_⟩
    have hlt:2*AC≤2064:=by decide
    exact hfin F3 h2 g2 w3 ⟨[],nextS_m1 a e,2064⟩ false [.int .i64 e] us rfl f1 (Ag.le_trans q1 f2) (fun i hi=>by rw [f3 i (Nat.lt_of_lt_of_le hi hlt),q2 i hi]) hlt f5 f6 ((Aki a e).trans (congrArg some hye)) r1 rfl
  obtain⟨bs1,hd1,nd1,hX1⟩:=q0.ds
  rw [List.append_nil] at hd1
  have rest:∀ (a:Ah)(e:Int),(a,e,())=y→∀ (F3:Fr)(h2:Ag)(g2:GE)(t3:Array Value)(w3:World),FD F1 F3 [] []→Ag.le h1 h2→(∀ i,i<2064→g2 i=g1 i)→UE g2 h2 ([(4,.ptr 2000 0)]:List (Nat×V Ty)) t3→Ao F3 h2 g2 (AL.get (nextS_m1 a e)) w3→Oe 2064 (AL.get (nextS_m1 a e))→LeavesInM Fence.wide 0 Tryz.prog Tryz.f84 t3 R d1 .returning w3:=by
    intro a e hye F3 h2 g2 t3 w3 f1 f2 f3 f4 f5 f6
    have:=FV (P:=Tryz.prog) (F:=F) (h:=h2) (g:=g2) (M:=AL.get (nextS_m1 a e)) (fn:=Tryz.f84) (t:=t3) (R:=R) (u:=.returning) (rest:=[]) (by simp) (fun F4 w4 k1 k2=>fin a e hye F4 h2 g2 t3 w4 k1 f2 f3 f4 k2 f6) bs1 F3 w3 ⟨by rw [f1.w,q0.w],by rw [f1.h,q0.h],fun b o hb=>f1.X b o (q0.X b o hb),[],rfl,List.nodup_nil,by simp⟩ f5 nd1 fun b hb=>⟨(hX1 b hb).1,f1.X _ _ (hX1 b hb).2⟩
    rw [List.append_nil] at this
    rw [hd1]; exact this
  have hy2:((Ae0 n x.1 x.2.1 0).bind fun y=>match y with
    | .inl a=>some (a.1,a.2.1.1,())
    | .inr a=>some (a.1,a.2.2.2.1.errno,()))=some y:=hy
  obtain⟨y0,hy0,hy3⟩:=Option.bind_eq_some_iff.1 hy2
  have hrun:=AhP (Uu n) x
  have hB:Uu n (x.1,x.2.1,((0:Int),()),())=some y0:=hy0
  rw [hB] at hrun
  cases y0 with
  | inl a =>
    have hye:=Option.some.inj hy3
    refine hcut (nextS_st x) _ hrun F1 h1 g1 t2 w1 _ _ hs2 ?_
    intro F2 d2 h2 g2 t3 w2 p0 p1 p2 p3 p4
    show LeavesInM Fence.wide 0 Tryz.prog Tryz.f84 t3 R d2 .returning w2
    obtain⟨bs,hd2,nd,hX⟩:=p0.ds
    rw [hd2]
    refine FV (P:=Tryz.prog) (F:=F1) (h:=h2) (g:=g2) (M:=AL.get (nextS_m1 a.1 a.2.1.1)) (by simp) (fun F4 w4 k1 k2=>?_) bs F2 w2 p0.nil p4.mem nd hX
    refine⟨by simp,.inr ⟨fun hh=>by simp [Fence.wide] at hh,_,_,137,#[.pointer (some ⟨(g1 2000).b,0,none⟩)],rfl,by simp [go_sem],fun _ _=>trivial,?_⟩⟩
    refine(AfI _ w4).mono ?_
    rintro e u' w' ⟨rfl,rfl,rfl⟩
    exact rest a.1 a.2.1.1 hye F4 h2 g2 t3 w' k1 p1 (fun i hi=>p2 i hi) p4.kn k2 p4.is_
  | inr a =>
    have hye:=Option.some.inj hy3
    refine hcut (nextS_st x) _ hrun F1 h1 g1 t2 w1 _ _ hs2 ?_
    intro F2 d2 h2 g2 t3 w2 p0 p1 p2 p3 p4
    intro v hv _
    show LeavesInM Fence.wide 0 Tryz.prog Tryz.f84 t3 R d2 (.panicking [{ v:=v,recovered:=false }]) w2
    have hvv:v=.iface 234 (.agg #[.int .i64 a.2.2.2.1.errno]):=by
      have hv:V.den g2 h2 (.ifc 234 (.agg [.int .i64 a.2.2.2.1.errno]):V Ty) v:=hv
      unfold V.den at hv
      obtain⟨z,rfl,hz⟩:=hv
      unfold V.den at hz
      obtain⟨us,rfl,hz⟩:=hz
      unfold V.dens at hz
      obtain⟨u1,us1,rfl,hz1,hz2⟩:=hz
      unfold V.dens at hz2
      unfold V.den at hz1
      subst hz1 hz2
      rfl
    subst hvv
    obtain⟨bs,hd2,nd,hX⟩:=p0.ds
    rw [hd2]
    refine FV (P:=Tryz.prog) (F:=F1) (h:=h2) (g:=g2) (M:=AL.get (nextS_m1 a.1 a.2.1.1)) (by simp) (fun F4 w4 k1 k2=>?_) bs F2 w2 p0.nil p4.mem nd hX
    refine⟨by simp,.inr ⟨fun hh=>by simp [Fence.wide] at hh,_,_,137,#[.pointer (some ⟨(g1 2000).b,0,none⟩)],rfl,by simp [go_sem],fun _ _=>trivial,?_⟩⟩
    have hm20:=Ag7 a.1 a.2.1.1
    obtain⟨us,T,b1,b2,b3,b4,b5⟩:=k2.blk hm20
    unfold V.dens at b2
    obtain⟨u1,us1,rfl,b6,b7⟩:=b2
    unfold V.dens at b7
    unfold V.den at b6
    subst b6 b7
    have hg20:(g2 2000).b=(g1 2000).b:=by rw [p2 2000 (show(2000:Nat)<2064 by decide)]
    rw [hg20] at b1
    have hlt:(g1 2000).b<w4.heap.size:=(Array.getElem?_eq_some_iff.1 b1).1
    have hfz:w4.frozen? ⟨(g1 2000).b,0,none⟩=false:=by simp [World.frozen?,b1]
    have hcl:w4.cell? ⟨(g1 2000).b,0,none⟩=some (.int .i64 a.2.1.1):=by
      have:=b5 0 _ rfl
      rw [hg20] at this
      exact this
    refine(Xi ⟨(g1 2000).b,0,none⟩ a.2.1.1 a.2.2.2.1.errno w4 hlt hcl hfz).mono ?_
    rintro e u' w' ⟨rfl,rfl,rfl⟩
    have ha:(w4.alloc (.cells #[.int .i64 a.2.2.2.1.errno] 234)).heap[(g1 2000).b]? = some (.cells #[.int .i64 a.2.1.1] T (0,0)):=by
      rw [show(w4.alloc (.cells #[.int .i64 a.2.2.2.1.errno] 234)).heap=w4.heap.push (.cells #[.int .i64 a.2.2.2.1.errno] 234) from rfl,Array.getElem?_push,if_neg (by omega)]
      exact b1
    have hgr:w4.grownBy (w4.alloc (.cells #[.int .i64 a.2.2.2.1.errno] 234)) none:=World.grownBy_alloc _ _ none
    have hm5:=(k2.grow hgr).set hm20 b4 (w':=(w4.alloc (.cells #[.int .i64 a.2.2.2.1.errno] 234)).setCell ⟨(g1 2000).b,0,none⟩ (.int .i64 a.2.2.2.1.errno)) (by rw [hg20]; exact Si _ ⟨(g1 2000).b,0,none⟩ _) (c':=.blk [.int .i64 a.2.2.2.1.errno]) ⟨b4,[.int .i64 a.2.2.2.1.errno],T,by rw [hg20]; exact Ac0 ha,by unfold V.dens V.dens; exact⟨_,[],rfl,by unfold V.den; rfl,rfl⟩,fun u hu=>by simp at hu; subst hu; rfl⟩
    have hsame:Mo.put (AL.get (nextS_m1 a.1 a.2.1.1)) 2000 (some (.blk [.int .i64 a.2.2.2.1.errno]))=AL.get (nextS_m1 a.1 a.2.2.2.1.errno):=by
      funext j
      unfold Mo.put
      by_cases hj:j=2000
      · subst hj; rw [if_pos rfl,Ag7]
      · rw [if_neg hj]
        show(bif Nat.beq 2000 j then _ else(bif Nat.beq 0 j then _ else none))=(bif Nat.beq 2000 j then _ else(bif Nat.beq 0 j then _ else none))
        have:Nat.beq 2000 j=false:=by
          cases hb:Nat.beq 2000 j with
          | false=>rfl
          | true=>exact absurd (Nat.eq_of_beq_eq_true hb).symm hj
        rw [this]; rfl
    rw [hsame] at hm5
    have his5:Oe 2064 (AL.get (nextS_m1 a.1 a.2.2.2.1.errno)):=fun i c hi=>by
      rw [← hsame] at hi
      unfold Mo.put at hi
      split at hi
      · rename_i hj; subst hj; cases hi; exact⟨rfl,rfl⟩
      · exact p4.is_ i c hi
    exact rest a.1 a.2.2.2.1.errno hye F4 h2 g2 t3 _ k1 p1 (fun i hi=>p2 i hi) p4.kn hm5 his5
theorem Ae3 (n:Nat):Ar Tryz.prog 84 (nextS_law n):=JF Tryz.func84 rfl rfl (by decide) rfl (AfL n)
end Go.Proofs.YtkpgggfibljflaaGreatDoor
namespace Go.Proofs.YtkpgggfibljflaaGreatDoor
open Go Go.RowKit Go.Proofs
open Rep (rep)
def Dl:List (Nat×C):=[(8,.l 9),(9,.s 3),(10,.s 3)]
def HL:List Wo:=[⟨.exit 0,[],[],[]⟩,⟨.ret,[],[(2,.s 3)],[]⟩]
def H1:List (Nat×C):=[(0,.l 9)]
def JZ:List Wo:=[⟨.ret,[],[],[.s 3]⟩]
def EG:Nat→(List ByteArray)→Int→Int→Option (Unit ⊕ ((Int×Unit)))
  | 0,_,_,_=>none
  | n+1,x8,x9,x10 =>
    bif decide (x10<x9) then((AO x8 x10).bind fun v0 =>
    bif decide ((↑v0.size:Int)>200) then(some (.inr (3,()))) else
    EG n x8 x9 (IntKind.i64.wrap (x10+1))) else
    some (.inl ())
def Fo (n:Nat) (y:C.Ds Ty (Aj Dl)):Option (YT Ty HL):=EG n y.1 y.2.1 y.2.2.1
noncomputable def fgarage_check_l1_cut (n:Nat):St Ty→Tr (Lf Ty):=CK Dl 0 HL (Fo n)
def FA (n:Nat) (lines:List ByteArray):Option ((Int×Unit)) :=
    bif decide ((↑lines.length:Int)>50) then(some (3,())) else
    (EG n lines (↑lines.length:Int) 0).bind fun v0 =>
    Sum.elim (fun v1=>some (0,())) (fun v1=>some (v1.fst,())) (v0)
def P3 (n:Nat) (y:C.Ds Ty (Aj H1)):Option (YT Ty JZ):=FA n y.1
noncomputable def fgarage_check_law (n:Nat):AE Ty:=IZ (AF H1 0 JZ (P3 n))
noncomputable def fgarage_check_T (n:Nat):List (Nat×AE Ty):=[]
theorem M8 (n:Nat):Aq Tryz.prog (fgarage_check_T n):=trivial
noncomputable def fgarage_check_l1_C (n:Nat):A3 Ty:=[]
theorem RP (n:Nat) (x:C.Ds Ty (Aj Dl)):(Az Tryz.prog 18 (Am Tryz.prog (fgarage_check_T n) []) (Ai (fgarage_check_l1_C n)) (Ap 4 Tryz.f52) (Aw Dl x)).runK (AI 0 Dl HL (Fo n))=Fo (n+1) x:=by kernel_rfl
theorem RQ (n:Nat):A9 true Tryz.prog 18 (fgarage_check_l1_cut n) (.loop (Ap 4 Tryz.f52)):=AM fun x y hy=>A2 (Fn:=Fo) Aa Ab (fun n=>Ad Aa Ab (M8 n) Al) (fun h=>by cases h) (fun h=>by cases h) (fun n=>(Af (fn:=Tryz.f52) (L:=fgarage_check_l1_C n) (ks:=[]) trivial (by kernel_rfl) (by kernel_rfl))) (by decide) (fun _=>rfl) RP hy
noncomputable def fgarage_check_C (n:Nat):A3 Ty:=[(.loop 4,fgarage_check_l1_cut n)]
theorem VD (n:Nat) (x:C.Ds Ty (Aj H1)):(Az Tryz.prog 18 (Am Tryz.prog (fgarage_check_T n) []) (Ai (fgarage_check_C n)) (An Tryz.f52) (Aw H1 x)).runK (As Tryz.prog Tryz.f52.results.toList 0 JZ)=P3 n x:=by kernel_rfl
theorem Hh (n:Nat):Ar Tryz.prog 52 (fgarage_check_law n):=C6 (Au Tryz.func52 rfl rfl (by decide) rfl Aa Ab (Ad Aa Ab (M8 n) Al) (Af (fn:=Tryz.f52) (L:=fgarage_check_C n) (ks:=[.loop 4]) ⟨RQ n,trivial⟩ (by kernel_rfl) (by kernel_rfl)) (VD n))
def G3:List (Nat×C):=[(0,.l 3),(1,.l 3),(5,.s 3)]
def L0:List Wo:=[⟨.exit 0,[],[],[]⟩,⟨.ret,[],[(4,.s 4)],[]⟩]
def M9:List (Nat×C):=[(0,.l 3),(1,.l 3)]
def QR:List Wo:=[⟨.ret,[],[],[.s 4]⟩]
def Pc:Nat→(List Int)→(List Int)→Int→Option (Unit ⊕ ((Bool×Unit)))
  | 0,_,_,_=>none
  | n+1,a,b,i =>
    bif decide (i<(↑a.length:Int)) then((AO a i).bind fun v0 =>
    (AO b i).bind fun v1 =>
    bif v0 != v1 then(some (.inr (false,()))) else
    Pc n a b (IntKind.i64.wrap (i+1))) else
    some (.inl ())
def IH (n:Nat) (y:C.Ds Ty (Aj G3)):Option (YT Ty L0):=Pc n y.1 y.2.1 y.2.2.1
noncomputable def flaw_ints_l1_cut (n:Nat):St Ty→Tr (Lf Ty):=CK G3 0 L0 (IH n)
def VE (n:Nat) (a:List Int) (b:List Int):Option ((Bool×Unit)) :=
    bif (↑a.length:Int) != (↑b.length:Int) then(some (false,())) else
    (Pc n a b 0).bind fun v0 =>
    Sum.elim (fun v1=>some (true,())) (fun v1=>some (v1.fst,())) (v0)
def WN (n:Nat) (y:C.Ds Ty (Aj M9)):Option (YT Ty QR):=VE n y.1 y.2.1
noncomputable def flaw_ints_law (n:Nat):AE Ty:=IZ (AF M9 0 QR (WN n))
noncomputable def flaw_ints_T (n:Nat):List (Nat×AE Ty):=[]
theorem Sm (n:Nat):Aq Tryz.prog (flaw_ints_T n):=trivial
noncomputable def flaw_ints_l1_C (n:Nat):A3 Ty:=[]
theorem Xj (n:Nat) (x:C.Ds Ty (Aj G3)):(Az Tryz.prog 26 (Am Tryz.prog (flaw_ints_T n) []) (Ai (flaw_ints_l1_C n)) (Ap 4 Tryz.f32) (Aw G3 x)).runK (AI 0 G3 L0 (IH n))=IH (n+1) x:=by kernel_rfl
theorem Xk (n:Nat):A9 true Tryz.prog 26 (flaw_ints_l1_cut n) (.loop (Ap 4 Tryz.f32)):=AM fun x y hy=>A2 (Fn:=IH) Aa Ab (fun n=>Ad Aa Ab (Sm n) Al) (fun h=>by cases h) (fun h=>by cases h) (fun n=>(Af (fn:=Tryz.f32) (L:=flaw_ints_l1_C n) (ks:=[]) trivial (by kernel_rfl) (by kernel_rfl))) (by decide) (fun _=>rfl) Xj hy
noncomputable def flaw_ints_C (n:Nat):A3 Ty:=[(.loop 4,flaw_ints_l1_cut n)]
theorem AcD (n:Nat) (x:C.Ds Ty (Aj M9)):(Az Tryz.prog 26 (Am Tryz.prog (flaw_ints_T n) []) (Ai (flaw_ints_C n)) (An Tryz.f32) (Aw M9 x)).runK (As Tryz.prog Tryz.f32.results.toList 0 QR)=WN n x:=by kernel_rfl
theorem Xl (n:Nat):Ar Tryz.prog 32 (flaw_ints_law n):=C6 (Au Tryz.func32 rfl rfl (by decide) rfl Aa Ab (Ad Aa Ab (Sm n) Al) (Af (fn:=Tryz.f32) (L:=flaw_ints_C n) (ks:=[.loop 4]) ⟨Xk n,trivial⟩ (by kernel_rfl) (by kernel_rfl)) (AcD n))
def Ht:List (Nat×C):=[(0,.l 9),(3,.s 3),(4,.s 3)]
def Na:List Wo:=[⟨.exit 0,[],[(0,.l 9),(3,.s 3)],[]⟩]
def Pd:List (Nat×C):=[(0,.l 9)]
def SQ:List Wo:=[⟨.ret,[],[],[.s 4]⟩]
def JN:Nat→(List ByteArray)→Int→Int→Option ((List ByteArray×Int×Unit))
  | 0,_,_,_=>none
  | n+1,lines,n_,i =>
    bif decide (i<(↑lines.length:Int)) then((AO lines i).bind fun v0 =>
    JN n lines (IntKind.i64.wrap (n_+(↑v0.size:Int))) (IntKind.i64.wrap (i+1))) else
    some (lines,(n_,()))
def J8 (n:Nat) (y:C.Ds Ty (Aj Ht)):Option (YT Ty Na):=JN n y.1 y.2.1 y.2.2.1
noncomputable def flaw_Few_l1_cut (n:Nat):St Ty→Tr (Lf Ty):=CK Ht 0 Na (J8 n)
def Uw (n:Nat) (lines:List ByteArray):Option ((Bool×Unit)) :=
    (JN n lines 0 0).bind fun v0 =>
    bif decide ((↑v0.fst.length:Int)≤30) then(bif !decide (v0.snd.fst≤1200) then(bif decide ((↑v0.fst.length:Int)≤52) then(bif !decide (v0.snd.fst≤400) then(bif decide ((↑v0.fst.length:Int)=1) then(some (decide (v0.snd.fst≤210),())) else
    some (false,())) else
    some (true,())) else
    bif decide ((↑v0.fst.length:Int)=1) then(some (decide (v0.snd.fst≤210),())) else
    some (false,())) else
    some (true,())) else
    bif decide ((↑v0.fst.length:Int)≤52) then(bif !decide (v0.snd.fst≤400) then(bif decide ((↑v0.fst.length:Int)=1) then(some (decide (v0.snd.fst≤210),())) else
    some (false,())) else
    some (true,())) else
    bif decide ((↑v0.fst.length:Int)=1) then(some (decide (v0.snd.fst≤210),())) else
    some (false,())
def ZG (n:Nat) (y:C.Ds Ty (Aj Pd)):Option (YT Ty SQ):=Uw n y.1
noncomputable def flaw_Few_law (n:Nat):AE Ty:=IZ (AF Pd 0 SQ (ZG n))
noncomputable def flaw_Few_T (n:Nat):List (Nat×AE Ty):=[]
theorem Ux (n:Nat):Aq Tryz.prog (flaw_Few_T n):=trivial
noncomputable def flaw_Few_l1_C (n:Nat):A3 Ty:=[]
theorem ZH (n:Nat) (x:C.Ds Ty (Aj Ht)):(Az Tryz.prog 43 (Am Tryz.prog (flaw_Few_T n) []) (Ai (flaw_Few_l1_C n)) (Ap 3 Tryz.f19) (Aw Ht x)).runK (AI 0 Ht Na (J8 n))=J8 (n+1) x:=by kernel_rfl
theorem ZI (n:Nat):A9 true Tryz.prog 43 (flaw_Few_l1_cut n) (.loop (Ap 3 Tryz.f19)):=AM fun x y hy=>A2 (Fn:=J8) Aa Ab (fun n=>Ad Aa Ab (Ux n) Al) (fun h=>by cases h) (fun h=>by cases h) (fun n=>(Af (fn:=Tryz.f19) (L:=flaw_Few_l1_C n) (ks:=[]) trivial (by kernel_rfl) (by kernel_rfl))) (by decide) (fun _=>rfl) ZH hy
noncomputable def flaw_Few_C (n:Nat):A3 Ty:=[(.loop 3,flaw_Few_l1_cut n)]
theorem Ae4 (n:Nat) (x:C.Ds Ty (Aj Pd)):(Az Tryz.prog 43 (Am Tryz.prog (flaw_Few_T n) []) (Ai (flaw_Few_C n)) (An Tryz.f19) (Aw Pd x)).runK (As Tryz.prog Tryz.f19.results.toList 0 SQ)=ZG n x:=by kernel_rfl
theorem ZJ (n:Nat):Ar Tryz.prog 19 (flaw_Few_law n):=C6 (Au Tryz.func19 rfl rfl (by decide) rfl Aa Ab (Ad Aa Ab (Ux n) Al) (Af (fn:=Tryz.f19) (L:=flaw_Few_C n) (ks:=[.loop 3]) ⟨ZI n,trivial⟩ (by kernel_rfl) (by kernel_rfl)) (Ae4 n))
def MA:List (Nat×C):=[(0,.l 9)]
def QS:List Wo:=[⟨.ret,[],[],[.o 9]⟩]
def R3 (n:Nat) (l:List ByteArray):Option ((List ByteArray×Unit)) :=
    (app [] l).bind fun v0 =>
    some (v0,())
def WO (n:Nat) (y:C.Ds Ty (Aj MA)):Option (YT Ty QS):=R3 n y.1
noncomputable def flaw_list_law (n:Nat):AE Ty:=AF MA 0 QS (WO n)
noncomputable def flaw_list_T (n:Nat):List (Nat×AE Ty):=[]
theorem Aax (n:Nat):Aq Tryz.prog (flaw_list_T n):=trivial
noncomputable def flaw_list_C (n:Nat):A3 Ty:=[]
theorem AcE (n:Nat) (x:C.Ds Ty (Aj MA)):(Az Tryz.prog 6 (Am Tryz.prog (flaw_list_T n) []) (Ai (flaw_list_C n)) (An Tryz.f22) (Aw MA x)).runK (As Tryz.prog Tryz.f22.results.toList 0 QS)=WO n x:=by kernel_rfl
theorem Xm (n:Nat):Ar Tryz.prog 22 (flaw_list_law n):=Au Tryz.func22 rfl rfl (by decide) rfl Aa Ab (Ad Aa Ab (Aax n) Al) (Af (fn:=Tryz.f22) (L:=flaw_list_C n) (ks:=[]) trivial (by kernel_rfl) (by kernel_rfl)) (AcE n)
def MB:List (Nat×C):=[(0,.s 9)]
def QT:List Wo:=[⟨.ret,[],[],[.s 3]⟩]
def R4 (n:Nat) (word:ByteArray):Option ((Int×Unit)) :=
    bif word.beq (B [111,117,116]) then(bif word.beq (B [111,117,116]) then(some (2,())) else
    bif word.beq (B [99,104,101,99,107,101,100]) then(bif word.beq (B [99,104,101,99,107,101,100]) then(some (3,())) else
    bif word.beq (B [102,111,117,110,100]) then(bif word.beq (B [102,111,117,110,100]) then(some (4,())) else
    bif word.beq (B [115,97,108,101]) then(bif word.beq (B [115,97,108,101]) then(some (5,())) else
    some (0,())) else
    bif word.beq (B [99,108,111,115,101]) then(bif word.beq (B [99,108,111,115,101]) then(some (5,())) else
    some (0,())) else
    bif word.beq (B [100,117,116,121]) then(some (5,())) else
    some (0,())) else
    bif word.beq (B [104,101,108,100]) then(bif word.beq (B [104,101,108,100]) then(some (4,())) else
    bif word.beq (B [115,97,108,101]) then(bif word.beq (B [115,97,108,101]) then(some (5,())) else
    some (0,())) else
    bif word.beq (B [99,108,111,115,101]) then(bif word.beq (B [99,108,111,115,101]) then(some (5,())) else
    some (0,())) else
    bif word.beq (B [100,117,116,121]) then(some (5,())) else
    some (0,())) else
    bif word.beq (B [115,105,103,110,101,100]) then(bif word.beq (B [115,105,103,110,101,100]) then(some (4,())) else
    bif word.beq (B [115,97,108,101]) then(bif word.beq (B [115,97,108,101]) then(some (5,())) else
    some (0,())) else
    bif word.beq (B [99,108,111,115,101]) then(bif word.beq (B [99,108,111,115,101]) then(some (5,())) else
    some (0,())) else
    bif word.beq (B [100,117,116,121]) then(some (5,())) else
    some (0,())) else
    bif word.beq (B [115,121,110,99]) then(some (4,())) else
    bif word.beq (B [115,97,108,101]) then(bif word.beq (B [115,97,108,101]) then(some (5,())) else
    some (0,())) else
    bif word.beq (B [99,108,111,115,101]) then(bif word.beq (B [99,108,111,115,101]) then(some (5,())) else
    some (0,())) else
    bif word.beq (B [100,117,116,121]) then(some (5,())) else
    some (0,())) else
    bif word.beq (B [105,110]) then(some (3,())) else
    bif word.beq (B [102,111,117,110,100]) then(bif word.beq (B [102,111,117,110,100]) then(some (4,())) else
    bif word.beq (B [115,97,108,101]) then(bif word.beq (B [115,97,108,101]) then(some (5,())) else
    some (0,())) else
    bif word.beq (B [99,108,111,115,101]) then(bif word.beq (B [99,108,111,115,101]) then(some (5,())) else
    some (0,())) else
    bif word.beq (B [100,117,116,121]) then(some (5,())) else
    some (0,())) else
    bif word.beq (B [104,101,108,100]) then(bif word.beq (B [104,101,108,100]) then(some (4,())) else
    bif word.beq (B [115,97,108,101]) then(bif word.beq (B [115,97,108,101]) then(some (5,())) else
    some (0,())) else
    bif word.beq (B [99,108,111,115,101]) then(bif word.beq (B [99,108,111,115,101]) then(some (5,())) else
    some (0,())) else
    bif word.beq (B [100,117,116,121]) then(some (5,())) else
    some (0,())) else
    bif word.beq (B [115,105,103,110,101,100]) then(bif word.beq (B [115,105,103,110,101,100]) then(some (4,())) else
    bif word.beq (B [115,97,108,101]) then(bif word.beq (B [115,97,108,101]) then(some (5,())) else
    some (0,())) else
    bif word.beq (B [99,108,111,115,101]) then(bif word.beq (B [99,108,111,115,101]) then(some (5,())) else
    some (0,())) else
    bif word.beq (B [100,117,116,121]) then(some (5,())) else
    some (0,())) else
    bif word.beq (B [115,121,110,99]) then(some (4,())) else
    bif word.beq (B [115,97,108,101]) then(bif word.beq (B [115,97,108,101]) then(some (5,())) else
    some (0,())) else
    bif word.beq (B [99,108,111,115,101]) then(bif word.beq (B [99,108,111,115,101]) then(some (5,())) else
    some (0,())) else
    bif word.beq (B [100,117,116,121]) then(some (5,())) else
    some (0,())) else
    bif word.beq (B [100,114,105,118,101,114]) then(bif word.beq (B [100,114,105,118,101,114]) then(some (2,())) else
    bif word.beq (B [99,104,101,99,107,101,100]) then(bif word.beq (B [99,104,101,99,107,101,100]) then(some (3,())) else
    bif word.beq (B [102,111,117,110,100]) then(bif word.beq (B [102,111,117,110,100]) then(some (4,())) else
    bif word.beq (B [115,97,108,101]) then(bif word.beq (B [115,97,108,101]) then(some (5,())) else
    some (0,())) else
    bif word.beq (B [99,108,111,115,101]) then(bif word.beq (B [99,108,111,115,101]) then(some (5,())) else
    some (0,())) else
    bif word.beq (B [100,117,116,121]) then(some (5,())) else
    some (0,())) else
    bif word.beq (B [104,101,108,100]) then(bif word.beq (B [104,101,108,100]) then(some (4,())) else
    bif word.beq (B [115,97,108,101]) then(bif word.beq (B [115,97,108,101]) then(some (5,())) else
    some (0,())) else
    bif word.beq (B [99,108,111,115,101]) then(bif word.beq (B [99,108,111,115,101]) then(some (5,())) else
    some (0,())) else
    bif word.beq (B [100,117,116,121]) then(some (5,())) else
    some (0,())) else
    bif word.beq (B [115,105,103,110,101,100]) then(bif word.beq (B [115,105,103,110,101,100]) then(some (4,())) else
    bif word.beq (B [115,97,108,101]) then(bif word.beq (B [115,97,108,101]) then(some (5,())) else
    some (0,())) else
    bif word.beq (B [99,108,111,115,101]) then(bif word.beq (B [99,108,111,115,101]) then(some (5,())) else
    some (0,())) else
    bif word.beq (B [100,117,116,121]) then(some (5,())) else
    some (0,())) else
    bif word.beq (B [115,121,110,99]) then(some (4,())) else
    bif word.beq (B [115,97,108,101]) then(bif word.beq (B [115,97,108,101]) then(some (5,())) else
    some (0,())) else
    bif word.beq (B [99,108,111,115,101]) then(bif word.beq (B [99,108,111,115,101]) then(some (5,())) else
    some (0,())) else
    bif word.beq (B [100,117,116,121]) then(some (5,())) else
    some (0,())) else
    bif word.beq (B [105,110]) then(some (3,())) else
    bif word.beq (B [102,111,117,110,100]) then(bif word.beq (B [102,111,117,110,100]) then(some (4,())) else
    bif word.beq (B [115,97,108,101]) then(bif word.beq (B [115,97,108,101]) then(some (5,())) else
    some (0,())) else
    bif word.beq (B [99,108,111,115,101]) then(bif word.beq (B [99,108,111,115,101]) then(some (5,())) else
    some (0,())) else
    bif word.beq (B [100,117,116,121]) then(some (5,())) else
    some (0,())) else
    bif word.beq (B [104,101,108,100]) then(bif word.beq (B [104,101,108,100]) then(some (4,())) else
    bif word.beq (B [115,97,108,101]) then(bif word.beq (B [115,97,108,101]) then(some (5,())) else
    some (0,())) else
    bif word.beq (B [99,108,111,115,101]) then(bif word.beq (B [99,108,111,115,101]) then(some (5,())) else
    some (0,())) else
    bif word.beq (B [100,117,116,121]) then(some (5,())) else
    some (0,())) else
    bif word.beq (B [115,105,103,110,101,100]) then(bif word.beq (B [115,105,103,110,101,100]) then(some (4,())) else
    bif word.beq (B [115,97,108,101]) then(bif word.beq (B [115,97,108,101]) then(some (5,())) else
    some (0,())) else
    bif word.beq (B [99,108,111,115,101]) then(bif word.beq (B [99,108,111,115,101]) then(some (5,())) else
    some (0,())) else
    bif word.beq (B [100,117,116,121]) then(some (5,())) else
    some (0,())) else
    bif word.beq (B [115,121,110,99]) then(some (4,())) else
    bif word.beq (B [115,97,108,101]) then(bif word.beq (B [115,97,108,101]) then(some (5,())) else
    some (0,())) else
    bif word.beq (B [99,108,111,115,101]) then(bif word.beq (B [99,108,111,115,101]) then(some (5,())) else
    some (0,())) else
    bif word.beq (B [100,117,116,121]) then(some (5,())) else
    some (0,())) else
    bif word.beq (B [103,105,118,101]) then(some (2,())) else
    bif word.beq (B [99,104,101,99,107,101,100]) then(bif word.beq (B [99,104,101,99,107,101,100]) then(some (3,())) else
    bif word.beq (B [102,111,117,110,100]) then(bif word.beq (B [102,111,117,110,100]) then(some (4,())) else
    bif word.beq (B [115,97,108,101]) then(bif word.beq (B [115,97,108,101]) then(some (5,())) else
    some (0,())) else
    bif word.beq (B [99,108,111,115,101]) then(bif word.beq (B [99,108,111,115,101]) then(some (5,())) else
    some (0,())) else
    bif word.beq (B [100,117,116,121]) then(some (5,())) else
    some (0,())) else
    bif word.beq (B [104,101,108,100]) then(bif word.beq (B [104,101,108,100]) then(some (4,())) else
    bif word.beq (B [115,97,108,101]) then(bif word.beq (B [115,97,108,101]) then(some (5,())) else
    some (0,())) else
    bif word.beq (B [99,108,111,115,101]) then(bif word.beq (B [99,108,111,115,101]) then(some (5,())) else
    some (0,())) else
    bif word.beq (B [100,117,116,121]) then(some (5,())) else
    some (0,())) else
    bif word.beq (B [115,105,103,110,101,100]) then(bif word.beq (B [115,105,103,110,101,100]) then(some (4,())) else
    bif word.beq (B [115,97,108,101]) then(bif word.beq (B [115,97,108,101]) then(some (5,())) else
    some (0,())) else
    bif word.beq (B [99,108,111,115,101]) then(bif word.beq (B [99,108,111,115,101]) then(some (5,())) else
    some (0,())) else
    bif word.beq (B [100,117,116,121]) then(some (5,())) else
    some (0,())) else
    bif word.beq (B [115,121,110,99]) then(some (4,())) else
    bif word.beq (B [115,97,108,101]) then(bif word.beq (B [115,97,108,101]) then(some (5,())) else
    some (0,())) else
    bif word.beq (B [99,108,111,115,101]) then(bif word.beq (B [99,108,111,115,101]) then(some (5,())) else
    some (0,())) else
    bif word.beq (B [100,117,116,121]) then(some (5,())) else
    some (0,())) else
    bif word.beq (B [105,110]) then(some (3,())) else
    bif word.beq (B [102,111,117,110,100]) then(bif word.beq (B [102,111,117,110,100]) then(some (4,())) else
    bif word.beq (B [115,97,108,101]) then(bif word.beq (B [115,97,108,101]) then(some (5,())) else
    some (0,())) else
    bif word.beq (B [99,108,111,115,101]) then(bif word.beq (B [99,108,111,115,101]) then(some (5,())) else
    some (0,())) else
    bif word.beq (B [100,117,116,121]) then(some (5,())) else
    some (0,())) else
    bif word.beq (B [104,101,108,100]) then(bif word.beq (B [104,101,108,100]) then(some (4,())) else
    bif word.beq (B [115,97,108,101]) then(bif word.beq (B [115,97,108,101]) then(some (5,())) else
    some (0,())) else
    bif word.beq (B [99,108,111,115,101]) then(bif word.beq (B [99,108,111,115,101]) then(some (5,())) else
    some (0,())) else
    bif word.beq (B [100,117,116,121]) then(some (5,())) else
    some (0,())) else
    bif word.beq (B [115,105,103,110,101,100]) then(bif word.beq (B [115,105,103,110,101,100]) then(some (4,())) else
    bif word.beq (B [115,97,108,101]) then(bif word.beq (B [115,97,108,101]) then(some (5,())) else
    some (0,())) else
    bif word.beq (B [99,108,111,115,101]) then(bif word.beq (B [99,108,111,115,101]) then(some (5,())) else
    some (0,())) else
    bif word.beq (B [100,117,116,121]) then(some (5,())) else
    some (0,())) else
    bif word.beq (B [115,121,110,99]) then(some (4,())) else
    bif word.beq (B [115,97,108,101]) then(bif word.beq (B [115,97,108,101]) then(some (5,())) else
    some (0,())) else
    bif word.beq (B [99,108,111,115,101]) then(bif word.beq (B [99,108,111,115,101]) then(some (5,())) else
    some (0,())) else
    bif word.beq (B [100,117,116,121]) then(some (5,())) else
    some (0,())
def WP (n:Nat) (y:C.Ds Ty (Aj MB)):Option (YT Ty QT):=R4 n y.1
noncomputable def fref_many_law (n:Nat):AE Ty:=AF MB 0 QT (WP n)
noncomputable def fref_many_T (n:Nat):List (Nat×AE Ty):=[]
theorem Aay (n:Nat):Aq Tryz.prog (fref_many_T n):=trivial
noncomputable def fref_many_C (n:Nat):A3 Ty:=[]
theorem AcF (n:Nat) (x:C.Ds Ty (Aj MB)):(Az Tryz.prog 20 (Am Tryz.prog (fref_many_T n) []) (Ai (fref_many_C n)) (An Tryz.f64) (Aw MB x)).runK (As Tryz.prog Tryz.f64.results.toList 0 QT)=WP n x:=by kernel_rfl
theorem Xn (n:Nat):Ar Tryz.prog 64 (fref_many_law n):=Au Tryz.func64 rfl rfl (by decide) rfl Aa Ab (Ad Aa Ab (Aay n) Al) (Af (fn:=Tryz.f64) (L:=fref_many_C n) (ks:=[]) trivial (by kernel_rfl) (by kernel_rfl)) (AcF n)
def Fy:List (Nat×C):=[(0,.s 9),(3,.o 9),(4,.s 3),(5,.s 3)]
def Ka:List Wo:=[⟨.exit 0,[],[(3,.o 9)],[]⟩]
def K5:List (Nat×C):=[(0,.s 9)]
def Pe:List Wo:=[⟨.ret,[],[],[.l 9]⟩]
def Da:Nat→ByteArray→(List ByteArray)→Int→Int→Option ((List ByteArray×Unit))
  | 0,_,_,_,_=>none
  | n+1,s,out,from_,i =>
    bif decide (i≤(↑s.size:Int)) then(bif !decide (i=(↑s.size:Int)) then((Px s i).bind fun v0 =>
    bif decide (v0.n=32) then((JU s from_ i).bind fun v1 =>
    (app out [v1]).bind fun v2 =>
    Da n s v2 (IntKind.i64.wrap (i+1)) (IntKind.i64.wrap (i+1))) else
    Da n s out from_ (IntKind.i64.wrap (i+1))) else
    (JU s from_ i).bind fun v0 =>
    (app out [v0]).bind fun v1 =>
    Da n s v1 (IntKind.i64.wrap (i+1)) (IntKind.i64.wrap (i+1))) else
    some (out,())
def H3 (n:Nat) (y:C.Ds Ty (Aj Fy)):Option (YT Ty Ka):=Da n y.1 y.2.1 y.2.2.1 y.2.2.2.1
noncomputable def fref_Split_l1_cut (n:Nat):St Ty→Tr (Lf Ty):=CK Fy 0 Ka (H3 n)
def Pf (n:Nat) (s:ByteArray):Option ((List ByteArray×Unit)) :=
    (Da n s [] 0 0).bind fun v0 =>
    some (v0.fst,())
def Uy (n:Nat) (y:C.Ds Ty (Aj K5)):Option (YT Ty Pe):=Pf n y.1
noncomputable def fref_Split_law (n:Nat):AE Ty:=AF K5 0 Pe (Uy n)
noncomputable def fref_Split_T (n:Nat):List (Nat×AE Ty):=[]
theorem QU (n:Nat):Aq Tryz.prog (fref_Split_T n):=trivial
noncomputable def fref_Split_l1_C (n:Nat):A3 Ty:=[]
theorem VF (n:Nat) (x:C.Ds Ty (Aj Fy)):(Az Tryz.prog 32 (Am Tryz.prog (fref_Split_T n) []) (Ai (fref_Split_l1_C n)) (Ap 4 Tryz.f63) (Aw Fy x)).runK (AI 0 Fy Ka (H3 n))=H3 (n+1) x:=by kernel_rfl
theorem VG (n:Nat):A9 true Tryz.prog 32 (fref_Split_l1_cut n) (.loop (Ap 4 Tryz.f63)):=AM fun x y hy=>A2 (Fn:=H3) Aa Ab (fun n=>Ad Aa Ab (QU n) Al) (fun h=>by cases h) (fun h=>by cases h) (fun n=>(Af (fn:=Tryz.f63) (L:=fref_Split_l1_C n) (ks:=[]) trivial (by kernel_rfl) (by kernel_rfl))) (by decide) (fun _=>rfl) VF hy
noncomputable def fref_Split_C (n:Nat):A3 Ty:=[(.loop 4,fref_Split_l1_cut n)]
theorem Aaz (n:Nat) (x:C.Ds Ty (Aj K5)):(Az Tryz.prog 32 (Am Tryz.prog (fref_Split_T n) []) (Ai (fref_Split_C n)) (An Tryz.f63) (Aw K5 x)).runK (As Tryz.prog Tryz.f63.results.toList 0 Pe)=Uy n x:=by kernel_rfl
theorem VH (n:Nat):Ar Tryz.prog 63 (fref_Split_law n):=Au Tryz.func63 rfl rfl (by decide) rfl Aa Ab (Ad Aa Ab (QU n) Al) (Af (fn:=Tryz.f63) (L:=fref_Split_C n) (ks:=[.loop 4]) ⟨VG n,trivial⟩ (by kernel_rfl) (by kernel_rfl)) (Aaz n)
def Fz:List (Nat×C):=[(4,.s 4),(5,.s 9),(6,.s 3),(7,.s 3)]
def Kb:List Wo:=[⟨.exit 0,[],[(4,.s 4),(6,.s 3)],[]⟩,⟨.ret,[],[(2,.s 3),(3,.s 4)],[]⟩]
def K6:List (Nat×C):=[(0,.s 9)]
def Pg:List Wo:=[⟨.ret,[],[],[.s 3,.s 4]⟩]
def Bc:Nat→Bool→ByteArray→Int→Int→Option ((Bool×Int×Unit) ⊕ ((Int×Bool×Unit)))
  | 0,_,_,_,_=>none
  | n+1,minus,d,n_,i =>
    bif decide (i<(↑d.size:Int)) then((Px d i).bind fun v0 =>
    bif !decide (v0.n<48) then((Px d i).bind fun v1 =>
    bif decide (v1.n>57) then(some (.inr (0,(false,())))) else
    (Px d i).bind fun v2 =>
    Bc n minus d (IntKind.i64.wrap (IntKind.i64.wrap (10*n_)+IntKind.i64.wrap (IntKind.u8.wrap (v2.n-48)))) (IntKind.i64.wrap (i+1))) else
    some (.inr (0,(false,())))) else
    some (.inl (minus,(n_,())))
def H4 (n:Nat) (y:C.Ds Ty (Aj Fz)):Option (YT Ty Kb):=Bc n y.1 y.2.1 y.2.2.1 y.2.2.2.1
noncomputable def fref_whole_l1_cut (n:Nat):St Ty→Tr (Lf Ty):=CK Fz 0 Kb (H4 n)
def Ph (n:Nat) (s:ByteArray):Option ((Int×Bool×Unit)) :=
    bif decide ((↑s.size:Int)>0) then((Px s 0).bind fun v0 =>
    bif decide (v0.n=45) then((JU s 1 (↑s.size:Int)).bind fun v1 =>
    bif !decide ((↑v1.size:Int)=0) then(bif !decide ((↑v1.size:Int)>9) then((Px v1 0).bind fun v2 =>
    bif decide (v2.n=48) then(bif !decide ((↑v1.size:Int)>1) then(bif decide (v0.n=45) then(some (0,(false,()))) else
    (Bc n (decide (v0.n=45)) v1 0 0).bind fun v3 =>
    Sum.elim (fun v4=>bif v4.fst then(some (IntKind.i64.wrap (0-v4.snd.fst),(true,()))) else
    some (v4.snd.fst,(true,()))) (fun v4=>some (v4.fst,(v4.snd.fst,()))) (v3)) else
    some (0,(false,()))) else
    (Bc n (decide (v0.n=45)) v1 0 0).bind fun v3 =>
    Sum.elim (fun v4=>bif v4.fst then(some (IntKind.i64.wrap (0-v4.snd.fst),(true,()))) else
    some (v4.snd.fst,(true,()))) (fun v4=>some (v4.fst,(v4.snd.fst,()))) (v3)) else
    some (0,(false,()))) else
    some (0,(false,()))) else
    bif !decide ((↑s.size:Int)=0) then(bif !decide ((↑s.size:Int)>9) then((Px s 0).bind fun v1 =>
    bif decide (v1.n=48) then(bif !decide ((↑s.size:Int)>1) then(bif decide (v0.n=45) then(some (0,(false,()))) else
    (Bc n (decide (v0.n=45)) s 0 0).bind fun v2 =>
    Sum.elim (fun v3=>bif v3.fst then(some (IntKind.i64.wrap (0-v3.snd.fst),(true,()))) else
    some (v3.snd.fst,(true,()))) (fun v3=>some (v3.fst,(v3.snd.fst,()))) (v2)) else
    some (0,(false,()))) else
    (Bc n (decide (v0.n=45)) s 0 0).bind fun v2 =>
    Sum.elim (fun v3=>bif v3.fst then(some (IntKind.i64.wrap (0-v3.snd.fst),(true,()))) else
    some (v3.snd.fst,(true,()))) (fun v3=>some (v3.fst,(v3.snd.fst,()))) (v2)) else
    some (0,(false,()))) else
    some (0,(false,()))) else
    bif !decide ((↑s.size:Int)=0) then(bif !decide ((↑s.size:Int)>9) then((Px s 0).bind fun v0 =>
    bif decide (v0.n=48) then(bif !decide ((↑s.size:Int)>1) then((Bc n false s 0 0).bind fun v1 =>
    Sum.elim (fun v2=>bif v2.fst then(some (IntKind.i64.wrap (0-v2.snd.fst),(true,()))) else
    some (v2.snd.fst,(true,()))) (fun v2=>some (v2.fst,(v2.snd.fst,()))) (v1)) else
    some (0,(false,()))) else
    (Bc n false s 0 0).bind fun v1 =>
    Sum.elim (fun v2=>bif v2.fst then(some (IntKind.i64.wrap (0-v2.snd.fst),(true,()))) else
    some (v2.snd.fst,(true,()))) (fun v2=>some (v2.fst,(v2.snd.fst,()))) (v1)) else
    some (0,(false,()))) else
    some (0,(false,()))
def Uz (n:Nat) (y:C.Ds Ty (Aj K6)):Option (YT Ty Pg):=Ph n y.1
noncomputable def fref_whole_law (n:Nat):AE Ty:=AF K6 0 Pg (Uz n)
noncomputable def fref_whole_T (n:Nat):List (Nat×AE Ty):=[]
theorem QV (n:Nat):Aq Tryz.prog (fref_whole_T n):=trivial
noncomputable def fref_whole_l1_C (n:Nat):A3 Ty:=[]
theorem VI (n:Nat) (x:C.Ds Ty (Aj Fz)):(Az Tryz.prog 69 (Am Tryz.prog (fref_whole_T n) []) (Ai (fref_whole_l1_C n)) (Ap 9 Tryz.f65) (Aw Fz x)).runK (AI 0 Fz Kb (H4 n))=H4 (n+1) x:=by kernel_rfl
theorem VJ (n:Nat):A9 true Tryz.prog 69 (fref_whole_l1_cut n) (.loop (Ap 9 Tryz.f65)):=AM fun x y hy=>A2 (Fn:=H4) Aa Ab (fun n=>Ad Aa Ab (QV n) Al) (fun h=>by cases h) (fun h=>by cases h) (fun n=>(Af (fn:=Tryz.f65) (L:=fref_whole_l1_C n) (ks:=[]) trivial (by kernel_rfl) (by kernel_rfl))) (by decide) (fun _=>rfl) VI hy
noncomputable def fref_whole_C (n:Nat):A3 Ty:=[(.loop 9,fref_whole_l1_cut n)]
theorem Aa0 (n:Nat) (x:C.Ds Ty (Aj K6)):(Az Tryz.prog 69 (Am Tryz.prog (fref_whole_T n) []) (Ai (fref_whole_C n)) (An Tryz.f65) (Aw K6 x)).runK (As Tryz.prog Tryz.f65.results.toList 0 Pg)=Uz n x:=by kernel_rfl
theorem VK (n:Nat):Ar Tryz.prog 65 (fref_whole_law n):=Au Tryz.func65 rfl rfl (by decide) rfl Aa Ab (Ad Aa Ab (QV n) Al) (Af (fn:=Tryz.f65) (L:=fref_whole_C n) (ks:=[.loop 9]) ⟨VJ n,trivial⟩ (by kernel_rfl) (by kernel_rfl)) (Aa0 n)
def F0:List (Nat×C):=[(0,.l 9),(3,.s 3)]
def Kc:List Wo:=[⟨.exit 0,[],[(0,.l 9)],[]⟩,⟨.ret,[],[(2,.s 4)],[]⟩]
def K7:List (Nat×C):=[(0,.l 9)]
def Pi:List Wo:=[⟨.ret,[],[],[.s 4]⟩]
def J9:Nat→(List ByteArray)→Int→Option ((List ByteArray×Unit) ⊕ ((Bool×Unit)))
  | 0,_,_=>none
  | n+1,lines,i =>
    bif decide (i<(↑lines.length:Int)) then((AO lines i).bind fun v0 =>
    bif decide ((↑v0.size:Int)>200) then(some (.inr (false,()))) else
    J9 n lines (IntKind.i64.wrap (i+1))) else
    some (.inl (lines,()))
def H5 (n:Nat) (y:C.Ds Ty (Aj F0)):Option (YT Ty Kc):=J9 n y.1 y.2.1
noncomputable def fref_Right_l1_cut (n:Nat):St Ty→Tr (Lf Ty):=CK F0 0 Kc (H5 n)
def Pj (n:Nat) (lines:List ByteArray):Option ((Bool×Unit)) :=
    (J9 n lines 0).bind fun v0 =>
    Sum.elim (fun v1=>some (decide ((↑v1.fst.length:Int)≤50),())) (fun v1=>some (v1.fst,())) (v0)
def U0 (n:Nat) (y:C.Ds Ty (Aj K7)):Option (YT Ty Pi):=Pj n y.1
noncomputable def fref_Right_law (n:Nat):AE Ty:=IZ (AF K7 0 Pi (U0 n))
noncomputable def fref_Right_T (n:Nat):List (Nat×AE Ty):=[]
theorem QW (n:Nat):Aq Tryz.prog (fref_Right_T n):=trivial
noncomputable def fref_Right_l1_C (n:Nat):A3 Ty:=[]
theorem VL (n:Nat) (x:C.Ds Ty (Aj F0)):(Az Tryz.prog 19 (Am Tryz.prog (fref_Right_T n) []) (Ai (fref_Right_l1_C n)) (Ap 2 Tryz.f23) (Aw F0 x)).runK (AI 0 F0 Kc (H5 n))=H5 (n+1) x:=by kernel_rfl
theorem VM (n:Nat):A9 true Tryz.prog 19 (fref_Right_l1_cut n) (.loop (Ap 2 Tryz.f23)):=AM fun x y hy=>A2 (Fn:=H5) Aa Ab (fun n=>Ad Aa Ab (QW n) Al) (fun h=>by cases h) (fun h=>by cases h) (fun n=>(Af (fn:=Tryz.f23) (L:=fref_Right_l1_C n) (ks:=[]) trivial (by kernel_rfl) (by kernel_rfl))) (by decide) (fun _=>rfl) VL hy
noncomputable def fref_Right_C (n:Nat):A3 Ty:=[(.loop 2,fref_Right_l1_cut n)]
theorem Aa1 (n:Nat) (x:C.Ds Ty (Aj K7)):(Az Tryz.prog 19 (Am Tryz.prog (fref_Right_T n) []) (Ai (fref_Right_C n)) (An Tryz.f23) (Aw K7 x)).runK (As Tryz.prog Tryz.f23.results.toList 0 Pi)=U0 n x:=by kernel_rfl
theorem VN (n:Nat):Ar Tryz.prog 23 (fref_Right_law n):=C6 (Au Tryz.func23 rfl rfl (by decide) rfl Aa Ab (Ad Aa Ab (QW n) Al) (Af (fn:=Tryz.f23) (L:=fref_Right_C n) (ks:=[.loop 2]) ⟨VM n,trivial⟩ (by kernel_rfl) (by kernel_rfl)) (Aa1 n))
def K8:List (Nat×C):=[(0,.l 9)]
def Pk:List Wo:=[⟨.ret,[],[],[.s 4]⟩]
def Pm (n:Nat) (lines:List ByteArray):Option ((Bool×Unit)) :=
    (Uw n lines).bind fun v0 =>
    bif v0.fst then((Pj n lines).bind fun v1 =>
    some (v1.fst,())) else
    some (false,())
def U1 (n:Nat) (y:C.Ds Ty (Aj K8)):Option (YT Ty Pk):=Pm n y.1
noncomputable def flaw_ready_law (n:Nat):AE Ty:=IZ (AF K8 0 Pk (U1 n))
noncomputable def flaw_ready_T (n:Nat):List (Nat×AE Ty):=[(19,flaw_Few_law n),(23,fref_Right_law n)]
theorem ZK (n:Nat):Aq Tryz.prog (flaw_ready_T n):=⟨ZJ n,⟨VN n,trivial⟩⟩
noncomputable def flaw_ready_C (n:Nat):A3 Ty:=[]
theorem Aa2 (n:Nat) (x:C.Ds Ty (Aj K8)):(Az Tryz.prog 9 (Am Tryz.prog (flaw_ready_T n) []) (Ai (flaw_ready_C n)) (An Tryz.f27) (Aw K8 x)).runK (As Tryz.prog Tryz.f27.results.toList 0 Pk)=U1 n x:=by kernel_rfl
theorem VO (n:Nat):Ar Tryz.prog 27 (flaw_ready_law n):=C6 (Au Tryz.func27 rfl rfl (by decide) rfl Aa Ab (Ad Aa Ab (ZK n) Al) (Af (fn:=Tryz.f27) (L:=flaw_ready_C n) (ks:=[]) trivial (by kernel_rfl) (by kernel_rfl)) (Aa2 n))
def H6:List (Nat×C):=[]
def Kd:List Wo:=[⟨.ret,[],[],[.u 114]⟩]
def Sn (n:Nat):Option ((Ah×Unit)) :=
    some (Ah.mk (A0.mk [] [] [] [] (AD.mk 7 [] [] 600 5 3000) []),())
def P4 (n:Nat) (y:C.Ds Ty (Aj H6)):Option (YT Ty Kd):=Sn n
noncomputable def fgarage_begin_law (n:Nat):AE Ty:=AF H6 0 Kd (P4 n)
noncomputable def fgarage_begin_T (n:Nat):List (Nat×AE Ty):=[]
theorem U2 (n:Nat):Aq Tryz.prog (fgarage_begin_T n):=trivial
noncomputable def fgarage_begin_C (n:Nat):A3 Ty:=[]
theorem VP (n:Nat) (x:C.Ds Ty (Aj H6)):(Az Tryz.prog 5 (Am Tryz.prog (fgarage_begin_T n) []) (Ai (fgarage_begin_C n)) (An Tryz.f101) (Aw H6 x)).runK (As Tryz.prog Tryz.f101.results.toList 0 Kd)=P4 n x:=by kernel_rfl
theorem RR (n:Nat):Ar Tryz.prog 101 (fgarage_begin_law n):=Au Tryz.func101 rfl rfl (by decide) rfl Aa Ab (Ad Aa Ab (U2 n) Al) (Af (fn:=Tryz.f101) (L:=fgarage_begin_C n) (ks:=[]) trivial (by kernel_rfl) (by kernel_rfl)) (VP n)
def F5:List (Nat×C):=[(5,.l 9),(6,.s 3),(7,.o 3),(8,.s 3)]
def Ke:List Wo:=[⟨.exit 0,[],[(5,.l 9),(7,.o 3)],[]⟩,⟨.ret,[],[(2,.s 9),(3,.l 3),(4,.s 4)],[]⟩]
def K9:List (Nat×C):=[(0,.s 9)]
def Pn:List Wo:=[⟨.ret,[],[],[.s 9,.l 3,.s 4]⟩]
def Hu:Nat→(List ByteArray)→Int→(List Int)→Int→Option ((List ByteArray×List Int×Unit) ⊕ ((ByteArray×List Int×Bool×Unit)))
  | 0,_,_,_,_=>none
  | n+1,parts,n_,l,i =>
    bif decide (i≤n_) then((AO parts i).bind fun v0 =>
    (Ph n v0).bind fun v1 =>
    bif !v1.snd.fst then(some (.inr (B [],([],(false,()))))) else
    (app l [v1.fst]).bind fun v2 =>
    Hu n parts n_ v2 (IntKind.i64.wrap (i+1))) else
    some (.inl (parts,(l,())))
def H7 (n:Nat) (y:C.Ds Ty (Aj F5)):Option (YT Ty Ke):=Hu n y.1 y.2.1 y.2.2.1 y.2.2.2.1
noncomputable def fref_Parse_l1_cut (n:Nat):St Ty→Tr (Lf Ty):=CK F5 0 Ke (H7 n)
def Po (n:Nat) (line:ByteArray):Option ((ByteArray×List Int×Bool×Unit)) :=
    (Pf n line).bind fun v0 =>
    (AO v0.fst 0).bind fun v1 =>
    (R4 n v1).bind fun v2 =>
    bif !decide (v2.fst=0) then(bif (↑v0.fst.length:Int) != IntKind.i64.wrap (v2.fst+1) then(some (B [],([],(false,())))) else
    (Hu n v0.fst v2.fst [] 1).bind fun v3 =>
    Sum.elim (fun v4=>(AO v4.fst 0).bind fun v5 =>
    some (v5,(v4.snd.fst,(true,())))) (fun v4=>some (v4.fst,(v4.snd.fst,(v4.snd.snd.fst,())))) (v3)) else
    some (B [],([],(false,())))
def U3 (n:Nat) (y:C.Ds Ty (Aj K9)):Option (YT Ty Pn):=Po n y.1
noncomputable def fref_Parse_law (n:Nat):AE Ty:=AF K9 0 Pn (U3 n)
noncomputable def fref_Parse_T (n:Nat):List (Nat×AE Ty):=[(63,fref_Split_law n),(64,fref_many_law n),(65,fref_whole_law n)]
theorem QX (n:Nat):Aq Tryz.prog (fref_Parse_T n):=⟨VH n,⟨Xn n,⟨VK n,trivial⟩⟩⟩
noncomputable def fref_Parse_l1_C (n:Nat):A3 Ty:=[]
theorem VQ (n:Nat) (x:C.Ds Ty (Aj F5)):(Az Tryz.prog 49 (Am Tryz.prog (fref_Parse_T n) []) (Ai (fref_Parse_l1_C n)) (Ap 7 Tryz.f28) (Aw F5 x)).runK (AI 0 F5 Ke (H7 n))=H7 (n+1) x:=by kernel_rfl
theorem VR (n:Nat):A9 true Tryz.prog 49 (fref_Parse_l1_cut n) (.loop (Ap 7 Tryz.f28)):=AM fun x y hy=>A2 (Fn:=H7) Aa Ab (fun n=>Ad Aa Ab (QX n) Al) (fun h=>by cases h) (fun h=>by cases h) (fun n=>(Af (fn:=Tryz.f28) (L:=fref_Parse_l1_C n) (ks:=[]) trivial (by kernel_rfl) (by kernel_rfl))) (by decide) (fun _=>rfl) VQ hy
noncomputable def fref_Parse_C (n:Nat):A3 Ty:=[(.loop 7,fref_Parse_l1_cut n)]
theorem Aa3 (n:Nat) (x:C.Ds Ty (Aj K9)):(Az Tryz.prog 49 (Am Tryz.prog (fref_Parse_T n) []) (Ai (fref_Parse_C n)) (An Tryz.f28) (Aw K9 x)).runK (As Tryz.prog Tryz.f28.results.toList 0 Pn)=U3 n x:=by kernel_rfl
theorem VS (n:Nat):Ar Tryz.prog 28 (fref_Parse_law n):=Au Tryz.func28 rfl rfl (by decide) rfl Aa Ab (Ad Aa Ab (QX n) Al) (Af (fn:=Tryz.f28) (L:=fref_Parse_C n) (ks:=[.loop 7]) ⟨VR n,trivial⟩ (by kernel_rfl) (by kernel_rfl)) (Aa3 n)
def JA:List (Nat×C):=[(0,.s 9)]
def Nb:List Wo:=[⟨.ret,[],[],[.g 90,.s 4]⟩]
def MC (n:Nat) (line:ByteArray):Option ((Ac×Bool×Unit)) :=
    (Po n line).bind fun v0 =>
    bif !v0.snd.snd.fst then(some (Ac.mk 0 0 0 (IK.mk 0) 0 0,(false,()))) else
    bif v0.fst.beq (B [115,97,108,101]) then((AO v0.snd.fst 0).bind fun v1 =>
    (AO v0.snd.fst 1).bind fun v2 =>
    (AO v0.snd.fst 2).bind fun v3 =>
    (AO v0.snd.fst 3).bind fun v4 =>
    (AO v0.snd.fst 4).bind fun v5 =>
    some (Ac.mk v1 v2 v3 (IK.mk 0) v4 v5,(true,()))) else
    bif v0.fst.beq (B [115,121,110,99]) then((AO v0.snd.fst 0).bind fun v1 =>
    (AO v0.snd.fst 1).bind fun v2 =>
    (AO v0.snd.fst 2).bind fun v3 =>
    (AO v0.snd.fst 3).bind fun v4 =>
    some (Ac.mk v1 v2 v3 (IK.mk 1) v4 0,(true,()))) else
    bif v0.fst.beq (B [99,108,111,115,101]) then((AO v0.snd.fst 0).bind fun v1 =>
    (AO v0.snd.fst 1).bind fun v2 =>
    (AO v0.snd.fst 2).bind fun v3 =>
    (AO v0.snd.fst 3).bind fun v4 =>
    (AO v0.snd.fst 4).bind fun v5 =>
    some (Ac.mk v1 v2 v3 (IK.mk 2) v4 v5,(true,()))) else
    some (Ac.mk 0 0 0 (IK.mk 0) 0 0,(false,()))
def So (n:Nat) (y:C.Ds Ty (Aj JA)):Option (YT Ty Nb):=MC n y.1
noncomputable def fref_Record_law (n:Nat):AE Ty:=AF JA 0 Nb (So n)
noncomputable def fref_Record_T (n:Nat):List (Nat×AE Ty):=[(28,fref_Parse_law n)]
theorem Xo (n:Nat):Aq Tryz.prog (fref_Record_T n):=⟨VS n,trivial⟩
noncomputable def fref_Record_C (n:Nat):A3 Ty:=[]
theorem ZL (n:Nat) (x:C.Ds Ty (Aj JA)):(Az Tryz.prog 69 (Am Tryz.prog (fref_Record_T n) []) (Ai (fref_Record_C n)) (An Tryz.f43) (Aw JA x)).runK (As Tryz.prog Tryz.f43.results.toList 0 Nb)=So n x:=by kernel_rfl
theorem U4 (n:Nat):Ar Tryz.prog 43 (fref_Record_law n):=Au Tryz.func43 rfl rfl (by decide) rfl Aa Ab (Ad Aa Ab (Xo n) Al) (Af (fn:=Tryz.f43) (L:=fref_Record_C n) (ks:=[]) trivial (by kernel_rfl) (by kernel_rfl)) (ZL n)
def B4:List (Nat×C):=[(1,.u 154),(2,.u 98),(4,.u 98),(33,.l 93),(34,.s 3),(35,.s 3)]
def Ei:List Wo:=[⟨.exit 0,[.u 154,.u 98,.u 98],[(1,.q 0),(2,.q 1),(4,.q 2)],[]⟩]
def D1:List (Nat×C):=[(0,.g 154)]
def FR:List Wo:=[⟨.ret,[],[],[.g 98,.s 4]⟩]
def Bo:Nat→ER→Em→Em→(List Ac)→Int→Int→Option ((ER×Em×Em×Unit×Unit×Unit×Unit))
  | 0,_,_,_,_,_,_=>none
  | n+1,s,x2,out,x33,x34,x35 =>
    bif decide (x35<x34) then((AO x33 x35).bind fun v0 =>
    bif decide (v0.kind.n=0) then(Bo n s x2 (Em.mk out.machine out.fr out.to_ (IntKind.i64.wrap (out.sales-1)) (IntKind.i64.wrap (out.coins-v0.b))) x33 x34 (IntKind.i64.wrap (x35+1))) else
    Bo n s x2 out x33 x34 (IntKind.i64.wrap (x35+1))) else
    some (s,(x2,(out,((),((),((),()))))))
def Cl (n:Nat) (y:C.Ds Ty (Aj B4)):Option (YT Ty Ei):=Bo n y.1 y.2.1 y.2.2.1 y.2.2.2.1 y.2.2.2.2.1 y.2.2.2.2.2.1
noncomputable def fsheet_stretch_lack_l1_cut (n:Nat):St Ty→Tr (Lf Ty):=CK B4 3 Ei (Cl n)
def BO (n:Nat) (s:ER):Option ((Em×Bool×Unit)) :=
    (Bo n s (Em.mk 0 0 0 0 0) (Em.mk s.to_.machine s.fr.seq s.to_.seq (IntKind.i64.wrap (s.to_.a-s.fr.a)) (IntKind.i64.wrap (s.to_.b-s.fr.b))) s.between (↑s.between.length:Int) 0).bind fun v0 =>
    bif decide (0≤v0.snd.snd.fst.sales) then(bif decide (v0.snd.snd.fst.sales≤IntKind.i64.wrap (IntKind.i64.wrap (IntKind.i64.wrap (v0.fst.to_.seq-v0.fst.fr.seq)-1)-(↑v0.fst.between.length:Int))) then(bif decide (0≤v0.snd.snd.fst.coins) then(some (v0.snd.snd.fst,(decide (v0.snd.snd.fst.coins≤IntKind.i64.wrap (10000*v0.snd.snd.fst.sales)),()))) else
    some (v0.snd.snd.fst,(false,()))) else
    some (v0.snd.snd.fst,(false,()))) else
    some (v0.snd.snd.fst,(false,()))
def Jn (n:Nat) (y:C.Ds Ty (Aj D1)):Option (YT Ty FR):=BO n y.1
noncomputable def fsheet_stretch_lack_law (n:Nat):AE Ty:=IZ (AF D1 0 FR (Jn n))
noncomputable def fsheet_stretch_lack_T (n:Nat):List (Nat×AE Ty):=[]
theorem Ia (n:Nat):Aq Tryz.prog (fsheet_stretch_lack_T n):=trivial
noncomputable def fsheet_stretch_lack_l1_C (n:Nat):A3 Ty:=[]
theorem Mg (n:Nat) (x:C.Ds Ty (Aj B4)):(Az Tryz.prog 78 (Am Tryz.prog (fsheet_stretch_lack_T n) []) (Ai (fsheet_stretch_lack_l1_C n)) (Ap 3 Tryz.f83) (Aw B4 x)).runK (AI 3 B4 Ei (Cl n))=Cl (n+1) x:=by kernel_rfl
theorem Mh (n:Nat):A9 true Tryz.prog 78 (fsheet_stretch_lack_l1_cut n) (.loop (Ap 3 Tryz.f83)):=AM fun x y hy=>A2 (Fn:=Cl) Aa Ab (fun n=>Ad Aa Ab (Ia n) Al) (fun h=>by cases h) (fun h=>by cases h) (fun n=>(Af (fn:=Tryz.f83) (L:=fsheet_stretch_lack_l1_C n) (ks:=[]) trivial (by kernel_rfl) (by kernel_rfl))) (by decide) (fun _=>rfl) Mg hy
noncomputable def fsheet_stretch_lack_C (n:Nat):A3 Ty:=[(.loop 3,fsheet_stretch_lack_l1_cut n)]
theorem Pp (n:Nat) (x:C.Ds Ty (Aj D1)):(Az Tryz.prog 78 (Am Tryz.prog (fsheet_stretch_lack_T n) []) (Ai (fsheet_stretch_lack_C n)) (An Tryz.f83) (Aw D1 x)).runK (As Tryz.prog Tryz.f83.results.toList 0 FR)=Jn n x:=by kernel_rfl
theorem Mi (n:Nat):Ar Tryz.prog 83 (fsheet_stretch_lack_law n):=C6 (Au Tryz.func83 rfl rfl (by decide) rfl Aa Ab (Ad Aa Ab (Ia n) Al) (Af (fn:=Tryz.f83) (L:=fsheet_stretch_lack_C n) (ks:=[.loop 3]) ⟨Mh n,trivial⟩ (by kernel_rfl) (by kernel_rfl)) (Pp n))
def DQ:List (Nat×C):=[(0,.y 0 44 [2,3,5] [.p [.l 98],.p [.s 37],.p [.o 98]]),(1,.p [.l 93]),(3,.p [.s 3,.s 3,.s 3,.s 5,.s 3,.s 3,.s 3,.s 3,.s 3,.s 5,.s 3,.s 3,.o 93]),(6,.l 93),(7,.s 3),(8,.s 3)]
def II:List Wo:=[⟨.exit 0,[.y 0 44 [2,3,5] [.p [.l 98],.p [.s 37],.p [.o 98]],.q 1,.q 2,.q 3,.p [.l 93],.p [.s 3,.s 3,.s 3,.s 5,.s 3,.s 3,.s 3,.s 3,.s 3,.s 5,.s 3,.s 3,.o 93]],[],[]⟩,⟨.ret,[.y 1 44 [2,3,5] [.p [.l 98],.p [.s 37],.p [.o 98]],.q 1,.q 2,.q 3,.p [.l 93],.p [.s 3,.s 3,.s 3,.s 5,.s 3,.s 3,.s 3,.s 3,.s 3,.s 5,.s 3,.s 3,.o 93]],[],[]⟩]
def IJ:List (Nat×C):=[(0,.l 93)]
def L1:List Wo:=[⟨.ret,[],[],[.l 98,.s 37]⟩]
def AA:Nat→(List Em)→Int→(List Em)→(List Ac)→Int→Int→Int→(IK .u8)→Int→Int→Int→Int→Int→(IK .u8)→Int→Int→(List Ac)→(List Ac)→Int→Int→Option ((((List Em×Unit)×(Int×Unit)×(List Em×Unit)×Unit)×Unit×Unit×Unit×(List Ac×Unit)×(Int×Int×Int×IK .u8×Int×Int×Int×Int×Int×IK .u8×Int×Int×List Ac×Unit)×Unit) ⊕ ((((List Em×Unit)×(Int×Unit)×(List Em×Unit)×Unit)×Unit×Unit×Unit×(List Ac×Unit)×(Int×Int×Int×IK .u8×Int×Int×Int×Int×Int×IK .u8×Int×Int×List Ac×Unit)×Unit)))
  | 0,_,_,_,_,_,_,_,_,_,_,_,_,_,_,_,_,_,_,_,_=>none
  | n+1,yield1,yield2,yield3,x1,s1,s2,s3,s4,s5,s6,s7,s8,s9,s10,s11,s12,s13,x6,x7,x8 =>
    bif decide (x8<x7) then((AO x6 x8).bind fun v0 =>
    bif !decide (x8=0) then((AO x1 (IntKind.i64.wrap (x8-1))).bind fun v1 =>
    bif v1.machine != v0.machine then(bif v0.kind.n != 2 then(AA n yield1 yield2 yield3 x1 v0.machine 0 0 (IK.mk 0) 0 0 0 0 0 (IK.mk 0) 0 0 ([].append [v0]) x6 x7 (IntKind.i64.wrap (x8+1))) else
    (BO n (ER.mk (Ac.mk v0.machine 0 0 (IK.mk 0) 0 0) v0 [])).bind fun v2 =>
    bif !v2.snd.fst then(some (.inr ((([],()),((9,()),((yield3,()),()))),((),((),((),((x1,()),((v0.machine,(0,(0,(IK.mk 0,(0,(0,(v0.machine,(v0.seq,(v0.minute,(v0.kind,(v0.a,(v0.b,([],()))))))))))))),())))))))) else
    bif decide (v2.fst.sales>0) then((app yield3 [v2.fst]).bind fun v3 =>
    AA n yield1 yield2 v3 x1 v0.machine v0.seq v0.minute v0.kind v0.a v0.b 0 0 0 (IK.mk 0) 0 0 [] x6 x7 (IntKind.i64.wrap (x8+1))) else
    AA n yield1 yield2 yield3 x1 v0.machine v0.seq v0.minute v0.kind v0.a v0.b 0 0 0 (IK.mk 0) 0 0 [] x6 x7 (IntKind.i64.wrap (x8+1))) else
    bif v0.kind.n != 2 then((app s13 [v0]).bind fun v2 =>
    AA n yield1 yield2 yield3 x1 s1 s2 s3 s4 s5 s6 s7 s8 s9 s10 s11 s12 v2 x6 x7 (IntKind.i64.wrap (x8+1))) else
    (BO n (ER.mk (Ac.mk s1 s2 s3 s4 s5 s6) v0 s13)).bind fun v2 =>
    bif !v2.snd.fst then(some (.inr ((([],()),((9,()),((yield3,()),()))),((),((),((),((x1,()),((s1,(s2,(s3,(s4,(s5,(s6,(v0.machine,(v0.seq,(v0.minute,(v0.kind,(v0.a,(v0.b,(s13,()))))))))))))),())))))))) else
    bif decide (v2.fst.sales>0) then((app yield3 [v2.fst]).bind fun v3 =>
    AA n yield1 yield2 v3 x1 v0.machine v0.seq v0.minute v0.kind v0.a v0.b 0 0 0 (IK.mk 0) 0 0 [] x6 x7 (IntKind.i64.wrap (x8+1))) else
    AA n yield1 yield2 yield3 x1 v0.machine v0.seq v0.minute v0.kind v0.a v0.b 0 0 0 (IK.mk 0) 0 0 [] x6 x7 (IntKind.i64.wrap (x8+1))) else
    bif v0.kind.n != 2 then(AA n yield1 yield2 yield3 x1 v0.machine 0 0 (IK.mk 0) 0 0 0 0 0 (IK.mk 0) 0 0 ([].append [v0]) x6 x7 (IntKind.i64.wrap (x8+1))) else
    (BO n (ER.mk (Ac.mk v0.machine 0 0 (IK.mk 0) 0 0) v0 [])).bind fun v1 =>
    bif !v1.snd.fst then(some (.inr ((([],()),((9,()),((yield3,()),()))),((),((),((),((x1,()),((v0.machine,(0,(0,(IK.mk 0,(0,(0,(v0.machine,(v0.seq,(v0.minute,(v0.kind,(v0.a,(v0.b,([],()))))))))))))),())))))))) else
    bif decide (v1.fst.sales>0) then((app yield3 [v1.fst]).bind fun v2 =>
    AA n yield1 yield2 v2 x1 v0.machine v0.seq v0.minute v0.kind v0.a v0.b 0 0 0 (IK.mk 0) 0 0 [] x6 x7 (IntKind.i64.wrap (x8+1))) else
    AA n yield1 yield2 yield3 x1 v0.machine v0.seq v0.minute v0.kind v0.a v0.b 0 0 0 (IK.mk 0) 0 0 [] x6 x7 (IntKind.i64.wrap (x8+1))) else
    some (.inl (((yield1,()),((yield2,()),((yield3,()),()))),((),((),((),((x1,()),((s1,(s2,(s3,(s4,(s5,(s6,(s7,(s8,(s9,(s10,(s11,(s12,(s13,()))))))))))))),())))))))
def Ge (n:Nat) (y:C.Ds Ty (Aj DQ)):Option (YT Ty II):=AA n y.1.1.1 y.1.2.1.1 y.1.2.2.1.1 y.2.1.1 y.2.2.1.1 y.2.2.1.2.1 y.2.2.1.2.2.1 y.2.2.1.2.2.2.1 y.2.2.1.2.2.2.2.1 y.2.2.1.2.2.2.2.2.1 y.2.2.1.2.2.2.2.2.2.1 y.2.2.1.2.2.2.2.2.2.2.1 y.2.2.1.2.2.2.2.2.2.2.2.1 y.2.2.1.2.2.2.2.2.2.2.2.2.1 y.2.2.1.2.2.2.2.2.2.2.2.2.2.1 y.2.2.1.2.2.2.2.2.2.2.2.2.2.2.1 y.2.2.1.2.2.2.2.2.2.2.2.2.2.2.2.1 y.2.2.2.1 y.2.2.2.2.1 y.2.2.2.2.2.1
noncomputable def fsheet_Lacks_i1_cut (n:Nat):St Ty→Tr (Lf Ty):=CK DQ 6 II (Ge n)
def Fq (n:Nat) (l:List Ac):Option ((List Em×Int×Unit)) :=
    (F8 n [l]).bind fun v0 =>
    bif v0.snd.fst != 0 then(some ([],(v0.snd.fst,()))) else
    (AA n [] 0 [] v0.fst 0 0 0 (IK.mk 0) 0 0 0 0 0 (IK.mk 0) 0 0 [] v0.fst (↑v0.fst.length:Int) 0).bind fun v1 =>
    Sum.elim (fun v2=>some (v2.fst.snd.snd.fst.fst,(0,()))) (fun v2=>some (v2.fst.fst.fst,(v2.fst.snd.fst.fst,()))) (v1)
def QY (n:Nat) (y:C.Ds Ty (Aj IJ)):Option (YT Ty L1):=Fq n y.1
noncomputable def fsheet_Lacks_law (n:Nat):AE Ty:=AF IJ 0 L1 (QY n)
noncomputable def fsheet_Lacks_T (n:Nat):List (Nat×AE Ty):=[(81,fsheet_merged_law n),(83,fsheet_stretch_lack_law n)]
theorem J1 (n:Nat):Aq Tryz.prog (fsheet_Lacks_T n):=⟨Kl n,⟨Mi n,trivial⟩⟩
noncomputable def fsheet_Lacks_B (n:Nat):A3 Ty:=[]
noncomputable def fsheet_Lacks_Y (n:Nat):List (Nat×AE Ty):=(Ay,AmE Tryz.prog (Am Tryz.prog (fsheet_Lacks_T n) []) (Ai []) (Ai (fsheet_Lacks_B n)) 44)::fsheet_Lacks_T n
theorem NX (n:Nat):Aq Tryz.prog (fsheet_Lacks_Y n):=⟨Afw Aa Ab (Ad Aa Ab (J1 n) Al) (fun _ _ _ h=>by cases h) (Af (fn:=Tryz.f44) (c:=(RFs.rf 44).body) (N:=(RFs.rf 44).n) (L:=fsheet_Lacks_B n) (ks:=[]) trivial (by kernel_rfl) (by kernel_rfl)),J1 n⟩
noncomputable def fsheet_Lacks_i1_C (n:Nat):A3 Ty:=[]
theorem SR (n:Nat) (x:C.Ds Ty (Aj DQ)):(Az Tryz.prog 48 (Am Tryz.prog (fsheet_Lacks_Y n) []) (Ai (fsheet_Lacks_i1_C n)) (Ap 2 Tryz.f135) (Aw DQ x)).runK (AI 6 DQ II (Ge n))=Ge (n+1) x:=by kernel_rfl
theorem SS (n:Nat):A9 true Tryz.prog 48 (fsheet_Lacks_i1_cut n) (.loop (Ap 2 Tryz.f135)):=AM fun x y hy=>A2 (Fn:=Ge) Aa Ab (fun n=>Ad Aa Ab (NX n) Al) (fun h=>by cases h) (fun h=>by cases h) (fun n=>(Af (fn:=Tryz.f135) (L:=fsheet_Lacks_i1_C n) (ks:=[]) trivial (by kernel_rfl) (by kernel_rfl))) (by decide) (fun _=>rfl) SR hy
noncomputable def fsheet_Lacks_K (n:Nat):Qw Ty:=[(135,[(.loop 2,fsheet_Lacks_i1_cut n)])]
theorem VT (n:Nat):La Tryz.prog (fsheet_Lacks_K n):=⟨G9 (f:=135) Tryz.func135 rfl (Af (fn:=Tryz.f135) (L:=[(.loop 2,fsheet_Lacks_i1_cut n)]) (ks:=[.loop 2]) ⟨SS n,trivial⟩ (by kernel_rfl) (by kernel_rfl)),trivial⟩
noncomputable def fsheet_Lacks_rf (n:Nat):St Ty→Tr (Lf Ty):=Amq Tryz.prog (Am Tryz.prog (fsheet_Lacks_Y n) (fsheet_Lacks_K n)) (.tmp 19) 44 [2,3,5]
theorem U5 (n:Nat):A9 true Tryz.prog 36 (fsheet_Lacks_rf n) (JW (.rf 7) Tryz.f44):=Afz (Ad Aa Ab (NX n) (VT n)) (by kernel_rfl) (by kernel_rfl)
noncomputable def fsheet_Lacks_C (n:Nat):A3 Ty:=[(.rf 7,fsheet_Lacks_rf n)]
theorem Xp (n:Nat) (x:C.Ds Ty (Aj IJ)):(Az Tryz.prog 36 (Am Tryz.prog (fsheet_Lacks_T n) []) (Ai (fsheet_Lacks_C n)) (An Tryz.f44) (Aw IJ x)).runK (As Tryz.prog Tryz.f44.results.toList 0 L1)=QY n x:=by kernel_rfl
theorem ST (n:Nat):Ar Tryz.prog 44 (fsheet_Lacks_law n):=Au Tryz.func44 rfl rfl (by decide) rfl Aa Ab (Ad Aa Ab (J1 n) Al) (Af (fn:=Tryz.f44) (L:=fsheet_Lacks_C n) (ks:=[.rf 7]) ⟨U5 n,trivial⟩ (by kernel_rfl) (by kernel_rfl)) (Xp n)
def DR:List (Nat×C):=[(4,.u 114),(5,.f 84 [.q 0] []),(6,.o 37),(12,.l 9),(13,.s 3),(14,.s 3)]
def IL:List Wo:=[⟨.exit 0,[.u 114],[(4,.q 0),(6,.o 37)],[]⟩]
def IM:List (Nat×C):=[(0,.l 9)]
def L2:List Wo:=[⟨.ret,[],[],[.u 114,.l 37]⟩]
def D9:Nat→Ah→(List Int)→(List ByteArray)→Int→Int→Option ((Ah×Unit×List Int×Unit))
  | 0,_,_,_,_,_=>none
  | n+1,g,errors,x12,x13,x14 =>
    bif decide (x14<x13) then((AO x12 x14).bind fun v0 =>
    (Akf n g v0).bind fun v1 =>
    (app errors [v1.snd.fst]).bind fun v2 =>
    D9 n v1.fst v2 x12 x13 (IntKind.i64.wrap (x14+1))) else
    some (g,((),(errors,())))
def Gf (n:Nat) (y:C.Ds Ty (Aj DR)):Option (YT Ty IL):=D9 n y.1 y.2.2.1 y.2.2.2.1 y.2.2.2.2.1 y.2.2.2.2.2.1
noncomputable def fgarage_play_l1_cut (n:Nat):St Ty→Tr (Lf Ty):=CK DR 1 IL (Gf n)
def IN (n:Nat) (lines:List ByteArray):Option ((Ah×List Int×Unit)) :=
    (Sn n).bind fun v0 =>
    (D9 n v0.fst [] lines (↑lines.length:Int) 0).bind fun v1 =>
    some (v1.fst,(v1.snd.snd.fst,()))
def QZ (n:Nat) (y:C.Ds Ty (Aj IM)):Option (YT Ty L2):=IN n y.1
noncomputable def fgarage_play_law (n:Nat):AE Ty:=AjN (AF IM 0 L2 (QZ n))
noncomputable def fgarage_play_T (n:Nat):List (Nat×AE Ty):=[(101,fgarage_begin_law n),(84,nextS_law n)]
theorem NY (n:Nat):Aq Tryz.prog (fgarage_play_T n):=⟨RR n,⟨Ae3 n,trivial⟩⟩
noncomputable def fgarage_play_l1_C (n:Nat):A3 Ty:=[]
theorem SU (n:Nat) (x:C.Ds Ty (Aj DR)):(Az Tryz.prog 27 (Am Tryz.prog (fgarage_play_T n) []) (Ai (fgarage_play_l1_C n)) (Ap 5 Tryz.f53) (Aw DR x)).runK (AI 1 DR IL (Gf n))=Gf (n+1) x:=by kernel_rfl
theorem SW (n:Nat):A9 true Tryz.prog 27 (fgarage_play_l1_cut n) (.loop (Ap 5 Tryz.f53)):=AM fun x y hy=>A2 (Fn:=Gf) Aa Ab (fun n=>Ad Aa Ab (NY n) Al) (fun h=>by cases h) (fun h=>by cases h) (fun n=>(Af (fn:=Tryz.f53) (L:=fgarage_play_l1_C n) (ks:=[]) trivial (by kernel_rfl) (by kernel_rfl))) (by decide) (fun _=>rfl) SU hy
noncomputable def fgarage_play_C (n:Nat):A3 Ty:=[(.loop 5,fgarage_play_l1_cut n)]
theorem Xq (n:Nat) (x:C.Ds Ty (Aj IM)):(Az Tryz.prog 27 (Am Tryz.prog (fgarage_play_T n) []) (Ai (fgarage_play_C n)) (An Tryz.f53) (Aw IM x)).runK (As Tryz.prog Tryz.f53.results.toList 0 L2)=QZ n x:=by kernel_rfl
theorem L3 (n:Nat):Ar Tryz.prog 53 (fgarage_play_law n):=AjO (by decide) (Au Tryz.func53 rfl rfl (by decide) rfl Aa Ab (Ad Aa Ab (NY n) Al) (Af (fn:=Tryz.f53) (L:=fgarage_play_C n) (ks:=[.loop 5]) ⟨SW n,trivial⟩ (by kernel_rfl) (by kernel_rfl)) (Xq n))
def IP:List (Nat×C):=[(0,.l 9)]
def L4:List Wo:=[⟨.ret,[],[],[.g 35,.l 37,.s 37]⟩]
def GK (n:Nat) (lines:List ByteArray):Option ((A0×List Int×Int×Unit)) :=
    (FA n lines).bind fun v0 =>
    bif v0.fst != 0 then(some (A0.mk [] [] [] [] (AD.mk 0 [] [] 0 0 0) [],([],(v0.fst,())))) else
    (IN n lines).bind fun v1 =>
    some (v1.fst.state,(v1.snd.fst,(0,())))
def Ra (n:Nat) (y:C.Ds Ty (Aj IP)):Option (YT Ty L4):=GK n y.1
noncomputable def fgarage_Play_law (n:Nat):AE Ty:=AF IP 0 L4 (Ra n)
noncomputable def fgarage_Play_T (n:Nat):List (Nat×AE Ty):=[(52,fgarage_check_law n),(53,fgarage_play_law n)]
theorem VU (n:Nat):Aq Tryz.prog (fgarage_Play_T n):=⟨Hh n,⟨L3 n,trivial⟩⟩
noncomputable def fgarage_Play_C (n:Nat):A3 Ty:=[]
theorem Xr (n:Nat) (x:C.Ds Ty (Aj IP)):(Az Tryz.prog 24 (Am Tryz.prog (fgarage_Play_T n) []) (Ai (fgarage_Play_C n)) (An Tryz.f21) (Aw IP x)).runK (As Tryz.prog Tryz.f21.results.toList 0 L4)=Ra n x:=by kernel_rfl
theorem L5 (n:Nat):Ar Tryz.prog 21 (fgarage_Play_law n):=Au Tryz.func21 rfl rfl (by decide) rfl Aa Ab (Ad Aa Ab (VU n) Al) (Af (fn:=Tryz.f21) (L:=fgarage_Play_C n) (ks:=[]) trivial (by kernel_rfl) (by kernel_rfl)) (Xr n)
def GL:List (Nat×C):=[(0,.s 9),(1,.p [.u 114])]
def J2:List Wo:=[⟨.ret,[.p [.u 114],.q 1],[],[.s 4]⟩]
def Rb (n:Nat) (text:ByteArray) (x1:Ah):Option (((Ah×Unit)×Unit×Bool×Unit)) :=
    (Z6 n text (B [32])).bind fun v0 =>
    (AO v0.fst 0).bind fun v1 =>
    bif !v1.beq (B [111,117,116]) then(some ((x1,()),((),(false,())))) else
    (AO v0.fst 1).bind fun v2 =>
    (WG v2).bind fun v3 =>
    Sum.elim (fun v4=>(AO v0.fst 2).bind fun v5 =>
    (WG v5).bind fun v6 =>
    Sum.elim (fun v7=>(GD n x1.state.cards v4 v7).bind fun v8 =>
    some ((x1,()),((),(decide ((↑v8.fst.length:Int)>0),())))) (fun v7=>(GD n x1.state.cards v4 v7).bind fun v8 =>
    some ((x1,()),((),(decide ((↑v8.fst.length:Int)>0),())))) (v6)) (fun v4=>(AO v0.fst 2).bind fun v5 =>
    (WG v5).bind fun v6 =>
    Sum.elim (fun v7=>(GD n x1.state.cards v4 v7).bind fun v8 =>
    some ((x1,()),((),(decide ((↑v8.fst.length:Int)>0),())))) (fun v7=>(GD n x1.state.cards v4 v7).bind fun v8 =>
    some ((x1,()),((),(decide ((↑v8.fst.length:Int)>0),())))) (v6)) (v3)
def NZ (n:Nat) (y:C.Ds Ty (Aj GL)):Option (YT Ty J2):=Rb n y.1 y.2.1.1
noncomputable def fgarage_late_1_law (n:Nat):AE Ty:=AF GL 2 J2 (NZ n)
noncomputable def fgarage_late_1_T (n:Nat):List (Nat×AE Ty):=[(112,splitS_law n),(113,atoiS_law n),(29,fpit_Open_law n)]
theorem SX (n:Nat):Aq Tryz.prog (fgarage_late_1_T n):=⟨Ul n,⟨WJ n,⟨P0 n,trivial⟩⟩⟩
noncomputable def fgarage_late_1_C (n:Nat):A3 Ty:=[]
theorem U6 (n:Nat) (x:C.Ds Ty (Aj GL)):(Az Tryz.prog 45 (Am Tryz.prog (fgarage_late_1_T n) []) (Ai (fgarage_late_1_C n)) (An Tryz.f111) (Aw GL x)).runK (As Tryz.prog Tryz.f111.results.toList 2 J2)=NZ n x:=by kernel_rfl
theorem Re (n:Nat):Ar Tryz.prog 111 (fgarage_late_1_law n):=Au Tryz.func111 rfl rfl (by decide) rfl Aa Ab (Ad Aa Ab (SX n) Al) (Af (fn:=Tryz.f111) (L:=fgarage_late_1_C n) (ks:=[]) trivial (by kernel_rfl) (by kernel_rfl)) (U6 n)
def DS:List (Nat×C):=[(2,.l 37),(6,.o 3),(7,.f 111 [] [.p [.u 114]]),(11,.l 9),(12,.s 3),(13,.s 3)]
def IQ:List Wo:=[⟨.exit 0,[.p [.u 114],.q 1],[(6,.o 3)],[]⟩]
def IS:List (Nat×C):=[(0,.l 9),(1,.u 114),(2,.l 37)]
def L6:List Wo:=[⟨.ret,[.u 114],[],[.o 3]⟩]
def F6:Nat→(List Int)→(List Int)→Ah→(List ByteArray)→Int→Int→Option (((Ah×Unit)×Unit×List Int×Unit))
  | 0,_,_,_,_,_,_=>none
  | n+1,errors,out,is,x11,x12,x13 =>
    bif decide (x13<x12) then((AO x11 x13).bind fun v0 =>
    (AO errors x13).bind fun v1 =>
    bif decide (v1=0) then((Rb n v0 is).bind fun v2 =>
    bif v2.snd.snd.fst then((app out [x13]).bind fun v3 =>
    F6 n errors v3 v2.fst.fst x11 x12 (IntKind.i64.wrap (x13+1))) else
    F6 n errors out v2.fst.fst x11 x12 (IntKind.i64.wrap (x13+1))) else
    F6 n errors out is x11 x12 (IntKind.i64.wrap (x13+1))) else
    some ((is,()),((),(out,())))
def Gg (n:Nat) (y:C.Ds Ty (Aj DS)):Option (YT Ty IQ):=F6 n y.1 y.2.1 y.2.2.1.2.1.1 y.2.2.2.1 y.2.2.2.2.1 y.2.2.2.2.2.1
noncomputable def fgarage_late_l1_cut (n:Nat):St Ty→Tr (Lf Ty):=CK DS 2 IQ (Gg n)
def U7 (n:Nat) (lines:List ByteArray) (g:Ah) (errors:List Int):Option ((Ah×List Int×Unit)) :=
    (F6 n errors [] g lines (↑lines.length:Int) 0).bind fun v0 =>
    some (v0.fst.fst,(v0.snd.snd.fst,()))
def Rf (n:Nat) (y:C.Ds Ty (Aj IS)):Option (YT Ty L6):=U7 n y.1 y.2.1 y.2.2.1
noncomputable def fgarage_late_law (n:Nat):AE Ty:=AF IS 1 L6 (Rf n)
noncomputable def fgarage_late_T (n:Nat):List (Nat×AE Ty):=[(111,fgarage_late_1_law n)]
theorem Oa (n:Nat):Aq Tryz.prog (fgarage_late_T n):=⟨Re n,trivial⟩
noncomputable def fgarage_late_l1_C (n:Nat):A3 Ty:=[]
theorem SY (n:Nat) (x:C.Ds Ty (Aj DS)):(Az Tryz.prog 34 (Am Tryz.prog (fgarage_late_T n) []) (Ai (fgarage_late_l1_C n)) (Ap 3 Tryz.f70) (Aw DS x)).runK (AI 2 DS IQ (Gg n))=Gg (n+1) x:=by kernel_rfl
theorem SZ (n:Nat):A9 true Tryz.prog 34 (fgarage_late_l1_cut n) (.loop (Ap 3 Tryz.f70)):=AM fun x y hy=>A2 (Fn:=Gg) Aa Ab (fun n=>Ad Aa Ab (Oa n) Al) (fun h=>by cases h) (fun h=>by cases h) (fun n=>(Af (fn:=Tryz.f70) (L:=fgarage_late_l1_C n) (ks:=[]) trivial (by kernel_rfl) (by kernel_rfl))) (by decide) (fun _=>rfl) SY hy
noncomputable def fgarage_late_C (n:Nat):A3 Ty:=[(.loop 3,fgarage_late_l1_cut n)]
theorem Xs (n:Nat) (x:C.Ds Ty (Aj IS)):(Az Tryz.prog 34 (Am Tryz.prog (fgarage_late_T n) []) (Ai (fgarage_late_C n)) (An Tryz.f70) (Aw IS x)).runK (As Tryz.prog Tryz.f70.results.toList 1 L6)=Rf n x:=by kernel_rfl
theorem Ta (n:Nat):Ar Tryz.prog 70 (fgarage_late_law n):=Au Tryz.func70 rfl rfl (by decide) rfl Aa Ab (Ad Aa Ab (Oa n) Al) (Af (fn:=Tryz.f70) (L:=fgarage_late_C n) (ks:=[.loop 3]) ⟨SZ n,trivial⟩ (by kernel_rfl) (by kernel_rfl)) (Xs n)
def IT:List (Nat×C):=[(0,.l 9)]
def L7:List Wo:=[⟨.ret,[],[],[.l 3,.s 37]⟩]
def U8 (n:Nat) (lines:List ByteArray):Option ((List Int×Int×Unit)) :=
    (FA n lines).bind fun v0 =>
    bif v0.fst != 0 then(some ([],(v0.fst,()))) else
    (IN n lines).bind fun v1 =>
    (U7 n lines v1.fst v1.snd.fst).bind fun v2 =>
    some (v2.snd.fst,(0,()))
def Rh (n:Nat) (y:C.Ds Ty (Aj IT)):Option (YT Ty L7):=U8 n y.1
noncomputable def fgarage_Late_law (n:Nat):AE Ty:=AF IT 0 L7 (Rh n)
noncomputable def fgarage_Late_T (n:Nat):List (Nat×AE Ty):=[(52,fgarage_check_law n),(53,fgarage_play_law n),(70,fgarage_late_law n)]
theorem VV (n:Nat):Aq Tryz.prog (fgarage_Late_T n):=⟨Hh n,⟨L3 n,⟨Ta n,trivial⟩⟩⟩
noncomputable def fgarage_Late_C (n:Nat):A3 Ty:=[]
theorem Xt (n:Nat) (x:C.Ds Ty (Aj IT)):(Az Tryz.prog 21 (Am Tryz.prog (fgarage_Late_T n) []) (Ai (fgarage_Late_C n)) (An Tryz.f31) (Aw IT x)).runK (As Tryz.prog Tryz.f31.results.toList 0 L7)=Rh n x:=by kernel_rfl
theorem Tb (n:Nat):Ar Tryz.prog 31 (fgarage_Late_law n):=Au Tryz.func31 rfl rfl (by decide) rfl Aa Ab (Ad Aa Ab (VV n) Al) (Af (fn:=Tryz.f31) (L:=fgarage_Late_C n) (ks:=[]) trivial (by kernel_rfl) (by kernel_rfl)) (Xt n)
def GM:List (Nat×C):=[(0,.s 3),(1,.s 3)]
def J3:List Wo:=[⟨.ret,[],[],[.s 9]⟩]
def IU (n:Nat) (n_:Int) (many:Int):Option ((ByteArray×Unit)) :=
    (WH n n_).bind fun v0 =>
    (Ag1 n (B [48]) (if IntKind.i64.wrap (many-(↑v0.fst.size:Int))>0 then IntKind.i64.wrap (many-(↑v0.fst.size:Int)) else 0)).bind fun v1 =>
    (KP v1.fst v0.fst).bind fun v2 =>
    some (v2,())
def Ob (n:Nat) (y:C.Ds Ty (Aj GM)):Option (YT Ty J3):=IU n y.1 y.2.1
noncomputable def fgarage_digits_law (n:Nat):AE Ty:=AF GM 0 J3 (Ob n)
noncomputable def fgarage_digits_T (n:Nat):List (Nat×AE Ty):=[(89,itoaS_law n),(244,repeatS_law n)]
theorem Tc (n:Nat):Aq Tryz.prog (fgarage_digits_T n):=⟨WI n,⟨Aaq n,trivial⟩⟩
noncomputable def fgarage_digits_C (n:Nat):A3 Ty:=[]
theorem U9 (n:Nat) (x:C.Ds Ty (Aj GM)):(Az Tryz.prog 16 (Am Tryz.prog (fgarage_digits_T n) []) (Ai (fgarage_digits_C n)) (An Tryz.f181) (Aw GM x)).runK (As Tryz.prog Tryz.f181.results.toList 0 J3)=Ob n x:=by kernel_rfl
theorem Ri (n:Nat):Ar Tryz.prog 181 (fgarage_digits_law n):=Au Tryz.func181 rfl rfl (by decide) rfl Aa Ab (Ad Aa Ab (Tc n) Al) (Af (fn:=Tryz.f181) (L:=fgarage_digits_C n) (ks:=[]) trivial (by kernel_rfl) (by kernel_rfl)) (U9 n)
def CG:List (Nat×C):=[(0,.s 9),(5,.s 3),(12,.l 5),(13,.s 3),(14,.s 3)]
def Hi:List Wo:=[⟨.exit 0,[],[(0,.s 9),(5,.s 3)],[]⟩]
def GN:List (Nat×C):=[(0,.s 9),(1,.s 3)]
def J4:List Wo:=[⟨.ret,[],[],[.s 9]⟩]
def IV:Nat→ByteArray→Int→(List (IK .u8))→Int→Int→Option ((ByteArray×Int×Unit))
  | 0,_,_,_,_,_=>none
  | n+1,s,check,x12,x13,x14 =>
    bif decide (x14<x13) then((AO x12 x14).bind fun v0 =>
    IV n s (IntKind.i64.wrap (check+IntKind.i64.wrap (IntKind.i64.wrap (x14+1)*IntKind.i64.wrap (IntKind.i64.wrap v0.n+1)))) x12 x13 (IntKind.i64.wrap (x14+1))) else
    some (s,(check,()))
def E6 (n:Nat) (y:C.Ds Ty (Aj CG)):Option (YT Ty Hi):=IV n y.1 y.2.1 y.2.2.1 y.2.2.2.1 y.2.2.2.2.1
noncomputable def fgarage_record_l1_cut (n:Nat):St Ty→Tr (Lf Ty):=CK CG 0 Hi (E6 n)
def Rj (n:Nat) (s:ByteArray) (index:Int):Option ((ByteArray×Unit)) :=
    (IV n s (IntKind.i64.wrap (7*IntKind.i64.wrap (index+1))) (Alg s) (↑(Alg s).length:Int) 0).bind fun v0 =>
    (IU n (↑v0.fst.size:Int) 3).bind fun v1 =>
    (KP (B [91]) v1.fst).bind fun v2 =>
    (KP v2 (B [47])).bind fun v3 =>
    (IU n (IntKind.i64.wrap (999-(↑v0.fst.size:Int))) 3).bind fun v4 =>
    (KP v3 v4.fst).bind fun v5 =>
    (KP v5 (B [47])).bind fun v6 =>
    (IU n (v0.snd.fst.tmod 99991) 5).bind fun v7 =>
    (KP v6 v7.fst).bind fun v8 =>
    (KP v8 (B [93])).bind fun v9 =>
    (KP v9 v0.fst).bind fun v10 =>
    (KP v10 (B [10])).bind fun v11 =>
    some (v11,())
def Od (n:Nat) (y:C.Ds Ty (Aj GN)):Option (YT Ty J4):=Rj n y.1 y.2.1
noncomputable def fgarage_record_law (n:Nat):AE Ty:=AF GN 0 J4 (Od n)
noncomputable def fgarage_record_T (n:Nat):List (Nat×AE Ty):=[(181,fgarage_digits_law n)]
theorem L8 (n:Nat):Aq Tryz.prog (fgarage_record_T n):=⟨Ri n,trivial⟩
noncomputable def fgarage_record_l1_C (n:Nat):A3 Ty:=[]
theorem Rk (n:Nat) (x:C.Ds Ty (Aj CG)):(Az Tryz.prog 47 (Am Tryz.prog (fgarage_record_T n) []) (Ai (fgarage_record_l1_C n)) (Ap 3 Tryz.f125) (Aw CG x)).runK (AI 0 CG Hi (E6 n))=E6 (n+1) x:=by kernel_rfl
theorem Rl (n:Nat):A9 true Tryz.prog 47 (fgarage_record_l1_cut n) (.loop (Ap 3 Tryz.f125)):=AM fun x y hy=>A2 (Fn:=E6) Aa Ab (fun n=>Ad Aa Ab (L8 n) Al) (fun h=>by cases h) (fun h=>by cases h) (fun n=>(Af (fn:=Tryz.f125) (L:=fgarage_record_l1_C n) (ks:=[]) trivial (by kernel_rfl) (by kernel_rfl))) (by decide) (fun _=>rfl) Rk hy
noncomputable def fgarage_record_C (n:Nat):A3 Ty:=[(.loop 3,fgarage_record_l1_cut n)]
theorem UA (n:Nat) (x:C.Ds Ty (Aj GN)):(Az Tryz.prog 47 (Am Tryz.prog (fgarage_record_T n) []) (Ai (fgarage_record_C n)) (An Tryz.f125) (Aw GN x)).runK (As Tryz.prog Tryz.f125.results.toList 0 J4)=Od n x:=by kernel_rfl
theorem Rm (n:Nat):Ar Tryz.prog 125 (fgarage_record_law n):=Au Tryz.func125 rfl rfl (by decide) rfl Aa Ab (Ad Aa Ab (L8 n) Al) (Af (fn:=Tryz.f125) (L:=fgarage_record_C n) (ks:=[.loop 3]) ⟨Rl n,trivial⟩ (by kernel_rfl) (by kernel_rfl)) (UA n)
def Cr:List (Nat×C):=[(2,.o 5),(5,.l 9),(6,.s 3),(7,.s 3)]
def G4:List Wo:=[⟨.exit 0,[],[(2,.o 5)],[]⟩]
def Gh:List (Nat×C):=[(0,.l 9)]
def IW:List Wo:=[⟨.ret,[],[],[.l 5]⟩]
def HM:Nat→(List (IK .u8))→(List ByteArray)→Int→Int→Option ((List (IK .u8)×Unit))
  | 0,_,_,_,_=>none
  | n+1,out,x5,x6,x7 =>
    bif decide (x7<x6) then((AO x5 x7).bind fun v0 =>
    (Rj n v0 x7).bind fun v1 =>
    (app out (Alg v1.fst)).bind fun v2 =>
    HM n v2 x5 x6 (IntKind.i64.wrap (x7+1))) else
    some (out,())
def DT (n:Nat) (y:C.Ds Ty (Aj Cr)):Option (YT Ty G4):=HM n y.1 y.2.1 y.2.2.1 y.2.2.2.1
noncomputable def fgarage_written_l1_cut (n:Nat):St Ty→Tr (Lf Ty):=CK Cr 0 G4 (DT n)
def P5 (n:Nat) (lines:List ByteArray):Option ((List (IK .u8)×Unit)) :=
    (HM n [] lines (↑lines.length:Int) 0).bind fun v0 =>
    some (v0.fst,())
def ME (n:Nat) (y:C.Ds Ty (Aj Gh)):Option (YT Ty IW):=P5 n y.1
noncomputable def fgarage_written_law (n:Nat):AE Ty:=AF Gh 0 IW (ME n)
noncomputable def fgarage_written_T (n:Nat):List (Nat×AE Ty):=[(125,fgarage_record_law n)]
theorem Ks (n:Nat):Aq Tryz.prog (fgarage_written_T n):=⟨Rm n,trivial⟩
noncomputable def fgarage_written_l1_C (n:Nat):A3 Ty:=[]
theorem PM (n:Nat) (x:C.Ds Ty (Aj Cr)):(Az Tryz.prog 19 (Am Tryz.prog (fgarage_written_T n) []) (Ai (fgarage_written_l1_C n)) (Ap 2 Tryz.f78) (Aw Cr x)).runK (AI 0 Cr G4 (DT n))=DT (n+1) x:=by kernel_rfl
theorem PN (n:Nat):A9 true Tryz.prog 19 (fgarage_written_l1_cut n) (.loop (Ap 2 Tryz.f78)):=AM fun x y hy=>A2 (Fn:=DT) Aa Ab (fun n=>Ad Aa Ab (Ks n) Al) (fun h=>by cases h) (fun h=>by cases h) (fun n=>(Af (fn:=Tryz.f78) (L:=fgarage_written_l1_C n) (ks:=[]) trivial (by kernel_rfl) (by kernel_rfl))) (by decide) (fun _=>rfl) PM hy
noncomputable def fgarage_written_C (n:Nat):A3 Ty:=[(.loop 2,fgarage_written_l1_cut n)]
theorem Td (n:Nat) (x:C.Ds Ty (Aj Gh)):(Az Tryz.prog 19 (Am Tryz.prog (fgarage_written_T n) []) (Ai (fgarage_written_C n)) (An Tryz.f78) (Aw Gh x)).runK (As Tryz.prog Tryz.f78.results.toList 0 IW)=ME n x:=by kernel_rfl
theorem PO (n:Nat):Ar Tryz.prog 78 (fgarage_written_law n):=Au Tryz.func78 rfl rfl (by decide) rfl Aa Ab (Ad Aa Ab (Ks n) Al) (Af (fn:=Tryz.f78) (L:=fgarage_written_C n) (ks:=[.loop 2]) ⟨PN n,trivial⟩ (by kernel_rfl) (by kernel_rfl)) (Td n)
def H8:List (Nat×C):=[(0,.l 9)]
def Kf:List Wo:=[⟨.ret,[],[],[.l 5,.s 37]⟩]
def Sp (n:Nat) (lines:List ByteArray):Option ((List (IK .u8)×Int×Unit)) :=
    (FA n lines).bind fun v0 =>
    bif v0.fst != 0 then(some ([],(v0.fst,()))) else
    (P5 n lines).bind fun v1 =>
    some (v1.fst,(0,()))
def P6 (n:Nat) (y:C.Ds Ty (Aj H8)):Option (YT Ty Kf):=Sp n y.1
noncomputable def fgarage_Write_law (n:Nat):AE Ty:=AF H8 0 Kf (P6 n)
noncomputable def fgarage_Write_T (n:Nat):List (Nat×AE Ty):=[(52,fgarage_check_law n),(78,fgarage_written_law n)]
theorem UB (n:Nat):Aq Tryz.prog (fgarage_Write_T n):=⟨Hh n,⟨PO n,trivial⟩⟩
noncomputable def fgarage_Write_C (n:Nat):A3 Ty:=[]
theorem VW (n:Nat) (x:C.Ds Ty (Aj H8)):(Az Tryz.prog 12 (Am Tryz.prog (fgarage_Write_T n) []) (Ai (fgarage_Write_C n)) (An Tryz.f37) (Aw H8 x)).runK (As Tryz.prog Tryz.f37.results.toList 0 Kf)=P6 n x:=by kernel_rfl
theorem RT (n:Nat):Ar Tryz.prog 37 (fgarage_Write_law n):=Au Tryz.func37 rfl rfl (by decide) rfl Aa Ab (Ad Aa Ab (UB n) Al) (Af (fn:=Tryz.f37) (L:=fgarage_Write_C n) (ks:=[]) trivial (by kernel_rfl) (by kernel_rfl)) (VW n)
def Gi:Nat→Int→(List (IK .u8))→Int→Int→Option ((Int×Unit) ⊕ ((Int×Unit)))
  | 0,_,_,_,_=>none
  | n+1,n_,x6,x7,x8 =>
    bif decide (x8<x7) then((AO x6 x8).bind fun v0 =>
    bif !decide (v0.n<48) then(bif decide (v0.n>57) then(some (.inr (-1,()))) else
    Gi n (IntKind.i64.wrap (IntKind.i64.wrap (10*n_)+IntKind.i64.wrap (IntKind.u8.wrap (v0.n-48)))) x6 x7 (IntKind.i64.wrap (x8+1))) else
    some (.inr (-1,()))) else
    some (.inl (n_,()))
def Rn (n:Nat) (l:List (IK .u8)):Option ((Int×Unit)) :=
    (Gi n 0 l (↑l.length:Int) 0).bind fun v0 =>
    Sum.elim (fun v1=>some (v1.fst,())) (fun v1=>some (v1.fst,())) (v0)
def KA:List (Nat×C):=[]
def Pq:List Wo:=[⟨.ret,[],[],[.l 9]⟩]
def Te (n:Nat):Option ((List ByteArray×Unit)) :=
    some ([B [102,111,117,110,100,32,55,32,49,32,49,48,48,32,51],B [111,117,116,32,55,32,49,53,48],B [111,117,116,32,56,32,49,53,48],B [105,110,32,56,32,50,48,48,32,51,48],B [115,105,103,110,101,100,32,55,32,50,32,49,54,48,32,49],B [111,117,116,32,55,32,49,55,48],B [104,101,108,100,32,56,32,51,32,49,52,48,32,50],B [111,117,116,32,56,32,51,48,48],B [115,97,108,101,32,53,32,50,32,49,53,32,49,32,51,48,48],B [99,108,111,115,101,32,53,32,52,32,51,48,32,50,32,53,48,48],B [100,114,105,118,101,114,32,49,32,45,57,48,48],B [100,117,116,121,32,48,32,51,48,48,32,57,48,48,32,49,48,48,48,32,49],B [100,117,116,121,32,49,32,49,48,48,32,53,48,48,32,53,48,48,32,49],B [103,105,118,101,32,48,32,48],B [103,105,118,101,32,49,32,48],B [105,110,32,55,32,49,54,53,32,53]],())
def UC (n:Nat) (y:C.Ds Ty (Aj KA)):Option (YT Ty Pq):=Te n
noncomputable def flaw_shift_law (n:Nat):AE Ty:=AF KA 0 Pq (UC n)
noncomputable def flaw_shift_T (n:Nat):List (Nat×AE Ty):=[]
theorem ZM (n:Nat):Aq Tryz.prog (flaw_shift_T n):=trivial
noncomputable def flaw_shift_C (n:Nat):A3 Ty:=[]
theorem Aa4 (n:Nat) (x:C.Ds Ty (Aj KA)):(Az Tryz.prog 2 (Am Tryz.prog (flaw_shift_T n) []) (Ai (flaw_shift_C n)) (An Tryz.f51) (Aw KA x)).runK (As Tryz.prog Tryz.f51.results.toList 0 Pq)=UC n x:=by kernel_rfl
theorem VX (n:Nat):Ar Tryz.prog 51 (flaw_shift_law n):=Au Tryz.func51 rfl rfl (by decide) rfl Aa Ab (Ad Aa Ab (ZM n) Al) (Af (fn:=Tryz.f51) (L:=flaw_shift_C n) (ks:=[]) trivial (by kernel_rfl) (by kernel_rfl)) (Aa4 n)
def KB:List (Nat×C):=[]
def Pr:List Wo:=[⟨.ret,[],[],[.s 4]⟩]
def J5 (n:Nat):Option ((Bool×Unit)) :=
    (Te n).bind fun v0 =>
    (GK n v0.fst).bind fun v1 =>
    (Te n).bind fun v2 =>
    (U8 n v2.fst).bind fun v3 =>
    (Sp n [B [97]]).bind fun v4 =>
    bif !v1.snd.snd.fst != 0 then(bif !v3.snd.fst != 0 then(bif !v4.snd.fst != 0 then(bif (↑v1.snd.fst.length:Int) != 16 then(some (false,())) else
    (AO v1.snd.fst 1).bind fun v5 =>
    bif decide (v5=11) then((AO v1.snd.fst 7).bind fun v6 =>
    bif decide (v6=11) then((AO v1.snd.fst 14).bind fun v7 =>
    bif decide (v7=10) then((AO v1.snd.fst 15).bind fun v8 =>
    bif decide (v8=2) then(bif decide ((↑v1.fst.runs.length:Int)=1) then((AO v1.fst.runs 0).bind fun v9 =>
    bif decide (v9.bus=8) && (decide (v9.fr=150) && (decide (v9.to_=200) && (decide (v9.miles=30) && true))) then(bif decide ((↑v1.fst.outs.length:Int)=1) then((AO v1.fst.outs 0).bind fun v10 =>
    bif decide (v10.bus=7) && (decide (v10.fr=170) && true) then((VE n v1.fst.roster [0,-1]).bind fun v11 =>
    bif v11.fst then((VE n v3.fst [2]).bind fun v12 =>
    bif v12.fst then(some ((Alf v4.fst).beq (B [91,48,48,49,47,57,57,56,47,48,48,49,48,53,93,97,10]),())) else
    some (false,())) else
    some (false,())) else
    some (false,())) else
    some (false,())) else
    some (false,())) else
    some (false,())) else
    some (false,())) else
    some (false,())) else
    some (false,())) else
    some (false,())) else
    some (false,())) else
    some (false,())) else
    some (false,())
def UD (n:Nat) (y:C.Ds Ty (Aj KB)):Option (YT Ty Pr):=J5 n
noncomputable def flaw_wakes_law (n:Nat):AE Ty:=AF KB 0 Pr (UD n)
noncomputable def flaw_wakes_T (n:Nat):List (Nat×AE Ty):=[(51,flaw_shift_law n),(21,fgarage_Play_law n),(31,fgarage_Late_law n),(37,fgarage_Write_law n),(32,flaw_ints_law n)]
theorem ZN (n:Nat):Aq Tryz.prog (flaw_wakes_T n):=⟨VX n,⟨L5 n,⟨Tb n,⟨RT n,⟨Xl n,trivial⟩⟩⟩⟩⟩
noncomputable def flaw_wakes_C (n:Nat):A3 Ty:=[]
theorem Aa5 (n:Nat) (x:C.Ds Ty (Aj KB)):(Az Tryz.prog 105 (Am Tryz.prog (flaw_wakes_T n) []) (Ai (flaw_wakes_C n)) (An Tryz.f20) (Aw KB x)).runK (As Tryz.prog Tryz.f20.results.toList 0 Pr)=UD n x:=by kernel_rfl
theorem VY (n:Nat):Ar Tryz.prog 20 (flaw_wakes_law n):=Au Tryz.func20 rfl rfl (by decide) rfl Aa Ab (Ad Aa Ab (ZN n) Al) (Af (fn:=Tryz.f20) (L:=flaw_wakes_C n) (ks:=[]) trivial (by kernel_rfl) (by kernel_rfl)) (Aa5 n)
def BA:List (Nat×C):=[(0,.l 9),(1,.s 5),(5,.u 35),(6,.l 37),(8,.o 9),(9,.s 3),(10,.u 90),(12,.s 3),(13,.s 3)]
def EH:List Wo:=[⟨.exit 2,[.u 35,.u 90],[(0,.l 9),(1,.s 5),(5,.q 0),(6,.l 37),(8,.o 9),(9,.s 3),(12,.s 3)],[]⟩]
def BB:List (Nat×C):=[(0,.l 9),(1,.s 5),(5,.u 35),(6,.l 37),(8,.o 9),(9,.s 3)]
def EI:List Wo:=[⟨.exit 0,[.u 35],[(1,.s 5),(5,.q 0),(8,.l 9)],[]⟩,⟨.ret,[.u 35],[(4,.s 4)],[]⟩]
def BC:List (Nat×C):=[(18,.l 37),(20,.l 98),(22,.l 98),(24,.s 3)]
def EJ:List Wo:=[⟨.exit 4,[],[(20,.l 98),(22,.l 98)],[]⟩,⟨.ret,[],[(4,.s 4)],[]⟩]
def BD:List (Nat×C):=[(20,.l 98),(22,.l 98),(25,.s 3)]
def EL:List Wo:=[⟨.exit 6,[],[],[]⟩,⟨.ret,[],[(4,.s 4)],[]⟩]
def DU:List (Nat×C):=[(0,.l 9),(1,.s 5)]
def G5:List Wo:=[⟨.ret,[],[],[.s 4]⟩]
def Bd:Nat→(List ByteArray)→(IK .u8)→A0→(List Int)→(List ByteArray)→Int→Ac→Int→Int→Option ((A0×Ac×List ByteArray×IK .u8×Unit×List Int×List ByteArray×Int×Int×Unit))
  | 0,_,_,_,_,_,_,_,_,_=>none
  | n+1,lines,by_,s,errors,l,i,r,n_,k =>
    bif decide (k<(↑s.records.length:Int)) then((AO s.records k).bind fun v0 =>
    bif decide (v0.machine=r.machine) then(bif decide (v0.seq=r.seq) then(Bd n lines by_ s errors l i r (IntKind.i64.wrap (n_+1)) (IntKind.i64.wrap (k+1))) else
    Bd n lines by_ s errors l i r n_ (IntKind.i64.wrap (k+1))) else
    Bd n lines by_ s errors l i r n_ (IntKind.i64.wrap (k+1))) else
    some (s,(r,(lines,(by_,((),(errors,(l,(i,(n_,())))))))))
def Cz (n:Nat) (y:C.Ds Ty (Aj BA)):Option (YT Ty EH):=Bd n y.1 y.2.1 y.2.2.1 y.2.2.2.1 y.2.2.2.2.1 y.2.2.2.2.2.1 y.2.2.2.2.2.2.1 y.2.2.2.2.2.2.2.1 y.2.2.2.2.2.2.2.2.1
noncomputable def flaw_GarageTickets_l2_cut (n:Nat):St Ty→Tr (Lf Ty):=CK BA 2 EH (Cz n)
def Be:Nat→(List ByteArray)→(IK .u8)→A0→(List Int)→(List ByteArray)→Int→Option ((A0×IK .u8×Unit×List ByteArray×Unit) ⊕ ((A0×Bool×Unit)))
  | 0,_,_,_,_,_,_=>none
  | n+1,lines,by_,s,errors,l,i =>
    bif decide (i<(↑lines.length:Int)) then((AO lines i).bind fun v0 =>
    (MC n v0).bind fun v1 =>
    bif !!v1.snd.fst then((AO errors i).bind fun v2 =>
    bif v2 != 0 then(Be n lines by_ s errors l (IntKind.i64.wrap (i+1))) else
    (Bd n lines by_ s errors l i v1.fst 0 0).bind fun v3 =>
    bif v3.snd.snd.snd.snd.snd.snd.snd.snd.fst != 1 then(some (.inr (v3.fst,(false,())))) else
    (AO v3.snd.snd.fst v3.snd.snd.snd.snd.snd.snd.snd.fst).bind fun v4 =>
    (app v3.snd.snd.snd.snd.snd.snd.fst [v4]).bind fun v5 =>
    Be n v3.snd.snd.fst v3.snd.snd.snd.fst v3.fst v3.snd.snd.snd.snd.snd.fst v5 (IntKind.i64.wrap (v3.snd.snd.snd.snd.snd.snd.snd.fst+1))) else
    Be n lines by_ s errors l (IntKind.i64.wrap (i+1))) else
    some (.inl (s,(by_,((),(l,())))))
def C0 (n:Nat) (y:C.Ds Ty (Aj BB)):Option (YT Ty EI):=Be n y.1 y.2.1 y.2.2.1 y.2.2.2.1 y.2.2.2.2.1 y.2.2.2.2.2.1
noncomputable def flaw_GarageTickets_l1_cut (n:Nat):St Ty→Tr (Lf Ty):=CK BB 1 EI (C0 n)
def BU:Nat→(List Int)→(List Em)→(List Em)→Int→Option ((List Em×List Em×Unit) ⊕ ((Bool×Unit)))
  | 0,_,_,_,_=>none
  | n+1,clean,a,b,i =>
    bif decide (i<(↑clean.length:Int)) then((AO clean i).bind fun v0 =>
    bif v0 != 0 then(some (.inr (false,()))) else
    BU n clean a b (IntKind.i64.wrap (i+1))) else
    some (.inl (a,(b,())))
def C1 (n:Nat) (y:C.Ds Ty (Aj BC)):Option (YT Ty EJ):=BU n y.1 y.2.1 y.2.2.1 y.2.2.2.1
noncomputable def flaw_GarageTickets_l3_cut (n:Nat):St Ty→Tr (Lf Ty):=CK BC 0 EJ (C1 n)
def Bv:Nat→(List Em)→(List Em)→Int→Option (Unit ⊕ ((Bool×Unit)))
  | 0,_,_,_=>none
  | n+1,a,b,i =>
    bif decide (i<(↑a.length:Int)) then((AO a i).bind fun v0 =>
    (AO b i).bind fun v1 =>
    bif !(decide (v0.machine=v1.machine) && (decide (v0.fr=v1.fr) && (decide (v0.to_=v1.to_) && (decide (v0.sales=v1.sales) && (decide (v0.coins=v1.coins) && true))))) then(some (.inr (false,()))) else
    Bv n a b (IntKind.i64.wrap (i+1))) else
    some (.inl ())
def C2 (n:Nat) (y:C.Ds Ty (Aj BD)):Option (YT Ty EL):=Bv n y.1 y.2.1 y.2.2.1
noncomputable def flaw_GarageTickets_l4_cut (n:Nat):St Ty→Tr (Lf Ty):=CK BD 0 EL (C2 n)
def Fs (n:Nat) (lines:List ByteArray) (by_:IK .u8):Option ((Bool×Unit)) :=
    (Pm n lines).bind fun v0 =>
    bif !v0.fst then((J5 n).bind fun v1 =>
    some (v1.fst,())) else
    (R3 n lines).bind fun v1 =>
    (GK n v1.fst).bind fun v2 =>
    bif !v2.snd.snd.fst != 0 then(bif (↑v2.snd.fst.length:Int) != (↑lines.length:Int) then(some (false,())) else
    (Be n lines by_ v2.fst v2.snd.fst [] 0).bind fun v3 =>
    Sum.elim (fun v4=>bif (↑v4.snd.snd.snd.fst.length:Int) != (↑v4.fst.records.length:Int) then(some (false,())) else
    bif decide ((↑v4.snd.snd.snd.fst.length:Int)=0) then((J5 n).bind fun v5 =>
    some (v5.fst,())) else
    (AkH (IntKind.i64.wrap v4.snd.fst.n) (↑v4.snd.snd.snd.fst.length:Int)).bind fun v5 =>
    (HB v4.snd.snd.snd.fst v5 (↑v4.snd.snd.snd.fst.length:Int)).bind fun v6 =>
    (app [] v6).bind fun v7 =>
    (HB v4.snd.snd.snd.fst 0 v5).bind fun v8 =>
    (app v7 v8).bind fun v9 =>
    (GK n v9).bind fun v10 =>
    (app [] v4.fst.records).bind fun v11 =>
    (Fq n v11).bind fun v12 =>
    (app [] v10.fst.records).bind fun v13 =>
    (Fq n v13).bind fun v14 =>
    bif !v10.snd.snd.fst != 0 then(bif !v12.snd.fst != v14.snd.fst then(bif !(↑v12.fst.length:Int) != (↑v14.fst.length:Int) then(bif (↑v10.snd.fst.length:Int) != (↑v4.snd.snd.snd.fst.length:Int) then(some (false,())) else
    (BU n v10.snd.fst v12.fst v14.fst 0).bind fun v15 =>
    Sum.elim (fun v16=>(Bv n v16.fst v16.snd.fst 0).bind fun v17 =>
    Sum.elim (fun v18=>(J5 n).bind fun v19 =>
    some (v19.fst,())) (fun v18=>some (v18.fst,())) (v17)) (fun v16=>some (v16.fst,())) (v15)) else
    some (false,())) else
    some (false,())) else
    some (false,())) (fun v4=>some (v4.snd.fst,())) (v3)) else
    some (false,())
def JO (n:Nat) (y:C.Ds Ty (Aj DU)):Option (YT Ty G5):=Fs n y.1 y.2.1
noncomputable def flaw_GarageTickets_law (n:Nat):AE Ty:=IZ (AF DU 0 G5 (JO n))
noncomputable def flaw_GarageTickets_T (n:Nat):List (Nat×AE Ty):=[(27,flaw_ready_law n),(20,flaw_wakes_law n),(22,flaw_list_law n),(21,fgarage_Play_law n),(43,fref_Record_law n),(44,fsheet_Lacks_law n)]
theorem BN (n:Nat):Aq Tryz.prog (flaw_GarageTickets_T n):=⟨VO n,⟨VY n,⟨Xm n,⟨L5 n,⟨U4 n,⟨ST n,trivial⟩⟩⟩⟩⟩⟩
noncomputable def flaw_GarageTickets_l2_C (n:Nat):A3 Ty:=[]
theorem Nc (n:Nat) (x:C.Ds Ty (Aj BA)):(Az Tryz.prog 198 (Am Tryz.prog (flaw_GarageTickets_T n) []) (Ai (flaw_GarageTickets_l2_C n)) (Ap 14 Tryz.f13) (Aw BA x)).runK (AI 2 BA EH (Cz n))=Cz (n+1) x:=by kernel_rfl
theorem Nd (n:Nat):A9 true Tryz.prog 198 (flaw_GarageTickets_l2_cut n) (.loop (Ap 14 Tryz.f13)):=AM fun x y hy=>A2 (Fn:=Cz) Aa Ab (fun n=>Ad Aa Ab (BN n) Al) (fun h=>by cases h) (fun h=>by cases h) (fun n=>(Af (fn:=Tryz.f13) (L:=flaw_GarageTickets_l2_C n) (ks:=[]) trivial (by kernel_rfl) (by kernel_rfl))) (by decide) (fun _=>rfl) Nc hy
noncomputable def flaw_GarageTickets_l1_C (n:Nat):A3 Ty:=[(.loop 14,flaw_GarageTickets_l2_cut n)]
theorem Nf (n:Nat) (x:C.Ds Ty (Aj BB)):(Az Tryz.prog 198 (Am Tryz.prog (flaw_GarageTickets_T n) []) (Ai (flaw_GarageTickets_l1_C n)) (Ap 8 Tryz.f13) (Aw BB x)).runK (AI 1 BB EI (C0 n))=C0 (n+1) x:=by kernel_rfl
theorem Ng (n:Nat):A9 true Tryz.prog 198 (flaw_GarageTickets_l1_cut n) (.loop (Ap 8 Tryz.f13)):=AM fun x y hy=>A2 (Fn:=C0) Aa Ab (fun n=>Ad Aa Ab (BN n) Al) (fun h=>by cases h) (fun h=>by cases h) (fun n=>(Af (fn:=Tryz.f13) (L:=flaw_GarageTickets_l1_C n) (ks:=[.loop 14]) ⟨Nd n,trivial⟩ (by kernel_rfl) (by kernel_rfl))) (by decide) (fun _=>rfl) Nf hy
noncomputable def flaw_GarageTickets_l3_C (n:Nat):A3 Ty:=[]
theorem Nh (n:Nat) (x:C.Ds Ty (Aj BC)):(Az Tryz.prog 198 (Am Tryz.prog (flaw_GarageTickets_T n) []) (Ai (flaw_GarageTickets_l3_C n)) (Ap 34 Tryz.f13) (Aw BC x)).runK (AI 0 BC EJ (C1 n))=C1 (n+1) x:=by kernel_rfl
theorem Ni (n:Nat):A9 true Tryz.prog 198 (flaw_GarageTickets_l3_cut n) (.loop (Ap 34 Tryz.f13)):=AM fun x y hy=>A2 (Fn:=C1) Aa Ab (fun n=>Ad Aa Ab (BN n) Al) (fun h=>by cases h) (fun h=>by cases h) (fun n=>(Af (fn:=Tryz.f13) (L:=flaw_GarageTickets_l3_C n) (ks:=[]) trivial (by kernel_rfl) (by kernel_rfl))) (by decide) (fun _=>rfl) Nh hy
noncomputable def flaw_GarageTickets_l4_C (n:Nat):A3 Ty:=[]
theorem Nj (n:Nat) (x:C.Ds Ty (Aj BD)):(Az Tryz.prog 198 (Am Tryz.prog (flaw_GarageTickets_T n) []) (Ai (flaw_GarageTickets_l4_C n)) (Ap 39 Tryz.f13) (Aw BD x)).runK (AI 0 BD EL (C2 n))=C2 (n+1) x:=by kernel_rfl
theorem Nk (n:Nat):A9 true Tryz.prog 198 (flaw_GarageTickets_l4_cut n) (.loop (Ap 39 Tryz.f13)):=AM fun x y hy=>A2 (Fn:=C2) Aa Ab (fun n=>Ad Aa Ab (BN n) Al) (fun h=>by cases h) (fun h=>by cases h) (fun n=>(Af (fn:=Tryz.f13) (L:=flaw_GarageTickets_l4_C n) (ks:=[]) trivial (by kernel_rfl) (by kernel_rfl))) (by decide) (fun _=>rfl) Nj hy
noncomputable def flaw_GarageTickets_C (n:Nat):A3 Ty:=[(.loop 8,flaw_GarageTickets_l1_cut n),(.loop 34,flaw_GarageTickets_l3_cut n),(.loop 39,flaw_GarageTickets_l4_cut n)]
theorem PP (n:Nat) (x:C.Ds Ty (Aj DU)):(Az Tryz.prog 198 (Am Tryz.prog (flaw_GarageTickets_T n) []) (Ai (flaw_GarageTickets_C n)) (An Tryz.f13) (Aw DU x)).runK (As Tryz.prog Tryz.f13.results.toList 0 G5)=JO n x:=by kernel_rfl
theorem Nl (n:Nat):Ar Tryz.prog 13 (flaw_GarageTickets_law n):=C6 (Au Tryz.func13 rfl rfl (by decide) rfl Aa Ab (Ad Aa Ab (BN n) Al) (Af (fn:=Tryz.f13) (L:=flaw_GarageTickets_C n) (ks:=[.loop 8,.loop 34,.loop 39]) ⟨Ng n,⟨Ni n,⟨Nk n,trivial⟩⟩⟩ (by kernel_rfl) (by kernel_rfl)) (PP n))
end Go.Proofs.YtkpgggfibljflaaGreatDoor
namespace Go.Proofs.YtkpgggfibljflaaGreatDoor
open Go Go.RowKit Go.Proofs
theorem Akj (k:Nat):J5 (k+60)=some (true,()):=by kernel_rfl
end Go.Proofs.YtkpgggfibljflaaGreatDoor
