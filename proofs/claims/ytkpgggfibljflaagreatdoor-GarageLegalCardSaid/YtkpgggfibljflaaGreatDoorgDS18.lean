/- What a proof leans on: a machine that steps through code, and what functions compute. -/
import Derived.Test.YtkpgggfibljflaaGreatDoorgDS17
set_option linter.all false
set_option maxRecDepth 100000
namespace Go.Proofs.YtkpgggfibljflaaGreatDoor
open Go Go.RowKit Go.Proofs
open Rep (rep)
def Afa:Code→Code
  | .seq a _=>a
  | c=>c
theorem AjF:Ap Tryz.f84=.seq (Afa (Ap Tryz.f84)) (.seq (Afa (Ub 1 (Ap Tryz.f84))) (Ub 2 (Ap Tryz.f84))):=by kernel_rfl
def JG:List (Nat×C):=[(0,.u 114),(1,.s 9)]
def Wf:List Wo:=[⟨.ret,[.u 114],[],[.s 37]⟩]
def AnU (n:Nat) (g:Af) (text:ByteArray):Option (Af×Int×Unit):=(Aiu n g text 0).bind fun y=>match y with
  | .inl a=>some (a.1,a.2.1.1,())
  | .inr a=>some (a.1,a.2.2.2.1.errno,())
def Ak0 (n:Nat) (y:C.Ds Ty (Ai JG)):Option (YT Ty Wf):=AnU n y.1 y.2.1
noncomputable def nextS_law (n:Nat):AH Ty:=AI JG 1 Wf (Ak0 n)
noncomputable def nextS_st (x:C.Ds Ty (Ai JG)):St Ty:=⟨[(4,.ptr 2000 0),(0,.ptr 0 0),(1,AhQ (UV.view 9 x.2.1))],[(0,.blk (UV.view 114 x.1)),(2000,.blk [.int .i64 0])],2064⟩
theorem AnV (x:C.Ds Ty (Ai JG)):(A1 Tryz.prog 50 (An Tryz.prog [] []) (Ah []) (Afa (Ap Tryz.f84)) (A0 JG x)).runK some=some ⟨.normal,nextS_st x⟩:=by kernel_rfl
theorem AnW (t:Array Value) (d:List Deferred) (w:World) (Q:Exit→Act→World→Prop) (p:Addr) (ht:t.size=50) (hp:t[4]? = some (.pointer (some p)))
    (hQ:∀ t',t'.size=50→(∀ k,k≠11→t'[k]? = t[k]?)→Q .normal ⟨t',⟨.fn (.func 137) #[.pointer (some p)],#[]⟩::d⟩ w):(Afa (Ub 1 (Ap Tryz.f84))).wp Tryz.prog Q ⟨t,d⟩ w:=by
  have hc:Afa (Ub 1 (Ap Tryz.f84))=Code.region 1
      #[{ dst:=some 11,op:=Op.makeFunc (Fn.func 137) #[] #[Operand.tmp 4],type:=1,pos := "garage.go:102",
          after:=#[],guard:=none },
        { dst:=none,op:=Op.defer { callee:=Callee.value (Operand.tmp 11),args:=#[],argTypes:=#[] },
          type:=0,pos := "garage.go:102",after:=#[{ on:=0,ground:=Ground.data }],guard:=none }]
      false:=by kernel_rfl
  rw [hc]
  have hmf:∀ (fn:Fn)(first cap:Array Value)(w:World),(Instr.makeFunc fn first cap).run Tryz.prog w=.ok (.func fn first cap) w:=fun _ _ _ _=>rfl
  have h4:4<t.size:=by omega
  have h11:11<t.size:=by omega
  have he:t.getD 4 Go.undef=.pointer (some p):=by simp [Array.getD_eq_getD_getElem?,hp]
  refine wp_region ?_
  simp [wpOps,go_sem,hmf,Region.wanted,Act.eval,h11]
  rw [hp]
  exact .inl (.inl (hQ _ (by simp [ht]) fun k hk=>by rw [Array.getElem?_setIfInBounds_ne (Ne.symm hk)]))
noncomputable def nextS_m1 (a:Af) (e:Int):AK Ty:=[(2000,.blk [.int .i64 e]),(0,.blk (UV.view 114 a))]
noncomputable def nextS_lf (k:EK) (a:Af) (e r:Int):Lf Ty:=⟨k.ext [.ifc 234 (.agg [.int .i64 r])],⟨[(4,.ptr 2000 0)],nextS_m1 a e,2064⟩⟩
theorem AlO (Fn:C.Ds Ty (Ai NJ)→Option (YT Ty Qq)) (x:C.Ds Ty (Ai JG)):(C3 NJ 2 Qq Fn (nextS_st x)).runK some=(Fn (x.1,x.2.1,((0:Int),()),())).bind fun y=>y.elim (fun a=>some (nextS_lf .ret a.1 a.2.1.1 0)) (fun a=>some (nextS_lf .pan a.1 a.2.1.1 a.2.2.2.1.errno)):=by kernel_rfl
theorem AlP {F:Fr} {h:Ag} {g:GE} {t:Array Value} {w:World} {a:Af} {e:Int} (hk:Wx g h ([(4,.ptr 2000 0)]:List (Nat×V Ty)) t) (hm:At F h g (AL.get (nextS_m1 a e)) w):∃ us,V.dens g h ([.int .i64 e]:List (V Ty)) us∧(results Tryz.f84 t).run Tryz.prog w=.ok (U5 us) w :=
  Mi (P:=Tryz.prog) (m:=[(4,.ptr 2000 0)]) (s:=nextS_m1 a e) (vs:=[.int .i64 e]) hk hm (by kernel_rfl)
theorem AnX (a:Af) (e:Int):GR 1 false ([.int .i64 e]:List (V Ty)) ⟨[],nextS_m1 a e,2064⟩ Wf=some (a,e,()):=by kernel_rfl
theorem Ak1 (a:Af) (e:Int):AL.get (nextS_m1 a e) 2000=some (.blk [.int .i64 e]):=by kernel_rfl
theorem AjG (n:Nat) (x:C.Ds Ty (Ai JG)) (y:YT Ty Wf) (hy:Ak0 n x=some y) (F:Fr) (h:Ag) (g:GE) (t:Array Value) (w:World) (R:Ending→World→Prop) (hs:RS Tryz.f84.ntmps F h g (2*AG) (A0 JG x).m (A0 JG x).s t w)
    (hfin:∀ (F3:Fr)(h2:Ag)(g2:GE)(w3:World)(st:St Ty)(p:Bool)(rv:List (V Ty))(rus:List Value),st.m=[]→FD F F3 [] []→Ag.le h h2→(∀ i,i<2*AG→g2 i=g i)→2*AG≤st.nx→At F3 h2 g2 (AL.get st.s) w3→Ps st.nx (AL.get st.s)→GR 1 p rv st Wf=some y→V.dens g2 h2 rv rus→V.oksB (DR st.nx) rv=true→R (XW p (U5 rus)) w3) :
    (Ap Tryz.f84).wp Tryz.prog (bodyPostM Fence.wide 0 Tryz.prog Tryz.f84 R) ⟨t,[]⟩ w:=by
  have hn:Tryz.f84.ntmps=50:=by kernel_rfl
  rw [hn] at hs
  rw [AjF]
  refine wp_seq ?_
  refine BH (y:=true) (call:=An Tryz.prog [] []) (cuts:=Ah []) Aa Ab (Ac (T:=[]) (I:=[]) Aa Ab trivial trivial) (fun h=>by cases h) (Afa (Ap Tryz.f84)) (fun h=>by cases h) (fun _ _ _ hf=>by cases hf) (A0 JG x) _ (AnV x) F h g t w _ [] hs ?_
  intro F1 d1 h1 g1 t1 w1 q0 q1 q2 q3 q4
  have hnx:(A0 JG x).nx=2*AG:=rfl
  rw [hnx] at q2
  show Code.wp Tryz.prog _ (bodyPostM Fence.wide 0 Tryz.prog Tryz.f84 R) ⟨t1,d1⟩ w1
  refine wp_seq ?_
  obtain⟨u,hu,hd⟩:=q4.kn 4 (.ptr 2000 0) rfl
  unfold V.den at hd
  subst hd
  refine AnW t1 d1 w1 _ ⟨(g1 2000).b,0,none⟩ q4.size hu fun t2 ht2 hk2=>?_
  show Code.wp Tryz.prog (Ub 2 (Ap Tryz.f84)) (bodyPostM Fence.wide 0 Tryz.prog Tryz.f84 R) _ w1
  have hcut:AF true Tryz.prog 50 (C3 NJ 2 Qq (We n)) (Ub 2 (Ap Tryz.f84)):=AM fun x y hy=>AlN n hy
  have hk3:Wx g1 h1 (nextS_st x).m t2:=fun k v hv=>by
    obtain⟨u',e1,e2⟩:=q4.kn k v hv
    refine⟨u',?_,e2⟩
    rw [hk2 k ?_]; exact e1
    intro hh
    subst hh
    cases hv
  have hs2:RS 50 F1 h1 g1 (nextS_st x).nx (nextS_st x).m (nextS_st x).s t2 w1:=⟨ht2,hk3,q4.mem,q4.im,q4.is_⟩
  -- what comes behind the body
  have fin:∀ (a:Af)(e:Int),(a,e,())=y→∀ (F3:Fr)(h2:Ag)(g2:GE)(t3:Array Value)(w3:World),FD F F3 [] []→Ag.le h1 h2→(∀ i,i<2064→g2 i=g1 i)→Wx g2 h2 ([(4,.ptr 2000 0)]:List (Nat×V Ty)) t3→At F3 h2 g2 (AL.get (nextS_m1 a e)) w3→Ps 2064 (AL.get (nextS_m1 a e))→LeavesInM Fence.wide 0 Tryz.prog Tryz.f84 t3 R [] .returning w3:=by
    intro a e hye F3 h2 g2 t3 w3 f1 f2 f3 f4 f5 f6
    obtain⟨us,r1,r2⟩:=AlP f4 f5
    refine⟨U5 us,r2,?_⟩
    have hlt:2*AG≤2064:=by decide
    exact hfin F3 h2 g2 w3 ⟨[],nextS_m1 a e,2064⟩ false [.int .i64 e] us rfl f1 (Ag.le_trans q1 f2) (fun i hi=>by rw [f3 i (Nat.lt_of_lt_of_le hi hlt),q2 i hi]) hlt f5 f6 ((AnX a e).trans (congrArg some hye)) r1 rfl
  obtain⟨bs1,hd1,nd1,hX1⟩:=q0.ds
  rw [List.append_nil] at hd1
  have rest:∀ (a:Af)(e:Int),(a,e,())=y→∀ (F3:Fr)(h2:Ag)(g2:GE)(t3:Array Value)(w3:World),FD F1 F3 [] []→Ag.le h1 h2→(∀ i,i<2064→g2 i=g1 i)→Wx g2 h2 ([(4,.ptr 2000 0)]:List (Nat×V Ty)) t3→At F3 h2 g2 (AL.get (nextS_m1 a e)) w3→Ps 2064 (AL.get (nextS_m1 a e))→LeavesInM Fence.wide 0 Tryz.prog Tryz.f84 t3 R d1 .returning w3:=by
    intro a e hye F3 h2 g2 t3 w3 f1 f2 f3 f4 f5 f6
    have:=G2 (P:=Tryz.prog) (F:=F) (h:=h2) (g:=g2) (M:=AL.get (nextS_m1 a e)) (fn:=Tryz.f84) (t:=t3) (R:=R) (u:=.returning) (rest:=[]) (by simp) (fun F4 w4 k1 k2=>fin a e hye F4 h2 g2 t3 w4 k1 f2 f3 f4 k2 f6) bs1 F3 w3 ⟨by rw [f1.w,q0.w],by rw [f1.h,q0.h],fun b o hb=>f1.X b o (q0.X b o hb),[],rfl,List.nodup_nil,by simp⟩ f5 nd1 fun b hb=>⟨(hX1 b hb).1,f1.X _ _ (hX1 b hb).2⟩
    rw [List.append_nil] at this
    rw [hd1]; exact this
  have hy2:((Aiu n x.1 x.2.1 0).bind fun y=>match y with
    | .inl a=>some (a.1,a.2.1.1,())
    | .inr a=>some (a.1,a.2.2.2.1.errno,()))=some y:=hy
  obtain⟨y0,hy0,hy3⟩:=Option.bind_eq_some_iff.1 hy2
  have hrun:=AlO (We n) x
  have hB:We n (x.1,x.2.1,((0:Int),()),())=some y0:=hy0
  rw [hB] at hrun
  cases y0 with
  | inl a =>
    have hye:=Option.some.inj hy3
    refine hcut (nextS_st x) _ hrun F1 h1 g1 t2 w1 _ _ hs2 ?_
    intro F2 d2 h2 g2 t3 w2 p0 p1 p2 p3 p4
    show LeavesInM Fence.wide 0 Tryz.prog Tryz.f84 t3 R d2 .returning w2
    obtain⟨bs,hd2,nd,hX⟩:=p0.ds
    rw [hd2]
    refine G2 (P:=Tryz.prog) (F:=F1) (h:=h2) (g:=g2) (M:=AL.get (nextS_m1 a.1 a.2.1.1)) (by simp) (fun F4 w4 k1 k2=>?_) bs F2 w2 p0.nil p4.mem nd hX
    refine⟨by simp,.inr ⟨fun hh=>by simp [Fence.wide] at hh,_,_,137,#[.pointer (some ⟨(g1 2000).b,0,none⟩)],rfl,by simp [go_sem],fun _ _=>trivial,?_⟩⟩
    refine(AjD _ w4).mono ?_
    rintro e u' w' ⟨rfl,rfl,rfl⟩
    exact rest a.1 a.2.1.1 hye F4 h2 g2 t3 w' k1 p1 (fun i hi=>p2 i hi) p4.kn k2 p4.is_
  | inr a =>
    have hye:=Option.some.inj hy3
    refine hcut (nextS_st x) _ hrun F1 h1 g1 t2 w1 _ _ hs2 ?_
    intro F2 d2 h2 g2 t3 w2 p0 p1 p2 p3 p4
    intro v hv _
    show LeavesInM Fence.wide 0 Tryz.prog Tryz.f84 t3 R d2 (.panicking [{ v:=v,recovered:=false }]) w2
    have hvv:v=.iface 234 (.agg #[.int .i64 a.2.2.2.1.errno]):=by
      have hv:V.den g2 h2 (.ifc 234 (.agg [.int .i64 a.2.2.2.1.errno]):V Ty) v:=hv
      unfold V.den at hv
      obtain⟨z,rfl,hz⟩:=hv
      unfold V.den at hz
      obtain⟨us,rfl,hz⟩:=hz
      unfold V.dens at hz
      obtain⟨u1,us1,rfl,hz1,hz2⟩:=hz
      unfold V.dens at hz2
      unfold V.den at hz1
      subst hz1 hz2
      rfl
    subst hvv
    obtain⟨bs,hd2,nd,hX⟩:=p0.ds
    rw [hd2]
    refine G2 (P:=Tryz.prog) (F:=F1) (h:=h2) (g:=g2) (M:=AL.get (nextS_m1 a.1 a.2.1.1)) (by simp) (fun F4 w4 k1 k2=>?_) bs F2 w2 p0.nil p4.mem nd hX
    refine⟨by simp,.inr ⟨fun hh=>by simp [Fence.wide] at hh,_,_,137,#[.pointer (some ⟨(g1 2000).b,0,none⟩)],rfl,by simp [go_sem],fun _ _=>trivial,?_⟩⟩
    have hm20:=Ak1 a.1 a.2.1.1
    obtain⟨us,T,b1,b2,b3,b4,b5⟩:=k2.blk hm20
    unfold V.dens at b2
    obtain⟨u1,us1,rfl,b6,b7⟩:=b2
    unfold V.dens at b7
    unfold V.den at b6
    subst b6 b7
    have hg20:(g2 2000).b=(g1 2000).b:=by rw [p2 2000 (show(2000:Nat)<2064 by decide)]
    rw [hg20] at b1
    have hlt:(g1 2000).b<w4.heap.size:=(Array.getElem?_eq_some_iff.1 b1).1
    have hfz:w4.frozen? ⟨(g1 2000).b,0,none⟩=false:=by simp [World.frozen?,b1]
    have hcl:w4.cell? ⟨(g1 2000).b,0,none⟩=some (.int .i64 a.2.1.1):=by
      have:=b5 0 _ rfl
      rw [hg20] at this
      exact this
    refine(ZD ⟨(g1 2000).b,0,none⟩ a.2.1.1 a.2.2.2.1.errno w4 hlt hcl hfz).mono ?_
    rintro e u' w' ⟨rfl,rfl,rfl⟩
    have ha:(w4.alloc (.cells #[.int .i64 a.2.2.2.1.errno] 234)).heap[(g1 2000).b]? = some (.cells #[.int .i64 a.2.1.1] T (0,0)):=by
      rw [show(w4.alloc (.cells #[.int .i64 a.2.2.2.1.errno] 234)).heap=w4.heap.push (.cells #[.int .i64 a.2.2.2.1.errno] 234) from rfl,Array.getElem?_push,if_neg (by omega)]
      exact b1
    have hgr:w4.grownBy (w4.alloc (.cells #[.int .i64 a.2.2.2.1.errno] 234)) none:=World.grownBy_alloc _ _ none
    have hm5:=(k2.grow hgr).set hm20 b4 (w':=(w4.alloc (.cells #[.int .i64 a.2.2.2.1.errno] 234)).setCell ⟨(g1 2000).b,0,none⟩ (.int .i64 a.2.2.2.1.errno)) (by rw [hg20]; exact TY _ ⟨(g1 2000).b,0,none⟩ _) (c':=.blk [.int .i64 a.2.2.2.1.errno]) ⟨b4,[.int .i64 a.2.2.2.1.errno],T,by rw [hg20]; exact Agm ha,by unfold V.dens V.dens; exact⟨_,[],rfl,by unfold V.den; rfl,rfl⟩,fun u hu=>by simp at hu; subst hu; rfl⟩
    have hsame:Mo.put (AL.get (nextS_m1 a.1 a.2.1.1)) 2000 (some (.blk [.int .i64 a.2.2.2.1.errno]))=AL.get (nextS_m1 a.1 a.2.2.2.1.errno):=by
      funext j
      unfold Mo.put
      by_cases hj:j=2000
      · subst hj; rw [if_pos rfl,Ak1]
      · rw [if_neg hj]
        show(bif Nat.beq 2000 j then _ else(bif Nat.beq 0 j then _ else none))=(bif Nat.beq 2000 j then _ else(bif Nat.beq 0 j then _ else none))
        have:Nat.beq 2000 j=false:=by
          cases hb:Nat.beq 2000 j with
          | false=>rfl
          | true=>exact absurd (Nat.eq_of_beq_eq_true hb).symm hj
        rw [this]; rfl
    rw [hsame] at hm5
    have his5:Ps 2064 (AL.get (nextS_m1 a.1 a.2.2.2.1.errno)):=fun i c hi=>by
      rw [← hsame] at hi
      unfold Mo.put at hi
      split at hi
      · rename_i hj; subst hj; cases hi; exact⟨rfl,rfl⟩
      · exact p4.is_ i c hi
    exact rest a.1 a.2.2.2.1.errno hye F4 h2 g2 t3 _ k1 p1 (fun i hi=>p2 i hi) p4.kn hm5 his5
theorem Aix (n:Nat):Av Tryz.prog 84 (nextS_law n):=KI Tryz.func84 rfl rfl (by decide) rfl (AjG n)
end Go.Proofs.YtkpgggfibljflaaGreatDoor
namespace Go.Proofs.YtkpgggfibljflaaGreatDoor
open Go Go.RowKit Go.Proofs
open Rep (rep)
def D5:List (Nat×C):=[(8,.l 9),(9,.s 3),(10,.s 3)]
def ID:List Wo:=[⟨.exit 0,[],[],[]⟩,⟨.ret,[],[(2,.s 3)],[]⟩]
def It:List (Nat×C):=[(0,.l 9)]
def Lc:List Wo:=[⟨.ret,[],[],[.s 3]⟩]
def Fl:Nat→(List ByteArray)→Int→Int→Option (Unit ⊕ ((Int×Unit)))
  | 0,_,_,_=>none
  | n+1,x8,x9,x10 =>
    bif decide (x10<x9) then((AC x8 x10).bind fun v0 =>
    bif decide ((↑v0.size:Int)>200) then(some (.inr (3,()))) else
    Fl n x8 x9 (IntKind.i64.wrap (x10+1))) else
    some (.inl ())
def FK (n:Nat) (y:C.Ds Ty (Ai D5)):Option (YT Ty ID):=Fl n y.1 y.2.1 y.2.2.1
noncomputable def fgarage_check_l1_cut (n:Nat):St Ty→Tr (Lf Ty):=C3 D5 0 ID (FK n)
def EA (n:Nat) (lines:List ByteArray):Option ((Int×Unit)) :=
    bif decide ((↑lines.length:Int)>50) then(some (3,())) else
    (Fl n lines (↑lines.length:Int) 0).bind fun v0 =>
    Sum.elim (fun v1=>some (0,())) (fun v1=>some (v1.fst,())) (v0)
def QS (n:Nat) (y:C.Ds Ty (Ai It)):Option (YT Ty Lc):=EA n y.1
noncomputable def fgarage_check_law (n:Nat):AH Ty:=HY (AI It 0 Lc (QS n))
noncomputable def fgarage_check_T (n:Nat):List (Nat×AH Ty):=[]
theorem NK (n:Nat):Au Tryz.prog (fgarage_check_T n):=trivial
noncomputable def fgarage_check_l1_C (n:Nat):A7 Ty:=[]
theorem T3 (n:Nat) (x:C.Ds Ty (Ai D5)):(A1 Tryz.prog 18 (An Tryz.prog (fgarage_check_T n) []) (Ah (fgarage_check_l1_C n)) (Ar 4 Tryz.f52) (A0 D5 x)).runK (AJ 0 D5 ID (FK n))=FK (n+1) x:=by kernel_rfl
theorem T4 (n:Nat):AF true Tryz.prog 18 (fgarage_check_l1_cut n) (.loop (Ar 4 Tryz.f52)):=AM fun x y hy=>A6 (Fn:=FK) Aa Ab (fun n=>Ac Aa Ab (NK n) Ak) (fun h=>by cases h) (fun h=>by cases h) (fun n=>(Ae (fn:=Tryz.f52) (L:=fgarage_check_l1_C n) (ks:=[]) trivial (by kernel_rfl) (by kernel_rfl))) (by decide) (fun _=>rfl) T3 hy
noncomputable def fgarage_check_C (n:Nat):A7 Ty:=[(.loop 4,fgarage_check_l1_cut n)]
theorem Xu (n:Nat) (x:C.Ds Ty (Ai It)):(A1 Tryz.prog 18 (An Tryz.prog (fgarage_check_T n) []) (Ah (fgarage_check_C n)) (Ap Tryz.f52) (A0 It x)).runK (Aw Tryz.prog Tryz.f52.results.toList 0 Lc)=QS n x:=by kernel_rfl
theorem EX (n:Nat):Av Tryz.prog 52 (fgarage_check_law n):=BI (Ax Tryz.func52 rfl rfl (by decide) rfl Aa Ab (Ac Aa Ab (NK n) Ak) (Ae (fn:=Tryz.f52) (L:=fgarage_check_C n) (ks:=[.loop 4]) ⟨T4 n,trivial⟩ (by kernel_rfl) (by kernel_rfl)) (Xu n))
def Bv:List (Nat×C):=[(1,.s 3),(4,.s 3),(5,.s 3),(12,.l 62),(13,.s 3),(14,.s 3)]
def D6:List Wo:=[⟨.exit 0,[],[(4,.s 3),(5,.s 3)],[]⟩]
def CB:List (Nat×C):=[(0,.u 114),(1,.s 3)]
def Fm:List Wo:=[⟨.ret,[.u 114],[],[.s 3,.s 3]⟩]
def Bk:Nat→Int→Int→Int→(List Oq)→Int→Int→Option ((Int×Int×Unit))
  | 0,_,_,_,_,_,_=>none
  | n+1,bus,n_,runs,x12,x13,x14 =>
    bif decide (x14<x13) then((AC x12 x14).bind fun v0 =>
    bif decide (v0.bus=bus) then(Bk n bus (IntKind.i64.wrap (n_+v0.miles)) (IntKind.i64.wrap (runs+1)) x12 x13 (IntKind.i64.wrap (x14+1))) else
    Bk n bus n_ runs x12 x13 (IntKind.i64.wrap (x14+1))) else
    some (n_,(runs,()))
def BR (n:Nat) (y:C.Ds Ty (Ai Bv)):Option (YT Ty D6):=Bk n y.1 y.2.1 y.2.2.1 y.2.2.2.1 y.2.2.2.2.1 y.2.2.2.2.2.1
noncomputable def fgarage_session_miles_l1_cut (n:Nat):St Ty→Tr (Lf Ty):=C3 Bv 0 D6 (BR n)
def Gs (n:Nat) (g:Af) (bus:Int):Option ((Af×Int×Int×Unit)) :=
    (Bk n bus 0 0 g.state.runs (↑g.state.runs.length:Int) 0).bind fun v0 =>
    some (g,(v0.fst,(v0.snd.fst,())))
def Jd (n:Nat) (y:C.Ds Ty (Ai CB)):Option (YT Ty Fm):=Gs n y.1 y.2.1
noncomputable def fgarage_session_miles_law (n:Nat):AH Ty:=AI CB 1 Fm (Jd n)
noncomputable def fgarage_session_miles_T (n:Nat):List (Nat×AH Ty):=[]
theorem HA (n:Nat):Au Tryz.prog (fgarage_session_miles_T n):=trivial
noncomputable def fgarage_session_miles_l1_C (n:Nat):A7 Ty:=[]
theorem L7 (n:Nat) (x:C.Ds Ty (Ai Bv)):(A1 Tryz.prog 31 (An Tryz.prog (fgarage_session_miles_T n) []) (Ah (fgarage_session_miles_l1_C n)) (Ar 2 Tryz.f76) (A0 Bv x)).runK (AJ 0 Bv D6 (BR n))=BR (n+1) x:=by kernel_rfl
theorem L8 (n:Nat):AF true Tryz.prog 31 (fgarage_session_miles_l1_cut n) (.loop (Ar 2 Tryz.f76)):=AM fun x y hy=>A6 (Fn:=BR) Aa Ab (fun n=>Ac Aa Ab (HA n) Ak) (fun h=>by cases h) (fun h=>by cases h) (fun n=>(Ae (fn:=Tryz.f76) (L:=fgarage_session_miles_l1_C n) (ks:=[]) trivial (by kernel_rfl) (by kernel_rfl))) (by decide) (fun _=>rfl) L7 hy
noncomputable def fgarage_session_miles_C (n:Nat):A7 Ty:=[(.loop 2,fgarage_session_miles_l1_cut n)]
theorem On (n:Nat) (x:C.Ds Ty (Ai CB)):(A1 Tryz.prog 31 (An Tryz.prog (fgarage_session_miles_T n) []) (Ah (fgarage_session_miles_C n)) (Ap Tryz.f76) (A0 CB x)).runK (Aw Tryz.prog Tryz.f76.results.toList 1 Fm)=Jd n x:=by kernel_rfl
theorem L9 (n:Nat):Av Tryz.prog 76 (fgarage_session_miles_law n):=Ax Tryz.func76 rfl rfl (by decide) rfl Aa Ab (Ac Aa Ab (HA n) Ak) (Ae (fn:=Tryz.f76) (L:=fgarage_session_miles_C n) (ks:=[.loop 2]) ⟨L8 n,trivial⟩ (by kernel_rfl) (by kernel_rfl)) (On n)
def Hh:List (Nat×C):=[(0,.l 3),(1,.l 3),(5,.s 3)]
def ME:List Wo:=[⟨.exit 0,[],[],[]⟩,⟨.ret,[],[(4,.s 4)],[]⟩]
def NL:List (Nat×C):=[(0,.l 3),(1,.l 3)]
def Su:List Wo:=[⟨.ret,[],[],[.s 4]⟩]
def Ht:Nat→(List Int)→(List Int)→Int→Option (Unit ⊕ ((Bool×Unit)))
  | 0,_,_,_=>none
  | n+1,a,b,i =>
    bif decide (i<(↑a.length:Int)) then((AC a i).bind fun v0 =>
    (AC b i).bind fun v1 =>
    bif v0 != v1 then(some (.inr (false,()))) else
    Ht n a b (IntKind.i64.wrap (i+1))) else
    some (.inl ())
def JH (n:Nat) (y:C.Ds Ty (Ai Hh)):Option (YT Ty ME):=Ht n y.1 y.2.1 y.2.2.1
noncomputable def flaw_ints_l1_cut (n:Nat):St Ty→Tr (Lf Ty):=C3 Hh 0 ME (JH n)
def Dt (n:Nat) (a:List Int) (b:List Int):Option ((Bool×Unit)) :=
    bif (↑a.length:Int) != (↑b.length:Int) then(some (false,())) else
    (Ht n a b 0).bind fun v0 =>
    Sum.elim (fun v1=>some (true,())) (fun v1=>some (v1.fst,())) (v0)
def Yv (n:Nat) (y:C.Ds Ty (Ai NL)):Option (YT Ty Su):=Dt n y.1 y.2.1
noncomputable def flaw_ints_law (n:Nat):AH Ty:=HY (AI NL 0 Su (Yv n))
noncomputable def flaw_ints_T (n:Nat):List (Nat×AH Ty):=[]
theorem Uc (n:Nat):Au Tryz.prog (flaw_ints_T n):=trivial
noncomputable def flaw_ints_l1_C (n:Nat):A7 Ty:=[]
theorem ZE (n:Nat) (x:C.Ds Ty (Ai Hh)):(A1 Tryz.prog 26 (An Tryz.prog (flaw_ints_T n) []) (Ah (flaw_ints_l1_C n)) (Ar 4 Tryz.f32) (A0 Hh x)).runK (AJ 0 Hh ME (JH n))=JH (n+1) x:=by kernel_rfl
theorem ZF (n:Nat):AF true Tryz.prog 26 (flaw_ints_l1_cut n) (.loop (Ar 4 Tryz.f32)):=AM fun x y hy=>A6 (Fn:=JH) Aa Ab (fun n=>Ac Aa Ab (Uc n) Ak) (fun h=>by cases h) (fun h=>by cases h) (fun n=>(Ae (fn:=Tryz.f32) (L:=flaw_ints_l1_C n) (ks:=[]) trivial (by kernel_rfl) (by kernel_rfl))) (by decide) (fun _=>rfl) ZE hy
noncomputable def flaw_ints_C (n:Nat):A7 Ty:=[(.loop 4,flaw_ints_l1_cut n)]
theorem Agz (n:Nat) (x:C.Ds Ty (Ai NL)):(A1 Tryz.prog 26 (An Tryz.prog (flaw_ints_T n) []) (Ah (flaw_ints_C n)) (Ap Tryz.f32) (A0 NL x)).runK (Aw Tryz.prog Tryz.f32.results.toList 0 Su)=Yv n x:=by kernel_rfl
theorem Ld (n:Nat):Av Tryz.prog 32 (flaw_ints_law n):=BI (Ax Tryz.func32 rfl rfl (by decide) rfl Aa Ab (Ac Aa Ab (Uc n) Ak) (Ae (fn:=Tryz.f32) (L:=flaw_ints_C n) (ks:=[.loop 4]) ⟨ZF n,trivial⟩ (by kernel_rfl) (by kernel_rfl)) (Agz n))
def Ii:List (Nat×C):=[(0,.l 9),(3,.s 3),(4,.s 3)]
def Oo:List Wo:=[⟨.exit 0,[],[(0,.l 9),(3,.s 3)],[]⟩]
def Qs:List (Nat×C):=[(0,.l 9)]
def UK:List Wo:=[⟨.ret,[],[],[.s 4]⟩]
def KS:Nat→(List ByteArray)→Int→Int→Option ((List ByteArray×Int×Unit))
  | 0,_,_,_=>none
  | n+1,lines,n_,i =>
    bif decide (i<(↑lines.length:Int)) then((AC lines i).bind fun v0 =>
    KS n lines (IntKind.i64.wrap (n_+(↑v0.size:Int))) (IntKind.i64.wrap (i+1))) else
    some (lines,(n_,()))
def KC (n:Nat) (y:C.Ds Ty (Ai Ii)):Option (YT Ty Oo):=KS n y.1 y.2.1 y.2.2.1
noncomputable def flaw_Few_l1_cut (n:Nat):St Ty→Tr (Lf Ty):=C3 Ii 0 Oo (KC n)
def Wg (n:Nat) (lines:List ByteArray):Option ((Bool×Unit)) :=
    (KS n lines 0 0).bind fun v0 =>
    bif decide ((↑v0.fst.length:Int)≤30) then(bif !decide (v0.snd.fst≤1200) then(bif decide ((↑v0.fst.length:Int)≤52) then(bif !decide (v0.snd.fst≤400) then(bif decide ((↑v0.fst.length:Int)=1) then(some (decide (v0.snd.fst≤210),())) else
    some (false,())) else
    some (true,())) else
    bif decide ((↑v0.fst.length:Int)=1) then(some (decide (v0.snd.fst≤210),())) else
    some (false,())) else
    some (true,())) else
    bif decide ((↑v0.fst.length:Int)≤52) then(bif !decide (v0.snd.fst≤400) then(bif decide ((↑v0.fst.length:Int)=1) then(some (decide (v0.snd.fst≤210),())) else
    some (false,())) else
    some (true,())) else
    bif decide ((↑v0.fst.length:Int)=1) then(some (decide (v0.snd.fst≤210),())) else
    some (false,())
def Ac8 (n:Nat) (y:C.Ds Ty (Ai Qs)):Option (YT Ty UK):=Wg n y.1
noncomputable def flaw_Few_law (n:Nat):AH Ty:=HY (AI Qs 0 UK (Ac8 n))
noncomputable def flaw_Few_T (n:Nat):List (Nat×AH Ty):=[]
theorem Wh (n:Nat):Au Tryz.prog (flaw_Few_T n):=trivial
noncomputable def flaw_Few_l1_C (n:Nat):A7 Ty:=[]
theorem Ac9 (n:Nat) (x:C.Ds Ty (Ai Ii)):(A1 Tryz.prog 43 (An Tryz.prog (flaw_Few_T n) []) (Ah (flaw_Few_l1_C n)) (Ar 3 Tryz.f19) (A0 Ii x)).runK (AJ 0 Ii Oo (KC n))=KC (n+1) x:=by kernel_rfl
theorem AcA (n:Nat):AF true Tryz.prog 43 (flaw_Few_l1_cut n) (.loop (Ar 3 Tryz.f19)):=AM fun x y hy=>A6 (Fn:=KC) Aa Ab (fun n=>Ac Aa Ab (Wh n) Ak) (fun h=>by cases h) (fun h=>by cases h) (fun n=>(Ae (fn:=Tryz.f19) (L:=flaw_Few_l1_C n) (ks:=[]) trivial (by kernel_rfl) (by kernel_rfl))) (by decide) (fun _=>rfl) Ac9 hy
noncomputable def flaw_Few_C (n:Nat):A7 Ty:=[(.loop 3,flaw_Few_l1_cut n)]
theorem Aiy (n:Nat) (x:C.Ds Ty (Ai Qs)):(A1 Tryz.prog 43 (An Tryz.prog (flaw_Few_T n) []) (Ah (flaw_Few_C n)) (Ap Tryz.f19) (A0 Qs x)).runK (Aw Tryz.prog Tryz.f19.results.toList 0 UK)=Ac8 n x:=by kernel_rfl
theorem AcB (n:Nat):Av Tryz.prog 19 (flaw_Few_law n):=BI (Ax Tryz.func19 rfl rfl (by decide) rfl Aa Ab (Ac Aa Ab (Wh n) Ak) (Ae (fn:=Tryz.f19) (L:=flaw_Few_C n) (ks:=[.loop 3]) ⟨AcA n,trivial⟩ (by kernel_rfl) (by kernel_rfl)) (Aiy n))
def NM:List (Nat×C):=[(0,.l 9)]
def Sv:List Wo:=[⟨.ret,[],[],[.o 9]⟩]
def Ch (n:Nat) (l:List ByteArray):Option ((List ByteArray×Unit)) :=
    (app [] l).bind fun v0 =>
    some (v0,())
def Yw (n:Nat) (y:C.Ds Ty (Ai NM)):Option (YT Ty Sv):=Ch n y.1
noncomputable def flaw_list_law (n:Nat):AH Ty:=AI NM 0 Sv (Yw n)
noncomputable def flaw_list_T (n:Nat):List (Nat×AH Ty):=[]
theorem Ad9 (n:Nat):Au Tryz.prog (flaw_list_T n):=trivial
noncomputable def flaw_list_C (n:Nat):A7 Ty:=[]
theorem Ag0 (n:Nat) (x:C.Ds Ty (Ai NM)):(A1 Tryz.prog 6 (An Tryz.prog (flaw_list_T n) []) (Ah (flaw_list_C n)) (Ap Tryz.f22) (A0 NM x)).runK (Aw Tryz.prog Tryz.f22.results.toList 0 Sv)=Yw n x:=by kernel_rfl
theorem Iu (n:Nat):Av Tryz.prog 22 (flaw_list_law n):=Ax Tryz.func22 rfl rfl (by decide) rfl Aa Ab (Ac Aa Ab (Ad9 n) Ak) (Ae (fn:=Tryz.f22) (L:=flaw_list_C n) (ks:=[]) trivial (by kernel_rfl) (by kernel_rfl)) (Ag0 n)
def NN:List (Nat×C):=[(0,.s 9)]
def Sw:List Wo:=[⟨.ret,[],[],[.s 3]⟩]
def Td (n:Nat) (word:ByteArray):Option ((Int×Unit)) :=
    bif word.beq (B [111,117,116]) then(bif word.beq (B [111,117,116]) then(some (2,())) else
    bif word.beq (B [99,104,101,99,107,101,100]) then(bif word.beq (B [99,104,101,99,107,101,100]) then(some (3,())) else
    bif word.beq (B [102,111,117,110,100]) then(bif word.beq (B [102,111,117,110,100]) then(some (4,())) else
    bif word.beq (B [115,97,108,101]) then(bif word.beq (B [115,97,108,101]) then(some (5,())) else
    some (0,())) else
    bif word.beq (B [99,108,111,115,101]) then(bif word.beq (B [99,108,111,115,101]) then(some (5,())) else
    some (0,())) else
    bif word.beq (B [100,117,116,121]) then(some (5,())) else
    some (0,())) else
    bif word.beq (B [104,101,108,100]) then(bif word.beq (B [104,101,108,100]) then(some (4,())) else
    bif word.beq (B [115,97,108,101]) then(bif word.beq (B [115,97,108,101]) then(some (5,())) else
    some (0,())) else
    bif word.beq (B [99,108,111,115,101]) then(bif word.beq (B [99,108,111,115,101]) then(some (5,())) else
    some (0,())) else
    bif word.beq (B [100,117,116,121]) then(some (5,())) else
    some (0,())) else
    bif word.beq (B [115,105,103,110,101,100]) then(bif word.beq (B [115,105,103,110,101,100]) then(some (4,())) else
    bif word.beq (B [115,97,108,101]) then(bif word.beq (B [115,97,108,101]) then(some (5,())) else
    some (0,())) else
    bif word.beq (B [99,108,111,115,101]) then(bif word.beq (B [99,108,111,115,101]) then(some (5,())) else
    some (0,())) else
    bif word.beq (B [100,117,116,121]) then(some (5,())) else
    some (0,())) else
    bif word.beq (B [115,121,110,99]) then(some (4,())) else
    bif word.beq (B [115,97,108,101]) then(bif word.beq (B [115,97,108,101]) then(some (5,())) else
    some (0,())) else
    bif word.beq (B [99,108,111,115,101]) then(bif word.beq (B [99,108,111,115,101]) then(some (5,())) else
    some (0,())) else
    bif word.beq (B [100,117,116,121]) then(some (5,())) else
    some (0,())) else
    bif word.beq (B [105,110]) then(some (3,())) else
    bif word.beq (B [102,111,117,110,100]) then(bif word.beq (B [102,111,117,110,100]) then(some (4,())) else
    bif word.beq (B [115,97,108,101]) then(bif word.beq (B [115,97,108,101]) then(some (5,())) else
    some (0,())) else
    bif word.beq (B [99,108,111,115,101]) then(bif word.beq (B [99,108,111,115,101]) then(some (5,())) else
    some (0,())) else
    bif word.beq (B [100,117,116,121]) then(some (5,())) else
    some (0,())) else
    bif word.beq (B [104,101,108,100]) then(bif word.beq (B [104,101,108,100]) then(some (4,())) else
    bif word.beq (B [115,97,108,101]) then(bif word.beq (B [115,97,108,101]) then(some (5,())) else
    some (0,())) else
    bif word.beq (B [99,108,111,115,101]) then(bif word.beq (B [99,108,111,115,101]) then(some (5,())) else
    some (0,())) else
    bif word.beq (B [100,117,116,121]) then(some (5,())) else
    some (0,())) else
    bif word.beq (B [115,105,103,110,101,100]) then(bif word.beq (B [115,105,103,110,101,100]) then(some (4,())) else
    bif word.beq (B [115,97,108,101]) then(bif word.beq (B [115,97,108,101]) then(some (5,())) else
    some (0,())) else
    bif word.beq (B [99,108,111,115,101]) then(bif word.beq (B [99,108,111,115,101]) then(some (5,())) else
    some (0,())) else
    bif word.beq (B [100,117,116,121]) then(some (5,())) else
    some (0,())) else
    bif word.beq (B [115,121,110,99]) then(some (4,())) else
    bif word.beq (B [115,97,108,101]) then(bif word.beq (B [115,97,108,101]) then(some (5,())) else
    some (0,())) else
    bif word.beq (B [99,108,111,115,101]) then(bif word.beq (B [99,108,111,115,101]) then(some (5,())) else
    some (0,())) else
    bif word.beq (B [100,117,116,121]) then(some (5,())) else
    some (0,())) else
    bif word.beq (B [100,114,105,118,101,114]) then(bif word.beq (B [100,114,105,118,101,114]) then(some (2,())) else
    bif word.beq (B [99,104,101,99,107,101,100]) then(bif word.beq (B [99,104,101,99,107,101,100]) then(some (3,())) else
    bif word.beq (B [102,111,117,110,100]) then(bif word.beq (B [102,111,117,110,100]) then(some (4,())) else
    bif word.beq (B [115,97,108,101]) then(bif word.beq (B [115,97,108,101]) then(some (5,())) else
    some (0,())) else
    bif word.beq (B [99,108,111,115,101]) then(bif word.beq (B [99,108,111,115,101]) then(some (5,())) else
    some (0,())) else
    bif word.beq (B [100,117,116,121]) then(some (5,())) else
    some (0,())) else
    bif word.beq (B [104,101,108,100]) then(bif word.beq (B [104,101,108,100]) then(some (4,())) else
    bif word.beq (B [115,97,108,101]) then(bif word.beq (B [115,97,108,101]) then(some (5,())) else
    some (0,())) else
    bif word.beq (B [99,108,111,115,101]) then(bif word.beq (B [99,108,111,115,101]) then(some (5,())) else
    some (0,())) else
    bif word.beq (B [100,117,116,121]) then(some (5,())) else
    some (0,())) else
    bif word.beq (B [115,105,103,110,101,100]) then(bif word.beq (B [115,105,103,110,101,100]) then(some (4,())) else
    bif word.beq (B [115,97,108,101]) then(bif word.beq (B [115,97,108,101]) then(some (5,())) else
    some (0,())) else
    bif word.beq (B [99,108,111,115,101]) then(bif word.beq (B [99,108,111,115,101]) then(some (5,())) else
    some (0,())) else
    bif word.beq (B [100,117,116,121]) then(some (5,())) else
    some (0,())) else
    bif word.beq (B [115,121,110,99]) then(some (4,())) else
    bif word.beq (B [115,97,108,101]) then(bif word.beq (B [115,97,108,101]) then(some (5,())) else
    some (0,())) else
    bif word.beq (B [99,108,111,115,101]) then(bif word.beq (B [99,108,111,115,101]) then(some (5,())) else
    some (0,())) else
    bif word.beq (B [100,117,116,121]) then(some (5,())) else
    some (0,())) else
    bif word.beq (B [105,110]) then(some (3,())) else
    bif word.beq (B [102,111,117,110,100]) then(bif word.beq (B [102,111,117,110,100]) then(some (4,())) else
    bif word.beq (B [115,97,108,101]) then(bif word.beq (B [115,97,108,101]) then(some (5,())) else
    some (0,())) else
    bif word.beq (B [99,108,111,115,101]) then(bif word.beq (B [99,108,111,115,101]) then(some (5,())) else
    some (0,())) else
    bif word.beq (B [100,117,116,121]) then(some (5,())) else
    some (0,())) else
    bif word.beq (B [104,101,108,100]) then(bif word.beq (B [104,101,108,100]) then(some (4,())) else
    bif word.beq (B [115,97,108,101]) then(bif word.beq (B [115,97,108,101]) then(some (5,())) else
    some (0,())) else
    bif word.beq (B [99,108,111,115,101]) then(bif word.beq (B [99,108,111,115,101]) then(some (5,())) else
    some (0,())) else
    bif word.beq (B [100,117,116,121]) then(some (5,())) else
    some (0,())) else
    bif word.beq (B [115,105,103,110,101,100]) then(bif word.beq (B [115,105,103,110,101,100]) then(some (4,())) else
    bif word.beq (B [115,97,108,101]) then(bif word.beq (B [115,97,108,101]) then(some (5,())) else
    some (0,())) else
    bif word.beq (B [99,108,111,115,101]) then(bif word.beq (B [99,108,111,115,101]) then(some (5,())) else
    some (0,())) else
    bif word.beq (B [100,117,116,121]) then(some (5,())) else
    some (0,())) else
    bif word.beq (B [115,121,110,99]) then(some (4,())) else
    bif word.beq (B [115,97,108,101]) then(bif word.beq (B [115,97,108,101]) then(some (5,())) else
    some (0,())) else
    bif word.beq (B [99,108,111,115,101]) then(bif word.beq (B [99,108,111,115,101]) then(some (5,())) else
    some (0,())) else
    bif word.beq (B [100,117,116,121]) then(some (5,())) else
    some (0,())) else
    bif word.beq (B [103,105,118,101]) then(some (2,())) else
    bif word.beq (B [99,104,101,99,107,101,100]) then(bif word.beq (B [99,104,101,99,107,101,100]) then(some (3,())) else
    bif word.beq (B [102,111,117,110,100]) then(bif word.beq (B [102,111,117,110,100]) then(some (4,())) else
    bif word.beq (B [115,97,108,101]) then(bif word.beq (B [115,97,108,101]) then(some (5,())) else
    some (0,())) else
    bif word.beq (B [99,108,111,115,101]) then(bif word.beq (B [99,108,111,115,101]) then(some (5,())) else
    some (0,())) else
    bif word.beq (B [100,117,116,121]) then(some (5,())) else
    some (0,())) else
    bif word.beq (B [104,101,108,100]) then(bif word.beq (B [104,101,108,100]) then(some (4,())) else
    bif word.beq (B [115,97,108,101]) then(bif word.beq (B [115,97,108,101]) then(some (5,())) else
    some (0,())) else
    bif word.beq (B [99,108,111,115,101]) then(bif word.beq (B [99,108,111,115,101]) then(some (5,())) else
    some (0,())) else
    bif word.beq (B [100,117,116,121]) then(some (5,())) else
    some (0,())) else
    bif word.beq (B [115,105,103,110,101,100]) then(bif word.beq (B [115,105,103,110,101,100]) then(some (4,())) else
    bif word.beq (B [115,97,108,101]) then(bif word.beq (B [115,97,108,101]) then(some (5,())) else
    some (0,())) else
    bif word.beq (B [99,108,111,115,101]) then(bif word.beq (B [99,108,111,115,101]) then(some (5,())) else
    some (0,())) else
    bif word.beq (B [100,117,116,121]) then(some (5,())) else
    some (0,())) else
    bif word.beq (B [115,121,110,99]) then(some (4,())) else
    bif word.beq (B [115,97,108,101]) then(bif word.beq (B [115,97,108,101]) then(some (5,())) else
    some (0,())) else
    bif word.beq (B [99,108,111,115,101]) then(bif word.beq (B [99,108,111,115,101]) then(some (5,())) else
    some (0,())) else
    bif word.beq (B [100,117,116,121]) then(some (5,())) else
    some (0,())) else
    bif word.beq (B [105,110]) then(some (3,())) else
    bif word.beq (B [102,111,117,110,100]) then(bif word.beq (B [102,111,117,110,100]) then(some (4,())) else
    bif word.beq (B [115,97,108,101]) then(bif word.beq (B [115,97,108,101]) then(some (5,())) else
    some (0,())) else
    bif word.beq (B [99,108,111,115,101]) then(bif word.beq (B [99,108,111,115,101]) then(some (5,())) else
    some (0,())) else
    bif word.beq (B [100,117,116,121]) then(some (5,())) else
    some (0,())) else
    bif word.beq (B [104,101,108,100]) then(bif word.beq (B [104,101,108,100]) then(some (4,())) else
    bif word.beq (B [115,97,108,101]) then(bif word.beq (B [115,97,108,101]) then(some (5,())) else
    some (0,())) else
    bif word.beq (B [99,108,111,115,101]) then(bif word.beq (B [99,108,111,115,101]) then(some (5,())) else
    some (0,())) else
    bif word.beq (B [100,117,116,121]) then(some (5,())) else
    some (0,())) else
    bif word.beq (B [115,105,103,110,101,100]) then(bif word.beq (B [115,105,103,110,101,100]) then(some (4,())) else
    bif word.beq (B [115,97,108,101]) then(bif word.beq (B [115,97,108,101]) then(some (5,())) else
    some (0,())) else
    bif word.beq (B [99,108,111,115,101]) then(bif word.beq (B [99,108,111,115,101]) then(some (5,())) else
    some (0,())) else
    bif word.beq (B [100,117,116,121]) then(some (5,())) else
    some (0,())) else
    bif word.beq (B [115,121,110,99]) then(some (4,())) else
    bif word.beq (B [115,97,108,101]) then(bif word.beq (B [115,97,108,101]) then(some (5,())) else
    some (0,())) else
    bif word.beq (B [99,108,111,115,101]) then(bif word.beq (B [99,108,111,115,101]) then(some (5,())) else
    some (0,())) else
    bif word.beq (B [100,117,116,121]) then(some (5,())) else
    some (0,())
def Yx (n:Nat) (y:C.Ds Ty (Ai NN)):Option (YT Ty Sw):=Td n y.1
noncomputable def fref_many_law (n:Nat):AH Ty:=AI NN 0 Sw (Yx n)
noncomputable def fref_many_T (n:Nat):List (Nat×AH Ty):=[]
theorem AdA (n:Nat):Au Tryz.prog (fref_many_T n):=trivial
noncomputable def fref_many_C (n:Nat):A7 Ty:=[]
theorem Ag1 (n:Nat) (x:C.Ds Ty (Ai NN)):(A1 Tryz.prog 20 (An Tryz.prog (fref_many_T n) []) (Ah (fref_many_C n)) (Ap Tryz.f64) (A0 NN x)).runK (Aw Tryz.prog Tryz.f64.results.toList 0 Sw)=Yx n x:=by kernel_rfl
theorem ZG (n:Nat):Av Tryz.prog 64 (fref_many_law n):=Ax Tryz.func64 rfl rfl (by decide) rfl Aa Ab (Ac Aa Ab (AdA n) Ak) (Ae (fn:=Tryz.f64) (L:=fref_many_C n) (ks:=[]) trivial (by kernel_rfl) (by kernel_rfl)) (Ag1 n)
def FV:List (Nat×C):=[(0,.s 9),(3,.o 9),(4,.s 3),(5,.s 3)]
def Le:List Wo:=[⟨.exit 0,[],[(3,.o 9)],[]⟩]
def LA:List (Nat×C):=[(0,.s 9)]
def Qt:List Wo:=[⟨.ret,[],[],[.l 9]⟩]
def Dq:Nat→ByteArray→(List ByteArray)→Int→Int→Option ((List ByteArray×Unit))
  | 0,_,_,_,_=>none
  | n+1,s,out,from_,i =>
    bif decide (i≤(↑s.size:Int)) then(bif !decide (i=(↑s.size:Int)) then((QN s i).bind fun v0 =>
    bif decide (v0.n=32) then((KX s from_ i).bind fun v1 =>
    (app out [v1]).bind fun v2 =>
    Dq n s v2 (IntKind.i64.wrap (i+1)) (IntKind.i64.wrap (i+1))) else
    Dq n s out from_ (IntKind.i64.wrap (i+1))) else
    (KX s from_ i).bind fun v0 =>
    (app out [v0]).bind fun v1 =>
    Dq n s v1 (IntKind.i64.wrap (i+1)) (IntKind.i64.wrap (i+1))) else
    some (out,())
def Iv (n:Nat) (y:C.Ds Ty (Ai FV)):Option (YT Ty Le):=Dq n y.1 y.2.1 y.2.2.1 y.2.2.2.1
noncomputable def fref_Split_l1_cut (n:Nat):St Ty→Tr (Lf Ty):=C3 FV 0 Le (Iv n)
def Qu (n:Nat) (s:ByteArray):Option ((List ByteArray×Unit)) :=
    (Dq n s [] 0 0).bind fun v0 =>
    some (v0.fst,())
def Wi (n:Nat) (y:C.Ds Ty (Ai LA)):Option (YT Ty Qt):=Qu n y.1
noncomputable def fref_Split_law (n:Nat):AH Ty:=AI LA 0 Qt (Wi n)
noncomputable def fref_Split_T (n:Nat):List (Nat×AH Ty):=[]
theorem Sx (n:Nat):Au Tryz.prog (fref_Split_T n):=trivial
noncomputable def fref_Split_l1_C (n:Nat):A7 Ty:=[]
theorem Xv (n:Nat) (x:C.Ds Ty (Ai FV)):(A1 Tryz.prog 32 (An Tryz.prog (fref_Split_T n) []) (Ah (fref_Split_l1_C n)) (Ar 4 Tryz.f63) (A0 FV x)).runK (AJ 0 FV Le (Iv n))=Iv (n+1) x:=by kernel_rfl
theorem Xw (n:Nat):AF true Tryz.prog 32 (fref_Split_l1_cut n) (.loop (Ar 4 Tryz.f63)):=AM fun x y hy=>A6 (Fn:=Iv) Aa Ab (fun n=>Ac Aa Ab (Sx n) Ak) (fun h=>by cases h) (fun h=>by cases h) (fun n=>(Ae (fn:=Tryz.f63) (L:=fref_Split_l1_C n) (ks:=[]) trivial (by kernel_rfl) (by kernel_rfl))) (by decide) (fun _=>rfl) Xv hy
noncomputable def fref_Split_C (n:Nat):A7 Ty:=[(.loop 4,fref_Split_l1_cut n)]
theorem AdB (n:Nat) (x:C.Ds Ty (Ai LA)):(A1 Tryz.prog 32 (An Tryz.prog (fref_Split_T n) []) (Ah (fref_Split_C n)) (Ap Tryz.f63) (A0 LA x)).runK (Aw Tryz.prog Tryz.f63.results.toList 0 Qt)=Wi n x:=by kernel_rfl
theorem Xx (n:Nat):Av Tryz.prog 63 (fref_Split_law n):=Ax Tryz.func63 rfl rfl (by decide) rfl Aa Ab (Ac Aa Ab (Sx n) Ak) (Ae (fn:=Tryz.f63) (L:=fref_Split_C n) (ks:=[.loop 4]) ⟨Xw n,trivial⟩ (by kernel_rfl) (by kernel_rfl)) (AdB n)
def FW:List (Nat×C):=[(4,.s 4),(5,.s 9),(6,.s 3),(7,.s 3)]
def Lg:List Wo:=[⟨.exit 0,[],[(4,.s 4),(6,.s 3)],[]⟩,⟨.ret,[],[(2,.s 3),(3,.s 4)],[]⟩]
def LB:List (Nat×C):=[(0,.s 9)]
def Qv:List Wo:=[⟨.ret,[],[],[.s 3,.s 4]⟩]
def Bl:Nat→Bool→ByteArray→Int→Int→Option ((Bool×Int×Unit) ⊕ ((Int×Bool×Unit)))
  | 0,_,_,_,_=>none
  | n+1,minus,d,n_,i =>
    bif decide (i<(↑d.size:Int)) then((QN d i).bind fun v0 =>
    bif !decide (v0.n<48) then((QN d i).bind fun v1 =>
    bif decide (v1.n>57) then(some (.inr (0,(false,())))) else
    (QN d i).bind fun v2 =>
    Bl n minus d (IntKind.i64.wrap (IntKind.i64.wrap (10*n_)+IntKind.i64.wrap (IntKind.u8.wrap (v2.n-48)))) (IntKind.i64.wrap (i+1))) else
    some (.inr (0,(false,())))) else
    some (.inl (minus,(n_,())))
def Iw (n:Nat) (y:C.Ds Ty (Ai FW)):Option (YT Ty Lg):=Bl n y.1 y.2.1 y.2.2.1 y.2.2.2.1
noncomputable def fref_whole_l1_cut (n:Nat):St Ty→Tr (Lf Ty):=C3 FW 0 Lg (Iw n)
def Qw (n:Nat) (s:ByteArray):Option ((Int×Bool×Unit)) :=
    bif decide ((↑s.size:Int)>0) then((QN s 0).bind fun v0 =>
    bif decide (v0.n=45) then((KX s 1 (↑s.size:Int)).bind fun v1 =>
    bif !decide ((↑v1.size:Int)=0) then(bif !decide ((↑v1.size:Int)>9) then((QN v1 0).bind fun v2 =>
    bif decide (v2.n=48) then(bif !decide ((↑v1.size:Int)>1) then(bif decide (v0.n=45) then(some (0,(false,()))) else
    (Bl n (decide (v0.n=45)) v1 0 0).bind fun v3 =>
    Sum.elim (fun v4=>bif v4.fst then(some (IntKind.i64.wrap (0-v4.snd.fst),(true,()))) else
    some (v4.snd.fst,(true,()))) (fun v4=>some (v4.fst,(v4.snd.fst,()))) (v3)) else
    some (0,(false,()))) else
    (Bl n (decide (v0.n=45)) v1 0 0).bind fun v3 =>
    Sum.elim (fun v4=>bif v4.fst then(some (IntKind.i64.wrap (0-v4.snd.fst),(true,()))) else
    some (v4.snd.fst,(true,()))) (fun v4=>some (v4.fst,(v4.snd.fst,()))) (v3)) else
    some (0,(false,()))) else
    some (0,(false,()))) else
    bif !decide ((↑s.size:Int)=0) then(bif !decide ((↑s.size:Int)>9) then((QN s 0).bind fun v1 =>
    bif decide (v1.n=48) then(bif !decide ((↑s.size:Int)>1) then(bif decide (v0.n=45) then(some (0,(false,()))) else
    (Bl n (decide (v0.n=45)) s 0 0).bind fun v2 =>
    Sum.elim (fun v3=>bif v3.fst then(some (IntKind.i64.wrap (0-v3.snd.fst),(true,()))) else
    some (v3.snd.fst,(true,()))) (fun v3=>some (v3.fst,(v3.snd.fst,()))) (v2)) else
    some (0,(false,()))) else
    (Bl n (decide (v0.n=45)) s 0 0).bind fun v2 =>
    Sum.elim (fun v3=>bif v3.fst then(some (IntKind.i64.wrap (0-v3.snd.fst),(true,()))) else
    some (v3.snd.fst,(true,()))) (fun v3=>some (v3.fst,(v3.snd.fst,()))) (v2)) else
    some (0,(false,()))) else
    some (0,(false,()))) else
    bif !decide ((↑s.size:Int)=0) then(bif !decide ((↑s.size:Int)>9) then((QN s 0).bind fun v0 =>
    bif decide (v0.n=48) then(bif !decide ((↑s.size:Int)>1) then((Bl n false s 0 0).bind fun v1 =>
    Sum.elim (fun v2=>bif v2.fst then(some (IntKind.i64.wrap (0-v2.snd.fst),(true,()))) else
    some (v2.snd.fst,(true,()))) (fun v2=>some (v2.fst,(v2.snd.fst,()))) (v1)) else
    some (0,(false,()))) else
    (Bl n false s 0 0).bind fun v1 =>
    Sum.elim (fun v2=>bif v2.fst then(some (IntKind.i64.wrap (0-v2.snd.fst),(true,()))) else
    some (v2.snd.fst,(true,()))) (fun v2=>some (v2.fst,(v2.snd.fst,()))) (v1)) else
    some (0,(false,()))) else
    some (0,(false,()))
def Wj (n:Nat) (y:C.Ds Ty (Ai LB)):Option (YT Ty Qv):=Qw n y.1
noncomputable def fref_whole_law (n:Nat):AH Ty:=AI LB 0 Qv (Wj n)
noncomputable def fref_whole_T (n:Nat):List (Nat×AH Ty):=[]
theorem Sy (n:Nat):Au Tryz.prog (fref_whole_T n):=trivial
noncomputable def fref_whole_l1_C (n:Nat):A7 Ty:=[]
theorem Xy (n:Nat) (x:C.Ds Ty (Ai FW)):(A1 Tryz.prog 69 (An Tryz.prog (fref_whole_T n) []) (Ah (fref_whole_l1_C n)) (Ar 9 Tryz.f65) (A0 FW x)).runK (AJ 0 FW Lg (Iw n))=Iw (n+1) x:=by kernel_rfl
theorem Xz (n:Nat):AF true Tryz.prog 69 (fref_whole_l1_cut n) (.loop (Ar 9 Tryz.f65)):=AM fun x y hy=>A6 (Fn:=Iw) Aa Ab (fun n=>Ac Aa Ab (Sy n) Ak) (fun h=>by cases h) (fun h=>by cases h) (fun n=>(Ae (fn:=Tryz.f65) (L:=fref_whole_l1_C n) (ks:=[]) trivial (by kernel_rfl) (by kernel_rfl))) (by decide) (fun _=>rfl) Xy hy
noncomputable def fref_whole_C (n:Nat):A7 Ty:=[(.loop 9,fref_whole_l1_cut n)]
theorem AdC (n:Nat) (x:C.Ds Ty (Ai LB)):(A1 Tryz.prog 69 (An Tryz.prog (fref_whole_T n) []) (Ah (fref_whole_C n)) (Ap Tryz.f65) (A0 LB x)).runK (Aw Tryz.prog Tryz.f65.results.toList 0 Qv)=Wj n x:=by kernel_rfl
theorem X1 (n:Nat):Av Tryz.prog 65 (fref_whole_law n):=Ax Tryz.func65 rfl rfl (by decide) rfl Aa Ab (Ac Aa Ab (Sy n) Ak) (Ae (fn:=Tryz.f65) (L:=fref_whole_C n) (ks:=[.loop 9]) ⟨Xz n,trivial⟩ (by kernel_rfl) (by kernel_rfl)) (AdC n)
def FX:List (Nat×C):=[(0,.l 9),(3,.s 3)]
def Lh:List Wo:=[⟨.exit 0,[],[(0,.l 9)],[]⟩,⟨.ret,[],[(2,.s 4)],[]⟩]
def LC:List (Nat×C):=[(0,.l 9)]
def Qx:List Wo:=[⟨.ret,[],[],[.s 4]⟩]
def KD:Nat→(List ByteArray)→Int→Option ((List ByteArray×Unit) ⊕ ((Bool×Unit)))
  | 0,_,_=>none
  | n+1,lines,i =>
    bif decide (i<(↑lines.length:Int)) then((AC lines i).bind fun v0 =>
    bif decide ((↑v0.size:Int)>200) then(some (.inr (false,()))) else
    KD n lines (IntKind.i64.wrap (i+1))) else
    some (.inl (lines,()))
def Ix (n:Nat) (y:C.Ds Ty (Ai FX)):Option (YT Ty Lh):=KD n y.1 y.2.1
noncomputable def fref_Right_l1_cut (n:Nat):St Ty→Tr (Lf Ty):=C3 FX 0 Lh (Ix n)
def Qy (n:Nat) (lines:List ByteArray):Option ((Bool×Unit)) :=
    (KD n lines 0).bind fun v0 =>
    Sum.elim (fun v1=>some (decide ((↑v1.fst.length:Int)≤50),())) (fun v1=>some (v1.fst,())) (v0)
def Wk (n:Nat) (y:C.Ds Ty (Ai LC)):Option (YT Ty Qx):=Qy n y.1
noncomputable def fref_Right_law (n:Nat):AH Ty:=HY (AI LC 0 Qx (Wk n))
noncomputable def fref_Right_T (n:Nat):List (Nat×AH Ty):=[]
theorem Sz (n:Nat):Au Tryz.prog (fref_Right_T n):=trivial
noncomputable def fref_Right_l1_C (n:Nat):A7 Ty:=[]
theorem X2 (n:Nat) (x:C.Ds Ty (Ai FX)):(A1 Tryz.prog 19 (An Tryz.prog (fref_Right_T n) []) (Ah (fref_Right_l1_C n)) (Ar 2 Tryz.f23) (A0 FX x)).runK (AJ 0 FX Lh (Ix n))=Ix (n+1) x:=by kernel_rfl
theorem X3 (n:Nat):AF true Tryz.prog 19 (fref_Right_l1_cut n) (.loop (Ar 2 Tryz.f23)):=AM fun x y hy=>A6 (Fn:=Ix) Aa Ab (fun n=>Ac Aa Ab (Sz n) Ak) (fun h=>by cases h) (fun h=>by cases h) (fun n=>(Ae (fn:=Tryz.f23) (L:=fref_Right_l1_C n) (ks:=[]) trivial (by kernel_rfl) (by kernel_rfl))) (by decide) (fun _=>rfl) X2 hy
noncomputable def fref_Right_C (n:Nat):A7 Ty:=[(.loop 2,fref_Right_l1_cut n)]
theorem AdD (n:Nat) (x:C.Ds Ty (Ai LC)):(A1 Tryz.prog 19 (An Tryz.prog (fref_Right_T n) []) (Ah (fref_Right_C n)) (Ap Tryz.f23) (A0 LC x)).runK (Aw Tryz.prog Tryz.f23.results.toList 0 Qx)=Wk n x:=by kernel_rfl
theorem X4 (n:Nat):Av Tryz.prog 23 (fref_Right_law n):=BI (Ax Tryz.func23 rfl rfl (by decide) rfl Aa Ab (Ac Aa Ab (Sz n) Ak) (Ae (fn:=Tryz.f23) (L:=fref_Right_C n) (ks:=[.loop 2]) ⟨X3 n,trivial⟩ (by kernel_rfl) (by kernel_rfl)) (AdD n))
def LD:List (Nat×C):=[(0,.l 9)]
def Qz:List Wo:=[⟨.ret,[],[],[.s 4]⟩]
def IE (n:Nat) (lines:List ByteArray):Option ((Bool×Unit)) :=
    (Wg n lines).bind fun v0 =>
    bif v0.fst then((Qy n lines).bind fun v1 =>
    some (v1.fst,())) else
    some (false,())
def Wl (n:Nat) (y:C.Ds Ty (Ai LD)):Option (YT Ty Qz):=IE n y.1
noncomputable def flaw_ready_law (n:Nat):AH Ty:=HY (AI LD 0 Qz (Wl n))
noncomputable def flaw_ready_T (n:Nat):List (Nat×AH Ty):=[(19,flaw_Few_law n),(23,fref_Right_law n)]
theorem AcC (n:Nat):Au Tryz.prog (flaw_ready_T n):=⟨AcB n,⟨X4 n,trivial⟩⟩
noncomputable def flaw_ready_C (n:Nat):A7 Ty:=[]
theorem AdE (n:Nat) (x:C.Ds Ty (Ai LD)):(A1 Tryz.prog 9 (An Tryz.prog (flaw_ready_T n) []) (Ah (flaw_ready_C n)) (Ap Tryz.f27) (A0 LD x)).runK (Aw Tryz.prog Tryz.f27.results.toList 0 Qz)=Wl n x:=by kernel_rfl
theorem Hu (n:Nat):Av Tryz.prog 27 (flaw_ready_law n):=BI (Ax Tryz.func27 rfl rfl (by decide) rfl Aa Ab (Ac Aa Ab (AcC n) Ak) (Ae (fn:=Tryz.f27) (L:=flaw_ready_C n) (ks:=[]) trivial (by kernel_rfl) (by kernel_rfl)) (AdE n))
def Iy:List (Nat×C):=[]
def Li:List Wo:=[⟨.ret,[],[],[.u 114]⟩]
def Ud (n:Nat):Option ((Af×Unit)) :=
    some (Af.mk (Ao.mk [] [] [] [] (A8.mk 7 [] [] 600 5 3000) []),())
def QT (n:Nat) (y:C.Ds Ty (Ai Iy)):Option (YT Ty Li):=Ud n
noncomputable def fgarage_begin_law (n:Nat):AH Ty:=AI Iy 0 Li (QT n)
noncomputable def fgarage_begin_T (n:Nat):List (Nat×AH Ty):=[]
theorem Wm (n:Nat):Au Tryz.prog (fgarage_begin_T n):=trivial
noncomputable def fgarage_begin_C (n:Nat):A7 Ty:=[]
theorem X5 (n:Nat) (x:C.Ds Ty (Ai Iy)):(A1 Tryz.prog 5 (An Tryz.prog (fgarage_begin_T n) []) (Ah (fgarage_begin_C n)) (Ap Tryz.f101) (A0 Iy x)).runK (Aw Tryz.prog Tryz.f101.results.toList 0 Li)=QT n x:=by kernel_rfl
theorem T5 (n:Nat):Av Tryz.prog 101 (fgarage_begin_law n):=Ax Tryz.func101 rfl rfl (by decide) rfl Aa Ab (Ac Aa Ab (Wm n) Ak) (Ae (fn:=Tryz.f101) (L:=fgarage_begin_C n) (ks:=[]) trivial (by kernel_rfl) (by kernel_rfl)) (X5 n)
def FY:List (Nat×C):=[(5,.l 9),(6,.s 3),(7,.o 3),(8,.s 3)]
def Lj:List Wo:=[⟨.exit 0,[],[(5,.l 9),(7,.o 3)],[]⟩,⟨.ret,[],[(2,.s 9),(3,.l 3),(4,.s 4)],[]⟩]
def LF:List (Nat×C):=[(0,.s 9)]
def Q0:List Wo:=[⟨.ret,[],[],[.s 9,.l 3,.s 4]⟩]
def Ij:Nat→(List ByteArray)→Int→(List Int)→Int→Option ((List ByteArray×List Int×Unit) ⊕ ((ByteArray×List Int×Bool×Unit)))
  | 0,_,_,_,_=>none
  | n+1,parts,n_,l,i =>
    bif decide (i≤n_) then((AC parts i).bind fun v0 =>
    (Qw n v0).bind fun v1 =>
    bif !v1.snd.fst then(some (.inr (B [],([],(false,()))))) else
    (app l [v1.fst]).bind fun v2 =>
    Ij n parts n_ v2 (IntKind.i64.wrap (i+1))) else
    some (.inl (parts,(l,())))
def Iz (n:Nat) (y:C.Ds Ty (Ai FY)):Option (YT Ty Lj):=Ij n y.1 y.2.1 y.2.2.1 y.2.2.2.1
noncomputable def fref_Parse_l1_cut (n:Nat):St Ty→Tr (Lf Ty):=C3 FY 0 Lj (Iz n)
def FL (n:Nat) (line:ByteArray):Option ((ByteArray×List Int×Bool×Unit)) :=
    (Qu n line).bind fun v0 =>
    (AC v0.fst 0).bind fun v1 =>
    (Td n v1).bind fun v2 =>
    bif !decide (v2.fst=0) then(bif (↑v0.fst.length:Int) != IntKind.i64.wrap (v2.fst+1) then(some (B [],([],(false,())))) else
    (Ij n v0.fst v2.fst [] 1).bind fun v3 =>
    Sum.elim (fun v4=>(AC v4.fst 0).bind fun v5 =>
    some (v5,(v4.snd.fst,(true,())))) (fun v4=>some (v4.fst,(v4.snd.fst,(v4.snd.snd.fst,())))) (v3)) else
    some (B [],([],(false,())))
def Wn (n:Nat) (y:C.Ds Ty (Ai LF)):Option (YT Ty Q0):=FL n y.1
noncomputable def fref_Parse_law (n:Nat):AH Ty:=AI LF 0 Q0 (Wn n)
noncomputable def fref_Parse_T (n:Nat):List (Nat×AH Ty):=[(63,fref_Split_law n),(64,fref_many_law n),(65,fref_whole_law n)]
theorem S0 (n:Nat):Au Tryz.prog (fref_Parse_T n):=⟨Xx n,⟨ZG n,⟨X1 n,trivial⟩⟩⟩
noncomputable def fref_Parse_l1_C (n:Nat):A7 Ty:=[]
theorem X6 (n:Nat) (x:C.Ds Ty (Ai FY)):(A1 Tryz.prog 49 (An Tryz.prog (fref_Parse_T n) []) (Ah (fref_Parse_l1_C n)) (Ar 7 Tryz.f28) (A0 FY x)).runK (AJ 0 FY Lj (Iz n))=Iz (n+1) x:=by kernel_rfl
theorem X7 (n:Nat):AF true Tryz.prog 49 (fref_Parse_l1_cut n) (.loop (Ar 7 Tryz.f28)):=AM fun x y hy=>A6 (Fn:=Iz) Aa Ab (fun n=>Ac Aa Ab (S0 n) Ak) (fun h=>by cases h) (fun h=>by cases h) (fun n=>(Ae (fn:=Tryz.f28) (L:=fref_Parse_l1_C n) (ks:=[]) trivial (by kernel_rfl) (by kernel_rfl))) (by decide) (fun _=>rfl) X6 hy
noncomputable def fref_Parse_C (n:Nat):A7 Ty:=[(.loop 7,fref_Parse_l1_cut n)]
theorem AdF (n:Nat) (x:C.Ds Ty (Ai LF)):(A1 Tryz.prog 49 (An Tryz.prog (fref_Parse_T n) []) (Ah (fref_Parse_C n)) (Ap Tryz.f28) (A0 LF x)).runK (Aw Tryz.prog Tryz.f28.results.toList 0 Q0)=Wn n x:=by kernel_rfl
theorem Fo (n:Nat):Av Tryz.prog 28 (fref_Parse_law n):=Ax Tryz.func28 rfl rfl (by decide) rfl Aa Ab (Ac Aa Ab (S0 n) Ak) (Ae (fn:=Tryz.f28) (L:=fref_Parse_C n) (ks:=[.loop 7]) ⟨X7 n,trivial⟩ (by kernel_rfl) (by kernel_rfl)) (AdF n)
def NO:List (Nat×C):=[(0,.s 9)]
def S1:List Wo:=[⟨.ret,[],[],[.g 65,.s 4]⟩]
def Pk (n:Nat) (line:ByteArray):Option ((Ay×Bool×Unit)) :=
    (FL n line).bind fun v0 =>
    bif !v0.snd.snd.fst then(some (Ay.mk 0 0 0 (IK.mk 0) 0 0,(false,()))) else
    bif v0.fst.beq (B [102,111,117,110,100]) then((AC v0.snd.fst 0).bind fun v1 =>
    (AC v0.snd.fst 1).bind fun v2 =>
    (AC v0.snd.fst 2).bind fun v3 =>
    (AC v0.snd.fst 3).bind fun v4 =>
    some (Ay.mk v1 v2 v3 (IK.mk 0) v4 0,(true,()))) else
    bif v0.fst.beq (B [104,101,108,100]) then((AC v0.snd.fst 0).bind fun v1 =>
    (AC v0.snd.fst 1).bind fun v2 =>
    (AC v0.snd.fst 2).bind fun v3 =>
    (AC v0.snd.fst 3).bind fun v4 =>
    some (Ay.mk v1 v2 v3 (IK.mk 1) v4 0,(true,()))) else
    bif v0.fst.beq (B [115,105,103,110,101,100]) then((AC v0.snd.fst 0).bind fun v1 =>
    (AC v0.snd.fst 1).bind fun v2 =>
    (AC v0.snd.fst 2).bind fun v3 =>
    (AC v0.snd.fst 3).bind fun v4 =>
    some (Ay.mk v1 v2 v3 (IK.mk 2) 0 v4,(true,()))) else
    bif v0.fst.beq (B [99,104,101,99,107,101,100]) then((AC v0.snd.fst 0).bind fun v1 =>
    (AC v0.snd.fst 1).bind fun v2 =>
    (AC v0.snd.fst 2).bind fun v3 =>
    some (Ay.mk v1 v2 v3 (IK.mk 3) 0 0,(true,()))) else
    some (Ay.mk 0 0 0 (IK.mk 0) 0 0,(false,()))
def Yy (n:Nat) (y:C.Ds Ty (Ai NO)):Option (YT Ty S1):=Pk n y.1
noncomputable def fref_Card_law (n:Nat):AH Ty:=AI NO 0 S1 (Yy n)
noncomputable def fref_Card_T (n:Nat):List (Nat×AH Ty):=[(28,fref_Parse_law n)]
theorem AdG (n:Nat):Au Tryz.prog (fref_Card_T n):=⟨Fo n,trivial⟩
noncomputable def fref_Card_C (n:Nat):A7 Ty:=[]
theorem Ag2 (n:Nat) (x:C.Ds Ty (Ai NO)):(A1 Tryz.prog 75 (An Tryz.prog (fref_Card_T n) []) (Ah (fref_Card_C n)) (Ap Tryz.f30) (A0 NO x)).runK (Aw Tryz.prog Tryz.f30.results.toList 0 S1)=Yy n x:=by kernel_rfl
theorem ZH (n:Nat):Av Tryz.prog 30 (fref_Card_law n):=Ax Tryz.func30 rfl rfl (by decide) rfl Aa Ab (Ac Aa Ab (AdG n) Ak) (Ae (fn:=Tryz.f30) (L:=fref_Card_C n) (ks:=[]) trivial (by kernel_rfl) (by kernel_rfl)) (Ag2 n)
def En:List (Nat×C):=[(4,.u 114),(5,.f 84 [.q 0] []),(6,.o 37),(12,.l 9),(13,.s 3),(14,.s 3)]
def JI:List Wo:=[⟨.exit 0,[.u 114],[(4,.q 0),(6,.o 37)],[]⟩]
def JJ:List (Nat×C):=[(0,.l 9)]
def MF:List Wo:=[⟨.ret,[],[],[.u 114,.l 37]⟩]
def DY:Nat→Af→(List Int)→(List ByteArray)→Int→Int→Option ((Af×Unit×List Int×Unit))
  | 0,_,_,_,_,_=>none
  | n+1,g,errors,x12,x13,x14 =>
    bif decide (x14<x13) then((AC x12 x14).bind fun v0 =>
    (AnU n g v0).bind fun v1 =>
    (app errors [v1.snd.fst]).bind fun v2 =>
    DY n v1.fst v2 x12 x13 (IntKind.i64.wrap (x14+1))) else
    some (g,((),(errors,())))
def GC (n:Nat) (y:C.Ds Ty (Ai En)):Option (YT Ty JI):=DY n y.1 y.2.2.1 y.2.2.2.1 y.2.2.2.2.1 y.2.2.2.2.2.1
noncomputable def fgarage_play_l1_cut (n:Nat):St Ty→Tr (Lf Ty):=C3 En 1 JI (GC n)
def Hv (n:Nat) (lines:List ByteArray):Option ((Af×List Int×Unit)) :=
    (Ud n).bind fun v0 =>
    (DY n v0.fst [] lines (↑lines.length:Int) 0).bind fun v1 =>
    some (v1.fst,(v1.snd.snd.fst,()))
def S2 (n:Nat) (y:C.Ds Ty (Ai JJ)):Option (YT Ty MF):=Hv n y.1
noncomputable def fgarage_play_law (n:Nat):AH Ty:=AnC (AI JJ 0 MF (S2 n))
noncomputable def fgarage_play_T (n:Nat):List (Nat×AH Ty):=[(101,fgarage_begin_law n),(84,nextS_law n)]
theorem Pm (n:Nat):Au Tryz.prog (fgarage_play_T n):=⟨T5 n,⟨Aix n,trivial⟩⟩
noncomputable def fgarage_play_l1_C (n:Nat):A7 Ty:=[]
theorem UN (n:Nat) (x:C.Ds Ty (Ai En)):(A1 Tryz.prog 27 (An Tryz.prog (fgarage_play_T n) []) (Ah (fgarage_play_l1_C n)) (Ar 5 Tryz.f53) (A0 En x)).runK (AJ 1 En JI (GC n))=GC (n+1) x:=by kernel_rfl
theorem UO (n:Nat):AF true Tryz.prog 27 (fgarage_play_l1_cut n) (.loop (Ar 5 Tryz.f53)):=AM fun x y hy=>A6 (Fn:=GC) Aa Ab (fun n=>Ac Aa Ab (Pm n) Ak) (fun h=>by cases h) (fun h=>by cases h) (fun n=>(Ae (fn:=Tryz.f53) (L:=fgarage_play_l1_C n) (ks:=[]) trivial (by kernel_rfl) (by kernel_rfl))) (by decide) (fun _=>rfl) UN hy
noncomputable def fgarage_play_C (n:Nat):A7 Ty:=[(.loop 5,fgarage_play_l1_cut n)]
theorem ZI (n:Nat) (x:C.Ds Ty (Ai JJ)):(A1 Tryz.prog 27 (An Tryz.prog (fgarage_play_T n) []) (Ah (fgarage_play_C n)) (Ap Tryz.f53) (A0 JJ x)).runK (Aw Tryz.prog Tryz.f53.results.toList 0 MF)=S2 n x:=by kernel_rfl
theorem IF (n:Nat):Av Tryz.prog 53 (fgarage_play_law n):=AnD (by decide) (Ax Tryz.func53 rfl rfl (by decide) rfl Aa Ab (Ac Aa Ab (Pm n) Ak) (Ae (fn:=Tryz.f53) (L:=fgarage_play_C n) (ks:=[.loop 5]) ⟨UO n,trivial⟩ (by kernel_rfl) (by kernel_rfl)) (ZI n))
def JK:List (Nat×C):=[(0,.l 9)]
def MG:List Wo:=[⟨.ret,[],[],[.g 35,.l 37,.s 37]⟩]
def Cu (n:Nat) (lines:List ByteArray):Option ((Ao×List Int×Int×Unit)) :=
    (EA n lines).bind fun v0 =>
    bif v0.fst != 0 then(some (Ao.mk [] [] [] [] (A8.mk 0 [] [] 0 0 0) [],([],(v0.fst,())))) else
    (Hv n lines).bind fun v1 =>
    some (v1.fst.state,(v1.snd.fst,(0,())))
def S3 (n:Nat) (y:C.Ds Ty (Ai JK)):Option (YT Ty MG):=Cu n y.1
noncomputable def fgarage_Play_law (n:Nat):AH Ty:=AI JK 0 MG (S3 n)
noncomputable def fgarage_Play_T (n:Nat):List (Nat×AH Ty):=[(52,fgarage_check_law n),(53,fgarage_play_law n)]
theorem X8 (n:Nat):Au Tryz.prog (fgarage_Play_T n):=⟨EX n,⟨IF n,trivial⟩⟩
noncomputable def fgarage_Play_C (n:Nat):A7 Ty:=[]
theorem ZJ (n:Nat) (x:C.Ds Ty (Ai JK)):(A1 Tryz.prog 24 (An Tryz.prog (fgarage_Play_T n) []) (Ah (fgarage_Play_C n)) (Ap Tryz.f21) (A0 JK x)).runK (Aw Tryz.prog Tryz.f21.results.toList 0 MG)=S3 n x:=by kernel_rfl
theorem D7 (n:Nat):Av Tryz.prog 21 (fgarage_Play_law n):=Ax Tryz.func21 rfl rfl (by decide) rfl Aa Ab (Ac Aa Ab (X8 n) Ak) (Ae (fn:=Tryz.f21) (L:=fgarage_Play_C n) (ks:=[]) trivial (by kernel_rfl) (by kernel_rfl)) (ZJ n)
def Hw:List (Nat×C):=[(0,.s 9),(1,.p [.u 114])]
def K5:List Wo:=[⟨.ret,[.p [.u 114],.q 1],[],[.s 4]⟩]
def JL (n:Nat) (text:ByteArray) (x1:Af):Option (((Af×Unit)×Unit×Bool×Unit)) :=
    (Xm n text (B [32])).bind fun v0 =>
    (AC v0.fst 0).bind fun v1 =>
    bif !v1.beq (B [111,117,116]) then(some ((x1,()),((),(false,())))) else
    (AC v0.fst 1).bind fun v2 =>
    (TW v2).bind fun v3 =>
    Sum.elim (fun v4=>(AC v0.fst 2).bind fun v5 =>
    (TW v5).bind fun v6 =>
    Sum.elim (fun v7=>(DX n x1.state.cards v4 v7).bind fun v8 =>
    some ((x1,()),((),(decide ((↑v8.fst.length:Int)>0),())))) (fun v7=>(DX n x1.state.cards v4 v7).bind fun v8 =>
    some ((x1,()),((),(decide ((↑v8.fst.length:Int)>0),())))) (v6)) (fun v4=>(AC v0.fst 2).bind fun v5 =>
    (TW v5).bind fun v6 =>
    Sum.elim (fun v7=>(DX n x1.state.cards v4 v7).bind fun v8 =>
    some ((x1,()),((),(decide ((↑v8.fst.length:Int)>0),())))) (fun v7=>(DX n x1.state.cards v4 v7).bind fun v8 =>
    some ((x1,()),((),(decide ((↑v8.fst.length:Int)>0),())))) (v6)) (v3)
def Pn (n:Nat) (y:C.Ds Ty (Ai Hw)):Option (YT Ty K5):=JL n y.1 y.2.1.1
noncomputable def fgarage_late_1_law (n:Nat):AH Ty:=AI Hw 2 K5 (Pn n)
noncomputable def fgarage_late_1_T (n:Nat):List (Nat×AH Ty):=[(112,splitS_law n),(113,atoiS_law n),(29,fpit_Open_law n)]
theorem UP (n:Nat):Au Tryz.prog (fgarage_late_1_T n):=⟨VU n,⟨Yr n,⟨Iq n,trivial⟩⟩⟩
noncomputable def fgarage_late_1_C (n:Nat):A7 Ty:=[]
theorem Wp (n:Nat) (x:C.Ds Ty (Ai Hw)):(A1 Tryz.prog 45 (An Tryz.prog (fgarage_late_1_T n) []) (Ah (fgarage_late_1_C n)) (Ap Tryz.f111) (A0 Hw x)).runK (Aw Tryz.prog Tryz.f111.results.toList 2 K5)=Pn n x:=by kernel_rfl
theorem S4 (n:Nat):Av Tryz.prog 111 (fgarage_late_1_law n):=Ax Tryz.func111 rfl rfl (by decide) rfl Aa Ab (Ac Aa Ab (UP n) Ak) (Ae (fn:=Tryz.f111) (L:=fgarage_late_1_C n) (ks:=[]) trivial (by kernel_rfl) (by kernel_rfl)) (Wp n)
def Eo:List (Nat×C):=[(2,.l 37),(6,.o 3),(7,.f 111 [] [.p [.u 114]]),(11,.l 9),(12,.s 3),(13,.s 3)]
def JM:List Wo:=[⟨.exit 0,[.p [.u 114],.q 1],[(6,.o 3)],[]⟩]
def JN:List (Nat×C):=[(0,.l 9),(1,.u 114),(2,.l 37)]
def MH:List Wo:=[⟨.ret,[.u 114],[],[.o 3]⟩]
def CG:Nat→(List Int)→(List Int)→Af→(List ByteArray)→Int→Int→Option (((Af×Unit)×Unit×List Int×Unit))
  | 0,_,_,_,_,_,_=>none
  | n+1,errors,out,is,x11,x12,x13 =>
    bif decide (x13<x12) then((AC x11 x13).bind fun v0 =>
    (AC errors x13).bind fun v1 =>
    bif decide (v1=0) then((JL n v0 is).bind fun v2 =>
    bif v2.snd.snd.fst then((app out [x13]).bind fun v3 =>
    CG n errors v3 v2.fst.fst x11 x12 (IntKind.i64.wrap (x13+1))) else
    CG n errors out v2.fst.fst x11 x12 (IntKind.i64.wrap (x13+1))) else
    CG n errors out is x11 x12 (IntKind.i64.wrap (x13+1))) else
    some ((is,()),((),(out,())))
def GD (n:Nat) (y:C.Ds Ty (Ai Eo)):Option (YT Ty JM):=CG n y.1 y.2.1 y.2.2.1.2.1.1 y.2.2.2.1 y.2.2.2.2.1 y.2.2.2.2.2.1
noncomputable def fgarage_late_l1_cut (n:Nat):St Ty→Tr (Lf Ty):=C3 Eo 2 JM (GD n)
def Q1 (n:Nat) (lines:List ByteArray) (g:Af) (errors:List Int):Option ((Af×List Int×Unit)) :=
    (CG n errors [] g lines (↑lines.length:Int) 0).bind fun v0 =>
    some (v0.fst.fst,(v0.snd.snd.fst,()))
def S5 (n:Nat) (y:C.Ds Ty (Ai JN)):Option (YT Ty MH):=Q1 n y.1 y.2.1 y.2.2.1
noncomputable def fgarage_late_law (n:Nat):AH Ty:=AI JN 1 MH (S5 n)
noncomputable def fgarage_late_T (n:Nat):List (Nat×AH Ty):=[(111,fgarage_late_1_law n)]
theorem Po (n:Nat):Au Tryz.prog (fgarage_late_T n):=⟨S4 n,trivial⟩
noncomputable def fgarage_late_l1_C (n:Nat):A7 Ty:=[]
theorem UQ (n:Nat) (x:C.Ds Ty (Ai Eo)):(A1 Tryz.prog 34 (An Tryz.prog (fgarage_late_T n) []) (Ah (fgarage_late_l1_C n)) (Ar 3 Tryz.f70) (A0 Eo x)).runK (AJ 2 Eo JM (GD n))=GD (n+1) x:=by kernel_rfl
theorem UR (n:Nat):AF true Tryz.prog 34 (fgarage_late_l1_cut n) (.loop (Ar 3 Tryz.f70)):=AM fun x y hy=>A6 (Fn:=GD) Aa Ab (fun n=>Ac Aa Ab (Po n) Ak) (fun h=>by cases h) (fun h=>by cases h) (fun n=>(Ae (fn:=Tryz.f70) (L:=fgarage_late_l1_C n) (ks:=[]) trivial (by kernel_rfl) (by kernel_rfl))) (by decide) (fun _=>rfl) UQ hy
noncomputable def fgarage_late_C (n:Nat):A7 Ty:=[(.loop 3,fgarage_late_l1_cut n)]
theorem ZK (n:Nat) (x:C.Ds Ty (Ai JN)):(A1 Tryz.prog 34 (An Tryz.prog (fgarage_late_T n) []) (Ah (fgarage_late_C n)) (Ap Tryz.f70) (A0 JN x)).runK (Aw Tryz.prog Tryz.f70.results.toList 1 MH)=S5 n x:=by kernel_rfl
theorem US (n:Nat):Av Tryz.prog 70 (fgarage_late_law n):=Ax Tryz.func70 rfl rfl (by decide) rfl Aa Ab (Ac Aa Ab (Po n) Ak) (Ae (fn:=Tryz.f70) (L:=fgarage_late_C n) (ks:=[.loop 3]) ⟨UR n,trivial⟩ (by kernel_rfl) (by kernel_rfl)) (ZK n)
def JO:List (Nat×C):=[(0,.l 9)]
def MI:List Wo:=[⟨.ret,[],[],[.l 3,.s 37]⟩]
def Ep (n:Nat) (lines:List ByteArray):Option ((List Int×Int×Unit)) :=
    (EA n lines).bind fun v0 =>
    bif v0.fst != 0 then(some ([],(v0.fst,()))) else
    (Hv n lines).bind fun v1 =>
    (Q1 n lines v1.fst v1.snd.fst).bind fun v2 =>
    some (v2.snd.fst,(0,()))
def S6 (n:Nat) (y:C.Ds Ty (Ai JO)):Option (YT Ty MI):=Ep n y.1
noncomputable def fgarage_Late_law (n:Nat):AH Ty:=AI JO 0 MI (S6 n)
noncomputable def fgarage_Late_T (n:Nat):List (Nat×AH Ty):=[(52,fgarage_check_law n),(53,fgarage_play_law n),(70,fgarage_late_law n)]
theorem X9 (n:Nat):Au Tryz.prog (fgarage_Late_T n):=⟨EX n,⟨IF n,⟨US n,trivial⟩⟩⟩
noncomputable def fgarage_Late_C (n:Nat):A7 Ty:=[]
theorem ZL (n:Nat) (x:C.Ds Ty (Ai JO)):(A1 Tryz.prog 21 (An Tryz.prog (fgarage_Late_T n) []) (Ah (fgarage_Late_C n)) (Ap Tryz.f31) (A0 JO x)).runK (Aw Tryz.prog Tryz.f31.results.toList 0 MI)=S6 n x:=by kernel_rfl
theorem MJ (n:Nat):Av Tryz.prog 31 (fgarage_Late_law n):=Ax Tryz.func31 rfl rfl (by decide) rfl Aa Ab (Ac Aa Ab (X9 n) Ak) (Ae (fn:=Tryz.f31) (L:=fgarage_Late_C n) (ks:=[]) trivial (by kernel_rfl) (by kernel_rfl)) (ZL n)
def I0:List (Nat×C):=[(0,.l 9),(1,.s 3)]
def Lk:List Wo:=[⟨.ret,[],[],[.s 3,.s 3]⟩]
def Ik (n:Nat) (lines:List ByteArray) (bus:Int):Option ((Int×Int×Unit)) :=
    (EA n lines).bind fun v0 =>
    bif v0.fst != 0 then(some (0,(v0.fst,()))) else
    (Bu n bus 0 99).bind fun v1 =>
    bif !v1.fst then(some (0,(2,()))) else
    (Hv n lines).bind fun v2 =>
    (Gs n v2.fst bus).bind fun v3 =>
    bif decide (v3.snd.snd.fst=0) then(some (0,(7,()))) else
    some (v3.snd.fst,(0,()))
def QU (n:Nat) (y:C.Ds Ty (Ai I0)):Option (YT Ty Lk):=Ik n y.1 y.2.1
noncomputable def fgarage_Miles_law (n:Nat):AH Ty:=HY (AI I0 0 Lk (QU n))
noncomputable def fgarage_Miles_T (n:Nat):List (Nat×AH Ty):=[(52,fgarage_check_law n),(75,fgarage_within_law n),(53,fgarage_play_law n),(76,fgarage_session_miles_law n)]
theorem Wq (n:Nat):Au Tryz.prog (fgarage_Miles_T n):=⟨EX n,⟨Cx n,⟨IF n,⟨L9 n,trivial⟩⟩⟩⟩
noncomputable def fgarage_Miles_C (n:Nat):A7 Ty:=[]
theorem XA (n:Nat) (x:C.Ds Ty (Ai I0)):(A1 Tryz.prog 33 (An Tryz.prog (fgarage_Miles_T n) []) (Ah (fgarage_Miles_C n)) (Ap Tryz.f34) (A0 I0 x)).runK (Aw Tryz.prog Tryz.f34.results.toList 0 Lk)=QU n x:=by kernel_rfl
theorem T6 (n:Nat):Av Tryz.prog 34 (fgarage_Miles_law n):=BI (Ax Tryz.func34 rfl rfl (by decide) rfl Aa Ab (Ac Aa Ab (Wq n) Ak) (Ae (fn:=Tryz.f34) (L:=fgarage_Miles_C n) (ks:=[]) trivial (by kernel_rfl) (by kernel_rfl)) (XA n))
def Hx:List (Nat×C):=[(0,.s 3),(1,.s 3)]
def K6:List Wo:=[⟨.ret,[],[],[.s 9]⟩]
def JP (n:Nat) (n_:Int) (many:Int):Option ((ByteArray×Unit)) :=
    (Yp n n_).bind fun v0 =>
    (Akw n (B [48]) (if IntKind.i64.wrap (many-(↑v0.fst.size:Int))>0 then IntKind.i64.wrap (many-(↑v0.fst.size:Int)) else 0)).bind fun v1 =>
    (LZ v1.fst v0.fst).bind fun v2 =>
    some (v2,())
def Pp (n:Nat) (y:C.Ds Ty (Ai Hx)):Option (YT Ty K6):=JP n y.1 y.2.1
noncomputable def fgarage_digits_law (n:Nat):AH Ty:=AI Hx 0 K6 (Pp n)
noncomputable def fgarage_digits_T (n:Nat):List (Nat×AH Ty):=[(89,itoaS_law n),(244,repeatS_law n)]
theorem UT (n:Nat):Au Tryz.prog (fgarage_digits_T n):=⟨Yq n,⟨Ad2 n,trivial⟩⟩
noncomputable def fgarage_digits_C (n:Nat):A7 Ty:=[]
theorem Wr (n:Nat) (x:C.Ds Ty (Ai Hx)):(A1 Tryz.prog 16 (An Tryz.prog (fgarage_digits_T n) []) (Ah (fgarage_digits_C n)) (Ap Tryz.f181) (A0 Hx x)).runK (Aw Tryz.prog Tryz.f181.results.toList 0 K6)=Pp n x:=by kernel_rfl
theorem S7 (n:Nat):Av Tryz.prog 181 (fgarage_digits_law n):=Ax Tryz.func181 rfl rfl (by decide) rfl Aa Ab (Ac Aa Ab (UT n) Ak) (Ae (fn:=Tryz.f181) (L:=fgarage_digits_C n) (ks:=[]) trivial (by kernel_rfl) (by kernel_rfl)) (Wr n)
def CU:List (Nat×C):=[(0,.s 9),(5,.s 3),(12,.l 5),(13,.s 3),(14,.s 3)]
def HP:List Wo:=[⟨.exit 0,[],[(0,.s 9),(5,.s 3)],[]⟩]
def Hy:List (Nat×C):=[(0,.s 9),(1,.s 3)]
def K7:List Wo:=[⟨.ret,[],[],[.s 9]⟩]
def JQ:Nat→ByteArray→Int→(List (IK .u8))→Int→Int→Option ((ByteArray×Int×Unit))
  | 0,_,_,_,_,_=>none
  | n+1,s,check,x12,x13,x14 =>
    bif decide (x14<x13) then((AC x12 x14).bind fun v0 =>
    JQ n s (IntKind.i64.wrap (check+IntKind.i64.wrap (IntKind.i64.wrap (x14+1)*IntKind.i64.wrap (IntKind.i64.wrap v0.n+1)))) x12 x13 (IntKind.i64.wrap (x14+1))) else
    some (s,(check,()))
def EY (n:Nat) (y:C.Ds Ty (Ai CU)):Option (YT Ty HP):=JQ n y.1 y.2.1 y.2.2.1 y.2.2.2.1 y.2.2.2.2.1
noncomputable def fgarage_record_l1_cut (n:Nat):St Ty→Tr (Lf Ty):=C3 CU 0 HP (EY n)
def S8 (n:Nat) (s:ByteArray) (index:Int):Option ((ByteArray×Unit)) :=
    (JQ n s (IntKind.i64.wrap (7*IntKind.i64.wrap (index+1))) (AoQ s) (↑(AoQ s).length:Int) 0).bind fun v0 =>
    (JP n (↑v0.fst.size:Int) 3).bind fun v1 =>
    (LZ (B [91]) v1.fst).bind fun v2 =>
    (LZ v2 (B [47])).bind fun v3 =>
    (JP n (IntKind.i64.wrap (999-(↑v0.fst.size:Int))) 3).bind fun v4 =>
    (LZ v3 v4.fst).bind fun v5 =>
    (LZ v5 (B [47])).bind fun v6 =>
    (JP n (v0.snd.fst.tmod 99991) 5).bind fun v7 =>
    (LZ v6 v7.fst).bind fun v8 =>
    (LZ v8 (B [93])).bind fun v9 =>
    (LZ v9 v0.fst).bind fun v10 =>
    (LZ v10 (B [10])).bind fun v11 =>
    some (v11,())
def Pq (n:Nat) (y:C.Ds Ty (Ai Hy)):Option (YT Ty K7):=S8 n y.1 y.2.1
noncomputable def fgarage_record_law (n:Nat):AH Ty:=AI Hy 0 K7 (Pq n)
noncomputable def fgarage_record_T (n:Nat):List (Nat×AH Ty):=[(181,fgarage_digits_law n)]
theorem MK (n:Nat):Au Tryz.prog (fgarage_record_T n):=⟨S7 n,trivial⟩
noncomputable def fgarage_record_l1_C (n:Nat):A7 Ty:=[]
theorem S9 (n:Nat) (x:C.Ds Ty (Ai CU)):(A1 Tryz.prog 47 (An Tryz.prog (fgarage_record_T n) []) (Ah (fgarage_record_l1_C n)) (Ar 3 Tryz.f125) (A0 CU x)).runK (AJ 0 CU HP (EY n))=EY (n+1) x:=by kernel_rfl
theorem SB (n:Nat):AF true Tryz.prog 47 (fgarage_record_l1_cut n) (.loop (Ar 3 Tryz.f125)):=AM fun x y hy=>A6 (Fn:=EY) Aa Ab (fun n=>Ac Aa Ab (MK n) Ak) (fun h=>by cases h) (fun h=>by cases h) (fun n=>(Ae (fn:=Tryz.f125) (L:=fgarage_record_l1_C n) (ks:=[]) trivial (by kernel_rfl) (by kernel_rfl))) (by decide) (fun _=>rfl) S9 hy
noncomputable def fgarage_record_C (n:Nat):A7 Ty:=[(.loop 3,fgarage_record_l1_cut n)]
theorem Ws (n:Nat) (x:C.Ds Ty (Ai Hy)):(A1 Tryz.prog 47 (An Tryz.prog (fgarage_record_T n) []) (Ah (fgarage_record_C n)) (Ap Tryz.f125) (A0 Hy x)).runK (Aw Tryz.prog Tryz.f125.results.toList 0 K7)=Pq n x:=by kernel_rfl
theorem SD (n:Nat):Av Tryz.prog 125 (fgarage_record_law n):=Ax Tryz.func125 rfl rfl (by decide) rfl Aa Ab (Ac Aa Ab (MK n) Ak) (Ae (fn:=Tryz.f125) (L:=fgarage_record_C n) (ks:=[.loop 3]) ⟨SB n,trivial⟩ (by kernel_rfl) (by kernel_rfl)) (Ws n)
def C2:List (Nat×C):=[(2,.o 5),(5,.l 9),(6,.s 3),(7,.s 3)]
def Hi:List Wo:=[⟨.exit 0,[],[(2,.o 5)],[]⟩]
def GF:List (Nat×C):=[(0,.l 9)]
def JR:List Wo:=[⟨.ret,[],[],[.l 5]⟩]
def IG:Nat→(List (IK .u8))→(List ByteArray)→Int→Int→Option ((List (IK .u8)×Unit))
  | 0,_,_,_,_=>none
  | n+1,out,x5,x6,x7 =>
    bif decide (x7<x6) then((AC x5 x7).bind fun v0 =>
    (S8 n v0 x7).bind fun v1 =>
    (app out (AoQ v1.fst)).bind fun v2 =>
    IG n v2 x5 x6 (IntKind.i64.wrap (x7+1))) else
    some (out,())
def Er (n:Nat) (y:C.Ds Ty (Ai C2)):Option (YT Ty Hi):=IG n y.1 y.2.1 y.2.2.1 y.2.2.2.1
noncomputable def fgarage_written_l1_cut (n:Nat):St Ty→Tr (Lf Ty):=C3 C2 0 Hi (Er n)
def QV (n:Nat) (lines:List ByteArray):Option ((List (IK .u8)×Unit)) :=
    (IG n [] lines (↑lines.length:Int) 0).bind fun v0 =>
    some (v0.fst,())
def NP (n:Nat) (y:C.Ds Ty (Ai GF)):Option (YT Ty JR):=QV n y.1
noncomputable def fgarage_written_law (n:Nat):AH Ty:=AI GF 0 JR (NP n)
noncomputable def fgarage_written_T (n:Nat):List (Nat×AH Ty):=[(125,fgarage_record_law n)]
theorem Lu (n:Nat):Au Tryz.prog (fgarage_written_T n):=⟨SD n,trivial⟩
noncomputable def fgarage_written_l1_C (n:Nat):A7 Ty:=[]
theorem Rp (n:Nat) (x:C.Ds Ty (Ai C2)):(A1 Tryz.prog 19 (An Tryz.prog (fgarage_written_T n) []) (Ah (fgarage_written_l1_C n)) (Ar 2 Tryz.f78) (A0 C2 x)).runK (AJ 0 C2 Hi (Er n))=Er (n+1) x:=by kernel_rfl
theorem Rq (n:Nat):AF true Tryz.prog 19 (fgarage_written_l1_cut n) (.loop (Ar 2 Tryz.f78)):=AM fun x y hy=>A6 (Fn:=Er) Aa Ab (fun n=>Ac Aa Ab (Lu n) Ak) (fun h=>by cases h) (fun h=>by cases h) (fun n=>(Ae (fn:=Tryz.f78) (L:=fgarage_written_l1_C n) (ks:=[]) trivial (by kernel_rfl) (by kernel_rfl))) (by decide) (fun _=>rfl) Rp hy
noncomputable def fgarage_written_C (n:Nat):A7 Ty:=[(.loop 2,fgarage_written_l1_cut n)]
theorem UU (n:Nat) (x:C.Ds Ty (Ai GF)):(A1 Tryz.prog 19 (An Tryz.prog (fgarage_written_T n) []) (Ah (fgarage_written_C n)) (Ap Tryz.f78) (A0 GF x)).runK (Aw Tryz.prog Tryz.f78.results.toList 0 JR)=NP n x:=by kernel_rfl
theorem Rr (n:Nat):Av Tryz.prog 78 (fgarage_written_law n):=Ax Tryz.func78 rfl rfl (by decide) rfl Aa Ab (Ac Aa Ab (Lu n) Ak) (Ae (fn:=Tryz.f78) (L:=fgarage_written_C n) (ks:=[.loop 2]) ⟨Rq n,trivial⟩ (by kernel_rfl) (by kernel_rfl)) (UU n)
def I1:List (Nat×C):=[(0,.l 9)]
def Ll:List Wo:=[⟨.ret,[],[],[.l 5,.s 37]⟩]
def Ue (n:Nat) (lines:List ByteArray):Option ((List (IK .u8)×Int×Unit)) :=
    (EA n lines).bind fun v0 =>
    bif v0.fst != 0 then(some ([],(v0.fst,()))) else
    (QV n lines).bind fun v1 =>
    some (v1.fst,(0,()))
def QW (n:Nat) (y:C.Ds Ty (Ai I1)):Option (YT Ty Ll):=Ue n y.1
noncomputable def fgarage_Write_law (n:Nat):AH Ty:=AI I1 0 Ll (QW n)
noncomputable def fgarage_Write_T (n:Nat):List (Nat×AH Ty):=[(52,fgarage_check_law n),(78,fgarage_written_law n)]
theorem Wt (n:Nat):Au Tryz.prog (fgarage_Write_T n):=⟨EX n,⟨Rr n,trivial⟩⟩
noncomputable def fgarage_Write_C (n:Nat):A7 Ty:=[]
theorem XB (n:Nat) (x:C.Ds Ty (Ai I1)):(A1 Tryz.prog 12 (An Tryz.prog (fgarage_Write_T n) []) (Ah (fgarage_Write_C n)) (Ap Tryz.f37) (A0 I1 x)).runK (Aw Tryz.prog Tryz.f37.results.toList 0 Ll)=QW n x:=by kernel_rfl
theorem T7 (n:Nat):Av Tryz.prog 37 (fgarage_Write_law n):=Ax Tryz.func37 rfl rfl (by decide) rfl Aa Ab (Ac Aa Ab (Wt n) Ak) (Ae (fn:=Tryz.f37) (L:=fgarage_Write_C n) (ks:=[]) trivial (by kernel_rfl) (by kernel_rfl)) (XB n)
def GG:Nat→Int→(List (IK .u8))→Int→Int→Option ((Int×Unit) ⊕ ((Int×Unit)))
  | 0,_,_,_,_=>none
  | n+1,n_,x6,x7,x8 =>
    bif decide (x8<x7) then((AC x6 x8).bind fun v0 =>
    bif !decide (v0.n<48) then(bif decide (v0.n>57) then(some (.inr (-1,()))) else
    GG n (IntKind.i64.wrap (IntKind.i64.wrap (10*n_)+IntKind.i64.wrap (IntKind.u8.wrap (v0.n-48)))) x6 x7 (IntKind.i64.wrap (x8+1))) else
    some (.inr (-1,()))) else
    some (.inl (n_,()))
def SE (n:Nat) (l:List (IK .u8)):Option ((Int×Unit)) :=
    (GG n 0 l (↑l.length:Int) 0).bind fun v0 =>
    Sum.elim (fun v1=>some (v1.fst,())) (fun v1=>some (v1.fst,())) (v0)
def LG:List (Nat×C):=[]
def Q2:List Wo:=[⟨.ret,[],[],[.l 9]⟩]
def UW (n:Nat):Option ((List ByteArray×Unit)) :=
    some ([B [102,111,117,110,100,32,55,32,49,32,49,48,48,32,51],B [111,117,116,32,55,32,49,53,48],B [111,117,116,32,56,32,49,53,48],B [105,110,32,56,32,50,48,48,32,51,48],B [115,105,103,110,101,100,32,55,32,50,32,49,54,48,32,49],B [111,117,116,32,55,32,49,55,48],B [104,101,108,100,32,56,32,51,32,49,52,48,32,50],B [111,117,116,32,56,32,51,48,48],B [115,97,108,101,32,53,32,50,32,49,53,32,49,32,51,48,48],B [99,108,111,115,101,32,53,32,52,32,51,48,32,50,32,53,48,48],B [100,114,105,118,101,114,32,49,32,45,57,48,48],B [100,117,116,121,32,48,32,51,48,48,32,57,48,48,32,49,48,48,48,32,49],B [100,117,116,121,32,49,32,49,48,48,32,53,48,48,32,53,48,48,32,49],B [103,105,118,101,32,48,32,48],B [103,105,118,101,32,49,32,48],B [105,110,32,55,32,49,54,53,32,53]],())
def Wu (n:Nat) (y:C.Ds Ty (Ai LG)):Option (YT Ty Q2):=UW n
noncomputable def flaw_shift_law (n:Nat):AH Ty:=AI LG 0 Q2 (Wu n)
noncomputable def flaw_shift_T (n:Nat):List (Nat×AH Ty):=[]
theorem AcD (n:Nat):Au Tryz.prog (flaw_shift_T n):=trivial
noncomputable def flaw_shift_C (n:Nat):A7 Ty:=[]
theorem AdH (n:Nat) (x:C.Ds Ty (Ai LG)):(A1 Tryz.prog 2 (An Tryz.prog (flaw_shift_T n) []) (Ah (flaw_shift_C n)) (Ap Tryz.f51) (A0 LG x)).runK (Aw Tryz.prog Tryz.f51.results.toList 0 Q2)=Wu n x:=by kernel_rfl
theorem XC (n:Nat):Av Tryz.prog 51 (flaw_shift_law n):=Ax Tryz.func51 rfl rfl (by decide) rfl Aa Ab (Ac Aa Ab (AcD n) Ak) (Ae (fn:=Tryz.f51) (L:=flaw_shift_C n) (ks:=[]) trivial (by kernel_rfl) (by kernel_rfl)) (AdH n)
def LH:List (Nat×C):=[]
def Q3:List Wo:=[⟨.ret,[],[],[.s 4]⟩]
def A5 (n:Nat):Option ((Bool×Unit)) :=
    (UW n).bind fun v0 =>
    (Cu n v0.fst).bind fun v1 =>
    (UW n).bind fun v2 =>
    (Ep n v2.fst).bind fun v3 =>
    (Ue n [B [97]]).bind fun v4 =>
    bif !v1.snd.snd.fst != 0 then(bif !v3.snd.fst != 0 then(bif !v4.snd.fst != 0 then(bif (↑v1.snd.fst.length:Int) != 16 then(some (false,())) else
    (AC v1.snd.fst 1).bind fun v5 =>
    bif decide (v5=11) then((AC v1.snd.fst 7).bind fun v6 =>
    bif decide (v6=11) then((AC v1.snd.fst 14).bind fun v7 =>
    bif decide (v7=10) then((AC v1.snd.fst 15).bind fun v8 =>
    bif decide (v8=2) then(bif decide ((↑v1.fst.runs.length:Int)=1) then((AC v1.fst.runs 0).bind fun v9 =>
    bif decide (v9.bus=8) && (decide (v9.fr=150) && (decide (v9.to_=200) && (decide (v9.miles=30) && true))) then(bif decide ((↑v1.fst.outs.length:Int)=1) then((AC v1.fst.outs 0).bind fun v10 =>
    bif decide (v10.bus=7) && (decide (v10.fr=170) && true) then((Dt n v1.fst.roster [0,-1]).bind fun v11 =>
    bif v11.fst then((Dt n v3.fst [2]).bind fun v12 =>
    bif v12.fst then(some ((AoP v4.fst).beq (B [91,48,48,49,47,57,57,56,47,48,48,49,48,53,93,97,10]),())) else
    some (false,())) else
    some (false,())) else
    some (false,())) else
    some (false,())) else
    some (false,())) else
    some (false,())) else
    some (false,())) else
    some (false,())) else
    some (false,())) else
    some (false,())) else
    some (false,())) else
    some (false,())) else
    some (false,())
def Wv (n:Nat) (y:C.Ds Ty (Ai LH)):Option (YT Ty Q3):=A5 n
noncomputable def flaw_wakes_law (n:Nat):AH Ty:=AI LH 0 Q3 (Wv n)
noncomputable def flaw_wakes_T (n:Nat):List (Nat×AH Ty):=[(51,flaw_shift_law n),(21,fgarage_Play_law n),(31,fgarage_Late_law n),(37,fgarage_Write_law n),(32,flaw_ints_law n)]
theorem AcE (n:Nat):Au Tryz.prog (flaw_wakes_T n):=⟨XC n,⟨D7 n,⟨MJ n,⟨T7 n,⟨Ld n,trivial⟩⟩⟩⟩⟩
noncomputable def flaw_wakes_C (n:Nat):A7 Ty:=[]
theorem AdI (n:Nat) (x:C.Ds Ty (Ai LH)):(A1 Tryz.prog 105 (An Tryz.prog (flaw_wakes_T n) []) (Ah (flaw_wakes_C n)) (Ap Tryz.f20) (A0 LH x)).runK (Aw Tryz.prog Tryz.f20.results.toList 0 Q3)=Wv n x:=by kernel_rfl
theorem Hz (n:Nat):Av Tryz.prog 20 (flaw_wakes_law n):=Ax Tryz.func20 rfl rfl (by decide) rfl Aa Ab (Ac Aa Ab (AcE n) Ak) (Ae (fn:=Tryz.f20) (L:=flaw_wakes_C n) (ks:=[]) trivial (by kernel_rfl) (by kernel_rfl)) (AdI n)
def CV:List (Nat×C):=[(7,.l 3),(9,.u 35),(17,.s 3)]
def HQ:List Wo:=[⟨.exit 0,[.u 35],[(7,.l 3),(9,.q 0)],[]⟩,⟨.ret,[.u 35],[(4,.s 4)],[]⟩]
def CW:List (Nat×C):=[(7,.l 3),(9,.u 35),(18,.s 3)]
def HR:List Wo:=[⟨.exit 2,[.u 35],[],[]⟩,⟨.ret,[.u 35],[(4,.s 4)],[]⟩]
def H1:List (Nat×C):=[(0,.l 9),(1,.s 5)]
def K8:List Wo:=[⟨.ret,[],[],[.s 4]⟩]
def CC:Nat→(List Int)→Ao→Int→Option ((Ao×List Int×Unit×Unit) ⊕ ((Ao×Bool×Unit)))
  | 0,_,_,_=>none
  | n+1,l,s,i =>
    bif decide (i<(↑s.outs.length:Int)) then((AC s.outs i).bind fun v0 =>
    (AC l 0).bind fun v1 =>
    bif decide (v0.bus=v1) then(some (.inr (s,(false,())))) else
    CC n l s (IntKind.i64.wrap (i+1))) else
    some (.inl (s,(l,((),()))))
def EZ (n:Nat) (y:C.Ds Ty (Ai CV)):Option (YT Ty HQ):=CC n y.1 y.2.1 y.2.2.1
noncomputable def flaw_GarageOut_l1_cut (n:Nat):St Ty→Tr (Lf Ty):=C3 CV 1 HQ (EZ n)
def BS:Nat→(List Int)→Ao→Int→Option ((Ao×Unit) ⊕ ((Ao×Bool×Unit)))
  | 0,_,_,_=>none
  | n+1,l,s,i =>
    bif decide (i<(↑s.runs.length:Int)) then((AC s.runs i).bind fun v0 =>
    (AC l 0).bind fun v1 =>
    bif decide (v0.bus=v1) then((AC s.runs i).bind fun v2 =>
    (AC l 1).bind fun v3 =>
    bif decide (v2.to_>v3) then(some (.inr (s,(false,())))) else
    BS n l s (IntKind.i64.wrap (i+1))) else
    BS n l s (IntKind.i64.wrap (i+1))) else
    some (.inl (s,()))
def Fa (n:Nat) (y:C.Ds Ty (Ai CW)):Option (YT Ty HR):=BS n y.1 y.2.1 y.2.2.1
noncomputable def flaw_GarageOut_l2_cut (n:Nat):St Ty→Tr (Lf Ty):=C3 CW 1 HR (Fa n)
def JS (n:Nat) (lines:List ByteArray) (at_:IK .u8):Option ((Bool×Unit)) :=
    (IE n lines).bind fun v0 =>
    bif !!v0.fst then(bif decide ((↑lines.length:Int)=0) then((A5 n).bind fun v1 =>
    some (v1.fst,())) else
    (Alj (IntKind.i64.wrap at_.n) (↑lines.length:Int)).bind fun v1 =>
    (AC lines v1).bind fun v2 =>
    (FL n v2).bind fun v3 =>
    (GP lines 0 v1).bind fun v4 =>
    (Ch n v4).bind fun v5 =>
    (Cu n v5.fst).bind fun v6 =>
    (GP lines 0 (IntKind.i64.wrap (v1+1))).bind fun v7 =>
    (Ch n v7).bind fun v8 =>
    (Cu n v8.fst).bind fun v9 =>
    bif !v6.snd.snd.fst != 0 then(bif !v9.snd.snd.fst != 0 then(bif (↑v9.snd.fst.length:Int) != IntKind.i64.wrap (v1+1) then(some (false,())) else
    bif !!v3.snd.snd.fst then(bif !!v3.fst.beq (B [111,117,116]) then((AC v9.snd.fst v1).bind fun v10 =>
    bif v10 != 0 then((AC v9.snd.fst v1).bind fun v11 =>
    bif v11 != 11 then((AC v9.snd.fst v1).bind fun v12 =>
    bif v12 != 11 then((A5 n).bind fun v13 =>
    some (v13.fst,())) else
    some (false,())) else
    (app [] v6.fst.cards).bind fun v12 =>
    (AC v3.snd.fst 0).bind fun v13 =>
    (AC v3.snd.fst 1).bind fun v14 =>
    (DX n v12 v13 v14).bind fun v15 =>
    bif !v15.snd.fst != 0 then((AC v9.snd.fst v1).bind fun v16 =>
    bif !decide (decide (v16=0)=decide ((↑v15.fst.length:Int)=0)) then(some (false,())) else
    (CC n v3.snd.fst v6.fst 0).bind fun v17 =>
    Sum.elim (fun v18=>(BS n v18.snd.fst v18.fst 0).bind fun v19 =>
    Sum.elim (fun v20=>(A5 n).bind fun v21 =>
    some (v21.fst,())) (fun v20=>some (v20.snd.fst,())) (v19)) (fun v18=>some (v18.snd.fst,())) (v17)) else
    some (false,())) else
    (app [] v6.fst.cards).bind fun v11 =>
    (AC v3.snd.fst 0).bind fun v12 =>
    (AC v3.snd.fst 1).bind fun v13 =>
    (DX n v11 v12 v13).bind fun v14 =>
    bif !v14.snd.fst != 0 then((AC v9.snd.fst v1).bind fun v15 =>
    bif !decide (decide (v15=0)=decide ((↑v14.fst.length:Int)=0)) then(some (false,())) else
    (CC n v3.snd.fst v6.fst 0).bind fun v16 =>
    Sum.elim (fun v17=>(BS n v17.snd.fst v17.fst 0).bind fun v18 =>
    Sum.elim (fun v19=>(A5 n).bind fun v20 =>
    some (v20.fst,())) (fun v19=>some (v19.snd.fst,())) (v18)) (fun v17=>some (v17.snd.fst,())) (v16)) else
    some (false,())) else
    (AC v9.snd.fst v1).bind fun v10 =>
    bif v10 != 11 then((A5 n).bind fun v11 =>
    some (v11.fst,())) else
    some (false,())) else
    (AC v9.snd.fst v1).bind fun v10 =>
    bif v10 != 11 then((A5 n).bind fun v11 =>
    some (v11.fst,())) else
    some (false,())) else
    some (false,())) else
    some (false,())) else
    (A5 n).bind fun v1 =>
    some (v1.fst,())
def Pr (n:Nat) (y:C.Ds Ty (Ai H1)):Option (YT Ty K8):=JS n y.1 y.2.1
noncomputable def flaw_GarageOut_law (n:Nat):AH Ty:=HY (AI H1 0 K8 (Pr n))
noncomputable def flaw_GarageOut_T (n:Nat):List (Nat×AH Ty):=[(27,flaw_ready_law n),(20,flaw_wakes_law n),(28,fref_Parse_law n),(22,flaw_list_law n),(21,fgarage_Play_law n),(29,fpit_Open_law n)]
theorem IH (n:Nat):Au Tryz.prog (flaw_GarageOut_T n):=⟨Hu n,⟨Hz n,⟨Fo n,⟨Iu n,⟨D7 n,⟨Iq n,trivial⟩⟩⟩⟩⟩⟩
noncomputable def flaw_GarageOut_l1_C (n:Nat):A7 Ty:=[]
theorem SF (n:Nat) (x:C.Ds Ty (Ai CV)):(A1 Tryz.prog 176 (An Tryz.prog (flaw_GarageOut_T n) []) (Ah (flaw_GarageOut_l1_C n)) (Ar 15 Tryz.f4) (A0 CV x)).runK (AJ 1 CV HQ (EZ n))=EZ (n+1) x:=by kernel_rfl
theorem SG (n:Nat):AF true Tryz.prog 176 (flaw_GarageOut_l1_cut n) (.loop (Ar 15 Tryz.f4)):=AM fun x y hy=>A6 (Fn:=EZ) Aa Ab (fun n=>Ac Aa Ab (IH n) Ak) (fun h=>by cases h) (fun h=>by cases h) (fun n=>(Ae (fn:=Tryz.f4) (L:=flaw_GarageOut_l1_C n) (ks:=[]) trivial (by kernel_rfl) (by kernel_rfl))) (by decide) (fun _=>rfl) SF hy
noncomputable def flaw_GarageOut_l2_C (n:Nat):A7 Ty:=[]
theorem SH (n:Nat) (x:C.Ds Ty (Ai CW)):(A1 Tryz.prog 176 (An Tryz.prog (flaw_GarageOut_T n) []) (Ah (flaw_GarageOut_l2_C n)) (Ar 20 Tryz.f4) (A0 CW x)).runK (AJ 1 CW HR (Fa n))=Fa (n+1) x:=by kernel_rfl
theorem SI (n:Nat):AF true Tryz.prog 176 (flaw_GarageOut_l2_cut n) (.loop (Ar 20 Tryz.f4)):=AM fun x y hy=>A6 (Fn:=Fa) Aa Ab (fun n=>Ac Aa Ab (IH n) Ak) (fun h=>by cases h) (fun h=>by cases h) (fun n=>(Ae (fn:=Tryz.f4) (L:=flaw_GarageOut_l2_C n) (ks:=[]) trivial (by kernel_rfl) (by kernel_rfl))) (by decide) (fun _=>rfl) SH hy
noncomputable def flaw_GarageOut_C (n:Nat):A7 Ty:=[(.loop 15,flaw_GarageOut_l1_cut n),(.loop 20,flaw_GarageOut_l2_cut n)]
theorem Ww (n:Nat) (x:C.Ds Ty (Ai H1)):(A1 Tryz.prog 176 (An Tryz.prog (flaw_GarageOut_T n) []) (Ah (flaw_GarageOut_C n)) (Ap Tryz.f4) (A0 H1 x)).runK (Aw Tryz.prog Tryz.f4.results.toList 0 K8)=Pr n x:=by kernel_rfl
theorem SJ (n:Nat):Av Tryz.prog 4 (flaw_GarageOut_law n):=BI (Ax Tryz.func4 rfl rfl (by decide) rfl Aa Ab (Ac Aa Ab (IH n) Ak) (Ae (fn:=Tryz.f4) (L:=flaw_GarageOut_C n) (ks:=[.loop 15,.loop 20]) ⟨SG n,⟨SI n,trivial⟩⟩ (by kernel_rfl) (by kernel_rfl)) (Ww n))
def Ca:List (Nat×C):=[(0,.l 9),(1,.s 9),(5,.u 35),(6,.l 37),(8,.l 3),(10,.o 3),(11,.s 3),(13,.l 3),(15,.l 3),(17,.s 4),(18,.s 3),(19,.u 65),(20,.s 4),(21,.s 3)]
def Gt:List Wo:=[⟨.exit 4,[.u 35,.u 65],[(0,.l 9),(1,.s 9),(5,.q 0),(6,.l 37),(8,.l 3),(10,.o 3),(11,.s 3),(13,.l 3),(15,.l 3),(17,.s 4),(18,.s 3)],[]⟩]
def Cb:List (Nat×C):=[(0,.l 9),(1,.s 9),(5,.u 35),(6,.l 37),(8,.l 3),(10,.o 3),(11,.s 3),(13,.l 3),(15,.l 3),(17,.s 4),(18,.s 3)]
def Gu:List Wo:=[⟨.exit 2,[.u 35],[(0,.l 9),(1,.s 9),(5,.q 0),(6,.l 37),(8,.l 3),(10,.o 3),(11,.s 3),(15,.l 3),(17,.s 4)],[]⟩]
def Cc:List (Nat×C):=[(0,.l 9),(1,.s 9),(5,.u 35),(6,.l 37),(8,.l 3),(10,.o 3),(11,.s 3)]
def Gv:List Wo:=[⟨.exit 0,[.u 35],[(0,.l 9),(1,.s 9),(8,.l 3),(10,.o 3)],[]⟩,⟨.ret,[.u 35],[(4,.s 4)],[]⟩]
def FM:List (Nat×C):=[(0,.l 9),(1,.s 9)]
def II:List Wo:=[⟨.ret,[],[],[.s 4]⟩]
def B2:Nat→(List ByteArray)→ByteArray→Ao→(List Int)→(List Int)→(List Int)→Int→(List Int)→(List Int)→Bool→Int→Ay→Bool→Int→Option ((Ao×Ay×List ByteArray×ByteArray×Unit×List Int×List Int×List Int×Int×List Int×List Int×Bool×Int×Unit))
  | 0,_,_,_,_,_,_,_,_,_,_,_,_,_,_=>none
  | n+1,lines,more,s,errors,late,want,i,l,open_,behind,k,c,is,n_ =>
    bif decide (n_<(↑open_.length:Int)) then(bif is then((AC errors k).bind fun v0 =>
    bif decide (v0=0) then(bif !behind then((AC l 0).bind fun v1 =>
    bif decide (c.bus=v1) then((AC open_ n_).bind fun v2 =>
    B2 n lines more s errors late want i l open_ (decide (c.number=v2)) k c is (IntKind.i64.wrap (n_+1))) else
    B2 n lines more s errors late want i l open_ false k c is (IntKind.i64.wrap (n_+1))) else
    B2 n lines more s errors late want i l open_ true k c is (IntKind.i64.wrap (n_+1))) else
    some (s,(c,(lines,(more,((),(errors,(late,(want,(i,(l,(open_,(behind,(k,())))))))))))))) else
    some (s,(c,(lines,(more,((),(errors,(late,(want,(i,(l,(open_,(behind,(k,())))))))))))))) else
    some (s,(c,(lines,(more,((),(errors,(late,(want,(i,(l,(open_,(behind,(k,())))))))))))))
def DL (n:Nat) (y:C.Ds Ty (Ai Ca)):Option (YT Ty Gt):=B2 n y.1 y.2.1 y.2.2.1 y.2.2.2.1 y.2.2.2.2.1 y.2.2.2.2.2.1 y.2.2.2.2.2.2.1 y.2.2.2.2.2.2.2.1 y.2.2.2.2.2.2.2.2.1 y.2.2.2.2.2.2.2.2.2.1 y.2.2.2.2.2.2.2.2.2.2.1 y.2.2.2.2.2.2.2.2.2.2.2.1 y.2.2.2.2.2.2.2.2.2.2.2.2.1 y.2.2.2.2.2.2.2.2.2.2.2.2.2.1
noncomputable def flaw_GarageLater_l3_cut (n:Nat):St Ty→Tr (Lf Ty):=C3 Ca 2 Gt (DL n)
def CX:Nat→(List ByteArray)→ByteArray→Ao→(List Int)→(List Int)→(List Int)→Int→(List Int)→(List Int)→Bool→Int→Option ((Ao×List ByteArray×ByteArray×Unit×List Int×List Int×List Int×Int×List Int×Bool×Unit))
  | 0,_,_,_,_,_,_,_,_,_,_,_=>none
  | n+1,lines,more,s,errors,late,want,i,l,open_,behind,k =>
    bif decide (k<(↑lines.length:Int)) then((AC lines k).bind fun v0 =>
    (Pk n v0).bind fun v1 =>
    (B2 n lines more s errors late want i l open_ behind k v1.fst v1.snd.fst 0).bind fun v2 =>
    CX n v2.snd.snd.fst v2.snd.snd.snd.fst v2.fst v2.snd.snd.snd.snd.snd.fst v2.snd.snd.snd.snd.snd.snd.fst v2.snd.snd.snd.snd.snd.snd.snd.fst v2.snd.snd.snd.snd.snd.snd.snd.snd.fst v2.snd.snd.snd.snd.snd.snd.snd.snd.snd.fst v2.snd.snd.snd.snd.snd.snd.snd.snd.snd.snd.fst v2.snd.snd.snd.snd.snd.snd.snd.snd.snd.snd.snd.fst (IntKind.i64.wrap (v2.snd.snd.snd.snd.snd.snd.snd.snd.snd.snd.snd.snd.fst+1))) else
    some (s,(lines,(more,((),(errors,(late,(want,(i,(open_,(behind,()))))))))))
def DM (n:Nat) (y:C.Ds Ty (Ai Cb)):Option (YT Ty Gu):=CX n y.1 y.2.1 y.2.2.1 y.2.2.2.1 y.2.2.2.2.1 y.2.2.2.2.2.1 y.2.2.2.2.2.2.1 y.2.2.2.2.2.2.2.1 y.2.2.2.2.2.2.2.2.1 y.2.2.2.2.2.2.2.2.2.1 y.2.2.2.2.2.2.2.2.2.2.1
noncomputable def flaw_GarageLater_l2_cut (n:Nat):St Ty→Tr (Lf Ty):=C3 Cb 1 Gu (DM n)
def AW:Nat→(List ByteArray)→ByteArray→Ao→(List Int)→(List Int)→(List Int)→Int→Option ((Ao×List ByteArray×ByteArray×List Int×List Int×Unit) ⊕ ((Ao×Bool×Unit)))
  | 0,_,_,_,_,_,_,_=>none
  | n+1,lines,more,s,errors,late,want,i =>
    bif decide (i<(↑lines.length:Int)) then((AC lines i).bind fun v0 =>
    (FL n v0).bind fun v1 =>
    bif !!v1.snd.snd.fst then(bif !!v1.fst.beq (B [111,117,116]) then((AC errors i).bind fun v2 =>
    bif v2 != 0 then(AW n lines more s errors late want (IntKind.i64.wrap (i+1))) else
    (app [] s.cards).bind fun v3 =>
    (AC v1.snd.fst 0).bind fun v4 =>
    (AC v1.snd.fst 1).bind fun v5 =>
    (DX n v3 v4 v5).bind fun v6 =>
    bif v6.snd.fst != 0 then(some (.inr (s,(false,())))) else
    (CX n lines more s errors late want i v1.snd.fst v6.fst false (IntKind.i64.wrap (i+1))).bind fun v7 =>
    bif !decide (v7.snd.snd.snd.snd.snd.snd.snd.snd.snd.fst=decide ((↑v7.snd.snd.snd.snd.snd.snd.snd.snd.fst.length:Int)>0)) then(some (.inr (v7.fst,(false,())))) else
    bif v7.snd.snd.snd.snd.snd.snd.snd.snd.snd.fst then((app v7.snd.snd.snd.snd.snd.snd.fst [v7.snd.snd.snd.snd.snd.snd.snd.fst]).bind fun v8 =>
    AW n v7.snd.fst v7.snd.snd.fst v7.fst v7.snd.snd.snd.snd.fst v7.snd.snd.snd.snd.snd.fst v8 (IntKind.i64.wrap (v7.snd.snd.snd.snd.snd.snd.snd.fst+1))) else
    AW n v7.snd.fst v7.snd.snd.fst v7.fst v7.snd.snd.snd.snd.fst v7.snd.snd.snd.snd.snd.fst v7.snd.snd.snd.snd.snd.snd.fst (IntKind.i64.wrap (v7.snd.snd.snd.snd.snd.snd.snd.fst+1))) else
    AW n lines more s errors late want (IntKind.i64.wrap (i+1))) else
    AW n lines more s errors late want (IntKind.i64.wrap (i+1))) else
    some (.inl (s,(lines,(more,(late,(want,()))))))
def DN (n:Nat) (y:C.Ds Ty (Ai Cc)):Option (YT Ty Gv):=AW n y.1 y.2.1 y.2.2.1 y.2.2.2.1 y.2.2.2.2.1 y.2.2.2.2.2.1 y.2.2.2.2.2.2.1
noncomputable def flaw_GarageLater_l1_cut (n:Nat):St Ty→Tr (Lf Ty):=C3 Cc 1 Gv (DN n)
def H3 (n:Nat) (lines:List ByteArray) (more:ByteArray):Option ((Bool×Unit)) :=
    (IE n lines).bind fun v0 =>
    bif !!v0.fst then(bif !decide ((↑lines.length:Int)>49) then(bif decide ((↑more.size:Int)>200) then((A5 n).bind fun v1 =>
    some (v1.fst,())) else
    (Ch n lines).bind fun v1 =>
    (Cu n v1.fst).bind fun v2 =>
    (Ch n lines).bind fun v3 =>
    (Ep n v3.fst).bind fun v4 =>
    bif !v2.snd.snd.fst != 0 then(bif !v4.snd.fst != 0 then(bif (↑v2.snd.fst.length:Int) != (↑lines.length:Int) then(some (false,())) else
    (AW n lines more v2.fst v2.snd.fst v4.fst [] 0).bind fun v5 =>
    Sum.elim (fun v6=>(Dt n v6.snd.snd.snd.fst v6.snd.snd.snd.snd.fst).bind fun v7 =>
    bif !v7.fst then(some (false,())) else
    (FL n v6.snd.snd.fst).bind fun v8 =>
    (Pk n v6.snd.snd.fst).bind fun v9 =>
    bif !v9.snd.fst then(bif v8.snd.snd.fst then(bif v8.fst.beq (B [111,117,116]) then((A5 n).bind fun v10 =>
    some (v10.fst,())) else
    (Ch n v6.snd.fst).bind fun v10 =>
    (app v10.fst [v6.snd.snd.fst]).bind fun v11 =>
    (Ep n v11).bind fun v12 =>
    bif decide (v12.snd.fst=0) then((Dt n v12.fst v6.snd.snd.snd.fst).bind fun v13 =>
    bif v13.fst then((A5 n).bind fun v14 =>
    some (v14.fst,())) else
    some (false,())) else
    some (false,())) else
    (Ch n v6.snd.fst).bind fun v10 =>
    (app v10.fst [v6.snd.snd.fst]).bind fun v11 =>
    (Ep n v11).bind fun v12 =>
    bif decide (v12.snd.fst=0) then((Dt n v12.fst v6.snd.snd.snd.fst).bind fun v13 =>
    bif v13.fst then((A5 n).bind fun v14 =>
    some (v14.fst,())) else
    some (false,())) else
    some (false,())) else
    (A5 n).bind fun v10 =>
    some (v10.fst,())) (fun v6=>some (v6.snd.fst,())) (v5)) else
    some (false,())) else
    some (false,())) else
    (A5 n).bind fun v1 =>
    some (v1.fst,())) else
    (A5 n).bind fun v1 =>
    some (v1.fst,())
def ML (n:Nat) (y:C.Ds Ty (Ai FM)):Option (YT Ty II):=H3 n y.1 y.2.1
noncomputable def flaw_GarageLater_law (n:Nat):AH Ty:=HY (AI FM 0 II (ML n))
noncomputable def flaw_GarageLater_T (n:Nat):List (Nat×AH Ty):=[(27,flaw_ready_law n),(20,flaw_wakes_law n),(22,flaw_list_law n),(21,fgarage_Play_law n),(31,fgarage_Late_law n),(28,fref_Parse_law n),(29,fpit_Open_law n),(30,fref_Card_law n),(32,flaw_ints_law n)]
theorem Es (n:Nat):Au Tryz.prog (flaw_GarageLater_T n):=⟨Hu n,⟨Hz n,⟨Iu n,⟨D7 n,⟨MJ n,⟨Fo n,⟨Iq n,⟨ZH n,⟨Ld n,trivial⟩⟩⟩⟩⟩⟩⟩⟩⟩
noncomputable def flaw_GarageLater_l3_C (n:Nat):A7 Ty:=[]
theorem Q4 (n:Nat) (x:C.Ds Ty (Ai Ca)):(A1 Tryz.prog 216 (An Tryz.prog (flaw_GarageLater_T n) []) (Ah (flaw_GarageLater_l3_C n)) (Ar 22 Tryz.f6) (A0 Ca x)).runK (AJ 2 Ca Gt (DL n))=DL (n+1) x:=by kernel_rfl
theorem Q5 (n:Nat):AF true Tryz.prog 216 (flaw_GarageLater_l3_cut n) (.loop (Ar 22 Tryz.f6)):=AM fun x y hy=>A6 (Fn:=DL) Aa Ab (fun n=>Ac Aa Ab (Es n) Ak) (fun h=>by cases h) (fun h=>by cases h) (fun n=>(Ae (fn:=Tryz.f6) (L:=flaw_GarageLater_l3_C n) (ks:=[]) trivial (by kernel_rfl) (by kernel_rfl))) (by decide) (fun _=>rfl) Q4 hy
noncomputable def flaw_GarageLater_l2_C (n:Nat):A7 Ty:=[(.loop 22,flaw_GarageLater_l3_cut n)]
theorem Q6 (n:Nat) (x:C.Ds Ty (Ai Cb)):(A1 Tryz.prog 216 (An Tryz.prog (flaw_GarageLater_T n) []) (Ah (flaw_GarageLater_l2_C n)) (Ar 18 Tryz.f6) (A0 Cb x)).runK (AJ 1 Cb Gu (DM n))=DM (n+1) x:=by kernel_rfl
theorem Q7 (n:Nat):AF true Tryz.prog 216 (flaw_GarageLater_l2_cut n) (.loop (Ar 18 Tryz.f6)):=AM fun x y hy=>A6 (Fn:=DM) Aa Ab (fun n=>Ac Aa Ab (Es n) Ak) (fun h=>by cases h) (fun h=>by cases h) (fun n=>(Ae (fn:=Tryz.f6) (L:=flaw_GarageLater_l2_C n) (ks:=[.loop 22]) ⟨Q5 n,trivial⟩ (by kernel_rfl) (by kernel_rfl))) (by decide) (fun _=>rfl) Q6 hy
noncomputable def flaw_GarageLater_l1_C (n:Nat):A7 Ty:=[(.loop 18,flaw_GarageLater_l2_cut n)]
theorem Q8 (n:Nat) (x:C.Ds Ty (Ai Cc)):(A1 Tryz.prog 216 (An Tryz.prog (flaw_GarageLater_T n) []) (Ah (flaw_GarageLater_l1_C n)) (Ar 9 Tryz.f6) (A0 Cc x)).runK (AJ 1 Cc Gv (DN n))=DN (n+1) x:=by kernel_rfl
theorem Q9 (n:Nat):AF true Tryz.prog 216 (flaw_GarageLater_l1_cut n) (.loop (Ar 9 Tryz.f6)):=AM fun x y hy=>A6 (Fn:=DN) Aa Ab (fun n=>Ac Aa Ab (Es n) Ak) (fun h=>by cases h) (fun h=>by cases h) (fun n=>(Ae (fn:=Tryz.f6) (L:=flaw_GarageLater_l1_C n) (ks:=[.loop 18]) ⟨Q7 n,trivial⟩ (by kernel_rfl) (by kernel_rfl))) (by decide) (fun _=>rfl) Q8 hy
noncomputable def flaw_GarageLater_C (n:Nat):A7 Ty:=[(.loop 9,flaw_GarageLater_l1_cut n)]
theorem T8 (n:Nat) (x:C.Ds Ty (Ai FM)):(A1 Tryz.prog 216 (An Tryz.prog (flaw_GarageLater_T n) []) (Ah (flaw_GarageLater_C n)) (Ap Tryz.f6) (A0 FM x)).runK (Aw Tryz.prog Tryz.f6.results.toList 0 II)=ML n x:=by kernel_rfl
theorem QA (n:Nat):Av Tryz.prog 6 (flaw_GarageLater_law n):=BI (Ax Tryz.func6 rfl rfl (by decide) rfl Aa Ab (Ac Aa Ab (Es n) Ak) (Ae (fn:=Tryz.f6) (L:=flaw_GarageLater_C n) (ks:=[.loop 9]) ⟨Q9 n,trivial⟩ (by kernel_rfl) (by kernel_rfl)) (T8 n))
def FN:List (Nat×C):=[(0,.l 9),(1,.s 5)]
def IJ:List Wo:=[⟨.ret,[],[],[.s 4]⟩]
def H4 (n:Nat) (lines:List ByteArray) (at_:IK .u8):Option ((Bool×Unit)) :=
    (IE n lines).bind fun v0 =>
    bif !!v0.fst then(bif decide ((↑lines.length:Int)=0) then((A5 n).bind fun v1 =>
    some (v1.fst,())) else
    (Alj (IntKind.i64.wrap at_.n) (↑lines.length:Int)).bind fun v1 =>
    (GP lines 0 v1).bind fun v2 =>
    (Ch n v2).bind fun v3 =>
    (Cu n v3.fst).bind fun v4 =>
    (GP lines 0 (IntKind.i64.wrap (v1+1))).bind fun v5 =>
    (Ch n v5).bind fun v6 =>
    (Cu n v6.fst).bind fun v7 =>
    bif !v4.snd.snd.fst != 0 then(bif !v7.snd.snd.fst != 0 then(bif !(↑v7.snd.fst.length:Int) != IntKind.i64.wrap (v1+1) then((app [] v7.fst.roster).bind fun v8 =>
    (B1 n v7.fst.week v8 0).bind fun v9 =>
    bif !!v9.fst then(bif (↑v7.fst.roster.length:Int) != (↑v7.fst.week.duties.length:Int) then(some (false,())) else
    (AC lines v1).bind fun v10 =>
    (FL n v10).bind fun v11 =>
    bif !!v11.snd.snd.fst then(bif !v11.fst.beq (B [103,105,118,101]) then((AC v7.snd.fst v1).bind fun v12 =>
    bif v12 != 10 then((A5 n).bind fun v13 =>
    some (v13.fst,())) else
    some (false,())) else
    (AC v11.snd.fst 0).bind fun v12 =>
    bif !decide (v12<0) then((AC v11.snd.fst 0).bind fun v13 =>
    bif !decide (v13≥(↑v4.fst.roster.length:Int)) then((AC v11.snd.fst 1).bind fun v14 =>
    bif !decide (v14 < -1) then((AC v11.snd.fst 1).bind fun v15 =>
    bif decide (v15≥(↑v4.fst.week.drivers.length:Int)) then((AC v7.snd.fst v1).bind fun v16 =>
    bif decide (v16=2) then((A5 n).bind fun v17 =>
    some (v17.fst,())) else
    some (false,())) else
    (app [] v4.fst.roster).bind fun v16 =>
    (AC v11.snd.fst 0).bind fun v17 =>
    (AC v11.snd.fst 1).bind fun v18 =>
    (AC v16 v17).bind fun v19 =>
    (v16.get?Internal v17.toNat).bind fun v20 =>
    (app [] (v16.set v17.toNat v18)).bind fun v21 =>
    (B1 n v4.fst.week v21 0).bind fun v22 =>
    (AC v7.snd.fst v1).bind fun v23 =>
    bif !!decide (v22.fst=decide (v23=0)) then(bif !v22.fst then((AC v7.snd.fst v1).bind fun v24 =>
    bif !v24 != 10 then((AC v11.snd.fst 1).bind fun v25 =>
    bif decide (v25=-1) then(bif !v22.fst then(some (false,())) else
    bif !!v22.fst then((Dt n v7.fst.roster (v16.set v17.toNat v18)).bind fun v26 =>
    bif v26.fst then((A5 n).bind fun v27 =>
    some (v27.fst,())) else
    some (false,())) else
    (A5 n).bind fun v26 =>
    some (v26.fst,())) else
    bif !!v22.fst then((Dt n v7.fst.roster (v16.set v17.toNat v18)).bind fun v26 =>
    bif v26.fst then((A5 n).bind fun v27 =>
    some (v27.fst,())) else
    some (false,())) else
    (A5 n).bind fun v26 =>
    some (v26.fst,())) else
    some (false,())) else
    (AC v11.snd.fst 1).bind fun v24 =>
    bif decide (v24=-1) then(bif !v22.fst then(some (false,())) else
    bif !!v22.fst then((Dt n v7.fst.roster (v16.set v17.toNat v18)).bind fun v25 =>
    bif v25.fst then((A5 n).bind fun v26 =>
    some (v26.fst,())) else
    some (false,())) else
    (A5 n).bind fun v25 =>
    some (v25.fst,())) else
    bif !!v22.fst then((Dt n v7.fst.roster (v16.set v17.toNat v18)).bind fun v25 =>
    bif v25.fst then((A5 n).bind fun v26 =>
    some (v26.fst,())) else
    some (false,())) else
    (A5 n).bind fun v25 =>
    some (v25.fst,())) else
    some (false,())) else
    (AC v7.snd.fst v1).bind fun v15 =>
    bif decide (v15=2) then((A5 n).bind fun v16 =>
    some (v16.fst,())) else
    some (false,())) else
    (AC v7.snd.fst v1).bind fun v14 =>
    bif decide (v14=2) then((A5 n).bind fun v15 =>
    some (v15.fst,())) else
    some (false,())) else
    (AC v7.snd.fst v1).bind fun v13 =>
    bif decide (v13=2) then((A5 n).bind fun v14 =>
    some (v14.fst,())) else
    some (false,())) else
    (AC v7.snd.fst v1).bind fun v12 =>
    bif v12 != 10 then((A5 n).bind fun v13 =>
    some (v13.fst,())) else
    some (false,())) else
    some (false,())) else
    some (false,())) else
    some (false,())) else
    some (false,())) else
    (A5 n).bind fun v1 =>
    some (v1.fst,())
def MM (n:Nat) (y:C.Ds Ty (Ai FN)):Option (YT Ty IJ):=H4 n y.1 y.2.1
noncomputable def flaw_GarageLegal_law (n:Nat):AH Ty:=HY (AI FN 0 IJ (MM n))
noncomputable def flaw_GarageLegal_T (n:Nat):List (Nat×AH Ty):=[(27,flaw_ready_law n),(20,flaw_wakes_law n),(22,flaw_list_law n),(21,fgarage_Play_law n),(33,froster_ProveRoster_law n),(28,fref_Parse_law n),(32,flaw_ints_law n)]
theorem SK (n:Nat):Au Tryz.prog (flaw_GarageLegal_T n):=⟨Hu n,⟨Hz n,⟨Iu n,⟨D7 n,⟨H9 n,⟨Fo n,⟨Ld n,trivial⟩⟩⟩⟩⟩⟩⟩
noncomputable def flaw_GarageLegal_C (n:Nat):A7 Ty:=[]
theorem T9 (n:Nat) (x:C.Ds Ty (Ai FN)):(A1 Tryz.prog 200 (An Tryz.prog (flaw_GarageLegal_T n) []) (Ah (flaw_GarageLegal_C n)) (Ap Tryz.f7) (A0 FN x)).runK (Aw Tryz.prog Tryz.f7.results.toList 0 IJ)=MM n x:=by kernel_rfl
theorem QB (n:Nat):Av Tryz.prog 7 (flaw_GarageLegal_law n):=BI (Ax Tryz.func7 rfl rfl (by decide) rfl Aa Ab (Ac Aa Ab (SK n) Ak) (Ae (fn:=Tryz.f7) (L:=flaw_GarageLegal_C n) (ks:=[]) trivial (by kernel_rfl) (by kernel_rfl)) (T9 n))
def Cd:List (Nat×C):=[(0,.l 9),(3,.u 35),(4,.l 37),(6,.s 3),(7,.s 3)]
def Gw:List Wo:=[⟨.exit 0,[.u 35],[(0,.l 9),(3,.q 0),(6,.s 3)],[]⟩]
def Ce:List (Nat×C):=[(0,.l 9),(3,.u 35),(6,.s 3),(11,.s 3),(12,.s 3),(13,.s 4),(14,.s 3)]
def Gx:List Wo:=[⟨.exit 4,[.u 35],[(0,.l 9),(3,.q 0),(6,.s 3),(11,.s 3),(12,.s 3),(13,.s 4)],[]⟩]
def Cf:List (Nat×C):=[(0,.l 9),(3,.u 35),(6,.s 3),(11,.s 3),(12,.s 3)]
def Gy:List Wo:=[⟨.exit 2,[.u 35],[(6,.s 3),(11,.s 3)],[]⟩,⟨.ret,[.u 35],[(2,.s 4)],[]⟩]
def FO:List (Nat×C):=[(0,.l 9)]
def IL:List Wo:=[⟨.ret,[],[],[.s 4]⟩]
def Bm:Nat→(List ByteArray)→Ao→(List Int)→Int→Int→Option ((Ao×List ByteArray×Unit×Int×Unit))
  | 0,_,_,_,_,_=>none
  | n+1,lines,s,errors,told,i =>
    bif decide (i<(↑lines.length:Int)) then((AC lines i).bind fun v0 =>
    (FL n v0).bind fun v1 =>
    bif v1.snd.snd.fst then(bif v1.fst.beq (B [105,110]) then((AC errors i).bind fun v2 =>
    bif decide (v2=0) then((AC v1.snd.fst 2).bind fun v3 =>
    Bm n lines s errors (IntKind.i64.wrap (told+v3)) (IntKind.i64.wrap (i+1))) else
    Bm n lines s errors told (IntKind.i64.wrap (i+1))) else
    Bm n lines s errors told (IntKind.i64.wrap (i+1))) else
    Bm n lines s errors told (IntKind.i64.wrap (i+1))) else
    some (s,(lines,((),(told,()))))
def DO (n:Nat) (y:C.Ds Ty (Ai Cd)):Option (YT Ty Gw):=Bm n y.1 y.2.1 y.2.2.1 y.2.2.2.1 y.2.2.2.2.1
noncomputable def flaw_GarageMiles_l1_cut (n:Nat):St Ty→Tr (Lf Ty):=C3 Cd 1 Gw (DO n)
def BT:Nat→(List ByteArray)→Ao→Int→Int→Int→Bool→Int→Option ((Ao×List ByteArray×Unit×Int×Int×Int×Bool×Unit))
  | 0,_,_,_,_,_,_,_=>none
  | n+1,lines,s,told,all,bus,ran,i =>
    bif decide (i<(↑s.runs.length:Int)) then(bif !ran then((AC s.runs i).bind fun v0 =>
    BT n lines s told all bus (decide (v0.bus=bus)) (IntKind.i64.wrap (i+1))) else
    BT n lines s told all bus true (IntKind.i64.wrap (i+1))) else
    some (s,(lines,((),(told,(all,(bus,(ran,())))))))
def DP (n:Nat) (y:C.Ds Ty (Ai Ce)):Option (YT Ty Gx):=BT n y.1 y.2.1 y.2.2.1 y.2.2.2.1 y.2.2.2.2.1 y.2.2.2.2.2.1 y.2.2.2.2.2.2.1
noncomputable def flaw_GarageMiles_l3_cut (n:Nat):St Ty→Tr (Lf Ty):=C3 Ce 1 Gx (DP n)
def AX:Nat→(List ByteArray)→Ao→Int→Int→Int→Option ((Ao×Int×Int×Unit) ⊕ ((Ao×Bool×Unit)))
  | 0,_,_,_,_,_=>none
  | n+1,lines,s,told,all,bus =>
    bif decide (bus≤99) then((BT n lines s told all bus false 0).bind fun v0 =>
    bif decide (v0.snd.snd.snd.snd.snd.fst>12) then(bif !v0.snd.snd.snd.snd.snd.snd.fst then(AX n v0.snd.fst v0.fst v0.snd.snd.snd.fst v0.snd.snd.snd.snd.fst (IntKind.i64.wrap (v0.snd.snd.snd.snd.snd.fst+1))) else
    (Ch n v0.snd.fst).bind fun v1 =>
    (Ik n v1.fst v0.snd.snd.snd.snd.snd.fst).bind fun v2 =>
    bif !!decide (v0.snd.snd.snd.snd.snd.snd.fst=decide (v2.snd.fst=0)) then(bif v2.snd.fst != 0 then(bif !v2.snd.fst != 7 then(bif v2.fst != 0 then(some (.inr (v0.fst,(false,())))) else
    AX n v0.snd.fst v0.fst v0.snd.snd.snd.fst (IntKind.i64.wrap (v0.snd.snd.snd.snd.fst+v2.fst)) (IntKind.i64.wrap (v0.snd.snd.snd.snd.snd.fst+1))) else
    some (.inr (v0.fst,(false,())))) else
    AX n v0.snd.fst v0.fst v0.snd.snd.snd.fst (IntKind.i64.wrap (v0.snd.snd.snd.snd.fst+v2.fst)) (IntKind.i64.wrap (v0.snd.snd.snd.snd.snd.fst+1))) else
    some (.inr (v0.fst,(false,())))) else
    (Ch n v0.snd.fst).bind fun v1 =>
    (Ik n v1.fst v0.snd.snd.snd.snd.snd.fst).bind fun v2 =>
    bif !!decide (v0.snd.snd.snd.snd.snd.snd.fst=decide (v2.snd.fst=0)) then(bif v2.snd.fst != 0 then(bif !v2.snd.fst != 7 then(bif v2.fst != 0 then(some (.inr (v0.fst,(false,())))) else
    AX n v0.snd.fst v0.fst v0.snd.snd.snd.fst (IntKind.i64.wrap (v0.snd.snd.snd.snd.fst+v2.fst)) (IntKind.i64.wrap (v0.snd.snd.snd.snd.snd.fst+1))) else
    some (.inr (v0.fst,(false,())))) else
    AX n v0.snd.fst v0.fst v0.snd.snd.snd.fst (IntKind.i64.wrap (v0.snd.snd.snd.snd.fst+v2.fst)) (IntKind.i64.wrap (v0.snd.snd.snd.snd.snd.fst+1))) else
    some (.inr (v0.fst,(false,())))) else
    some (.inl (s,(told,(all,()))))
def DQ (n:Nat) (y:C.Ds Ty (Ai Cf)):Option (YT Ty Gy):=AX n y.1 y.2.1 y.2.2.1 y.2.2.2.1 y.2.2.2.2.1
noncomputable def flaw_GarageMiles_l2_cut (n:Nat):St Ty→Tr (Lf Ty):=C3 Cf 1 Gy (DQ n)
def H5 (n:Nat) (lines:List ByteArray):Option ((Bool×Unit)) :=
    (IE n lines).bind fun v0 =>
    bif !v0.fst then((A5 n).bind fun v1 =>
    some (v1.fst,())) else
    (Ch n lines).bind fun v1 =>
    (Cu n v1.fst).bind fun v2 =>
    bif !v2.snd.snd.fst != 0 then(bif (↑v2.snd.fst.length:Int) != (↑lines.length:Int) then(some (false,())) else
    (Bm n lines v2.fst v2.snd.fst 0 0).bind fun v3 =>
    (AX n v3.snd.fst v3.fst v3.snd.snd.snd.fst 0 0).bind fun v4 =>
    Sum.elim (fun v5=>bif decide (v5.snd.snd.fst=v5.snd.fst) then((A5 n).bind fun v6 =>
    some (v6.fst,())) else
    some (false,())) (fun v5=>some (v5.snd.fst,())) (v4)) else
    some (false,())
def MN (n:Nat) (y:C.Ds Ty (Ai FO)):Option (YT Ty IL):=H5 n y.1
noncomputable def flaw_GarageMiles_law (n:Nat):AH Ty:=HY (AI FO 0 IL (MN n))
noncomputable def flaw_GarageMiles_T (n:Nat):List (Nat×AH Ty):=[(27,flaw_ready_law n),(20,flaw_wakes_law n),(22,flaw_list_law n),(21,fgarage_Play_law n),(28,fref_Parse_law n),(34,fgarage_Miles_law n)]
theorem Et (n:Nat):Au Tryz.prog (flaw_GarageMiles_T n):=⟨Hu n,⟨Hz n,⟨Iu n,⟨D7 n,⟨Fo n,⟨T6 n,trivial⟩⟩⟩⟩⟩⟩
noncomputable def flaw_GarageMiles_l1_C (n:Nat):A7 Ty:=[]
theorem QC (n:Nat) (x:C.Ds Ty (Ai Cd)):(A1 Tryz.prog 129 (An Tryz.prog (flaw_GarageMiles_T n) []) (Ah (flaw_GarageMiles_l1_C n)) (Ar 8 Tryz.f9) (A0 Cd x)).runK (AJ 1 Cd Gw (DO n))=DO (n+1) x:=by kernel_rfl
theorem QD (n:Nat):AF true Tryz.prog 129 (flaw_GarageMiles_l1_cut n) (.loop (Ar 8 Tryz.f9)):=AM fun x y hy=>A6 (Fn:=DO) Aa Ab (fun n=>Ac Aa Ab (Et n) Ak) (fun h=>by cases h) (fun h=>by cases h) (fun n=>(Ae (fn:=Tryz.f9) (L:=flaw_GarageMiles_l1_C n) (ks:=[]) trivial (by kernel_rfl) (by kernel_rfl))) (by decide) (fun _=>rfl) QC hy
noncomputable def flaw_GarageMiles_l3_C (n:Nat):A7 Ty:=[]
theorem QE (n:Nat) (x:C.Ds Ty (Ai Ce)):(A1 Tryz.prog 129 (An Tryz.prog (flaw_GarageMiles_T n) []) (Ah (flaw_GarageMiles_l3_C n)) (Ar 19 Tryz.f9) (A0 Ce x)).runK (AJ 1 Ce Gx (DP n))=DP (n+1) x:=by kernel_rfl
theorem QF (n:Nat):AF true Tryz.prog 129 (flaw_GarageMiles_l3_cut n) (.loop (Ar 19 Tryz.f9)):=AM fun x y hy=>A6 (Fn:=DP) Aa Ab (fun n=>Ac Aa Ab (Et n) Ak) (fun h=>by cases h) (fun h=>by cases h) (fun n=>(Ae (fn:=Tryz.f9) (L:=flaw_GarageMiles_l3_C n) (ks:=[]) trivial (by kernel_rfl) (by kernel_rfl))) (by decide) (fun _=>rfl) QE hy
noncomputable def flaw_GarageMiles_l2_C (n:Nat):A7 Ty:=[(.loop 19,flaw_GarageMiles_l3_cut n)]
theorem QG (n:Nat) (x:C.Ds Ty (Ai Cf)):(A1 Tryz.prog 129 (An Tryz.prog (flaw_GarageMiles_T n) []) (Ah (flaw_GarageMiles_l2_C n)) (Ar 15 Tryz.f9) (A0 Cf x)).runK (AJ 1 Cf Gy (DQ n))=DQ (n+1) x:=by kernel_rfl
theorem QH (n:Nat):AF true Tryz.prog 129 (flaw_GarageMiles_l2_cut n) (.loop (Ar 15 Tryz.f9)):=AM fun x y hy=>A6 (Fn:=DQ) Aa Ab (fun n=>Ac Aa Ab (Et n) Ak) (fun h=>by cases h) (fun h=>by cases h) (fun n=>(Ae (fn:=Tryz.f9) (L:=flaw_GarageMiles_l2_C n) (ks:=[.loop 19]) ⟨QF n,trivial⟩ (by kernel_rfl) (by kernel_rfl))) (by decide) (fun _=>rfl) QG hy
noncomputable def flaw_GarageMiles_C (n:Nat):A7 Ty:=[(.loop 8,flaw_GarageMiles_l1_cut n),(.loop 15,flaw_GarageMiles_l2_cut n)]
theorem TA (n:Nat) (x:C.Ds Ty (Ai FO)):(A1 Tryz.prog 129 (An Tryz.prog (flaw_GarageMiles_T n) []) (Ah (flaw_GarageMiles_C n)) (Ap Tryz.f9) (A0 FO x)).runK (Aw Tryz.prog Tryz.f9.results.toList 0 IL)=MN n x:=by kernel_rfl
theorem QI (n:Nat):Av Tryz.prog 9 (flaw_GarageMiles_law n):=BI (Ax Tryz.func9 rfl rfl (by decide) rfl Aa Ab (Ac Aa Ab (Et n) Ak) (Ae (fn:=Tryz.f9) (L:=flaw_GarageMiles_C n) (ks:=[.loop 8,.loop 15]) ⟨QD n,⟨QH n,trivial⟩⟩ (by kernel_rfl) (by kernel_rfl)) (TA n))
end Go.Proofs.YtkpgggfibljflaaGreatDoor
namespace Go.Proofs.YtkpgggfibljflaaGreatDoor
open Go Go.RowKit Go.Proofs
theorem AnY (k:Nat):A5 (k+60)=some (true,()):=by kernel_rfl
end Go.Proofs.YtkpgggfibljflaaGreatDoor
