/- What a proof leans on: a machine that steps through code, and what functions compute. -/
import Derived.Test.YtkpgggfibljflaaGreatDoorGaS17
set_option linter.all false
set_option maxRecDepth 100000
namespace Go.Proofs.YtkpgggfibljflaaGreatDoor
open Go Go.RowKit Go.Proofs
open Rep (rep)
def Hi:Code→Code
  | .seq a _=>a
  | c=>c
theorem Ir:codeOf Tryz.f84=.seq (Hi (codeOf Tryz.f84)) (.seq (Hi (dropC 1 (codeOf Tryz.f84))) (dropC 2 (codeOf Tryz.f84))):=by kernel_rfl
def Bm:List (Nat×C):=[(0,.u 114),(1,.s 9)]
def Ei:List Wo:=[⟨.ret,[.u 114],[],[.s 37]⟩]
def JJ (n:Nat) (g:Session) (text:ByteArray):Option (Session×Int×Unit):=(nextB n g text 0).bind fun y=>match y with
  | .inl a=>some (a.1,a.2.1.1,())
  | .inr a=>some (a.1,a.2.2.2.1.errno,())
def I4 (n:Nat) (y:C.Ds Ty (snds Bm)):Option (YT Ty Ei):=JJ n y.1 y.2.1
noncomputable def nextS_law (n:Nat):Law Ty:=lawC Bm 1 Ei (I4 n)
noncomputable def nextS_st (x:C.Ds Ty (snds Bm)):St Ty:=⟨[(4,.ptr 2000 0),(0,.ptr 0 0),(1,oneOf (UV.view 9 x.2.1))],[(0,.blk (UV.view 114 x.1)),(2000,.blk [.int .i64 0])],2064⟩
theorem JK (x:C.Ds Ty (snds Bm)):(exec Tryz.prog 50 (callT Tryz.prog [] []) (cutsOf []) (Hi (codeOf Tryz.f84)) (embS Bm x)).runK some=some ⟨.normal,nextS_st x⟩:=by kernel_rfl
theorem JL (t:Array Value) (d:List Deferred) (w:World) (Q:Exit→Act→World→Prop) (p:Addr) (ht:t.size=50) (hp:t[4]? = some (.pointer (some p)))
    (hQ:∀ t',t'.size=50→(∀ k,k≠11→t'[k]? = t[k]?)→Q .normal ⟨t',⟨.fn (.func 137) #[.pointer (some p)],#[]⟩::d⟩ w):(Hi (dropC 1 (codeOf Tryz.f84))).wp Tryz.prog Q ⟨t,d⟩ w:=by
  have hc:Hi (dropC 1 (codeOf Tryz.f84))=Code.region 1
      #[{ dst:=some 11,op:=Op.makeFunc (Fn.func 137) #[] #[Operand.tmp 4],type:=1,pos := "garage.go:102",
          after:=#[],guard:=none },
        { dst:=none,op:=Op.defer { callee:=Callee.value (Operand.tmp 11),args:=#[],argTypes:=#[] },
          type:=0,pos := "garage.go:102",after:=#[{ on:=0,ground:=Ground.data }],guard:=none }]
      false:=by kernel_rfl
  rw [hc]
  have hmf:∀ (fn:Fn)(first cap:Array Value)(w:World),(Instr.makeFunc fn first cap).run Tryz.prog w=.ok (.func fn first cap) w:=fun _ _ _ _=>rfl
  have h4:4<t.size:=by omega
  have h11:11<t.size:=by omega
  have he:t.getD 4 Go.undef=.pointer (some p):=by simp [Array.getD_eq_getD_getElem?,hp]
  refine wp_region ?_
  simp [wpOps,go_sem,hmf,Region.wanted,Act.eval,h11]
  rw [hp]
  exact .inl (.inl (hQ _ (by simp [ht]) fun k hk=>by rw [Array.getElem?_setIfInBounds_ne (Ne.symm hk)]))
noncomputable def nextS_m1 (a:Session) (e:Int):Sto Ty:=[(2000,.blk [.int .i64 e]),(0,.blk (UV.view 114 a))]
noncomputable def nextS_lf (k:EK) (a:Session) (e r:Int):Lf Ty:=⟨k.ext [.ifc 234 (.agg [.int .i64 r])],⟨[(4,.ptr 2000 0)],nextS_m1 a e,2064⟩⟩
theorem Jb (Fn:C.Ds Ty (snds nextB_D)→Option (YT Ty nextB_E)) (x:C.Ds Ty (snds Bm)):(cutC nextB_D 2 nextB_E Fn (nextS_st x)).runK some=(Fn (x.1,x.2.1,((0:Int),()),())).bind fun y=>y.elim (fun a=>some (nextS_lf .ret a.1 a.2.1.1 0)) (fun a=>some (nextS_lf .pan a.1 a.2.1.1 a.2.2.2.1.errno)):=by kernel_rfl
theorem Jc {F:Fr} {h:Heap} {g:GE} {t:Array Value} {w:World} {a:Session} {e:Int} (hk:KnV g h ([(4,.ptr 2000 0)]:List (Nat×V Ty)) t) (hm:MemV F h g (AL.get (nextS_m1 a e)) w):∃ us,V.dens g h ([.int .i64 e]:List (V Ty)) us∧(results Tryz.f84 t).run Tryz.prog w=.ok (tupU us) w :=
  results_sound2 (P:=Tryz.prog) (m:=[(4,.ptr 2000 0)]) (s:=nextS_m1 a e) (vs:=[.int .i64 e]) hk hm (by kernel_rfl)
theorem JM (a:Session) (e:Int):typeRs 1 false ([.int .i64 e]:List (V Ty)) ⟨[],nextS_m1 a e,2064⟩ Ei=some (a,e,()):=by kernel_rfl
theorem I5 (a:Session) (e:Int):AL.get (nextS_m1 a e) 2000=some (.blk [.int .i64 e]):=by kernel_rfl
theorem Is (n:Nat) (x:C.Ds Ty (snds Bm)) (y:YT Ty Ei) (hy:I4 n x=some y) (F:Fr) (h:Heap) (g:GE) (t:Array Value) (w:World) (R:Ending→World→Prop) (hs:RS Tryz.f84.ntmps F h g (2*rowB) (embS Bm x).m (embS Bm x).s t w)
    (hfin:∀ (F3:Fr)(h2:Heap)(g2:GE)(w3:World)(st:St Ty)(p:Bool)(rv:List (V Ty))(rus:List Value),st.m=[]→FD F F3 [] []→Heap.le h h2→(∀ i,i<2*rowB→g2 i=g i)→2*rowB≤st.nx→MemV F3 h2 g2 (AL.get st.s) w3→InS st.nx (AL.get st.s)→typeRs 1 p rv st Ei=some y→V.dens g2 h2 rv rus→V.oksB (ltN st.nx) rv=true→R (endOf p (tupU rus)) w3) :
    (codeOf Tryz.f84).wp Tryz.prog (bodyPostM Fence.wide 0 Tryz.prog Tryz.f84 R) ⟨t,[]⟩ w:=by
  have hn:Tryz.f84.ntmps=50:=by kernel_rfl
  rw [hn] at hs
  rw [Ir]
  refine wp_seq ?_
  refine exec_sound (y:=true) (call:=callT Tryz.prog [] []) (cuts:=cutsOf []) prog_noRow prog_mix (callT_ok (T:=[]) (I:=[]) prog_noRow prog_mix trivial trivial) (fun h=>by cases h) (Hi (codeOf Tryz.f84)) (fun h=>by cases h) (fun _ _ _ hf=>by cases hf) (embS Bm x) _ (JK x) F h g t w _ [] hs ?_
  intro F1 d1 h1 g1 t1 w1 q0 q1 q2 q3 q4
  have hnx:(embS Bm x).nx=2*rowB:=rfl
  rw [hnx] at q2
  show Code.wp Tryz.prog _ (bodyPostM Fence.wide 0 Tryz.prog Tryz.f84 R) ⟨t1,d1⟩ w1
  refine wp_seq ?_
  obtain⟨u,hu,hd⟩:=q4.kn 4 (.ptr 2000 0) rfl
  unfold V.den at hd
  subst hd
  refine JL t1 d1 w1 _ ⟨(g1 2000).b,0,none⟩ q4.size hu fun t2 ht2 hk2=>?_
  show Code.wp Tryz.prog (dropC 2 (codeOf Tryz.f84)) (bodyPostM Fence.wide 0 Tryz.prog Tryz.f84 R) _ w1
  have hcut:CutOk true Tryz.prog 50 (cutC nextB_D 2 nextB_E (nextB_F n)) (dropC 2 (codeOf Tryz.f84)):=cut_ok fun x y hy=>nextB_can n hy
  have hk3:KnV g1 h1 (nextS_st x).m t2:=fun k v hv=>by
    obtain⟨u',e1,e2⟩:=q4.kn k v hv
    refine⟨u',?_,e2⟩
    rw [hk2 k ?_]; exact e1
    intro hh
    subst hh
    cases hv
  have hs2:RS 50 F1 h1 g1 (nextS_st x).nx (nextS_st x).m (nextS_st x).s t2 w1:=⟨ht2,hk3,q4.mem,q4.im,q4.is_⟩
  -- what comes behind the body
  have fin:∀ (a:Session)(e:Int),(a,e,())=y→∀ (F3:Fr)(h2:Heap)(g2:GE)(t3:Array Value)(w3:World),FD F F3 [] []→Heap.le h1 h2→(∀ i,i<2064→g2 i=g1 i)→KnV g2 h2 ([(4,.ptr 2000 0)]:List (Nat×V Ty)) t3→MemV F3 h2 g2 (AL.get (nextS_m1 a e)) w3→InS 2064 (AL.get (nextS_m1 a e))→LeavesInM Fence.wide 0 Tryz.prog Tryz.f84 t3 R [] .returning w3:=by
    intro a e hye F3 h2 g2 t3 w3 f1 f2 f3 f4 f5 f6
    obtain⟨us,r1,r2⟩:=Jc f4 f5
    refine⟨tupU us,r2,?_⟩
    have hlt:2*rowB≤2064:=by decide
    exact hfin F3 h2 g2 w3 ⟨[],nextS_m1 a e,2064⟩ false [.int .i64 e] us rfl f1 (Heap.le_trans q1 f2) (fun i hi=>by rw [f3 i (Nat.lt_of_lt_of_le hi hlt),q2 i hi]) hlt f5 f6 ((JM a e).trans (congrArg some hye)) r1 rfl
  obtain⟨bs1,hd1,nd1,hX1⟩:=q0.ds
  rw [List.append_nil] at hd1
  have rest:∀ (a:Session)(e:Int),(a,e,())=y→∀ (F3:Fr)(h2:Heap)(g2:GE)(t3:Array Value)(w3:World),FD F1 F3 [] []→Heap.le h1 h2→(∀ i,i<2064→g2 i=g1 i)→KnV g2 h2 ([(4,.ptr 2000 0)]:List (Nat×V Ty)) t3→MemV F3 h2 g2 (AL.get (nextS_m1 a e)) w3→InS 2064 (AL.get (nextS_m1 a e))→LeavesInM Fence.wide 0 Tryz.prog Tryz.f84 t3 R d1 .returning w3:=by
    intro a e hye F3 h2 g2 t3 w3 f1 f2 f3 f4 f5 f6
    have:=leaves_marks_then (P:=Tryz.prog) (F:=F) (h:=h2) (g:=g2) (M:=AL.get (nextS_m1 a e)) (fn:=Tryz.f84) (t:=t3) (R:=R) (u:=.returning) (rest:=[]) (by simp) (fun F4 w4 k1 k2=>fin a e hye F4 h2 g2 t3 w4 k1 f2 f3 f4 k2 f6) bs1 F3 w3 ⟨by rw [f1.w,q0.w],by rw [f1.h,q0.h],fun b o hb=>f1.X b o (q0.X b o hb),[],rfl,List.nodup_nil,by simp⟩ f5 nd1 fun b hb=>⟨(hX1 b hb).1,f1.X _ _ (hX1 b hb).2⟩
    rw [List.append_nil] at this
    rw [hd1]; exact this
  have hy2:((nextB n x.1 x.2.1 0).bind fun y=>match y with
    | .inl a=>some (a.1,a.2.1.1,())
    | .inr a=>some (a.1,a.2.2.2.1.errno,()))=some y:=hy
  obtain⟨y0,hy0,hy3⟩:=Option.bind_eq_some_iff.1 hy2
  have hrun:=Jb (nextB_F n) x
  have hB:nextB_F n (x.1,x.2.1,((0:Int),()),())=some y0:=hy0
  rw [hB] at hrun
  cases y0 with
  | inl a =>
    have hye:=Option.some.inj hy3
    refine hcut (nextS_st x) _ hrun F1 h1 g1 t2 w1 _ _ hs2 ?_
    intro F2 d2 h2 g2 t3 w2 p0 p1 p2 p3 p4
    show LeavesInM Fence.wide 0 Tryz.prog Tryz.f84 t3 R d2 .returning w2
    obtain⟨bs,hd2,nd,hX⟩:=p0.ds
    rw [hd2]
    refine leaves_marks_then (P:=Tryz.prog) (F:=F1) (h:=h2) (g:=g2) (M:=AL.get (nextS_m1 a.1 a.2.1.1)) (by simp) (fun F4 w4 k1 k2=>?_) bs F2 w2 p0.nil p4.mem nd hX
    refine⟨by simp,.inr ⟨fun hh=>by simp [Fence.wide] at hh,_,_,137,#[.pointer (some ⟨(g1 2000).b,0,none⟩)],rfl,by simp [go_sem],fun _ _=>trivial,?_⟩⟩
    refine(catch_idle _ w4).mono ?_
    rintro e u' w' ⟨rfl,rfl,rfl⟩
    exact rest a.1 a.2.1.1 hye F4 h2 g2 t3 w' k1 p1 (fun i hi=>p2 i hi) p4.kn k2 p4.is_
  | inr a =>
    have hye:=Option.some.inj hy3
    refine hcut (nextS_st x) _ hrun F1 h1 g1 t2 w1 _ _ hs2 ?_
    intro F2 d2 h2 g2 t3 w2 p0 p1 p2 p3 p4
    intro v hv _
    show LeavesInM Fence.wide 0 Tryz.prog Tryz.f84 t3 R d2 (.panicking [{ v:=v,recovered:=false }]) w2
    have hvv:v=.iface 234 (.agg #[.int .i64 a.2.2.2.1.errno]):=by
      have hv:V.den g2 h2 (.ifc 234 (.agg [.int .i64 a.2.2.2.1.errno]):V Ty) v:=hv
      unfold V.den at hv
      obtain⟨z,rfl,hz⟩:=hv
      unfold V.den at hz
      obtain⟨us,rfl,hz⟩:=hz
      unfold V.dens at hz
      obtain⟨u1,us1,rfl,hz1,hz2⟩:=hz
      unfold V.dens at hz2
      unfold V.den at hz1
      subst hz1 hz2
      rfl
    subst hvv
    obtain⟨bs,hd2,nd,hX⟩:=p0.ds
    rw [hd2]
    refine leaves_marks_then (P:=Tryz.prog) (F:=F1) (h:=h2) (g:=g2) (M:=AL.get (nextS_m1 a.1 a.2.1.1)) (by simp) (fun F4 w4 k1 k2=>?_) bs F2 w2 p0.nil p4.mem nd hX
    refine⟨by simp,.inr ⟨fun hh=>by simp [Fence.wide] at hh,_,_,137,#[.pointer (some ⟨(g1 2000).b,0,none⟩)],rfl,by simp [go_sem],fun _ _=>trivial,?_⟩⟩
    have hm20:=I5 a.1 a.2.1.1
    obtain⟨us,T,b1,b2,b3,b4,b5⟩:=k2.blk hm20
    unfold V.dens at b2
    obtain⟨u1,us1,rfl,b6,b7⟩:=b2
    unfold V.dens at b7
    unfold V.den at b6
    subst b6 b7
    have hg20:(g2 2000).b=(g1 2000).b:=by rw [p2 2000 (show(2000:Nat)<2064 by decide)]
    rw [hg20] at b1
    have hlt:(g1 2000).b<w4.heap.size:=(Array.getElem?_eq_some_iff.1 b1).1
    have hfz:w4.frozen? ⟨(g1 2000).b,0,none⟩=false:=by simp [World.frozen?,b1]
    have hcl:w4.cell? ⟨(g1 2000).b,0,none⟩=some (.int .i64 a.2.1.1):=by
      have:=b5 0 _ rfl
      rw [hg20] at this
      exact this
    refine(catch_panicking ⟨(g1 2000).b,0,none⟩ a.2.1.1 a.2.2.2.1.errno w4 hlt hcl hfz).mono ?_
    rintro e u' w' ⟨rfl,rfl,rfl⟩
    have ha:(w4.alloc (.cells #[.int .i64 a.2.2.2.1.errno] 234)).heap[(g1 2000).b]? = some (.cells #[.int .i64 a.2.1.1] T (0,0)):=by
      rw [show(w4.alloc (.cells #[.int .i64 a.2.2.2.1.errno] 234)).heap=w4.heap.push (.cells #[.int .i64 a.2.2.2.1.errno] 234) from rfl,Array.getElem?_push,if_neg (by omega)]
      exact b1
    have hgr:w4.grownBy (w4.alloc (.cells #[.int .i64 a.2.2.2.1.errno] 234)) none:=World.grownBy_alloc _ _ none
    have hm5:=(k2.grow hgr).set hm20 b4 (w':=(w4.alloc (.cells #[.int .i64 a.2.2.2.1.errno] 234)).setCell ⟨(g1 2000).b,0,none⟩ (.int .i64 a.2.2.2.1.errno)) (by rw [hg20]; exact setCell_grown _ ⟨(g1 2000).b,0,none⟩ _) (c':=.blk [.int .i64 a.2.2.2.1.errno]) ⟨b4,[.int .i64 a.2.2.2.1.errno],T,by rw [hg20]; exact setCell_zero ha,by unfold V.dens V.dens; exact⟨_,[],rfl,by unfold V.den; rfl,rfl⟩,fun u hu=>by simp at hu; subst hu; rfl⟩
    have hsame:Mo.put (AL.get (nextS_m1 a.1 a.2.1.1)) 2000 (some (.blk [.int .i64 a.2.2.2.1.errno]))=AL.get (nextS_m1 a.1 a.2.2.2.1.errno):=by
      funext j
      unfold Mo.put
      by_cases hj:j=2000
      · subst hj; rw [if_pos rfl,I5]
      · rw [if_neg hj]
        show(bif Nat.beq 2000 j then _ else(bif Nat.beq 0 j then _ else none))=(bif Nat.beq 2000 j then _ else(bif Nat.beq 0 j then _ else none))
        have:Nat.beq 2000 j=false:=by
          cases hb:Nat.beq 2000 j with
          | false=>rfl
          | true=>exact absurd (Nat.eq_of_beq_eq_true hb).symm hj
        rw [this]; rfl
    rw [hsame] at hm5
    have his5:InS 2064 (AL.get (nextS_m1 a.1 a.2.2.2.1.errno)):=fun i c hi=>by
      rw [← hsame] at hi
      unfold Mo.put at hi
      split at hi
      · rename_i hj; subst hj; cases hi; exact⟨rfl,rfl⟩
      · exact p4.is_ i c hi
    exact rest a.1 a.2.2.2.1.errno hye F4 h2 g2 t3 _ k1 p1 (fun i hi=>p2 i hi) p4.kn hm5 his5
theorem HN (n:Nat):LawOk Tryz.prog 84 (nextS_law n):=law_body Tryz.func84 rfl rfl (by decide) rfl (Is n)
end Go.Proofs.YtkpgggfibljflaaGreatDoor
namespace Go.Proofs.YtkpgggfibljflaaGreatDoor
open Go Go.RowKit Go.Proofs
open Rep (rep)
def Ao:List (Nat×C):=[(8,.l 9),(9,.s 3),(10,.s 3)]
def Be:List Wo:=[⟨.exit 0,[],[],[]⟩,⟨.ret,[],[(2,.s 3)],[]⟩]
def AW:List (Nat×C):=[(0,.l 9)]
def BD:List Wo:=[⟨.ret,[],[],[.s 3]⟩]
def Ax:Nat→(List ByteArray)→Int→Int→Option (Unit ⊕ ((Int×Unit)))
  | 0,_,_,_=>none
  | n+1,x8,x9,x10 =>
    bif decide (x10<x9) then((idx x8 x10).bind fun v0 =>
    bif decide ((↑v0.size:Int)>200) then(some (.inr (3,()))) else
    Ax n x8 x9 (IntKind.i64.wrap (x10+1))) else
    some (.inl ())
def Ay (n:Nat) (y:C.Ds Ty (snds Ao)):Option (YT Ty Be):=Ax n y.1 y.2.1 y.2.2.1
noncomputable def fgarage_check_l1_cut (n:Nat):St Ty→Tr (Lf Ty):=cutC Ao 0 Be (Ay n)
def A4 (n:Nat) (lines:List ByteArray):Option ((Int×Unit)) :=
    bif decide ((↑lines.length:Int)>50) then(some (3,())) else
    (Ax n lines (↑lines.length:Int) 0).bind fun v0 =>
    Sum.elim (fun v1=>some (0,())) (fun v1=>some (v1.fst,())) (v0)
def CP (n:Nat) (y:C.Ds Ty (snds AW)):Option (YT Ty BD):=A4 n y.1
noncomputable def fgarage_check_law (n:Nat):Law Ty:=readC (lawC AW 0 BD (CP n))
noncomputable def fgarage_check_T (n:Nat):List (Nat×Law Ty):=[]
theorem Ci (n:Nat):LawsOk Tryz.prog (fgarage_check_T n):=trivial
noncomputable def fgarage_check_l1_C (n:Nat):CutL Ty:=[]
theorem D5 (n:Nat) (x:C.Ds Ty (snds Ao)):(exec Tryz.prog 18 (callT Tryz.prog (fgarage_check_T n) []) (cutsOf (fgarage_check_l1_C n)) (bodyAt 4 Tryz.f52) (embS Ao x)).runK (typeRd 0 Ao Be (Ay n))=Ay (n+1) x:=by kernel_rfl
theorem D6 (n:Nat):CutOk true Tryz.prog 18 (fgarage_check_l1_cut n) (.loop (bodyAt 4 Tryz.f52)):=cut_ok fun x y hy=>can_loop (Fn:=Ay) prog_noRow prog_mix (fun n=>callT_ok prog_noRow prog_mix (Ci n) insNil) (fun h=>by cases h) (fun h=>by cases h) (fun n=>(cuts_ok (fn:=Tryz.f52) (L:=fgarage_check_l1_C n) (ks:=[]) trivial (by kernel_rfl) (by kernel_rfl))) (by decide) (fun _=>rfl) D5 hy
noncomputable def fgarage_check_C (n:Nat):CutL Ty:=[(.loop 4,fgarage_check_l1_cut n)]
theorem EA (n:Nat) (x:C.Ds Ty (snds AW)):(exec Tryz.prog 18 (callT Tryz.prog (fgarage_check_T n) []) (cutsOf (fgarage_check_C n)) (codeOf Tryz.f52) (embS AW x)).runK (typeRt Tryz.prog Tryz.f52.results.toList 0 BD)=CP n x:=by kernel_rfl
theorem AQ (n:Nat):LawOk Tryz.prog 52 (fgarage_check_law n):=readC_ok (law_ok Tryz.func52 rfl rfl (by decide) rfl prog_noRow prog_mix (callT_ok prog_noRow prog_mix (Ci n) insNil) (cuts_ok (fn:=Tryz.f52) (L:=fgarage_check_C n) (ks:=[.loop 4]) ⟨D6 n,trivial⟩ (by kernel_rfl) (by kernel_rfl)) (EA n))
def AE:List (Nat×C):=[(0,.l 3),(1,.l 3),(5,.s 3)]
def BX:List Wo:=[⟨.exit 0,[],[],[]⟩,⟨.ret,[],[(4,.s 4)],[]⟩]
def Cj:List (Nat×C):=[(0,.l 3),(1,.l 3)]
def Df:List Wo:=[⟨.ret,[],[],[.s 4]⟩]
def C7:Nat→(List Int)→(List Int)→Int→Option (Unit ⊕ ((Bool×Unit)))
  | 0,_,_,_=>none
  | n+1,a,b,i =>
    bif decide (i<(↑a.length:Int)) then((idx a i).bind fun v0 =>
    (idx b i).bind fun v1 =>
    bif v0 != v1 then(some (.inr (false,()))) else
    C7 n a b (IntKind.i64.wrap (i+1))) else
    some (.inl ())
def Bn (n:Nat) (y:C.Ds Ty (snds AE)):Option (YT Ty BX):=C7 n y.1 y.2.1 y.2.2.1
noncomputable def flaw_ints_l1_cut (n:Nat):St Ty→Tr (Lf Ty):=cutC AE 0 BX (Bn n)
def EB (n:Nat) (a:List Int) (b:List Int):Option ((Bool×Unit)) :=
    bif (↑a.length:Int) != (↑b.length:Int) then(some (false,())) else
    (C7 n a b 0).bind fun v0 =>
    Sum.elim (fun v1=>some (true,())) (fun v1=>some (v1.fst,())) (v0)
def Fi (n:Nat) (y:C.Ds Ty (snds Cj)):Option (YT Ty Df):=EB n y.1 y.2.1
noncomputable def flaw_ints_law (n:Nat):Law Ty:=readC (lawC Cj 0 Df (Fi n))
noncomputable def flaw_ints_T (n:Nat):List (Nat×Law Ty):=[]
theorem DB (n:Nat):LawsOk Tryz.prog (flaw_ints_T n):=trivial
noncomputable def flaw_ints_l1_C (n:Nat):CutL Ty:=[]
theorem Fq (n:Nat) (x:C.Ds Ty (snds AE)):(exec Tryz.prog 26 (callT Tryz.prog (flaw_ints_T n) []) (cutsOf (flaw_ints_l1_C n)) (bodyAt 4 Tryz.f32) (embS AE x)).runK (typeRd 0 AE BX (Bn n))=Bn (n+1) x:=by kernel_rfl
theorem Fs (n:Nat):CutOk true Tryz.prog 26 (flaw_ints_l1_cut n) (.loop (bodyAt 4 Tryz.f32)):=cut_ok fun x y hy=>can_loop (Fn:=Bn) prog_noRow prog_mix (fun n=>callT_ok prog_noRow prog_mix (DB n) insNil) (fun h=>by cases h) (fun h=>by cases h) (fun n=>(cuts_ok (fn:=Tryz.f32) (L:=flaw_ints_l1_C n) (ks:=[]) trivial (by kernel_rfl) (by kernel_rfl))) (by decide) (fun _=>rfl) Fq hy
noncomputable def flaw_ints_C (n:Nat):CutL Ty:=[(.loop 4,flaw_ints_l1_cut n)]
theorem Hv (n:Nat) (x:C.Ds Ty (snds Cj)):(exec Tryz.prog 26 (callT Tryz.prog (flaw_ints_T n) []) (cutsOf (flaw_ints_C n)) (codeOf Tryz.f32) (embS Cj x)).runK (typeRt Tryz.prog Tryz.f32.results.toList 0 Df)=Fi n x:=by kernel_rfl
theorem Ft (n:Nat):LawOk Tryz.prog 32 (flaw_ints_law n):=readC_ok (law_ok Tryz.func32 rfl rfl (by decide) rfl prog_noRow prog_mix (callT_ok prog_noRow prog_mix (DB n) insNil) (cuts_ok (fn:=Tryz.f32) (L:=flaw_ints_C n) (ks:=[.loop 4]) ⟨Fs n,trivial⟩ (by kernel_rfl) (by kernel_rfl)) (Hv n))
def AT:List (Nat×C):=[(0,.l 9),(3,.s 3),(4,.s 3)]
def Cq:List Wo:=[⟨.exit 0,[],[(0,.l 9),(3,.s 3)],[]⟩]
def C8:List (Nat×C):=[(0,.l 9)]
def DJ:List Wo:=[⟨.ret,[],[],[.s 4]⟩]
def BA:Nat→(List ByteArray)→Int→Int→Option ((List ByteArray×Int×Unit))
  | 0,_,_,_=>none
  | n+1,lines,n_,i =>
    bif decide (i<(↑lines.length:Int)) then((idx lines i).bind fun v0 =>
    BA n lines (IntKind.i64.wrap (n_+(↑v0.size:Int))) (IntKind.i64.wrap (i+1))) else
    some (lines,(n_,()))
def B6 (n:Nat) (y:C.Ds Ty (snds AT)):Option (YT Ty Cq):=BA n y.1 y.2.1 y.2.2.1
noncomputable def flaw_Few_l1_cut (n:Nat):St Ty→Tr (Lf Ty):=cutC AT 0 Cq (B6 n)
def Ej (n:Nat) (lines:List ByteArray):Option ((Bool×Unit)) :=
    (BA n lines 0 0).bind fun v0 =>
    bif decide ((↑v0.fst.length:Int)≤30) then(bif !decide (v0.snd.fst≤1200) then(bif decide ((↑v0.fst.length:Int)≤52) then(bif !decide (v0.snd.fst≤400) then(bif decide ((↑v0.fst.length:Int)=1) then(some (decide (v0.snd.fst≤210),())) else
    some (false,())) else
    some (true,())) else
    bif decide ((↑v0.fst.length:Int)=1) then(some (decide (v0.snd.fst≤210),())) else
    some (false,())) else
    some (true,())) else
    bif decide ((↑v0.fst.length:Int)≤52) then(bif !decide (v0.snd.fst≤400) then(bif decide ((↑v0.fst.length:Int)=1) then(some (decide (v0.snd.fst≤210),())) else
    some (false,())) else
    some (true,())) else
    bif decide ((↑v0.fst.length:Int)=1) then(some (decide (v0.snd.fst≤210),())) else
    some (false,())
def Gq (n:Nat) (y:C.Ds Ty (snds C8)):Option (YT Ty DJ):=Ej n y.1
noncomputable def flaw_Few_law (n:Nat):Law Ty:=readC (lawC C8 0 DJ (Gq n))
noncomputable def flaw_Few_T (n:Nat):List (Nat×Law Ty):=[]
theorem Ek (n:Nat):LawsOk Tryz.prog (flaw_Few_T n):=trivial
noncomputable def flaw_Few_l1_C (n:Nat):CutL Ty:=[]
theorem Gr (n:Nat) (x:C.Ds Ty (snds AT)):(exec Tryz.prog 43 (callT Tryz.prog (flaw_Few_T n) []) (cutsOf (flaw_Few_l1_C n)) (bodyAt 3 Tryz.f19) (embS AT x)).runK (typeRd 0 AT Cq (B6 n))=B6 (n+1) x:=by kernel_rfl
theorem Gs (n:Nat):CutOk true Tryz.prog 43 (flaw_Few_l1_cut n) (.loop (bodyAt 3 Tryz.f19)):=cut_ok fun x y hy=>can_loop (Fn:=B6) prog_noRow prog_mix (fun n=>callT_ok prog_noRow prog_mix (Ek n) insNil) (fun h=>by cases h) (fun h=>by cases h) (fun n=>(cuts_ok (fn:=Tryz.f19) (L:=flaw_Few_l1_C n) (ks:=[]) trivial (by kernel_rfl) (by kernel_rfl))) (by decide) (fun _=>rfl) Gr hy
noncomputable def flaw_Few_C (n:Nat):CutL Ty:=[(.loop 3,flaw_Few_l1_cut n)]
theorem HO (n:Nat) (x:C.Ds Ty (snds C8)):(exec Tryz.prog 43 (callT Tryz.prog (flaw_Few_T n) []) (cutsOf (flaw_Few_C n)) (codeOf Tryz.f19) (embS C8 x)).runK (typeRt Tryz.prog Tryz.f19.results.toList 0 DJ)=Gq n x:=by kernel_rfl
theorem Gt (n:Nat):LawOk Tryz.prog 19 (flaw_Few_law n):=readC_ok (law_ok Tryz.func19 rfl rfl (by decide) rfl prog_noRow prog_mix (callT_ok prog_noRow prog_mix (Ek n) insNil) (cuts_ok (fn:=Tryz.f19) (L:=flaw_Few_C n) (ks:=[.loop 3]) ⟨Gs n,trivial⟩ (by kernel_rfl) (by kernel_rfl)) (HO n))
def Ck:List (Nat×C):=[(0,.s 9)]
def Dg:List Wo:=[⟨.ret,[],[],[.s 3]⟩]
def D1 (n:Nat) (word:ByteArray):Option ((Int×Unit)) :=
    bif word.beq (B [111,117,116]) then(bif word.beq (B [111,117,116]) then(some (2,())) else
    bif word.beq (B [99,104,101,99,107,101,100]) then(bif word.beq (B [99,104,101,99,107,101,100]) then(some (3,())) else
    bif word.beq (B [102,111,117,110,100]) then(bif word.beq (B [102,111,117,110,100]) then(some (4,())) else
    bif word.beq (B [115,97,108,101]) then(bif word.beq (B [115,97,108,101]) then(some (5,())) else
    some (0,())) else
    bif word.beq (B [99,108,111,115,101]) then(bif word.beq (B [99,108,111,115,101]) then(some (5,())) else
    some (0,())) else
    bif word.beq (B [100,117,116,121]) then(some (5,())) else
    some (0,())) else
    bif word.beq (B [104,101,108,100]) then(bif word.beq (B [104,101,108,100]) then(some (4,())) else
    bif word.beq (B [115,97,108,101]) then(bif word.beq (B [115,97,108,101]) then(some (5,())) else
    some (0,())) else
    bif word.beq (B [99,108,111,115,101]) then(bif word.beq (B [99,108,111,115,101]) then(some (5,())) else
    some (0,())) else
    bif word.beq (B [100,117,116,121]) then(some (5,())) else
    some (0,())) else
    bif word.beq (B [115,105,103,110,101,100]) then(bif word.beq (B [115,105,103,110,101,100]) then(some (4,())) else
    bif word.beq (B [115,97,108,101]) then(bif word.beq (B [115,97,108,101]) then(some (5,())) else
    some (0,())) else
    bif word.beq (B [99,108,111,115,101]) then(bif word.beq (B [99,108,111,115,101]) then(some (5,())) else
    some (0,())) else
    bif word.beq (B [100,117,116,121]) then(some (5,())) else
    some (0,())) else
    bif word.beq (B [115,121,110,99]) then(some (4,())) else
    bif word.beq (B [115,97,108,101]) then(bif word.beq (B [115,97,108,101]) then(some (5,())) else
    some (0,())) else
    bif word.beq (B [99,108,111,115,101]) then(bif word.beq (B [99,108,111,115,101]) then(some (5,())) else
    some (0,())) else
    bif word.beq (B [100,117,116,121]) then(some (5,())) else
    some (0,())) else
    bif word.beq (B [105,110]) then(some (3,())) else
    bif word.beq (B [102,111,117,110,100]) then(bif word.beq (B [102,111,117,110,100]) then(some (4,())) else
    bif word.beq (B [115,97,108,101]) then(bif word.beq (B [115,97,108,101]) then(some (5,())) else
    some (0,())) else
    bif word.beq (B [99,108,111,115,101]) then(bif word.beq (B [99,108,111,115,101]) then(some (5,())) else
    some (0,())) else
    bif word.beq (B [100,117,116,121]) then(some (5,())) else
    some (0,())) else
    bif word.beq (B [104,101,108,100]) then(bif word.beq (B [104,101,108,100]) then(some (4,())) else
    bif word.beq (B [115,97,108,101]) then(bif word.beq (B [115,97,108,101]) then(some (5,())) else
    some (0,())) else
    bif word.beq (B [99,108,111,115,101]) then(bif word.beq (B [99,108,111,115,101]) then(some (5,())) else
    some (0,())) else
    bif word.beq (B [100,117,116,121]) then(some (5,())) else
    some (0,())) else
    bif word.beq (B [115,105,103,110,101,100]) then(bif word.beq (B [115,105,103,110,101,100]) then(some (4,())) else
    bif word.beq (B [115,97,108,101]) then(bif word.beq (B [115,97,108,101]) then(some (5,())) else
    some (0,())) else
    bif word.beq (B [99,108,111,115,101]) then(bif word.beq (B [99,108,111,115,101]) then(some (5,())) else
    some (0,())) else
    bif word.beq (B [100,117,116,121]) then(some (5,())) else
    some (0,())) else
    bif word.beq (B [115,121,110,99]) then(some (4,())) else
    bif word.beq (B [115,97,108,101]) then(bif word.beq (B [115,97,108,101]) then(some (5,())) else
    some (0,())) else
    bif word.beq (B [99,108,111,115,101]) then(bif word.beq (B [99,108,111,115,101]) then(some (5,())) else
    some (0,())) else
    bif word.beq (B [100,117,116,121]) then(some (5,())) else
    some (0,())) else
    bif word.beq (B [100,114,105,118,101,114]) then(bif word.beq (B [100,114,105,118,101,114]) then(some (2,())) else
    bif word.beq (B [99,104,101,99,107,101,100]) then(bif word.beq (B [99,104,101,99,107,101,100]) then(some (3,())) else
    bif word.beq (B [102,111,117,110,100]) then(bif word.beq (B [102,111,117,110,100]) then(some (4,())) else
    bif word.beq (B [115,97,108,101]) then(bif word.beq (B [115,97,108,101]) then(some (5,())) else
    some (0,())) else
    bif word.beq (B [99,108,111,115,101]) then(bif word.beq (B [99,108,111,115,101]) then(some (5,())) else
    some (0,())) else
    bif word.beq (B [100,117,116,121]) then(some (5,())) else
    some (0,())) else
    bif word.beq (B [104,101,108,100]) then(bif word.beq (B [104,101,108,100]) then(some (4,())) else
    bif word.beq (B [115,97,108,101]) then(bif word.beq (B [115,97,108,101]) then(some (5,())) else
    some (0,())) else
    bif word.beq (B [99,108,111,115,101]) then(bif word.beq (B [99,108,111,115,101]) then(some (5,())) else
    some (0,())) else
    bif word.beq (B [100,117,116,121]) then(some (5,())) else
    some (0,())) else
    bif word.beq (B [115,105,103,110,101,100]) then(bif word.beq (B [115,105,103,110,101,100]) then(some (4,())) else
    bif word.beq (B [115,97,108,101]) then(bif word.beq (B [115,97,108,101]) then(some (5,())) else
    some (0,())) else
    bif word.beq (B [99,108,111,115,101]) then(bif word.beq (B [99,108,111,115,101]) then(some (5,())) else
    some (0,())) else
    bif word.beq (B [100,117,116,121]) then(some (5,())) else
    some (0,())) else
    bif word.beq (B [115,121,110,99]) then(some (4,())) else
    bif word.beq (B [115,97,108,101]) then(bif word.beq (B [115,97,108,101]) then(some (5,())) else
    some (0,())) else
    bif word.beq (B [99,108,111,115,101]) then(bif word.beq (B [99,108,111,115,101]) then(some (5,())) else
    some (0,())) else
    bif word.beq (B [100,117,116,121]) then(some (5,())) else
    some (0,())) else
    bif word.beq (B [105,110]) then(some (3,())) else
    bif word.beq (B [102,111,117,110,100]) then(bif word.beq (B [102,111,117,110,100]) then(some (4,())) else
    bif word.beq (B [115,97,108,101]) then(bif word.beq (B [115,97,108,101]) then(some (5,())) else
    some (0,())) else
    bif word.beq (B [99,108,111,115,101]) then(bif word.beq (B [99,108,111,115,101]) then(some (5,())) else
    some (0,())) else
    bif word.beq (B [100,117,116,121]) then(some (5,())) else
    some (0,())) else
    bif word.beq (B [104,101,108,100]) then(bif word.beq (B [104,101,108,100]) then(some (4,())) else
    bif word.beq (B [115,97,108,101]) then(bif word.beq (B [115,97,108,101]) then(some (5,())) else
    some (0,())) else
    bif word.beq (B [99,108,111,115,101]) then(bif word.beq (B [99,108,111,115,101]) then(some (5,())) else
    some (0,())) else
    bif word.beq (B [100,117,116,121]) then(some (5,())) else
    some (0,())) else
    bif word.beq (B [115,105,103,110,101,100]) then(bif word.beq (B [115,105,103,110,101,100]) then(some (4,())) else
    bif word.beq (B [115,97,108,101]) then(bif word.beq (B [115,97,108,101]) then(some (5,())) else
    some (0,())) else
    bif word.beq (B [99,108,111,115,101]) then(bif word.beq (B [99,108,111,115,101]) then(some (5,())) else
    some (0,())) else
    bif word.beq (B [100,117,116,121]) then(some (5,())) else
    some (0,())) else
    bif word.beq (B [115,121,110,99]) then(some (4,())) else
    bif word.beq (B [115,97,108,101]) then(bif word.beq (B [115,97,108,101]) then(some (5,())) else
    some (0,())) else
    bif word.beq (B [99,108,111,115,101]) then(bif word.beq (B [99,108,111,115,101]) then(some (5,())) else
    some (0,())) else
    bif word.beq (B [100,117,116,121]) then(some (5,())) else
    some (0,())) else
    bif word.beq (B [103,105,118,101]) then(some (2,())) else
    bif word.beq (B [99,104,101,99,107,101,100]) then(bif word.beq (B [99,104,101,99,107,101,100]) then(some (3,())) else
    bif word.beq (B [102,111,117,110,100]) then(bif word.beq (B [102,111,117,110,100]) then(some (4,())) else
    bif word.beq (B [115,97,108,101]) then(bif word.beq (B [115,97,108,101]) then(some (5,())) else
    some (0,())) else
    bif word.beq (B [99,108,111,115,101]) then(bif word.beq (B [99,108,111,115,101]) then(some (5,())) else
    some (0,())) else
    bif word.beq (B [100,117,116,121]) then(some (5,())) else
    some (0,())) else
    bif word.beq (B [104,101,108,100]) then(bif word.beq (B [104,101,108,100]) then(some (4,())) else
    bif word.beq (B [115,97,108,101]) then(bif word.beq (B [115,97,108,101]) then(some (5,())) else
    some (0,())) else
    bif word.beq (B [99,108,111,115,101]) then(bif word.beq (B [99,108,111,115,101]) then(some (5,())) else
    some (0,())) else
    bif word.beq (B [100,117,116,121]) then(some (5,())) else
    some (0,())) else
    bif word.beq (B [115,105,103,110,101,100]) then(bif word.beq (B [115,105,103,110,101,100]) then(some (4,())) else
    bif word.beq (B [115,97,108,101]) then(bif word.beq (B [115,97,108,101]) then(some (5,())) else
    some (0,())) else
    bif word.beq (B [99,108,111,115,101]) then(bif word.beq (B [99,108,111,115,101]) then(some (5,())) else
    some (0,())) else
    bif word.beq (B [100,117,116,121]) then(some (5,())) else
    some (0,())) else
    bif word.beq (B [115,121,110,99]) then(some (4,())) else
    bif word.beq (B [115,97,108,101]) then(bif word.beq (B [115,97,108,101]) then(some (5,())) else
    some (0,())) else
    bif word.beq (B [99,108,111,115,101]) then(bif word.beq (B [99,108,111,115,101]) then(some (5,())) else
    some (0,())) else
    bif word.beq (B [100,117,116,121]) then(some (5,())) else
    some (0,())) else
    bif word.beq (B [105,110]) then(some (3,())) else
    bif word.beq (B [102,111,117,110,100]) then(bif word.beq (B [102,111,117,110,100]) then(some (4,())) else
    bif word.beq (B [115,97,108,101]) then(bif word.beq (B [115,97,108,101]) then(some (5,())) else
    some (0,())) else
    bif word.beq (B [99,108,111,115,101]) then(bif word.beq (B [99,108,111,115,101]) then(some (5,())) else
    some (0,())) else
    bif word.beq (B [100,117,116,121]) then(some (5,())) else
    some (0,())) else
    bif word.beq (B [104,101,108,100]) then(bif word.beq (B [104,101,108,100]) then(some (4,())) else
    bif word.beq (B [115,97,108,101]) then(bif word.beq (B [115,97,108,101]) then(some (5,())) else
    some (0,())) else
    bif word.beq (B [99,108,111,115,101]) then(bif word.beq (B [99,108,111,115,101]) then(some (5,())) else
    some (0,())) else
    bif word.beq (B [100,117,116,121]) then(some (5,())) else
    some (0,())) else
    bif word.beq (B [115,105,103,110,101,100]) then(bif word.beq (B [115,105,103,110,101,100]) then(some (4,())) else
    bif word.beq (B [115,97,108,101]) then(bif word.beq (B [115,97,108,101]) then(some (5,())) else
    some (0,())) else
    bif word.beq (B [99,108,111,115,101]) then(bif word.beq (B [99,108,111,115,101]) then(some (5,())) else
    some (0,())) else
    bif word.beq (B [100,117,116,121]) then(some (5,())) else
    some (0,())) else
    bif word.beq (B [115,121,110,99]) then(some (4,())) else
    bif word.beq (B [115,97,108,101]) then(bif word.beq (B [115,97,108,101]) then(some (5,())) else
    some (0,())) else
    bif word.beq (B [99,108,111,115,101]) then(bif word.beq (B [99,108,111,115,101]) then(some (5,())) else
    some (0,())) else
    bif word.beq (B [100,117,116,121]) then(some (5,())) else
    some (0,())
def Fj (n:Nat) (y:C.Ds Ty (snds Ck)):Option (YT Ty Dg):=D1 n y.1
noncomputable def fref_many_law (n:Nat):Law Ty:=lawC Ck 0 Dg (Fj n)
noncomputable def fref_many_T (n:Nat):List (Nat×Law Ty):=[]
theorem GH (n:Nat):LawsOk Tryz.prog (fref_many_T n):=trivial
noncomputable def fref_many_C (n:Nat):CutL Ty:=[]
theorem Hw (n:Nat) (x:C.Ds Ty (snds Ck)):(exec Tryz.prog 20 (callT Tryz.prog (fref_many_T n) []) (cutsOf (fref_many_C n)) (codeOf Tryz.f64) (embS Ck x)).runK (typeRt Tryz.prog Tryz.f64.results.toList 0 Dg)=Fj n x:=by kernel_rfl
theorem Fu (n:Nat):LawOk Tryz.prog 64 (fref_many_law n):=law_ok Tryz.func64 rfl rfl (by decide) rfl prog_noRow prog_mix (callT_ok prog_noRow prog_mix (GH n) insNil) (cuts_ok (fn:=Tryz.f64) (L:=fref_many_C n) (ks:=[]) trivial (by kernel_rfl) (by kernel_rfl)) (Hw n)
def A0:List (Nat×C):=[(0,.s 9),(3,.o 9),(4,.s 3),(5,.s 3)]
def BE:List Wo:=[⟨.exit 0,[],[(3,.o 9)],[]⟩]
def BM:List (Nat×C):=[(0,.s 9)]
def C9:List Wo:=[⟨.ret,[],[],[.l 9]⟩]
def Am:Nat→ByteArray→(List ByteArray)→Int→Int→Option ((List ByteArray×Unit))
  | 0,_,_,_,_=>none
  | n+1,s,out,from_,i =>
    bif decide (i≤(↑s.size:Int)) then(bif !decide (i=(↑s.size:Int)) then((strAt s i).bind fun v0 =>
    bif decide (v0.n=32) then((strSub s from_ i).bind fun v1 =>
    (app out [v1]).bind fun v2 =>
    Am n s v2 (IntKind.i64.wrap (i+1)) (IntKind.i64.wrap (i+1))) else
    Am n s out from_ (IntKind.i64.wrap (i+1))) else
    (strSub s from_ i).bind fun v0 =>
    (app out [v0]).bind fun v1 =>
    Am n s v1 (IntKind.i64.wrap (i+1)) (IntKind.i64.wrap (i+1))) else
    some (out,())
def AX (n:Nat) (y:C.Ds Ty (snds A0)):Option (YT Ty BE):=Am n y.1 y.2.1 y.2.2.1 y.2.2.2.1
noncomputable def fref_Split_l1_cut (n:Nat):St Ty→Tr (Lf Ty):=cutC A0 0 BE (AX n)
def CA (n:Nat) (s:ByteArray):Option ((List ByteArray×Unit)) :=
    (Am n s [] 0 0).bind fun v0 =>
    some (v0.fst,())
def El (n:Nat) (y:C.Ds Ty (snds BM)):Option (YT Ty C9):=CA n y.1
noncomputable def fref_Split_law (n:Nat):Law Ty:=lawC BM 0 C9 (El n)
noncomputable def fref_Split_T (n:Nat):List (Nat×Law Ty):=[]
theorem Dh (n:Nat):LawsOk Tryz.prog (fref_Split_T n):=trivial
noncomputable def fref_Split_l1_C (n:Nat):CutL Ty:=[]
theorem EC (n:Nat) (x:C.Ds Ty (snds A0)):(exec Tryz.prog 32 (callT Tryz.prog (fref_Split_T n) []) (cutsOf (fref_Split_l1_C n)) (bodyAt 4 Tryz.f63) (embS A0 x)).runK (typeRd 0 A0 BE (AX n))=AX (n+1) x:=by kernel_rfl
theorem ED (n:Nat):CutOk true Tryz.prog 32 (fref_Split_l1_cut n) (.loop (bodyAt 4 Tryz.f63)):=cut_ok fun x y hy=>can_loop (Fn:=AX) prog_noRow prog_mix (fun n=>callT_ok prog_noRow prog_mix (Dh n) insNil) (fun h=>by cases h) (fun h=>by cases h) (fun n=>(cuts_ok (fn:=Tryz.f63) (L:=fref_Split_l1_C n) (ks:=[]) trivial (by kernel_rfl) (by kernel_rfl))) (by decide) (fun _=>rfl) EC hy
noncomputable def fref_Split_C (n:Nat):CutL Ty:=[(.loop 4,fref_Split_l1_cut n)]
theorem GI (n:Nat) (x:C.Ds Ty (snds BM)):(exec Tryz.prog 32 (callT Tryz.prog (fref_Split_T n) []) (cutsOf (fref_Split_C n)) (codeOf Tryz.f63) (embS BM x)).runK (typeRt Tryz.prog Tryz.f63.results.toList 0 C9)=El n x:=by kernel_rfl
theorem EE (n:Nat):LawOk Tryz.prog 63 (fref_Split_law n):=law_ok Tryz.func63 rfl rfl (by decide) rfl prog_noRow prog_mix (callT_ok prog_noRow prog_mix (Dh n) insNil) (cuts_ok (fn:=Tryz.f63) (L:=fref_Split_C n) (ks:=[.loop 4]) ⟨ED n,trivial⟩ (by kernel_rfl) (by kernel_rfl)) (GI n)
def A1:List (Nat×C):=[(4,.s 4),(5,.s 9),(6,.s 3),(7,.s 3)]
def BF:List Wo:=[⟨.exit 0,[],[(4,.s 4),(6,.s 3)],[]⟩,⟨.ret,[],[(2,.s 3),(3,.s 4)],[]⟩]
def BN:List (Nat×C):=[(0,.s 9)]
def CB:List Wo:=[⟨.ret,[],[],[.s 3,.s 4]⟩]
def Aa:Nat→Bool→ByteArray→Int→Int→Option ((Bool×Int×Unit) ⊕ ((Int×Bool×Unit)))
  | 0,_,_,_,_=>none
  | n+1,minus,d,n_,i =>
    bif decide (i<(↑d.size:Int)) then((strAt d i).bind fun v0 =>
    bif !decide (v0.n<48) then((strAt d i).bind fun v1 =>
    bif decide (v1.n>57) then(some (.inr (0,(false,())))) else
    (strAt d i).bind fun v2 =>
    Aa n minus d (IntKind.i64.wrap (IntKind.i64.wrap (10*n_)+IntKind.i64.wrap (IntKind.u8.wrap (v2.n-48)))) (IntKind.i64.wrap (i+1))) else
    some (.inr (0,(false,())))) else
    some (.inl (minus,(n_,())))
def AY (n:Nat) (y:C.Ds Ty (snds A1)):Option (YT Ty BF):=Aa n y.1 y.2.1 y.2.2.1 y.2.2.2.1
noncomputable def fref_whole_l1_cut (n:Nat):St Ty→Tr (Lf Ty):=cutC A1 0 BF (AY n)
def CC (n:Nat) (s:ByteArray):Option ((Int×Bool×Unit)) :=
    bif decide ((↑s.size:Int)>0) then((strAt s 0).bind fun v0 =>
    bif decide (v0.n=45) then((strSub s 1 (↑s.size:Int)).bind fun v1 =>
    bif !decide ((↑v1.size:Int)=0) then(bif !decide ((↑v1.size:Int)>9) then((strAt v1 0).bind fun v2 =>
    bif decide (v2.n=48) then(bif !decide ((↑v1.size:Int)>1) then(bif decide (v0.n=45) then(some (0,(false,()))) else
    (Aa n (decide (v0.n=45)) v1 0 0).bind fun v3 =>
    Sum.elim (fun v4=>bif v4.fst then(some (IntKind.i64.wrap (0-v4.snd.fst),(true,()))) else
    some (v4.snd.fst,(true,()))) (fun v4=>some (v4.fst,(v4.snd.fst,()))) (v3)) else
    some (0,(false,()))) else
    (Aa n (decide (v0.n=45)) v1 0 0).bind fun v3 =>
    Sum.elim (fun v4=>bif v4.fst then(some (IntKind.i64.wrap (0-v4.snd.fst),(true,()))) else
    some (v4.snd.fst,(true,()))) (fun v4=>some (v4.fst,(v4.snd.fst,()))) (v3)) else
    some (0,(false,()))) else
    some (0,(false,()))) else
    bif !decide ((↑s.size:Int)=0) then(bif !decide ((↑s.size:Int)>9) then((strAt s 0).bind fun v1 =>
    bif decide (v1.n=48) then(bif !decide ((↑s.size:Int)>1) then(bif decide (v0.n=45) then(some (0,(false,()))) else
    (Aa n (decide (v0.n=45)) s 0 0).bind fun v2 =>
    Sum.elim (fun v3=>bif v3.fst then(some (IntKind.i64.wrap (0-v3.snd.fst),(true,()))) else
    some (v3.snd.fst,(true,()))) (fun v3=>some (v3.fst,(v3.snd.fst,()))) (v2)) else
    some (0,(false,()))) else
    (Aa n (decide (v0.n=45)) s 0 0).bind fun v2 =>
    Sum.elim (fun v3=>bif v3.fst then(some (IntKind.i64.wrap (0-v3.snd.fst),(true,()))) else
    some (v3.snd.fst,(true,()))) (fun v3=>some (v3.fst,(v3.snd.fst,()))) (v2)) else
    some (0,(false,()))) else
    some (0,(false,()))) else
    bif !decide ((↑s.size:Int)=0) then(bif !decide ((↑s.size:Int)>9) then((strAt s 0).bind fun v0 =>
    bif decide (v0.n=48) then(bif !decide ((↑s.size:Int)>1) then((Aa n false s 0 0).bind fun v1 =>
    Sum.elim (fun v2=>bif v2.fst then(some (IntKind.i64.wrap (0-v2.snd.fst),(true,()))) else
    some (v2.snd.fst,(true,()))) (fun v2=>some (v2.fst,(v2.snd.fst,()))) (v1)) else
    some (0,(false,()))) else
    (Aa n false s 0 0).bind fun v1 =>
    Sum.elim (fun v2=>bif v2.fst then(some (IntKind.i64.wrap (0-v2.snd.fst),(true,()))) else
    some (v2.snd.fst,(true,()))) (fun v2=>some (v2.fst,(v2.snd.fst,()))) (v1)) else
    some (0,(false,()))) else
    some (0,(false,()))
def Em (n:Nat) (y:C.Ds Ty (snds BN)):Option (YT Ty CB):=CC n y.1
noncomputable def fref_whole_law (n:Nat):Law Ty:=lawC BN 0 CB (Em n)
noncomputable def fref_whole_T (n:Nat):List (Nat×Law Ty):=[]
theorem Di (n:Nat):LawsOk Tryz.prog (fref_whole_T n):=trivial
noncomputable def fref_whole_l1_C (n:Nat):CutL Ty:=[]
theorem EF (n:Nat) (x:C.Ds Ty (snds A1)):(exec Tryz.prog 69 (callT Tryz.prog (fref_whole_T n) []) (cutsOf (fref_whole_l1_C n)) (bodyAt 9 Tryz.f65) (embS A1 x)).runK (typeRd 0 A1 BF (AY n))=AY (n+1) x:=by kernel_rfl
theorem EG (n:Nat):CutOk true Tryz.prog 69 (fref_whole_l1_cut n) (.loop (bodyAt 9 Tryz.f65)):=cut_ok fun x y hy=>can_loop (Fn:=AY) prog_noRow prog_mix (fun n=>callT_ok prog_noRow prog_mix (Di n) insNil) (fun h=>by cases h) (fun h=>by cases h) (fun n=>(cuts_ok (fn:=Tryz.f65) (L:=fref_whole_l1_C n) (ks:=[]) trivial (by kernel_rfl) (by kernel_rfl))) (by decide) (fun _=>rfl) EF hy
noncomputable def fref_whole_C (n:Nat):CutL Ty:=[(.loop 9,fref_whole_l1_cut n)]
theorem GJ (n:Nat) (x:C.Ds Ty (snds BN)):(exec Tryz.prog 69 (callT Tryz.prog (fref_whole_T n) []) (cutsOf (fref_whole_C n)) (codeOf Tryz.f65) (embS BN x)).runK (typeRt Tryz.prog Tryz.f65.results.toList 0 CB)=Em n x:=by kernel_rfl
theorem EH (n:Nat):LawOk Tryz.prog 65 (fref_whole_law n):=law_ok Tryz.func65 rfl rfl (by decide) rfl prog_noRow prog_mix (callT_ok prog_noRow prog_mix (Di n) insNil) (cuts_ok (fn:=Tryz.f65) (L:=fref_whole_C n) (ks:=[.loop 9]) ⟨EG n,trivial⟩ (by kernel_rfl) (by kernel_rfl)) (GJ n)
def A2:List (Nat×C):=[(0,.l 9),(3,.s 3)]
def BG:List Wo:=[⟨.exit 0,[],[(0,.l 9)],[]⟩,⟨.ret,[],[(2,.s 4)],[]⟩]
def BO:List (Nat×C):=[(0,.l 9)]
def CD:List Wo:=[⟨.ret,[],[],[.s 4]⟩]
def B7:Nat→(List ByteArray)→Int→Option ((List ByteArray×Unit) ⊕ ((Bool×Unit)))
  | 0,_,_=>none
  | n+1,lines,i =>
    bif decide (i<(↑lines.length:Int)) then((idx lines i).bind fun v0 =>
    bif decide ((↑v0.size:Int)>200) then(some (.inr (false,()))) else
    B7 n lines (IntKind.i64.wrap (i+1))) else
    some (.inl (lines,()))
def AZ (n:Nat) (y:C.Ds Ty (snds A2)):Option (YT Ty BG):=B7 n y.1 y.2.1
noncomputable def fref_Right_l1_cut (n:Nat):St Ty→Tr (Lf Ty):=cutC A2 0 BG (AZ n)
def CE (n:Nat) (lines:List ByteArray):Option ((Bool×Unit)) :=
    (B7 n lines 0).bind fun v0 =>
    Sum.elim (fun v1=>some (decide ((↑v1.fst.length:Int)≤50),())) (fun v1=>some (v1.fst,())) (v0)
def En (n:Nat) (y:C.Ds Ty (snds BO)):Option (YT Ty CD):=CE n y.1
noncomputable def fref_Right_law (n:Nat):Law Ty:=readC (lawC BO 0 CD (En n))
noncomputable def fref_Right_T (n:Nat):List (Nat×Law Ty):=[]
theorem Dj (n:Nat):LawsOk Tryz.prog (fref_Right_T n):=trivial
noncomputable def fref_Right_l1_C (n:Nat):CutL Ty:=[]
theorem EI (n:Nat) (x:C.Ds Ty (snds A2)):(exec Tryz.prog 19 (callT Tryz.prog (fref_Right_T n) []) (cutsOf (fref_Right_l1_C n)) (bodyAt 2 Tryz.f23) (embS A2 x)).runK (typeRd 0 A2 BG (AZ n))=AZ (n+1) x:=by kernel_rfl
theorem EJ (n:Nat):CutOk true Tryz.prog 19 (fref_Right_l1_cut n) (.loop (bodyAt 2 Tryz.f23)):=cut_ok fun x y hy=>can_loop (Fn:=AZ) prog_noRow prog_mix (fun n=>callT_ok prog_noRow prog_mix (Dj n) insNil) (fun h=>by cases h) (fun h=>by cases h) (fun n=>(cuts_ok (fn:=Tryz.f23) (L:=fref_Right_l1_C n) (ks:=[]) trivial (by kernel_rfl) (by kernel_rfl))) (by decide) (fun _=>rfl) EI hy
noncomputable def fref_Right_C (n:Nat):CutL Ty:=[(.loop 2,fref_Right_l1_cut n)]
theorem GK (n:Nat) (x:C.Ds Ty (snds BO)):(exec Tryz.prog 19 (callT Tryz.prog (fref_Right_T n) []) (cutsOf (fref_Right_C n)) (codeOf Tryz.f23) (embS BO x)).runK (typeRt Tryz.prog Tryz.f23.results.toList 0 CD)=En n x:=by kernel_rfl
theorem EL (n:Nat):LawOk Tryz.prog 23 (fref_Right_law n):=readC_ok (law_ok Tryz.func23 rfl rfl (by decide) rfl prog_noRow prog_mix (callT_ok prog_noRow prog_mix (Dj n) insNil) (cuts_ok (fn:=Tryz.f23) (L:=fref_Right_C n) (ks:=[.loop 2]) ⟨EJ n,trivial⟩ (by kernel_rfl) (by kernel_rfl)) (GK n))
def BP:List (Nat×C):=[(0,.l 9)]
def CF:List Wo:=[⟨.ret,[],[],[.s 4]⟩]
def CG (n:Nat) (lines:List ByteArray):Option ((Bool×Unit)) :=
    (Ej n lines).bind fun v0 =>
    bif v0.fst then((CE n lines).bind fun v1 =>
    some (v1.fst,())) else
    some (false,())
def Eo (n:Nat) (y:C.Ds Ty (snds BP)):Option (YT Ty CF):=CG n y.1
noncomputable def flaw_ready_law (n:Nat):Law Ty:=readC (lawC BP 0 CF (Eo n))
noncomputable def flaw_ready_T (n:Nat):List (Nat×Law Ty):=[(19,flaw_Few_law n),(23,fref_Right_law n)]
theorem Gu (n:Nat):LawsOk Tryz.prog (flaw_ready_T n):=⟨Gt n,⟨EL n,trivial⟩⟩
noncomputable def flaw_ready_C (n:Nat):CutL Ty:=[]
theorem GL (n:Nat) (x:C.Ds Ty (snds BP)):(exec Tryz.prog 9 (callT Tryz.prog (flaw_ready_T n) []) (cutsOf (flaw_ready_C n)) (codeOf Tryz.f27) (embS BP x)).runK (typeRt Tryz.prog Tryz.f27.results.toList 0 CF)=Eo n x:=by kernel_rfl
theorem EM (n:Nat):LawOk Tryz.prog 27 (flaw_ready_law n):=readC_ok (law_ok Tryz.func27 rfl rfl (by decide) rfl prog_noRow prog_mix (callT_ok prog_noRow prog_mix (Gu n) insNil) (cuts_ok (fn:=Tryz.f27) (L:=flaw_ready_C n) (ks:=[]) trivial (by kernel_rfl) (by kernel_rfl)) (GL n))
def Ba:List (Nat×C):=[]
def BH:List Wo:=[⟨.ret,[],[],[.u 114]⟩]
def DC (n:Nat):Option ((Session×Unit)) :=
    some (Session.mk (State.mk [] [] [] [] (Week.mk 7 [] [] 600 5 3000) []),())
def CQ (n:Nat) (y:C.Ds Ty (snds Ba)):Option (YT Ty BH):=DC n
noncomputable def fgarage_begin_law (n:Nat):Law Ty:=lawC Ba 0 BH (CQ n)
noncomputable def fgarage_begin_T (n:Nat):List (Nat×Law Ty):=[]
theorem Ep (n:Nat):LawsOk Tryz.prog (fgarage_begin_T n):=trivial
noncomputable def fgarage_begin_C (n:Nat):CutL Ty:=[]
theorem EN (n:Nat) (x:C.Ds Ty (snds Ba)):(exec Tryz.prog 5 (callT Tryz.prog (fgarage_begin_T n) []) (cutsOf (fgarage_begin_C n)) (codeOf Tryz.f101) (embS Ba x)).runK (typeRt Tryz.prog Tryz.f101.results.toList 0 BH)=CQ n x:=by kernel_rfl
theorem D7 (n:Nat):LawOk Tryz.prog 101 (fgarage_begin_law n):=law_ok Tryz.func101 rfl rfl (by decide) rfl prog_noRow prog_mix (callT_ok prog_noRow prog_mix (Ep n) insNil) (cuts_ok (fn:=Tryz.f101) (L:=fgarage_begin_C n) (ks:=[]) trivial (by kernel_rfl) (by kernel_rfl)) (EN n)
def A3:List (Nat×C):=[(5,.l 9),(6,.s 3),(7,.o 3),(8,.s 3)]
def BI:List Wo:=[⟨.exit 0,[],[(5,.l 9),(7,.o 3)],[]⟩,⟨.ret,[],[(2,.s 9),(3,.l 3),(4,.s 4)],[]⟩]
def BQ:List (Nat×C):=[(0,.s 9)]
def CH:List Wo:=[⟨.ret,[],[],[.s 9,.l 3,.s 4]⟩]
def AU:Nat→(List ByteArray)→Int→(List Int)→Int→Option ((List ByteArray×List Int×Unit) ⊕ ((ByteArray×List Int×Bool×Unit)))
  | 0,_,_,_,_=>none
  | n+1,parts,n_,l,i =>
    bif decide (i≤n_) then((idx parts i).bind fun v0 =>
    (CC n v0).bind fun v1 =>
    bif !v1.snd.fst then(some (.inr (B [],([],(false,()))))) else
    (app l [v1.fst]).bind fun v2 =>
    AU n parts n_ v2 (IntKind.i64.wrap (i+1))) else
    some (.inl (parts,(l,())))
def Bb (n:Nat) (y:C.Ds Ty (snds A3)):Option (YT Ty BI):=AU n y.1 y.2.1 y.2.2.1 y.2.2.2.1
noncomputable def fref_Parse_l1_cut (n:Nat):St Ty→Tr (Lf Ty):=cutC A3 0 BI (Bb n)
def CI (n:Nat) (line:ByteArray):Option ((ByteArray×List Int×Bool×Unit)) :=
    (CA n line).bind fun v0 =>
    (idx v0.fst 0).bind fun v1 =>
    (D1 n v1).bind fun v2 =>
    bif !decide (v2.fst=0) then(bif (↑v0.fst.length:Int) != IntKind.i64.wrap (v2.fst+1) then(some (B [],([],(false,())))) else
    (AU n v0.fst v2.fst [] 1).bind fun v3 =>
    Sum.elim (fun v4=>(idx v4.fst 0).bind fun v5 =>
    some (v5,(v4.snd.fst,(true,())))) (fun v4=>some (v4.fst,(v4.snd.fst,(v4.snd.snd.fst,())))) (v3)) else
    some (B [],([],(false,())))
def Er (n:Nat) (y:C.Ds Ty (snds BQ)):Option (YT Ty CH):=CI n y.1
noncomputable def fref_Parse_law (n:Nat):Law Ty:=lawC BQ 0 CH (Er n)
noncomputable def fref_Parse_T (n:Nat):List (Nat×Law Ty):=[(63,fref_Split_law n),(64,fref_many_law n),(65,fref_whole_law n)]
theorem Dk (n:Nat):LawsOk Tryz.prog (fref_Parse_T n):=⟨EE n,⟨Fu n,⟨EH n,trivial⟩⟩⟩
noncomputable def fref_Parse_l1_C (n:Nat):CutL Ty:=[]
theorem EO (n:Nat) (x:C.Ds Ty (snds A3)):(exec Tryz.prog 49 (callT Tryz.prog (fref_Parse_T n) []) (cutsOf (fref_Parse_l1_C n)) (bodyAt 7 Tryz.f28) (embS A3 x)).runK (typeRd 0 A3 BI (Bb n))=Bb (n+1) x:=by kernel_rfl
theorem EP (n:Nat):CutOk true Tryz.prog 49 (fref_Parse_l1_cut n) (.loop (bodyAt 7 Tryz.f28)):=cut_ok fun x y hy=>can_loop (Fn:=Bb) prog_noRow prog_mix (fun n=>callT_ok prog_noRow prog_mix (Dk n) insNil) (fun h=>by cases h) (fun h=>by cases h) (fun n=>(cuts_ok (fn:=Tryz.f28) (L:=fref_Parse_l1_C n) (ks:=[]) trivial (by kernel_rfl) (by kernel_rfl))) (by decide) (fun _=>rfl) EO hy
noncomputable def fref_Parse_C (n:Nat):CutL Ty:=[(.loop 7,fref_Parse_l1_cut n)]
theorem GM (n:Nat) (x:C.Ds Ty (snds BQ)):(exec Tryz.prog 49 (callT Tryz.prog (fref_Parse_T n) []) (cutsOf (fref_Parse_C n)) (codeOf Tryz.f28) (embS BQ x)).runK (typeRt Tryz.prog Tryz.f28.results.toList 0 CH)=Er n x:=by kernel_rfl
theorem EQ (n:Nat):LawOk Tryz.prog 28 (fref_Parse_law n):=law_ok Tryz.func28 rfl rfl (by decide) rfl prog_noRow prog_mix (callT_ok prog_noRow prog_mix (Dk n) insNil) (cuts_ok (fn:=Tryz.f28) (L:=fref_Parse_C n) (ks:=[.loop 7]) ⟨EP n,trivial⟩ (by kernel_rfl) (by kernel_rfl)) (GM n)
def Cl:List (Nat×C):=[(0,.s 9)]
def Dl:List Wo:=[⟨.ret,[],[],[.g 65,.s 4]⟩]
def D2 (n:Nat) (line:ByteArray):Option ((Card×Bool×Unit)) :=
    (CI n line).bind fun v0 =>
    bif !v0.snd.snd.fst then(some (Card.mk 0 0 0 (IK.mk 0) 0 0,(false,()))) else
    bif v0.fst.beq (B [102,111,117,110,100]) then((idx v0.snd.fst 0).bind fun v1 =>
    (idx v0.snd.fst 1).bind fun v2 =>
    (idx v0.snd.fst 2).bind fun v3 =>
    (idx v0.snd.fst 3).bind fun v4 =>
    some (Card.mk v1 v2 v3 (IK.mk 0) v4 0,(true,()))) else
    bif v0.fst.beq (B [104,101,108,100]) then((idx v0.snd.fst 0).bind fun v1 =>
    (idx v0.snd.fst 1).bind fun v2 =>
    (idx v0.snd.fst 2).bind fun v3 =>
    (idx v0.snd.fst 3).bind fun v4 =>
    some (Card.mk v1 v2 v3 (IK.mk 1) v4 0,(true,()))) else
    bif v0.fst.beq (B [115,105,103,110,101,100]) then((idx v0.snd.fst 0).bind fun v1 =>
    (idx v0.snd.fst 1).bind fun v2 =>
    (idx v0.snd.fst 2).bind fun v3 =>
    (idx v0.snd.fst 3).bind fun v4 =>
    some (Card.mk v1 v2 v3 (IK.mk 2) 0 v4,(true,()))) else
    bif v0.fst.beq (B [99,104,101,99,107,101,100]) then((idx v0.snd.fst 0).bind fun v1 =>
    (idx v0.snd.fst 1).bind fun v2 =>
    (idx v0.snd.fst 2).bind fun v3 =>
    some (Card.mk v1 v2 v3 (IK.mk 3) 0 0,(true,()))) else
    some (Card.mk 0 0 0 (IK.mk 0) 0 0,(false,()))
def Fk (n:Nat) (y:C.Ds Ty (snds Cl)):Option (YT Ty Dl):=D2 n y.1
noncomputable def fref_Card_law (n:Nat):Law Ty:=lawC Cl 0 Dl (Fk n)
noncomputable def fref_Card_T (n:Nat):List (Nat×Law Ty):=[(28,fref_Parse_law n)]
theorem GN (n:Nat):LawsOk Tryz.prog (fref_Card_T n):=⟨EQ n,trivial⟩
noncomputable def fref_Card_C (n:Nat):CutL Ty:=[]
theorem Hx (n:Nat) (x:C.Ds Ty (snds Cl)):(exec Tryz.prog 75 (callT Tryz.prog (fref_Card_T n) []) (cutsOf (fref_Card_C n)) (codeOf Tryz.f30) (embS Cl x)).runK (typeRt Tryz.prog Tryz.f30.results.toList 0 Dl)=Fk n x:=by kernel_rfl
theorem Fv (n:Nat):LawOk Tryz.prog 30 (fref_Card_law n):=law_ok Tryz.func30 rfl rfl (by decide) rfl prog_noRow prog_mix (callT_ok prog_noRow prog_mix (GN n) insNil) (cuts_ok (fn:=Tryz.f30) (L:=fref_Card_C n) (ks:=[]) trivial (by kernel_rfl) (by kernel_rfl)) (Hx n)
def Ar:List (Nat×C):=[(4,.u 114),(5,.f 84 [.q 0] []),(6,.o 37),(12,.l 9),(13,.s 3),(14,.s 3)]
def Bo:List Wo:=[⟨.exit 0,[.u 114],[(4,.q 0),(6,.o 37)],[]⟩]
def Bp:List (Nat×C):=[(0,.l 9)]
def BY:List Wo:=[⟨.ret,[],[],[.u 114,.l 37]⟩]
def Ap:Nat→Session→(List Int)→(List ByteArray)→Int→Int→Option ((Session×Unit×List Int×Unit))
  | 0,_,_,_,_,_=>none
  | n+1,g,errors,x12,x13,x14 =>
    bif decide (x14<x13) then((idx x12 x14).bind fun v0 =>
    (JJ n g v0).bind fun v1 =>
    (app errors [v1.snd.fst]).bind fun v2 =>
    Ap n v1.fst v2 x12 x13 (IntKind.i64.wrap (x14+1))) else
    some (g,((),(errors,())))
def A7 (n:Nat) (y:C.Ds Ty (snds Ar)):Option (YT Ty Bo):=Ap n y.1 y.2.2.1 y.2.2.2.1 y.2.2.2.2.1 y.2.2.2.2.2.1
noncomputable def fgarage_play_l1_cut (n:Nat):St Ty→Tr (Lf Ty):=cutC Ar 1 Bo (A7 n)
def Bq (n:Nat) (lines:List ByteArray):Option ((Session×List Int×Unit)) :=
    (DC n).bind fun v0 =>
    (Ap n v0.fst [] lines (↑lines.length:Int) 0).bind fun v1 =>
    some (v1.fst,(v1.snd.snd.fst,()))
def Dm (n:Nat) (y:C.Ds Ty (snds Bp)):Option (YT Ty BY):=Bq n y.1
noncomputable def fgarage_play_law (n:Nat):Law Ty:=lendS (lawC Bp 0 BY (Dm n))
noncomputable def fgarage_play_T (n:Nat):List (Nat×Law Ty):=[(101,fgarage_begin_law n),(84,nextS_law n)]
theorem Cv (n:Nat):LawsOk Tryz.prog (fgarage_play_T n):=⟨D7 n,⟨HN n,trivial⟩⟩
noncomputable def fgarage_play_l1_C (n:Nat):CutL Ty:=[]
theorem DK (n:Nat) (x:C.Ds Ty (snds Ar)):(exec Tryz.prog 27 (callT Tryz.prog (fgarage_play_T n) []) (cutsOf (fgarage_play_l1_C n)) (bodyAt 5 Tryz.f53) (embS Ar x)).runK (typeRd 1 Ar Bo (A7 n))=A7 (n+1) x:=by kernel_rfl
theorem DL (n:Nat):CutOk true Tryz.prog 27 (fgarage_play_l1_cut n) (.loop (bodyAt 5 Tryz.f53)):=cut_ok fun x y hy=>can_loop (Fn:=A7) prog_noRow prog_mix (fun n=>callT_ok prog_noRow prog_mix (Cv n) insNil) (fun h=>by cases h) (fun h=>by cases h) (fun n=>(cuts_ok (fn:=Tryz.f53) (L:=fgarage_play_l1_C n) (ks:=[]) trivial (by kernel_rfl) (by kernel_rfl))) (by decide) (fun _=>rfl) DK hy
noncomputable def fgarage_play_C (n:Nat):CutL Ty:=[(.loop 5,fgarage_play_l1_cut n)]
theorem Fw (n:Nat) (x:C.Ds Ty (snds Bp)):(exec Tryz.prog 27 (callT Tryz.prog (fgarage_play_T n) []) (cutsOf (fgarage_play_C n)) (codeOf Tryz.f53) (embS Bp x)).runK (typeRt Tryz.prog Tryz.f53.results.toList 0 BY)=Dm n x:=by kernel_rfl
theorem BZ (n:Nat):LawOk Tryz.prog 53 (fgarage_play_law n):=lendS_ok (by decide) (law_ok Tryz.func53 rfl rfl (by decide) rfl prog_noRow prog_mix (callT_ok prog_noRow prog_mix (Cv n) insNil) (cuts_ok (fn:=Tryz.f53) (L:=fgarage_play_C n) (ks:=[.loop 5]) ⟨DL n,trivial⟩ (by kernel_rfl) (by kernel_rfl)) (Fw n))
def Br:List (Nat×C):=[(0,.l 9)]
def Ca:List Wo:=[⟨.ret,[],[],[.g 35,.l 37,.s 37]⟩]
def Es (n:Nat) (lines:List ByteArray):Option ((State×List Int×Int×Unit)) :=
    (A4 n lines).bind fun v0 =>
    bif v0.fst != 0 then(some (State.mk [] [] [] [] (Week.mk 0 [] [] 0 0 0) [],([],(v0.fst,())))) else
    (Bq n lines).bind fun v1 =>
    some (v1.fst.state,(v1.snd.fst,(0,())))
def Dn (n:Nat) (y:C.Ds Ty (snds Br)):Option (YT Ty Ca):=Es n y.1
noncomputable def fgarage_Play_law (n:Nat):Law Ty:=lawC Br 0 Ca (Dn n)
noncomputable def fgarage_Play_T (n:Nat):List (Nat×Law Ty):=[(52,fgarage_check_law n),(53,fgarage_play_law n)]
theorem ER (n:Nat):LawsOk Tryz.prog (fgarage_Play_T n):=⟨AQ n,⟨BZ n,trivial⟩⟩
noncomputable def fgarage_Play_C (n:Nat):CutL Ty:=[]
theorem Fx (n:Nat) (x:C.Ds Ty (snds Br)):(exec Tryz.prog 24 (callT Tryz.prog (fgarage_Play_T n) []) (cutsOf (fgarage_Play_C n)) (codeOf Tryz.f21) (embS Br x)).runK (typeRt Tryz.prog Tryz.f21.results.toList 0 Ca)=Dn n x:=by kernel_rfl
theorem DM (n:Nat):LawOk Tryz.prog 21 (fgarage_Play_law n):=law_ok Tryz.func21 rfl rfl (by decide) rfl prog_noRow prog_mix (callT_ok prog_noRow prog_mix (ER n) insNil) (cuts_ok (fn:=Tryz.f21) (L:=fgarage_Play_C n) (ks:=[]) trivial (by kernel_rfl) (by kernel_rfl)) (Fx n)
def AI:List (Nat×C):=[(0,.s 9),(1,.p [.u 114])]
def B3:List Wo:=[⟨.ret,[.p [.u 114],.q 1],[],[.s 4]⟩]
def Bs (n:Nat) (text:ByteArray) (x1:Session):Option (((Session×Unit)×Unit×Bool×Unit)) :=
    (splitS n text (B [32])).bind fun v0 =>
    (idx v0.fst 0).bind fun v1 =>
    bif !v1.beq (B [111,117,116]) then(some ((x1,()),((),(false,())))) else
    (idx v0.fst 1).bind fun v2 =>
    (atoiP v2).bind fun v3 =>
    Sum.elim (fun v4=>(idx v0.fst 2).bind fun v5 =>
    (atoiP v5).bind fun v6 =>
    Sum.elim (fun v7=>(fpit_Open n x1.state.cards v4 v7).bind fun v8 =>
    some ((x1,()),((),(decide ((↑v8.fst.length:Int)>0),())))) (fun v7=>(fpit_Open n x1.state.cards v4 v7).bind fun v8 =>
    some ((x1,()),((),(decide ((↑v8.fst.length:Int)>0),())))) (v6)) (fun v4=>(idx v0.fst 2).bind fun v5 =>
    (atoiP v5).bind fun v6 =>
    Sum.elim (fun v7=>(fpit_Open n x1.state.cards v4 v7).bind fun v8 =>
    some ((x1,()),((),(decide ((↑v8.fst.length:Int)>0),())))) (fun v7=>(fpit_Open n x1.state.cards v4 v7).bind fun v8 =>
    some ((x1,()),((),(decide ((↑v8.fst.length:Int)>0),())))) (v6)) (v3)
def Cw (n:Nat) (y:C.Ds Ty (snds AI)):Option (YT Ty B3):=Bs n y.1 y.2.1.1
noncomputable def fgarage_late_1_law (n:Nat):Law Ty:=lawC AI 2 B3 (Cw n)
noncomputable def fgarage_late_1_T (n:Nat):List (Nat×Law Ty):=[(112,splitS_law n),(113,atoiS_law n),(29,fpit_Open_law n)]
theorem DN (n:Nat):LawsOk Tryz.prog (fgarage_late_1_T n):=⟨splitS_lawOk n,⟨atoiS_lawOk n,⟨fpit_Open_lawOk n,trivial⟩⟩⟩
noncomputable def fgarage_late_1_C (n:Nat):CutL Ty:=[]
theorem Et (n:Nat) (x:C.Ds Ty (snds AI)):(exec Tryz.prog 45 (callT Tryz.prog (fgarage_late_1_T n) []) (cutsOf (fgarage_late_1_C n)) (codeOf Tryz.f111) (embS AI x)).runK (typeRt Tryz.prog Tryz.f111.results.toList 2 B3)=Cw n x:=by kernel_rfl
theorem Dp (n:Nat):LawOk Tryz.prog 111 (fgarage_late_1_law n):=law_ok Tryz.func111 rfl rfl (by decide) rfl prog_noRow prog_mix (callT_ok prog_noRow prog_mix (DN n) insNil) (cuts_ok (fn:=Tryz.f111) (L:=fgarage_late_1_C n) (ks:=[]) trivial (by kernel_rfl) (by kernel_rfl)) (Et n)
def As:List (Nat×C):=[(2,.l 37),(6,.o 3),(7,.f 111 [] [.p [.u 114]]),(11,.l 9),(12,.s 3),(13,.s 3)]
def Bt:List Wo:=[⟨.exit 0,[.p [.u 114],.q 1],[(6,.o 3)],[]⟩]
def Bu:List (Nat×C):=[(0,.l 9),(1,.u 114),(2,.l 37)]
def Cb:List Wo:=[⟨.ret,[.u 114],[],[.o 3]⟩]
def Ai:Nat→(List Int)→(List Int)→Session→(List ByteArray)→Int→Int→Option (((Session×Unit)×Unit×List Int×Unit))
  | 0,_,_,_,_,_,_=>none
  | n+1,errors,out,is,x11,x12,x13 =>
    bif decide (x13<x12) then((idx x11 x13).bind fun v0 =>
    (idx errors x13).bind fun v1 =>
    bif decide (v1=0) then((Bs n v0 is).bind fun v2 =>
    bif v2.snd.snd.fst then((app out [x13]).bind fun v3 =>
    Ai n errors v3 v2.fst.fst x11 x12 (IntKind.i64.wrap (x13+1))) else
    Ai n errors out v2.fst.fst x11 x12 (IntKind.i64.wrap (x13+1))) else
    Ai n errors out is x11 x12 (IntKind.i64.wrap (x13+1))) else
    some ((is,()),((),(out,())))
def A8 (n:Nat) (y:C.Ds Ty (snds As)):Option (YT Ty Bt):=Ai n y.1 y.2.1 y.2.2.1.2.1.1 y.2.2.2.1 y.2.2.2.2.1 y.2.2.2.2.2.1
noncomputable def fgarage_late_l1_cut (n:Nat):St Ty→Tr (Lf Ty):=cutC As 2 Bt (A8 n)
def CK (n:Nat) (lines:List ByteArray) (g:Session) (errors:List Int):Option ((Session×List Int×Unit)) :=
    (Ai n errors [] g lines (↑lines.length:Int) 0).bind fun v0 =>
    some (v0.fst.fst,(v0.snd.snd.fst,()))
def Dq (n:Nat) (y:C.Ds Ty (snds Bu)):Option (YT Ty Cb):=CK n y.1 y.2.1 y.2.2.1
noncomputable def fgarage_late_law (n:Nat):Law Ty:=lawC Bu 1 Cb (Dq n)
noncomputable def fgarage_late_T (n:Nat):List (Nat×Law Ty):=[(111,fgarage_late_1_law n)]
theorem Cx (n:Nat):LawsOk Tryz.prog (fgarage_late_T n):=⟨Dp n,trivial⟩
noncomputable def fgarage_late_l1_C (n:Nat):CutL Ty:=[]
theorem DO (n:Nat) (x:C.Ds Ty (snds As)):(exec Tryz.prog 34 (callT Tryz.prog (fgarage_late_T n) []) (cutsOf (fgarage_late_l1_C n)) (bodyAt 3 Tryz.f70) (embS As x)).runK (typeRd 2 As Bt (A8 n))=A8 (n+1) x:=by kernel_rfl
theorem DP (n:Nat):CutOk true Tryz.prog 34 (fgarage_late_l1_cut n) (.loop (bodyAt 3 Tryz.f70)):=cut_ok fun x y hy=>can_loop (Fn:=A8) prog_noRow prog_mix (fun n=>callT_ok prog_noRow prog_mix (Cx n) insNil) (fun h=>by cases h) (fun h=>by cases h) (fun n=>(cuts_ok (fn:=Tryz.f70) (L:=fgarage_late_l1_C n) (ks:=[]) trivial (by kernel_rfl) (by kernel_rfl))) (by decide) (fun _=>rfl) DO hy
noncomputable def fgarage_late_C (n:Nat):CutL Ty:=[(.loop 3,fgarage_late_l1_cut n)]
theorem Fy (n:Nat) (x:C.Ds Ty (snds Bu)):(exec Tryz.prog 34 (callT Tryz.prog (fgarage_late_T n) []) (cutsOf (fgarage_late_C n)) (codeOf Tryz.f70) (embS Bu x)).runK (typeRt Tryz.prog Tryz.f70.results.toList 1 Cb)=Dq n x:=by kernel_rfl
theorem DQ (n:Nat):LawOk Tryz.prog 70 (fgarage_late_law n):=law_ok Tryz.func70 rfl rfl (by decide) rfl prog_noRow prog_mix (callT_ok prog_noRow prog_mix (Cx n) insNil) (cuts_ok (fn:=Tryz.f70) (L:=fgarage_late_C n) (ks:=[.loop 3]) ⟨DP n,trivial⟩ (by kernel_rfl) (by kernel_rfl)) (Fy n)
def Bv:List (Nat×C):=[(0,.l 9)]
def Cc:List Wo:=[⟨.ret,[],[],[.l 3,.s 37]⟩]
def Bw (n:Nat) (lines:List ByteArray):Option ((List Int×Int×Unit)) :=
    (A4 n lines).bind fun v0 =>
    bif v0.fst != 0 then(some ([],(v0.fst,()))) else
    (Bq n lines).bind fun v1 =>
    (CK n lines v1.fst v1.snd.fst).bind fun v2 =>
    some (v2.snd.fst,(0,()))
def Dr (n:Nat) (y:C.Ds Ty (snds Bv)):Option (YT Ty Cc):=Bw n y.1
noncomputable def fgarage_Late_law (n:Nat):Law Ty:=lawC Bv 0 Cc (Dr n)
noncomputable def fgarage_Late_T (n:Nat):List (Nat×Law Ty):=[(52,fgarage_check_law n),(53,fgarage_play_law n),(70,fgarage_late_law n)]
theorem ET (n:Nat):LawsOk Tryz.prog (fgarage_Late_T n):=⟨AQ n,⟨BZ n,⟨DQ n,trivial⟩⟩⟩
noncomputable def fgarage_Late_C (n:Nat):CutL Ty:=[]
theorem Fz (n:Nat) (x:C.Ds Ty (snds Bv)):(exec Tryz.prog 21 (callT Tryz.prog (fgarage_Late_T n) []) (cutsOf (fgarage_Late_C n)) (codeOf Tryz.f31) (embS Bv x)).runK (typeRt Tryz.prog Tryz.f31.results.toList 0 Cc)=Dr n x:=by kernel_rfl
theorem Cd (n:Nat):LawOk Tryz.prog 31 (fgarage_Late_law n):=law_ok Tryz.func31 rfl rfl (by decide) rfl prog_noRow prog_mix (callT_ok prog_noRow prog_mix (ET n) insNil) (cuts_ok (fn:=Tryz.f31) (L:=fgarage_Late_C n) (ks:=[]) trivial (by kernel_rfl) (by kernel_rfl)) (Fz n)
def AJ:List (Nat×C):=[(0,.s 3),(1,.s 3)]
def B4:List Wo:=[⟨.ret,[],[],[.s 9]⟩]
def Bx (n:Nat) (n_:Int) (many:Int):Option ((ByteArray×Unit)) :=
    (itoaS n n_).bind fun v0 =>
    (repeatS n (B [48]) (if IntKind.i64.wrap (many-(↑v0.fst.size:Int))>0 then IntKind.i64.wrap (many-(↑v0.fst.size:Int)) else 0)).bind fun v1 =>
    (strAdd v1.fst v0.fst).bind fun v2 =>
    some (v2,())
def Cy (n:Nat) (y:C.Ds Ty (snds AJ)):Option (YT Ty B4):=Bx n y.1 y.2.1
noncomputable def fgarage_digits_law (n:Nat):Law Ty:=lawC AJ 0 B4 (Cy n)
noncomputable def fgarage_digits_T (n:Nat):List (Nat×Law Ty):=[(89,itoaS_law n),(244,repeatS_law n)]
theorem DR (n:Nat):LawsOk Tryz.prog (fgarage_digits_T n):=⟨itoaS_lawOk n,⟨repeatS_lawOk n,trivial⟩⟩
noncomputable def fgarage_digits_C (n:Nat):CutL Ty:=[]
theorem Eu (n:Nat) (x:C.Ds Ty (snds AJ)):(exec Tryz.prog 16 (callT Tryz.prog (fgarage_digits_T n) []) (cutsOf (fgarage_digits_C n)) (codeOf Tryz.f181) (embS AJ x)).runK (typeRt Tryz.prog Tryz.f181.results.toList 0 B4)=Cy n x:=by kernel_rfl
theorem Dt (n:Nat):LawOk Tryz.prog 181 (fgarage_digits_law n):=law_ok Tryz.func181 rfl rfl (by decide) rfl prog_noRow prog_mix (callT_ok prog_noRow prog_mix (DR n) insNil) (cuts_ok (fn:=Tryz.f181) (L:=fgarage_digits_C n) (ks:=[]) trivial (by kernel_rfl) (by kernel_rfl)) (Eu n)
def Ak:List (Nat×C):=[(0,.s 9),(5,.s 3),(12,.l 5),(13,.s 3),(14,.s 3)]
def AR:List Wo:=[⟨.exit 0,[],[(0,.s 9),(5,.s 3)],[]⟩]
def AK:List (Nat×C):=[(0,.s 9),(1,.s 3)]
def B5:List Wo:=[⟨.ret,[],[],[.s 9]⟩]
def By:Nat→ByteArray→Int→(List (IK .u8))→Int→Int→Option ((ByteArray×Int×Unit))
  | 0,_,_,_,_,_=>none
  | n+1,s,check,x12,x13,x14 =>
    bif decide (x14<x13) then((idx x12 x14).bind fun v0 =>
    By n s (IntKind.i64.wrap (check+IntKind.i64.wrap (IntKind.i64.wrap (x14+1)*IntKind.i64.wrap (IntKind.i64.wrap v0.n+1)))) x12 x13 (IntKind.i64.wrap (x14+1))) else
    some (s,(check,()))
def Av (n:Nat) (y:C.Ds Ty (snds Ak)):Option (YT Ty AR):=By n y.1 y.2.1 y.2.2.1 y.2.2.2.1 y.2.2.2.2.1
noncomputable def fgarage_record_l1_cut (n:Nat):St Ty→Tr (Lf Ty):=cutC Ak 0 AR (Av n)
def Du (n:Nat) (s:ByteArray) (index:Int):Option ((ByteArray×Unit)) :=
    (By n s (IntKind.i64.wrap (7*IntKind.i64.wrap (index+1))) (btsI s) (↑(btsI s).length:Int) 0).bind fun v0 =>
    (Bx n (↑v0.fst.size:Int) 3).bind fun v1 =>
    (strAdd (B [91]) v1.fst).bind fun v2 =>
    (strAdd v2 (B [47])).bind fun v3 =>
    (Bx n (IntKind.i64.wrap (999-(↑v0.fst.size:Int))) 3).bind fun v4 =>
    (strAdd v3 v4.fst).bind fun v5 =>
    (strAdd v5 (B [47])).bind fun v6 =>
    (Bx n (v0.snd.fst.tmod 99991) 5).bind fun v7 =>
    (strAdd v6 v7.fst).bind fun v8 =>
    (strAdd v8 (B [93])).bind fun v9 =>
    (strAdd v9 v0.fst).bind fun v10 =>
    (strAdd v10 (B [10])).bind fun v11 =>
    some (v11,())
def Cz (n:Nat) (y:C.Ds Ty (snds AK)):Option (YT Ty B5):=Du n y.1 y.2.1
noncomputable def fgarage_record_law (n:Nat):Law Ty:=lawC AK 0 B5 (Cz n)
noncomputable def fgarage_record_T (n:Nat):List (Nat×Law Ty):=[(181,fgarage_digits_law n)]
theorem Ce (n:Nat):LawsOk Tryz.prog (fgarage_record_T n):=⟨Dt n,trivial⟩
noncomputable def fgarage_record_l1_C (n:Nat):CutL Ty:=[]
theorem Dv (n:Nat) (x:C.Ds Ty (snds Ak)):(exec Tryz.prog 47 (callT Tryz.prog (fgarage_record_T n) []) (cutsOf (fgarage_record_l1_C n)) (bodyAt 3 Tryz.f125) (embS Ak x)).runK (typeRd 0 Ak AR (Av n))=Av (n+1) x:=by kernel_rfl
theorem Dw (n:Nat):CutOk true Tryz.prog 47 (fgarage_record_l1_cut n) (.loop (bodyAt 3 Tryz.f125)):=cut_ok fun x y hy=>can_loop (Fn:=Av) prog_noRow prog_mix (fun n=>callT_ok prog_noRow prog_mix (Ce n) insNil) (fun h=>by cases h) (fun h=>by cases h) (fun n=>(cuts_ok (fn:=Tryz.f125) (L:=fgarage_record_l1_C n) (ks:=[]) trivial (by kernel_rfl) (by kernel_rfl))) (by decide) (fun _=>rfl) Dv hy
noncomputable def fgarage_record_C (n:Nat):CutL Ty:=[(.loop 3,fgarage_record_l1_cut n)]
theorem Ev (n:Nat) (x:C.Ds Ty (snds AK)):(exec Tryz.prog 47 (callT Tryz.prog (fgarage_record_T n) []) (cutsOf (fgarage_record_C n)) (codeOf Tryz.f125) (embS AK x)).runK (typeRt Tryz.prog Tryz.f125.results.toList 0 B5)=Cz n x:=by kernel_rfl
theorem Dx (n:Nat):LawOk Tryz.prog 125 (fgarage_record_law n):=law_ok Tryz.func125 rfl rfl (by decide) rfl prog_noRow prog_mix (callT_ok prog_noRow prog_mix (Ce n) insNil) (cuts_ok (fn:=Tryz.f125) (L:=fgarage_record_C n) (ks:=[.loop 3]) ⟨Dw n,trivial⟩ (by kernel_rfl) (by kernel_rfl)) (Ev n)
def Ag:List (Nat×C):=[(2,.o 5),(5,.l 9),(6,.s 3),(7,.s 3)]
def AF:List Wo:=[⟨.exit 0,[],[(2,.o 5)],[]⟩]
def A9:List (Nat×C):=[(0,.l 9)]
def Bz:List Wo:=[⟨.ret,[],[],[.l 5]⟩]
def Bf:Nat→(List (IK .u8))→(List ByteArray)→Int→Int→Option ((List (IK .u8)×Unit))
  | 0,_,_,_,_=>none
  | n+1,out,x5,x6,x7 =>
    bif decide (x7<x6) then((idx x5 x7).bind fun v0 =>
    (Du n v0 x7).bind fun v1 =>
    (app out (btsI v1.fst)).bind fun v2 =>
    Bf n v2 x5 x6 (IntKind.i64.wrap (x7+1))) else
    some (out,())
def At (n:Nat) (y:C.Ds Ty (snds Ag)):Option (YT Ty AF):=Bf n y.1 y.2.1 y.2.2.1 y.2.2.2.1
noncomputable def fgarage_written_l1_cut (n:Nat):St Ty→Tr (Lf Ty):=cutC Ag 0 AF (At n)
def CS (n:Nat) (lines:List ByteArray):Option ((List (IK .u8)×Unit)) :=
    (Bf n [] lines (↑lines.length:Int) 0).bind fun v0 =>
    some (v0.fst,())
def Cm (n:Nat) (y:C.Ds Ty (snds A9)):Option (YT Ty Bz):=CS n y.1
noncomputable def fgarage_written_law (n:Nat):Law Ty:=lawC A9 0 Bz (Cm n)
noncomputable def fgarage_written_T (n:Nat):List (Nat×Law Ty):=[(125,fgarage_record_law n)]
theorem BK (n:Nat):LawsOk Tryz.prog (fgarage_written_T n):=⟨Dx n,trivial⟩
noncomputable def fgarage_written_l1_C (n:Nat):CutL Ty:=[]
theorem CU (n:Nat) (x:C.Ds Ty (snds Ag)):(exec Tryz.prog 19 (callT Tryz.prog (fgarage_written_T n) []) (cutsOf (fgarage_written_l1_C n)) (bodyAt 2 Tryz.f78) (embS Ag x)).runK (typeRd 0 Ag AF (At n))=At (n+1) x:=by kernel_rfl
theorem CV (n:Nat):CutOk true Tryz.prog 19 (fgarage_written_l1_cut n) (.loop (bodyAt 2 Tryz.f78)):=cut_ok fun x y hy=>can_loop (Fn:=At) prog_noRow prog_mix (fun n=>callT_ok prog_noRow prog_mix (BK n) insNil) (fun h=>by cases h) (fun h=>by cases h) (fun n=>(cuts_ok (fn:=Tryz.f78) (L:=fgarage_written_l1_C n) (ks:=[]) trivial (by kernel_rfl) (by kernel_rfl))) (by decide) (fun _=>rfl) CU hy
noncomputable def fgarage_written_C (n:Nat):CutL Ty:=[(.loop 2,fgarage_written_l1_cut n)]
theorem DS (n:Nat) (x:C.Ds Ty (snds A9)):(exec Tryz.prog 19 (callT Tryz.prog (fgarage_written_T n) []) (cutsOf (fgarage_written_C n)) (codeOf Tryz.f78) (embS A9 x)).runK (typeRt Tryz.prog Tryz.f78.results.toList 0 Bz)=Cm n x:=by kernel_rfl
theorem CW (n:Nat):LawOk Tryz.prog 78 (fgarage_written_law n):=law_ok Tryz.func78 rfl rfl (by decide) rfl prog_noRow prog_mix (callT_ok prog_noRow prog_mix (BK n) insNil) (cuts_ok (fn:=Tryz.f78) (L:=fgarage_written_C n) (ks:=[.loop 2]) ⟨CV n,trivial⟩ (by kernel_rfl) (by kernel_rfl)) (DS n)
def Bc:List (Nat×C):=[(0,.l 9)]
def BJ:List Wo:=[⟨.ret,[],[],[.l 5,.s 37]⟩]
def DD (n:Nat) (lines:List ByteArray):Option ((List (IK .u8)×Int×Unit)) :=
    (A4 n lines).bind fun v0 =>
    bif v0.fst != 0 then(some ([],(v0.fst,()))) else
    (CS n lines).bind fun v1 =>
    some (v1.fst,(0,()))
def CT (n:Nat) (y:C.Ds Ty (snds Bc)):Option (YT Ty BJ):=DD n y.1
noncomputable def fgarage_Write_law (n:Nat):Law Ty:=lawC Bc 0 BJ (CT n)
noncomputable def fgarage_Write_T (n:Nat):List (Nat×Law Ty):=[(52,fgarage_check_law n),(78,fgarage_written_law n)]
theorem Ew (n:Nat):LawsOk Tryz.prog (fgarage_Write_T n):=⟨AQ n,⟨CW n,trivial⟩⟩
noncomputable def fgarage_Write_C (n:Nat):CutL Ty:=[]
theorem EU (n:Nat) (x:C.Ds Ty (snds Bc)):(exec Tryz.prog 12 (callT Tryz.prog (fgarage_Write_T n) []) (cutsOf (fgarage_Write_C n)) (codeOf Tryz.f37) (embS Bc x)).runK (typeRt Tryz.prog Tryz.f37.results.toList 0 BJ)=CT n x:=by kernel_rfl
theorem D8 (n:Nat):LawOk Tryz.prog 37 (fgarage_Write_law n):=law_ok Tryz.func37 rfl rfl (by decide) rfl prog_noRow prog_mix (callT_ok prog_noRow prog_mix (Ew n) insNil) (cuts_ok (fn:=Tryz.f37) (L:=fgarage_Write_C n) (ks:=[]) trivial (by kernel_rfl) (by kernel_rfl)) (EU n)
def AA:Nat→Int→(List (IK .u8))→Int→Int→Option ((Int×Unit) ⊕ ((Int×Unit)))
  | 0,_,_,_,_=>none
  | n+1,n_,x6,x7,x8 =>
    bif decide (x8<x7) then((idx x6 x8).bind fun v0 =>
    bif !decide (v0.n<48) then(bif decide (v0.n>57) then(some (.inr (-1,()))) else
    AA n (IntKind.i64.wrap (IntKind.i64.wrap (10*n_)+IntKind.i64.wrap (IntKind.u8.wrap (v0.n-48)))) x6 x7 (IntKind.i64.wrap (x8+1))) else
    some (.inr (-1,()))) else
    some (.inl (n_,()))
def Dy (n:Nat) (l:List (IK .u8)):Option ((Int×Unit)) :=
    (AA n 0 l (↑l.length:Int) 0).bind fun v0 =>
    Sum.elim (fun v1=>some (v1.fst,())) (fun v1=>some (v1.fst,())) (v0)
def BR:List (Nat×C):=[]
def CL:List Wo:=[⟨.ret,[],[],[.l 9]⟩]
def DT (n:Nat):Option ((List ByteArray×Unit)) :=
    some ([B [102,111,117,110,100,32,55,32,49,32,49,48,48,32,51],B [111,117,116,32,55,32,49,53,48],B [111,117,116,32,56,32,49,53,48],B [105,110,32,56,32,50,48,48,32,51,48],B [115,105,103,110,101,100,32,55,32,50,32,49,54,48,32,49],B [111,117,116,32,55,32,49,55,48],B [104,101,108,100,32,56,32,51,32,49,52,48,32,50],B [111,117,116,32,56,32,51,48,48],B [115,97,108,101,32,53,32,50,32,49,53,32,49,32,51,48,48],B [99,108,111,115,101,32,53,32,52,32,51,48,32,50,32,53,48,48],B [100,114,105,118,101,114,32,49,32,45,57,48,48],B [100,117,116,121,32,48,32,51,48,48,32,57,48,48,32,49,48,48,48,32,49],B [100,117,116,121,32,49,32,49,48,48,32,53,48,48,32,53,48,48,32,49],B [103,105,118,101,32,48,32,48],B [103,105,118,101,32,49,32,48],B [105,110,32,55,32,49,54,53,32,53]],())
def Ey (n:Nat) (y:C.Ds Ty (snds BR)):Option (YT Ty CL):=DT n
noncomputable def flaw_shift_law (n:Nat):Law Ty:=lawC BR 0 CL (Ey n)
noncomputable def flaw_shift_T (n:Nat):List (Nat×Law Ty):=[]
theorem Gv (n:Nat):LawsOk Tryz.prog (flaw_shift_T n):=trivial
noncomputable def flaw_shift_C (n:Nat):CutL Ty:=[]
theorem GO (n:Nat) (x:C.Ds Ty (snds BR)):(exec Tryz.prog 2 (callT Tryz.prog (flaw_shift_T n) []) (cutsOf (flaw_shift_C n)) (codeOf Tryz.f51) (embS BR x)).runK (typeRt Tryz.prog Tryz.f51.results.toList 0 CL)=Ey n x:=by kernel_rfl
theorem EV (n:Nat):LawOk Tryz.prog 51 (flaw_shift_law n):=law_ok Tryz.func51 rfl rfl (by decide) rfl prog_noRow prog_mix (callT_ok prog_noRow prog_mix (Gv n) insNil) (cuts_ok (fn:=Tryz.f51) (L:=flaw_shift_C n) (ks:=[]) trivial (by kernel_rfl) (by kernel_rfl)) (GO n)
def BS:List (Nat×C):=[]
def CM:List Wo:=[⟨.ret,[],[],[.s 4]⟩]
def Cf (n:Nat):Option ((Bool×Unit)) :=
    (DT n).bind fun v0 =>
    (Es n v0.fst).bind fun v1 =>
    (DT n).bind fun v2 =>
    (Bw n v2.fst).bind fun v3 =>
    (DD n [B [97]]).bind fun v4 =>
    bif !v1.snd.snd.fst != 0 then(bif !v3.snd.fst != 0 then(bif !v4.snd.fst != 0 then(bif (↑v1.snd.fst.length:Int) != 16 then(some (false,())) else
    (idx v1.snd.fst 1).bind fun v5 =>
    bif decide (v5=11) then((idx v1.snd.fst 7).bind fun v6 =>
    bif decide (v6=11) then((idx v1.snd.fst 14).bind fun v7 =>
    bif decide (v7=10) then((idx v1.snd.fst 15).bind fun v8 =>
    bif decide (v8=2) then(bif decide ((↑v1.fst.runs.length:Int)=1) then((idx v1.fst.runs 0).bind fun v9 =>
    bif decide (v9.bus=8) && (decide (v9.fr=150) && (decide (v9.to_=200) && (decide (v9.miles=30) && true))) then(bif decide ((↑v1.fst.outs.length:Int)=1) then((idx v1.fst.outs 0).bind fun v10 =>
    bif decide (v10.bus=7) && (decide (v10.fr=170) && true) then((EB n v1.fst.roster [0,-1]).bind fun v11 =>
    bif v11.fst then((EB n v3.fst [2]).bind fun v12 =>
    bif v12.fst then(some ((strI v4.fst).beq (B [91,48,48,49,47,57,57,56,47,48,48,49,48,53,93,97,10]),())) else
    some (false,())) else
    some (false,())) else
    some (false,())) else
    some (false,())) else
    some (false,())) else
    some (false,())) else
    some (false,())) else
    some (false,())) else
    some (false,())) else
    some (false,())) else
    some (false,())) else
    some (false,())) else
    some (false,())
def Ez (n:Nat) (y:C.Ds Ty (snds BS)):Option (YT Ty CM):=Cf n
noncomputable def flaw_wakes_law (n:Nat):Law Ty:=lawC BS 0 CM (Ez n)
noncomputable def flaw_wakes_T (n:Nat):List (Nat×Law Ty):=[(51,flaw_shift_law n),(21,fgarage_Play_law n),(31,fgarage_Late_law n),(37,fgarage_Write_law n),(32,flaw_ints_law n)]
theorem Gw (n:Nat):LawsOk Tryz.prog (flaw_wakes_T n):=⟨EV n,⟨DM n,⟨Cd n,⟨D8 n,⟨Ft n,trivial⟩⟩⟩⟩⟩
noncomputable def flaw_wakes_C (n:Nat):CutL Ty:=[]
theorem GP (n:Nat) (x:C.Ds Ty (snds BS)):(exec Tryz.prog 105 (callT Tryz.prog (flaw_wakes_T n) []) (cutsOf (flaw_wakes_C n)) (codeOf Tryz.f20) (embS BS x)).runK (typeRt Tryz.prog Tryz.f20.results.toList 0 CM)=Ez n x:=by kernel_rfl
theorem EW (n:Nat):LawOk Tryz.prog 20 (flaw_wakes_law n):=law_ok Tryz.func20 rfl rfl (by decide) rfl prog_noRow prog_mix (callT_ok prog_noRow prog_mix (Gw n) insNil) (cuts_ok (fn:=Tryz.f20) (L:=flaw_wakes_C n) (ks:=[]) trivial (by kernel_rfl) (by kernel_rfl)) (GP n)
def Ah:List (Nat×C):=[(0,.l 9),(3,.o 9),(4,.o 9),(5,.s 3)]
def AG:List Wo:=[⟨.exit 0,[],[(3,.o 9),(4,.o 9)],[]⟩]
def AB:List (Nat×C):=[(0,.l 9)]
def B0:List Wo:=[⟨.ret,[],[],[.s 4]⟩]
def Ae:Nat→(List ByteArray)→(List ByteArray)→(List ByteArray)→Int→Option ((List ByteArray×List ByteArray×Unit))
  | 0,_,_,_,_=>none
  | n+1,lines,first,then_,i =>
    bif decide (i<(↑lines.length:Int)) then((idx lines i).bind fun v0 =>
    (D2 n v0).bind fun v1 =>
    bif v1.snd.fst then((idx lines i).bind fun v2 =>
    (app first [v2]).bind fun v3 =>
    Ae n lines v3 then_ (IntKind.i64.wrap (i+1))) else
    (idx lines i).bind fun v2 =>
    (app then_ [v2]).bind fun v3 =>
    Ae n lines first v3 (IntKind.i64.wrap (i+1))) else
    some (first,(then_,()))
def Au (n:Nat) (y:C.Ds Ty (snds Ah)):Option (YT Ty AG):=Ae n y.1 y.2.1 y.2.2.1 y.2.2.2.1
noncomputable def flaw_GarageSoon_l1_cut (n:Nat):St Ty→Tr (Lf Ty):=cutC Ah 0 AG (Au n)
def Bd (n:Nat) (lines:List ByteArray):Option ((Bool×Unit)) :=
    (CG n lines).bind fun v0 =>
    bif !v0.fst then((Cf n).bind fun v1 =>
    some (v1.fst,())) else
    (Ae n lines [] [] 0).bind fun v1 =>
    (app v1.fst v1.snd.fst).bind fun v2 =>
    (Bw n v2).bind fun v3 =>
    bif decide (v3.snd.fst=0) then(bif decide ((↑v3.fst.length:Int)=0) then((Cf n).bind fun v4 =>
    some (v4.fst,())) else
    some (false,())) else
    some (false,())
def Cn (n:Nat) (y:C.Ds Ty (snds AB)):Option (YT Ty B0):=Bd n y.1
noncomputable def flaw_GarageSoon_law (n:Nat):Law Ty:=readC (lawC AB 0 B0 (Cn n))
noncomputable def flaw_GarageSoon_T (n:Nat):List (Nat×Law Ty):=[(27,flaw_ready_law n),(20,flaw_wakes_law n),(30,fref_Card_law n),(31,fgarage_Late_law n)]
theorem BL (n:Nat):LawsOk Tryz.prog (flaw_GarageSoon_T n):=⟨EM n,⟨EW n,⟨Fv n,⟨Cd n,trivial⟩⟩⟩⟩
noncomputable def flaw_GarageSoon_l1_C (n:Nat):CutL Ty:=[]
theorem CX (n:Nat) (x:C.Ds Ty (snds Ah)):(exec Tryz.prog 60 (callT Tryz.prog (flaw_GarageSoon_T n) []) (cutsOf (flaw_GarageSoon_l1_C n)) (bodyAt 5 Tryz.f5) (embS Ah x)).runK (typeRd 0 Ah AG (Au n))=Au (n+1) x:=by kernel_rfl
theorem CY (n:Nat):CutOk true Tryz.prog 60 (flaw_GarageSoon_l1_cut n) (.loop (bodyAt 5 Tryz.f5)):=cut_ok fun x y hy=>can_loop (Fn:=Au) prog_noRow prog_mix (fun n=>callT_ok prog_noRow prog_mix (BL n) insNil) (fun h=>by cases h) (fun h=>by cases h) (fun n=>(cuts_ok (fn:=Tryz.f5) (L:=flaw_GarageSoon_l1_C n) (ks:=[]) trivial (by kernel_rfl) (by kernel_rfl))) (by decide) (fun _=>rfl) CX hy
noncomputable def flaw_GarageSoon_C (n:Nat):CutL Ty:=[(.loop 5,flaw_GarageSoon_l1_cut n)]
theorem DU (n:Nat) (x:C.Ds Ty (snds AB)):(exec Tryz.prog 60 (callT Tryz.prog (flaw_GarageSoon_T n) []) (cutsOf (flaw_GarageSoon_C n)) (codeOf Tryz.f5) (embS AB x)).runK (typeRt Tryz.prog Tryz.f5.results.toList 0 B0)=Cn n x:=by kernel_rfl
theorem CZ (n:Nat):LawOk Tryz.prog 5 (flaw_GarageSoon_law n):=readC_ok (law_ok Tryz.func5 rfl rfl (by decide) rfl prog_noRow prog_mix (callT_ok prog_noRow prog_mix (BL n) insNil) (cuts_ok (fn:=Tryz.f5) (L:=flaw_GarageSoon_C n) (ks:=[.loop 5]) ⟨CY n,trivial⟩ (by kernel_rfl) (by kernel_rfl)) (DU n))
end Go.Proofs.YtkpgggfibljflaaGreatDoor
namespace Go.Proofs.YtkpgggfibljflaaGreatDoor
open Go Go.RowKit Go.Proofs
theorem JN (k:Nat):Cf (k+60)=some (true,()):=by kernel_rfl
end Go.Proofs.YtkpgggfibljflaaGreatDoor
