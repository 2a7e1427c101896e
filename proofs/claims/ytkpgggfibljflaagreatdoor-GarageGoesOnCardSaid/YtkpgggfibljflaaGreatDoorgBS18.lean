/- What a proof leans on: a machine that steps through code, and what functions compute. -/
import Derived.Test.YtkpgggfibljflaaGreatDoorGaS17
set_option linter.all false
set_option maxRecDepth 100000
namespace Go.Proofs.YtkpgggfibljflaaGreatDoor
open Go Go.RowKit Go.Proofs
open Rep (rep)
def Hk:Code→Code
  | .seq a _=>a
  | c=>c
theorem Iv:codeOf Tryz.f84=.seq (Hk (codeOf Tryz.f84)) (.seq (Hk (dropC 1 (codeOf Tryz.f84))) (dropC 2 (codeOf Tryz.f84))):=by kernel_rfl
def B0:List (Nat×C):=[(0,.u 114),(1,.s 9)]
def Ev:List Wo:=[⟨.ret,[.u 114],[],[.s 37]⟩]
def IC (n:Nat) (g:Session) (text:ByteArray):Option (Session×Int×Unit):=(nextB n g text 0).bind fun y=>match y with
  | .inl a=>some (a.1,a.2.1.1,())
  | .inr a=>some (a.1,a.2.2.2.1.errno,())
def ID (n:Nat) (y:C.Ds Ty (snds B0)):Option (YT Ty Ev):=IC n y.1 y.2.1
noncomputable def nextS_law (n:Nat):Law Ty:=lawC B0 1 Ev (ID n)
noncomputable def nextS_st (x:C.Ds Ty (snds B0)):St Ty:=⟨[(4,.ptr 2000 0),(0,.ptr 0 0),(1,oneOf (UV.view 9 x.2.1))],[(0,.blk (UV.view 114 x.1)),(2000,.blk [.int .i64 0])],2064⟩
theorem JT (x:C.Ds Ty (snds B0)):(exec Tryz.prog 50 (callT Tryz.prog [] []) (cutsOf []) (Hk (codeOf Tryz.f84)) (embS B0 x)).runK some=some ⟨.normal,nextS_st x⟩:=by kernel_rfl
theorem JU (t:Array Value) (d:List Deferred) (w:World) (Q:Exit→Act→World→Prop) (p:Addr) (ht:t.size=50) (hp:t[4]? = some (.pointer (some p)))
    (hQ:∀ t',t'.size=50→(∀ k,k≠11→t'[k]? = t[k]?)→Q .normal ⟨t',⟨.fn (.func 137) #[.pointer (some p)],#[]⟩::d⟩ w):(Hk (dropC 1 (codeOf Tryz.f84))).wp Tryz.prog Q ⟨t,d⟩ w:=by
  have hc:Hk (dropC 1 (codeOf Tryz.f84))=Code.region 1
      #[{ dst:=some 11,op:=Op.makeFunc (Fn.func 137) #[] #[Operand.tmp 4],type:=1,pos := "garage.go:102",
          after:=#[],guard:=none },
        { dst:=none,op:=Op.defer { callee:=Callee.value (Operand.tmp 11),args:=#[],argTypes:=#[] },
          type:=0,pos := "garage.go:102",after:=#[{ on:=0,ground:=Ground.data }],guard:=none }]
      false:=by kernel_rfl
  rw [hc]
  have hmf:∀ (fn:Fn)(first cap:Array Value)(w:World),(Instr.makeFunc fn first cap).run Tryz.prog w=.ok (.func fn first cap) w:=fun _ _ _ _=>rfl
  have h4:4<t.size:=by omega
  have h11:11<t.size:=by omega
  have he:t.getD 4 Go.undef=.pointer (some p):=by simp [Array.getD_eq_getD_getElem?,hp]
  refine wp_region ?_
  simp [wpOps,go_sem,hmf,Region.wanted,Act.eval,h11]
  rw [hp]
  exact .inl (.inl (hQ _ (by simp [ht]) fun k hk=>by rw [Array.getElem?_setIfInBounds_ne (Ne.symm hk)]))
noncomputable def nextS_m1 (a:Session) (e:Int):Sto Ty:=[(2000,.blk [.int .i64 e]),(0,.blk (UV.view 114 a))]
noncomputable def nextS_lf (k:EK) (a:Session) (e r:Int):Lf Ty:=⟨k.ext [.ifc 234 (.agg [.int .i64 r])],⟨[(4,.ptr 2000 0)],nextS_m1 a e,2064⟩⟩
theorem Jm (Fn:C.Ds Ty (snds nextB_D)→Option (YT Ty nextB_E)) (x:C.Ds Ty (snds B0)):(cutC nextB_D 2 nextB_E Fn (nextS_st x)).runK some=(Fn (x.1,x.2.1,((0:Int),()),())).bind fun y=>y.elim (fun a=>some (nextS_lf .ret a.1 a.2.1.1 0)) (fun a=>some (nextS_lf .pan a.1 a.2.1.1 a.2.2.2.1.errno)):=by kernel_rfl
theorem Jn {F:Fr} {h:Heap} {g:GE} {t:Array Value} {w:World} {a:Session} {e:Int} (hk:KnV g h ([(4,.ptr 2000 0)]:List (Nat×V Ty)) t) (hm:MemV F h g (AL.get (nextS_m1 a e)) w):∃ us,V.dens g h ([.int .i64 e]:List (V Ty)) us∧(results Tryz.f84 t).run Tryz.prog w=.ok (tupU us) w :=
  results_sound2 (P:=Tryz.prog) (m:=[(4,.ptr 2000 0)]) (s:=nextS_m1 a e) (vs:=[.int .i64 e]) hk hm (by kernel_rfl)
theorem JV (a:Session) (e:Int):typeRs 1 false ([.int .i64 e]:List (V Ty)) ⟨[],nextS_m1 a e,2064⟩ Ev=some (a,e,()):=by kernel_rfl
theorem IE (a:Session) (e:Int):AL.get (nextS_m1 a e) 2000=some (.blk [.int .i64 e]):=by kernel_rfl
theorem Iw (n:Nat) (x:C.Ds Ty (snds B0)) (y:YT Ty Ev) (hy:ID n x=some y) (F:Fr) (h:Heap) (g:GE) (t:Array Value) (w:World) (R:Ending→World→Prop) (hs:RS Tryz.f84.ntmps F h g (2*rowB) (embS B0 x).m (embS B0 x).s t w)
    (hfin:∀ (F3:Fr)(h2:Heap)(g2:GE)(w3:World)(st:St Ty)(p:Bool)(rv:List (V Ty))(rus:List Value),st.m=[]→FD F F3 [] []→Heap.le h h2→(∀ i,i<2*rowB→g2 i=g i)→2*rowB≤st.nx→MemV F3 h2 g2 (AL.get st.s) w3→InS st.nx (AL.get st.s)→typeRs 1 p rv st Ev=some y→V.dens g2 h2 rv rus→V.oksB (ltN st.nx) rv=true→R (endOf p (tupU rus)) w3) :
    (codeOf Tryz.f84).wp Tryz.prog (bodyPostM Fence.wide 0 Tryz.prog Tryz.f84 R) ⟨t,[]⟩ w:=by
  have hn:Tryz.f84.ntmps=50:=by kernel_rfl
  rw [hn] at hs
  rw [Iv]
  refine wp_seq ?_
  refine exec_sound (y:=true) (call:=callT Tryz.prog [] []) (cuts:=cutsOf []) prog_noRow prog_mix (callT_ok (T:=[]) (I:=[]) prog_noRow prog_mix trivial trivial) (fun h=>by cases h) (Hk (codeOf Tryz.f84)) (fun h=>by cases h) (fun _ _ _ hf=>by cases hf) (embS B0 x) _ (JT x) F h g t w _ [] hs ?_
  intro F1 d1 h1 g1 t1 w1 q0 q1 q2 q3 q4
  have hnx:(embS B0 x).nx=2*rowB:=rfl
  rw [hnx] at q2
  show Code.wp Tryz.prog _ (bodyPostM Fence.wide 0 Tryz.prog Tryz.f84 R) ⟨t1,d1⟩ w1
  refine wp_seq ?_
  obtain⟨u,hu,hd⟩:=q4.kn 4 (.ptr 2000 0) rfl
  unfold V.den at hd
  subst hd
  refine JU t1 d1 w1 _ ⟨(g1 2000).b,0,none⟩ q4.size hu fun t2 ht2 hk2=>?_
  show Code.wp Tryz.prog (dropC 2 (codeOf Tryz.f84)) (bodyPostM Fence.wide 0 Tryz.prog Tryz.f84 R) _ w1
  have hcut:CutOk true Tryz.prog 50 (cutC nextB_D 2 nextB_E (nextB_F n)) (dropC 2 (codeOf Tryz.f84)):=cut_ok fun x y hy=>nextB_can n hy
  have hk3:KnV g1 h1 (nextS_st x).m t2:=fun k v hv=>by
    obtain⟨u',e1,e2⟩:=q4.kn k v hv
    refine⟨u',?_,e2⟩
    rw [hk2 k ?_]; exact e1
    intro hh
    subst hh
    cases hv
  have hs2:RS 50 F1 h1 g1 (nextS_st x).nx (nextS_st x).m (nextS_st x).s t2 w1:=⟨ht2,hk3,q4.mem,q4.im,q4.is_⟩
  -- what comes behind the body
  have fin:∀ (a:Session)(e:Int),(a,e,())=y→∀ (F3:Fr)(h2:Heap)(g2:GE)(t3:Array Value)(w3:World),FD F F3 [] []→Heap.le h1 h2→(∀ i,i<2064→g2 i=g1 i)→KnV g2 h2 ([(4,.ptr 2000 0)]:List (Nat×V Ty)) t3→MemV F3 h2 g2 (AL.get (nextS_m1 a e)) w3→InS 2064 (AL.get (nextS_m1 a e))→LeavesInM Fence.wide 0 Tryz.prog Tryz.f84 t3 R [] .returning w3:=by
    intro a e hye F3 h2 g2 t3 w3 f1 f2 f3 f4 f5 f6
    obtain⟨us,r1,r2⟩:=Jn f4 f5
    refine⟨tupU us,r2,?_⟩
    have hlt:2*rowB≤2064:=by decide
    exact hfin F3 h2 g2 w3 ⟨[],nextS_m1 a e,2064⟩ false [.int .i64 e] us rfl f1 (Heap.le_trans q1 f2) (fun i hi=>by rw [f3 i (Nat.lt_of_lt_of_le hi hlt),q2 i hi]) hlt f5 f6 ((JV a e).trans (congrArg some hye)) r1 rfl
  obtain⟨bs1,hd1,nd1,hX1⟩:=q0.ds
  rw [List.append_nil] at hd1
  have rest:∀ (a:Session)(e:Int),(a,e,())=y→∀ (F3:Fr)(h2:Heap)(g2:GE)(t3:Array Value)(w3:World),FD F1 F3 [] []→Heap.le h1 h2→(∀ i,i<2064→g2 i=g1 i)→KnV g2 h2 ([(4,.ptr 2000 0)]:List (Nat×V Ty)) t3→MemV F3 h2 g2 (AL.get (nextS_m1 a e)) w3→InS 2064 (AL.get (nextS_m1 a e))→LeavesInM Fence.wide 0 Tryz.prog Tryz.f84 t3 R d1 .returning w3:=by
    intro a e hye F3 h2 g2 t3 w3 f1 f2 f3 f4 f5 f6
    have:=leaves_marks_then (P:=Tryz.prog) (F:=F) (h:=h2) (g:=g2) (M:=AL.get (nextS_m1 a e)) (fn:=Tryz.f84) (t:=t3) (R:=R) (u:=.returning) (rest:=[]) (by simp) (fun F4 w4 k1 k2=>fin a e hye F4 h2 g2 t3 w4 k1 f2 f3 f4 k2 f6) bs1 F3 w3 ⟨by rw [f1.w,q0.w],by rw [f1.h,q0.h],fun b o hb=>f1.X b o (q0.X b o hb),[],rfl,List.nodup_nil,by simp⟩ f5 nd1 fun b hb=>⟨(hX1 b hb).1,f1.X _ _ (hX1 b hb).2⟩
    rw [List.append_nil] at this
    rw [hd1]; exact this
  have hy2:((nextB n x.1 x.2.1 0).bind fun y=>match y with
    | .inl a=>some (a.1,a.2.1.1,())
    | .inr a=>some (a.1,a.2.2.2.1.errno,()))=some y:=hy
  obtain⟨y0,hy0,hy3⟩:=Option.bind_eq_some_iff.1 hy2
  have hrun:=Jm (nextB_F n) x
  have hB:nextB_F n (x.1,x.2.1,((0:Int),()),())=some y0:=hy0
  rw [hB] at hrun
  cases y0 with
  | inl a =>
    have hye:=Option.some.inj hy3
    refine hcut (nextS_st x) _ hrun F1 h1 g1 t2 w1 _ _ hs2 ?_
    intro F2 d2 h2 g2 t3 w2 p0 p1 p2 p3 p4
    show LeavesInM Fence.wide 0 Tryz.prog Tryz.f84 t3 R d2 .returning w2
    obtain⟨bs,hd2,nd,hX⟩:=p0.ds
    rw [hd2]
    refine leaves_marks_then (P:=Tryz.prog) (F:=F1) (h:=h2) (g:=g2) (M:=AL.get (nextS_m1 a.1 a.2.1.1)) (by simp) (fun F4 w4 k1 k2=>?_) bs F2 w2 p0.nil p4.mem nd hX
    refine⟨by simp,.inr ⟨fun hh=>by simp [Fence.wide] at hh,_,_,137,#[.pointer (some ⟨(g1 2000).b,0,none⟩)],rfl,by simp [go_sem],fun _ _=>trivial,?_⟩⟩
    refine(catch_idle _ w4).mono ?_
    rintro e u' w' ⟨rfl,rfl,rfl⟩
    exact rest a.1 a.2.1.1 hye F4 h2 g2 t3 w' k1 p1 (fun i hi=>p2 i hi) p4.kn k2 p4.is_
  | inr a =>
    have hye:=Option.some.inj hy3
    refine hcut (nextS_st x) _ hrun F1 h1 g1 t2 w1 _ _ hs2 ?_
    intro F2 d2 h2 g2 t3 w2 p0 p1 p2 p3 p4
    intro v hv _
    show LeavesInM Fence.wide 0 Tryz.prog Tryz.f84 t3 R d2 (.panicking [{ v:=v,recovered:=false }]) w2
    have hvv:v=.iface 234 (.agg #[.int .i64 a.2.2.2.1.errno]):=by
      have hv:V.den g2 h2 (.ifc 234 (.agg [.int .i64 a.2.2.2.1.errno]):V Ty) v:=hv
      unfold V.den at hv
      obtain⟨z,rfl,hz⟩:=hv
      unfold V.den at hz
      obtain⟨us,rfl,hz⟩:=hz
      unfold V.dens at hz
      obtain⟨u1,us1,rfl,hz1,hz2⟩:=hz
      unfold V.dens at hz2
      unfold V.den at hz1
      subst hz1 hz2
      rfl
    subst hvv
    obtain⟨bs,hd2,nd,hX⟩:=p0.ds
    rw [hd2]
    refine leaves_marks_then (P:=Tryz.prog) (F:=F1) (h:=h2) (g:=g2) (M:=AL.get (nextS_m1 a.1 a.2.1.1)) (by simp) (fun F4 w4 k1 k2=>?_) bs F2 w2 p0.nil p4.mem nd hX
    refine⟨by simp,.inr ⟨fun hh=>by simp [Fence.wide] at hh,_,_,137,#[.pointer (some ⟨(g1 2000).b,0,none⟩)],rfl,by simp [go_sem],fun _ _=>trivial,?_⟩⟩
    have hm20:=IE a.1 a.2.1.1
    obtain⟨us,T,b1,b2,b3,b4,b5⟩:=k2.blk hm20
    unfold V.dens at b2
    obtain⟨u1,us1,rfl,b6,b7⟩:=b2
    unfold V.dens at b7
    unfold V.den at b6
    subst b6 b7
    have hg20:(g2 2000).b=(g1 2000).b:=by rw [p2 2000 (show(2000:Nat)<2064 by decide)]
    rw [hg20] at b1
    have hlt:(g1 2000).b<w4.heap.size:=(Array.getElem?_eq_some_iff.1 b1).1
    have hfz:w4.frozen? ⟨(g1 2000).b,0,none⟩=false:=by simp [World.frozen?,b1]
    have hcl:w4.cell? ⟨(g1 2000).b,0,none⟩=some (.int .i64 a.2.1.1):=by
      have:=b5 0 _ rfl
      rw [hg20] at this
      exact this
    refine(catch_panicking ⟨(g1 2000).b,0,none⟩ a.2.1.1 a.2.2.2.1.errno w4 hlt hcl hfz).mono ?_
    rintro e u' w' ⟨rfl,rfl,rfl⟩
    have ha:(w4.alloc (.cells #[.int .i64 a.2.2.2.1.errno] 234)).heap[(g1 2000).b]? = some (.cells #[.int .i64 a.2.1.1] T (0,0)):=by
      rw [show(w4.alloc (.cells #[.int .i64 a.2.2.2.1.errno] 234)).heap=w4.heap.push (.cells #[.int .i64 a.2.2.2.1.errno] 234) from rfl,Array.getElem?_push,if_neg (by omega)]
      exact b1
    have hgr:w4.grownBy (w4.alloc (.cells #[.int .i64 a.2.2.2.1.errno] 234)) none:=World.grownBy_alloc _ _ none
    have hm5:=(k2.grow hgr).set hm20 b4 (w':=(w4.alloc (.cells #[.int .i64 a.2.2.2.1.errno] 234)).setCell ⟨(g1 2000).b,0,none⟩ (.int .i64 a.2.2.2.1.errno)) (by rw [hg20]; exact setCell_grown _ ⟨(g1 2000).b,0,none⟩ _) (c':=.blk [.int .i64 a.2.2.2.1.errno]) ⟨b4,[.int .i64 a.2.2.2.1.errno],T,by rw [hg20]; exact setCell_zero ha,by unfold V.dens V.dens; exact⟨_,[],rfl,by unfold V.den; rfl,rfl⟩,fun u hu=>by simp at hu; subst hu; rfl⟩
    have hsame:Mo.put (AL.get (nextS_m1 a.1 a.2.1.1)) 2000 (some (.blk [.int .i64 a.2.2.2.1.errno]))=AL.get (nextS_m1 a.1 a.2.2.2.1.errno):=by
      funext j
      unfold Mo.put
      by_cases hj:j=2000
      · subst hj; rw [if_pos rfl,IE]
      · rw [if_neg hj]
        show(bif Nat.beq 2000 j then _ else(bif Nat.beq 0 j then _ else none))=(bif Nat.beq 2000 j then _ else(bif Nat.beq 0 j then _ else none))
        have:Nat.beq 2000 j=false:=by
          cases hb:Nat.beq 2000 j with
          | false=>rfl
          | true=>exact absurd (Nat.eq_of_beq_eq_true hb).symm hj
        rw [this]; rfl
    rw [hsame] at hm5
    have his5:InS 2064 (AL.get (nextS_m1 a.1 a.2.2.2.1.errno)):=fun i c hi=>by
      rw [← hsame] at hi
      unfold Mo.put at hi
      split at hi
      · rename_i hj; subst hj; cases hi; exact⟨rfl,rfl⟩
      · exact p4.is_ i c hi
    exact rest a.1 a.2.2.2.1.errno hye F4 h2 g2 t3 _ k1 p1 (fun i hi=>p2 i hi) p4.kn hm5 his5
theorem FB (n:Nat):LawOk Tryz.prog 84 (nextS_law n):=law_body Tryz.func84 rfl rfl (by decide) rfl (Iw n)
end Go.Proofs.YtkpgggfibljflaaGreatDoor
namespace Go.Proofs.YtkpgggfibljflaaGreatDoor
open Go Go.RowKit Go.Proofs
open Rep (rep)
def Am:List (Nat×C):=[(8,.l 9),(9,.s 3),(10,.s 3)]
def Bu:List Wo:=[⟨.exit 0,[],[],[]⟩,⟨.ret,[],[(2,.s 3)],[]⟩]
def Bo:List (Nat×C):=[(0,.l 9)]
def BW:List Wo:=[⟨.ret,[],[],[.s 3]⟩]
def A5:Nat→(List ByteArray)→Int→Int→Option (Unit ⊕ ((Int×Unit)))
  | 0,_,_,_=>none
  | n+1,x8,x9,x10 =>
    bif decide (x10<x9) then((idx x8 x10).bind fun v0 =>
    bif decide ((↑v0.size:Int)>200) then(some (.inr (3,()))) else
    A5 n x8 x9 (IntKind.i64.wrap (x10+1))) else
    some (.inl ())
def A7 (n:Nat) (y:C.Ds Ty (snds Am)):Option (YT Ty Bu):=A5 n y.1 y.2.1 y.2.2.1
noncomputable def fgarage_check_l1_cut (n:Nat):St Ty→Tr (Lf Ty):=cutC Am 0 Bu (A7 n)
def Ay (n:Nat) (lines:List ByteArray):Option ((Int×Unit)) :=
    bif decide ((↑lines.length:Int)>50) then(some (3,())) else
    (A5 n lines (↑lines.length:Int) 0).bind fun v0 =>
    Sum.elim (fun v1=>some (0,())) (fun v1=>some (v1.fst,())) (v0)
def Db (n:Nat) (y:C.Ds Ty (snds Bo)):Option (YT Ty BW):=Ay n y.1
noncomputable def fgarage_check_law (n:Nat):Law Ty:=readC (lawC Bo 0 BW (Db n))
noncomputable def fgarage_check_T (n:Nat):List (Nat×Law Ty):=[]
theorem C0 (n:Nat):LawsOk Tryz.prog (fgarage_check_T n):=trivial
noncomputable def fgarage_check_l1_C (n:Nat):CutL Ty:=[]
theorem DG (n:Nat) (x:C.Ds Ty (snds Am)):(exec Tryz.prog 18 (callT Tryz.prog (fgarage_check_T n) []) (cutsOf (fgarage_check_l1_C n)) (bodyAt 4 Tryz.f52) (embS Am x)).runK (typeRd 0 Am Bu (A7 n))=A7 (n+1) x:=by kernel_rfl
theorem DH (n:Nat):CutOk true Tryz.prog 18 (fgarage_check_l1_cut n) (.loop (bodyAt 4 Tryz.f52)):=cut_ok fun x y hy=>can_loop (Fn:=A7) prog_noRow prog_mix (fun n=>callT_ok prog_noRow prog_mix (C0 n) insNil) (fun h=>by cases h) (fun h=>by cases h) (fun n=>(cuts_ok (fn:=Tryz.f52) (L:=fgarage_check_l1_C n) (ks:=[]) trivial (by kernel_rfl) (by kernel_rfl))) (by decide) (fun _=>rfl) DG hy
noncomputable def fgarage_check_C (n:Nat):CutL Ty:=[(.loop 4,fgarage_check_l1_cut n)]
theorem Fg (n:Nat) (x:C.Ds Ty (snds Bo)):(exec Tryz.prog 18 (callT Tryz.prog (fgarage_check_T n) []) (cutsOf (fgarage_check_C n)) (codeOf Tryz.f52) (embS Bo x)).runK (typeRt Tryz.prog Tryz.f52.results.toList 0 BW)=Db n x:=by kernel_rfl
theorem Az (n:Nat):LawOk Tryz.prog 52 (fgarage_check_law n):=readC_ok (law_ok Tryz.func52 rfl rfl (by decide) rfl prog_noRow prog_mix (callT_ok prog_noRow prog_mix (C0 n) insNil) (cuts_ok (fn:=Tryz.f52) (L:=fgarage_check_C n) (ks:=[.loop 4]) ⟨DH n,trivial⟩ (by kernel_rfl) (by kernel_rfl)) (Fg n))
def AN:List (Nat×C):=[(0,.l 3),(1,.l 3),(5,.s 3)]
def Cp:List Wo:=[⟨.exit 0,[],[],[]⟩,⟨.ret,[],[(4,.s 4)],[]⟩]
def C1:List (Nat×C):=[(0,.l 3),(1,.l 3)]
def Dn:List Wo:=[⟨.ret,[],[],[.s 4]⟩]
def CO:Nat→(List Int)→(List Int)→Int→Option (Unit ⊕ ((Bool×Unit)))
  | 0,_,_,_=>none
  | n+1,a,b,i =>
    bif decide (i<(↑a.length:Int)) then((idx a i).bind fun v0 =>
    (idx b i).bind fun v1 =>
    bif v0 != v1 then(some (.inr (false,()))) else
    CO n a b (IntKind.i64.wrap (i+1))) else
    some (.inl ())
def B1 (n:Nat) (y:C.Ds Ty (snds AN)):Option (YT Ty Cp):=CO n y.1 y.2.1 y.2.2.1
noncomputable def flaw_ints_l1_cut (n:Nat):St Ty→Tr (Lf Ty):=cutC AN 0 Cp (B1 n)
def Fh (n:Nat) (a:List Int) (b:List Int):Option ((Bool×Unit)) :=
    bif (↑a.length:Int) != (↑b.length:Int) then(some (false,())) else
    (CO n a b 0).bind fun v0 =>
    Sum.elim (fun v1=>some (true,())) (fun v1=>some (v1.fst,())) (v0)
def FC (n:Nat) (y:C.Ds Ty (snds C1)):Option (YT Ty Dn):=Fh n y.1 y.2.1
noncomputable def flaw_ints_law (n:Nat):Law Ty:=readC (lawC C1 0 Dn (FC n))
noncomputable def flaw_ints_T (n:Nat):List (Nat×Law Ty):=[]
theorem DN (n:Nat):LawsOk Tryz.prog (flaw_ints_T n):=trivial
noncomputable def flaw_ints_l1_C (n:Nat):CutL Ty:=[]
theorem FO (n:Nat) (x:C.Ds Ty (snds AN)):(exec Tryz.prog 26 (callT Tryz.prog (flaw_ints_T n) []) (cutsOf (flaw_ints_l1_C n)) (bodyAt 4 Tryz.f32) (embS AN x)).runK (typeRd 0 AN Cp (B1 n))=B1 (n+1) x:=by kernel_rfl
theorem FP (n:Nat):CutOk true Tryz.prog 26 (flaw_ints_l1_cut n) (.loop (bodyAt 4 Tryz.f32)):=cut_ok fun x y hy=>can_loop (Fn:=B1) prog_noRow prog_mix (fun n=>callT_ok prog_noRow prog_mix (DN n) insNil) (fun h=>by cases h) (fun h=>by cases h) (fun n=>(cuts_ok (fn:=Tryz.f32) (L:=flaw_ints_l1_C n) (ks:=[]) trivial (by kernel_rfl) (by kernel_rfl))) (by decide) (fun _=>rfl) FO hy
noncomputable def flaw_ints_C (n:Nat):CutL Ty:=[(.loop 4,flaw_ints_l1_cut n)]
theorem Hw (n:Nat) (x:C.Ds Ty (snds C1)):(exec Tryz.prog 26 (callT Tryz.prog (flaw_ints_T n) []) (cutsOf (flaw_ints_C n)) (codeOf Tryz.f32) (embS C1 x)).runK (typeRt Tryz.prog Tryz.f32.results.toList 0 Dn)=FC n x:=by kernel_rfl
theorem FQ (n:Nat):LawOk Tryz.prog 32 (flaw_ints_law n):=readC_ok (law_ok Tryz.func32 rfl rfl (by decide) rfl prog_noRow prog_mix (callT_ok prog_noRow prog_mix (DN n) insNil) (cuts_ok (fn:=Tryz.f32) (L:=flaw_ints_C n) (ks:=[.loop 4]) ⟨FP n,trivial⟩ (by kernel_rfl) (by kernel_rfl)) (Hw n))
def Bl:List (Nat×C):=[(0,.l 9),(3,.s 3),(4,.s 3)]
def C7:List Wo:=[⟨.exit 0,[],[(0,.l 9),(3,.s 3)],[]⟩]
def CP:List (Nat×C):=[(0,.l 9)]
def DU:List Wo:=[⟨.ret,[],[],[.s 4]⟩]
def BS:Nat→(List ByteArray)→Int→Int→Option ((List ByteArray×Int×Unit))
  | 0,_,_,_=>none
  | n+1,lines,n_,i =>
    bif decide (i<(↑lines.length:Int)) then((idx lines i).bind fun v0 =>
    BS n lines (IntKind.i64.wrap (n_+(↑v0.size:Int))) (IntKind.i64.wrap (i+1))) else
    some (lines,(n_,()))
def BP (n:Nat) (y:C.Ds Ty (snds Bl)):Option (YT Ty C7):=BS n y.1 y.2.1 y.2.2.1
noncomputable def flaw_Few_l1_cut (n:Nat):St Ty→Tr (Lf Ty):=cutC Bl 0 C7 (BP n)
def Ew (n:Nat) (lines:List ByteArray):Option ((Bool×Unit)) :=
    (BS n lines 0 0).bind fun v0 =>
    bif decide ((↑v0.fst.length:Int)≤30) then(bif !decide (v0.snd.fst≤1200) then(bif decide ((↑v0.fst.length:Int)≤52) then(bif !decide (v0.snd.fst≤400) then(bif decide ((↑v0.fst.length:Int)=1) then(some (decide (v0.snd.fst≤210),())) else
    some (false,())) else
    some (true,())) else
    bif decide ((↑v0.fst.length:Int)=1) then(some (decide (v0.snd.fst≤210),())) else
    some (false,())) else
    some (true,())) else
    bif decide ((↑v0.fst.length:Int)≤52) then(bif !decide (v0.snd.fst≤400) then(bif decide ((↑v0.fst.length:Int)=1) then(some (decide (v0.snd.fst≤210),())) else
    some (false,())) else
    some (true,())) else
    bif decide ((↑v0.fst.length:Int)=1) then(some (decide (v0.snd.fst≤210),())) else
    some (false,())
def G0 (n:Nat) (y:C.Ds Ty (snds CP)):Option (YT Ty DU):=Ew n y.1
noncomputable def flaw_Few_law (n:Nat):Law Ty:=readC (lawC CP 0 DU (G0 n))
noncomputable def flaw_Few_T (n:Nat):List (Nat×Law Ty):=[]
theorem Ey (n:Nat):LawsOk Tryz.prog (flaw_Few_T n):=trivial
noncomputable def flaw_Few_l1_C (n:Nat):CutL Ty:=[]
theorem G1 (n:Nat) (x:C.Ds Ty (snds Bl)):(exec Tryz.prog 43 (callT Tryz.prog (flaw_Few_T n) []) (cutsOf (flaw_Few_l1_C n)) (bodyAt 3 Tryz.f19) (embS Bl x)).runK (typeRd 0 Bl C7 (BP n))=BP (n+1) x:=by kernel_rfl
theorem G2 (n:Nat):CutOk true Tryz.prog 43 (flaw_Few_l1_cut n) (.loop (bodyAt 3 Tryz.f19)):=cut_ok fun x y hy=>can_loop (Fn:=BP) prog_noRow prog_mix (fun n=>callT_ok prog_noRow prog_mix (Ey n) insNil) (fun h=>by cases h) (fun h=>by cases h) (fun n=>(cuts_ok (fn:=Tryz.f19) (L:=flaw_Few_l1_C n) (ks:=[]) trivial (by kernel_rfl) (by kernel_rfl))) (by decide) (fun _=>rfl) G1 hy
noncomputable def flaw_Few_C (n:Nat):CutL Ty:=[(.loop 3,flaw_Few_l1_cut n)]
theorem HR (n:Nat) (x:C.Ds Ty (snds CP)):(exec Tryz.prog 43 (callT Tryz.prog (flaw_Few_T n) []) (cutsOf (flaw_Few_C n)) (codeOf Tryz.f19) (embS CP x)).runK (typeRt Tryz.prog Tryz.f19.results.toList 0 DU)=G0 n x:=by kernel_rfl
theorem G3 (n:Nat):LawOk Tryz.prog 19 (flaw_Few_law n):=readC_ok (law_ok Tryz.func19 rfl rfl (by decide) rfl prog_noRow prog_mix (callT_ok prog_noRow prog_mix (Ey n) insNil) (cuts_ok (fn:=Tryz.f19) (L:=flaw_Few_C n) (ks:=[.loop 3]) ⟨G2 n,trivial⟩ (by kernel_rfl) (by kernel_rfl)) (HR n))
def C2:List (Nat×C):=[(0,.l 9)]
def Dp:List Wo:=[⟨.ret,[],[],[.o 9]⟩]
def BI (n:Nat) (l:List ByteArray):Option ((List ByteArray×Unit)) :=
    (app [] l).bind fun v0 =>
    some (v0,())
def FE (n:Nat) (y:C.Ds Ty (snds C2)):Option (YT Ty Dp):=BI n y.1
noncomputable def flaw_list_law (n:Nat):Law Ty:=lawC C2 0 Dp (FE n)
noncomputable def flaw_list_T (n:Nat):List (Nat×Law Ty):=[]
theorem GM (n:Nat):LawsOk Tryz.prog (flaw_list_T n):=trivial
noncomputable def flaw_list_C (n:Nat):CutL Ty:=[]
theorem Hx (n:Nat) (x:C.Ds Ty (snds C2)):(exec Tryz.prog 6 (callT Tryz.prog (flaw_list_T n) []) (cutsOf (flaw_list_C n)) (codeOf Tryz.f22) (embS C2 x)).runK (typeRt Tryz.prog Tryz.f22.results.toList 0 Dp)=FE n x:=by kernel_rfl
theorem FR (n:Nat):LawOk Tryz.prog 22 (flaw_list_law n):=law_ok Tryz.func22 rfl rfl (by decide) rfl prog_noRow prog_mix (callT_ok prog_noRow prog_mix (GM n) insNil) (cuts_ok (fn:=Tryz.f22) (L:=flaw_list_C n) (ks:=[]) trivial (by kernel_rfl) (by kernel_rfl)) (Hx n)
def A8:List (Nat×C):=[(0,.l 9),(1,.l 37),(5,.o 9),(6,.s 3)]
def BX:List Wo:=[⟨.exit 0,[],[(5,.o 9)],[]⟩]
def Cf:List (Nat×C):=[(0,.l 9),(1,.l 37)]
def CQ:List Wo:=[⟨.ret,[],[],[.l 9]⟩]
def AC:Nat→(List ByteArray)→(List Int)→(List ByteArray)→Int→Option ((List ByteArray×Unit))
  | 0,_,_,_,_=>none
  | n+1,lines,errors,out,i =>
    bif decide (i<(↑errors.length:Int)) then(bif decide (i<(↑lines.length:Int)) then((idx errors i).bind fun v0 =>
    bif decide (v0=0) then((idx lines i).bind fun v1 =>
    (app out [v1]).bind fun v2 =>
    AC n lines errors v2 (IntKind.i64.wrap (i+1))) else
    AC n lines errors out (IntKind.i64.wrap (i+1))) else
    some (out,())) else
    some (out,())
def Bp (n:Nat) (y:C.Ds Ty (snds A8)):Option (YT Ty BX):=AC n y.1 y.2.1 y.2.2.1 y.2.2.2.1
noncomputable def flaw_taken_l1_cut (n:Nat):St Ty→Tr (Lf Ty):=cutC A8 0 BX (Bp n)
def CS (n:Nat) (lines:List ByteArray) (errors:List Int):Option ((List ByteArray×Unit)) :=
    (AC n lines errors [] 0).bind fun v0 =>
    some (v0.fst,())
def Ez (n:Nat) (y:C.Ds Ty (snds Cf)):Option (YT Ty CQ):=CS n y.1 y.2.1
noncomputable def flaw_taken_law (n:Nat):Law Ty:=lawC Cf 0 CQ (Ez n)
noncomputable def flaw_taken_T (n:Nat):List (Nat×Law Ty):=[]
theorem Dq (n:Nat):LawsOk Tryz.prog (flaw_taken_T n):=trivial
noncomputable def flaw_taken_l1_C (n:Nat):CutL Ty:=[]
theorem Fi (n:Nat) (x:C.Ds Ty (snds A8)):(exec Tryz.prog 32 (callT Tryz.prog (flaw_taken_T n) []) (cutsOf (flaw_taken_l1_C n)) (bodyAt 3 Tryz.f47) (embS A8 x)).runK (typeRd 0 A8 BX (Bp n))=Bp (n+1) x:=by kernel_rfl
theorem Fj (n:Nat):CutOk true Tryz.prog 32 (flaw_taken_l1_cut n) (.loop (bodyAt 3 Tryz.f47)):=cut_ok fun x y hy=>can_loop (Fn:=Bp) prog_noRow prog_mix (fun n=>callT_ok prog_noRow prog_mix (Dq n) insNil) (fun h=>by cases h) (fun h=>by cases h) (fun n=>(cuts_ok (fn:=Tryz.f47) (L:=flaw_taken_l1_C n) (ks:=[]) trivial (by kernel_rfl) (by kernel_rfl))) (by decide) (fun _=>rfl) Fi hy
noncomputable def flaw_taken_C (n:Nat):CutL Ty:=[(.loop 3,flaw_taken_l1_cut n)]
theorem GN (n:Nat) (x:C.Ds Ty (snds Cf)):(exec Tryz.prog 32 (callT Tryz.prog (flaw_taken_T n) []) (cutsOf (flaw_taken_C n)) (codeOf Tryz.f47) (embS Cf x)).runK (typeRt Tryz.prog Tryz.f47.results.toList 0 CQ)=Ez n x:=by kernel_rfl
theorem Fk (n:Nat):LawOk Tryz.prog 47 (flaw_taken_law n):=law_ok Tryz.func47 rfl rfl (by decide) rfl prog_noRow prog_mix (callT_ok prog_noRow prog_mix (Dq n) insNil) (cuts_ok (fn:=Tryz.f47) (L:=flaw_taken_C n) (ks:=[.loop 3]) ⟨Fj n,trivial⟩ (by kernel_rfl) (by kernel_rfl)) (GN n)
def A9:List (Nat×C):=[(0,.l 9),(3,.s 3)]
def BY:List Wo:=[⟨.exit 0,[],[(0,.l 9)],[]⟩,⟨.ret,[],[(2,.s 4)],[]⟩]
def Cg:List (Nat×C):=[(0,.l 9)]
def CT:List Wo:=[⟨.ret,[],[],[.s 4]⟩]
def BQ:Nat→(List ByteArray)→Int→Option ((List ByteArray×Unit) ⊕ ((Bool×Unit)))
  | 0,_,_=>none
  | n+1,lines,i =>
    bif decide (i<(↑lines.length:Int)) then((idx lines i).bind fun v0 =>
    bif decide ((↑v0.size:Int)>200) then(some (.inr (false,()))) else
    BQ n lines (IntKind.i64.wrap (i+1))) else
    some (.inl (lines,()))
def Bq (n:Nat) (y:C.Ds Ty (snds A9)):Option (YT Ty BY):=BQ n y.1 y.2.1
noncomputable def fref_Right_l1_cut (n:Nat):St Ty→Tr (Lf Ty):=cutC A9 0 BY (Bq n)
def CU (n:Nat) (lines:List ByteArray):Option ((Bool×Unit)) :=
    (BQ n lines 0).bind fun v0 =>
    Sum.elim (fun v1=>some (decide ((↑v1.fst.length:Int)≤50),())) (fun v1=>some (v1.fst,())) (v0)
def E0 (n:Nat) (y:C.Ds Ty (snds Cg)):Option (YT Ty CT):=CU n y.1
noncomputable def fref_Right_law (n:Nat):Law Ty:=readC (lawC Cg 0 CT (E0 n))
noncomputable def fref_Right_T (n:Nat):List (Nat×Law Ty):=[]
theorem Dr (n:Nat):LawsOk Tryz.prog (fref_Right_T n):=trivial
noncomputable def fref_Right_l1_C (n:Nat):CutL Ty:=[]
theorem Fl (n:Nat) (x:C.Ds Ty (snds A9)):(exec Tryz.prog 19 (callT Tryz.prog (fref_Right_T n) []) (cutsOf (fref_Right_l1_C n)) (bodyAt 2 Tryz.f23) (embS A9 x)).runK (typeRd 0 A9 BY (Bq n))=Bq (n+1) x:=by kernel_rfl
theorem Fm (n:Nat):CutOk true Tryz.prog 19 (fref_Right_l1_cut n) (.loop (bodyAt 2 Tryz.f23)):=cut_ok fun x y hy=>can_loop (Fn:=Bq) prog_noRow prog_mix (fun n=>callT_ok prog_noRow prog_mix (Dr n) insNil) (fun h=>by cases h) (fun h=>by cases h) (fun n=>(cuts_ok (fn:=Tryz.f23) (L:=fref_Right_l1_C n) (ks:=[]) trivial (by kernel_rfl) (by kernel_rfl))) (by decide) (fun _=>rfl) Fl hy
noncomputable def fref_Right_C (n:Nat):CutL Ty:=[(.loop 2,fref_Right_l1_cut n)]
theorem GO (n:Nat) (x:C.Ds Ty (snds Cg)):(exec Tryz.prog 19 (callT Tryz.prog (fref_Right_T n) []) (cutsOf (fref_Right_C n)) (codeOf Tryz.f23) (embS Cg x)).runK (typeRt Tryz.prog Tryz.f23.results.toList 0 CT)=E0 n x:=by kernel_rfl
theorem Fo (n:Nat):LawOk Tryz.prog 23 (fref_Right_law n):=readC_ok (law_ok Tryz.func23 rfl rfl (by decide) rfl prog_noRow prog_mix (callT_ok prog_noRow prog_mix (Dr n) insNil) (cuts_ok (fn:=Tryz.f23) (L:=fref_Right_C n) (ks:=[.loop 2]) ⟨Fm n,trivial⟩ (by kernel_rfl) (by kernel_rfl)) (GO n))
def Ch:List (Nat×C):=[(0,.l 9)]
def CV:List Wo:=[⟨.ret,[],[],[.s 4]⟩]
def CW (n:Nat) (lines:List ByteArray):Option ((Bool×Unit)) :=
    (Ew n lines).bind fun v0 =>
    bif v0.fst then((CU n lines).bind fun v1 =>
    some (v1.fst,())) else
    some (false,())
def E1 (n:Nat) (y:C.Ds Ty (snds Ch)):Option (YT Ty CV):=CW n y.1
noncomputable def flaw_ready_law (n:Nat):Law Ty:=readC (lawC Ch 0 CV (E1 n))
noncomputable def flaw_ready_T (n:Nat):List (Nat×Law Ty):=[(19,flaw_Few_law n),(23,fref_Right_law n)]
theorem G4 (n:Nat):LawsOk Tryz.prog (flaw_ready_T n):=⟨G3 n,⟨Fo n,trivial⟩⟩
noncomputable def flaw_ready_C (n:Nat):CutL Ty:=[]
theorem GP (n:Nat) (x:C.Ds Ty (snds Ch)):(exec Tryz.prog 9 (callT Tryz.prog (flaw_ready_T n) []) (cutsOf (flaw_ready_C n)) (codeOf Tryz.f27) (embS Ch x)).runK (typeRt Tryz.prog Tryz.f27.results.toList 0 CV)=E1 n x:=by kernel_rfl
theorem Fq (n:Nat):LawOk Tryz.prog 27 (flaw_ready_law n):=readC_ok (law_ok Tryz.func27 rfl rfl (by decide) rfl prog_noRow prog_mix (callT_ok prog_noRow prog_mix (G4 n) insNil) (cuts_ok (fn:=Tryz.f27) (L:=flaw_ready_C n) (ks:=[]) trivial (by kernel_rfl) (by kernel_rfl)) (GP n))
def Br:List (Nat×C):=[]
def BZ:List Wo:=[⟨.ret,[],[],[.u 114]⟩]
def DO (n:Nat):Option ((Session×Unit)) :=
    some (Session.mk (State.mk [] [] [] [] (Week.mk 7 [] [] 600 5 3000) []),())
def Dc (n:Nat) (y:C.Ds Ty (snds Br)):Option (YT Ty BZ):=DO n
noncomputable def fgarage_begin_law (n:Nat):Law Ty:=lawC Br 0 BZ (Dc n)
noncomputable def fgarage_begin_T (n:Nat):List (Nat×Law Ty):=[]
theorem E2 (n:Nat):LawsOk Tryz.prog (fgarage_begin_T n):=trivial
noncomputable def fgarage_begin_C (n:Nat):CutL Ty:=[]
theorem Fs (n:Nat) (x:C.Ds Ty (snds Br)):(exec Tryz.prog 5 (callT Tryz.prog (fgarage_begin_T n) []) (cutsOf (fgarage_begin_C n)) (codeOf Tryz.f101) (embS Br x)).runK (typeRt Tryz.prog Tryz.f101.results.toList 0 BZ)=Dc n x:=by kernel_rfl
theorem DI (n:Nat):LawOk Tryz.prog 101 (fgarage_begin_law n):=law_ok Tryz.func101 rfl rfl (by decide) rfl prog_noRow prog_mix (callT_ok prog_noRow prog_mix (E2 n) insNil) (cuts_ok (fn:=Tryz.f101) (L:=fgarage_begin_C n) (ks:=[]) trivial (by kernel_rfl) (by kernel_rfl)) (Fs n)
def As:List (Nat×C):=[(4,.u 114),(5,.f 84 [.q 0] []),(6,.o 37),(12,.l 9),(13,.s 3),(14,.s 3)]
def B2:List Wo:=[⟨.exit 0,[.u 114],[(4,.q 0),(6,.o 37)],[]⟩]
def B3:List (Nat×C):=[(0,.l 9)]
def Cq:List Wo:=[⟨.ret,[],[],[.u 114,.l 37]⟩]
def Ao:Nat→Session→(List Int)→(List ByteArray)→Int→Int→Option ((Session×Unit×List Int×Unit))
  | 0,_,_,_,_,_=>none
  | n+1,g,errors,x12,x13,x14 =>
    bif decide (x14<x13) then((idx x12 x14).bind fun v0 =>
    (IC n g v0).bind fun v1 =>
    (app errors [v1.snd.fst]).bind fun v2 =>
    Ao n v1.fst v2 x12 x13 (IntKind.i64.wrap (x14+1))) else
    some (g,((),(errors,())))
def AE (n:Nat) (y:C.Ds Ty (snds As)):Option (YT Ty B2):=Ao n y.1 y.2.2.1 y.2.2.2.1 y.2.2.2.2.1 y.2.2.2.2.2.1
noncomputable def fgarage_play_l1_cut (n:Nat):St Ty→Tr (Lf Ty):=cutC As 1 B2 (AE n)
def AU (n:Nat) (lines:List ByteArray):Option ((Session×List Int×Unit)) :=
    (DO n).bind fun v0 =>
    (Ao n v0.fst [] lines (↑lines.length:Int) 0).bind fun v1 =>
    some (v1.fst,(v1.snd.snd.fst,()))
def Dt (n:Nat) (y:C.Ds Ty (snds B3)):Option (YT Ty Cq):=AU n y.1
noncomputable def fgarage_play_law (n:Nat):Law Ty:=lendS (lawC B3 0 Cq (Dt n))
noncomputable def fgarage_play_T (n:Nat):List (Nat×Law Ty):=[(101,fgarage_begin_law n),(84,nextS_law n)]
theorem CA (n:Nat):LawsOk Tryz.prog (fgarage_play_T n):=⟨DI n,⟨FB n,trivial⟩⟩
noncomputable def fgarage_play_l1_C (n:Nat):CutL Ty:=[]
theorem DV (n:Nat) (x:C.Ds Ty (snds As)):(exec Tryz.prog 27 (callT Tryz.prog (fgarage_play_T n) []) (cutsOf (fgarage_play_l1_C n)) (bodyAt 5 Tryz.f53) (embS As x)).runK (typeRd 1 As B2 (AE n))=AE (n+1) x:=by kernel_rfl
theorem DW (n:Nat):CutOk true Tryz.prog 27 (fgarage_play_l1_cut n) (.loop (bodyAt 5 Tryz.f53)):=cut_ok fun x y hy=>can_loop (Fn:=AE) prog_noRow prog_mix (fun n=>callT_ok prog_noRow prog_mix (CA n) insNil) (fun h=>by cases h) (fun h=>by cases h) (fun n=>(cuts_ok (fn:=Tryz.f53) (L:=fgarage_play_l1_C n) (ks:=[]) trivial (by kernel_rfl) (by kernel_rfl))) (by decide) (fun _=>rfl) DV hy
noncomputable def fgarage_play_C (n:Nat):CutL Ty:=[(.loop 5,fgarage_play_l1_cut n)]
theorem FT (n:Nat) (x:C.Ds Ty (snds B3)):(exec Tryz.prog 27 (callT Tryz.prog (fgarage_play_T n) []) (cutsOf (fgarage_play_C n)) (codeOf Tryz.f53) (embS B3 x)).runK (typeRt Tryz.prog Tryz.f53.results.toList 0 Cq)=Dt n x:=by kernel_rfl
theorem Bv (n:Nat):LawOk Tryz.prog 53 (fgarage_play_law n):=lendS_ok (by decide) (law_ok Tryz.func53 rfl rfl (by decide) rfl prog_noRow prog_mix (callT_ok prog_noRow prog_mix (CA n) insNil) (cuts_ok (fn:=Tryz.f53) (L:=fgarage_play_C n) (ks:=[.loop 5]) ⟨DW n,trivial⟩ (by kernel_rfl) (by kernel_rfl)) (FT n))
def B4:List (Nat×C):=[(0,.l 9)]
def Cr:List Wo:=[⟨.ret,[],[],[.g 35,.l 37,.s 37]⟩]
def B5 (n:Nat) (lines:List ByteArray):Option ((State×List Int×Int×Unit)) :=
    (Ay n lines).bind fun v0 =>
    bif v0.fst != 0 then(some (State.mk [] [] [] [] (Week.mk 0 [] [] 0 0 0) [],([],(v0.fst,())))) else
    (AU n lines).bind fun v1 =>
    some (v1.fst.state,(v1.snd.fst,(0,())))
def Du (n:Nat) (y:C.Ds Ty (snds B4)):Option (YT Ty Cr):=B5 n y.1
noncomputable def fgarage_Play_law (n:Nat):Law Ty:=lawC B4 0 Cr (Du n)
noncomputable def fgarage_Play_T (n:Nat):List (Nat×Law Ty):=[(52,fgarage_check_law n),(53,fgarage_play_law n)]
theorem Ft (n:Nat):LawsOk Tryz.prog (fgarage_Play_T n):=⟨Az n,⟨Bv n,trivial⟩⟩
noncomputable def fgarage_Play_C (n:Nat):CutL Ty:=[]
theorem FU (n:Nat) (x:C.Ds Ty (snds B4)):(exec Tryz.prog 24 (callT Tryz.prog (fgarage_Play_T n) []) (cutsOf (fgarage_Play_C n)) (codeOf Tryz.f21) (embS B4 x)).runK (typeRt Tryz.prog Tryz.f21.results.toList 0 Cr)=Du n x:=by kernel_rfl
theorem Cs (n:Nat):LawOk Tryz.prog 21 (fgarage_Play_law n):=law_ok Tryz.func21 rfl rfl (by decide) rfl prog_noRow prog_mix (callT_ok prog_noRow prog_mix (Ft n) insNil) (cuts_ok (fn:=Tryz.f21) (L:=fgarage_Play_C n) (ks:=[]) trivial (by kernel_rfl) (by kernel_rfl)) (FU n)
def AV:List (Nat×C):=[(0,.s 9),(1,.p [.u 114])]
def BJ:List Wo:=[⟨.ret,[.p [.u 114],.q 1],[],[.s 4]⟩]
def Dv (n:Nat) (text:ByteArray) (x1:Session):Option (((Session×Unit)×Unit×Bool×Unit)) :=
    (splitS n text (B [32])).bind fun v0 =>
    (idx v0.fst 0).bind fun v1 =>
    bif !v1.beq (B [111,117,116]) then(some ((x1,()),((),(false,())))) else
    (idx v0.fst 1).bind fun v2 =>
    (atoiP v2).bind fun v3 =>
    Sum.elim (fun v4=>(idx v0.fst 2).bind fun v5 =>
    (atoiP v5).bind fun v6 =>
    Sum.elim (fun v7=>(fpit_Open n x1.state.cards v4 v7).bind fun v8 =>
    some ((x1,()),((),(decide ((↑v8.fst.length:Int)>0),())))) (fun v7=>(fpit_Open n x1.state.cards v4 v7).bind fun v8 =>
    some ((x1,()),((),(decide ((↑v8.fst.length:Int)>0),())))) (v6)) (fun v4=>(idx v0.fst 2).bind fun v5 =>
    (atoiP v5).bind fun v6 =>
    Sum.elim (fun v7=>(fpit_Open n x1.state.cards v4 v7).bind fun v8 =>
    some ((x1,()),((),(decide ((↑v8.fst.length:Int)>0),())))) (fun v7=>(fpit_Open n x1.state.cards v4 v7).bind fun v8 =>
    some ((x1,()),((),(decide ((↑v8.fst.length:Int)>0),())))) (v6)) (v3)
def CB (n:Nat) (y:C.Ds Ty (snds AV)):Option (YT Ty BJ):=Dv n y.1 y.2.1.1
noncomputable def fgarage_late_1_law (n:Nat):Law Ty:=lawC AV 2 BJ (CB n)
noncomputable def fgarage_late_1_T (n:Nat):List (Nat×Law Ty):=[(112,splitS_law n),(113,atoiS_law n),(29,fpit_Open_law n)]
theorem DX (n:Nat):LawsOk Tryz.prog (fgarage_late_1_T n):=⟨splitS_lawOk n,⟨atoiS_lawOk n,⟨fpit_Open_lawOk n,trivial⟩⟩⟩
noncomputable def fgarage_late_1_C (n:Nat):CutL Ty:=[]
theorem E3 (n:Nat) (x:C.Ds Ty (snds AV)):(exec Tryz.prog 45 (callT Tryz.prog (fgarage_late_1_T n) []) (cutsOf (fgarage_late_1_C n)) (codeOf Tryz.f111) (embS AV x)).runK (typeRt Tryz.prog Tryz.f111.results.toList 2 BJ)=CB n x:=by kernel_rfl
theorem Dw (n:Nat):LawOk Tryz.prog 111 (fgarage_late_1_law n):=law_ok Tryz.func111 rfl rfl (by decide) rfl prog_noRow prog_mix (callT_ok prog_noRow prog_mix (DX n) insNil) (cuts_ok (fn:=Tryz.f111) (L:=fgarage_late_1_C n) (ks:=[]) trivial (by kernel_rfl) (by kernel_rfl)) (E3 n)
def At:List (Nat×C):=[(2,.l 37),(6,.o 3),(7,.f 111 [] [.p [.u 114]]),(11,.l 9),(12,.s 3),(13,.s 3)]
def B6:List Wo:=[⟨.exit 0,[.p [.u 114],.q 1],[(6,.o 3)],[]⟩]
def B7:List (Nat×C):=[(0,.l 9),(1,.u 114),(2,.l 37)]
def Ct:List Wo:=[⟨.ret,[.u 114],[],[.o 3]⟩]
def AA:Nat→(List Int)→(List Int)→Session→(List ByteArray)→Int→Int→Option (((Session×Unit)×Unit×List Int×Unit))
  | 0,_,_,_,_,_,_=>none
  | n+1,errors,out,is,x11,x12,x13 =>
    bif decide (x13<x12) then((idx x11 x13).bind fun v0 =>
    (idx errors x13).bind fun v1 =>
    bif decide (v1=0) then((Dv n v0 is).bind fun v2 =>
    bif v2.snd.snd.fst then((app out [x13]).bind fun v3 =>
    AA n errors v3 v2.fst.fst x11 x12 (IntKind.i64.wrap (x13+1))) else
    AA n errors out v2.fst.fst x11 x12 (IntKind.i64.wrap (x13+1))) else
    AA n errors out is x11 x12 (IntKind.i64.wrap (x13+1))) else
    some ((is,()),((),(out,())))
def AF (n:Nat) (y:C.Ds Ty (snds At)):Option (YT Ty B6):=AA n y.1 y.2.1 y.2.2.1.2.1.1 y.2.2.2.1 y.2.2.2.2.1 y.2.2.2.2.2.1
noncomputable def fgarage_late_l1_cut (n:Nat):St Ty→Tr (Lf Ty):=cutC At 2 B6 (AF n)
def E4 (n:Nat) (lines:List ByteArray) (g:Session) (errors:List Int):Option ((Session×List Int×Unit)) :=
    (AA n errors [] g lines (↑lines.length:Int) 0).bind fun v0 =>
    some (v0.fst.fst,(v0.snd.snd.fst,()))
def Dx (n:Nat) (y:C.Ds Ty (snds B7)):Option (YT Ty Ct):=E4 n y.1 y.2.1 y.2.2.1
noncomputable def fgarage_late_law (n:Nat):Law Ty:=lawC B7 1 Ct (Dx n)
noncomputable def fgarage_late_T (n:Nat):List (Nat×Law Ty):=[(111,fgarage_late_1_law n)]
theorem CC (n:Nat):LawsOk Tryz.prog (fgarage_late_T n):=⟨Dw n,trivial⟩
noncomputable def fgarage_late_l1_C (n:Nat):CutL Ty:=[]
theorem DY (n:Nat) (x:C.Ds Ty (snds At)):(exec Tryz.prog 34 (callT Tryz.prog (fgarage_late_T n) []) (cutsOf (fgarage_late_l1_C n)) (bodyAt 3 Tryz.f70) (embS At x)).runK (typeRd 2 At B6 (AF n))=AF (n+1) x:=by kernel_rfl
theorem DZ (n:Nat):CutOk true Tryz.prog 34 (fgarage_late_l1_cut n) (.loop (bodyAt 3 Tryz.f70)):=cut_ok fun x y hy=>can_loop (Fn:=AF) prog_noRow prog_mix (fun n=>callT_ok prog_noRow prog_mix (CC n) insNil) (fun h=>by cases h) (fun h=>by cases h) (fun n=>(cuts_ok (fn:=Tryz.f70) (L:=fgarage_late_l1_C n) (ks:=[]) trivial (by kernel_rfl) (by kernel_rfl))) (by decide) (fun _=>rfl) DY hy
noncomputable def fgarage_late_C (n:Nat):CutL Ty:=[(.loop 3,fgarage_late_l1_cut n)]
theorem FV (n:Nat) (x:C.Ds Ty (snds B7)):(exec Tryz.prog 34 (callT Tryz.prog (fgarage_late_T n) []) (cutsOf (fgarage_late_C n)) (codeOf Tryz.f70) (embS B7 x)).runK (typeRt Tryz.prog Tryz.f70.results.toList 1 Ct)=Dx n x:=by kernel_rfl
theorem Ea (n:Nat):LawOk Tryz.prog 70 (fgarage_late_law n):=law_ok Tryz.func70 rfl rfl (by decide) rfl prog_noRow prog_mix (callT_ok prog_noRow prog_mix (CC n) insNil) (cuts_ok (fn:=Tryz.f70) (L:=fgarage_late_C n) (ks:=[.loop 3]) ⟨DZ n,trivial⟩ (by kernel_rfl) (by kernel_rfl)) (FV n)
def B8:List (Nat×C):=[(0,.l 9)]
def Cu:List Wo:=[⟨.ret,[],[],[.l 3,.s 37]⟩]
def E5 (n:Nat) (lines:List ByteArray):Option ((List Int×Int×Unit)) :=
    (Ay n lines).bind fun v0 =>
    bif v0.fst != 0 then(some ([],(v0.fst,()))) else
    (AU n lines).bind fun v1 =>
    (E4 n lines v1.fst v1.snd.fst).bind fun v2 =>
    some (v2.snd.fst,(0,()))
def Dy (n:Nat) (y:C.Ds Ty (snds B8)):Option (YT Ty Cu):=E5 n y.1
noncomputable def fgarage_Late_law (n:Nat):Law Ty:=lawC B8 0 Cu (Dy n)
noncomputable def fgarage_Late_T (n:Nat):List (Nat×Law Ty):=[(52,fgarage_check_law n),(53,fgarage_play_law n),(70,fgarage_late_law n)]
theorem Fu (n:Nat):LawsOk Tryz.prog (fgarage_Late_T n):=⟨Az n,⟨Bv n,⟨Ea n,trivial⟩⟩⟩
noncomputable def fgarage_Late_C (n:Nat):CutL Ty:=[]
theorem FW (n:Nat) (x:C.Ds Ty (snds B8)):(exec Tryz.prog 21 (callT Tryz.prog (fgarage_Late_T n) []) (cutsOf (fgarage_Late_C n)) (codeOf Tryz.f31) (embS B8 x)).runK (typeRt Tryz.prog Tryz.f31.results.toList 0 Cu)=Dy n x:=by kernel_rfl
theorem Eb (n:Nat):LawOk Tryz.prog 31 (fgarage_Late_law n):=law_ok Tryz.func31 rfl rfl (by decide) rfl prog_noRow prog_mix (callT_ok prog_noRow prog_mix (Fu n) insNil) (cuts_ok (fn:=Tryz.f31) (L:=fgarage_Late_C n) (ks:=[]) trivial (by kernel_rfl) (by kernel_rfl)) (FW n)
def AW:List (Nat×C):=[(0,.s 3),(1,.s 3)]
def BK:List Wo:=[⟨.ret,[],[],[.s 9]⟩]
def A6 (n:Nat) (n_:Int) (many:Int):Option ((ByteArray×Unit)) :=
    (itoaS n n_).bind fun v0 =>
    (repeatS n (B [48]) (if IntKind.i64.wrap (many-(↑v0.fst.size:Int))>0 then IntKind.i64.wrap (many-(↑v0.fst.size:Int)) else 0)).bind fun v1 =>
    (strAdd v1.fst v0.fst).bind fun v2 =>
    some (v2,())
def CD (n:Nat) (y:C.Ds Ty (snds AW)):Option (YT Ty BK):=A6 n y.1 y.2.1
noncomputable def fgarage_digits_law (n:Nat):Law Ty:=lawC AW 0 BK (CD n)
noncomputable def fgarage_digits_T (n:Nat):List (Nat×Law Ty):=[(89,itoaS_law n),(244,repeatS_law n)]
theorem Ec (n:Nat):LawsOk Tryz.prog (fgarage_digits_T n):=⟨itoaS_lawOk n,⟨repeatS_lawOk n,trivial⟩⟩
noncomputable def fgarage_digits_C (n:Nat):CutL Ty:=[]
theorem E6 (n:Nat) (x:C.Ds Ty (snds AW)):(exec Tryz.prog 16 (callT Tryz.prog (fgarage_digits_T n) []) (cutsOf (fgarage_digits_C n)) (codeOf Tryz.f181) (embS AW x)).runK (typeRt Tryz.prog Tryz.f181.results.toList 0 BK)=CD n x:=by kernel_rfl
theorem Dz (n:Nat):LawOk Tryz.prog 181 (fgarage_digits_law n):=law_ok Tryz.func181 rfl rfl (by decide) rfl prog_noRow prog_mix (callT_ok prog_noRow prog_mix (Ec n) insNil) (cuts_ok (fn:=Tryz.f181) (L:=fgarage_digits_C n) (ks:=[]) trivial (by kernel_rfl) (by kernel_rfl)) (E6 n)
def Ah:List (Nat×C):=[(0,.s 9),(5,.s 3),(12,.l 5),(13,.s 3),(14,.s 3)]
def Be:List Wo:=[⟨.exit 0,[],[(0,.s 9),(5,.s 3)],[]⟩]
def AX:List (Nat×C):=[(0,.s 9),(1,.s 3)]
def BL:List Wo:=[⟨.ret,[],[],[.s 9]⟩]
def Au:Nat→ByteArray→Int→(List (IK .u8))→Int→Int→Option ((ByteArray×Int×Unit))
  | 0,_,_,_,_,_=>none
  | n+1,s,check,x12,x13,x14 =>
    bif decide (x14<x13) then((idx x12 x14).bind fun v0 =>
    Au n s (IntKind.i64.wrap (check+IntKind.i64.wrap (IntKind.i64.wrap (x14+1)*IntKind.i64.wrap (IntKind.i64.wrap v0.n+1)))) x12 x13 (IntKind.i64.wrap (x14+1))) else
    some (s,(check,()))
def A0 (n:Nat) (y:C.Ds Ty (snds Ah)):Option (YT Ty Be):=Au n y.1 y.2.1 y.2.2.1 y.2.2.2.1 y.2.2.2.2.1
noncomputable def fgarage_record_l1_cut (n:Nat):St Ty→Tr (Lf Ty):=cutC Ah 0 Be (A0 n)
def AO (n:Nat) (s:ByteArray) (index:Int):Option ((ByteArray×Unit)) :=
    (Au n s (IntKind.i64.wrap (7*IntKind.i64.wrap (index+1))) (btsI s) (↑(btsI s).length:Int) 0).bind fun v0 =>
    (A6 n (↑v0.fst.size:Int) 3).bind fun v1 =>
    (strAdd (B [91]) v1.fst).bind fun v2 =>
    (strAdd v2 (B [47])).bind fun v3 =>
    (A6 n (IntKind.i64.wrap (999-(↑v0.fst.size:Int))) 3).bind fun v4 =>
    (strAdd v3 v4.fst).bind fun v5 =>
    (strAdd v5 (B [47])).bind fun v6 =>
    (A6 n (v0.snd.fst.tmod 99991) 5).bind fun v7 =>
    (strAdd v6 v7.fst).bind fun v8 =>
    (strAdd v8 (B [93])).bind fun v9 =>
    (strAdd v9 v0.fst).bind fun v10 =>
    (strAdd v10 (B [10])).bind fun v11 =>
    some (v11,())
def CE (n:Nat) (y:C.Ds Ty (snds AX)):Option (YT Ty BL):=AO n y.1 y.2.1
noncomputable def fgarage_record_law (n:Nat):Law Ty:=lawC AX 0 BL (CE n)
noncomputable def fgarage_record_T (n:Nat):List (Nat×Law Ty):=[(181,fgarage_digits_law n)]
theorem Cv (n:Nat):LawsOk Tryz.prog (fgarage_record_T n):=⟨Dz n,trivial⟩
noncomputable def fgarage_record_l1_C (n:Nat):CutL Ty:=[]
theorem D0 (n:Nat) (x:C.Ds Ty (snds Ah)):(exec Tryz.prog 47 (callT Tryz.prog (fgarage_record_T n) []) (cutsOf (fgarage_record_l1_C n)) (bodyAt 3 Tryz.f125) (embS Ah x)).runK (typeRd 0 Ah Be (A0 n))=A0 (n+1) x:=by kernel_rfl
theorem D1 (n:Nat):CutOk true Tryz.prog 47 (fgarage_record_l1_cut n) (.loop (bodyAt 3 Tryz.f125)):=cut_ok fun x y hy=>can_loop (Fn:=A0) prog_noRow prog_mix (fun n=>callT_ok prog_noRow prog_mix (Cv n) insNil) (fun h=>by cases h) (fun h=>by cases h) (fun n=>(cuts_ok (fn:=Tryz.f125) (L:=fgarage_record_l1_C n) (ks:=[]) trivial (by kernel_rfl) (by kernel_rfl))) (by decide) (fun _=>rfl) D0 hy
noncomputable def fgarage_record_C (n:Nat):CutL Ty:=[(.loop 3,fgarage_record_l1_cut n)]
theorem E7 (n:Nat) (x:C.Ds Ty (snds AX)):(exec Tryz.prog 47 (callT Tryz.prog (fgarage_record_T n) []) (cutsOf (fgarage_record_C n)) (codeOf Tryz.f125) (embS AX x)).runK (typeRt Tryz.prog Tryz.f125.results.toList 0 BL)=CE n x:=by kernel_rfl
theorem BT (n:Nat):LawOk Tryz.prog 125 (fgarage_record_law n):=law_ok Tryz.func125 rfl rfl (by decide) rfl prog_noRow prog_mix (callT_ok prog_noRow prog_mix (Cv n) insNil) (cuts_ok (fn:=Tryz.f125) (L:=fgarage_record_C n) (ks:=[.loop 3]) ⟨D1 n,trivial⟩ (by kernel_rfl) (by kernel_rfl)) (E7 n)
def Ae:List (Nat×C):=[(2,.o 5),(5,.l 9),(6,.s 3),(7,.s 3)]
def AP:List Wo:=[⟨.exit 0,[],[(2,.o 5)],[]⟩]
def AG:List (Nat×C):=[(0,.l 9)]
def B9:List Wo:=[⟨.ret,[],[],[.l 5]⟩]
def An:Nat→(List (IK .u8))→(List ByteArray)→Int→Int→Option ((List (IK .u8)×Unit))
  | 0,_,_,_,_=>none
  | n+1,out,x5,x6,x7 =>
    bif decide (x7<x6) then((idx x5 x7).bind fun v0 =>
    (AO n v0 x7).bind fun v1 =>
    (app out (btsI v1.fst)).bind fun v2 =>
    An n v2 x5 x6 (IntKind.i64.wrap (x7+1))) else
    some (out,())
def Av (n:Nat) (y:C.Ds Ty (snds Ae)):Option (YT Ty AP):=An n y.1 y.2.1 y.2.2.1 y.2.2.2.1
noncomputable def fgarage_written_l1_cut (n:Nat):St Ty→Tr (Lf Ty):=cutC Ae 0 AP (Av n)
def AB (n:Nat) (lines:List ByteArray):Option ((List (IK .u8)×Unit)) :=
    (An n [] lines (↑lines.length:Int) 0).bind fun v0 =>
    some (v0.fst,())
def C3 (n:Nat) (y:C.Ds Ty (snds AG)):Option (YT Ty B9):=AB n y.1
noncomputable def fgarage_written_law (n:Nat):Law Ty:=lawC AG 0 B9 (C3 n)
noncomputable def fgarage_written_T (n:Nat):List (Nat×Law Ty):=[(125,fgarage_record_law n)]
theorem Cb (n:Nat):LawsOk Tryz.prog (fgarage_written_T n):=⟨BT n,trivial⟩
noncomputable def fgarage_written_l1_C (n:Nat):CutL Ty:=[]
theorem De (n:Nat) (x:C.Ds Ty (snds Ae)):(exec Tryz.prog 19 (callT Tryz.prog (fgarage_written_T n) []) (cutsOf (fgarage_written_l1_C n)) (bodyAt 2 Tryz.f78) (embS Ae x)).runK (typeRd 0 Ae AP (Av n))=Av (n+1) x:=by kernel_rfl
theorem Df (n:Nat):CutOk true Tryz.prog 19 (fgarage_written_l1_cut n) (.loop (bodyAt 2 Tryz.f78)):=cut_ok fun x y hy=>can_loop (Fn:=Av) prog_noRow prog_mix (fun n=>callT_ok prog_noRow prog_mix (Cb n) insNil) (fun h=>by cases h) (fun h=>by cases h) (fun n=>(cuts_ok (fn:=Tryz.f78) (L:=fgarage_written_l1_C n) (ks:=[]) trivial (by kernel_rfl) (by kernel_rfl))) (by decide) (fun _=>rfl) De hy
noncomputable def fgarage_written_C (n:Nat):CutL Ty:=[(.loop 2,fgarage_written_l1_cut n)]
theorem Ed (n:Nat) (x:C.Ds Ty (snds AG)):(exec Tryz.prog 19 (callT Tryz.prog (fgarage_written_T n) []) (cutsOf (fgarage_written_C n)) (codeOf Tryz.f78) (embS AG x)).runK (typeRt Tryz.prog Tryz.f78.results.toList 0 B9)=C3 n x:=by kernel_rfl
theorem BC (n:Nat):LawOk Tryz.prog 78 (fgarage_written_law n):=law_ok Tryz.func78 rfl rfl (by decide) rfl prog_noRow prog_mix (callT_ok prog_noRow prog_mix (Cb n) insNil) (cuts_ok (fn:=Tryz.f78) (L:=fgarage_written_C n) (ks:=[.loop 2]) ⟨Df n,trivial⟩ (by kernel_rfl) (by kernel_rfl)) (Ed n)
def Bs:List (Nat×C):=[(0,.l 9)]
def Ca:List Wo:=[⟨.ret,[],[],[.l 5,.s 37]⟩]
def Bm (n:Nat) (lines:List ByteArray):Option ((List (IK .u8)×Int×Unit)) :=
    (Ay n lines).bind fun v0 =>
    bif v0.fst != 0 then(some ([],(v0.fst,()))) else
    (AB n lines).bind fun v1 =>
    some (v1.fst,(0,()))
def Dd (n:Nat) (y:C.Ds Ty (snds Bs)):Option (YT Ty Ca):=Bm n y.1
noncomputable def fgarage_Write_law (n:Nat):Law Ty:=lawC Bs 0 Ca (Dd n)
noncomputable def fgarage_Write_T (n:Nat):List (Nat×Law Ty):=[(52,fgarage_check_law n),(78,fgarage_written_law n)]
theorem E8 (n:Nat):LawsOk Tryz.prog (fgarage_Write_T n):=⟨Az n,⟨BC n,trivial⟩⟩
noncomputable def fgarage_Write_C (n:Nat):CutL Ty:=[]
theorem Fv (n:Nat) (x:C.Ds Ty (snds Bs)):(exec Tryz.prog 12 (callT Tryz.prog (fgarage_Write_T n) []) (cutsOf (fgarage_Write_C n)) (codeOf Tryz.f37) (embS Bs x)).runK (typeRt Tryz.prog Tryz.f37.results.toList 0 Ca)=Dd n x:=by kernel_rfl
theorem Cc (n:Nat):LawOk Tryz.prog 37 (fgarage_Write_law n):=law_ok Tryz.func37 rfl rfl (by decide) rfl prog_noRow prog_mix (callT_ok prog_noRow prog_mix (E8 n) insNil) (cuts_ok (fn:=Tryz.f37) (L:=fgarage_Write_C n) (ks:=[]) trivial (by kernel_rfl) (by kernel_rfl)) (Fv n)
def Ai:List (Nat×C):=[(3,.s 3),(6,.l 5),(7,.s 3),(8,.s 3)]
def Bf:List Wo:=[⟨.exit 0,[],[(3,.s 3)],[]⟩,⟨.ret,[],[(2,.s 3)],[]⟩]
def AY:List (Nat×C):=[(0,.l 5)]
def BM:List Wo:=[⟨.ret,[],[],[.s 3]⟩]
def Aw:Nat→Int→(List (IK .u8))→Int→Int→Option ((Int×Unit) ⊕ ((Int×Unit)))
  | 0,_,_,_,_=>none
  | n+1,n_,x6,x7,x8 =>
    bif decide (x8<x7) then((idx x6 x8).bind fun v0 =>
    bif !decide (v0.n<48) then(bif decide (v0.n>57) then(some (.inr (-1,()))) else
    Aw n (IntKind.i64.wrap (IntKind.i64.wrap (10*n_)+IntKind.i64.wrap (IntKind.u8.wrap (v0.n-48)))) x6 x7 (IntKind.i64.wrap (x8+1))) else
    some (.inr (-1,()))) else
    some (.inl (n_,()))
def A1 (n:Nat) (y:C.Ds Ty (snds Ai)):Option (YT Ty Bf):=Aw n y.1 y.2.1 y.2.2.1 y.2.2.2.1
noncomputable def fgarage_length_l1_cut (n:Nat):St Ty→Tr (Lf Ty):=cutC Ai 0 Bf (A1 n)
def BA (n:Nat) (l:List (IK .u8)):Option ((Int×Unit)) :=
    (Aw n 0 l (↑l.length:Int) 0).bind fun v0 =>
    Sum.elim (fun v1=>some (v1.fst,())) (fun v1=>some (v1.fst,())) (v0)
def CF (n:Nat) (y:C.Ds Ty (snds AY)):Option (YT Ty BM):=BA n y.1
noncomputable def fgarage_length_law (n:Nat):Law Ty:=readC (lawC AY 0 BM (CF n))
noncomputable def fgarage_length_T (n:Nat):List (Nat×Law Ty):=[]
theorem Cw (n:Nat):LawsOk Tryz.prog (fgarage_length_T n):=trivial
noncomputable def fgarage_length_l1_C (n:Nat):CutL Ty:=[]
theorem D2 (n:Nat) (x:C.Ds Ty (snds Ai)):(exec Tryz.prog 26 (callT Tryz.prog (fgarage_length_T n) []) (cutsOf (fgarage_length_l1_C n)) (bodyAt 3 Tryz.f127) (embS Ai x)).runK (typeRd 0 Ai Bf (A1 n))=A1 (n+1) x:=by kernel_rfl
theorem D3 (n:Nat):CutOk true Tryz.prog 26 (fgarage_length_l1_cut n) (.loop (bodyAt 3 Tryz.f127)):=cut_ok fun x y hy=>can_loop (Fn:=A1) prog_noRow prog_mix (fun n=>callT_ok prog_noRow prog_mix (Cw n) insNil) (fun h=>by cases h) (fun h=>by cases h) (fun n=>(cuts_ok (fn:=Tryz.f127) (L:=fgarage_length_l1_C n) (ks:=[]) trivial (by kernel_rfl) (by kernel_rfl))) (by decide) (fun _=>rfl) D2 hy
noncomputable def fgarage_length_C (n:Nat):CutL Ty:=[(.loop 3,fgarage_length_l1_cut n)]
theorem E9 (n:Nat) (x:C.Ds Ty (snds AY)):(exec Tryz.prog 26 (callT Tryz.prog (fgarage_length_T n) []) (cutsOf (fgarage_length_C n)) (codeOf Tryz.f127) (embS AY x)).runK (typeRt Tryz.prog Tryz.f127.results.toList 0 BM)=CF n x:=by kernel_rfl
theorem D4 (n:Nat):LawOk Tryz.prog 127 (fgarage_length_law n):=readC_ok (law_ok Tryz.func127 rfl rfl (by decide) rfl prog_noRow prog_mix (callT_ok prog_noRow prog_mix (Cw n) insNil) (cuts_ok (fn:=Tryz.f127) (L:=fgarage_length_C n) (ks:=[.loop 3]) ⟨D3 n,trivial⟩ (by kernel_rfl) (by kernel_rfl)) (E9 n))
def Ci:List (Nat×C):=[]
def CX:List Wo:=[⟨.ret,[],[],[.l 9]⟩]
def Ee (n:Nat):Option ((List ByteArray×Unit)) :=
    some ([B [102,111,117,110,100,32,55,32,49,32,49,48,48,32,51],B [111,117,116,32,55,32,49,53,48],B [111,117,116,32,56,32,49,53,48],B [105,110,32,56,32,50,48,48,32,51,48],B [115,105,103,110,101,100,32,55,32,50,32,49,54,48,32,49],B [111,117,116,32,55,32,49,55,48],B [104,101,108,100,32,56,32,51,32,49,52,48,32,50],B [111,117,116,32,56,32,51,48,48],B [115,97,108,101,32,53,32,50,32,49,53,32,49,32,51,48,48],B [99,108,111,115,101,32,53,32,52,32,51,48,32,50,32,53,48,48],B [100,114,105,118,101,114,32,49,32,45,57,48,48],B [100,117,116,121,32,48,32,51,48,48,32,57,48,48,32,49,48,48,48,32,49],B [100,117,116,121,32,49,32,49,48,48,32,53,48,48,32,53,48,48,32,49],B [103,105,118,101,32,48,32,48],B [103,105,118,101,32,49,32,48],B [105,110,32,55,32,49,54,53,32,53]],())
def EA (n:Nat) (y:C.Ds Ty (snds Ci)):Option (YT Ty CX):=Ee n
noncomputable def flaw_shift_law (n:Nat):Law Ty:=lawC Ci 0 CX (EA n)
noncomputable def flaw_shift_T (n:Nat):List (Nat×Law Ty):=[]
theorem G5 (n:Nat):LawsOk Tryz.prog (flaw_shift_T n):=trivial
noncomputable def flaw_shift_C (n:Nat):CutL Ty:=[]
theorem GQ (n:Nat) (x:C.Ds Ty (snds Ci)):(exec Tryz.prog 2 (callT Tryz.prog (flaw_shift_T n) []) (cutsOf (flaw_shift_C n)) (codeOf Tryz.f51) (embS Ci x)).runK (typeRt Tryz.prog Tryz.f51.results.toList 0 CX)=EA n x:=by kernel_rfl
theorem Fw (n:Nat):LawOk Tryz.prog 51 (flaw_shift_law n):=law_ok Tryz.func51 rfl rfl (by decide) rfl prog_noRow prog_mix (callT_ok prog_noRow prog_mix (G5 n) insNil) (cuts_ok (fn:=Tryz.f51) (L:=flaw_shift_C n) (ks:=[]) trivial (by kernel_rfl) (by kernel_rfl)) (GQ n)
def Cj:List (Nat×C):=[]
def CY:List Wo:=[⟨.ret,[],[],[.s 4]⟩]
def BN (n:Nat):Option ((Bool×Unit)) :=
    (Ee n).bind fun v0 =>
    (B5 n v0.fst).bind fun v1 =>
    (Ee n).bind fun v2 =>
    (E5 n v2.fst).bind fun v3 =>
    (Bm n [B [97]]).bind fun v4 =>
    bif !v1.snd.snd.fst != 0 then(bif !v3.snd.fst != 0 then(bif !v4.snd.fst != 0 then(bif (↑v1.snd.fst.length:Int) != 16 then(some (false,())) else
    (idx v1.snd.fst 1).bind fun v5 =>
    bif decide (v5=11) then((idx v1.snd.fst 7).bind fun v6 =>
    bif decide (v6=11) then((idx v1.snd.fst 14).bind fun v7 =>
    bif decide (v7=10) then((idx v1.snd.fst 15).bind fun v8 =>
    bif decide (v8=2) then(bif decide ((↑v1.fst.runs.length:Int)=1) then((idx v1.fst.runs 0).bind fun v9 =>
    bif decide (v9.bus=8) && (decide (v9.fr=150) && (decide (v9.to_=200) && (decide (v9.miles=30) && true))) then(bif decide ((↑v1.fst.outs.length:Int)=1) then((idx v1.fst.outs 0).bind fun v10 =>
    bif decide (v10.bus=7) && (decide (v10.fr=170) && true) then((Fh n v1.fst.roster [0,-1]).bind fun v11 =>
    bif v11.fst then((Fh n v3.fst [2]).bind fun v12 =>
    bif v12.fst then(some ((strI v4.fst).beq (B [91,48,48,49,47,57,57,56,47,48,48,49,48,53,93,97,10]),())) else
    some (false,())) else
    some (false,())) else
    some (false,())) else
    some (false,())) else
    some (false,())) else
    some (false,())) else
    some (false,())) else
    some (false,())) else
    some (false,())) else
    some (false,())) else
    some (false,())) else
    some (false,())) else
    some (false,())
def EB (n:Nat) (y:C.Ds Ty (snds Cj)):Option (YT Ty CY):=BN n
noncomputable def flaw_wakes_law (n:Nat):Law Ty:=lawC Cj 0 CY (EB n)
noncomputable def flaw_wakes_T (n:Nat):List (Nat×Law Ty):=[(51,flaw_shift_law n),(21,fgarage_Play_law n),(31,fgarage_Late_law n),(37,fgarage_Write_law n),(32,flaw_ints_law n)]
theorem G6 (n:Nat):LawsOk Tryz.prog (flaw_wakes_T n):=⟨Fw n,⟨Cs n,⟨Eb n,⟨Cc n,⟨FQ n,trivial⟩⟩⟩⟩⟩
noncomputable def flaw_wakes_C (n:Nat):CutL Ty:=[]
theorem GR (n:Nat) (x:C.Ds Ty (snds Cj)):(exec Tryz.prog 105 (callT Tryz.prog (flaw_wakes_T n) []) (cutsOf (flaw_wakes_C n)) (codeOf Tryz.f20) (embS Cj x)).runK (typeRt Tryz.prog Tryz.f20.results.toList 0 CY)=EB n x:=by kernel_rfl
theorem Fx (n:Nat):LawOk Tryz.prog 20 (flaw_wakes_law n):=law_ok Tryz.func20 rfl rfl (by decide) rfl prog_noRow prog_mix (callT_ok prog_noRow prog_mix (G6 n) insNil) (cuts_ok (fn:=Tryz.f20) (L:=flaw_wakes_C n) (ks:=[]) trivial (by kernel_rfl) (by kernel_rfl)) (GR n)
def Af:List (Nat×C):=[(0,.y 0 38 [2,3] [.p [.o 9],.p [.s 3]]),(1,.p [.l 5]),(3,.s 3),(4,.s 3)]
def AQ:List Wo:=[⟨.exit 0,[.y 0 38 [2,3] [.p [.o 9],.p [.s 3]],.q 1,.q 2,.p [.l 5]],[],[]⟩,⟨.ret,[.y 0 38 [2,3] [.p [.o 9],.p [.s 3]],.q 1,.q 2,.p [.l 5]],[],[]⟩,⟨.ret,[.y 2 38 [2,3] [.p [.o 9],.p [.s 3]],.q 1,.q 2,.p [.l 5]],[],[]⟩]
def AH:List (Nat×C):=[(0,.l 5)]
def BB:List Wo:=[⟨.ret,[],[],[.o 9,.s 3]⟩]
def Aa:Nat→(List ByteArray)→Int→(List (IK .u8))→Int→Int→Option ((((List ByteArray×Unit)×(Int×Unit)×Unit)×Unit×Unit×(List (IK .u8)×Unit)×Unit) ⊕ ((((List ByteArray×Unit)×(Int×Unit)×Unit)×Unit×Unit×(List (IK .u8)×Unit)×Unit) ⊕ ((((List ByteArray×Unit)×(Int×Unit)×Unit)×Unit×Unit×(List (IK .u8)×Unit)×Unit))))
  | 0,_,_,_,_,_=>none
  | n+1,yield1,yield2,x1,at_,index =>
    bif decide (IntKind.i64.wrap ((↑x1.length:Int)-at_)≥16) then((lstSub x1 (IntKind.i64.wrap (at_+1)) (IntKind.i64.wrap (IntKind.i64.wrap (at_+1)+3))).bind fun v0 =>
    (BA n v0).bind fun v1 =>
    (fgarage_within n v1.fst 0 200).bind fun v2 =>
    bif !!v2.fst then(bif decide (IntKind.i64.wrap ((↑x1.length:Int)-at_)<IntKind.i64.wrap (16+v1.fst)) then(some (.inr (.inl (((yield1,()),((yield2,()),())),((),((),((x1,()),()))))))) else
    (lstSub x1 (IntKind.i64.wrap (at_+15)) (IntKind.i64.wrap (IntKind.i64.wrap (IntKind.i64.wrap (at_+16)+v1.fst)-1))).bind fun v3 =>
    (AO n (strI v3) index).bind fun v4 =>
    (lstSub x1 at_ (IntKind.i64.wrap (IntKind.i64.wrap (at_+16)+v1.fst))).bind fun v5 =>
    bif !!v4.fst.beq (strI v5) then(bif decide ((↑yield1.length:Int)=50) then(some (.inr (.inr (((yield1,()),((yield2,()),())),((),((),((x1,()),()))))))) else
    (app yield1 [strI v3]).bind fun v6 =>
    Aa n v6 (IntKind.i64.wrap (IntKind.i64.wrap (at_+16)+v1.fst)) x1 (IntKind.i64.wrap (IntKind.i64.wrap (at_+16)+v1.fst)) (IntKind.i64.wrap (index+1))) else
    some (.inr (.inl (((yield1,()),((yield2,()),())),((),((),((x1,()),()))))))) else
    some (.inr (.inl (((yield1,()),((yield2,()),())),((),((),((x1,()),()))))))) else
    some (.inl (((yield1,()),((yield2,()),())),((),((),((x1,()),())))))
def Ax (n:Nat) (y:C.Ds Ty (snds Af)):Option (YT Ty AQ):=Aa n y.1.1.1 y.1.2.1.1 y.2.1.1 y.2.2.1 y.2.2.2.1
noncomputable def fgarage_Recover_i1_cut (n:Nat):St Ty→Tr (Lf Ty):=cutC Af 4 AQ (Ax n)
def Ap (n:Nat) (b:List (IK .u8)):Option ((List ByteArray×Int×Unit)) :=
    (Aa n [] 0 b 0 0).bind fun v0 =>
    Sum.elim (fun v1=>some (v1.fst.fst.fst,(v1.fst.snd.fst.fst,()))) (fun v1=>Sum.elim (fun v2=>some (v2.fst.fst.fst,(v2.fst.snd.fst.fst,()))) (fun v2=>some (v2.fst.fst.fst,(v2.fst.snd.fst.fst,()))) (v1)) (v0)
def C4 (n:Nat) (y:C.Ds Ty (snds AH)):Option (YT Ty BB):=Ap n y.1
noncomputable def fgarage_Recover_law (n:Nat):Law Ty:=lawC AH 0 BB (C4 n)
noncomputable def fgarage_Recover_T (n:Nat):List (Nat×Law Ty):=[(127,fgarage_length_law n),(75,fgarage_within_law n),(125,fgarage_record_law n)]
theorem Bg (n:Nat):LawsOk Tryz.prog (fgarage_Recover_T n):=⟨D4 n,⟨fgarage_within_lawOk n,⟨BT n,trivial⟩⟩⟩
noncomputable def fgarage_Recover_B (n:Nat):CutL Ty:=[]
noncomputable def fgarage_Recover_Y (n:Nat):List (Nat×Law Ty):=(yieldF,ybC Tryz.prog (callT Tryz.prog (fgarage_Recover_T n) []) (cutsOf []) (cutsOf (fgarage_Recover_B n)) 38)::fgarage_Recover_T n
theorem Cd (n:Nat):LawsOk Tryz.prog (fgarage_Recover_Y n):=⟨ybC_ok prog_noRow prog_mix (callT_ok prog_noRow prog_mix (Bg n) insNil) (fun _ _ _ h=>by cases h) (cuts_ok (fn:=Tryz.f38) (c:=(RFs.rf 38).body) (N:=(RFs.rf 38).n) (L:=fgarage_Recover_B n) (ks:=[]) trivial (by kernel_rfl) (by kernel_rfl)),Bg n⟩
noncomputable def fgarage_Recover_i1_C (n:Nat):CutL Ty:=[]
theorem Dg (n:Nat) (x:C.Ds Ty (snds Af)):(exec Tryz.prog 63 (callT Tryz.prog (fgarage_Recover_Y n) []) (cutsOf (fgarage_Recover_i1_C n)) (bodyAt 2 Tryz.f126) (embS Af x)).runK (typeRd 4 Af AQ (Ax n))=Ax (n+1) x:=by kernel_rfl
theorem Dh (n:Nat):CutOk true Tryz.prog 63 (fgarage_Recover_i1_cut n) (.loop (bodyAt 2 Tryz.f126)):=cut_ok fun x y hy=>can_loop (Fn:=Ax) prog_noRow prog_mix (fun n=>callT_ok prog_noRow prog_mix (Cd n) insNil) (fun h=>by cases h) (fun h=>by cases h) (fun n=>(cuts_ok (fn:=Tryz.f126) (L:=fgarage_Recover_i1_C n) (ks:=[]) trivial (by kernel_rfl) (by kernel_rfl))) (by decide) (fun _=>rfl) Dg hy
noncomputable def fgarage_Recover_K (n:Nat):InsL Ty:=[(126,[(.loop 2,fgarage_Recover_i1_cut n)])]
theorem DJ (n:Nat):InsOk Tryz.prog (fgarage_Recover_K n):=⟨ins_one (f:=126) Tryz.func126 rfl (cuts_ok (fn:=Tryz.f126) (L:=[(.loop 2,fgarage_Recover_i1_cut n)]) (ks:=[.loop 2]) ⟨Dh n,trivial⟩ (by kernel_rfl) (by kernel_rfl)),trivial⟩
noncomputable def fgarage_Recover_rf (n:Nat):St Ty→Tr (Lf Ty):=rfC Tryz.prog (callT Tryz.prog (fgarage_Recover_Y n) (fgarage_Recover_K n)) (.tmp 7) 38 [2,3]
theorem D5 (n:Nat):CutOk true Tryz.prog 20 (fgarage_Recover_rf n) (nodeAt (.rf 4) Tryz.f38):=rf_cut (callT_ok prog_noRow prog_mix (Cd n) (DJ n)) (by kernel_rfl) (by kernel_rfl)
noncomputable def fgarage_Recover_C (n:Nat):CutL Ty:=[(.rf 4,fgarage_Recover_rf n)]
theorem Ef (n:Nat) (x:C.Ds Ty (snds AH)):(exec Tryz.prog 20 (callT Tryz.prog (fgarage_Recover_T n) []) (cutsOf (fgarage_Recover_C n)) (codeOf Tryz.f38) (embS AH x)).runK (typeRt Tryz.prog Tryz.f38.results.toList 0 BB)=C4 n x:=by kernel_rfl
theorem BD (n:Nat):LawOk Tryz.prog 38 (fgarage_Recover_law n):=law_ok Tryz.func38 rfl rfl (by decide) rfl prog_noRow prog_mix (callT_ok prog_noRow prog_mix (Bg n) insNil) (cuts_ok (fn:=Tryz.f38) (L:=fgarage_Recover_C n) (ks:=[.rf 4]) ⟨D5 n,trivial⟩ (by kernel_rfl) (by kernel_rfl)) (Ef n)
def Aj:List (Nat×C):=[(7,.o 9),(9,.u 114),(28,.l 9),(29,.s 3),(30,.s 3)]
def Bh:List Wo:=[⟨.exit 0,[.u 114],[(7,.o 9)],[]⟩]
def AZ:List (Nat×C):=[(0,.l 5),(1,.l 9)]
def BO:List Wo:=[⟨.ret,[],[],[.l 5,.s 37]⟩]
def Ag:Nat→(List ByteArray)→Session→(List ByteArray)→Int→Int→Option ((Session×List ByteArray×Unit))
  | 0,_,_,_,_,_=>none
  | n+1,lines,now,x28,x29,x30 =>
    bif decide (x30<x29) then((idx x28 x30).bind fun v0 =>
    (IC n now v0).bind fun v1 =>
    bif decide (v1.snd.fst=0) then((app lines [v0]).bind fun v2 =>
    Ag n v2 v1.fst x28 x29 (IntKind.i64.wrap (x30+1))) else
    Ag n lines v1.fst x28 x29 (IntKind.i64.wrap (x30+1))) else
    some (now,(lines,()))
def A2 (n:Nat) (y:C.Ds Ty (snds Aj)):Option (YT Ty Bh):=Ag n y.1 y.2.1 y.2.2.1 y.2.2.2.1 y.2.2.2.2.1
noncomputable def fgarage_Resume_l1_cut (n:Nat):St Ty→Tr (Lf Ty):=cutC Aj 1 Bh (A2 n)
def AR (n:Nat) (b:List (IK .u8)) (more:List ByteArray):Option ((List (IK .u8)×Int×Unit)) :=
    (Ay n more).bind fun v0 =>
    bif v0.fst != 0 then(some ([],(v0.fst,()))) else
    (Ap n b).bind fun v1 =>
    (AU n v1.fst).bind fun v2 =>
    (Ag n v1.fst v2.fst more (↑more.length:Int) 0).bind fun v3 =>
    bif decide ((↑v3.snd.fst.length:Int)>50) then(some ([],(3,()))) else
    (AB n v3.snd.fst).bind fun v4 =>
    some (v4.fst,(0,()))
def CG (n:Nat) (y:C.Ds Ty (snds AZ)):Option (YT Ty BO):=AR n y.1 y.2.1
noncomputable def fgarage_Resume_law (n:Nat):Law Ty:=lawC AZ 0 BO (CG n)
noncomputable def fgarage_Resume_T (n:Nat):List (Nat×Law Ty):=[(52,fgarage_check_law n),(38,fgarage_Recover_law n),(53,fgarage_play_law n),(84,nextS_law n),(78,fgarage_written_law n)]
theorem Cx (n:Nat):LawsOk Tryz.prog (fgarage_Resume_T n):=⟨Az n,⟨BD n,⟨Bv n,⟨FB n,⟨BC n,trivial⟩⟩⟩⟩⟩
noncomputable def fgarage_Resume_l1_C (n:Nat):CutL Ty:=[]
theorem D6 (n:Nat) (x:C.Ds Ty (snds Aj)):(exec Tryz.prog 48 (callT Tryz.prog (fgarage_Resume_T n) []) (cutsOf (fgarage_Resume_l1_C n)) (bodyAt 7 Tryz.f45) (embS Aj x)).runK (typeRd 1 Aj Bh (A2 n))=A2 (n+1) x:=by kernel_rfl
theorem D7 (n:Nat):CutOk true Tryz.prog 48 (fgarage_Resume_l1_cut n) (.loop (bodyAt 7 Tryz.f45)):=cut_ok fun x y hy=>can_loop (Fn:=A2) prog_noRow prog_mix (fun n=>callT_ok prog_noRow prog_mix (Cx n) insNil) (fun h=>by cases h) (fun h=>by cases h) (fun n=>(cuts_ok (fn:=Tryz.f45) (L:=fgarage_Resume_l1_C n) (ks:=[]) trivial (by kernel_rfl) (by kernel_rfl))) (by decide) (fun _=>rfl) D6 hy
noncomputable def fgarage_Resume_C (n:Nat):CutL Ty:=[(.loop 7,fgarage_Resume_l1_cut n)]
theorem EC (n:Nat) (x:C.Ds Ty (snds AZ)):(exec Tryz.prog 48 (callT Tryz.prog (fgarage_Resume_T n) []) (cutsOf (fgarage_Resume_C n)) (codeOf Tryz.f45) (embS AZ x)).runK (typeRt Tryz.prog Tryz.f45.results.toList 0 BO)=CG n x:=by kernel_rfl
theorem D8 (n:Nat):LawOk Tryz.prog 45 (fgarage_Resume_law n):=law_ok Tryz.func45 rfl rfl (by decide) rfl prog_noRow prog_mix (callT_ok prog_noRow prog_mix (Cx n) insNil) (cuts_ok (fn:=Tryz.f45) (L:=fgarage_Resume_C n) (ks:=[.loop 7]) ⟨D7 n,trivial⟩ (by kernel_rfl) (by kernel_rfl)) (EC n)
def A3:List (Nat×C):=[(0,.l 9),(1,.s 87)]
def Bi:List Wo:=[⟨.ret,[],[],[.s 4]⟩]
def AI (n:Nat) (lines:List ByteArray) (at_:IK .u16):Option ((Bool×Unit)) :=
    (CW n lines).bind fun v0 =>
    bif !v0.fst then((BN n).bind fun v1 =>
    some (v1.fst,())) else
    (BI n lines).bind fun v1 =>
    (B5 n v1.fst).bind fun v2 =>
    (CS n lines v2.snd.fst).bind fun v3 =>
    (BI n v3.fst).bind fun v4 =>
    (Bm n v4.fst).bind fun v5 =>
    (BI n lines).bind fun v6 =>
    (AR n [] v6.fst).bind fun v7 =>
    bif !v2.snd.snd.fst != 0 then(bif !v5.snd.fst != 0 then(bif !v7.snd.fst != 0 then(bif !(strI v7.fst).beq (strI v5.fst) then(some (false,())) else
    (remQ (IntKind.i64.wrap at_.n) (IntKind.i64.wrap ((↑v5.fst.length:Int)+1))).bind fun v8 =>
    (lstSub v5.fst 0 v8).bind fun v9 =>
    (app [] v9).bind fun v10 =>
    (Ap n v10).bind fun v11 =>
    bif decide ((↑v11.fst.length:Int)>(↑v3.fst.length:Int)) then(some (false,())) else
    (lstSub v5.fst 0 v8).bind fun v12 =>
    (app [] v12).bind fun v13 =>
    (lstSub v3.fst (↑v11.fst.length:Int) (↑v3.fst.length:Int)).bind fun v14 =>
    (BI n v14).bind fun v15 =>
    (AR n v13 v15.fst).bind fun v16 =>
    bif decide (v16.snd.fst=0) then(bif (strI v16.fst).beq (strI v5.fst) then((BN n).bind fun v17 =>
    some (v17.fst,())) else
    some (false,())) else
    some (false,())) else
    some (false,())) else
    some (false,())) else
    some (false,())
def Ce (n:Nat) (y:C.Ds Ty (snds A3)):Option (YT Ty Bi):=AI n y.1 y.2.1
noncomputable def flaw_GarageGoesOn_law (n:Nat):Law Ty:=readC (lawC A3 0 Bi (Ce n))
noncomputable def flaw_GarageGoesOn_T (n:Nat):List (Nat×Law Ty):=[(27,flaw_ready_law n),(20,flaw_wakes_law n),(22,flaw_list_law n),(21,fgarage_Play_law n),(47,flaw_taken_law n),(37,fgarage_Write_law n),(45,fgarage_Resume_law n),(38,fgarage_Recover_law n)]
theorem Di (n:Nat):LawsOk Tryz.prog (flaw_GarageGoesOn_T n):=⟨Fq n,⟨Fx n,⟨FR n,⟨Cs n,⟨Fk n,⟨Cc n,⟨D8 n,⟨BD n,trivial⟩⟩⟩⟩⟩⟩⟩⟩
noncomputable def flaw_GarageGoesOn_C (n:Nat):CutL Ty:=[]
theorem D9 (n:Nat) (x:C.Ds Ty (snds A3)):(exec Tryz.prog 105 (callT Tryz.prog (flaw_GarageGoesOn_T n) []) (cutsOf (flaw_GarageGoesOn_C n)) (codeOf Tryz.f15) (embS A3 x)).runK (typeRt Tryz.prog Tryz.f15.results.toList 0 Bi)=Ce n x:=by kernel_rfl
theorem CH (n:Nat):LawOk Tryz.prog 15 (flaw_GarageGoesOn_law n):=readC_ok (law_ok Tryz.func15 rfl rfl (by decide) rfl prog_noRow prog_mix (callT_ok prog_noRow prog_mix (Di n) insNil) (cuts_ok (fn:=Tryz.f15) (L:=flaw_GarageGoesOn_C n) (ks:=[]) trivial (by kernel_rfl) (by kernel_rfl)) (D9 n))
end Go.Proofs.YtkpgggfibljflaaGreatDoor
namespace Go.Proofs.YtkpgggfibljflaaGreatDoor
open Go Go.RowKit Go.Proofs
theorem JW (k:Nat):BN (k+60)=some (true,()):=by kernel_rfl
end Go.Proofs.YtkpgggfibljflaaGreatDoor
