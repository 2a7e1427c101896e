/- What a proof leans on: a machine that steps through code, and what functions compute. -/
import Derived.Test.YtkpgggfibljflaaGreatDoorgES10
import Derived.Lib.SliceRun
set_option linter.all false
set_option maxRecDepth 100000
namespace Go.Proofs.YtkpgggfibljflaaGreatDoor
open Go Go.RowKit Go.Proofs
open Rep (rep)
def Ac3 (S:TypeId):Code:=(Code.region 3
              #[{ dst:=some 5,op:=Op.buildSlice S 0 #[],type:=S,pos := "slices.go:362",after:=#[],guard:=none },
                { dst:=some 6,op:=Op.move (Operand.tmp 0),type:=S,pos := "slices.go:362",after:=#[],guard:=none },
                { dst:=some 7,op:=Op.call { callee:=Callee.builtin Builtin.append,args:=#[Operand.tmp 5,Operand.tmp 6],argTypes:=#[S,S] },
                  type:=S,pos := "slices.go:362",after:=#[{ on:=0,ground:=Ground.data },{ on:=1,ground:=Ground.data }],guard:=none },
                { dst:=some 2,op:=Op.assign (Operand.tmp 7),type:=S,pos := "slices.go:362",
                  after:=#[{ on:=2,ground:=Ground.data },{ on:=2,ground:=Ground.chain },{ on:=0,ground:=Ground.phase },{ on:=1,ground:=Ground.phase },{ on:=2,ground:=Ground.phase }],
                  guard:=none }]
              false).seq
          Code.ret
def O9 (S:TypeId):Code:=(Code.region 0
          #[{ dst:=some 2,op:=Op.assign (Operand.const (Value.slice none 0 0)),type:=S,pos := "slices.go:355",after:=#[],guard:=none }]
          false).seq
      (((Code.region 1
                #[{ dst:=some 3,op:=Op.move (Operand.tmp 0),type:=S,pos := "slices.go:357",after:=#[],guard:=none },
                  { dst:=some 4,op:=Op.binOp BinOp.eql S (Operand.tmp 3) (Operand.const (Value.slice none 0 0)) S,type:=4,
                    pos := "slices.go:357",after:=#[{ on:=0,ground:=Ground.data }],guard:=none }]
                false).seq
            (Code.cond (Operand.tmp 4)
              ((Code.region 2
                    #[{ dst:=some 2,op:=Op.assign (Operand.const (Value.slice none 0 0)),type:=S,pos := "slices.go:358",after:=#[],guard:=none }]
                    false).seq
                Code.ret)
              Code.skip)).seq
        (Ac3 S))
noncomputable def cloneLf (k:Nat) (l z:List (Ty k)):Lf Ty:=⟨.ret,⟨[(2,.hdr k 2128),(7,.hdr k 2128),(6,.lst k l),(5,.hdr k 2000),(0,.lst k l)],[(2128,.row k z)],2256⟩⟩
noncomputable def cloneF (k:Nat) (y:C.Ds Ty (Aj [(0,C.l k)])):Option (YT Ty [⟨.ret,[],[],[.o k]⟩]):=(app [] (y.1:List (Ty k))).bind fun z=>some ((z,()):List (Ty k)×Unit)
theorem HE (S k:Nat) (fn:Func) (hn:fn.ntmps=8) (hres:fn.results=#[.tmp 2]) (hu:Tryz.prog.underlying S=some (.slice k)) (hsz:0<Rep.sz (Ty k))
    (hB:∀ l:List (Ty k),(Az Tryz.prog 8 (Am Tryz.prog [] []) (Ai []) (Ac3 S) ⟨[(0,.lst k l)],[],2000⟩).runK some=(app [] l).bind fun z=>some (cloneLf k l z))
    (hN:Gm 0 false ([.nils]:List (V Ty)) ⟨[],[],2000⟩ [⟨.ret,[],[],[.o k]⟩]=some (([],()):List (Ty k)×Unit)) (hZ:∀ z:List (Ty k),Gm 0 false ([.hdr k 2128]:List (V Ty)) ⟨[],[(2128,.row k z)],2256⟩ [⟨.ret,[],[],[.o k]⟩]=some ((z,()):List (Ty k)×Unit))
    (x:C.Ds Ty (Aj [(0,C.l k)])) (y:YT Ty [⟨.ret,[],[],[.o k]⟩]) (hy:cloneF k x=some y) (F:Fr) (h:Ag) (g:GE) (t:Array Value) (w:World) (R:Ending→World→Prop) (hs:RS fn.ntmps F h g (2*AC) (Aw [(0,C.l k)] x).m (Aw [(0,C.l k)] x).s t w)
    (hfin:∀ (F3:Fr)(h2:Ag)(g2:GE)(w3:World)(st:St Ty)(p:Bool)(rv:List (V Ty))(rus:List Value),st.m=[]→FD F F3 [] []→Ag.le h h2→(∀ i,i<2*AC→g2 i=g i)→2*AC≤st.nx→Ao F3 h2 g2 (AL.get st.s) w3→Oe st.nx (AL.get st.s)→Gm 0 p rv st [⟨.ret,[],[],[.o k]⟩]=some y→V.dens g2 h2 rv rus→V.oksB (D2 st.nx) rv=true→R (Ws p (SB rus)) w3) :
    (O9 S).wp Tryz.prog (bodyPostM Fence.wide 0 Tryz.prog fn R) ⟨t,[]⟩ w:=by
  rw [hn] at hs
  obtain⟨l,⟨⟩⟩:=x
  have hl:List (Ty k):=l
  obtain⟨u,hu0,hd⟩:=hs.kn 0 (.lst k l) rfl
  unfold V.den at hd
  obtain⟨a,c,rfl,hr⟩:=hd
  have q:∀ (w:World)(a:Option Addr)(n c:Nat),(binOp .eql S (.slice a n c) (.slice none 0 0)).run Tryz.prog w=.ok (.bool a.isNone) w:=fun w a n c=>Lib.run_eql_slice_nil w _ _ a n c 0 0 hu
  have hts:=hs.size
  have h0:0<t.size:=by omega
  have hu1:t[0]'h0=.slice a l.length c:=by rw [Array.getElem?_eq_getElem h0] at hu0; exact Option.some.inj hu0
  have gq:∀ w,(eqGuard .eql S (.tmp 3) (.const (.slice none 0 0)) (.slice a l.length c) (.slice none 0 0)).run Tryz.prog w=.ok () w:=fun w=>Nt (P:=Tryz.prog) .eql S (.tmp 3) (.const (.slice none 0 0)) _ _ w (by simp) (by simp)
  unfold O9
  refine wp_seq (wp_region ?_)
  simp [wpOps,go_sem,Region.wanted,Act.eval]
  refine .inl (wp_seq (wp_seq (wp_region ?_)))
  simp [wpOps,go_sem,Region.wanted,Act.eval,hu1,hts,q,gq]
  refine .inl (.inl (wp_cond_split (t:=a.isNone) (by simp [Act.eval,hts]) (fun ha=>?_) (fun ha=>?_)))
  · have hl0:l=[]:=hr.isNil hsz ha
    refine wp_seq (wp_region ?_)
    simp [wpOps,go_sem,Region.wanted,Act.eval]
    refine .inl (wp_ret ?_)
    show LeavesInM Fence.wide 0 Tryz.prog fn _ R [] .returning w
    refine⟨.slice none 0 0,?_,?_⟩
    · simp [results,hres,go_sem,hts]
    · refine hfin F h g w ⟨[],[],2000⟩ false [.nils] [.slice none 0 0] rfl (FD.refl F []) (Ag.le_refl _) (fun _ _=>rfl) (by decide) (hs.mem.less (fun i c hi=>by cases hi)) (fun i c hi=>by cases hi) ?_ ?_ rfl
      · rw [hN,← hy,hl0]; rfl
      · unfold V.dens V.dens; exact⟨_,[],rfl,by unfold V.den; rfl,rfl⟩
  · refine wp_skip ?_
    show Code.wp Tryz.prog (Ac3 S) _ _ w
    obtain⟨z,hz,hy2⟩:=Option.bind_eq_some_iff.1 hy
    have hrun:=hB l
    rw [hz] at hrun
    refine BE (y:=true) (call:=Am Tryz.prog [] []) (cuts:=Ai []) Aa Ab (Ad (T:=[]) (I:=[]) Aa Ab trivial trivial) (fun h=>by cases h) (Ac3 S) (fun h=>by cases h) (fun _ _ _ hf=>by cases hf) ⟨[(0,.lst k l)],[],2000⟩ _ hrun F h g _ w _ [] ⟨by simp [hts],?_,hs.mem.less (fun i c hi=>by cases hi),?_,fun i c hi=>by cases hi⟩ ?_
    · intro j v hv
      have hv2:(bif Nat.beq 0 j then some (V.lst k l) else none)=some v:=hv
      cases hb:Nat.beq 0 j with
      | false=>rw [hb] at hv2; cases hv2
      | true =>
        rw [hb] at hv2
        cases hv2
        have:=Nat.eq_of_beq_eq_true hb
        subst this
        refine⟨.slice a l.length c,?_,by unfold V.den; exact⟨a,c,rfl,hr⟩⟩
        simp [hts,hu1]
    · intro j v hv
      have hv2:(bif Nat.beq 0 j then some (V.lst k l) else none)=some v:=hv
      cases hb:Nat.beq 0 j with
      | false=>rw [hb] at hv2; cases hv2
      | true=>rw [hb] at hv2; cases hv2; rfl
    · intro F1 d1 h1 g1 t1 w1 q0 q1 q2 q3 q4
      obtain⟨bs,hd1,nd,hX⟩:=q0.ds
      rw [List.append_nil] at hd1
      show LeavesInM Fence.wide 0 Tryz.prog fn t1 R d1 .returning w1
      rw [hd1]
      refine E9 (F:=F) (h:=h1) (g:=g1) (M:=AL.get (cloneLf k l z).st.s) (by simp) (fun F3 w3 hf3 hm3=>?_) bs F1 w1 q0.nil q4.mem nd hX
      obtain⟨us,r1,r2⟩:=KZ (P:=Tryz.prog) (fn:=fn) (vs:=[.hdr k 2128]) q4.kn hm3 (by rw [hres]; rfl)
      refine⟨SB us,r2,?_⟩
      refine hfin F3 h1 g1 w3 ⟨[],(cloneLf k l z).st.s,2256⟩ false [.hdr k 2128] us rfl hf3 q1 (fun i hi=>q2 i hi) (show 2*AC≤2256 by decide) hm3 q4.is_ ?_ r1 rfl
      exact(hZ z).trans hy2
def Ah8:List (Nat×C):=[(0,.l 60)]
def Ah9:List Wo:=[⟨.ret,[],[],[.o 60]⟩]
def OA (n:Nat) (l:List Sf):Option (List Sf×Unit):=(app [] l).bind fun z=>some (z,())
noncomputable def clone60_law (n:Nat):AE Ty:=AF Ah8 0 Ah9 (fun y=>OA n y.1)
theorem Sj (n:Nat):Ar Tryz.prog 262 (clone60_law n):=JF (c:=O9 26) Tryz.func262 (by kernel_rfl) (by kernel_rfl) (by decide) rfl (HE 26 60 Tryz.f262 (by kernel_rfl) (by kernel_rfl) (by kernel_rfl) (by decide) (fun l=>by kernel_rfl) (by kernel_rfl) (fun z=>by kernel_rfl))
def AjP:List (Nat×C):=[(0,.l 3)]
def AjQ:List Wo:=[⟨.ret,[],[],[.o 3]⟩]
def SH (n:Nat) (l:List Int):Option (List Int×Unit):=(app [] l).bind fun z=>some (z,())
noncomputable def clone3_law (n:Nat):AE Ty:=AF AjP 0 AjQ (fun y=>SH n y.1)
theorem Uj (n:Nat):Ar Tryz.prog 268 (clone3_law n):=JF (c:=O9 33) Tryz.func268 (by kernel_rfl) (by kernel_rfl) (by decide) rfl (HE 33 3 Tryz.f268 (by kernel_rfl) (by kernel_rfl) (by kernel_rfl) (by decide) (fun l=>by kernel_rfl) (by kernel_rfl) (fun z=>by kernel_rfl))
def AhA:List (Nat×C):=[(0,.l 62)]
def AhB:List Wo:=[⟨.ret,[],[],[.o 62]⟩]
def Ac4 (n:Nat) (l:List W9):Option (List W9×Unit):=(app [] l).bind fun z=>some (z,())
noncomputable def clone62_law (n:Nat):AE Ty:=AF AhA 0 AhB (fun y=>Ac4 n y.1)
theorem Aao (n:Nat):Ar Tryz.prog 310 (clone62_law n):=JF (c:=O9 27) Tryz.func310 (by kernel_rfl) (by kernel_rfl) (by decide) rfl (HE 27 62 Tryz.f310 (by kernel_rfl) (by kernel_rfl) (by kernel_rfl) (by decide) (fun l=>by kernel_rfl) (by kernel_rfl) (fun z=>by kernel_rfl))
def Af1:List (Nat×C):=[(0,.l 186)]
def Af2:List Wo:=[⟨.ret,[],[],[.o 186]⟩]
def Z0 (n:Nat) (l:List AR):Option (List AR×Unit):=(app [] l).bind fun z=>some (z,())
noncomputable def clone186_law (n:Nat):AE Ty:=AF Af1 0 Af2 (fun y=>Z0 n y.1)
theorem Z1 (n:Nat):Ar Tryz.prog 314 (clone186_law n):=JF (c:=O9 30) Tryz.func314 (by kernel_rfl) (by kernel_rfl) (by decide) rfl (HE 30 186 Tryz.f314 (by kernel_rfl) (by kernel_rfl) (by kernel_rfl) (by decide) (fun l=>by kernel_rfl) (by kernel_rfl) (fun z=>by kernel_rfl))
def Af3:List (Nat×C):=[(0,.l 184)]
def Af4:List Wo:=[⟨.ret,[],[],[.o 184]⟩]
def Z2 (n:Nat) (l:List Bu):Option (List Bu×Unit):=(app [] l).bind fun z=>some (z,())
noncomputable def clone184_law (n:Nat):AE Ty:=AF Af3 0 Af4 (fun y=>Z2 n y.1)
theorem Z3 (n:Nat):Ar Tryz.prog 315 (clone184_law n):=JF (c:=O9 29) Tryz.func315 (by kernel_rfl) (by kernel_rfl) (by decide) rfl (HE 29 184 Tryz.f315 (by kernel_rfl) (by kernel_rfl) (by kernel_rfl) (by decide) (fun l=>by kernel_rfl) (by kernel_rfl) (fun z=>by kernel_rfl))
def Af5:List (Nat×C):=[(0,.l 180)]
def Af6:List Wo:=[⟨.ret,[],[],[.o 180]⟩]
def Z4 (n:Nat) (l:List A6):Option (List A6×Unit):=(app [] l).bind fun z=>some (z,())
noncomputable def clone180_law (n:Nat):AE Ty:=AF Af5 0 Af6 (fun y=>Z4 n y.1)
theorem Z5 (n:Nat):Ar Tryz.prog 340 (clone180_law n):=JF (c:=O9 25) Tryz.func340 (by kernel_rfl) (by kernel_rfl) (by decide) rfl (HE 25 180 Tryz.f340 (by kernel_rfl) (by kernel_rfl) (by kernel_rfl) (by decide) (fun l=>by kernel_rfl) (by kernel_rfl) (fun z=>by kernel_rfl))
def AhC:List (Nat×C):=[(0,.l 93)]
def AhD:List Wo:=[⟨.ret,[],[],[.o 93]⟩]
def Ac5 (n:Nat) (l:List Ac):Option (List Ac×Unit):=(app [] l).bind fun z=>some (z,())
noncomputable def clone93_law (n:Nat):AE Ty:=AF AhC 0 AhD (fun y=>Ac5 n y.1)
theorem Aap (n:Nat):Ar Tryz.prog 342 (clone93_law n):=JF (c:=O9 28) Tryz.func342 (by kernel_rfl) (by kernel_rfl) (by decide) rfl (HE 28 93 Tryz.f342 (by kernel_rfl) (by kernel_rfl) (by kernel_rfl) (by decide) (fun l=>by kernel_rfl) (by kernel_rfl) (fun z=>by kernel_rfl))
end Go.Proofs.YtkpgggfibljflaaGreatDoor
