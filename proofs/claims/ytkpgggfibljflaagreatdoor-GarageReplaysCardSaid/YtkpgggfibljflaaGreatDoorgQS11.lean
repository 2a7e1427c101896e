/- What a proof leans on: a machine that steps through code, and what functions compute. -/
import Derived.Test.YtkpgggfibljflaaGreatDoorgQS10
import Derived.Lib.SliceRun
set_option linter.all false
set_option maxRecDepth 100000
namespace Go.Proofs.YtkpgggfibljflaaGreatDoor
noncomputable section
open Go Go.RowKit Go.Proofs
open Rep (rep)
def TX (S:TypeId):Code:=(Code.region 3
          #[{ dst:=some 5,op:=Op.buildSlice S 0 #[],type:=S,pos := "slices.go:362",after:=#[],guard:=none },
            { dst:=some 6,op:=Op.move (Operand.tmp 0),type:=S,pos := "slices.go:362",after:=#[],guard:=none },
            { dst:=some 7,op:=Op.call { callee:=Callee.builtin Builtin.append,args:=#[Operand.tmp 5,Operand.tmp 6],argTypes:=#[S,S] },
              type:=S,pos := "slices.go:362",after:=#[{ on:=0,ground:=Ground.data },{ on:=1,ground:=Ground.data }],guard:=none },
            { dst:=some 2,op:=Op.assign (Operand.tmp 7),type:=S,pos := "slices.go:362",
              after:=#[{ on:=2,ground:=Ground.data },{ on:=2,ground:=Ground.chain },{ on:=0,ground:=Ground.phase },{ on:=1,ground:=Ground.phase },{ on:=2,ground:=Ground.phase }],
              guard:=none }]
          false).seq
         Code.ret
def IC (S:TypeId):Code:=(Code.region 0
         #[{ dst:=some 2,op:=Op.assign (Operand.const (Value.slice none 0 0)),type:=S,pos := "slices.go:355",after:=#[],guard:=none }]
         false).seq
 (((Code.region 1
      #[{ dst:=some 3,op:=Op.move (Operand.tmp 0),type:=S,pos := "slices.go:357",after:=#[],guard:=none },
        { dst:=some 4,op:=Op.binOp BinOp.eql S (Operand.tmp 3) (Operand.const (Value.slice none 0 0)) S,type:=4,
          pos := "slices.go:357",after:=#[{ on:=0,ground:=Ground.data }],guard:=none }]
      false).seq
     (Code.cond (Operand.tmp 4)
      ((Code.region 2
         #[{ dst:=some 2,op:=Op.assign (Operand.const (Value.slice none 0 0)),type:=S,pos := "slices.go:358",after:=#[],guard:=none }]
         false).seq
        Code.ret)
      Code.skip)).seq
   (TX S))
def Ze6 (k:Nat) (l z:List (Ty k)):Lf Ty:=⟨.ret,⟨[(2,.hdr k 2128),(7,.hdr k 2128),(6,.lst k l),(5,.hdr k 2000),(0,.lst k l)],[(2128,.row k z)],2256⟩⟩
def Zf4 (k:Nat) (y:C.Ds Ty (A9 [(0,C.l k)])):Option (YT Ty [⟨.ret,[],[],[.o k]⟩]):=(app [] (y.1:List (Ty k))).bind fun z=>some ((z,()):List (Ty k)×Unit)
theorem EH (S k:Nat) (fn:Func) (hn:fn.ntmps=8) (hres:fn.results=#[.tmp 2]) (hu:Tryz.prog.underlying S=some (.slice k)) (hsz:0<Rep.sz (Ty k))
  (hB:∀ l:List (Ty k),(Cv Tryz.prog 8 (BJ Tryz.prog [] []) (A0 []) (TX S) ⟨[(0,.lst k l)],[],2000⟩).runK some=(app [] l).bind fun z=>some (Ze6 k l z))
  (hN:DS 0 false ([.nils]:List (V Ty)) ⟨[],[],2000⟩ [⟨.ret,[],[],[.o k]⟩]=some (([],()):List (Ty k)×Unit)) (hZ:∀ z:List (Ty k),DS 0 false ([.hdr k 2128]:List (V Ty)) ⟨[],[(2128,.row k z)],2256⟩ [⟨.ret,[],[],[.o k]⟩]=some ((z,()):List (Ty k)×Unit))
  (x:C.Ds Ty (A9 [(0,C.l k)])) (y:YT Ty [⟨.ret,[],[],[.o k]⟩]) (hy:Zf4 k x=some y) (F:Fr) (h:Ad) (g:GE) (t:Array Value) (w:World) (R:Ending→World→Prop) (hs:RS fn.ntmps F h g (2*Au) (Bp [(0,C.l k)] x).m (Bp [(0,C.l k)] x).s t w)
  (hfin:∀ (F3:Fr)(h2:Ad)(g2:GE)(w3:World)(st:St Ty)(p:Bool)(rv:List (V Ty))(rus:List Value),st.m=[]→FD F F3 [] []→Ad.le h h2→(∀ i,i<2*Au→g2 i=g i)→2*Au≤st.nx→Ag F3 h2 g2 (AL.get st.s) w3→HG st.nx (AL.get st.s)→DS 0 p rv st [⟨.ret,[],[],[.o k]⟩]=some y→V.dens g2 h2 rv rus→V.oksB (Cl st.nx) rv=true→R (NW p (Ls rus)) w3) :
  (IC S).wp Tryz.prog (bodyPostM Fence.wide 0 Tryz.prog fn R) ⟨t,[]⟩ w:=by
 rw [hn] at hs
 obtain⟨l,⟨⟩⟩:=x
 have hl:List (Ty k):=l
 obtain⟨u,hu0,hd⟩:=hs.kn 0 (.lst k l) rfl
 unfold V.den at hd
 obtain⟨a,c,rfl,hr⟩:=hd
 have q:∀ (w:World)(a:Option Addr)(n c:Nat),(binOp .eql S (.slice a n c) (.slice none 0 0)).run Tryz.prog w=.ok (.bool a.isNone) w:=fun w a n c=>Lib.run_eql_slice_nil w _ _ a n c 0 0 hu
 have hts:=hs.size
 have h0:0<t.size:=by omega
 have hu1:t[0]'h0=.slice a l.length c:=by rw [ZaB h0] at hu0; exact Option.some.inj hu0
 have gq:∀ w,(eqGuard .eql S (.tmp 3) (.const (.slice none 0 0)) (.slice a l.length c) (.slice none 0 0)).run Tryz.prog w=.ok () w:=fun w=>HT (P:=Tryz.prog) .eql S (.tmp 3) (.const (.slice none 0 0)) _ _ w (by simp) (by simp)
 unfold IC
 refine wp_seq (wp_region ?_)
 simp [wpOps,go_sem,Region.wanted,Act.eval]
 refine .inl (wp_seq (wp_seq (wp_region ?_)))
 simp [wpOps,go_sem,Region.wanted,Act.eval,hu1,hts,q,gq]
 refine .inl (.inl (wp_cond_split (t:=a.isNone) (by simp [Act.eval,hts]) (fun ha=>?_) (fun ha=>?_)))
 · have hl0:l=[]:=hr.isNil hsz ha
   refine wp_seq (wp_region ?_)
   simp [wpOps,go_sem,Region.wanted,Act.eval]
   refine .inl (wp_ret ?_)
   show LeavesInM Fence.wide 0 Tryz.prog fn _ R [] .returning w
   refine⟨.slice none 0 0,?_,?_⟩
   · simp [results,hres,go_sem,hts]
   · refine hfin F h g w ⟨[],[],2000⟩ false [.nils] [.slice none 0 0] rfl (FD.refl F []) (Ad.le_refl _) (fun _ _=>rfl) (by decide) (hs.mem.less (fun i c hi=>by cases hi)) (fun i c hi=>by cases hi) ?_ ?_ rfl
     · rw [hN,← hy,hl0]; rfl
     · unfold V.dens V.dens; exact⟨_,[],rfl,by unfold V.den; rfl,rfl⟩
 · refine wp_skip ?_
   show Code.wp Tryz.prog (TX S) _ _ w
   obtain⟨z,hz,hy2⟩:=Zae.1 hy
   have hrun:=hB l
   rw [hz] at hrun
   refine Bg (y:=true) (call:=BJ Tryz.prog [] []) (cuts:=A0 []) Ae Aj (A3 (T:=[]) (I:=[]) Ae Aj trivial trivial) (fun h=>by cases h) (TX S) (fun h=>by cases h) (fun _ _ _ hf=>by cases hf) ⟨[(0,.lst k l)],[],2000⟩ _ hrun F h g _ w _ [] ⟨by simp [hts],?_,hs.mem.less (fun i c hi=>by cases hi),?_,fun i c hi=>by cases hi⟩ ?_
   · intro j v hv
     have hv2:(bif Nat.beq 0 j then some (V.lst k l) else none)=some v:=hv
     cases hb:Nat.beq 0 j with
     | false=>rw [hb] at hv2; cases hv2
     | true =>
      rw [hb] at hv2
      cases hv2
      have:=Zab hb
      subst this
      refine⟨.slice a l.length c,?_,by unfold V.den; exact⟨a,c,rfl,hr⟩⟩
      simp [hts,hu1]
   · intro j v hv
     have hv2:(bif Nat.beq 0 j then some (V.lst k l) else none)=some v:=hv
     cases hb:Nat.beq 0 j with
     | false=>rw [hb] at hv2; cases hv2
     | true=>rw [hb] at hv2; cases hv2; rfl
   · intro F1 d1 h1 g1 t1 w1 q0 q1 q2 q3 q4
     obtain⟨bs,hd1,nd,hX⟩:=q0.ds
     rw [Zbd] at hd1
     show LeavesInM Fence.wide 0 Tryz.prog fn t1 R d1 .returning w1
     rw [hd1]
     refine Dh (F:=F) (h:=h1) (g:=g1) (M:=AL.get (Ze6 k l z).st.s) (by simp) (fun F3 w3 hf3 hm3=>?_) bs F1 w1 q0.nil q4.mem nd hX
     obtain⟨us,r1,r2⟩:=GU (P:=Tryz.prog) (fn:=fn) (vs:=[.hdr k 2128]) q4.kn hm3 (by rw [hres]; rfl)
     refine⟨Ls us,r2,?_⟩
     refine hfin F3 h1 g1 w3 ⟨[],(Ze6 k l z).st.s,2256⟩ false [.hdr k 2128] us rfl hf3 q1 (fun i hi=>q2 i hi) (show 2*Au≤2256 by decide) hm3 q4.is_ ?_ r1 rfl
     exact(hZ z).trans hy2
def Z7:List (Nat×C):=[(0,.l 60)]
def Z8:List Wo:=[⟨.ret,[],[],[.o 60]⟩]
def ID (n:Nat) (l:List Jk):Option (List Jk×Unit):=(app [] l).bind fun z=>some (z,())
def Zeg (n:Nat):FQ Ty:=ET Z7 0 Z8 (fun y=>ID n y.1)
theorem R4 (n:Nat):AX Tryz.prog 262 (Zeg n):=FZ (c:=IC 26) Tryz.func262 (by kernel_rfl) (by kernel_rfl) (by decide) rfl (EH 26 60 Tryz.f262 (by kernel_rfl) (by kernel_rfl) (by kernel_rfl) (by decide) (fun l=>by kernel_rfl) (by kernel_rfl) (fun z=>by kernel_rfl))
def AbP:List (Nat×C):=[(0,.l 3)]
def AbQ:List Wo:=[⟨.ret,[],[],[.o 3]⟩]
def Lx (n:Nat) (l:List Int):Option (List Int×Unit):=(app [] l).bind fun z=>some (z,())
def Zes (n:Nat):FQ Ty:=ET AbP 0 AbQ (fun y=>Lx n y.1)
theorem TY (n:Nat):AX Tryz.prog 268 (Zes n):=FZ (c:=IC 33) Tryz.func268 (by kernel_rfl) (by kernel_rfl) (by decide) rfl (EH 33 3 Tryz.f268 (by kernel_rfl) (by kernel_rfl) (by kernel_rfl) (by decide) (fun l=>by kernel_rfl) (by kernel_rfl) (fun z=>by kernel_rfl))
def Z9:List (Nat×C):=[(0,.l 62)]
def ZA:List Wo:=[⟨.ret,[],[],[.o 62]⟩]
def TZ (n:Nat) (l:List I9):Option (List I9×Unit):=(app [] l).bind fun z=>some (z,())
def Zeh (n:Nat):FQ Ty:=ET Z9 0 ZA (fun y=>TZ n y.1)
theorem R5 (n:Nat):AX Tryz.prog 310 (Zeh n):=FZ (c:=IC 27) Tryz.func310 (by kernel_rfl) (by kernel_rfl) (by decide) rfl (EH 27 62 Tryz.f310 (by kernel_rfl) (by kernel_rfl) (by kernel_rfl) (by decide) (fun l=>by kernel_rfl) (by kernel_rfl) (fun z=>by kernel_rfl))
def Xu:List (Nat×C):=[(0,.l 186)]
def Xv:List Wo:=[⟨.ret,[],[],[.o 186]⟩]
def QR (n:Nat) (l:List AA):Option (List AA×Unit):=(app [] l).bind fun z=>some (z,())
def ZdM (n:Nat):FQ Ty:=ET Xu 0 Xv (fun y=>QR n y.1)
theorem QS (n:Nat):AX Tryz.prog 314 (ZdM n):=FZ (c:=IC 30) Tryz.func314 (by kernel_rfl) (by kernel_rfl) (by decide) rfl (EH 30 186 Tryz.f314 (by kernel_rfl) (by kernel_rfl) (by kernel_rfl) (by decide) (fun l=>by kernel_rfl) (by kernel_rfl) (fun z=>by kernel_rfl))
def Xw:List (Nat×C):=[(0,.l 184)]
def Xx:List Wo:=[⟨.ret,[],[],[.o 184]⟩]
def QT (n:Nat) (l:List AH):Option (List AH×Unit):=(app [] l).bind fun z=>some (z,())
def ZdN (n:Nat):FQ Ty:=ET Xw 0 Xx (fun y=>QT n y.1)
theorem QU (n:Nat):AX Tryz.prog 315 (ZdN n):=FZ (c:=IC 29) Tryz.func315 (by kernel_rfl) (by kernel_rfl) (by decide) rfl (EH 29 184 Tryz.f315 (by kernel_rfl) (by kernel_rfl) (by kernel_rfl) (by decide) (fun l=>by kernel_rfl) (by kernel_rfl) (fun z=>by kernel_rfl))
def Xy:List (Nat×C):=[(0,.l 180)]
def Xz:List Wo:=[⟨.ret,[],[],[.o 180]⟩]
def QV (n:Nat) (l:List Ap):Option (List Ap×Unit):=(app [] l).bind fun z=>some (z,())
def ZdO (n:Nat):FQ Ty:=ET Xy 0 Xz (fun y=>QV n y.1)
theorem QW (n:Nat):AX Tryz.prog 340 (ZdO n):=FZ (c:=IC 25) Tryz.func340 (by kernel_rfl) (by kernel_rfl) (by decide) rfl (EH 25 180 Tryz.f340 (by kernel_rfl) (by kernel_rfl) (by kernel_rfl) (by decide) (fun l=>by kernel_rfl) (by kernel_rfl) (fun z=>by kernel_rfl))
def ZB:List (Nat×C):=[(0,.l 93)]
def ZC:List Wo:=[⟨.ret,[],[],[.o 93]⟩]
def Ua (n:Nat) (l:List Ab):Option (List Ab×Unit):=(app [] l).bind fun z=>some (z,())
def Zei (n:Nat):FQ Ty:=ET ZB 0 ZC (fun y=>Ua n y.1)
theorem R6 (n:Nat):AX Tryz.prog 342 (Zei n):=FZ (c:=IC 28) Tryz.func342 (by kernel_rfl) (by kernel_rfl) (by decide) rfl (EH 28 93 Tryz.f342 (by kernel_rfl) (by kernel_rfl) (by kernel_rfl) (by decide) (fun l=>by kernel_rfl) (by kernel_rfl) (fun z=>by kernel_rfl))
end
end Go.Proofs.YtkpgggfibljflaaGreatDoor
