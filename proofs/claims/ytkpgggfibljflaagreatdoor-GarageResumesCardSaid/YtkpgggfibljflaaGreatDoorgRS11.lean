/- What a proof leans on: a machine that steps through code, and what functions compute. -/
import Derived.Test.YtkpgggfibljflaaGreatDoorgRS10
import Derived.Lib.SliceRun
set_option linter.all false
set_option maxRecDepth 100000
namespace Go.Proofs.YtkpgggfibljflaaGreatDoor
noncomputable section
open Go Go.RowKit Go.Proofs
open Rep (rep)
def Alv (S:TypeId):Code:=(Code.region 3
           #[{ dst:=some 5,op:=Op.buildSlice S 0 #[],type:=S,pos := "slices.go:362",after:=#[],guard:=none },
             { dst:=some 6,op:=Op.move (Operand.tmp 0),type:=S,pos := "slices.go:362",after:=#[],guard:=none },
             { dst:=some 7,op:=Op.call { callee:=Callee.builtin Builtin.append,args:=#[Operand.tmp 5,Operand.tmp 6],argTypes:=#[S,S] },
               type:=S,pos := "slices.go:362",after:=#[{ on:=0,ground:=Ground.data },{ on:=1,ground:=Ground.data }],guard:=none },
             { dst:=some 2,op:=Op.assign (Operand.tmp 7),type:=S,pos := "slices.go:362",
               after:=#[{ on:=2,ground:=Ground.data },{ on:=2,ground:=Ground.chain },{ on:=0,ground:=Ground.phase },{ on:=1,ground:=Ground.phase },{ on:=2,ground:=Ground.phase }],
               guard:=none }]
           false).seq
          Code.ret
def Tz (S:TypeId):Code:=(Code.region 0
         #[{ dst:=some 2,op:=Op.assign (Operand.const (Value.slice none 0 0)),type:=S,pos := "slices.go:355",after:=#[],guard:=none }]
         false).seq
 (((Code.region 1
      #[{ dst:=some 3,op:=Op.move (Operand.tmp 0),type:=S,pos := "slices.go:357",after:=#[],guard:=none },
        { dst:=some 4,op:=Op.binOp BinOp.eql S (Operand.tmp 3) (Operand.const (Value.slice none 0 0)) S,type:=4,
          pos := "slices.go:357",after:=#[{ on:=0,ground:=Ground.data }],guard:=none }]
      false).seq
     (Code.cond (Operand.tmp 4)
      ((Code.region 2
         #[{ dst:=some 2,op:=Op.assign (Operand.const (Value.slice none 0 0)),type:=S,pos := "slices.go:358",after:=#[],guard:=none }]
         false).seq
        Code.ret)
      Code.skip)).seq
   (Alv S))
def Zkv (k:Nat) (l z:List (Ty k)):Lf Ty:=⟨.ret,⟨[(2,.hdr k 2128),(7,.hdr k 2128),(6,.lst k l),(5,.hdr k 2000),(0,.lst k l)],[(2128,.row k z)],2256⟩⟩
def ZkE (k:Nat) (y:C.Ds Ty (Af [(0,C.l k)])):Option (YT Ty [⟨.ret,[],[],[.o k]⟩]):=(app [] (y.1:List (Ty k))).bind fun z=>some ((z,()):List (Ty k)×Unit)
theorem Kl (S k:Nat) (fn:Func) (hn:fn.ntmps=8) (hres:fn.results=#[.tmp 2]) (hu:Tryz.prog.underlying S=some (.slice k)) (hsz:0<Rep.sz (Ty k))
  (hB:∀ l:List (Ty k),(Ay Tryz.prog 8 (Al Tryz.prog [] []) (Ae []) (Alv S) ⟨[(0,.lst k l)],[],2000⟩).runK some=(app [] l).bind fun z=>some (Zkv k l z))
  (hN:Io 0 false ([.nils]:List (V Ty)) ⟨[],[],2000⟩ [⟨.ret,[],[],[.o k]⟩]=some (([],()):List (Ty k)×Unit)) (hZ:∀ z:List (Ty k),Io 0 false ([.hdr k 2128]:List (V Ty)) ⟨[],[(2128,.row k z)],2256⟩ [⟨.ret,[],[],[.o k]⟩]=some ((z,()):List (Ty k)×Unit))
  (x:C.Ds Ty (Af [(0,C.l k)])) (y:YT Ty [⟨.ret,[],[],[.o k]⟩]) (hy:ZkE k x=some y) (F:Fr) (h:Ak) (g:GE) (t:Array Value) (w:World) (R:Ending→World→Prop) (hs:RS fn.ntmps F h g (2*AK) (Av [(0,C.l k)] x).m (Av [(0,C.l k)] x).s t w)
  (hfin:∀ (F3:Fr)(h2:Ak)(g2:GE)(w3:World)(st:St Ty)(p:Bool)(rv:List (V Ty))(rus:List Value),st.m=[]→FD F F3 [] []→Ak.le h h2→(∀ i,i<2*AK→g2 i=g i)→2*AK≤st.nx→A2 F3 h2 g2 (AL.get st.s) w3→SQ st.nx (AL.get st.s)→Io 0 p rv st [⟨.ret,[],[],[.o k]⟩]=some y→V.dens g2 h2 rv rus→V.oksB (Eh st.nx) rv=true→R (Aeb p (YX rus)) w3) :
  (Tz S).wp Tryz.prog (bodyPostM Fence.wide 0 Tryz.prog fn R) ⟨t,[]⟩ w:=by
 rw [hn] at hs
 obtain⟨l,⟨⟩⟩:=x
 have hl:List (Ty k):=l
 obtain⟨u,hu0,hd⟩:=hs.kn 0 (.lst k l) rfl
 unfold V.den at hd
 obtain⟨a,c,rfl,hr⟩:=hd
 have q:∀ (w:World)(a:Option Addr)(n c:Nat),(binOp .eql S (.slice a n c) (.slice none 0 0)).run Tryz.prog w=.ok (.bool a.isNone) w:=fun w a n c=>Lib.run_eql_slice_nil w _ _ a n c 0 0 hu
 have hts:=hs.size
 have h0:0<t.size:=by omega
 have hu1:t[0]'h0=.slice a l.length c:=by rw [ZaI h0] at hu0; exact Option.some.inj hu0
 have gq:∀ w,(eqGuard .eql S (.tmp 3) (.const (.slice none 0 0)) (.slice a l.length c) (.slice none 0 0)).run Tryz.prog w=.ok () w:=fun w=>RX (P:=Tryz.prog) .eql S (.tmp 3) (.const (.slice none 0 0)) _ _ w (by simp) (by simp)
 unfold Tz
 refine wp_seq (wp_region ?_)
 simp [wpOps,go_sem,Region.wanted,Act.eval]
 refine .inl (wp_seq (wp_seq (wp_region ?_)))
 simp [wpOps,go_sem,Region.wanted,Act.eval,hu1,hts,q,gq]
 refine .inl (.inl (wp_cond_split (t:=a.isNone) (by simp [Act.eval,hts]) (fun ha=>?_) (fun ha=>?_)))
 · have hl0:l=[]:=hr.isNil hsz ha
   refine wp_seq (wp_region ?_)
   simp [wpOps,go_sem,Region.wanted,Act.eval]
   refine .inl (wp_ret ?_)
   show LeavesInM Fence.wide 0 Tryz.prog fn _ R [] .returning w
   refine⟨.slice none 0 0,?_,?_⟩
   · simp [results,hres,go_sem,hts]
   · refine hfin F h g w ⟨[],[],2000⟩ false [.nils] [.slice none 0 0] rfl (FD.refl F []) (Ak.le_refl _) (fun _ _=>rfl) (by decide) (hs.mem.less (fun i c hi=>by cases hi)) (fun i c hi=>by cases hi) ?_ ?_ rfl
     · rw [hN,← hy,hl0]; rfl
     · unfold V.dens V.dens; exact⟨_,[],rfl,by unfold V.den; rfl,rfl⟩
 · refine wp_skip ?_
   show Code.wp Tryz.prog (Alv S) _ _ w
   obtain⟨z,hz,hy2⟩:=Zag.1 hy
   have hrun:=hB l
   rw [hz] at hrun
   refine BU (y:=true) (call:=Al Tryz.prog [] []) (cuts:=Ae []) Aa Ab (Ac (T:=[]) (I:=[]) Aa Ab trivial trivial) (fun h=>by cases h) (Alv S) (fun h=>by cases h) (fun _ _ _ hf=>by cases hf) ⟨[(0,.lst k l)],[],2000⟩ _ hrun F h g _ w _ [] ⟨by simp [hts],?_,hs.mem.less (fun i c hi=>by cases hi),?_,fun i c hi=>by cases hi⟩ ?_
   · intro j v hv
     have hv2:(bif Nat.beq 0 j then some (V.lst k l) else none)=some v:=hv
     cases hb:Nat.beq 0 j with
     | false=>rw [hb] at hv2; cases hv2
     | true =>
      rw [hb] at hv2
      cases hv2
      have:=Zac hb
      subst this
      refine⟨.slice a l.length c,?_,by unfold V.den; exact⟨a,c,rfl,hr⟩⟩
      simp [hts,hu1]
   · intro j v hv
     have hv2:(bif Nat.beq 0 j then some (V.lst k l) else none)=some v:=hv
     cases hb:Nat.beq 0 j with
     | false=>rw [hb] at hv2; cases hv2
     | true=>rw [hb] at hv2; cases hv2; rfl
   · intro F1 d1 h1 g1 t1 w1 q0 q1 q2 q3 q4
     obtain⟨bs,hd1,nd,hX⟩:=q0.ds
     rw [Zbi] at hd1
     show LeavesInM Fence.wide 0 Tryz.prog fn t1 R d1 .returning w1
     rw [hd1]
     refine FW (F:=F) (h:=h1) (g:=g1) (M:=AL.get (Zkv k l z).st.s) (by simp) (fun F3 w3 hf3 hm3=>?_) bs F1 w1 q0.nil q4.mem nd hX
     obtain⟨us,r1,r2⟩:=Pi (P:=Tryz.prog) (fn:=fn) (vs:=[.hdr k 2128]) q4.kn hm3 (by rw [hres]; rfl)
     refine⟨YX us,r2,?_⟩
     refine hfin F3 h1 g1 w3 ⟨[],(Zkv k l z).st.s,2256⟩ false [.hdr k 2128] us rfl hf3 q1 (fun i hi=>q2 i hi) (show 2*AK≤2256 by decide) hm3 q4.is_ ?_ r1 rfl
     exact(hZ z).trans hy2
def Ar9:List (Nat×C):=[(0,.l 60)]
def ArA:List Wo:=[⟨.ret,[],[],[.o 60]⟩]
def T0 (n:Nat) (l:List Xy):Option (List Xy×Unit):=(app [] l).bind fun z=>some (z,())
def Zio (n:Nat):AA Ty:=AB Ar9 0 ArA (fun y=>T0 n y.1)
theorem Ym (n:Nat):Au Tryz.prog 262 (Zio n):=Ny (c:=Tz 26) Tryz.func262 (by kernel_rfl) (by kernel_rfl) (by decide) rfl (Kl 26 60 Tryz.f262 (by kernel_rfl) (by kernel_rfl) (by kernel_rfl) (by decide) (fun l=>by kernel_rfl) (by kernel_rfl) (fun z=>by kernel_rfl))
def Auc:List (Nat×C):=[(0,.l 3)]
def Aud:List Wo:=[⟨.ret,[],[],[.o 3]⟩]
def Zc (n:Nat) (l:List Int):Option (List Int×Unit):=(app [] l).bind fun z=>some (z,())
def Zjd (n:Nat):AA Ty:=AB Auc 0 Aud (fun y=>Zc n y.1)
theorem Abi (n:Nat):Au Tryz.prog 268 (Zjd n):=Ny (c:=Tz 33) Tryz.func268 (by kernel_rfl) (by kernel_rfl) (by decide) rfl (Kl 33 3 Tryz.f268 (by kernel_rfl) (by kernel_rfl) (by kernel_rfl) (by decide) (fun l=>by kernel_rfl) (by kernel_rfl) (fun z=>by kernel_rfl))
def ArB:List (Nat×C):=[(0,.l 62)]
def ArC:List Wo:=[⟨.ret,[],[],[.o 62]⟩]
def Alw (n:Nat) (l:List AcQ):Option (List AcQ×Unit):=(app [] l).bind fun z=>some (z,())
def ZjT (n:Nat):AA Ty:=AB ArB 0 ArC (fun y=>Alw n y.1)
theorem AiN (n:Nat):Au Tryz.prog 310 (ZjT n):=Ny (c:=Tz 27) Tryz.func310 (by kernel_rfl) (by kernel_rfl) (by decide) rfl (Kl 27 62 Tryz.f310 (by kernel_rfl) (by kernel_rfl) (by kernel_rfl) (by decide) (fun l=>by kernel_rfl) (by kernel_rfl) (fun z=>by kernel_rfl))
def Ape:List (Nat×C):=[(0,.l 186)]
def Apf:List Wo:=[⟨.ret,[],[],[.o 186]⟩]
def AhS (n:Nat) (l:List AT):Option (List AT×Unit):=(app [] l).bind fun z=>some (z,())
def Zj3 (n:Nat):AA Ty:=AB Ape 0 Apf (fun y=>AhS n y.1)
theorem AhT (n:Nat):Au Tryz.prog 314 (Zj3 n):=Ny (c:=Tz 30) Tryz.func314 (by kernel_rfl) (by kernel_rfl) (by decide) rfl (Kl 30 186 Tryz.f314 (by kernel_rfl) (by kernel_rfl) (by kernel_rfl) (by decide) (fun l=>by kernel_rfl) (by kernel_rfl) (fun z=>by kernel_rfl))
def Apg:List (Nat×C):=[(0,.l 184)]
def Aph:List Wo:=[⟨.ret,[],[],[.o 184]⟩]
def AhU (n:Nat) (l:List AO):Option (List AO×Unit):=(app [] l).bind fun z=>some (z,())
def Zj4 (n:Nat):AA Ty:=AB Apg 0 Aph (fun y=>AhU n y.1)
theorem AhV (n:Nat):Au Tryz.prog 315 (Zj4 n):=Ny (c:=Tz 29) Tryz.func315 (by kernel_rfl) (by kernel_rfl) (by decide) rfl (Kl 29 184 Tryz.f315 (by kernel_rfl) (by kernel_rfl) (by kernel_rfl) (by decide) (fun l=>by kernel_rfl) (by kernel_rfl) (fun z=>by kernel_rfl))
def Api:List (Nat×C):=[(0,.l 180)]
def Apj:List Wo:=[⟨.ret,[],[],[.o 180]⟩]
def AhW (n:Nat) (l:List A1):Option (List A1×Unit):=(app [] l).bind fun z=>some (z,())
def Zj5 (n:Nat):AA Ty:=AB Api 0 Apj (fun y=>AhW n y.1)
theorem AhX (n:Nat):Au Tryz.prog 340 (Zj5 n):=Ny (c:=Tz 25) Tryz.func340 (by kernel_rfl) (by kernel_rfl) (by decide) rfl (Kl 25 180 Tryz.f340 (by kernel_rfl) (by kernel_rfl) (by kernel_rfl) (by decide) (fun l=>by kernel_rfl) (by kernel_rfl) (fun z=>by kernel_rfl))
def ArD:List (Nat×C):=[(0,.l 93)]
def ArE:List Wo:=[⟨.ret,[],[],[.o 93]⟩]
def Alx (n:Nat) (l:List Ag):Option (List Ag×Unit):=(app [] l).bind fun z=>some (z,())
def ZjU (n:Nat):AA Ty:=AB ArD 0 ArE (fun y=>Alx n y.1)
theorem AiO (n:Nat):Au Tryz.prog 342 (ZjU n):=Ny (c:=Tz 28) Tryz.func342 (by kernel_rfl) (by kernel_rfl) (by decide) rfl (Kl 28 93 Tryz.f342 (by kernel_rfl) (by kernel_rfl) (by kernel_rfl) (by decide) (fun l=>by kernel_rfl) (by kernel_rfl) (fun z=>by kernel_rfl))
end
end Go.Proofs.YtkpgggfibljflaaGreatDoor
