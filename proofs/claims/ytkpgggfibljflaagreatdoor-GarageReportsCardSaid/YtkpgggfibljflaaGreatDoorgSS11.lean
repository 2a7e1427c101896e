/- What a proof leans on: a machine that steps through code, and what functions compute. -/
import Derived.Test.YtkpgggfibljflaaGreatDoorgSS10
import Derived.Lib.SliceRun
set_option linter.all false
set_option maxRecDepth 100000
namespace Go.Proofs.YtkpgggfibljflaaGreatDoor
noncomputable section
open Go Go.RowKit Go.Proofs
open Rep (rep)
def XL (S:TypeId):Code:=(Code.region 3
          #[{ dst:=some 5,op:=Op.buildSlice S 0 #[],type:=S,pos := "slices.go:362",after:=#[],guard:=none },
            { dst:=some 6,op:=Op.move (Operand.tmp 0),type:=S,pos := "slices.go:362",after:=#[],guard:=none },
            { dst:=some 7,op:=Op.call { callee:=Callee.builtin Builtin.append,args:=#[Operand.tmp 5,Operand.tmp 6],argTypes:=#[S,S] },
              type:=S,pos := "slices.go:362",after:=#[{ on:=0,ground:=Ground.data },{ on:=1,ground:=Ground.data }],guard:=none },
            { dst:=some 2,op:=Op.assign (Operand.tmp 7),type:=S,pos := "slices.go:362",
              after:=#[{ on:=2,ground:=Ground.data },{ on:=2,ground:=Ground.chain },{ on:=0,ground:=Ground.phase },{ on:=1,ground:=Ground.phase },{ on:=2,ground:=Ground.phase }],
              guard:=none }]
          false).seq
         Code.ret
def KE (S:TypeId):Code:=(Code.region 0
         #[{ dst:=some 2,op:=Op.assign (Operand.const (Value.slice none 0 0)),type:=S,pos := "slices.go:355",after:=#[],guard:=none }]
         false).seq
 (((Code.region 1
      #[{ dst:=some 3,op:=Op.move (Operand.tmp 0),type:=S,pos := "slices.go:357",after:=#[],guard:=none },
        { dst:=some 4,op:=Op.binOp BinOp.eql S (Operand.tmp 3) (Operand.const (Value.slice none 0 0)) S,type:=4,
          pos := "slices.go:357",after:=#[{ on:=0,ground:=Ground.data }],guard:=none }]
      false).seq
     (Code.cond (Operand.tmp 4)
      ((Code.region 2
         #[{ dst:=some 2,op:=Op.assign (Operand.const (Value.slice none 0 0)),type:=S,pos := "slices.go:358",after:=#[],guard:=none }]
         false).seq
        Code.ret)
      Code.skip)).seq
   (XL S))
def ZfW (k:Nat) (l z:List (Ty k)):Lf Ty:=⟨.ret,⟨[(2,.hdr k 2128),(7,.hdr k 2128),(6,.lst k l),(5,.hdr k 2000),(0,.lst k l)],[(2128,.row k z)],2256⟩⟩
def Zho (k:Nat) (y:C.Ds Ty (AH [(0,C.l k)])):Option (YT Ty [⟨.ret,[],[],[.o k]⟩]):=(app [] (y.1:List (Ty k))).bind fun z=>some ((z,()):List (Ty k)×Unit)
theorem Gq (S k:Nat) (fn:Func) (hn:fn.ntmps=8) (hres:fn.results=#[.tmp 2]) (hu:Tryz.prog.underlying S=some (.slice k)) (hsz:0<Rep.sz (Ty k))
  (hB:∀ l:List (Ty k),(CI Tryz.prog 8 (Ca Tryz.prog [] []) (A6 []) (XL S) ⟨[(0,.lst k l)],[],2000⟩).runK some=(app [] l).bind fun z=>some (ZfW k l z))
  (hN:Fl 0 false ([.nils]:List (V Ty)) ⟨[],[],2000⟩ [⟨.ret,[],[],[.o k]⟩]=some (([],()):List (Ty k)×Unit)) (hZ:∀ z:List (Ty k),Fl 0 false ([.hdr k 2128]:List (V Ty)) ⟨[],[(2128,.row k z)],2256⟩ [⟨.ret,[],[],[.o k]⟩]=some ((z,()):List (Ty k)×Unit))
  (x:C.Ds Ty (AH [(0,C.l k)])) (y:YT Ty [⟨.ret,[],[],[.o k]⟩]) (hy:Zho k x=some y) (F:Fr) (h:Ad) (g:GE) (t:Array Value) (w:World) (R:Ending→World→Prop) (hs:RS fn.ntmps F h g (2*Ax) (By [(0,C.l k)] x).m (By [(0,C.l k)] x).s t w)
  (hfin:∀ (F3:Fr)(h2:Ad)(g2:GE)(w3:World)(st:St Ty)(p:Bool)(rv:List (V Ty))(rus:List Value),st.m=[]→FD F F3 [] []→Ad.le h h2→(∀ i,i<2*Ax→g2 i=g i)→2*Ax≤st.nx→Al F3 h2 g2 (AL.get st.s) w3→JD st.nx (AL.get st.s)→Fl 0 p rv st [⟨.ret,[],[],[.o k]⟩]=some y→V.dens g2 h2 rv rus→V.oksB (CT st.nx) rv=true→R (Ra p (NO rus)) w3) :
  (KE S).wp Tryz.prog (bodyPostM Fence.wide 0 Tryz.prog fn R) ⟨t,[]⟩ w:=by
 rw [hn] at hs
 obtain⟨l,⟨⟩⟩:=x
 have hl:List (Ty k):=l
 obtain⟨u,hu0,hd⟩:=hs.kn 0 (.lst k l) rfl
 unfold V.den at hd
 obtain⟨a,c,rfl,hr⟩:=hd
 have q:∀ (w:World)(a:Option Addr)(n c:Nat),(binOp .eql S (.slice a n c) (.slice none 0 0)).run Tryz.prog w=.ok (.bool a.isNone) w:=fun w a n c=>Lib.run_eql_slice_nil w _ _ a n c 0 0 hu
 have hts:=hs.size
 have h0:0<t.size:=by omega
 have hu1:t[0]'h0=.slice a l.length c:=by rw [ZaJ h0] at hu0; exact Option.some.inj hu0
 have gq:∀ w,(eqGuard .eql S (.tmp 3) (.const (.slice none 0 0)) (.slice a l.length c) (.slice none 0 0)).run Tryz.prog w=.ok () w:=fun w=>JT (P:=Tryz.prog) .eql S (.tmp 3) (.const (.slice none 0 0)) _ _ w (by simp) (by simp)
 unfold KE
 refine wp_seq (wp_region ?_)
 simp [wpOps,go_sem,Region.wanted,Act.eval]
 refine .inl (wp_seq (wp_seq (wp_region ?_)))
 simp [wpOps,go_sem,Region.wanted,Act.eval,hu1,hts,q,gq]
 refine .inl (.inl (wp_cond_split (t:=a.isNone) (by simp [Act.eval,hts]) (fun ha=>?_) (fun ha=>?_)))
 · have hl0:l=[]:=hr.isNil hsz ha
   refine wp_seq (wp_region ?_)
   simp [wpOps,go_sem,Region.wanted,Act.eval]
   refine .inl (wp_ret ?_)
   show LeavesInM Fence.wide 0 Tryz.prog fn _ R [] .returning w
   refine⟨.slice none 0 0,?_,?_⟩
   · simp [results,hres,go_sem,hts]
   · refine hfin F h g w ⟨[],[],2000⟩ false [.nils] [.slice none 0 0] rfl (FD.refl F []) (Ad.le_refl _) (fun _ _=>rfl) (by decide) (hs.mem.less (fun i c hi=>by cases hi)) (fun i c hi=>by cases hi) ?_ ?_ rfl
     · rw [hN,← hy,hl0]; rfl
     · unfold V.dens V.dens; exact⟨_,[],rfl,by unfold V.den; rfl,rfl⟩
 · refine wp_skip ?_
   show Code.wp Tryz.prog (XL S) _ _ w
   obtain⟨z,hz,hy2⟩:=Zag.1 hy
   have hrun:=hB l
   rw [hz] at hrun
   refine Bt (y:=true) (call:=Ca Tryz.prog [] []) (cuts:=A6 []) Af Am (A5 (T:=[]) (I:=[]) Af Am trivial trivial) (fun h=>by cases h) (XL S) (fun h=>by cases h) (fun _ _ _ hf=>by cases hf) ⟨[(0,.lst k l)],[],2000⟩ _ hrun F h g _ w _ [] ⟨by simp [hts],?_,hs.mem.less (fun i c hi=>by cases hi),?_,fun i c hi=>by cases hi⟩ ?_
   · intro j v hv
     have hv2:(bif Nat.beq 0 j then some (V.lst k l) else none)=some v:=hv
     cases hb:Nat.beq 0 j with
     | false=>rw [hb] at hv2; cases hv2
     | true =>
      rw [hb] at hv2
      cases hv2
      have:=Zac hb
      subst this
      refine⟨.slice a l.length c,?_,by unfold V.den; exact⟨a,c,rfl,hr⟩⟩
      simp [hts,hu1]
   · intro j v hv
     have hv2:(bif Nat.beq 0 j then some (V.lst k l) else none)=some v:=hv
     cases hb:Nat.beq 0 j with
     | false=>rw [hb] at hv2; cases hv2
     | true=>rw [hb] at hv2; cases hv2; rfl
   · intro F1 d1 h1 g1 t1 w1 q0 q1 q2 q3 q4
     obtain⟨bs,hd1,nd,hX⟩:=q0.ds
     rw [Zbh] at hd1
     show LeavesInM Fence.wide 0 Tryz.prog fn t1 R d1 .returning w1
     rw [hd1]
     refine Ec (F:=F) (h:=h1) (g:=g1) (M:=AL.get (ZfW k l z).st.s) (by simp) (fun F3 w3 hf3 hm3=>?_) bs F1 w1 q0.nil q4.mem nd hX
     obtain⟨us,r1,r2⟩:=II (P:=Tryz.prog) (fn:=fn) (vs:=[.hdr k 2128]) q4.kn hm3 (by rw [hres]; rfl)
     refine⟨NO us,r2,?_⟩
     refine hfin F3 h1 g1 w3 ⟨[],(ZfW k l z).st.s,2256⟩ false [.hdr k 2128] us rfl hf3 q1 (fun i hi=>q2 i hi) (show 2*Ax≤2256 by decide) hm3 q4.is_ ?_ r1 rfl
     exact(hZ z).trans hy2
def AdV:List (Nat×C):=[(0,.l 60)]
def AdW:List Wo:=[⟨.ret,[],[],[.o 60]⟩]
def KF (n:Nat) (l:List MV):Option (List MV×Unit):=(app [] l).bind fun z=>some (z,())
def Zff (n:Nat):GL Ty:=FA AdV 0 AdW (fun y=>KF n y.1)
theorem Vf (n:Nat):Bb Tryz.prog 262 (Zff n):=HF (c:=KE 26) Tryz.func262 (by kernel_rfl) (by kernel_rfl) (by decide) rfl (Gq 26 60 Tryz.f262 (by kernel_rfl) (by kernel_rfl) (by kernel_rfl) (by decide) (fun l=>by kernel_rfl) (by kernel_rfl) (fun z=>by kernel_rfl))
def Ag1:List (Nat×C):=[(0,.l 3)]
def Ag2:List Wo:=[⟨.ret,[],[],[.o 3]⟩]
def NT (n:Nat) (l:List Int):Option (List Int×Unit):=(app [] l).bind fun z=>some (z,())
def Zf7 (n:Nat):GL Ty:=FA Ag1 0 Ag2 (fun y=>NT n y.1)
theorem XM (n:Nat):Bb Tryz.prog 268 (Zf7 n):=HF (c:=KE 33) Tryz.func268 (by kernel_rfl) (by kernel_rfl) (by decide) rfl (Gq 33 3 Tryz.f268 (by kernel_rfl) (by kernel_rfl) (by kernel_rfl) (by decide) (fun l=>by kernel_rfl) (by kernel_rfl) (fun z=>by kernel_rfl))
def AdX:List (Nat×C):=[(0,.l 62)]
def AdY:List Wo:=[⟨.ret,[],[],[.o 62]⟩]
def XN (n:Nat) (l:List Ls):Option (List Ls×Unit):=(app [] l).bind fun z=>some (z,())
def Zfg (n:Nat):GL Ty:=FA AdX 0 AdY (fun y=>XN n y.1)
theorem Vg (n:Nat):Bb Tryz.prog 310 (Zfg n):=HF (c:=KE 27) Tryz.func310 (by kernel_rfl) (by kernel_rfl) (by decide) rfl (Gq 27 62 Tryz.f310 (by kernel_rfl) (by kernel_rfl) (by kernel_rfl) (by decide) (fun l=>by kernel_rfl) (by kernel_rfl) (fun z=>by kernel_rfl))
def AbA:List (Nat×C):=[(0,.l 186)]
def AbB:List Wo:=[⟨.ret,[],[],[.o 186]⟩]
def Uz (n:Nat) (l:List AJ):Option (List AJ×Unit):=(app [] l).bind fun z=>some (z,())
def Zez (n:Nat):GL Ty:=FA AbA 0 AbB (fun y=>Uz n y.1)
theorem U0 (n:Nat):Bb Tryz.prog 314 (Zez n):=HF (c:=KE 30) Tryz.func314 (by kernel_rfl) (by kernel_rfl) (by decide) rfl (Gq 30 186 Tryz.f314 (by kernel_rfl) (by kernel_rfl) (by kernel_rfl) (by decide) (fun l=>by kernel_rfl) (by kernel_rfl) (fun z=>by kernel_rfl))
def AbC:List (Nat×C):=[(0,.l 184)]
def AbD:List Wo:=[⟨.ret,[],[],[.o 184]⟩]
def U1 (n:Nat) (l:List AA):Option (List AA×Unit):=(app [] l).bind fun z=>some (z,())
def Ze0 (n:Nat):GL Ty:=FA AbC 0 AbD (fun y=>U1 n y.1)
theorem U2 (n:Nat):Bb Tryz.prog 315 (Ze0 n):=HF (c:=KE 29) Tryz.func315 (by kernel_rfl) (by kernel_rfl) (by decide) rfl (Gq 29 184 Tryz.f315 (by kernel_rfl) (by kernel_rfl) (by kernel_rfl) (by decide) (fun l=>by kernel_rfl) (by kernel_rfl) (fun z=>by kernel_rfl))
def AbE:List (Nat×C):=[(0,.l 180)]
def AbF:List Wo:=[⟨.ret,[],[],[.o 180]⟩]
def U3 (n:Nat) (l:List Ak):Option (List Ak×Unit):=(app [] l).bind fun z=>some (z,())
def Ze1 (n:Nat):GL Ty:=FA AbE 0 AbF (fun y=>U3 n y.1)
theorem U4 (n:Nat):Bb Tryz.prog 340 (Ze1 n):=HF (c:=KE 25) Tryz.func340 (by kernel_rfl) (by kernel_rfl) (by decide) rfl (Gq 25 180 Tryz.f340 (by kernel_rfl) (by kernel_rfl) (by kernel_rfl) (by decide) (fun l=>by kernel_rfl) (by kernel_rfl) (fun z=>by kernel_rfl))
def AdZ:List (Nat×C):=[(0,.l 93)]
def Aea:List Wo:=[⟨.ret,[],[],[.o 93]⟩]
def XO (n:Nat) (l:List Aa):Option (List Aa×Unit):=(app [] l).bind fun z=>some (z,())
def Zfh (n:Nat):GL Ty:=FA AdZ 0 Aea (fun y=>XO n y.1)
theorem Vh (n:Nat):Bb Tryz.prog 342 (Zfh n):=HF (c:=KE 28) Tryz.func342 (by kernel_rfl) (by kernel_rfl) (by decide) rfl (Gq 28 93 Tryz.f342 (by kernel_rfl) (by kernel_rfl) (by kernel_rfl) (by decide) (fun l=>by kernel_rfl) (by kernel_rfl) (fun z=>by kernel_rfl))
end
end Go.Proofs.YtkpgggfibljflaaGreatDoor
