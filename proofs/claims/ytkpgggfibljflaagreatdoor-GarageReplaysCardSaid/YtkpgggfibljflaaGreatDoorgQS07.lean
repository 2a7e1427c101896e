/- What a proof leans on: a machine that steps through code, and what functions compute. -/
import Derived.Test.YtkpgggfibljflaaGreatDoorgQS06
import Derived.OrdersIn
import Derived.Scope
import Derived.DeepKeys3
set_option linter.all false
namespace Go.Proofs.YtkpgggfibljflaaGreatDoor
open Go Go.RowKit
open Rep (rep)
section
variable {Ty:Nat→Type} {ops:Array Oper}
theorem Fi {xs ys:List Nat} (h:Lg xs ys=true) {x:Nat} (hx:A8 xs x=true):A8 ys x=false:=by
 have:=ZaE.1 h x (Be.1 hx)
 cases hb:A8 ys x with
 | false=>rfl
 | true=>rw [hb] at this; cases this
theorem Mv {B:List Nat} {i:Nat} {a:Oper} {ra:Rc Ty}:∀ {bs:List Oper} {rbs:List (Rc Ty)} {j k:Nat} {b:Oper} {rb:Rc Ty},Xa ops B i a ra j bs rbs=true→bs[k]? = some b→rbs[k]? = some rb→PF ops B i a ra (j+k) b rb=true
 | [],_,j,k,b,rb,_,h,_=>by simp at h
 | _::_,[],j,k,b,rb,_,_,h=>by simp at h
 | b0::bs,r0::rbs,j,0,b,rb,hh,h1,h2=>by
  simp at h1 h2
  subst h1; subst h2
  exact(Ao hh).1
 | b0::bs,r0::rbs,j,k+1,b,rb,hh,h1,h2=>by
  have:=Mv (Ao hh).2 (k:=k) (by simpa using h1) (by simpa using h2)
  rwa [show j+1+k=j+(k+1) by omega] at this
theorem E6 {B:List Nat}:∀ {as:List Oper} {ras:List (Rc Ty)} {i x y:Nat} {a b:Oper} {ra rb:Rc Ty},Kl ops B i as ras=true→as[x]? = some a→ras[x]? = some ra→as[y]? = some b→ras[y]? = some rb→x<y→PF ops B (i+x) a ra (i+y) b rb=true
 | [],_,i,x,y,a,b,ra,rb,_,h,_,_,_,_=>by simp at h
 | _::_,[],i,x,y,a,b,ra,rb,_,_,h,_,_,_=>by simp at h
 | a0::as,r0::ras,i,0,0,a,b,ra,rb,_,_,_,_,_,h=>by omega
 | a0::as,r0::ras,i,0,y+1,a,b,ra,rb,hh,h1,h2,h3,h4,_=>by
  simp at h1 h2
  subst h1; subst h2
  have:=Mv (Ao hh).1 (k:=y) (by simpa using h3) (by simpa using h4)
  rwa [show i+1+y=i+(y+1) by omega] at this
 | a0::as,r0::ras,i,x+1,0,a,b,ra,rb,_,_,_,_,_,h=>by omega
 | a0::as,r0::ras,i,x+1,y+1,a,b,ra,rb,hh,h1,h2,h3,h4,hlt=>by
  have:=E6 (Ao hh).2 (x:=x) (y:=y) (by simpa using h1) (by simpa using h2) (by simpa using h3) (by simpa using h4) (by omega)
  rwa [show i+1+x=i+(x+1) by omega,show i+1+y=i+(y+1) by omega] at this
theorem Fj:∀ {as:List Oper} {i k:Nat} {o:Oper},Nn i as=true→as[k]? = some o→∀ e∈CG o,e<i+k
 | [],i,k,o,_,h=>by simp at h
 | a::as,i,0,o,hh,h=>by
  simp at h
  subst h
  intro e he
  have:=ZaE.1 (Ao hh).1 e he
  exact Zaf this
 | a::as,i,k+1,o,hh,h=>by
  intro e he
  have:=Fj (Ao hh).2 (k:=k) (by simpa using h) e he
  omega
structure Qc (ops:Array Oper) (a:Oper) (ra:Rc Ty) (b:Oper) (rb:Rc Ty):Prop where
 t1:∀ x,A8 (Jd a) x=true→A8 (H6 ops b) x=false
 w1:∀ x,A8 (Iz ra.ws) x=true→A8 rb.rd x=false
 w2:∀ x,A8 (Iz ra.ws) x=true→A8 (Iz rb.ws) x=false
theorem Ec {B:List Nat} {i j:Nat} {a b:Oper} {ra rb:Rc Ty} (h:PF ops B i a ra j b rb=true) (hb:O3 (AR B j) i=false):Qc ops a ra b rb∧Qc ops b rb a ra:=by
 unfold PF at h
 rw [hb,Bool.false_or] at h
 obtain⟨h,h5⟩:=Ao h
 obtain⟨h,h4⟩:=Ao h
 obtain⟨h,h3⟩:=Ao h
 obtain⟨h1,h2⟩:=Ao h
 have flip:∀ {xs ys:List Nat},Lg xs ys=true→∀ x,A8 ys x=true→A8 xs x=false:=fun {xs ys} hh x hx=>by
  cases hc:A8 xs x with
  | false=>rfl
  | true=>have:=Fi hh hc; rw [hx] at this; cases this
 exact⟨⟨fun x hx=>Fi h1 hx,fun x hx=>Fi h3 hx,fun x hx=>Fi h4 hx⟩,⟨fun x hx=>Fi h2 hx,fun x hx=>flip h5 x hx,fun x hx=>flip h4 x hx⟩⟩
end
section
variable {Ty:Nat→Type} [rT:∀ k,Rep (Ty k)] [RFs] [UM Ty] [UML Ty] {P:Program} {F:Fr} {h:Ad} {g:GE} {w w':World} {N n0:Nat}
variable {Q:Exit→Act→World→Prop} {t:Array Value} {d:List Deferred} {ops:Array Oper} {rs:List (Rc Ty)} {X0:Nat→Option (V Ty)} {M0:Mo Ty} {h0:Ad} {g0:GE}
def TD (ops:Array Oper) (rs:List (Rc Ty)) (X0:Nat→Option (V Ty)) (D:Nat→Bool):Nat→Option (V Ty):=C3 D 0 (F6 ops.toList rs) X0
def MD (rs:List (Rc Ty)) (M0:Mo Ty) (D:Nat→Bool):Mo Ty:=C3 D 0 (rs.map Wp) M0
def pD (n0 n:Nat) (D:Nat→Bool):Nat→Bool:=fun i=>Nat.blt i n0 || (List.range n).any fun a=>D a && KF (n0+64*a) i
theorem Aef {n:Nat} {D:Nat→Bool} {a i:Nat} (ha:a<n) (hD:D a=true) (hi:KF (n0+64*a) i=true):pD n0 n D i=true:=by
 unfold pD
 rw [ZaL]
 exact .inr (Zbp.2 ⟨a,Zbu.2 ha,by rw [hD,hi]; rfl⟩)
theorem Ks {n:Nat} {D D':Nat→Bool} (hD:∀ a,D a=true→D' a=true):∀ i,pD n0 n D i=true→pD n0 n D' i=true:=fun i hi=>by
 unfold pD at hi ⊢
 rw [ZaL] at hi ⊢
 rcases hi with hi | hi
 · exact .inl hi
 · obtain⟨a,h1,h2⟩:=Zbp.1 hi
   obtain⟨q1,q2⟩:=Ao h2
   exact .inr (Zbp.2 ⟨a,h1,by rw [hD a q1,q2]; rfl⟩)
theorem Abc {n:Nat} {D:Nat→Bool} {i:Nat} (hi:D i=false):Dg (pD n0 n D) (n0+64*i):=fun j hj=>by
 cases hb:pD n0 n D j with
 | false=>rfl
 | true =>
  exfalso
  have h1:=Df.1 hj
  unfold pD at hb
  rw [ZaL] at hb
  rcases hb with hb | hb
  · have:j<n0:=Zaf hb
    omega
  · obtain⟨a,_,h2⟩:=Zbp.1 hb
    obtain⟨q1,q2⟩:=Ao h2
    have h3:=Df.1 q2
    have:a=i:=by omega
    subst this
    rw [hi] at q1; cases q1
structure Zy (ops:Array Oper) (rs:List (Rc Ty)) (X0:Nat→Option (V Ty)) (M0:Mo Ty) (N n0:Nat) (F:Fr) (h0:Ad) (g0:GE) (D:Nat→Bool) (t:Array Value) (w:World):Prop where
 size:t.size=N
 ex:∃ h g,Ad.le h0 h∧(∀ j,j<n0→g j=g0 j)∧Ag F h g (MD rs M0 D) w∧(∀ k v,TD ops rs X0 D k=some v→∃ u,t[k]? = some u∧v.den g h u)∧(∀ k v,TD ops rs X0 D k=some v→v.okB (pD n0 ops.size D)=true)∧EV (pD n0 ops.size D) (MD rs M0 D)
theorem Qd {o:Oper} {x:Nat} (h:A8 (Vi o.op.operands.toList) x=true):A8 (H6 ops o) x=true:=by
 unfold H6
 rw [Be,ZaC]
 exact ZaR _ (Be.1 h)
theorem Xg {o:Oper} {x:Nat} (h:A8 (Jd o) x=true):A8 (H6 ops o) x=true:=by
 unfold H6
 rw [Be]
 exact ZaR _ (List.mem_append_right _ (Be.1 h))
theorem Tv {o oj:Oper} {j x:Nat} {wt:Bool} (hg:o.guard=some (j,wt)) (hj:ops[j]? = some oj) (hd:oj.dst=some x):A8 (H6 ops o) x=true:=by
 unfold H6
 rw [Be]
 refine List.mem_append_right _ ?_
 simp [hg,hj,hd]
theorem V5 {a b:Nat} (h:A8 [a] b=true):a=b:=by
 have:=Be.1 h
 simp at this
 exact this.symm
variable [UV Ty] [UL Ty] [UMP Ty P]
def V6 (y:Bool) (P:Program) (ops:Array Oper) (Q:Exit→Act→World→Prop) (i:Nat) (K:Act→World→Prop) (a:Act) (w:World):Prop:=match y with
 | true=>wpOpIn Fence.wide 0 P ops Q i K a w
 | false=>wpOp P ops Q i K a w
def K3 (y:Bool) (P:Program) (ops:Array Oper) (Q:Exit→Act→World→Prop) (fuel:Nat) (listed:Array Bool) (a:Act) (w:World):Prop:=match y with
 | true=>wpAnyIn Fence.wide 0 P .any ops Q fuel listed a w
 | false=>wpAny P .any ops Q fuel listed a w
omit rT [UV Ty] [UL Ty] [UMP Ty P] [RFs] [UM Ty] [UML Ty] in
theorem V6.mono {y:Bool} {i:Nat} {K K':Act→World→Prop} {a:Act} {w:World} (h:∀ a w,K a w→K' a w) (hh:V6 y P ops Q i K a w):V6 y P ops Q i K' a w:=match y,hh with
 | true,hh=>wpOpIn_mono h hh
 | false,hh=>wpOp_mono h hh
omit rT [UV Ty] [UL Ty] [UMP Ty P] [RFs] [UM Ty] [UML Ty] in
theorem K3.zero {y:Bool} {listed:Array Bool} {a:Act} {w:World} (h1:Region.ready .any ops listed=[]) (h2:Q .normal a w):K3 y P ops Q 0 listed a w:=match y with
 | true=>⟨h1,h2⟩
 | false=>⟨h1,h2⟩
omit rT [UV Ty] [UL Ty] [UMP Ty P] [RFs] [UM Ty] [UML Ty] in
theorem K3.succ {y:Bool} {fuel:Nat} {listed:Array Bool} {a:Act} {w:World} (h1:Region.ready .any ops listed=[]→Q .normal a w) (h2:∀ i∈Region.ready .any ops listed,V6 y P ops Q i (K3 y P ops Q fuel (listed.setIfInBounds i true)) a w):K3 y P ops Q (fuel+1) listed a w:=match y,h2 with
 | true,h2=>⟨h1,h2⟩
 | false,h2=>⟨h1,h2⟩
omit rT [UV Ty] [UL Ty] [UMP Ty P] [RFs] [UM Ty] [UML Ty] in
theorem Nw.one {y:Bool} {i:Nat} {a:Act} {w:World} (hi:ops.size=i+1) (h:Nw y P ops Q i a w):V6 y P ops Q i (fun a w=>Q .normal a w) a w:=by
 cases y with
 | true =>
  have h:Fd P ops Q i a w:=h
  unfold Fd at h
  rw [hi,show i+1-i=1 by omega] at h
  have h:wpOpsIn Fence.wide 0 P ops Q (i::[]) a w:=h
  rw [wpOpsIn_cons] at h
  exact h
 | false =>
  have h:FF P ops Q i a w:=h
  unfold FF at h
  rw [hi,show i+1-i=1 by omega] at h
  exact h
theorem V7 {y:Bool} {call:AT Ty} (hP:E5 P) (hc:Cm P call) (hy:y=false→∀ args k s,(call An args k s).runK some=none) (hlen:rs.length≤ops.toList.length)
  (hfact:∀ (k:Nat)(o:Oper)(rc:Rc Ty),ops.toList[k]? = some o→rs[k]? = some rc→Su P N call ops n0 k o rc (TD ops rs X0 fun a=>decide (a<k)) (MD rs M0 fun a=>decide (a<k)))
  {D:Nat→Bool} {i:Nat} {o:Oper} {rc:Rc Ty} (ho:ops[i]? = some o) (hrc:rs[i]? = some rc) (hDi:D i=false)
  (hpre:∀ k ok rk,ops[k]? = some ok→rs[k]? = some rk→k<i→D k=false→Qc ops ok rk o rc)
  (hpost:∀ k ok rk,ops[k]? = some ok→rs[k]? = some rk→i<k→D k=true→Qc ops ok rk o rc∧Qc ops o rc ok rk)
  (hI:Zy ops rs X0 M0 N n0 F h0 g0 D t w) {K:Act→World→Prop}
  (hK:∀ t' w',Zy ops rs X0 M0 N n0 F h0 g0 (fun a=>D a || a == i) t' w'→K ⟨t',d⟩ w'):V6 y P ops Q i K ⟨t,d⟩ w:=by
 obtain⟨hsize,h,g,hle,hg0,hm,hkn,hok,hin⟩:=hI
 have hil:i<ops.size:=(Zag.1 ho).1
 have hoL:ops.toList[i]? = some o:=by rw [Zaw]; exact ho
 obtain⟨hdst,hcase⟩:=hfact i o rc hoL hrc
 -- the slots and cells that it looks at are as in the text's order
 have agreeT:∀ x,A8 (H6 ops o) x=true→TD ops rs X0 (fun a=>decide (a<i)) x=TD ops rs X0 D x:=fun x hx=>by
  refine Ci (HU _ _) (fun k f hk hne=>?_) rfl
  obtain⟨ok,rk,h1,h2,rfl⟩:=HV hk
  rw [Zar] at hne
  rw [Zaw] at h1
  show A8 (Jd ok) x=false
  cases hb:A8 (Jd ok) x with
  | false=>rfl
  | true =>
   exfalso
   rcases Nat.lt_trichotomy k i with hlt | heq | hgt
   · have hDk:D k=false:=by
      cases hD:D k with
      | false=>rfl
      | true=>rw [hD] at hne; exact absurd (by simp [hlt]) hne
     have:=(hpre k ok rk h1 h2 hlt hDk).t1 x hb
     rw [hx] at this; cases this
   · subst heq; rw [hDi] at hne; exact hne (by simp)
   · have hDk:D k=true:=by
      cases hD:D k with
      | true=>rfl
      | false=>rw [hD] at hne; exact absurd (by simp; omega) hne
     have:=(hpost k ok rk h1 h2 hgt hDk).1.t1 x hb
     rw [hx] at this; cases this
 have agreeM:∀ x,A8 rc.rd x=true→MD rs M0 (fun a=>decide (a<i)) x=MD rs M0 D x:=fun x hx=>by
  refine Ci (JC _) (fun k f hk hne=>?_) rfl
  rw [ZaD] at hk
  obtain⟨rk,h2,rfl⟩:=Zat.1 hk
  rw [Zar] at hne
  have hkl:k<ops.size:=by
   have:=(Zaq.1 h2).1
   have:=Zai this hlen; simpa using this
  obtain⟨ok,h1⟩:∃ ok,ops[k]? = some ok:=⟨_,ZaB hkl⟩
  show A8 (Iz rk.ws) x=false
  cases hb:A8 (Iz rk.ws) x with
  | false=>rfl
  | true =>
   exfalso
   rcases Nat.lt_trichotomy k i with hlt | heq | hgt
   · have hDk:D k=false:=by
      cases hD:D k with
      | false=>rfl
      | true=>rw [hD] at hne; exact absurd (by simp [hlt]) hne
     have:=(hpre k ok rk h1 h2 hlt hDk).w1 x hb
     rw [hx] at this; cases this
   · subst heq; rw [hDi] at hne; exact hne (by simp)
   · have hDk:D k=true:=by
      cases hD:D k with
      | true=>rfl
      | false=>rw [hD] at hne; exact absurd (by simp; omega) hne
     have:=(hpost k ok rk h1 h2 hgt hDk).1.w1 x hb
     rw [hx] at this; cases this
 -- behind it
 let D':Nat→Bool:=fun a=>D a || a == i
 have hDD:∀ a,D a=true→D' a=true:=fun a ha=>by show(D a || a == i)=true; rw [ha]; rfl
 have updT:∀ x,TD ops rs X0 D' x=if A8 (Jd o) x=true then some rc.v else TD ops rs X0 D x:=fun x=>by
  split
  · rename_i hx
    have:=Qa (D:=D') (i:=0) (k:=i) (j:=x) (f:=Zw o rc) (X:=X0) (Z:=X0) (HU ops.toList rs) (Yi hoL hrc) (by show(D (0+i) || 0+i == i)=true; simp) hx (fun k' f' hk' hlt hD'=>?_)
    · unfold TD
      rw [this]
      show(if A8 (Jd o) x=true then some rc.v else X0 x)=_
      rw [if_pos hx]
    · obtain⟨ok,rk,h1,h2,rfl⟩:=HV hk'
      rw [Zaw] at h1
      have hDk:D k' = true:=by
       have:(D (0+k') || 0+k' == i)=true:=hD'
       rw [Zar,ZaL] at this
       rcases this with h | h
       · exact h
       · have:k' = i:=by simpa using h
         omega
      show A8 (Jd ok) x=false
      cases hb:A8 (Jd ok) x with
      | false=>rfl
      | true =>
       have:=(hpost k' ok rk h1 h2 hlt hDk).1.t1 x hb
       rw [Xg hx] at this; cases this
  · rename_i hx
    refine Ci (HU _ _) (fun k f hk hne=>?_) rfl
    obtain⟨ok,rk,h1,h2,rfl⟩:=HV hk
    rw [Zar] at hne
    have hki:k=i:=by
     have:(D k || k == i)≠D k:=hne
     cases hD:D k with
     | true=>rw [hD] at this; exact absurd rfl this
     | false =>
      rw [hD] at this
      cases hk2:(k == i) with
      | true=>simpa using hk2
      | false=>rw [hk2] at this; exact absurd rfl this
    subst hki
    rw [Zaw,ho] at h1
    cases h1
    show A8 (Jd o) x=false
    simpa using hx
 have updM:∀ (Z:Mo Ty) x,MD rs M0 D' x=if A8 (Iz rc.ws) x=true then Mo.app Z rc.ws x else MD rs M0 D x:=fun Z x=>by
  split
  · rename_i hx
    refine Qa (D:=D') (i:=0) (k:=i) (j:=x) (f:=Wp rc) (JC rs) (by rw [ZaD,hrc]; rfl) (by show(D (0+i) || 0+i == i)=true; simp) hx (fun k' f' hk' hlt hD'=>?_)
    rw [ZaD] at hk'
    obtain⟨rk,h2,rfl⟩:=Zat.1 hk'
    have hkl:k'<ops.size:=by
     have:=(Zaq.1 h2).1
     have:=Zai this hlen; simpa using this
    obtain⟨ok,h1⟩:∃ ok,ops[k']? = some ok:=⟨_,ZaB hkl⟩
    have hDk:D k' = true:=by
     have:(D (0+k') || 0+k' == i)=true:=hD'
     rw [Zar,ZaL] at this
     rcases this with h | h
     · exact h
     · have:k' = i:=by simpa using h
       omega
    exact(hpost k' ok rk h1 h2 hlt hDk).2.w2 x hx
  · rename_i hx
    refine Ci (JC _) (fun k f hk hne=>?_) rfl
    rw [ZaD] at hk
    obtain⟨rk,h2,rfl⟩:=Zat.1 hk
    rw [Zar] at hne
    have hki:k=i:=by
     have:(D k || k == i)≠D k:=hne
     cases hD:D k with
     | true=>rw [hD] at this; exact absurd rfl this
     | false =>
      rw [hD] at this
      cases hk2:(k == i) with
      | true=>simpa using hk2
      | false=>rw [hk2] at this; exact absurd rfl this
    subst hki
    rw [hrc] at h2
    cases h2
    show A8 (Iz rc.ws) x=false
    simpa using hx
 have hwant:∀ b,KH ops (TD ops rs X0 fun a=>decide (a<i)) o=some b→Region.wanted o (yielded ops t)=b:=fun b hb=>by
  unfold KH at hb
  unfold Region.wanted
  split at hb
  · rename_i hg; cases hb; simp [hg]
  · rename_i j wt hg
    simp only [hg]
    split at hb
    · rename_i oj hoj
      split at hb
      · rename_i x hd
        have ha:=agreeT x (Tv hg hoj hd)
        split at hb
        · rename_i b' hx
          cases hb
          rw [ha] at hx
          obtain⟨u,q1,q2⟩:=hkn x _ hx
          unfold V.den at q2
          subst q2
          unfold yielded
          rw [hoj]
          simp only [Zaa,hd,q1]
          cases b' <;> cases wt <;> rfl
        · rename_i hx
          cases hb
          rw [ha] at hx
          obtain⟨u,q1,q2⟩:=hkn x _ hx
          unfold V.den at q2
          subst q2
          unfold yielded
          rw [hoj]
          simp only [Zaa,hd,q1,Go.undef]
          rfl
        · cases hb
      · cases hb
    · cases hb
 suffices hsuf:if Region.wanted o (yielded ops t)=true then Ad5 y P o ⟨t,d⟩ w K Q else K ((Act.mk t d).put o.dst Go.undef) w by
  cases y with
  | true =>
   show wpOpIn Fence.wide 0 P ops Q i K ⟨t,d⟩ w
   unfold wpOpIn
   simp only [ho]
   split
   · rename_i hw; rw [if_pos hw] at hsuf; exact hsuf
   · rename_i hw; rw [if_neg hw] at hsuf; exact⟨fun _ _=>trivial,hsuf⟩
  | false =>
   show wpOp P ops Q i K ⟨t,d⟩ w
   unfold wpOp
   simp only [ho]
   split
   · rename_i hw; rw [if_pos hw] at hsuf; exact .inl hsuf
   · rename_i hw; rw [if_neg hw] at hsuf; exact hsuf
 rcases hcase with⟨hw,m',s',hm',hs',hrun,hsub⟩ | ⟨hw,hv,hws⟩
 · simp only [hwant true hw,if_true]
   have hsub1:∀ j c,AL.get s' j=some c→MD rs M0 D j=some c:=fun j c hj=>by
    rw [hs' j] at hj
    split at hj
    · rename_i hrd; rw [← agreeM j hrd]; exact hj
    · cases hj
   obtain⟨X,hm1,hback⟩:=hm.hide hsub1
   have hk1:MM g h m' t:=fun k v hv=>by
    rw [hm' k] at hv
    split at hv
    · rename_i hns; exact hkn k v (by rw [← agreeT k (Qd hns)]; exact hv)
    · cases hv
   have hi1:PP (pD n0 ops.size D) m':=fun k v hv=>by
    rw [hm' k] at hv
    split at hv
    · rename_i hns; exact hok k v (by rw [← agreeT k (Qd hns)]; exact hv)
    · cases hv
   have hin1:EV (pD n0 ops.size D) (AL.get s'):=fun j c hj=>hin j c (hsub1 j c hj)
   refine Sr (F:=⟨F.w,F.h,X⟩) hP hc hy rfl hm1 (Abc hDi) hin1 hk1 hi1 hrun ?_
   intro h' g' w' u q1 q2 q3 q4 q5 q6
   have hup:∀ j,Rj (pD n0 ops.size D) (n0+64*i) j=true→pD n0 ops.size D' j=true:=fun j hj=>by
    unfold Rj at hj
    rw [ZaL] at hj
    rcases hj with hj | hj
    · exact Ks hDD j hj
    · exact Aef hil (by show(D i || i == i)=true; simp) hj
   have hsubw:∀ {l:List Nat},Zk (n0+64*i) rc.rd l=true→∀ x,A8 l x=true→A8 rc.rd x=true∨KF (n0+64*i) x=true:=by
    intro l
    induction l with
    | nil=>intro _ x hx; cases hx
    | cons y l ih =>
     intro hh x hx
     unfold Zk at hh
     obtain⟨q1,q2⟩:=Ao hh
     unfold A8 at hx
     cases hb:Nat.beq y x with
     | true =>
      have:=Zab hb
      subst this
      rw [ZaL] at q1
      exact q1
     | false=>rw [hb] at hx; exact ih q2 x hx
   have hact:(Act.mk t d).put o.dst u=Act.mk ((Act.mk t d).put o.dst u).tmps d:=OJ (I3 _ _ _)
   rw [hact]
   refine hK _ w' ⟨by rw [Mu]; exact hsize,h',g',Ad.le_trans hle q1,fun j hj=>?_,?_,?_,?_,?_⟩
   · rw [q2 j (by unfold pD; rw [show Nat.blt j n0=true from Za1 hj]; rfl)]
     exact hg0 j hj
   · have:=hback (p:=pD n0 ops.size D) (fun j=>!A8 rc.rd j && !A8 (Iz rc.ws) j) q3 q1 q2 hin (fun j c hj hr=>by
      rw [hs' j,if_neg]
      intro hrd
      rw [hrd] at hr
      cases hr)
     refine Ag.less this fun j c hj=>?_
     show(if (!A8 rc.rd j && !A8 (Iz rc.ws) j)=true then MD rs M0 D j else Mo.app (AL.get s') rc.ws j)=some c
     rw [updM (AL.get s') j] at hj
     split at hj
     · rename_i hx
       rw [if_neg (by rw [hx]; simp)]
       exact hj
     · rename_i hx
       cases hrd:A8 rc.rd j with
       | false=>rw [if_pos (by simp [show A8 (Iz rc.ws) j=false by simpa using hx])]; exact hj
       | true =>
        rw [if_neg (by simp)]
        rw [Mo.app_not (fun x hx' he=>hx (Be.2 (by rw [← he]; exact List.mem_map_of_mem hx')))]
        rw [hs' j,if_pos hrd,agreeM j hrd]
        exact hj
   · intro k v hv
     have hv2:TD ops rs X0 D' k=some v:=hv
     rw [updT k] at hv2
     split at hv2
     · rename_i hx
       cases hv2
       unfold Jd at hx
       cases hd:o.dst with
       | none=>rw [hd] at hx; cases hx
       | some x =>
        rw [hd] at hx
        have:=V5 hx
        subst this
        refine⟨u,?_,q5⟩
        rw [hd] at hdst
        have:x<t.size:=by rw [hsize]; exact Zaf hdst
        simp [Act.put,this]
     · rename_i hx
       obtain⟨u',e1,e2⟩:=hkn k v hv2
       refine⟨u',?_,V.den_mono q1 _ _ (V.den_agree q2 (hok k v hv2) e2)⟩
       cases hd:o.dst with
       | none=>exact e1
       | some x =>
        have hne:x≠k:=fun hh=>by
         subst hh
         apply hx
         unfold Jd
         rw [hd]
         simp [A8]
        simp only [Act.put]
        rw [ZaN hne]
        exact e1
   · intro k v hv
     have hv2:TD ops rs X0 D' k=some v:=hv
     rw [updT k] at hv2
     split at hv2
     · cases hv2; exact V.okB_imp hup _ q6
     · exact V.okB_imp (Ks hDD) _ (hok k v hv2)
   · intro j c hj
     have hj2:MD rs M0 D' j=some c:=hj
     rw [updM (AL.get s') j] at hj2
     split at hj2
     · obtain⟨e1,e2⟩:=q4 j c hj2
       exact⟨hup j e1,A7.okB_imp hup e2⟩
     · obtain⟨e1,e2⟩:=hin j c hj2
       exact⟨Ks hDD j e1,A7.okB_imp (Ks hDD) e2⟩
 · have hrv:rc.v=.undef:=hv
   clear hv
   simp only [hwant false hw,Zaz,if_false]
   have hact:(Act.mk t d).put o.dst Go.undef=Act.mk ((Act.mk t d).put o.dst Go.undef).tmps d:=OJ (I3 _ _ _)
   rw [hact]
   have hMs:MD rs M0 D' = MD rs M0 D:=funext fun j=>by
    rw [updM M0 j,hws]
    rfl
   refine hK _ w ⟨by rw [Mu]; exact hsize,h,g,hle,hg0,?_,?_,?_,?_⟩
   · show Ag F h g (MD rs M0 D') w
     rw [hMs]; exact hm
   · intro k v hv
     have hv2:TD ops rs X0 D' k=some v:=hv
     rw [updT k] at hv2
     split at hv2
     · rename_i hx
       cases hv2
       unfold Jd at hx
       cases hd:o.dst with
       | none=>rw [hd] at hx; cases hx
       | some x =>
        rw [hd] at hx
        have:=V5 hx
        subst this
        rw [hd] at hdst
        have:x<t.size:=by rw [hsize]; exact Zaf hdst
        exact⟨Go.undef,by simp [Act.put,this],by rw [hrv]; unfold V.den; rfl⟩
     · rename_i hx
       obtain⟨u',e1,e2⟩:=hkn k v hv2
       refine⟨u',?_,e2⟩
       cases hd:o.dst with
       | none=>exact e1
       | some x =>
        have hne:x≠k:=fun hh=>by
         subst hh
         apply hx
         unfold Jd
         rw [hd]
         simp [A8]
        simp only [Act.put]
        rw [ZaN hne]
        exact e1
   · intro k v hv
     have hv2:TD ops rs X0 D' k=some v:=hv
     rw [updT k] at hv2
     split at hv2
     · cases hv2; rw [hrv]; rfl
     · exact V.okB_imp (Ks hDD) _ (hok k v hv2)
   · show EV (pD n0 ops.size D') (MD rs M0 D')
     rw [hMs]
     exact EV.mono hin (Ks hDD)
omit rT [UV Ty] [UL Ty] in
theorem JD {p q:Nat→Bool} {i:Nat}:∀ (l:List Nat),(∀ a∈l,q a=(p a && !(a == i)))→(l.filter q).length≤(l.filter p).length∧(i∈l→p i=true→(l.filter q).length<(l.filter p).length)
 | [],_=>⟨Zal _,fun h=>by simp at h⟩
 | b::l,hq=>by
  obtain⟨h1,h2⟩:=JD l fun a ha=>hq a (by simp [ha])
  have hb:=hq b (by simp)
  simp only [List.filter_cons,hb]
  constructor
  · cases p b <;> cases (b == i) <;> simp only [ZaM,ZaI,Bool.and_true,Bool.and_false,if_true,if_false,Zaz,Zas] <;> omega
  · intro hi hp
    by_cases hbi:b=i
    · subst hbi
      rw [hp]
      simp only [beq_self_eq_true,ZaM,Bool.and_false,if_true,if_false,Zaz,Zas]
      omega
    · have hne:(b == i)=false:=by simpa using hbi
      have:=h2 (by rcases Zam.1 hi with h | h; exact absurd h.symm hbi; exact h) hp
      rw [hne]
      cases p b <;> simp only [ZaM,ZaI,Bool.and_true,Bool.and_false,if_true,if_false,Zaz,Zas] <;> omega
theorem JE {α:Type}:∀ {l:List α} {r:List α} {x:α},HS l=some (r,x)→l=r++[x]
 | [],_,_,h=>by cases h
 | [y],r,x,h=>by cases h; rfl
 | y::z::q,r,x,h=>by
  unfold HS at h
  split at h
  · rename_i l' y' hl
    cases h
    rw [JE hl]; rfl
  · cases h
theorem NZ {b:Nat}:∀ {n i:Nat},Km b n=true→i<n→O3 b i=true
 | 0,_,_,h=>by omega
 | n+1,i,h,hi=>by
  unfold Km at h
  obtain⟨h1,h2⟩:=Ao h
  by_cases hin:i=n
  · subst hin; exact h1
  · exact NZ h2 (by omega)
theorem V8 {z:List Oper}:∀ {pre:List Oper} {rs:List (Rc Ty)},rs.length=pre.length→F6 (pre++z) rs=F6 pre rs
 | [],[],_=>by cases z <;> rfl
 | [],_::_,h=>by cases h
 | _::_,[],h=>by cases h
 | o::os,r::rs,h=>by
  show(_::F6 (os++z) rs)=_::F6 os rs
  rw [V8 (by simpa using h)]
theorem Rz {y:Bool} {call:AT Ty} {m:List (Nat×V Ty)} {s:Az Ty} {lf:Lf Ty} (hP:E5 P) (hc:Cm P call) (hy:y=false→∀ args k s,(call An args k s).runK some=none) (hK:Aba N F h g n0 Q d lf) (hs:RS N F h g n0 m s t w) (hr:(Tk P N call ops n0 m s).runK some=some lf):K3 y P ops Q ops.size (Array.replicate ops.size false) ⟨t,d⟩ w:=by
 unfold Tk at hr
 cases hb:Nn 0 ops.toList with
 | false=>rw [hb] at hr; cases hr
 | true =>
  rw [hb,Zac] at hr
  obtain⟨rs,h1,h2⟩:=Tr.run_bind hr
  cases hp:Kl ops (ED ops.toList) 0 ops.toList rs with
  | false=>rw [hp] at h2; cases h2
  | true =>
   rw [hp,Zac] at h2
   cases h2
   obtain⟨hlen,hfact⟩:=Lo h1
   have hfact':∀ (k:Nat)(o:Oper)(rc:Rc Ty),ops.toList[k]? = some o→rs[k]? = some rc→Su P N call ops n0 k o rc (TD ops rs (AL.get m) fun a=>decide (a<k)) (MD rs (AL.get s) fun a=>decide (a<k)):=fun k o rc q1 q2=>by
    have:=hfact k o rc q1 q2
    rw [Zar] at this
    exact this
   obtain⟨mf,sf,e1,e2,e3⟩:=Nx (n0:=n0) (r:=ops.toList) (rs:=rs) (i:=0) (m:=m) (s:=s) hlen
   rw [e1] at hK
   have recs:∀ k,k<ops.size→∃ o rc,ops[k]? = some o∧rs[k]? = some rc:=fun k hk=>⟨_,_,ZaB hk,Zao (by rw [hlen]; simpa using hk)⟩
   -- whoever is listed has behind it what it stands on
   have key:∀ (fuel:Nat)(listed:Array Bool)(t:Array Value)(w:World),listed.size=ops.size→((List.range ops.size).filter fun i=>!listed.getD i true).length≤fuel →
     (∀ (b:Nat)(o:Oper),ops[b]? = some o→listed.getD b false=true→∀ e∈CG o,listed.getD e false=true) →
     Zy ops rs (AL.get m) (AL.get s) N n0 F h g (fun a=>listed.getD a false) t w→K3 y P ops Q fuel listed ⟨t,d⟩ w:=by
    have gd:∀ (listed:Array Bool)(i:Nat),listed.size=ops.size→i<ops.size→listed.getD i true=listed.getD i false:=fun listed i h1 h2=>by
     simp [ZaA,ZaB (show i<listed.size by omega)]
    have fin:∀ (listed:Array Bool)(t:Array Value)(w:World),listed.size=ops.size→(∀ i,i<ops.size→listed.getD i false=true)→Zy ops rs (AL.get m) (AL.get s) N n0 F h g (fun a=>listed.getD a false) t w→Q .normal ⟨t,d⟩ w:=by
     intro listed t w hsz hall hI
     obtain⟨hsize,h',g',q1,q2,q3,q4,q5,q6⟩:=hI
     have hT:AL.get mf=TD ops rs (AL.get m) fun a=>listed.getD a false:=by
      rw [e2]
      funext x
      refine Ci (HU _ _) (fun k f hk hne=>?_) rfl
      obtain⟨o,r,p1,_,_⟩:=HV hk
      rw [Zaw] at p1
      exact absurd (hall k (Zag.1 p1).1).symm (by simpa using hne)
     have hM:AL.get sf=MD rs (AL.get s) fun a=>listed.getD a false:=by
      rw [e3]
      funext x
      refine Ci (JC _) (fun k f hk hne=>?_) rfl
      have:=(Zaq.1 hk).1
      simp only [ZaH] at this
      rw [hlen] at this
      exact absurd (hall k (by simpa using this)).symm (by simpa using hne)
     have hpd:∀ i,pD n0 ops.size (fun a=>listed.getD a false) i=true→Cl (n0+64*(0+ops.toList.length)) i=true:=fun i hi=>by
      unfold pD at hi
      rw [ZaL] at hi
      refine Am.2 ?_
      rcases hi with hi | hi
      · have:i<n0:=Zaf hi
        omega
      · obtain⟨a,p1,p2⟩:=Zbp.1 hi
        have:=Zbu.1 p1
        have:=Df.1 (Ao p2).2
        simp only [ZaG]
        omega
     exact hK F d h' g' t w (FD.refl F d) q1 q2 (by simp only; omega) ⟨hsize,fun k v hv=>q4 k v (by rw [← hT]; exact hv),by simp only; rw [hM]; exact q3,fun k v hv=>V.okB_imp hpd _ (q5 k v (by rw [← hT]; exact hv)),by simp only; rw [hM]; exact EV.mono q6 hpd⟩
    intro fuel
    induction fuel with
    | zero =>
     intro listed t w hsz hcount hcl hI
     have hall:∀ i,i<ops.size→listed.getD i false=true:=fun i hi=>by
      cases hx:listed.getD i false with
      | true=>rfl
      | false =>
       have:i∈(List.range ops.size).filter fun i=>!listed.getD i true:=Zbw.2 ⟨Zbu.2 hi,by rw [gd listed i hsz hi,hx]; rfl⟩
       have:=List.length_pos_of_mem this
       omega
     refine K3.zero ?_ (fin listed t w hsz hall hI)
     cases hrd:Region.ready .any ops listed with
     | nil=>rfl
     | cons i l =>
      have hi:i∈Region.ready .any ops listed:=by rw [hrd]; simp
      obtain⟨hun,o,ho,_⟩:=mem_ready.1 hi
      have hil:=(Zag.1 ho).1
      rw [gd listed i hsz hil,hall i hil] at hun
      cases hun
    | succ fuel ih =>
     intro listed t w hsz hcount hcl hI
     refine K3.succ ?_ ?_
     · intro hrd
       refine fin listed t w hsz ?_ hI
       intro i
       induction i using Nat.strongRecOn with
       | _ i ihi =>
        intro hil
        cases hx:listed.getD i false with
        | true=>rfl
        | false =>
         obtain⟨o,rc,ho,hrc⟩:=recs i hil
         have:i∈Region.ready .any ops listed:=mem_ready.2 ⟨by rw [gd listed i hsz hil,hx],o,ho,fun e he hbe=>by
          have hem:e.on∈CG o:=ZaV.2 ⟨e,Zbw.2 ⟨by simpa using he,hbe⟩,rfl⟩
          have hlt:=Fj hb (k:=i) (by rw [Zaw]; exact ho) e.on hem
          exact ihi e.on (by omega) (by omega)⟩
         rw [hrd] at this
         cases this
     · intro i hi
       obtain⟨hun,o,ho,hall⟩:=mem_ready.1 hi
       have hil:=(Zag.1 ho).1
       obtain⟨o',rc,ho',hrc⟩:=recs i hil
       rw [ho] at ho'
       cases ho'
       have hDi:listed.getD i false=false:=by rw [← gd listed i hsz hil]; exact hun
       have hedges:∀ e∈CG o,listed.getD e false=true:=fun e he=>by
        obtain⟨ed,p1,p2⟩:=ZaV.1 he
        obtain⟨p3,p4⟩:=Zbw.1 p1
        rw [← p2]
        exact hall ed (by simpa using p3) p4
       have hES:∀ (b:Nat)(es:List Nat),(ops.toList.map CG)[b]? = some es→∃ ob,ops[b]? = some ob∧es=CG ob:=fun b es hbe=>by
        rw [ZaD] at hbe
        obtain⟨ob,p1,rfl⟩:=Zat.1 hbe
        exact⟨ob,by rw [← Zaw]; exact p1,rfl⟩
       have hgood:∀ b ob,ops[b]? = some ob→(∀ e∈CG ob,listed.getD e false=true)→∀ a,O3 (AR (ED ops.toList) b) a=true→listed.getD a false=true:=fun b ob hob he a ha=>by
        refine Lp (ES:=ops.toList.map CG) (D:=fun a=>listed.getD a false) ?_ ?_ (ops.toList.map CG) [] [] rfl rfl (fun b es _ hlt=>by simp at hlt) b (CG ob) (by rw [ZaD,Zaw,hob]; rfl) he a ha
        · intro b es hbe hD e he
          obtain⟨ob,p1,rfl⟩:=hES b es hbe
          exact hcl b ob p1 hD e he
        · intro b es hbe e he
          obtain⟨ob,p1,rfl⟩:=hES b es hbe
          have:=Fj hb (k:=b) (by rw [Zaw]; exact p1) e he
          omega
       have gset:∀ a,(listed.setIfInBounds i true).getD a false=(listed.getD a false || a == i):=fun a=>by
        by_cases hai:i=a
        · subst hai
          simp [ZaA,show i<listed.size by omega]
        · rw [getD_set_ne false hai]
          have:(a == i)=false:=by simp; exact fun h=>hai h.symm
          rw [this,Bool.or_false]
       refine V7 hP hc hy (Nat.le_of_eq hlen) hfact' ho hrc hDi ?_ ?_ hI ?_
       · intro k ok rk hok hrk hlt hDk
         have hpo:=E6 hp (x:=k) (y:=i) (by rw [Zaw]; exact hok) hrk (by rw [Zaw]; exact ho) hrc hlt
         rw [Zar,Zar] at hpo
         refine(Ec hpo ?_).1
         cases hbit:O3 (AR (ED ops.toList) i) k with
         | false=>rfl
         | true=>rw [hgood i o ho hedges k hbit] at hDk; cases hDk
       · intro k ok rk hok hrk hlt hDk
         have hpo:=E6 hp (x:=i) (y:=k) (by rw [Zaw]; exact ho) hrc (by rw [Zaw]; exact hok) hrk hlt
         rw [Zar,Zar] at hpo
         have hbit:O3 (AR (ED ops.toList) k) i=false:=by
          cases hbit:O3 (AR (ED ops.toList) k) i with
          | false=>rfl
          | true=>rw [hgood k ok hok (hcl k ok hok hDk) i hbit] at hDi; cases hDi
         exact⟨(Ec hpo hbit).2,(Ec hpo hbit).1⟩
       · intro t' w' hI'
         refine ih _ t' w' (by simp [hsz]) ?_ ?_ ?_
         · have hsz2:(listed.setIfInBounds i true).size=ops.size:=by simp [hsz]
           have hlt:=(JD (p:=fun a=>!listed.getD a true) (q:=fun a=>!(listed.setIfInBounds i true).getD a true) (i:=i) (List.range ops.size) (fun a ha=>by
            have ha:=Zbu.1 ha
            show(!(listed.setIfInBounds i true).getD a true)=(!listed.getD a true && !(a == i))
            rw [gd _ a hsz2 ha,gset,gd _ a hsz ha]
            cases listed.getD a false <;> cases (a == i) <;> rfl)).2 (Zbu.2 hil) (by show(!listed.getD i true)=true; rw [gd _ i hsz hil,hDi]; rfl)
           omega
         · intro b ob hob hD e he
           rw [gset] at hD ⊢
           rw [ZaL] at hD
           rcases hD with hD | hD
           · rw [hcl b ob hob hD e he]; rfl
           · have:b=i:=by simpa using hD
             subst this
             rw [ho] at hob
             cases hob
             rw [hedges e he]; rfl
         · have:(fun a=>(listed.setIfInBounds i true).getD a false)=fun a=>listed.getD a false || a == i:=funext gset
           rw [this]
           exact hI'
   have hgd0:∀ a,(Array.replicate ops.size false).getD a false=false:=fun a=>by
    rw [ZaA]
    rcases Za2 a ops.size with h' | h'
    · simp [h']
    · rw [Array.getElem?_eq_none (by simpa using h')]; rfl
   refine key ops.size _ t w (by simp) (ZaF (Zbr _ _) (by simp)) (fun b o _ hD=>by rw [hgd0] at hD; cases hD) ?_
   have hD0:(fun a=>(Array.replicate ops.size false).getD a false)=fun _=>false:=funext hgd0
   rw [hD0]
   have hT0:TD ops rs (AL.get m) (fun _=>false)=AL.get m:=by
    have:=FI (F6 ops.toList rs) 0 (AL.get m)
    simpa [TD] using this
   have hM0:MD rs (AL.get s) (fun _=>false)=AL.get s:=by
    have:=FI (rs.map Wp) 0 (AL.get s)
    simpa [MD] using this
   have hp0:∀ i,Cl n0 i=true→pD n0 ops.size (fun _=>false) i=true:=fun i hi=>by unfold pD; rw [show Nat.blt i n0=true from hi]; rfl
   exact⟨hs.size,h,g,Ad.le_refl _,fun _ _=>rfl,by rw [hM0]; exact hs.mem,by rw [hT0]; exact hs.kn,by rw [hT0]; exact hs.im.mono hp0,by rw [hM0]; exact EV.mono hs.is_ hp0⟩
theorem Qe {y:Bool} {call:AT Ty} {m:List (Nat×V Ty)} {s:Az Ty} {lf:Lf Ty} (hP:E5 P) (hc:Cm P call) (hy:y=false→∀ args k s,(call An args k s).runK some=none) (hK:Aba N F h g n0 Q d lf) (hs:RS N F h g n0 m s t w) (hr:(PG P N call ops n0 m s).runK some=some lf):K3 y P ops Q ops.size (Array.replicate ops.size false) ⟨t,d⟩ w:=by
 unfold PG at hr
 split at hr
 case h_2=>cases hr
 rename_i pre z hsp
 have hops:=JE hsp
 rw [A5] at hr
 have hnz:ops.size=pre.length+1:=by rw [← ZaG,hops]; simp
 have hz:ops[pre.length]? = some z:=by rw [← Zaw,hops]; simp
 have hpo':∀ k o,pre[k]? = some o→ops[k]? = some o:=fun k o hk=>by
  rw [← Zaw,hops,Zau (Zaq.1 hk).1]; exact hk
 have hop':∀ k o,k<pre.length→ops[k]? = some o→pre[k]? = some o:=fun k o hk ho=>by
  rw [← Zaw,hops,Zau hk] at ho; exact ho
 cases hbb:(Nn 0 ops.toList && Km (AR (ED ops.toList) pre.length) pre.length) with
 | false=>rw [hbb] at hr; cases hr
 | true =>
  rw [hbb,Zac] at hr
  obtain⟨hb,hbz⟩:=Ao hbb
  obtain⟨rs,h1,h2⟩:=Tr.run_bind hr
  cases hp:Kl ops (ED ops.toList) 0 pre rs with
  | false=>rw [hp] at h2; cases h2
  | true =>
   rw [hp,Zac] at h2
   obtain⟨hlen,hfact⟩:=Lo h1
   have hups:F6 ops.toList rs=F6 pre rs:=by rw [hops]; exact V8 hlen
   have hfact':∀ (k:Nat)(o:Oper)(rc:Rc Ty),ops.toList[k]? = some o→rs[k]? = some rc→Su P N call ops n0 k o rc (TD ops rs (AL.get m) fun a=>decide (a<k)) (MD rs (AL.get s) fun a=>decide (a<k)):=fun k o rc q1 q2=>by
    have hk:k<pre.length:=by rw [← hlen]; exact(Zaq.1 q2).1
    have:=hfact k o rc (hop' k o hk (by rw [← Zaw]; exact q1)) q2
    rw [Zar] at this
    unfold TD MD
    rw [hups]
    exact this
   obtain⟨mf,sf,e1,e2,e3⟩:=Nx (n0:=n0) (r:=pre) (rs:=rs) (i:=0) (m:=m) (s:=s) hlen
   rw [e1] at h2
   have recs:∀ k,k<pre.length→∃ o rc,ops[k]? = some o∧rs[k]? = some rc∧pre[k]? = some o:=fun k hk=>⟨_,_,hpo' k _ (Zao hk),Zao (by rw [hlen]; exact hk),Zao hk⟩
   -- whoever is listed has behind it what it stands on
   have key:∀ (fuel:Nat)(listed:Array Bool)(t:Array Value)(w:World),listed.size=ops.size→((List.range ops.size).filter fun i=>!listed.getD i true).length≤fuel →
     (∀ (b:Nat)(o:Oper),ops[b]? = some o→listed.getD b false=true→∀ e∈CG o,listed.getD e false=true)→listed.getD pre.length false=false →
     Zy ops rs (AL.get m) (AL.get s) N n0 F h g (fun a=>listed.getD a false) t w→K3 y P ops Q fuel listed ⟨t,d⟩ w:=by
    have gd:∀ (listed:Array Bool)(i:Nat),listed.size=ops.size→i<ops.size→listed.getD i true=listed.getD i false:=fun listed i h1 h2=>by
     simp [ZaA,ZaB (show i<listed.size by omega)]
    have full:∀ (listed:Array Bool),listed.size=ops.size→(∀ i,i<ops.size→listed.getD i false=true)→Region.ready .any ops listed=[]:=fun listed hsz hall=>by
     cases hrd:Region.ready .any ops listed with
     | nil=>rfl
     | cons i l =>
      have hi:i∈Region.ready .any ops listed:=by rw [hrd]; simp
      obtain⟨hun,o,ho,_⟩:=mem_ready.1 hi
      have hil:=(Zag.1 ho).1
      rw [gd listed i hsz hil,hall i hil] at hun
      cases hun
    have fin:∀ (fuel:Nat)(listed:Array Bool)(t:Array Value)(w:World),listed.size=ops.size→(∀ i,i<pre.length→listed.getD i false=true)→listed.getD pre.length false=false→Zy ops rs (AL.get m) (AL.get s) N n0 F h g (fun a=>listed.getD a false) t w→V6 y P ops Q pre.length (K3 y P ops Q fuel (listed.setIfInBounds pre.length true)) ⟨t,d⟩ w:=by
     intro fuel listed t w hsz hall hzn hI
     obtain⟨hsize,h',g',q1,q2,q3,q4,q5,q6⟩:=hI
     have hT:AL.get mf=TD ops rs (AL.get m) fun a=>listed.getD a false:=by
      rw [e2]
      unfold TD
      rw [hups]
      funext x
      refine Ci (HU _ _) (fun k f hk hne=>?_) rfl
      obtain⟨o,r,p1,_,_⟩:=HV hk
      rw [Zar] at hne
      exact absurd (hall k (Zaq.1 p1).1).symm (by simpa using hne)
     have hM:AL.get sf=MD rs (AL.get s) fun a=>listed.getD a false:=by
      rw [e3]
      funext x
      refine Ci (JC _) (fun k f hk hne=>?_) rfl
      have:=(Zaq.1 hk).1
      simp only [ZaH] at this
      rw [hlen] at this
      rw [Zar] at hne
      exact absurd (hall k this).symm (by simpa using hne)
     have hpd:∀ i,pD n0 ops.size (fun a=>listed.getD a false) i=true→Cl (n0+64*pre.length) i=true:=fun i hi=>by
      unfold pD at hi
      rw [ZaL] at hi
      refine Am.2 ?_
      rcases hi with hi | hi
      · have:i<n0:=Zaf hi
        omega
      · obtain⟨a,p1,p2⟩:=Zbp.1 hi
        have:=Zbu.1 p1
        obtain⟨p3,p4⟩:=Ao p2
        have:=Df.1 p4
        have:a≠pre.length:=fun hh=>by
         subst hh
         have p5:listed.getD pre.length false=true:=p3
         rw [hzn] at p5; cases p5
        omega
     have hz1:=Gx (y:=y) (ops:=ops) hP hc hy hK [z] pre.length mf sf h' g' t w (by rw [hops]; simp) ⟨hsize,fun k v hv=>q4 k v (by rw [← hT]; exact hv),by rw [hM]; exact q3,fun k v hv=>V.okB_imp hpd _ (q5 k v (by rw [← hT]; exact hv)),by rw [hM]; exact EV.mono q6 hpd⟩ q1 q2 h2
     refine V6.mono (fun a' w' hq=>?_) (Nw.one hnz hz1)
     have hfull:Region.ready .any ops (listed.setIfInBounds pre.length true)=[]:=full _ (by simp [hsz]) fun i hi=>by
      by_cases hiz:pre.length=i
      · subst hiz
        simp [ZaA,show pre.length<listed.size by omega]
      · rw [getD_set_ne false hiz]
        exact hall i (by omega)
     cases fuel with
     | zero=>exact K3.zero hfull hq
     | succ fuel=>exact K3.succ (fun _=>hq) (fun i hi=>by rw [hfull] at hi; cases hi)
    intro fuel
    induction fuel with
    | zero =>
     intro listed t w hsz hcount hcl hzn hI
     have:pre.length∈(List.range ops.size).filter fun i=>!listed.getD i true:=Zbw.2 ⟨Zbu.2 (by omega),by rw [gd listed _ hsz (by omega),hzn]; rfl⟩
     have:=List.length_pos_of_mem this
     omega
    | succ fuel ih =>
     intro listed t w hsz hcount hcl hzn hI
     refine K3.succ ?_ ?_
     · intro hrd
       exfalso
       have hall:∀ i,i<ops.size→listed.getD i false=true:=by
        intro i
        induction i using Nat.strongRecOn with
        | _ i ihi =>
         intro hil
         cases hx:listed.getD i false with
         | true=>rfl
         | false =>
          obtain⟨o,ho⟩:∃ o,ops[i]? = some o:=⟨_,ZaB hil⟩
          have:i∈Region.ready .any ops listed:=mem_ready.2 ⟨by rw [gd listed i hsz hil,hx],o,ho,fun e he hbe=>by
           have hem:e.on∈CG o:=ZaV.2 ⟨e,Zbw.2 ⟨by simpa using he,hbe⟩,rfl⟩
           have hlt:=Fj hb (k:=i) (by rw [Zaw]; exact ho) e.on hem
           exact ihi e.on (by omega) (by omega)⟩
          rw [hrd] at this
          cases this
       rw [hall pre.length (by omega)] at hzn
       cases hzn
     · intro i hi
       obtain⟨hun,o,ho,hall⟩:=mem_ready.1 hi
       have hil:=(Zag.1 ho).1
       have hDi:listed.getD i false=false:=by rw [← gd listed i hsz hil]; exact hun
       have hedges:∀ e∈CG o,listed.getD e false=true:=fun e he=>by
        obtain⟨ed,p1,p2⟩:=ZaV.1 he
        obtain⟨p3,p4⟩:=Zbw.1 p1
        rw [← p2]
        exact hall ed (by simpa using p3) p4
       have hES:∀ (b:Nat)(es:List Nat),(ops.toList.map CG)[b]? = some es→∃ ob,ops[b]? = some ob∧es=CG ob:=fun b es hbe=>by
        rw [ZaD] at hbe
        obtain⟨ob,p1,rfl⟩:=Zat.1 hbe
        exact⟨ob,by rw [← Zaw]; exact p1,rfl⟩
       have hgood:∀ b ob,ops[b]? = some ob→(∀ e∈CG ob,listed.getD e false=true)→∀ a,O3 (AR (ED ops.toList) b) a=true→listed.getD a false=true:=fun b ob hob he a ha=>by
        refine Lp (ES:=ops.toList.map CG) (D:=fun a=>listed.getD a false) ?_ ?_ (ops.toList.map CG) [] [] rfl rfl (fun b es _ hlt=>by simp at hlt) b (CG ob) (by rw [ZaD,Zaw,hob]; rfl) he a ha
        · intro b es hbe hD e he
          obtain⟨ob,p1,rfl⟩:=hES b es hbe
          exact hcl b ob p1 hD e he
        · intro b es hbe e he
          obtain⟨ob,p1,rfl⟩:=hES b es hbe
          have:=Fj hb (k:=b) (by rw [Zaw]; exact p1) e he
          omega
       rcases Za2 i pre.length with hip | hip
       case inr =>
        have hiz:i=pre.length:=by omega
        subst hiz
        refine fin fuel listed t w hsz (fun k hk=>?_) hzn hI
        exact hgood pre.length o ho hedges k (NZ hbz hk)
       obtain⟨o',rc,ho',hrc,_⟩:=recs i hip
       rw [ho] at ho'
       cases ho'
       have gset:∀ a,(listed.setIfInBounds i true).getD a false=(listed.getD a false || a == i):=fun a=>by
        by_cases hai:i=a
        · subst hai
          simp [ZaA,show i<listed.size by omega]
        · rw [getD_set_ne false hai]
          have:(a == i)=false:=by simp; exact fun h=>hai h.symm
          rw [this,Bool.or_false]
       refine V7 hP hc hy (by rw [hlen,hops]; simp) hfact' ho hrc hDi ?_ ?_ hI ?_
       · intro k ok rk hok hrk hlt hDk
         have hpo:=E6 hp (x:=k) (y:=i) (hop' k ok (by omega) hok) hrk (hop' i o hip ho) hrc hlt
         rw [Zar,Zar] at hpo
         refine(Ec hpo ?_).1
         cases hbit:O3 (AR (ED ops.toList) i) k with
         | false=>rfl
         | true=>rw [hgood i o ho hedges k hbit] at hDk; cases hDk
       · intro k ok rk hok hrk hlt hDk
         have hpo:=E6 hp (x:=i) (y:=k) (hop' i o hip ho) hrc (hop' k ok (by rw [← hlen]; exact(Zaq.1 hrk).1) hok) hrk hlt
         rw [Zar,Zar] at hpo
         have hbit:O3 (AR (ED ops.toList) k) i=false:=by
          cases hbit:O3 (AR (ED ops.toList) k) i with
          | false=>rfl
          | true=>rw [hgood k ok hok (hcl k ok hok hDk) i hbit] at hDi; cases hDi
         exact⟨(Ec hpo hbit).2,(Ec hpo hbit).1⟩
       · intro t' w' hI'
         refine ih _ t' w' (by simp [hsz]) ?_ ?_ (by rw [getD_set_ne false (by omega)]; exact hzn) ?_
         · have hsz2:(listed.setIfInBounds i true).size=ops.size:=by simp [hsz]
           have hlt:=(JD (p:=fun a=>!listed.getD a true) (q:=fun a=>!(listed.setIfInBounds i true).getD a true) (i:=i) (List.range ops.size) (fun a ha=>by
            have ha:=Zbu.1 ha
            show(!(listed.setIfInBounds i true).getD a true)=(!listed.getD a true && !(a == i))
            rw [gd _ a hsz2 ha,gset,gd _ a hsz ha]
            cases listed.getD a false <;> cases (a == i) <;> rfl)).2 (Zbu.2 hil) (by show(!listed.getD i true)=true; rw [gd _ i hsz hil,hDi]; rfl)
           omega
         · intro b ob hob hD e he
           rw [gset] at hD ⊢
           rw [ZaL] at hD
           rcases hD with hD | hD
           · rw [hcl b ob hob hD e he]; rfl
           · have:b=i:=by simpa using hD
             subst this
             rw [ho] at hob
             cases hob
             rw [hedges e he]; rfl
         · have:(fun a=>(listed.setIfInBounds i true).getD a false)=fun a=>listed.getD a false || a == i:=funext gset
           rw [this]
           exact hI'
   have hgd0:∀ a,(Array.replicate ops.size false).getD a false=false:=fun a=>by
    rw [ZaA]
    rcases Za2 a ops.size with h' | h'
    · simp [h']
    · rw [Array.getElem?_eq_none (by simpa using h')]; rfl
   refine key ops.size _ t w (by simp) (ZaF (Zbr _ _) (by simp)) (fun b o _ hD=>by rw [hgd0] at hD; cases hD) (hgd0 _) ?_
   have hD0:(fun a=>(Array.replicate ops.size false).getD a false)=fun _=>false:=funext hgd0
   rw [hD0]
   have hT0:TD ops rs (AL.get m) (fun _=>false)=AL.get m:=by
    have:=FI (F6 ops.toList rs) 0 (AL.get m)
    simpa [TD] using this
   have hM0:MD rs (AL.get s) (fun _=>false)=AL.get s:=by
    have:=FI (rs.map Wp) 0 (AL.get s)
    simpa [MD] using this
   have hp0:∀ i,Cl n0 i=true→pD n0 ops.size (fun _=>false) i=true:=fun i hi=>by unfold pD; rw [show Nat.blt i n0=true from hi]; rfl
   exact⟨hs.size,h,g,Ad.le_refl _,fun _ _=>rfl,by rw [hM0]; exact hs.mem,by rw [hT0]; exact hs.kn,by rw [hT0]; exact hs.im.mono hp0,by rw [hM0]; exact EV.mono hs.is_ hp0⟩
theorem Qf {y:Bool} {call:AT Ty} {m:List (Nat×V Ty)} {s:Az Ty} {lf:Lf Ty} (hP:E5 P) (hc:Cm P call) (hy:y=false→∀ args k s,(call An args k s).runK some=none) (hK:Aba N F h g n0 Q d lf) (hs:RS N F h g n0 m s t w) (hr:(PH P N call ops n0 m s).runK some=some lf):K3 y P ops Q ops.size (Array.replicate ops.size false) ⟨t,d⟩ w:=by
 unfold PH at hr
 cases hb:Ad4 ops with
 | true=>rw [hb,Zac] at hr; exact Qe hP hc hy hK hs hr
 | false=>rw [hb,Zad] at hr; exact Rz hP hc hy hK hs hr
end
section
variable {Ty:Nat→Type} [rT:∀ k,Rep (Ty k)] [RFs] [UM Ty] [UML Ty] [UV Ty] [UL Ty] {P:Program} [UMP Ty P] {N:Nat} {call:AT Ty} {y:Bool}
def Bm (y:Bool) (P:Program) (N:Nat) (f:St Ty→Tr (Lf Ty)) (c:Code):Prop:=∀ (st:St Ty)(lf:Lf Ty),(f st).runK some=some lf →
 ∀ (F:Fr)(h:Ad)(g:GE)(t:Array Value)(w:World)(Q:Exit→Act→World→Prop)(d:List Deferred),RS N F h g st.nx st.m st.s t w→Aba N F h g st.nx Q d lf→CJ y P c Q ⟨t,d⟩ w
theorem Aba.of {F F':Fr} {h h':Ad} {g g':GE} {n n':Nat} {Q:Exit→Act→World→Prop} {d d':List Deferred} {lf:Lf Ty} (hK:Aba N F h g n Q d lf) (hf:FD F F' d d') (hle:Ad.le h h') (hg:∀ i,i<n→g' i=g i) (hn:n≤n'):Aba N F' h' g' n' Q d' lf :=
 fun F2 d2 h2 g2 t2 w2 q0 q1 q2 q3 q4=>hK F2 d2 h2 g2 t2 w2 (hf.trans q0) (Ad.le_trans hle q1) (fun i hi=>by rw [q2 i (by omega)]; exact hg i hi) (by omega) q4
omit [RFs] [UML Ty] [UL Ty] rT [UMP Ty P] [UV Ty] [UM Ty] in
theorem Qg (args:List (V Ty)) (k:Nat) (s:Az Ty):(Aea call An args k s).runK some=none:=by
 unfold Aea
 rw [show Nat.beq An An=true from Nat.beq_refl _]; rfl
omit [UL Ty] [UMP Ty P] [UV Ty] in
theorem Xh (hc:Cm P call):Cm P (Aea call):=by
 intro f args k s r hr
 unfold Aea at hr
 cases hb:Nat.beq f An with
 | true=>rw [hb] at hr; cases hr
 | false=>rw [hb,Zad] at hr; exact hc f args k s r hr
theorem Bg {cuts:Ld Ty} (hP:E5 P) (hmix:P.follows .mixedOrders=true) (hc:Cm P call) (hy:y=false→∀ args k s,(call An args k s).runK some=none):∀ (c:Code),(y=false→Fg c=true)→(∀ x∈Br cuts c,∀ f,cuts (GO x)=some f→Bm y P N f x)→Bm y P N (Cv P N call cuts c) c
 | .skip,_,_,st,lf,hr,F,h,g,t,w,Q,d,hs,hK=>by
  cases hr
  exact .skip (hK F d h g t w (FD.refl F d) (Ad.le_refl _) (fun _ _=>rfl) (Zal _) hs)
 | .label l,_,_,st,lf,hr,F,h,g,t,w,Q,d,hs,hK=>by
  cases hr
  exact .label (hK F d h g t w (FD.refl F d) (Ad.le_refl _) (fun _ _=>rfl) (Zal _) hs)
 | .exit id,_,_,st,lf,hr,F,h,g,t,w,Q,d,hs,hK=>by
  cases hr
  exact .exit (hK F d h g t w (FD.refl F d) (Ad.le_refl _) (fun _ _=>rfl) (Zal _) hs)
 | .ret,_,_,st,lf,hr,F,h,g,t,w,Q,d,hs,hK=>by
  cases hr
  exact .ret (hK F d h g t w (FD.refl F d) (Ad.le_refl _) (fun _ _=>rfl) (Zal _) hs)
 | .region id ops false,_,_,st,lf,hr,F,h,g,t,w,Q,d,hs,hK=>by
  unfold Cv at hr
  cases hd:Fc ops with
  | false=>rw [hd] at hr; cases hr
  | true =>
   rw [hd,Zac] at hr
   exact .region hd (Gx hP hc hy hK ops.toList 0 st.m st.s h g t w rfl hs (Ad.le_refl _) (fun _ _=>rfl) hr)
 | .region id ops true,_,_,st,lf,hr,F,h,g,t,w,Q,d,hs,hK=>by
  unfold Cv at hr
  cases hd:Fc ops with
  | false=>rw [hd] at hr; cases hr
  | true =>
   rw [hd,Zac] at hr
   have:=Qf hP hc hy hK (⟨hs.size,hs.kn,hs.mem.drew,hs.im,hs.is_⟩:RS N F h g st.nx st.m st.s t w.drew) hr
   cases y with
   | true=>exact wpIn_wide.1 (wpIn_region_any hmix this)
   | false =>
    have this2:wpAny P .any ops Q ops.size (Array.replicate ops.size false) ⟨t,d⟩ w.drew:=this
    refine CJ.regionG (y:=false) hd hmix ?_
    unfold AdT
    simpa [Jy] using this2
 | .seq a b,hsc,hn,st,lf,hr,F,h,g,t,w,Q,d,hs,hK=>by
  obtain⟨lf1,h1,h2⟩:=Tr.run_bind hr
  have hna:∀ x∈Br cuts a,∀ f,cuts (GO x)=some f→Bm y P N f x:=fun x hx=>hn x (ZaR _ hx)
  have hnb:∀ x∈Br cuts b,∀ f,cuts (GO x)=some f→Bm y P N f x:=fun x hx=>hn x (List.mem_append_right _ hx)
  refine .seq (Bg hP hmix hc hy a (fun hh=>(Ao (hsc hh)).1) hna st lf1 h1 F h g t w _ d hs ?_)
  intro F' d' h' g' t' w' q0 q1 q2 q3 q4
  cases he:lf1.e with
  | normal =>
   rw [he] at h2
   simp only [St.frc_eq] at h2
   exact Bg hP hmix hc hy b (fun hh=>(Ao (hsc hh)).2) hnb lf1.st lf h2 F' h' g' t' w' Q d' q4 (hK.of q0 q1 q2 q3)
  | exit id=>rw [he] at h2; cases h2; have:=hK F' d' h' g' t' w' q0 q1 q2 q3 q4; rw [he] at this; exact this
  | ret=>rw [he] at h2; cases h2; have:=hK F' d' h' g' t' w' q0 q1 q2 q3 q4; rw [he] at this; exact this
  | pan v=>rw [he] at h2; cases h2; have:=hK F' d' h' g' t' w' q0 q1 q2 q3 q4; rw [he] at this; exact this
 | .cond c a b,hsc,hn,st,lf,hr,F,h,g,t,w,Q,d,hs,hK=>by
  unfold Cv at hr
  unfold Br at hn
  cases hcut:cuts (.cond (Lh (.cond c a b))) with
  | some f =>
   rw [hcut] at hr hn
   exact hn (.cond c a b) (by simp) f hcut st lf hr F h g t w Q d hs hK
  | none =>
   rw [hcut] at hr hn
   simp only at hr hn
   cases hev:Gu st.m c with
   | none=>rw [hev] at hr; cases hr
   | some v =>
    rw [hev] at hr
    cases v <;> first | cases hr | skip
    rename_i x
    have hce:=Nr (d:=d) hs.kn c _ hev
    unfold V.den at hce
    rw [Tr.runK_br] at hr
    refine .cond hce (fun hx=>?_) (fun hx=>?_)
    · rw [hx,Zac] at hr
      exact Bg hP hmix hc hy a (fun hh=>(Ao (hsc hh)).1) (fun y hy=>hn y (ZaR _ hy)) st lf hr F h g t w Q d hs hK
    · rw [hx,Zad] at hr
      exact Bg hP hmix hc hy b (fun hh=>(Ao (hsc hh)).2) (fun y hy=>hn y (List.mem_append_right _ hy)) st lf hr F h g t w Q d hs hK
 | .block id c,hsc,hn,st,lf,hr,F,h,g,t,w,Q,d,hs,hK=>by
  unfold Cv at hr
  unfold Br at hn
  cases hcut:cuts (.block id) with
  | some f =>
   rw [hcut] at hr hn
   exact hn (.block id c) (by simp) f hcut st lf hr F h g t w Q d hs hK
  | none =>
   rw [hcut] at hr hn
   simp only at hr hn
   obtain⟨lf1,h1,h2⟩:=Tr.run_bind hr
   refine .block (Bg hP hmix hc hy c hsc hn st lf1 h1 F h g t w _ d hs ?_)
   intro F' d' h' g' t' w' q0 q1 q2 q3 q4
   cases he:lf1.e with
   | exit j =>
    rw [he] at h2
    simp only at h2
    cases hb:Nat.beq j id with
    | true =>
     rw [hb] at h2
     cases h2
     have:=Zab hb
     show Exit.inBlock id Q (.exit j) ⟨t',d'⟩ w'
     simp only [Exit.inBlock,this,if_true]
     exact hK F' d' h' g' t' w' q0 q1 q2 q3 q4
    | false =>
     rw [hb] at h2
     cases h2
     have hne : ¬ j=id:=fun hh=>by subst hh; simp at hb
     have:=hK F' d' h' g' t' w' q0 q1 q2 q3 q4
     rw [he] at this
     show Exit.inBlock id Q (.exit j) ⟨t',d'⟩ w'
     simp only [Exit.inBlock,hne,if_false]
     exact this
   | normal=>rw [he] at h2; cases h2; have:=hK F' d' h' g' t' w' q0 q1 q2 q3 q4; rw [he] at this; exact this
   | ret=>rw [he] at h2; cases h2; have:=hK F' d' h' g' t' w' q0 q1 q2 q3 q4; rw [he] at this; exact this
   | pan v=>rw [he] at h2; cases h2; have:=hK F' d' h' g' t' w' q0 q1 q2 q3 q4; rw [he] at this; exact this
 | .loop c,hsc,hn,st,lf,hr,F,h,g,t,w,Q,d,hs,hK=>by
  unfold Cv at hr
  unfold Br at hn
  cases hcut:cuts (.loop (Lh c)) with
  | some f =>
   rw [hcut] at hr hn
   exact hn (.loop c) (by simp) f hcut st lf hr F h g t w Q d hs hK
  | none=>rw [hcut] at hr; cases hr
 | .scope c,hsc,hn,st,lf,hr,F,h,g,t,w,Q,d,hs,hK=>by
  have hyt:y=true:=by
   rw [← Bool.not_eq_false]
   intro hh
   have:=hsc hh
   cases this
  refine .scope hyt (Bg hP hmix hc hy c (fun hh=>by rw [hyt] at hh; cases hh) hn st lf hr F h g t w _ d hs ?_)
  intro F' d' h' g' t' w' q0 q1 q2 q3 q4
  have:=hK F' d' h' g' t' w' q0 q1 q2 q3 q4
  cases he:lf.e <;> rw [he] at this <;> exact this
 | .rangeFunc f ps a b,hsc,hn,st,lf,hr,F,h,g,t,w,Q,d,hs,hK=>by
  unfold Cv at hr
  unfold Br at hn
  cases hcut:cuts (.rf (Lh b)) with
  | some q =>
   rw [hcut] at hr hn
   exact hn (.rangeFunc f ps a b) (by simp) q hcut st lf hr F h g t w Q d hs hK
  | none=>rw [hcut] at hr; cases hr
 | .goto _,_,_,st,lf,hr,_,_,_,_,_,_,_,_,_=>by cases hr
 | .refuse _,_,_,st,lf,hr,_,_,_,_,_,_,_,_,_=>by cases hr
theorem I5 {F:Fr} {h:Ad} {g:GE} {m:List (Nat×V Ty)} {s:Az Ty} {t:Array Value} {w:World} (hk:MM g h m t) (hm:Ag F h g (AL.get s) w):∀ {rs:List ResultVar} {vs:List (V Ty)},(Mj P m s rs).runK some=some vs→∃ us,(rs.mapM (Lc t)).run P w=.ok us w∧V.dens g h vs us
 | [],vs,hh=>by cases hh; exact⟨[],rfl,by unfold V.dens; rfl⟩
 | .tmp k::r,vs,hh=>by
  unfold Mj at hh
  split at hh
  · rename_i v hv
    obtain⟨ws,hws,hh⟩:=Tr.run_bind hh
    cases hh
    obtain⟨us,h1,h2⟩:=I5 hk hm hws
    obtain⟨u,q1,q2⟩:=hk k v hv
    refine⟨u::us,?_,by unfold V.dens; exact⟨u,us,rfl,q2,h2⟩⟩
    rw [List.mapM_cons]
    have e1:(Lc t (.tmp k)).run P w=.ok u w:=by
     unfold Lc
     simp [ZaA,q1]
    simp only [Sem.run_bind,e1,Result.andThen_ok,h1,Sem.run_pure]
  · cases hh
 | .cell a T::r,vs,hh=>by
  unfold Mj at hh
  split at hh
  · rename_i i off hv
    obtain⟨v,hlv,hh⟩:=Tr.run_bind hh
    obtain⟨ws,hws,hh⟩:=Tr.run_bind hh
    cases hh
    obtain⟨us,h1,h2⟩:=I5 hk hm hws
    obtain⟨u,q1,q2⟩:=hk a _ hv
    obtain⟨x,p1,p2⟩:=NT hm q2 hlv
    unfold V.den at q2
    subst q2
    refine⟨x::us,?_,by unfold V.dens; exact⟨x,us,rfl,p2,h2⟩⟩
    rw [List.mapM_cons]
    have e1:(Lc t (.cell a T)).run P w=.ok x w:=by
     unfold Lc
     simp only [ZaA,q1,Option.getD_some,asAddr,Sem.run_bind,Sem.run_pure,Result.andThen_ok]
     simpa [Instr.loadAt,Instr.sureAddr] using p1
    simp only [Sem.run_bind,e1,Result.andThen_ok,h1,Sem.run_pure]
  · cases hh
theorem R0 {F:Fr} {h:Ad} {g:GE} {m:List (Nat×V Ty)} {s:Az Ty} {t:Array Value} {w:World} {fn:Func} {vs:List (V Ty)} (hk:MM g h m t) (hm:Ag F h g (AL.get s) w) (hr:(Mj P m s fn.results.toList).runK some=some vs):∃ u,(results fn t).run P w=.ok u w∧(O4 vs).den g h u:=by
 obtain⟨us,h1,h2⟩:=I5 hk hm hr
 have hlen:=V.dens_len h2
 rw [P6,← ZaX (xs:=fn.results),List.mapM_toArray]
 simp only [Sem.run_bind,Sem.run_map,h1,Result.andThen_ok,Sem.run_pure]
 match vs,us,h2,hlen with
 | [v],[u],h2,_ =>
  refine⟨u,by simp,?_⟩
  unfold V.dens V.dens at h2
  obtain⟨u',us',e1,e2,_⟩:=h2
  cases e1
  exact e2
 | [],[],h2,_=>exact⟨_,rfl,by unfold O4 V.den; exact⟨[],rfl,h2⟩⟩
 | a::b::r,x::y::z,h2,_=>exact⟨_,by rw [dif_neg (by simp)],by unfold O4 V.den; exact⟨_,rfl,h2⟩⟩
 | [],_::_,_,hl=>simp at hl
 | [_],[],_,hl=>simp at hl
 | [_],_::_::_,_,hl=>simp at hl
 | _::_::_,[],_,hl=>simp at hl
 | _::_::_,[_],_,hl=>simp at hl
theorem Mw {F:Fr} {h:Ad} {g:GE} {k n:Nat} {p:Bool} {v:V Ty} {s:Az Ty} {w:World} {u:Value} {r:CR Ty} (hm:Ag F h g (AL.get s) w) (hin:HG n (AL.get s)) (hv:v.den g h u) (hr:(J5 k p v s).runK some=some r) :
  ∃ g',(∀ i,Cl k i=true→g' i=g i)∧Ag F h g' (AL.get r.s) w∧HG r.n (AL.get r.s)∧k≤r.n∧r.v.okB (Cl r.n)=true∧r.v.den g' h u∧r.p=p:=by
 unfold J5 at hr
 generalize hρ:Mg s 400 (J5.idsAt s 0 k++V.ids v) (GN 0 k)=ρ at hr
 simp only at hr
 cases hb:(Gh ρ && V.okB (A8 ρ) v && KC s ρ ρ && PI k ρ) with
 | false=>rw [hb] at hr; cases hr
 | true =>
  rw [hb] at hr
  cases hr
  obtain⟨hb,b4⟩:=Ao hb
  obtain⟨hb,b3⟩:=Ao hb
  obtain⟨b1,b2⟩:=Ao hb
  have hnd:=Fh b1
  obtain⟨hkl,hpre⟩:=I1 b4
  have hg:∀ i,A8 ρ i=true→(fun j=>g (AR ρ j)) (CQ ρ i)=g i:=fun i hi=>by simp only; rw [J9 (Be.1 hi)]
  have hp:∀ i,A8 ρ i=true→Cl ρ.length (CQ ρ i)=true:=fun i hi=>Am.2 (Kq (Be.1 hi))
  refine⟨fun j=>g (AR ρ j),fun i hi=>by simp only; rw [hpre i (Am.1 hi)],?_,?_,?_,?_,?_,rfl⟩
  · exact hm.sub hnd b3
  · simp only [A5]; exact Yh hnd b3
  · simp only [A5]; exact hkl
  · simp only [A5]; exact V.okB_ren hp v b2
  · exact V.den_ren (g':=fun j=>g (AR ρ j)) hg v u b2 hv
end
section
variable {Ty:Nat→Type} [rT:∀ k,Rep (Ty k)] [RFs] [UM Ty] [UML Ty] {P:Program}
abbrev FQ (Ty:Nat→Type):=List (V Ty)→Nat→Az Ty→Tr (CR Ty)
def HW (F:Fr) (h:Ad) (g:GE) (k:Nat) (r:CR Ty) (en:Ending) (w':World):Prop :=
 ∃ (h':Ad)(g':GE)(u:Value),Ad.le h h'∧(∀ i,Cl k i=true→g' i=g i)∧Ag F h' g' (AL.get r.s) w'∧HG r.n (AL.get r.s)∧k≤r.n∧r.v.okB (Cl r.n)=true∧r.v.den g' h' u∧en=NW r.p u
def AX (P:Program) (f:FuncId) (l:FQ Ty):Prop:=∀ (args:List (V Ty))(k:Nat)(s:Az Ty)(r:CR Ty),(l args k s).runK some=some r →
 ∀ (F:Fr)(h:Ad)(g:GE)(w:World)(vals:List Value),Ag F h g (AL.get s) w→HG k (AL.get s)→V.oksB (Cl k) args=true→V.dens g h args vals→Es P f vals.toArray w (HW F h g k r)
theorem Zz {call:AT Ty} (H:∀ f,AX P f (call f)):Cm P call:=fun f args k s r hr F h g w vals q1 q2 q3 q4=>H f args k s r hr F h g w vals q1 q2 q3 q4
theorem Qh:∀ {args:List (V Ty)} {i k:Nat} {v:V Ty},AL.get (AcP i args) k=some v→∃ j,k=i+j∧args[j]? = some v
 | [],i,k,v,h=>by cases h
 | a::r,i,k,v,h=>by
  have h2:(bif Nat.beq i k then some a else AL.get (AcP (i+1) r) k)=some v:=h
  cases hb:Nat.beq i k with
  | true =>
   rw [hb] at h2
   cases h2
   exact⟨0,(Zab hb).symm,rfl⟩
  | false =>
   rw [hb] at h2
   obtain⟨j,q1,q2⟩:=Qh h2
   exact⟨j+1,by omega,by simpa using q2⟩
theorem Ag.setX {F:Fr} {h:Ad} {g:GE} {M:Mo Ty} {w w':World} {b:Nat} {o o':Obj} (hm:Ag F h g M w) (hx:F.X b=some o) (hg:w.grownBy w' (some b)) (ho:w'.heap[b]? = some o'):Ag (F.put b (some o')) h g M w':=by
 obtain⟨x1,x2,x3⟩:=hm.ext b o hx
 have hlt:=(Zag.1 x2).1
 have hb:∀ k,k<w.heap.size→k≠b→w'.heap[k]? = w.heap[k]?:=fun k hk hne=>hg.block k hk (by simpa using hne)
 have hne:∀ i c,M i=some c→(g i).nl=false→(g i).b≠b:=fun i c hi hn heq=>by
  have:=(hm.own i c hi hn).2.2.1
  rw [heq,hx] at this
  cases this
 refine⟨hm.below.trans ⟨hg.os,hg.tape,hg.output,hg.size,fun k hk=>hb k (Zai hk hm.size) (fun hh=>by subst hh; exact absurd x1 (Nat.not_le_of_lt hk))⟩,hm.le,hm.old,?_,?_,?_,hm.inj,?_,hm.glo⟩
 · intro c ofs v hv
   obtain⟨h1,h2⟩:=hm.has c ofs v hv
   have:c≠b:=fun hh=>by rw [hh,x3 ofs] at hv; cases hv
   exact⟨Zai h1 hg.size,by rw [Cd (hb c h1 this)]; exact h2⟩
 · exact fun i c hi=>(hm.cell i c hi).block fun hn=>hb _ (hm.own i c hi hn).2.1 (hne i c hi hn)
 · intro i c hi hn
   obtain⟨h1,h2,h3,h4⟩:=hm.own i c hi hn
   refine⟨h1,Zai h2 hg.size,?_,h4⟩
   show(if (g i).b=b then some o' else F.X (g i).b)=none
   rw [if_neg (hne i c hi hn)]; exact h3
 · intro c x hc
   replace hc:(if c=b then some o' else F.X c)=some x:=hc
   split at hc
   · rename_i hcb
     cases hc
     subst hcb
     exact⟨x1,ho,x3⟩
   · rename_i hcb
     obtain⟨q1,q2,q3⟩:=hm.ext c x hc
     exact⟨q1,by rw [hb c (Zag.1 q2).1 hcb]; exact q2,q3⟩
theorem Dh {F:Fr} {h:Ad} {g:GE} {M:Mo Ty} {fn:Func} {t:Array Value} {R:Ending→World→Prop} {u:FrameMode} (hu:u≠.run) (hend:∀ F2 w2,FD F F2 [] []→Ag F2 h g M w2→LeavesIn Fence.wide 0 P fn t R [] u w2) :
  ∀ (bs:List Nat)(F':Fr)(w':World),FD F F' [] []→Ag F' h g M w'→bs.Nodup→(∀ b∈bs,F.X b=none∧F'.X b=some (.deferred (some [])))→LeavesInM Fence.wide 0 P fn t R (bs.map Ve) u w'
 | [],F',w',hf,hm,_,_=>hend F' w' hf hm
 | b::bs,F',w',hf,hm,hn,hx=>by
  obtain⟨h0,hb⟩:=hx b (by simp)
  obtain⟨n1,n2⟩:=Zbi.1 hn
  have hlt:=(Zag.1 (hm.ext b _ hb).2.1).1
  refine⟨hu,.inl ⟨b,_,rfl,run_takeDeferred (hm.ext b _ hb).2.1,?_⟩⟩
  refine Dh hu hend bs (F'.put b (some (.deferred none))) _ ⟨hf.w,hf.h,fun c x hc=>?_,[],rfl,Zbt,by simp⟩ (hm.setX hb (Gt w' b _) (World.putObj_heap_same hlt)) n2 fun c hc=>?_
  · show(if c=b then _ else F'.X c)=some x
    rw [if_neg (fun hcb=>by rw [hcb,h0] at hc; cases hc)]
    exact hf.X c x hc
  · have hcb:c≠b:=fun hcb=>n1 (hcb▸hc)
    obtain⟨q1,q2⟩:=hx c (by simp [hc])
    refine⟨q1,?_⟩
    show(if c=b then _ else F'.X c)=_
    rw [if_neg hcb]; exact q2
variable [UV Ty] [UL Ty] [UMP Ty P]
theorem Tw {call:AT Ty} {cuts:FuncId→Ld Ty} {f:FuncId} (hP:E5 P) (hmix:P.follows .mixedOrders=true) (hc:Cm P call)
  (hcuts:∀ fn c,P.funcs[f]? = some fn→fn.body=some c→∀ x∈Br (cuts f) c,∀ q,cuts f (GO x)=some q→Bm true P fn.ntmps q x):AX P f (Xb P call cuts f):=by
 intro args k s r hr F h g w vals hm hin hargs hden
 unfold Xb at hr
 split at hr
 · rename_i fn hf
   split at hr
   · rename_i c hb
     cases hn:(Nat.blt f An && Nat.ble args.length fn.ntmps) with
     | false=>rw [hn] at hr; cases hr
     | true =>
      rw [hn,Zac] at hr
      obtain⟨hlt,hn⟩:=Ao hn
      have hn:=Zaf hn
      obtain⟨lf,h1,h2⟩:=Tr.run_bind hr
      have hlen:=V.dens_len hden
      refine .of hlt (callsIn_wide.1 (callsIn_of_wp_marks (n:=0) hf hb trivial (wpIn_wide.2 ?_)))
      refine(Bg (y:=true) hP hmix hc (fun hh=>by cases hh) c (fun hh=>by cases hh) (hcuts fn c hf hb) _ lf h1 F h g _ w _ [] ⟨?_,?_,hm,?_,hin⟩ ?_).wp
      · simp only [Array.size_append,Zbg,Array.size_replicate,hlen]; omega
      · intro i v hv
        obtain⟨j,e1,e2⟩:=Qh hv
        rw [Zar] at e1
        subst e1
        obtain⟨u,q1,q2⟩:=V.dens_get hden e2
        refine⟨u,?_,q2⟩
        have hlt:i<vals.length:=(Zaq.1 q1).1
        rw [Zbn (by simpa using hlt)]
        simpa using q1
      · intro i v hv
        obtain⟨j,e1,e2⟩:=Qh hv
        exact V.oksB_get hargs e2
      · intro F' d' h' g' t' w' q0 q1 q2 q3 q4
        obtain⟨bs,hbs,nd,hX⟩:=q0.ds
        rw [Zbd] at hbs
        have f0:FD F F' [] []:=⟨q0.w,q0.h,q0.X,[],rfl,Zbt,by simp⟩
        have fin:∀ {F2:Fr} {w2:World} {p:Bool} {v:V Ty} {u:Value},FD F F2 [] []→Ag F2 h' g' (AL.get lf.st.s) w2→v.den g' h' u→(J5 k p v lf.st.s).runK some=some r→HW F h g k r (NW p u) w2:=fun {F2 w2 p v u} hf2 hm2 hv hf=>by
         obtain⟨g2,e1,e2,e3,e4,e5,e6,e7⟩:=Mw (hm2.back hf2) q4.is_ hv hf
         exact⟨h',g2,u,q1,fun i hi=>by rw [e1 i hi,q2 i (Am.1 hi)],e2,e3,e4,e5,e6,by rw [e7]⟩
        have ret:∀ {vs:List (V Ty)},(Mj P lf.st.m lf.st.s fn.results.toList).runK some=some vs→(J5 k false (O4 vs) lf.st.s).runK some=some r→LeavesInM Fence.wide 0 P fn t' (HW F h g k r) (bs.map Ve) .returning w':=fun {vs} hvs hf=>by
         refine Dh (F:=F) (h:=h') (g:=g') (M:=AL.get lf.st.s) (by simp) (fun F2 w2 hf2 hm2=>?_) bs F' w' f0 q4.mem nd hX
         obtain⟨u,e1,e2⟩:=R0 q4.kn hm2 hvs
         exact⟨u,e1,fin hf2 hm2 e2 hf⟩
        cases he:lf.e with
        | normal =>
         rw [he] at h2
         simp only at h2
         obtain⟨vs,hvs,h2⟩:=Tr.run_bind h2
         show LeavesInM Fence.wide 0 P fn t' (HW F h g k r) d' .returning w'
         rw [hbs]
         exact ret hvs h2
        | ret =>
         rw [he] at h2
         simp only at h2
         obtain⟨vs,hvs,h2⟩:=Tr.run_bind h2
         show LeavesInM Fence.wide 0 P fn t' (HW F h g k r) d' .returning w'
         rw [hbs]
         exact ret hvs h2
        | pan v =>
         rw [he] at h2
         intro u hu _
         show LeavesInM Fence.wide 0 P fn t' (HW F h g k r) d' _ w'
         rw [hbs]
         refine Dh (F:=F) (h:=h') (g:=g') (M:=AL.get lf.st.s) (by simp) (fun F2 w2 hf2 hm2=>?_) bs F' w' f0 q4.mem nd hX
         unfold LeavesIn
         exact fin hf2 hm2 hu h2
        | exit id=>rw [he] at h2; cases h2
   · cases hr
 · cases hr
theorem Oa {laws:FuncId→Option (FQ Ty)} {cuts:FuncId→Ld Ty} (hP:E5 P) (hmix:P.follows .mixedOrders=true) (hl:∀ f l,laws f=some l→AX P f l)
  (hcuts:∀ f,laws f=none→∀ fn c,P.funcs[f]? = some fn→fn.body=some c→∀ x∈Br (cuts f) c,∀ q,cuts f (GO x)=some q→Bm true P fn.ntmps q x):∀ n,Cm P (Yf P laws cuts n)
 | 0=>fun f args k s r hr=>by cases hr
 | n+1=>Zz fun f=>by
  intro args k s r hr
  unfold Yf at hr
  split at hr
  · rename_i l hlf
    exact hl f l hlf args k s r hr
  · rename_i hlf
    exact Tw hP hmix (Oa hP hmix hl hcuts n) (hcuts f hlf) args k s r hr
def AcY:List (Nat×FQ Ty)→FuncId→Option (FQ Ty)
 | [],_=>none
 | (j,l)::r,f=>bif Nat.beq j f then some l else AcY r f
def JF (P:Program):List (Nat×FQ Ty)→Prop
 | []=>True
 | (f,l)::r=>AX P f l∧JF P r
theorem Qi:∀ {T:List (Nat×FQ Ty)},JF P T→∀ f l,AcY T f=some l→AX P f l
 | [],_,f,l,h=>by cases h
 | (j,x)::r,H,f,l,h=>by
  have h2:(bif Nat.beq j f then some x else AcY r f)=some l:=h
  cases hb:Nat.beq j f with
  | true =>
   rw [hb] at h2
   cases h2
   have:=Zab hb
   subst this
   exact H.1
  | false=>rw [hb] at h2; exact Qi H.2 f l h2
end
inductive C where
 | s (k:Nat)
 | g (k:Nat)
 | l (k:Nat)
 | o (k:Nat)
 | v (k:Nat)
 | p (tb:Nat) (cs:List C)
 | a (k:Nat)
 | u (k:Nat)
 | q (j:Nat)
 | f (n:FuncId) (as bs:List C)
 | z
 | t (cs:List C)
 | n
 | i (t:TypeId) (c:C)
 | m (k v:Nat)
 | y (q tag:Nat) (ks:List Nat) (cs:List C)
 | r (k j:Nat)
section
variable (Ty:Nat→Type)
mutual
def C.D:C→Type
 | .s k | .g k | .u k=>Ty k
 | .l k | .o k | .v k | .a k=>List (Ty k)
 | .p _ cs | .t cs=>C.Ds cs
 | .f _ as bs=>C.Ds as×C.Ds bs
 | .i _ c=>C.D c
 | .q _ | .z | .n | .r _ _=>Unit
 | .m k e=>List (Ty k×Ty e)
 | .y _ _ _ cs=>C.Ds cs
def C.Ds:List C→Type
 | []=>Unit
 | c::cs=>C.D c×C.Ds cs
end
end
def Au:Nat:=1000
section
variable {Ty:Nat→Type}
structure DF where
 p:List Nat
 r:List Nat
def isNil:V Ty→Bool
 | .nilp | .nilm | .nilf | .nili=>true
 | _=>false
structure Mk (Ty:Nat→Type) where
 np:Nat
 nr:Nat
 s:Az Ty
def Ad6 (v:V Ty) (s:Az Ty) (n:Nat):V Ty×Az Ty×Nat:=match Si v s with
 | (v',s')=>(v',s',n)
def Abd (v:V Ty) (s:Az Ty) (n:Nat):V Ty×Az Ty×Nat:=match v with
 | .agg cs=>match K2 cs s with
  | (cs',s')=>(.agg cs',s',n)
 | v=>(v,s,n)
def Abe (k:Nat) (v:V Ty) (s:Az Ty) (n:Nat):V Ty×Az Ty×Nat:=match v with
 | .nils=>(.hdr k n,AL.put s n (.row k []),n+1)
 | v=>(v,s,n)
def Yj (f:List (V Ty)→Az Ty→Nat→List (V Ty)×Az Ty×Nat) (v:V Ty) (s:Az Ty) (n:Nat):V Ty×Az Ty×Nat:=match v with
 | .ptr i off=>match AL.get s i with
  | some (.blk tb vs)=>match f vs s n with
   | (vs',s',n')=>(.ptr i off,AL.put s' i (.blk tb vs'),n')
  | _=>(.ptr i off,s,n)
 | v=>(v,s,n)
def Ad7 (vs:List (V Ty)) (s:Az Ty) (n:Nat):List (V Ty)×Az Ty×Nat:=match K2 vs s with
 | (vs',s')=>(vs',s',n)
def Abf (f:List (V Ty)→Az Ty→Nat→List (V Ty)×Az Ty×Nat) (v:V Ty) (s:Az Ty) (n:Nat):V Ty×Az Ty×Nat:=match v with
 | .fn q [] [.mp i]=>match AL.get s i with
  | some (.lp st e tag ks vs)=>match f vs s n with
   | (vs',s',n')=>(.fn q [] [.mp i],AL.put s' i (.lp st e tag ks vs'),n')
  | _=>(v,s,n)
 | v=>(v,s,n)
def V9:List Nat→List Nat→Bool
 | [],[]=>true
 | a::r,b::q=>Nat.beq a b && V9 r q
 | _,_=>false
theorem VA:∀ {a b:List Nat},V9 a b=true→a=b
 | [],[],_=>rfl
 | a::r,b::q,h=>by
  unfold V9 at h
  simp only [Zax] at h
  rw [Zab h.1,VA h.2]
 | [],_::_,h=>by cases h
 | _::_,[],h=>by cases h
def Abg (f:List (V Ty)→Az Ty→Nat→List (V Ty)×Az Ty×Nat) (v:V Ty) (s:Az Ty) (n:Nat):V Ty×Az Ty×Nat:=match v with
 | .tup vs=>match f vs s n with
  | (vs',s',n')=>(.tup vs',s',n')
 | v=>(v,s,n)
mutual
def JG (c:C) (v:V Ty) (s:Az Ty) (n:Nat):V Ty×Az Ty×Nat:=match c with
 | .l k=>Ad6 v s n
 | .g k=>Abd v s n
 | .o k=>Abe k v s n
 | .p _ cs=>Yj (fun vs s n=>Zct cs vs s n) v s n
 | .u _=>Yj Ad7 v s n
 | .t cs=>Abg (fun vs s n=>Zct cs vs s n) v s n
 | .y _ _ _ cs=>Abf (fun vs s n=>Zct cs vs s n) v s n
 | _=>(v,s,n)
def Zct (cs:List C) (vs:List (V Ty)) (s:Az Ty) (n:Nat):List (V Ty)×Az Ty×Nat:=match cs with
 | []=>(vs,s,n)
 | c::cs=>match vs with
  | []=>([],s,n)
  | v::vs=>match JG c v s n with
   | (v',s1,n1)=>match Zct cs vs s1 n1 with
    | (vs',s2,n2)=>(v'::vs',s2,n2)
end
variable [UV Ty]
def VB:List (V Ty)→V Ty
 | [v]=>v
 | _=>.undef
def Abh (k:Nat) (v:V Ty) (ρ:DF):Option (Ty k×DF):=match v with
 | .agg cs=>(UV.pack k cs).map fun x=>(x,ρ)
 | _=>none
def Xi (k:Nat) (v:V Ty) (ρ:DF):Option (List (Ty k)×DF):=match v with
 | .lst k' l=>if h:k' = k then some (h▸l,ρ) else none
 | .nils=>some ([],ρ)
 | _=>none
def Xj (k:Nat) (v:V Ty) (ρ:DF):Option (List (Ty k)×DF):=match v with
 | .arr k' l=>if h:k' = k then some (h▸l,ρ) else none
 | _=>none
def Abi (s:Az Ty) (k:Nat) (v:V Ty) (ρ:DF):Option (List (Ty k)×DF):=match v with
 | .hdr k' i=>if k' = k then match AL.get s i with
   | some (.row k2 l)=>if h:k2=k then some (h▸l,⟨ρ.p,ρ.r++[i]⟩) else none
   | _=>none
  else none
 | _=>none
def Abj (s:Az Ty) (k:Nat) (v:V Ty) (ρ:DF):Option (List (Ty k)×DF):=match v with
 | .ptr i off=>bif Nat.beq off 0 then match AL.get s i with
   | some (.arr k2 l)=>if h:k2=k then some (h▸l,⟨ρ.p++[i],ρ.r⟩) else none
   | _=>none
  else none
 | _=>none
def Abk (s:Az Ty) (k v:Nat) (x:V Ty) (ρ:DF):Option (List (Ty k×Ty v)×DF):=match x with
 | .mp i=>match AL.get s i with
  | some (.mp k2 v2 l)=>if h:k2=k then if h2:v2=v then some (h▸h2▸l,⟨ρ.p++[i],ρ.r⟩) else none else none
  | _=>none
 | _=>none
def Abl (s:Az Ty) (k:Nat) (v:V Ty) (ρ:DF):Option (Ty k×DF):=match v with
 | .ptr i off=>bif Nat.beq off 0 then match AL.get s i with
   | some (.blk _ vs)=>(UV.pack k vs).map fun x=>(x,⟨ρ.p++[i],ρ.r⟩)
   | _=>none
  else none
 | _=>none
def Abm (j:Nat) (v:V Ty) (ρ:DF):Option (Unit×DF):=match v with
 | .ptr i off=>bif Nat.beq off 0 && Nat.blt j ρ.p.length && Nat.beq (AR ρ.p j) i then some ((),ρ) else none
 | _=>none
def Abn (k j:Nat) (v:V Ty) (ρ:DF):Option (Unit×DF):=match v with
 | .hdr k' i=>bif Nat.beq k' k && Nat.blt j ρ.r.length && Nat.beq (AR ρ.r j) i then some ((),ρ) else none
 | _=>none
def Abo (v:V Ty) (ρ:DF):Option (Unit×DF):=match v with
 | .nilp=>some ((),ρ)
 | _=>none
def Abp (v:V Ty) (ρ:DF):Option (Unit×DF):=match v with
 | .nili=>some ((),ρ)
 | _=>none
section
variable {α β:Type}
def Abq (s:Az Ty) (tb:Nat) (f:List (V Ty)→DF→Option (α×DF)) (v:V Ty) (ρ:DF):Option (α×DF):=match v with
 | .ptr i off=>bif Nat.beq off 0 then match AL.get s i with
   | some (.blk t vs)=>bif Nat.beq tb 0 || Nat.beq t tb then f vs ⟨ρ.p++[i],ρ.r⟩ else none
   | _=>none
  else none
 | _=>none
def Ad8:Nat→LoopState×Option Code
 | 0=>(.ready,none)
 | 1=>(.done,some .ret)
 | q+2=>(.done,some (.exit q))
def AeM:Nat→LoopState→Option Code→Bool
 | 0,.ready,none=>true
 | 1,.done,some .ret=>true
 | q+2,.done,some (.exit i)=>Nat.beq i q
 | _,_,_=>false
theorem Aeg:∀ {q:Nat} {st:LoopState} {pend:Option Code},AeM q st pend=true→(Ad8 q).1=st∧(Ad8 q).2=pend:=by
 intro q st pend h
 unfold AeM at h
 split at h
 · exact⟨rfl,rfl⟩
 · exact⟨rfl,rfl⟩
 · rw [Zab h]; exact⟨rfl,rfl⟩
 · cases h
def Abr (s:Az Ty) (q0 tag:Nat) (ks:List Nat) (f:List (V Ty)→DF→Option (α×DF)) (v:V Ty) (ρ:DF):Option (α×DF):=match v with
 | .fn q [] [.mp i]=>bif Nat.beq q An then match AL.get s i with
   | some (.lp st pend t2 ks2 vs)=>bif AeM q0 st pend && (Nat.beq t2 tag && V9 ks2 ks) then f vs ⟨ρ.p++[i],ρ.r⟩ else none
   | _=>none
  else none
 | _=>none
def Abs (n:Nat) (f:List (V Ty)→DF→Option (α×DF)) (g:List (V Ty)→DF→Option (β×DF)) (v:V Ty) (ρ:DF):Option ((α×β)×DF):=match v with
 | .fn n' xs ys=>bif Nat.beq n' n then match f xs ρ with
   | some (x,ρ1)=>match g ys ρ1 with
    | some (y,ρ2)=>some ((x,y),ρ2)
    | none=>none
   | none=>none
  else none
 | _=>none
def Abt (f:List (V Ty)→DF→Option (α×DF)) (v:V Ty) (ρ:DF):Option (α×DF):=match v with
 | .tup vs=>f vs ρ
 | _=>none
def Abu (t:TypeId) (f:V Ty→DF→Option (α×DF)) (v:V Ty) (ρ:DF):Option (α×DF):=match v with
 | .ifc t' v=>bif Nat.beq t' t then f v ρ else none
 | _=>none
end
mutual
def Qj (s:Az Ty) (c:C) (v:V Ty) (ρ:DF):Option (C.D Ty c×DF):=match c with
 | .s k=>(UV.pack k [v]).map fun x=>(x,ρ)
 | .g k=>Abh k v ρ
 | .l k=>Xi k v ρ
 | .o k=>Abi s k v ρ
 | .v k=>Xj k v ρ
 | .p tb cs=>Abq s tb (fun vs ρ=>ZbC s cs vs ρ) v ρ
 | .a k=>Abj s k v ρ
 | .u k=>Abl s k v ρ
 | .q j=>Abm j v ρ
 | .f n as bs=>Abs n (fun vs ρ=>ZbC s as vs ρ) (fun vs ρ=>ZbC s bs vs ρ) v ρ
 | .z=>Abo v ρ
 | .n=>Abp v ρ
 | .t cs=>Abt (fun vs ρ=>ZbC s cs vs ρ) v ρ
 | .i t c=>Abu t (fun v ρ=>Qj s c v ρ) v ρ
 | .m k q=>Abk s k q v ρ
 | .r k j=>Abn k j v ρ
 | .y q tag ks cs=>Abr s q tag ks (fun vs ρ=>ZbC s cs vs ρ) v ρ
def ZbC (s:Az Ty) (cs:List C) (vs:List (V Ty)) (ρ:DF):Option (C.Ds Ty cs×DF):=match cs with
 | []=>match vs with
  | []=>some ((),ρ)
  | _=>none
 | c::cs=>match vs with
  | []=>none
  | v::vs=>match Qj s c v ρ with
   | some (x,ρ1)=>match ZbC s cs vs ρ1 with
    | some (y,ρ2)=>some ((x,y),ρ2)
    | none=>none
   | none=>none
end
mutual
def GR:(c:C)→C.D Ty c→Mk Ty→V Ty×Mk Ty
 | .s k,x,m=>(VB (UV.view k x),m)
 | .g k,x,m=>(.agg (UV.view k x),m)
 | .l k,l,m=>(.lst k l,m)
 | .o k,l,m=>(.hdr k (Au+m.nr),⟨m.np,m.nr+1,(Au+m.nr,.row k l)::m.s⟩)
 | .v k,l,m=>(.arr k l,m)
 | .p tb cs,x,m=>match Zby cs x ⟨m.np+1,m.nr,m.s⟩ with
  | (vs,m')=>(.ptr m.np 0,⟨m'.np,m'.nr,(m.np,.blk tb vs)::m'.s⟩)
 | .a k,l,m=>(.ptr m.np 0,⟨m.np+1,m.nr,(m.np,.arr k l)::m.s⟩)
 | .u k,x,m=>(.ptr m.np 0,⟨m.np+1,m.nr,(m.np,.blk 0 (UV.view k x))::m.s⟩)
 | .q j,_,m=>(.ptr j 0,m)
 | .r k j,_,m=>(.hdr k (Au+j),m)
 | .f n as bs,x,m=>match Zby as x.1 m with
  | (xs,m1)=>match Zby bs x.2 m1 with
   | (ys,m2)=>(.fn n xs ys,m2)
 | .z,_,m=>(.nilp,m)
 | .n,_,m=>(.nili,m)
 | .t cs,x,m=>match Zby cs x m with
  | (vs,m')=>(.tup vs,m')
 | .i t c,x,m=>match GR c x m with
  | (v,m')=>(.ifc t v,m')
 | .m k e,l,m=>(.mp m.np,⟨m.np+1,m.nr,(m.np,.mp k e l)::m.s⟩)
 | .y q tag ks cs,x,m=>match Zby cs x ⟨m.np+1,m.nr,m.s⟩ with
  | (vs,m')=>(.fn An [] [.mp m.np],⟨m'.np,m'.nr,(m.np,.lp (Ad8 q).1 (Ad8 q).2 tag ks vs)::m'.s⟩)
def Zby:(cs:List C)→C.Ds Ty cs→Mk Ty→List (V Ty)×Mk Ty
 | [],_,m=>([],m)
 | c::cs,x,m=>match GR c x.1 m with
  | (v,m1)=>match Zby cs x.2 m1 with
   | (vs,m2)=>(v::vs,m2)
end
end
end Go.Proofs.YtkpgggfibljflaaGreatDoor
namespace Go.Proofs.YtkpgggfibljflaaGreatDoor
open Go Go.RowKit
open Rep (rep)
inductive EK where
 | normal
 | exit (id:Nat)
 | ret
 | pan
structure Wo where
 k:EK
 ps:List C
 sl:List (Nat×C)
 rv:List C
def A9:List (Nat×C)→List C
 | []=>[]
 | (_,c)::r=>c::A9 r
def Aeh:List C→List C→List C
 | [],r=>r
 | c::cs,r=>c::Aeh cs r
def Wo.all (e:Wo):List C:=Aeh e.ps (Aeh (A9 e.sl) e.rv)
section
variable (Ty:Nat→Type)
def YT:List Wo→Type
 | []=>Empty
 | e::es=>match es with
  | []=>C.Ds Ty e.all
  | _=>Sum (C.Ds Ty e.all) (YT es)
end
section
variable {Ty:Nat→Type} [UV Ty]
def EK.is:EK→AcJ Ty→Bool
 | .normal,.normal=>true
 | .exit i,.exit j=>Nat.beq i j
 | .ret,.ret=>true
 | .pan,.pan _=>true
 | _,_=>false
def Ny (m:List (Nat×V Ty)):List (Nat×C)→Option (List (V Ty))
 | []=>some []
 | (k,_)::r=>match AL.get m k with
  | some v=>match Ny m r with
   | some vs=>some (v::vs)
   | none=>none
  | none=>none
def Abv (c:C) (j:Nat):V Ty:=match c with
 | .m _ _=>.mp j
 | .y _ _ _ _=>.fn An [] [.mp j]
 | _=>.ptr j 0
def Tx:Nat→List C→List (V Ty)
 | _,[]=>[]
 | j,c::cs=>Abv c j::Tx (j+1) cs
def Abw:List (V Ty)→List (V Ty)→List (V Ty)
 | [],r=>r
 | c::cs,r=>c::Abw cs r
def Sv (n:Nat):List Nat→Bool
 | []=>true
 | i::r=>Nat.blt i n && Sv n r
def Ht (cs:List C) (vs:List (V Ty)) (s:Az Ty) (n:Nat):Option (C.Ds Ty cs×DF×List (V Ty)×Az Ty×Nat):=match Zct cs vs s n with
 | (vs',s',n')=>match ZbC s' cs vs' ⟨[],[]⟩ with
  | some (x,ρ)=>bif Gh (ρ.p++ρ.r) && Nat.ble (AZ ρ.p) Au && Nat.ble (AZ ρ.r) Au && Sv n' (ρ.p++ρ.r) then some (x,ρ,vs',s',n') else none
  | none=>none
def GS (kp:Nat) (e:Wo) (rv:List (V Ty)) (st:St Ty):Option (C.Ds Ty e.all):=bif Nat.beq (AZ e.ps) kp then match Ny st.m e.sl with
 | some vs=>match Ht e.all (Abw (Tx 0 e.ps) (Abw vs rv)) st.s st.nx with
  | some (x,ρ,_)=>bif PI kp ρ.p then some x else none
  | none=>none
 | none=>none
 else none
def Lq (kp:Nat) (D:List (Nat×C)) (st:St Ty):Option (C.Ds Ty (A9 D)):=match Ny st.m D with
 | some vs=>match Ht (A9 D) vs st.s st.nx with
  | some (x,ρ,_)=>bif PI kp ρ.p then some x else none
  | none=>none
 | none=>none
def R1:AcJ Ty→List (V Ty)
 | .pan v=>[v]
 | _=>[]
def Abx (s:Az Ty):Nat→List C→Bool
 | _,[]=>true
 | j,.y q _ _ _::r=>(match AL.get s j with
  | some (.lp st pend _ _ _)=>AeM q st pend
  | _=>true) && Abx s (j+1) r
 | j,.p _ (.z::_)::r=>(match AL.get s j with
  | some (.blk _ (.nilp::_))=>true
  | some (.blk _ _)=>false
  | _=>true) && Abx s (j+1) r
 | j,.p _ (.q _::_)::r=>(match AL.get s j with
  | some (.blk _ (.nilp::_))=>false
  | _=>true) && Abx s (j+1) r
 | j,_::r=>Abx s (j+1) r
def Wo.fits (e:Wo) (lf:Lf Ty):Bool:=e.k.is lf.e && Abx lf.st.s 0 e.ps
def FJ (kp:Nat):(es:List Wo)→Lf Ty→Option (YT Ty es)
 | [],_=>none
 | e::es,lf=>match es with
  | []=>bif e.fits lf then GS kp e (R1 lf.e) lf.st else none
  | e2::es2=>bif e.fits lf then(GS kp e (R1 lf.e) lf.st).map Sum.inl else(FJ kp (e2::es2) lf).map Sum.inr
def FK:List (Nat×C)→List (V Ty)→List (Nat×V Ty)
 | (k,_)::r,v::vs=>(k,v)::FK r vs
 | _,_=>[]
def Bp (D:List (Nat×C)) (x:C.Ds Ty (A9 D)):St Ty:=match Zby (A9 D) x ⟨0,0,[]⟩ with
 | (vs,m)=>⟨FK D vs,m.s,2*Au⟩
def EE (kp:Nat) (D:List (Nat×C)) (E:List Wo) (f:C.Ds Ty (A9 D)→Option (YT Ty E)) (lf:Lf Ty):Option (YT Ty E):=match lf.e with
 | .normal=>(Lq kp D lf.st).bind f
 | _=>FJ kp E lf
def EK.ext:EK→List (V Ty)→AcJ Ty
 | .normal,_=>.normal
 | .exit i,_=>.exit i
 | .ret,_=>.ret
 | .pan,[v]=>.pan v
 | .pan,_=>.pan .undef
def Mx {α:Type}:Nat→List α→List α
 | 0,l=>l
 | _+1,[]=>[]
 | n+1,_::l=>Mx n l
def Nz (e:Wo) (x:C.Ds Ty e.all):Lf Ty:=match Zby e.all x ⟨0,0,[]⟩ with
 | (vs,m)=>match Mx (AZ e.ps) vs with
  | vs'=>⟨e.k.ext (Mx (AZ e.sl) vs'),⟨FK e.sl vs',m.s,2*Au⟩⟩
def Ed (pf:List Nat) (kp n np j:Nat):Nat:=bif Nat.blt j kp then AR pf j else bif Nat.blt j Au then n+(j-kp) else n+(np-kp)+(j-Au)
def JH (r:List Nat):Az Ty→Az Ty
 | []=>[]
 | (i,c)::t=>bif A8 r i then JH r t else(i,c)::JH r t
def Qk (f:Nat→Nat) (b:Az Ty):Az Ty→Az Ty
 | []=>b
 | (j,c)::t=>(f j,c.ren f)::Qk f b t
def mapM (f:Nat→Nat):List (Nat×V Ty)→List (Nat×V Ty)
 | []=>[]
 | (k,v)::t=>(k,v.ren f)::mapM f t
def EF (np nr i:Nat):Bool:=Nat.blt i np || (Nat.ble Au i && Nat.blt i (Au+nr))
def My (p:Nat→Bool):Az Ty→Bool
 | []=>true
 | (j,c)::t=>p j && c.okB p && My p t
def AeN {ρ:Type} (f:(e:Wo)→C.Ds Ty e.all→Tr ρ):(es:List Wo)→YT Ty es→Tr ρ
 | [],_=>.fail
 | e::es,y=>match es,y with
  | [],y=>f e y
  | e2::es2,y=>.sum y (fun a=>f e a) (fun b=>AeN f (e2::es2) b)
end
def HH (pf rf:List Nat) (i:Nat):Nat:=bif Nat.blt i Au then AR pf i else AR rf (i-Au)
theorem FL {pf rf:List Nat} {i:Nat} (h:i<Au):HH pf rf i=AR pf i:=by
 unfold HH; rw [show Nat.blt i Au=true from Za1 h]; rfl
theorem Tz {pf rf:List Nat} {i:Nat}:HH pf rf (Au+i)=AR rf i:=by
 unfold HH
 cases h:Nat.blt (Au+i) Au with
 | true=>have:=Zaf h; omega
 | false=>simp
theorem Mz {l m:List Nat} (h:l <+: m) {j:Nat} (hj:j<l.length):AR m j=AR l j:=by
 obtain⟨r,rfl⟩:=h
 have h1:=GQ hj
 have h2:=GQ (l:=l++r) (j:=j) (by simp; omega)
 rw [Zau hj,h1] at h2
 exact(Option.some.inj h2).symm
theorem G7 {l m:List Nat} {i:Nat} (h:l++[i] <+: m):AR m l.length=i:=by
 rw [Mz h (by simp)]
 have:=GQ (l:=l++[i]) (j:=l.length) (by simp)
 rw [ZaO (Zal _)] at this
 simpa using this.symm
section
variable {Ty:Nat→Type} [UV Ty]
section
variable {α β:Type} {s:Az Ty} {v:V Ty} {ρ ρ':DF} {k:Nat}
theorem Ql {x:Ty k} (h:Abh k v ρ=some (x,ρ')):∃ cs,v=.agg cs∧UV.pack k cs=some x∧ρ' = ρ:=by
 unfold Abh at h
 split at h
 · obtain⟨y,h1,h2⟩:=Zat.1 h
   cases h2
   exact⟨_,rfl,h1,rfl⟩
 · cases h
theorem Ob {x:List (Ty k)} (h:Xi k v ρ=some (x,ρ')):(v=.lst k x∨v=.nils∧x=[])∧ρ' = ρ:=by
 unfold Xi at h
 split at h
 · split at h
   · rename_i hk; subst hk; cases h; exact⟨.inl rfl,rfl⟩
   · cases h
 · cases h; exact⟨.inr ⟨rfl,rfl⟩,rfl⟩
 · cases h
theorem Od {x:List (Ty k)} (h:Xj k v ρ=some (x,ρ')):v=.arr k x∧ρ' = ρ:=by
 unfold Xj at h
 split at h
 · split at h
   · rename_i hk; subst hk; cases h; exact⟨rfl,rfl⟩
   · cases h
 · cases h
theorem Qm {x:List (Ty k)} (h:Abi s k v ρ=some (x,ρ')):∃ i,v=.hdr k i∧AL.get s i=some (.row k x)∧ρ' = ⟨ρ.p,ρ.r++[i]⟩:=by
 unfold Abi at h
 split at h
 · split at h
   · rename_i hk
     subst hk
     split at h
     · rename_i hg
       split at h
       · rename_i hk; subst hk; cases h; exact⟨_,rfl,hg,rfl⟩
       · cases h
     · cases h
   · cases h
 · cases h
theorem Qn {x:List (Ty k)} (h:Abj s k v ρ=some (x,ρ')):∃ i,v=.ptr i 0∧AL.get s i=some (.arr k x)∧ρ' = ⟨ρ.p++[i],ρ.r⟩:=by
 unfold Abj at h
 split at h
 · rename_i i off
   cases hb:Nat.beq off 0 with
   | false=>rw [hb] at h; cases h
   | true =>
    rw [hb,Zac] at h
    have:=Zab hb
    subst this
    split at h
    · rename_i hg
      split at h
      · rename_i hk; subst hk; cases h; exact⟨_,rfl,hg,rfl⟩
      · cases h
    · cases h
 · cases h
theorem Qo {k2:Nat} {x:List (Ty k×Ty k2)} (h:Abk s k k2 v ρ=some (x,ρ')):∃ i,v=.mp i∧AL.get s i=some (.mp k k2 x)∧ρ' = ⟨ρ.p++[i],ρ.r⟩:=by
 unfold Abk at h
 split at h
 · split at h
   · rename_i hg
     split at h
     · rename_i hk
       subst hk
       split at h
       · rename_i hk2; subst hk2; cases h; exact⟨_,rfl,hg,rfl⟩
       · cases h
     · cases h
   · cases h
 · cases h
theorem Qp {q0 tag:Nat} {ks:List Nat} {f:List (V Ty)→DF→Option (α×DF)} {x:α} (h:Abr s q0 tag ks f v ρ=some (x,ρ')):∃ i vs,v=.fn An [] [.mp i]∧AL.get s i=some (.lp (Ad8 q0).1 (Ad8 q0).2 tag ks vs)∧f vs ⟨ρ.p++[i],ρ.r⟩=some (x,ρ'):=by
 unfold Abr at h
 split at h
 · rename_i q i
   cases hb:Nat.beq q An with
   | false=>rw [hb] at h; cases h
   | true =>
    rw [hb,Zac] at h
    split at h
    · rename_i st pend t2 ks2 vs hg
      cases hb2:(AeM q0 st pend && (Nat.beq t2 tag && V9 ks2 ks)) with
      | false=>rw [hb2] at h; cases h
      | true =>
       rw [hb2,Zac] at h
       obtain⟨b0,b12⟩:=Ao hb2
       obtain⟨b1,b2⟩:=Ao b12
       obtain⟨l1,l2⟩:=Aeg b0
       have e1:=Zab b1
       have e2:=VA b2
       subst e1 e2
       exact⟨i,vs,by rw [Zab hb],by rw [l1,l2]; exact hg,h⟩
    · cases h
 · cases h
theorem Qq {x:Ty k} (h:Abl s k v ρ=some (x,ρ')):∃ i tb vs,v=.ptr i 0∧AL.get s i=some (.blk tb vs)∧UV.pack k vs=some x∧ρ' = ⟨ρ.p++[i],ρ.r⟩:=by
 unfold Abl at h
 split at h
 · rename_i i off
   cases hb:Nat.beq off 0 with
   | false=>rw [hb] at h; cases h
   | true =>
    rw [hb,Zac] at h
    have:=Zab hb
    subst this
    split at h
    · rename_i hg
      obtain⟨y,h1,h2⟩:=Zat.1 h
      cases h2
      exact⟨_,_,_,rfl,hg,h1,rfl⟩
    · cases h
 · cases h
theorem Qr {j:Nat} {x:Unit} (h:Abm j v ρ=some (x,ρ')):j<ρ.p.length∧v=.ptr (AR ρ.p j) 0∧ρ' = ρ:=by
 unfold Abm at h
 split at h
 · rename_i i off
   cases hb:(Nat.beq off 0 && Nat.blt j ρ.p.length && Nat.beq (AR ρ.p j) i) with
   | false=>rw [hb] at h; cases h
   | true =>
    rw [hb,Zac] at h
    cases h
    obtain⟨hb,b3⟩:=Ao hb
    obtain⟨b1,b2⟩:=Ao hb
    rw [Zab b1,← Zab b3]
    exact⟨Zaf b2,rfl,rfl⟩
 · cases h
theorem Qs {j:Nat} {x:Unit} (h:Abn k j v ρ=some (x,ρ')):j<ρ.r.length∧v=.hdr k (AR ρ.r j)∧ρ' = ρ:=by
 unfold Abn at h
 split at h
 · rename_i k' i
   cases hb:(Nat.beq k' k && Nat.blt j ρ.r.length && Nat.beq (AR ρ.r j) i) with
   | false=>rw [hb] at h; cases h
   | true =>
    rw [hb,Zac] at h
    cases h
    obtain⟨hb,b3⟩:=Ao hb
    obtain⟨b1,b2⟩:=Ao hb
    rw [Zab b1,← Zab b3]
    exact⟨Zaf b2,rfl,rfl⟩
 · cases h
theorem Qt {x:Unit} (h:Abo v ρ=some (x,ρ')):v=.nilp∧ρ' = ρ:=by
 unfold Abo at h
 split at h
 · cases h; exact⟨rfl,rfl⟩
 · cases h
theorem Qu {x:Unit} (h:Abp v ρ=some (x,ρ')):v=.nili∧ρ' = ρ:=by
 unfold Abp at h
 split at h
 · cases h; exact⟨rfl,rfl⟩
 · cases h
theorem Qv {tb:Nat} {f:List (V Ty)→DF→Option (α×DF)} {x:α} (h:Abq s tb f v ρ=some (x,ρ')):∃ i t vs,v=.ptr i 0∧AL.get s i=some (.blk t vs)∧(tb=0∨t=tb)∧f vs ⟨ρ.p++[i],ρ.r⟩=some (x,ρ'):=by
 unfold Abq at h
 split at h
 · rename_i i off
   cases hb:Nat.beq off 0 with
   | false=>rw [hb] at h; cases h
   | true =>
    rw [hb,Zac] at h
    have:=Zab hb
    subst this
    split at h
    · rename_i t vs hg
      cases hb2:(Nat.beq tb 0 || Nat.beq t tb) with
      | false=>rw [hb2] at h; cases h
      | true =>
       rw [hb2] at h
       refine⟨_,_,_,rfl,hg,?_,h⟩
       rcases Bool.or_eq_true_iff.1 hb2 with q | q
       · exact .inl (Zab q)
       · exact .inr (Zab q)
    · cases h
 · cases h
theorem Qw {n:Nat} {f:List (V Ty)→DF→Option (α×DF)} {g:List (V Ty)→DF→Option (β×DF)} {x:α×β} (h:Abs n f g v ρ=some (x,ρ')):∃ xs ys ρ1,v=.fn n xs ys∧f xs ρ=some (x.1,ρ1)∧g ys ρ1=some (x.2,ρ'):=by
 unfold Abs at h
 split at h
 · rename_i n' xs ys
   cases hb:Nat.beq n' n with
   | false=>rw [hb] at h; cases h
   | true =>
    rw [hb,Zac] at h
    have:=Zab hb
    subst this
    split at h
    · rename_i h1
      split at h
      · rename_i h2
        cases h
        exact⟨_,_,_,rfl,h1,h2⟩
      · cases h
    · cases h
 · cases h
theorem Qx {f:List (V Ty)→DF→Option (α×DF)} {x:α} (h:Abt f v ρ=some (x,ρ')):∃ vs,v=.tup vs∧f vs ρ=some (x,ρ'):=by
 unfold Abt at h
 split at h
 · exact⟨_,rfl,h⟩
 · cases h
theorem Qy {t:TypeId} {f:V Ty→DF→Option (α×DF)} {x:α} (h:Abu t f v ρ=some (x,ρ')):∃ y,v=.ifc t y∧f y ρ=some (x,ρ'):=by
 unfold Abu at h
 split at h
 · rename_i t' y
   cases hb:Nat.beq t' t with
   | false=>rw [hb] at h; cases h
   | true=>rw [hb,Zac] at h; exact⟨y,by rw [Zab hb],h⟩
 · cases h
theorem Oe {c:C} {cs:List C} {vs:List (V Ty)} {x:C.Ds Ty (c::cs)} (h:ZbC s (c::cs) vs ρ=some (x,ρ')):∃ y ys ρ1,vs=y::ys∧Qj s c y ρ=some (x.1,ρ1)∧ZbC s cs ys ρ1=some (x.2,ρ'):=by
 unfold ZbC at h
 split at h
 · cases h
 · split at h
   · rename_i h1
     split at h
     · rename_i h2
       cases h
       exact⟨_,_,_,rfl,h1,h2⟩
     · cases h
   · cases h
theorem Qz {vs:List (V Ty)} {x:C.Ds Ty []} (h:ZbC s [] vs ρ=some (x,ρ')):vs=[]∧ρ' = ρ:=by
 unfold ZbC at h
 split at h
 · cases h; exact⟨rfl,rfl⟩
 · cases h
end
mutual
theorem Sw {s:Az Ty}:∀ (c:C) {v:V Ty} {ρ ρ':DF} {x:C.D Ty c},Qj s c v ρ=some (x,ρ')→ρ.p <+: ρ'.p∧ρ.r <+: ρ'.r
 | .s k,v,ρ,ρ',x,h=>by
  unfold Qj at h
  obtain⟨y,_,h2⟩:=Zat.1 h
  cases h2
  exact⟨Za5 _,Za5 _⟩
 | .g k,v,ρ,ρ',x,h=>by
  obtain⟨_,_,_,rfl⟩:=Ql (x:=x) h
  exact⟨Za5 _,Za5 _⟩
 | .l k,v,ρ,ρ',x,h=>by
  obtain⟨_,rfl⟩:=Ob (x:=x) h
  exact⟨Za5 _,Za5 _⟩
 | .o k,v,ρ,ρ',x,h=>by
  obtain⟨_,_,_,rfl⟩:=Qm (x:=x) h
  exact⟨Za5 _,Zbv _ _⟩
 | .v k,v,ρ,ρ',x,h=>by
  obtain⟨_,rfl⟩:=Od (x:=x) h
  exact⟨Za5 _,Za5 _⟩
 | .p tb cs,v,ρ,ρ',x,h=>by
  obtain⟨i,t,vs,_,_,_,h1⟩:=Qv (x:=x) h
  obtain⟨h1,h2⟩:=Zb4 cs h1
  exact⟨List.IsPrefix.trans (Zbv _ _) h1,h2⟩
 | .a k,v,ρ,ρ',x,h=>by
  obtain⟨_,_,_,rfl⟩:=Qn (x:=x) h
  exact⟨Zbv _ _,Za5 _⟩
 | .u k,v,ρ,ρ',x,h=>by
  obtain⟨_,_,_,_,_,_,rfl⟩:=Qq (x:=x) h
  exact⟨Zbv _ _,Za5 _⟩
 | .q j,v,ρ,ρ',x,h=>by
  obtain⟨_,_,rfl⟩:=Qr (x:=x) h
  exact⟨Za5 _,Za5 _⟩
 | .f n as bs,v,ρ,ρ',x,h=>by
  obtain⟨xs,ys,ρ1,_,h1,h2⟩:=Qw (x:=x) h
  obtain⟨a1,a2⟩:=Zb4 as h1
  obtain⟨b1,b2⟩:=Zb4 bs h2
  exact⟨a1.trans b1,a2.trans b2⟩
 | .z,v,ρ,ρ',x,h=>by
  obtain⟨_,rfl⟩:=Qt (x:=x) h
  exact⟨Za5 _,Za5 _⟩
 | .n,v,ρ,ρ',x,h=>by
  obtain⟨_,rfl⟩:=Qu (x:=x) h
  exact⟨Za5 _,Za5 _⟩
 | .t cs,v,ρ,ρ',x,h=>by
  obtain⟨vs,_,h1⟩:=Qx (x:=x) h
  exact Zb4 cs h1
 | .i t c,v,ρ,ρ',x,h=>by
  obtain⟨y,_,h1⟩:=Qy (x:=x) h
  exact Sw c h1
 | .r k j,v,ρ,ρ',x,h=>by
  obtain⟨_,_,rfl⟩:=Qs (x:=x) h
  exact⟨Za5 _,Za5 _⟩
 | .m k k2,v,ρ,ρ',x,h=>by
  obtain⟨_,_,_,rfl⟩:=Qo (x:=x) h
  exact⟨Zbv _ _,Za5 _⟩
 | .y q tag ks cs,v,ρ,ρ',x,h=>by
  obtain⟨i,vs,_,_,h1⟩:=Qp (x:=x) h
  obtain⟨h1,h2⟩:=Zb4 cs h1
  exact⟨List.IsPrefix.trans (Zbv _ _) h1,h2⟩
theorem Zb4 {s:Az Ty}:∀ (cs:List C) {vs:List (V Ty)} {ρ ρ':DF} {x:C.Ds Ty cs},ZbC s cs vs ρ=some (x,ρ')→ρ.p <+: ρ'.p∧ρ.r <+: ρ'.r
 | [],vs,ρ,ρ',x,h=>by
  obtain⟨_,rfl⟩:=Qz h
  exact⟨Za5 _,Za5 _⟩
 | c::cs,vs,ρ,ρ',x,h=>by
  obtain⟨y,ys,ρ1,_,h1,h2⟩:=Oe h
  obtain⟨a1,a2⟩:=Sw c h1
  obtain⟨b1,b2⟩:=Zb4 cs h2
  exact⟨a1.trans b1,a2.trans b2⟩
end
end
end Go.Proofs.YtkpgggfibljflaaGreatDoor
namespace Go.Proofs.YtkpgggfibljflaaGreatDoor
open Go Go.RowKit
open Rep (rep)
section
variable {Ty:Nat→Type} [rT:∀ k,Rep (Ty k)] [RFs] [UM Ty] [UML Ty]
theorem VC {g:GE} {h:Ad} {k:Nat} {u:Value} (hu:(V.nils:V Ty).den g h u):(V.lst k ([]:List (Ty k))).den g h u:=by
 unfold V.den at hu ⊢
 exact⟨none,0,hu,F0.nil⟩
def Sx (pf rf:List Nat) (j:Nat):Prop:=j<pf.length∨(Au≤j∧j<Au+rf.length)
def Sy (s:Az Ty) (pf rf:List Nat) (j:Nat) (d:A7 Ty):Prop:=Sx pf rf j∧d.okB (Cl (2*Au))=true ∧
 ∃ c0,AL.get s (HH pf rf j)=some c0∧∀ (h:Ad)(g:GE)(a:GA)(w:World),B2 h g a w c0→B2 h (fun i=>g (HH pf rf i)) a w d
structure PR (s:Az Ty) (pf rf:List Nat) (ρ':DF) (m m':Mk Ty):Prop where
 np:m'.np=ρ'.p.length
 nr:m'.nr=ρ'.r.length
 cells:∀ j d,(j,d)∈m'.s→(j,d)∈m.s∨Sy s pf rf j d
theorem PR.trans {s:Az Ty} {pf rf:List Nat} {ρ1 ρ2:DF} {m m1 m2:Mk Ty} (h1:PR s pf rf ρ1 m m1) (h2:PR s pf rf ρ2 m1 m2):PR s pf rf ρ2 m m2 :=
 ⟨h2.np,h2.nr,fun j d hd=>(h2.cells j d hd).elim (h1.cells j d) .inr⟩
variable [UV Ty] [UL Ty]
theorem Xk {k:Nat} {x:Ty k} {v:V Ty} (hp:UV.pack k [v]=some x):(VB (UV.view k x)).okB (Cl (2*Au))=true∧∀ (g g':GE)(h:Ad)(u:Value),v.den g h u→(VB (UV.view k x)).den g' h u:=by
 refine⟨?_,fun g g' h u hu=>?_⟩
 · have:=UL.view_ok (Ty:=Ty) (Cl (2*Au)) k x
   unfold VB
   split
   · rename_i y hy
     rw [hy] at this
     unfold V.oksB at this
     exact(Ao this).1
   · rfl
 · have h1:=UL.pack_rep g h k _ x [u] hp (by unfold V.dens; exact⟨u,[],rfl,hu,by unfold V.dens; rfl⟩)
   have h2:=UL.view_den g' h k x [u] h1
   have hl:=V.dens_len h2
   match hv:UV.view k x with
   | [y] =>
    rw [hv] at h2
    unfold V.dens at h2
    obtain⟨u',us',e,h3,_⟩:=h2
    cases e
    exact h3
   | []=>rw [hv] at hl; simp at hl
   | _::_::_=>rw [hv] at hl; simp at hl
theorem N0 {pf:List Nat} (hp:pf.length≤Au) {i:Nat} (h:i<pf.length):Cl (2*Au) i=true:=Am.2 (by omega)
mutual
theorem Of {s:Az Ty} {pf rf:List Nat} (hp:pf.length≤Au) (hr:rf.length≤Au):∀ (c:C) {v:V Ty} {ρ ρ':DF} {x:C.D Ty c},Qj s c v ρ=some (x,ρ')→ρ'.p <+: pf→ρ'.r <+: rf →
  ∀ (m:Mk Ty),m.np=ρ.p.length→m.nr=ρ.r.length→PR s pf rf ρ' m (GR c x m).2∧(GR c x m).1.okB (Cl (2*Au))=true∧∀ (g:GE)(h:Ad)(u:Value),v.den g h u→(GR c x m).1.den (fun i=>g (HH pf rf i)) h u
 | .s k,v,ρ,ρ',x,h,_,_,m,h1,h2=>by
  unfold Qj at h
  obtain⟨y,hy,e⟩:=Zat.1 h
  cases e
  obtain⟨q1,q2⟩:=Xk hy
  unfold GR
  exact⟨⟨h1,h2,fun _ _=>.inl⟩,q1,fun g h u hu=>q2 _ _ h u hu⟩
 | .g k,v,ρ,ρ',x,h,_,_,m,h1,h2=>by
  obtain⟨cs,rfl,hy,rfl⟩:=Ql (x:=x) h
  unfold GR
  refine⟨⟨h1,h2,fun _ _=>.inl⟩,?_,fun g h u hu=>?_⟩
  · unfold V.okB; exact UL.view_ok _ k x
  · unfold V.den at hu ⊢
    obtain⟨us,e,hus⟩:=hu
    exact⟨us,e,UL.view_den _ h k x us (UL.pack_rep g h k _ x us hy hus)⟩
 | .l k,v,ρ,ρ',x,h,_,_,m,h1,h2=>by
  obtain⟨hv,rfl⟩:=Ob (x:=x) h
  unfold GR
  refine⟨⟨h1,h2,fun _ _=>.inl⟩,rfl,fun g hp' u hu=>?_⟩
  rcases hv with rfl | ⟨rfl,hx⟩
  · exact hu
  · show(V.lst k x).den _ hp' u
    rw [show x=([]:List (Ty k)) from hx]
    exact VC hu
 | .o k,v,ρ,ρ',x,h,hpp,hrr,m,h1,h2=>by
  obtain⟨i,rfl,hg,rfl⟩:=Qm (x:=x) h
  have hrr:ρ.r++[i] <+: rf:=hrr
  have hlen:ρ.r.length<rf.length:=by have:=hrr.length_le; simp at this; omega
  have hs:HH pf rf (Au+m.nr)=i:=by rw [Tz,h2]; exact G7 hrr
  unfold GR
  refine⟨⟨h1,by simp [h2],fun j d hd=>?_⟩,?_,fun g h u hu=>?_⟩
  · rcases Zam.1 hd with hd | hd
    · cases hd
      refine .inr ⟨.inr ⟨Nat.le_add_right _ _,by omega⟩,rfl,.row k x,?_,fun h g a w hc=>hc⟩
      rw [hs]; exact hg
    · exact .inl hd
  · unfold V.okB; exact Am.2 (by omega)
  · unfold V.den at hu ⊢
    rw [hs]
    exact hu
 | .v k,v,ρ,ρ',x,h,_,_,m,h1,h2=>by
  obtain⟨rfl,rfl⟩:=Od (x:=x) h
  unfold GR
  exact⟨⟨h1,h2,fun _ _=>.inl⟩,rfl,fun g h u hu=>hu⟩
 | .p tb cs,v,ρ,ρ',x,h,hpp,hrr,m,h1,h2=>by
  obtain⟨i,t,vs,rfl,hg,ht,hh⟩:=Qv (x:=x) h
  have hpre:=(Zb4 cs hh).1
  have hin:ρ.p++[i] <+: pf:=hpre.trans hpp
  have hlen:ρ.p.length<pf.length:=by have:=hin.length_le; simp at this; omega
  obtain⟨q1,q2,q3⟩:=Zb8 hp hr cs hh hpp hrr ⟨m.np+1,m.nr,m.s⟩ (by simp [h1]) h2
  have hs:HH pf rf m.np=i:=by rw [FL (by omega),h1]; exact G7 hin
  unfold GR
  refine⟨⟨q1.np,q1.nr,fun j d hd=>?_⟩,?_,fun g h u hu=>?_⟩
  · rcases Zam.1 hd with hd | hd
    · cases hd
      refine .inr ⟨.inl (by omega),q2,.blk t vs,by rw [hs]; exact hg,fun h g a w hc=>?_⟩
      obtain⟨c0,us,T,c1,c2,c3,c4⟩:=hc
      exact⟨c0,us,T,c1,q3 g h us c2,c3,ht.elim .inl fun q=>by subst q; exact c4⟩
    · exact q1.cells j d hd
  · unfold V.okB; exact N0 hp (by omega)
  · unfold V.den at hu ⊢
    rw [hs]
    exact hu
 | .a k,v,ρ,ρ',x,h,hpp,hrr,m,h1,h2=>by
  obtain⟨i,rfl,hg,rfl⟩:=Qn (x:=x) h
  have hin:ρ.p++[i] <+: pf:=hpp
  have hlen:ρ.p.length<pf.length:=by have:=hin.length_le; simp at this; omega
  have hs:HH pf rf m.np=i:=by rw [FL (by omega),h1]; exact G7 hin
  unfold GR
  refine⟨⟨by simp [h1],h2,fun j d hd=>?_⟩,?_,fun g h u hu=>?_⟩
  · rcases Zam.1 hd with hd | hd
    · cases hd
      exact .inr ⟨.inl (by omega),rfl,.arr k x,by rw [hs]; exact hg,fun h g a w hc=>hc⟩
    · exact .inl hd
  · unfold V.okB; exact N0 hp (by omega)
  · unfold V.den at hu ⊢
    rw [hs]
    exact hu
 | .u k,v,ρ,ρ',x,h,hpp,hrr,m,h1,h2=>by
  obtain⟨i,tb,vs,rfl,hg,hy,rfl⟩:=Qq (x:=x) h
  have hin:ρ.p++[i] <+: pf:=hpp
  have hlen:ρ.p.length<pf.length:=by have:=hin.length_le; simp at this; omega
  have hs:HH pf rf m.np=i:=by rw [FL (by omega),h1]; exact G7 hin
  unfold GR
  refine⟨⟨by simp [h1],h2,fun j d hd=>?_⟩,?_,fun g h u hu=>?_⟩
  · rcases Zam.1 hd with hd | hd
    · cases hd
      refine .inr ⟨.inl (by omega),UL.view_ok _ k x,.blk tb vs,by rw [hs]; exact hg,fun h g a w hc=>?_⟩
      obtain⟨c0,us,T,c1,c2,c3,_⟩:=hc
      exact⟨c0,us,T,c1,UL.view_den _ h k x us (UL.pack_rep g h k _ x us hy c2),c3,.inl rfl⟩
    · exact .inl hd
  · unfold V.okB; exact N0 hp (by omega)
  · unfold V.den at hu ⊢
    rw [hs]
    exact hu
 | .q j,v,ρ,ρ',x,h,hpp,hrr,m,h1,h2=>by
  obtain⟨hj,rfl,rfl⟩:=Qr (x:=x) h
  have hlen:=hpp.length_le
  unfold GR
  refine⟨⟨h1,h2,fun _ _=>.inl⟩,?_,fun g h u hu=>?_⟩
  · unfold V.okB; exact N0 hp (by omega)
  · unfold V.den at hu ⊢
    rw [FL (by omega),Mz hpp hj]
    exact hu
 | .f n as bs,v,ρ,ρ',x,h,hpp,hrr,m,h1,h2=>by
  obtain⟨xs,ys,ρ1,rfl,e1,e2⟩:=Qw (x:=x) h
  obtain⟨b1,b2⟩:=Zb4 bs e2
  obtain⟨q1,q2,q3⟩:=Zb8 hp hr as e1 (b1.trans hpp) (b2.trans hrr) m h1 h2
  obtain⟨r1,r2,r3⟩:=Zb8 hp hr bs e2 hpp hrr (Zby as x.1 m).2 q1.np q1.nr
  unfold GR
  refine⟨q1.trans r1,?_,fun g h u hu=>?_⟩
  · unfold V.okB; simp only [Zax]; exact⟨q2,r2⟩
  · unfold V.den at hu ⊢
    obtain⟨us,ws,e,h3,h4⟩:=hu
    exact⟨us,ws,e,q3 g h us h3,r3 g h ws h4⟩
 | .z,v,ρ,ρ',x,h,_,_,m,h1,h2=>by
  obtain⟨rfl,rfl⟩:=Qt (x:=x) h
  unfold GR
  exact⟨⟨h1,h2,fun _ _=>.inl⟩,rfl,fun g h u hu=>hu⟩
 | .n,v,ρ,ρ',x,h,_,_,m,h1,h2=>by
  obtain⟨rfl,rfl⟩:=Qu (x:=x) h
  unfold GR
  exact⟨⟨h1,h2,fun _ _=>.inl⟩,rfl,fun g h u hu=>hu⟩
 | .t cs,v,ρ,ρ',x,h,hpp,hrr,m,h1,h2=>by
  obtain⟨vs,rfl,hh⟩:=Qx (x:=x) h
  obtain⟨q1,q2,q3⟩:=Zb8 hp hr cs hh hpp hrr m h1 h2
  unfold GR
  refine⟨q1,q2,fun g h u hu=>?_⟩
  unfold V.den at hu ⊢
  obtain⟨us,e,h3⟩:=hu
  exact⟨us,e,q3 g h us h3⟩
 | .i t c,v,ρ,ρ',x,h,hpp,hrr,m,h1,h2=>by
  obtain⟨y,rfl,hh⟩:=Qy (x:=x) h
  obtain⟨q1,q2,q3⟩:=Of hp hr c hh hpp hrr m h1 h2
  unfold GR
  refine⟨q1,q2,fun g h u hu=>?_⟩
  unfold V.den at hu ⊢
  obtain⟨us,e,h3⟩:=hu
  exact⟨us,e,q3 g h us h3⟩
 | .r k j,v,ρ,ρ',x,h,hpp,hrr,m,h1,h2=>by
  obtain⟨hj,rfl,rfl⟩:=Qs (x:=x) h
  have hlen:=hrr.length_le
  unfold GR
  refine⟨⟨h1,h2,fun _ _=>.inl⟩,?_,fun g h u hu=>?_⟩
  · unfold V.okB; exact Am.2 (by omega)
  · unfold V.den at hu ⊢
    rw [Tz,Mz hrr hj]
    exact hu
 | .m k k2,v,ρ,ρ',x,h,hpp,hrr,m,h1,h2=>by
  obtain⟨i,rfl,hg,rfl⟩:=Qo (x:=x) h
  have hin:ρ.p++[i] <+: pf:=hpp
  have hlen:ρ.p.length<pf.length:=by have:=hin.length_le; simp at this; omega
  have hs:HH pf rf m.np=i:=by rw [FL (by omega),h1]; exact G7 hin
  unfold GR
  refine⟨⟨by simp [h1],h2,fun j d hd=>?_⟩,?_,fun g h u hu=>?_⟩
  · rcases Zam.1 hd with hd | hd
    · cases hd
      exact .inr ⟨.inl (by omega),rfl,.mp k k2 x,by rw [hs]; exact hg,fun h g a w hc=>hc⟩
    · exact .inl hd
  · unfold V.okB; exact N0 hp (by omega)
  · unfold V.den at hu ⊢
    rw [hs]
    exact hu
 | .y q tag ks cs,v,ρ,ρ',x,h,hpp,hrr,m,h1,h2=>by
  obtain⟨i,vs,rfl,hg,hh⟩:=Qp (x:=x) h
  have hpre:=(Zb4 cs hh).1
  have hin:ρ.p++[i] <+: pf:=hpre.trans hpp
  have hlen:ρ.p.length<pf.length:=by have:=hin.length_le; simp at this; omega
  obtain⟨q1,q2,q3⟩:=Zb8 hp hr cs hh hpp hrr ⟨m.np+1,m.nr,m.s⟩ (by simp [h1]) h2
  have hs:HH pf rf m.np=i:=by rw [FL (by omega),h1]; exact G7 hin
  unfold GR
  refine⟨⟨q1.np,q1.nr,fun j d hd=>?_⟩,?_,fun g h u hu=>?_⟩
  · rcases Zam.1 hd with hd | hd
    · cases hd
      refine .inr ⟨.inl (by omega),q2,.lp (Ad8 q).1 (Ad8 q).2 tag ks vs,by rw [hs]; exact hg,fun h g a w hc=>?_⟩
      obtain⟨h0,r,c1,c2,c3,c4,c5,c6,c7,c8,us,c9,c10⟩:=hc
      exact⟨h0,r,c1,c2,c3,c4,c5,c6,c7,by rw [c8,← V.dens_len c9,← V.dens_len (q3 g h us c9)],us,q3 g h us c9,c10⟩
    · exact q1.cells j d hd
  · show(true && (Cl (2*Au) m.np && true))=true
    rw [N0 hp (by omega)]; rfl
  · unfold V.den at hu ⊢
    obtain⟨as,bs,e,e1,e2⟩:=hu
    obtain⟨u1,rfl,e3⟩:=Mt e2
    refine⟨as,[u1],e,e1,?_⟩
    unfold V.dens V.dens
    refine⟨u1,[],rfl,?_,rfl⟩
    unfold V.den at e3 ⊢
    rw [hs]
    exact e3
theorem Zb8 {s:Az Ty} {pf rf:List Nat} (hp:pf.length≤Au) (hr:rf.length≤Au):∀ (cs:List C) {vs:List (V Ty)} {ρ ρ':DF} {x:C.Ds Ty cs},ZbC s cs vs ρ=some (x,ρ')→ρ'.p <+: pf→ρ'.r <+: rf →
  ∀ (m:Mk Ty),m.np=ρ.p.length→m.nr=ρ.r.length→PR s pf rf ρ' m (Zby cs x m).2∧V.oksB (Cl (2*Au)) (Zby cs x m).1=true∧∀ (g:GE)(h:Ad)(us:List Value),V.dens g h vs us→V.dens (fun i=>g (HH pf rf i)) h (Zby cs x m).1 us
 | [],vs,ρ,ρ',x,h,_,_,m,h1,h2=>by
  obtain⟨rfl,rfl⟩:=Qz h
  unfold Zby
  exact⟨⟨h1,h2,fun _ _=>.inl⟩,rfl,fun g h u hu=>hu⟩
 | c::cs,vs,ρ,ρ',x,h,hpp,hrr,m,h1,h2=>by
  obtain⟨y,ys,ρ1,rfl,e1,e2⟩:=Oe h
  obtain⟨b1,b2⟩:=Zb4 cs e2
  obtain⟨q1,q2,q3⟩:=Of hp hr c e1 (b1.trans hpp) (b2.trans hrr) m h1 h2
  obtain⟨r1,r2,r3⟩:=Zb8 hp hr cs e2 hpp hrr (GR c x.1 m).2 q1.np q1.nr
  unfold Zby
  refine⟨q1.trans r1,?_,fun g h us hu=>?_⟩
  · unfold V.oksB; simp only [Zax]; exact⟨q2,r2⟩
  · unfold V.dens at hu ⊢
    obtain⟨u,us',e,h3,h4⟩:=hu
    exact⟨u,us',e,q3 g h u h3,r3 g h us' h4⟩
end
end
end Go.Proofs.YtkpgggfibljflaaGreatDoor
namespace Go.Proofs.YtkpgggfibljflaaGreatDoor
open Go Go.RowKit
open Rep (rep)
section
variable {Ty:Nat→Type} [rT:∀ k,Rep (Ty k)] [RFs] [UM Ty] [UML Ty] {F:Fr} {w:World}
def A7.isRow:A7 Ty→Bool
 | .row _ _=>true
 | _=>false
structure E7 (F:Fr) (w:World) (h:Ad) (g:GE) (s:Az Ty) (n:Nat) (h':Ad) (g':GE) (s':Az Ty) (n':Nat):Prop where
 le:Ad.le h h'
 g:∀ i,Cl n i=true→g' i=g i
 n:n≤n'
 mem:Ag F h' g' (AL.get s') w
 is_:HG n' (AL.get s')
 blk:∀ i c,AL.get s i=some c→c.isRow=false→∃ c',AL.get s' i=some c'∧c'.isRow=false
theorem E7.refl {h:Ad} {g:GE} {s:Az Ty} {n:Nat} (hm:Ag F h g (AL.get s) w) (hi:HG n (AL.get s)):E7 F w h g s n h g s n :=
 ⟨Ad.le_refl _,fun _ _=>rfl,Zal _,hm,hi,fun i c hv hn=>⟨c,hv,hn⟩⟩
theorem E7.trans {h h1 h2:Ad} {g g1 g2:GE} {s s1 s2:Az Ty} {n n1 n2:Nat} (a:E7 F w h g s n h1 g1 s1 n1) (b:E7 F w h1 g1 s1 n1 h2 g2 s2 n2):E7 F w h g s n h2 g2 s2 n2 :=
 ⟨Ad.le_trans a.le b.le,fun i hi=>by rw [b.g i (Et a.n i hi),a.g i hi],ZaF a.n b.n,b.mem,b.is_,fun i c hv hn=>by obtain⟨v1,h1,h2⟩:=a.blk i c hv hn; exact b.blk i v1 h1 h2⟩
theorem E7.den {h h1:Ad} {g g1:GE} {s s1:Az Ty} {n n1:Nat} (a:E7 F w h g s n h1 g1 s1 n1) {v:V Ty} {u:Value} (hk:v.okB (Cl n)=true) (hv:v.den g h u):v.den g1 h1 u:=V.den_mono a.le _ _ (V.den_agree a.g hk hv)
theorem E7.dens {h h1:Ad} {g g1:GE} {s s1:Az Ty} {n n1:Nat} (a:E7 F w h g s n h1 g1 s1 n1) {v:List (V Ty)} {u:List Value} (hk:V.oksB (Cl n) v=true) (hv:V.dens g h v u):V.dens g1 h1 v u:=V.dens_mono a.le _ _ (V.dens_agree a.g hk hv)
theorem N1 {h:Ad} {g:GE} {s:Az Ty} {n:Nat} {v:V Ty} {u:Value} (hm:Ag F h g (AL.get s) w) (hi:HG n (AL.get s)) (hk:v.okB (Cl n)=true) (hv:v.den g h u) :
  ∃ h' g',E7 F w h g s n h' g' (Si v s).2 n∧(Si v s).1.okB (Cl n)=true∧(Si v s).1.den g' h' u:=by
 have same:∃ h' g',E7 F w h g s n h' g' s n∧v.okB (Cl n)=true∧v.den g' h' u:=⟨h,g,E7.refl hm hi,hk,hv⟩
 unfold Si
 split
 · rename_i k i
   split
   · rename_i k2 l hg
     cases hb:Nat.beq k2 k with
     | false=>exact same
     | true =>
      have:=Zab hb
      subst this
      simp only [Zac]
      obtain⟨r1,r2⟩:=hm.row hg
      have hdel:AL.get (AL.del s i)=Mo.put (AL.get s) i none:=by
       funext j; rw [AL.get_del]; unfold Mo.put
       by_cases hij:i=j
       · rw [if_pos hij,if_pos hij.symm]
       · rw [if_neg hij,if_neg (fun hh=>hij hh.symm)]
      have hins:HG n (AL.get (AL.del s i)):=fun j c hj=>by
       rw [AL.get_del] at hj
       split at hj
       · cases hj
       · exact hi j c hj
      have hblk:∀ j c,AL.get s j=some c→c.isRow=false→∃ c',AL.get (AL.del s i) j=some c'∧c'.isRow=false:=fun j c hj hn=>by
       refine⟨c,?_,hn⟩
       rw [AL.get_del,if_neg]
       · exact hj
       · intro hh; subst hh; rw [hg] at hj; cases hj; cases hn
      rcases r2 with⟨hnl,hl⟩ | ⟨hnl,us,sp,q1,q2,q3,q4,q5,q6⟩
      · refine⟨h,g,⟨Ad.le_refl _,fun _ _=>rfl,Zal _,hm.less fun j c hj=>?_,hins,hblk⟩,rfl,?_⟩
        · rw [AL.get_del] at hj
          split at hj
          · cases hj
          · exact hj
        · subst hl
          refine VC ?_
          unfold V.den at hv ⊢
          rw [hnl] at hv
          exact hv
      · obtain⟨h',e1,e2,e3⟩:=hm.settle hg hnl q1 (Ar.one q2)
        refine⟨h',g,⟨e1,fun _ _=>rfl,Zal _,by rw [hdel]; exact e2,hins,hblk⟩,rfl,?_⟩
        unfold V.den at hv ⊢
        rw [hnl] at hv
        refine⟨some ⟨(g i).b,0,none⟩,(g i).c,by rw [r1]; exact hv,us,q2.mono e1,fun o x hx=>⟨_,rfl,rfl,?_⟩,by omega⟩
        rw [Zar]
        exact e3 o x hx
   · exact same
 · exact same
theorem I6 {n:Nat}:∀ {vs:List (V Ty)} {h:Ad} {g:GE} {s:Az Ty} {us:List Value},Ag F h g (AL.get s) w→HG n (AL.get s)→V.oksB (Cl n) vs=true→V.dens g h vs us →
  ∃ h' g',E7 F w h g s n h' g' (K2 vs s).2 n∧V.oksB (Cl n) (K2 vs s).1=true∧V.dens g' h' (K2 vs s).1 us
 | [],h,g,s,us,hm,hi,hk,hv=>⟨h,g,E7.refl hm hi,hk,hv⟩
 | v::r,h,g,s,us,hm,hi,hk,hv=>by
  unfold V.oksB at hk
  obtain⟨k1,k2⟩:=Ao hk
  unfold V.dens at hv
  obtain⟨u,us',rfl,v1,v2⟩:=hv
  obtain⟨h1,g1,a,a2,a3⟩:=N1 hm hi k1 v1
  obtain⟨h2,g2,b,b2,b3⟩:=I6 (vs:=r) a.mem a.is_ k2 (a.dens k2 v2)
  unfold K2
  refine⟨h2,g2,a.trans b,?_,?_⟩
  · show(V.okB (Cl n) (Si v s).1 && V.oksB (Cl n) (K2 r (Si v s).2).1)=true
    rw [a2,b2]; rfl
  · show V.dens g2 h2 (_::_) _
    unfold V.dens
    exact⟨u,us',rfl,b.den a2 a3,b3⟩
def Og (F:Fr) (w:World) (f:V Ty→Az Ty→Nat→V Ty×Az Ty×Nat):Prop:=∀ (v:V Ty)(h:Ad)(g:GE)(s:Az Ty)(n:Nat)(u:Value),Ag F h g (AL.get s) w→HG n (AL.get s)→v.okB (Cl n)=true→v.den g h u →
 ∃ h' g',E7 F w h g s n h' g' (f v s n).2.1 (f v s n).2.2∧(f v s n).1.okB (Cl (f v s n).2.2)=true∧(f v s n).1.den g' h' u
def N2 (F:Fr) (w:World) (f:List (V Ty)→Az Ty→Nat→List (V Ty)×Az Ty×Nat):Prop:=∀ (v:List (V Ty))(h:Ad)(g:GE)(s:Az Ty)(n:Nat)(u:List Value),Ag F h g (AL.get s) w→HG n (AL.get s)→V.oksB (Cl n) v=true→V.dens g h v u →
 ∃ h' g',E7 F w h g s n h' g' (f v s n).2.1 (f v s n).2.2∧V.oksB (Cl (f v s n).2.2) (f v s n).1=true∧V.dens g' h' (f v s n).1 u
theorem Aby:Og F w (fun(v:V Ty) s n=>(v,s,n)):=fun v h g s n u hm hi hk hv=>⟨h,g,E7.refl hm hi,hk,hv⟩
theorem Abz:Og F w (Ad6 (Ty:=Ty)):=fun v h g s n u hm hi hk hv=>N1 hm hi hk hv
theorem Ab0:Og F w (Abd (Ty:=Ty)):=fun v h g s n u hm hi hk hv=>by
 unfold Abd
 split
 · rename_i cs
   unfold V.den at hv
   unfold V.okB at hk
   obtain⟨us,e,hus⟩:=hv
   obtain⟨h',g',a,a2,a3⟩:=I6 hm hi hk hus
   refine⟨h',g',a,?_,?_⟩
   · show V.okB _ (.agg _)=true
     unfold V.okB; exact a2
   · show V.den g' h' (.agg _) u
     unfold V.den; exact⟨us,e,a3⟩
 · exact⟨h,g,E7.refl hm hi,hk,hv⟩
theorem Ab1 (k:Nat):Og F w (Abe (Ty:=Ty) k):=fun v h g s n u hm hi hk hv=>by
 unfold Abe
 split
 · have hnn:AL.get s n=none:=by
    cases hc:AL.get s n with
    | none=>rfl
    | some c=>have:=Am.1 (hi n c hc).1; omega
   let g':GE:=fun i=>if i=n then⟨0,0,0,true⟩ else g i
   have hg:∀ i,Cl n i=true→g' i=g i:=fun i hin=>by
    have:=Am.1 hin
    show(if i=n then _ else g i)=g i
    rw [if_neg (by omega)]
   have hgn:g' n=⟨0,0,0,true⟩:=by show(if n=n then _ else g n)=_; rw [if_pos rfl]
   have hput:AL.get (AL.put s n (.row k []))=Mo.put (AL.get s) n (some (.row k [])):=by
    funext j; rw [AL.get_put]; unfold Mo.put
    by_cases hij:n=j
    · rw [if_pos hij,if_pos hij.symm]
    · rw [if_neg hij,if_neg (fun hh=>hij hh.symm)]
   refine⟨h,g',⟨Ad.le_refl _,hg,Nat.le_succ n,?_,fun j c hj=>?_,fun j c hj hn=>⟨c,?_,hn⟩⟩,?_,?_⟩
   · show Ag F h g' (AL.get (AL.put s n (.row k []))) w
     rw [hput]
     refine(hm.agree hg hi).newC hnn ?_ (fun hh=>by rw [hgn] at hh; cases hh)
     rw [hgn]
     exact⟨rfl,rfl⟩
   · replace hj:AL.get (AL.put s n (.row k [])) j=some c:=hj
     rw [AL.get_put] at hj
     split at hj
     · rename_i hh; subst hh; cases hj; exact⟨Am.2 (Zbf _),rfl⟩
     · have:=hi j c hj
       exact⟨Et (Nat.le_succ n) _ this.1,A7.okB_imp (Et (Nat.le_succ n)) this.2⟩
   · show AL.get (AL.put s n (.row k [])) j=_
     rw [AL.get_put,if_neg]
     · exact hj
     · intro hh; subst hh; rw [hnn] at hj; cases hj
   · show V.okB _ (.hdr k n)=true
     unfold V.okB
     exact Am.2 (Zbf _)
   · show V.den g' h (.hdr k n) u
     unfold V.den at hv ⊢
     rw [hgn]
     exact hv
 · exact⟨h,g,E7.refl hm hi,hk,hv⟩
theorem VD {f:List (V Ty)→Az Ty→Nat→List (V Ty)×Az Ty×Nat} (hf:N2 F w f) {mk:List (V Ty)→A7 Ty} (hrow:∀ vs,(mk vs).isRow=false) (hok0:∀ p vs,(mk vs).okB p=V.oksB p vs)
  (hmk:∀ (h:Ad)(g:GE)(a:GA)(vs:List (V Ty)),B2 h g a w (mk vs)→∃ us,V.dens g h vs us∧∀ (h':Ad)(g':GE)(vs':List (V Ty)),V.dens g' h' vs' us→B2 h' g' a w (mk vs'))
  {h:Ad} {g:GE} {s:Az Ty} {n i:Nat} {v:V Ty} {u:Value} {vs:List (V Ty)} (hm:Ag F h g (AL.get s) w) (hi:HG n (AL.get s)) (hk:v.okB (Cl n)=true) (hv:v.den g h u) (hg:AL.get s i=some (mk vs)) :
  ∃ h' g',E7 F w h g s n h' g' (AL.put (f vs s n).2.1 i (mk (f vs s n).1)) (f vs s n).2.2∧v.okB (Cl (f vs s n).2.2)=true∧v.den g' h' u:=by
 obtain⟨hin,hok⟩:=hi _ _ hg
 rw [hok0] at hok
 obtain⟨us,c2,cmk⟩:=hmk h g (g i) vs (hm.cell _ _ hg)
 obtain⟨h',g',a,a2,a3⟩:=hf vs h g s n us hm hi hok c2
 obtain⟨vs1,hv1,_⟩:=a.blk _ _ hg (hrow vs)
 have hgi:=a.g i hin
 have hput:AL.get (AL.put (f vs s n).2.1 i (mk (f vs s n).1))=Mo.put (AL.get (f vs s n).2.1) i (some (mk (f vs s n).1)):=by
  funext j; rw [AL.get_put]; unfold Mo.put
  by_cases hij:i=j
  · rw [if_pos hij,if_pos hij.symm]
  · rw [if_neg hij,if_neg (fun hh=>hij hh.symm)]
 have hcn:B2 h' g' (g' i) w (mk (f vs s n).1):=by rw [hgi]; exact cmk _ _ _ a3
 refine⟨h',g',⟨a.le,a.g,a.n,?_,fun j c hj=>?_,fun j ws hj hn=>?_⟩,?_,?_⟩
 · rw [hput]
   refine⟨a.mem.below,a.mem.le,a.mem.old,a.mem.has,fun j c hj=>?_,fun j c hj=>?_,fun j1 j2 d1 d2 hj1 hj2=>?_,a.mem.ext,a.mem.glo⟩
   · unfold Mo.put at hj
     split at hj
     · rename_i hh; subst hh; cases hj; exact hcn
     · exact a.mem.cell j c hj
   · unfold Mo.put at hj
     split at hj
     · rename_i hh; subst hh; exact a.mem.own _ _ hv1
     · exact a.mem.own j c hj
   · have old:∀ {j d},Mo.put (AL.get (f vs s n).2.1) i (some (mk (f vs s n).1)) j=some d→∃ d',AL.get (f vs s n).2.1 j=some d':=fun {j d} hj=>by
      unfold Mo.put at hj
      split at hj
      · rename_i hh; subst hh; exact⟨_,hv1⟩
      · exact⟨_,hj⟩
     obtain⟨e1,p1⟩:=old hj1
     obtain⟨e2,p2⟩:=old hj2
     exact a.mem.inj j1 j2 e1 e2 p1 p2
 · rw [AL.get_put] at hj
   split at hj
   · rename_i hh; subst hh; cases hj; exact⟨Et a.n _ hin,by rw [hok0]; exact a2⟩
   · exact a.is_ j c hj
 · rw [AL.get_put]
   split
   · exact⟨_,rfl,hrow _⟩
   · exact a.blk j ws hj hn
 · exact V.okB_imp (Et a.n) _ hk
 · exact a.den hk hv
theorem VE {f:List (V Ty)→Az Ty→Nat→List (V Ty)×Az Ty×Nat} (hf:N2 F w f):Og F w (Yj f):=fun v h g s n u hm hi hk hv=>by
 unfold Yj
 split
 · rename_i i off
   split
   · rename_i tb vs hg
     exact VD hf (mk:=.blk tb) (fun _=>rfl) (fun _ _=>rfl) (fun h g a vs hc=>by
      obtain⟨c0,us,T,c1,c2,c3⟩:=hc
      exact⟨us,c2,fun _ _ vs' hd=>⟨c0,us,T,c1,hd,c3⟩⟩) hm hi hk hv hg
   · exact⟨h,g,E7.refl hm hi,hk,hv⟩
 · exact⟨h,g,E7.refl hm hi,hk,hv⟩
theorem Ab2 {f:List (V Ty)→Az Ty→Nat→List (V Ty)×Az Ty×Nat} (hf:N2 F w f):Og F w (Abf f):=fun v h g s n u hm hi hk hv=>by
 unfold Abf
 split
 · rename_i q i
   split
   · rename_i st e tag ks vs hg
     exact VD hf (mk:=.lp st e tag ks) (fun _=>rfl) (fun _ _=>rfl) (fun h g a vs hc=>by
      obtain⟨h0,r,c1,c2,c3,c4,c5,c6,c7,c8,us,c9,c10⟩:=hc
      exact⟨us,c9,fun _ _ vs' hd=>⟨h0,r,c1,c2,c3,c4,c5,c6,c7,by rw [c8,← V.dens_len c9,V.dens_len hd],us,hd,c10⟩⟩) hm hi hk hv hg
   · exact⟨h,g,E7.refl hm hi,hk,hv⟩
 · exact⟨h,g,E7.refl hm hi,hk,hv⟩
theorem Ab3 {f:List (V Ty)→Az Ty→Nat→List (V Ty)×Az Ty×Nat} (hf:N2 F w f):Og F w (Abg f):=fun v h g s n u hm hi hk hv=>by
 unfold Abg
 split
 · rename_i cs
   unfold V.den at hv
   unfold V.okB at hk
   obtain⟨us,e,hus⟩:=hv
   obtain⟨h',g',a,a2,a3⟩:=hf cs h g s n us hm hi hk hus
   refine⟨h',g',a,?_,?_⟩
   · show V.okB _ (.tup _)=true
     unfold V.okB; exact a2
   · show V.den g' h' (.tup _) u
     unfold V.den; exact⟨us,e,a3⟩
 · exact⟨h,g,E7.refl hm hi,hk,hv⟩
theorem Ab4:N2 F w (Ad7 (Ty:=Ty)):=fun v h g s n u hm hi hk hv=>I6 hm hi hk hv
mutual
theorem Ab5:∀ c:C,Og F w (JG (Ty:=Ty) c)
 | .l _=>fun v h g s n u=>by unfold JG; exact Abz v h g s n u
 | .g _=>fun v h g s n u=>by unfold JG; exact Ab0 v h g s n u
 | .o k=>fun v h g s n u=>by unfold JG; exact Ab1 k v h g s n u
 | .p _ cs=>fun v h g s n u=>by unfold JG; exact VE (ZcC cs) v h g s n u
 | .u _=>fun v h g s n u=>by unfold JG; exact VE Ab4 v h g s n u
 | .t cs=>fun v h g s n u=>by unfold JG; exact Ab3 (ZcC cs) v h g s n u
 | .y _ _ _ cs=>fun v h g s n u=>by unfold JG; exact Ab2 (ZcC cs) v h g s n u
 | .s _ | .v _ | .a _ | .q _ | .f _ _ _ | .z | .n | .i _ _ | .m _ _ | .r _ _=>fun v h g s n u=>by unfold JG; exact Aby v h g s n u
theorem ZcC:∀ cs:List C,N2 F w (Zct (Ty:=Ty) cs)
 | []=>fun v h g s n u hm hi hk hv=>⟨h,g,E7.refl hm hi,hk,hv⟩
 | c::cs=>fun vs h g s n us hm hi hk hv=>by
  cases vs with
  | nil=>exact⟨h,g,E7.refl hm hi,hk,hv⟩
  | cons v r =>
   unfold V.oksB at hk
   obtain⟨k1,k2⟩:=Ao hk
   unfold V.dens at hv
   obtain⟨u,us',rfl,v1,v2⟩:=hv
   obtain⟨h1,g1,a,a2,a3⟩:=Ab5 c v h g s n u hm hi k1 v1
   have k2':V.oksB (Cl (JG c v s n).2.2) r=true:=V.oksB_iff.2 fun x hx=>V.okB_imp (Et a.n) _ (V.oksB_iff.1 k2 x hx)
   obtain⟨h2,g2,b,b2,b3⟩:=ZcC cs r h1 g1 _ _ us' a.mem a.is_ k2' (a.dens k2 v2)
   unfold Zct
   refine⟨h2,g2,a.trans b,?_,?_⟩
   · show(_ && _)=true
     rw [b2,V.okB_imp (Et b.n) _ a2]; rfl
   · show V.dens g2 h2 (_::_) _
     unfold V.dens
     exact⟨u,us',rfl,b.den a2 a3,b3⟩
end
end
end Go.Proofs.YtkpgggfibljflaaGreatDoor
namespace Go.Proofs.YtkpgggfibljflaaGreatDoor
open Go Go.RowKit
open Rep (rep)
theorem JI:∀ (l m:List Nat)(j:Nat),AR (l++m) (l.length+j)=AR m j
 | [],m,j=>by simp
 | a::l,m,j=>by
  rw [ZaP,Zas,show l.length+1+j=(l.length+j)+1 from by omega]
  exact JI l m j
theorem Sz {n:Nat}:∀ {r:List Nat},Sv n r=true→∀ i∈r,i<n
 | [],_,i,hi=>by cases hi
 | j::r,h,i,hi=>by
  unfold Sv at h
  simp only [Zax] at h
  rcases Zam.1 hi with rfl | hi
  · exact Zaf h.1
  · exact Sz h.2 i hi
theorem AcZ {pf rf:List Nat} (hn:(pf++rf).Nodup) (hp:pf.length≤Au) {i j:Nat} (hi:Sx pf rf i) (hj:Sx pf rf j) (h:HH pf rf i=HH pf rf j):i=j:=by
 have key:∀ {i},Sx pf rf i→∃ q,q<(pf++rf).length∧HH pf rf i=AR (pf++rf) q∧((i<pf.length∧q=i)∨(Au≤i∧q=pf.length+(i-Au))):=fun {i} hi=>by
  rcases hi with hi | ⟨h1,h2⟩
  · exact⟨i,by rw [Zan]; omega,by rw [FL (by omega),Mz (Zbv pf rf) hi],.inl ⟨hi,rfl⟩⟩
  · refine⟨pf.length+(i-Au),by rw [Zan]; omega,?_,.inr ⟨h1,rfl⟩⟩
    rw [JI]
    have:=Tz (pf:=pf) (rf:=rf) (i:=i-Au)
    rwa [show Au+(i-Au)=i from by omega] at this
 obtain⟨a,a1,a2,a3⟩:=key hi
 obtain⟨b,b1,b2,b3⟩:=key hj
 rw [a2,b2] at h
 have e:=E4 hn a1
 rw [h,E4 hn b1] at e
 rcases a3 with⟨a3,a4⟩ | ⟨a3,a4⟩ <;> rcases b3 with⟨b3,b4⟩ | ⟨b3,b4⟩ <;> omega
section
variable {Ty:Nat→Type} [rT:∀ k,Rep (Ty k)] [RFs] [UM Ty] [UML Ty] {F:Fr} {h:Ad} {g:GE} {w:World}
theorem AL.get_mem {α:Type}:∀ {l:List (Nat×α)} {k:Nat} {x:α},AL.get l k=some x→(k,x)∈l
 | [],_,_,h=>by cases h
 | (j,v)::r,k,x,h=>by
  have h2:(bif Nat.beq j k then some v else AL.get r k)=some x:=h
  cases hb:Nat.beq j k with
  | true =>
   rw [hb] at h2
   cases h2
   rw [Zab hb]
   exact List.mem_cons_self
  | false=>rw [hb] at h2; exact Zbe _ (AL.get_mem h2)
theorem Ag.canon {s t:Az Ty} {M:Mo Ty} {pf rf:List Nat} (hm:Ag F h g M w) (hn:(pf++rf).Nodup) (hp:pf.length≤Au) (hr:rf.length≤Au) (ht:∀ j d,(j,d)∈t→Sy s pf rf j d) (hM:∀ j,Sx pf rf j→M (HH pf rf j)=AL.get s (HH pf rf j)) :
  Ag F h (fun i=>g (HH pf rf i)) (AL.get t) w∧HG (2*Au) (AL.get t):=by
 have get:∀ {j d},AL.get t j=some d→Sy s pf rf j d:=fun {j d} hj=>ht j d (AL.get_mem hj)
 refine⟨⟨hm.below,hm.le,hm.old,hm.has,fun j d hj=>?_,fun j d hj hnl=>?_,fun i j c d hi hj h1 h2 hb=>?_,hm.ext,hm.glo⟩,fun j d hj=>?_⟩
 · obtain⟨k1,_,c0,q1,q2⟩:=get hj
   exact q2 h g _ w (hm.cell _ _ ((hM j k1).trans q1))
 · obtain⟨k1,_,c0,q1,q2⟩:=get hj
   exact hm.own _ _ ((hM j k1).trans q1) hnl
 · obtain⟨k1,_,c0,q1,_⟩:=get hi
   obtain⟨k2,_,d0,q2,_⟩:=get hj
   exact AcZ hn hp k1 k2 (hm.inj _ _ _ _ ((hM i k1).trans q1) ((hM j k2).trans q2) h1 h2 hb)
 · obtain⟨k1,k2,_⟩:=get hj
   refine⟨Am.2 ?_,k2⟩
   rcases k1 with k1 | ⟨_,k1⟩ <;> omega
variable [UV Ty] [UL Ty]
structure Afx (F:Fr) (w:World) (h:Ad) (g:GE) (s:Az Ty) (n:Nat) (us:List Value) (h':Ad) (g':GE) (ρ:DF) (vs':List (V Ty)) (s':Az Ty) (n':Nat) (vc:List (V Ty)) (m:Mk Ty):Prop where
 pre:E7 F w h g s n h' g' s' n'
 ok:V.oksB (Cl n') vs' = true
 den:V.dens g' h' vs' us
 nodup:(ρ.p++ρ.r).Nodup
 lp:ρ.p.length≤Au
 lr:ρ.r.length≤Au
 lt:∀ i∈ρ.p++ρ.r,i<n'
 mem:Ag F h' (fun i=>g' (HH ρ.p ρ.r i)) (AL.get m.s) w
 ins:HG (2*Au) (AL.get m.s)
 np:m.np=ρ.p.length
 nr:m.nr=ρ.r.length
 okc:V.oksB (Cl (2*Au)) vc=true
 denc:V.dens (fun i=>g' (HH ρ.p ρ.r i)) h' vc us
 cells:∀ j d,(j,d)∈m.s→Sy s' ρ.p ρ.r j d
theorem CH {cs:List C} {vs vs':List (V Ty)} {s s':Az Ty} {n n':Nat} {x:C.Ds Ty cs} {ρ:DF} {us:List Value} (ht:Ht cs vs s n=some (x,ρ,vs',s',n')) (hm:Ag F h g (AL.get s) w) (hi:HG n (AL.get s)) (hk:V.oksB (Cl n) vs=true) (hv:V.dens g h vs us) :
  ∃ h' g',Afx F w h g s n us h' g' ρ vs' s' n' (Zby cs x ⟨0,0,[]⟩).1 (Zby cs x ⟨0,0,[]⟩).2:=by
 obtain⟨h',g',a,a2,a3⟩:=ZcC cs vs h g s n us hm hi hk hv
 unfold Ht at ht
 generalize hpp:Zct cs vs s n=r at ht a a2 a3
 obtain⟨v1,s1,n1⟩:=r
 simp only at ht a a2 a3
 split at ht
 · rename_i x1 ρ1 hpk
   cases hb:(Gh (ρ1.p++ρ1.r) && Nat.ble (AZ ρ1.p) Au && Nat.ble (AZ ρ1.r) Au && Sv n1 (ρ1.p++ρ1.r)) with
   | false=>rw [hb] at ht; cases ht
   | true =>
    rw [hb,Zac] at ht
    cases ht
    obtain⟨hb,b4⟩:=Ao hb
    obtain⟨hb,b3⟩:=Ao hb
    obtain⟨b1,b2⟩:=Ao hb
    have b1:=Fh b1
    have b2:ρ.p.length≤Au:=by rw [← A5]; exact Zaf b2
    have b3:ρ.r.length≤Au:=by rw [← A5]; exact Zaf b3
    obtain⟨q1,q2,q3⟩:=Zb8 b2 b3 cs hpk (Za5 _) (Za5 _) ⟨0,0,[]⟩ rfl rfl
    have hc:∀ j d,(j,d)∈(Zby cs x ⟨0,0,[]⟩).2.s→Sy s' ρ.p ρ.r j d:=fun j d hd=>(q1.cells j d hd).elim (fun hh=>by cases hh) id
    obtain⟨c1,c2⟩:=a.mem.canon b1 b2 b3 hc (fun _ _=>rfl)
    exact⟨h',g',a,a2,a3,b1,b2,b3,Sz b4,c1,c2,q1.np,q1.nr,q2,q3 g' h' us a3,hc⟩
 · cases ht
end
theorem GT {α:Type}:∀ (n:Nat)(l:List α),Mx n l=l.drop n
 | 0,l=>rfl
 | _+1,[]=>by simp [Mx]
 | n+1,_::l=>by unfold Mx; rw [GT n l]; rfl
section
variable {Ty:Nat→Type}
theorem T0:∀ (a b:List (V Ty)),Abw a b=a++b
 | [],b=>rfl
 | x::a,b=>by unfold Abw; rw [T0 a b]; rfl
variable [rT:∀ k,Rep (Ty k)] [RFs] [UM Ty] [UML Ty] {F:Fr} {h:Ad} {g:GE} {w:World} {t:Array Value}
def I7 (t:Array Value):List (Nat×C)→List Value→Prop
 | [],_=>True
 | (k,_)::r,us=>∃ u us',us=u::us'∧t[k]? = some u∧I7 t r us'
theorem I7.app:∀ {sl:List (Nat×C)} {us:List Value} (ws:List Value),I7 t sl us→I7 t sl (us++ws)
 | [],_,_,_=>trivial
 | (k,_)::r,us,ws,hs=>by
  obtain⟨u,us',rfl,h1,h2⟩:=hs
  exact⟨u,us'++ws,rfl,h1,h2.app ws⟩
theorem Fk {p:Nat→Bool} {m:List (Nat×V Ty)} (hk:MM g h m t) (hi:PP p m):∀ {sl:List (Nat×C)} {vs:List (V Ty)},Ny m sl=some vs→V.oksB p vs=true∧vs.length=sl.length∧∃ us,V.dens g h vs us∧I7 t sl us
 | [],vs,hh=>by cases hh; exact⟨rfl,rfl,[],rfl,trivial⟩
 | (k,c)::r,vs,hh=>by
  unfold Ny at hh
  split at hh
  · rename_i v hv
    split at hh
    · rename_i ws hws
      cases hh
      obtain⟨h1,h2,us,h3,h4⟩:=Fk hk hi hws
      obtain⟨u,q1,q2⟩:=hk k v hv
      refine⟨?_,by simp [h2],u::us,?_,u,us,rfl,q1,h4⟩
      · unfold V.oksB; rw [hi k v hv,h1]; rfl
      · unfold V.dens; exact⟨u,us,rfl,q2,h3⟩
    · cases hh
  · cases hh
theorem FM:∀ {sl:List (Nat×C)} {vs:List (V Ty)} {us:List Value},I7 t sl us→V.dens g h vs us→MM g h (FK sl vs) t
 | [],vs,us,_,_=>fun k v hv=>by unfold FK at hv; cases hv
 | (j,c)::r,[],us,_,_=>fun k v hv=>by unfold FK at hv; cases hv
 | (j,c)::r,v::vs,us,hs,hd=>fun k x hx=>by
  obtain⟨u,us',rfl,q1,q2⟩:=hs
  unfold V.dens at hd
  obtain⟨u2,us2,e,d1,d2⟩:=hd
  cases e
  have h2:(bif Nat.beq j k then some v else AL.get (FK r vs) k)=some x:=hx
  cases hb:Nat.beq j k with
  | true =>
   rw [hb] at h2
   cases h2
   rw [← Zab hb]
   exact⟨u,q1,d1⟩
  | false=>rw [hb] at h2; exact FM q2 d2 k x h2
omit rT in
theorem FN {p:Nat→Bool}:∀ {sl:List (Nat×C)} {vs:List (V Ty)},V.oksB p vs=true→PP p (FK sl vs)
 | [],vs,_=>fun k v hv=>by unfold FK at hv; cases hv
 | (j,c)::r,[],_=>fun k v hv=>by unfold FK at hv; cases hv
 | (j,c)::r,v::vs,ho=>fun k x hx=>by
  unfold V.oksB at ho
  obtain⟨o1,o2⟩:=Ao ho
  have h2:(bif Nat.beq j k then some v else AL.get (FK r vs) k)=some x:=hx
  cases hb:Nat.beq j k with
  | true=>rw [hb] at h2; cases h2; exact o1
  | false=>rw [hb] at h2; exact FN o2 k x h2
theorem Ab6 (c:C) (j:Nat):∃ u,(Abv (Ty:=Ty) c j).den g h u:=by
 unfold Abv
 split
 · exact⟨_,by unfold V.den; rfl⟩
 · refine⟨.func (.yield (g j).b) #[] #[],?_⟩
   unfold V.den V.dens V.dens
   refine⟨[],[.map (some (g j).b)],?_,rfl,_,[],rfl,by unfold V.den; rfl,rfl⟩
   unfold Zi; rw [if_pos rfl]
 · exact⟨_,by unfold V.den; rfl⟩
theorem VF:∀ (cs:List C)(j:Nat),∃ us,V.dens g h (Tx (Ty:=Ty) j cs) us∧us.length=cs.length
 | [],j=>⟨[],by unfold Tx V.dens; rfl,rfl⟩
 | c::cs,j=>by
  obtain⟨us,h1,h2⟩:=VF cs (j+1)
  obtain⟨u,h3⟩:=Ab6 (Ty:=Ty) (g:=g) (h:=h) c j
  refine⟨u::us,?_,by simp [h2]⟩
  unfold Tx V.dens
  exact⟨u,us,rfl,h3,h1⟩
omit rT [RFs] [UM Ty] [UML Ty] in
theorem Ada {p:Nat→Bool} (c:C) {j:Nat} (hj:p j=true):(Abv (Ty:=Ty) c j).okB p=true:=by
 unfold Abv
 split
 · exact hj
 · show(true && (p j && true))=true
   rw [hj]; rfl
 · exact hj
omit rT [RFs] [UM Ty] [UML Ty] in
theorem Yk {p:Nat→Bool}:∀ (cs:List C)(j:Nat),(∀ i,j≤i→i<j+cs.length→p i=true)→V.oksB p (Tx (Ty:=Ty) j cs)=true
 | [],j,_=>rfl
 | c::cs,j,hp=>by
  unfold Tx V.oksB
  rw [Ada c (hp j (Zal _) (by simp)),Yk cs (j+1) fun i h1 h2=>hp i (by omega) (by simp only [Zas]; omega)]
  rfl
theorem V.oksB_app {p:Nat→Bool} {xs ys:List (V Ty)} (hx:V.oksB p xs=true) (hy:V.oksB p ys=true):V.oksB p (xs++ys)=true:=V.oksB_append hx hy
variable [UV Ty] [UL Ty] {N:Nat} {Q:Exit→Act→World→Prop} {d:List Deferred}
theorem T3 {kp:Nat} {pf rf:List Nat} (hp:PI kp pf=true) (hl:pf.length≤Au) {i:Nat} (hi:i<kp):HH pf rf i=i:=by
 obtain⟨h1,h2⟩:=I1 hp
 rw [FL (by omega),h2 i hi]
theorem Hu {kp:Nat} {e:Wo} {st:St Ty} {rv:List (V Ty)} {x:C.Ds Ty e.all} {rus:List Value} (hx:GS kp e rv st=some x) (hs:RS N F h g st.nx st.m st.s t w) (hkp:kp≤st.nx) (hrus:V.dens g h rv rus) (hrok:V.oksB (Cl st.nx) rv=true) :
  ∃ (h':Ad)(gc:GE),Ad.le h h'∧(∀ i,i<kp→gc i=g i)∧kp≤Au∧RS N F h' gc (2*Au) (Nz e x).st.m (Nz e x).st.s t w ∧
   V.dens gc h' ((Zby e.all x ⟨0,0,[]⟩).1.drop (e.ps.length+e.sl.length)) rus∧V.oksB (Cl (2*Au)) ((Zby e.all x ⟨0,0,[]⟩).1.drop (e.ps.length+e.sl.length))=true:=by
 unfold GS at hx
 cases hlen:Nat.beq (AZ e.ps) kp with
 | false=>rw [hlen] at hx; cases hx
 | true =>
  rw [hlen,Zac] at hx
  have hlen:e.ps.length=kp:=by rw [← A5]; exact Zab hlen
  split at hx
  · rename_i vs hvs
    split at hx
    · rename_i x1 ρ rest ht
      obtain⟨vs',s',n'⟩:=rest
      cases hpre:PI kp ρ.p with
      | false=>rw [hpre] at hx; cases hx
      | true =>
       rw [hpre,Zac] at hx
       cases hx
       rw [T0,T0] at ht
       obtain⟨a1,a2,sus,a3,a4⟩:=Fk hs.kn hs.im hvs
       obtain⟨pus,b1,b2⟩:=VF (Ty:=Ty) (g:=g) (h:=h) e.ps 0
       have hok:V.oksB (Cl st.nx) (Tx 0 e.ps++(vs++rv))=true:=V.oksB_app (Yk e.ps 0 fun i _ hi=>Am.2 (by omega)) (V.oksB_app a1 hrok)
       have hden:V.dens g h (Tx 0 e.ps++(vs++rv)) (pus++(sus++rus)):=V.dens_append b1 (V.dens_append a3 hrus)
       obtain⟨h',g',T⟩:=CH ht hs.mem hs.is_ hok hden
       have hsus:sus.length=e.sl.length:=by rw [V.dens_len a3,a2]
       have hd1:V.dens (fun i=>g' (HH ρ.p ρ.r i)) h' ((Zby e.all x ⟨0,0,[]⟩).1.drop e.ps.length) (sus++rus):=by
        have:=V.dens_drop e.ps.length T.denc
        rwa [ZaQ (by omega),List.drop_of_length_le (l:=pus) (by omega),Za6] at this
       have hd2:V.dens (fun i=>g' (HH ρ.p ρ.r i)) h' (((Zby e.all x ⟨0,0,[]⟩).1.drop e.ps.length).drop e.sl.length) rus:=by
        have:=V.dens_drop e.sl.length hd1
        rwa [ZaQ (by omega),List.drop_of_length_le (l:=sus) (by omega),Za6] at this
       have ho1:=V.oksB_drop e.ps.length T.okc
       have hkl:=(I1 hpre).1
       have lp:=T.lp
       refine⟨h',fun i=>g' (HH ρ.p ρ.r i),T.pre.le,fun i hi=>?_,by omega,⟨hs.size,?_,T.mem,?_,T.ins⟩,by rw [← List.drop_drop]; exact hd2,V.oksB_drop _ T.okc⟩
       · show g' (HH ρ.p ρ.r i)=_
         rw [T3 hpre T.lp hi]; exact T.pre.g i (Am.2 (by omega))
       · show MM _ h' (FK e.sl (Mx (AZ e.ps) (Zby e.all x ⟨0,0,[]⟩).1)) t
         rw [GT,A5]
         exact FM (a4.app rus) hd1
       · show PP _ (FK e.sl (Mx (AZ e.ps) (Zby e.all x ⟨0,0,[]⟩).1))
         rw [GT,A5]
         exact FN ho1
    · cases hx
  · cases hx
theorem M3 {kp:Nat} {e:Wo} {lf:Lf Ty} {x:C.Ds Ty e.all} {h0:Ad} {g0:GE} (hx:GS kp e (R1 lf.e) lf.st=some x) (hk:e.k.is lf.e=true) (hs:RS N F h g lf.st.nx lf.st.m lf.st.s t w) (hkp:kp≤lf.st.nx)
  (hK:Aba N F h0 g0 kp Q d (Nz e x)) (hle:Ad.le h0 h) (hg:∀ i,i<kp→g i=g0 i):Zv Q g h lf.st.nx ⟨t,d⟩ w lf.e:=by
 have main:∀ rus,V.dens g h (R1 lf.e) rus→V.oksB (Cl lf.st.nx) (R1 lf.e)=true→∃ (h':Ad)(gc:GE)(vc:List (V Ty)),V.dens gc h' vc rus∧V.oksB (Cl (2*Au)) vc=true∧Zv Q gc h' (2*Au) ⟨t,d⟩ w (e.k.ext vc):=by
  intro rus hrus hrok
  obtain⟨h',gc,r1,r2,r3,r4,r5,r6⟩:=Hu hx hs hkp hrus hrok
  refine⟨h',gc,_,r5,r6,?_⟩
  have:=hK F d h' gc t w (FD.refl F d) (Ad.le_trans hle r1) (fun i hi=>by rw [r2 i hi,hg i hi]) (by show kp≤2*Au; omega) r4
  have e1:(Nz e x).e=e.k.ext ((Zby e.all x ⟨0,0,[]⟩).1.drop (e.ps.length+e.sl.length)):=by
   rw [← List.drop_drop]
   unfold Nz; simp only [GT,A5]
  rw [e1] at this
  exact this
 cases hle':lf.e with
 | normal =>
  rw [hle'] at hk main
  obtain⟨h',gc,vc,m1,m2,m3⟩:=main [] (by unfold R1 V.dens; rfl) rfl
  cases hek:e.k <;> rw [hek] at hk m3 <;> first | (cases hk; done) | exact m3
 | exit i =>
  rw [hle'] at hk main
  obtain⟨h',gc,vc,m1,m2,m3⟩:=main [] (by unfold R1 V.dens; rfl) rfl
  cases hek:e.k <;> rw [hek] at hk m3 <;> first | (cases hk; done) | skip
  have:=Zab hk
  subst this
  exact m3
 | ret =>
  rw [hle'] at hk main
  obtain⟨h',gc,vc,m1,m2,m3⟩:=main [] (by unfold R1 V.dens; rfl) rfl
  cases hek:e.k <;> rw [hek] at hk m3 <;> first | (cases hk; done) | exact m3
 | pan v =>
  intro u hu hok
  rw [hle'] at hk main
  obtain⟨h',gc,vc,m1,m2,m3⟩:=main [u] (by unfold R1 V.dens; exact⟨u,[],rfl,hu,by unfold V.dens; rfl⟩) (by unfold R1 V.oksB; rw [hok]; rfl)
  cases hek:e.k <;> rw [hek] at hk m3 <;> first | (cases hk; done) | skip
  have hl:=V.dens_len m1
  match vc,m1,m2,m3,hl with
  | [v'],m1,m2,m3,_ =>
   unfold V.dens at m1
   obtain⟨u',us',e1,e2,_⟩:=m1
   cases e1
   unfold V.oksB at m2
   exact m3 u e2 (Ao m2).1
  | [],_,_,_,hl=>simp at hl
  | _::_::_,_,_,_,hl=>simp at hl
def YK (K:Lf Ty→Prop):(es:List Wo)→YT Ty es→Prop
 | [],_=>True
 | e::es,y=>match es,y with
  | [],y=>K (Nz e y)
  | _::_,.inl a=>K (Nz e a)
  | e2::es2,.inr b=>YK K (e2::es2) b
theorem YK.imp {K K':Lf Ty→Prop} (H:∀ l,K l→K' l):∀ {es:List Wo} {y:YT Ty es},YK K es y→YK K' es y
 | [],_,_=>trivial
 | [e],y,h=>H _ h
 | e::e2::es,.inl a,h=>H _ h
 | e::e2::es,.inr b,h=>YK.imp (es:=e2::es) (y:=b) H h
theorem Gy {kp:Nat} {lf:Lf Ty} {h0:Ad} {g0:GE} (hs:RS N F h g lf.st.nx lf.st.m lf.st.s t w) (hkp:kp≤lf.st.nx) (hle:Ad.le h0 h) (hg:∀ i,i<kp→g i=g0 i) :
  ∀ {es:List Wo} {y:YT Ty es},FJ kp es lf=some y→YK (fun l=>Aba N F h0 g0 kp Q d l) es y→Zv Q g h lf.st.nx ⟨t,d⟩ w lf.e
 | [],y,hy,_=>by cases hy
 | [e],y,hy,hK=>by
  unfold FJ at hy
  cases hb:e.fits lf with
  | false=>simp only [hb] at hy; cases hy
  | true =>
   simp only [hb,Zac] at hy
   exact M3 hy (Ao hb).1 hs hkp hK hle hg
 | e::e2::es,y,hy,hK=>by
  unfold FJ at hy
  cases hb:e.fits lf with
  | false =>
   simp only [hb,Zad] at hy
   obtain⟨b,h1,h2⟩:=Zat.1 hy
   subst h2
   exact Gy hs hkp hle hg h1 hK
  | true =>
   simp only [hb,Zac] at hy
   obtain⟨a,h1,h2⟩:=Zat.1 hy
   subst h2
   exact M3 h1 (Ao hb).1 hs hkp hK hle hg
end
section
variable {Ty:Nat→Type}
theorem VG {r:List Nat}:∀ {s:Az Ty} {i:Nat},AL.get (JH r s) i=if A8 r i=true then none else AL.get s i
 | [],i=>by unfold JH; simp [AL.get]
 | (j,c)::t,i=>by
  have ih:=VG (r:=r) (s:=t) (i:=i)
  unfold JH
  cases hm:A8 r j with
  | true =>
   rw [Zac,ih]
   split
   · rfl
   · rename_i hi
     show _=bif Nat.beq j i then some c else AL.get t i
     cases hb:Nat.beq j i with
     | true=>have:=Zab hb; subst this; rw [hm] at hi; exact absurd rfl hi
     | false=>rfl
  | false =>
   rw [Zad]
   show(bif Nat.beq j i then some c else AL.get (JH r t) i)=if A8 r i=true then none else(bif Nat.beq j i then some c else AL.get t i)
   cases hb:Nat.beq j i with
   | true=>have:=Zab hb; subst this; rw [hm]; rfl
   | false=>rw [Zad,Zad,ih]
theorem Q0 {f:Nat→Nat} {b:Az Ty}:∀ {s:Az Ty} {i:Nat} {d:A7 Ty},AL.get (Qk f b s) i=some d→(∃ j c,AL.get s j=some c∧f j=i∧d=c.ren f)∨AL.get b i=some d
 | [],i,d,h=>.inr h
 | (j0,c0)::t,i,d,h=>by
  have h2:(bif Nat.beq (f j0) i then some (c0.ren f) else AL.get (Qk f b t) i)=some d:=h
  cases hb:Nat.beq (f j0) i with
  | true =>
   rw [hb] at h2
   cases h2
   refine .inl ⟨j0,c0,?_,Zab hb,rfl⟩
   show(bif Nat.beq j0 j0 then some c0 else AL.get t j0)=some c0
   rw [Nat.beq_refl]; rfl
  | false =>
   rw [hb] at h2
   rcases Q0 h2 with⟨j,c,q1,q2,q3⟩ | q
   · refine .inl ⟨j,c,?_,q2,q3⟩
     show(bif Nat.beq j0 j then some c0 else AL.get t j)=some c
     cases hb2:Nat.beq j0 j with
     | true =>
      rw [Zab hb2,q2] at hb
      rw [Nat.beq_refl] at hb
      cases hb
     | false=>exact q1
   · exact .inr q
theorem Q1 {f:Nat→Nat}:∀ {m:List (Nat×V Ty)} {k:Nat} {v:V Ty},AL.get (mapM f m) k=some v→∃ v0,AL.get m k=some v0∧v=v0.ren f
 | [],k,v,h=>by cases h
 | (j,c)::t,k,v,h=>by
  have h2:(bif Nat.beq j k then some (c.ren f) else AL.get (mapM f t) k)=some v:=h
  show ∃ v0,(bif Nat.beq j k then some c else AL.get t k)=some v0∧_
  cases hb:Nat.beq j k with
  | true=>rw [hb] at h2; cases h2; exact⟨c,rfl,rfl⟩
  | false=>rw [hb] at h2; exact Q1 h2
theorem HX {p:Nat→Bool}:∀ {s:Az Ty},My p s=true→EV p (AL.get s)
 | [],_=>fun i c hi=>by cases hi
 | (j,c)::t,h=>fun i d hi=>by
  unfold My at h
  obtain⟨h,h3⟩:=Ao h
  obtain⟨h1,h2⟩:=Ao h
  have hh:(bif Nat.beq j i then some c else AL.get t i)=some d:=hi
  cases hb:Nat.beq j i with
  | true=>rw [hb] at hh; cases hh; rw [← Zab hb]; exact⟨h1,h2⟩
  | false=>rw [hb] at hh; exact HX h3 i d hh
theorem Q2 {np nr i:Nat}:EF np nr i=true↔i<np∨(Au≤i∧i<Au+nr):=by
 unfold EF
 simp only [ZaL,Zax]
 exact⟨fun h=>h.elim (fun h=>.inl (Zaf h)) (fun h=>.inr ⟨Zaf h.1,Zaf h.2⟩),fun h=>h.elim (fun h=>.inl (Za1 h)) (fun h=>.inr ⟨Za1 h.1,Za1 h.2⟩)⟩
theorem Ab7 {a b:Nat} (h:a<b):Nat.blt a b=true:=Za1 h
theorem Ab8 {a b:Nat} (h:b≤a):Nat.blt a b=false:=by
 cases hb:Nat.blt a b with
 | true=>have:=Zaf hb; omega
 | false=>rfl
theorem Q3 {pf:List Nat} {kp n np j:Nat} (h:j<kp):Ed pf kp n np j=AR pf j:=by unfold Ed; rw [Ab7 h]; rfl
theorem Q4 {pf:List Nat} {kp n np j:Nat} (h:kp≤j) (h2:j<Au):Ed pf kp n np j=n+(j-kp):=by unfold Ed; rw [Ab8 h,Ab7 h2]; rfl
theorem Q5 {pf:List Nat} {kp n np j:Nat} (hk:kp≤Au) (h:Au≤j):Ed pf kp n np j=n+(np-kp)+(j-Au):=by unfold Ed; rw [Ab8 (by omega),Ab8 h]; rfl
def JJ (g ge:GE) (kp n np:Nat):GE:=fun i=>if i<n then g i else if i-n<np-kp then ge (i-n+kp) else ge (Au+(i-n-(np-kp)))
variable [rT:∀ k,Rep (Ty k)] [RFs] [UM Ty] [UML Ty] {F:Fr} {h:Ad} {g:GE} {w:World}
theorem Ag.lendC {ρ:DF} {s t:Az Ty} {n:Nat} (hm:Ag F h g (AL.get s) w) (hi:HG n (AL.get s)) (hn:(ρ.p++ρ.r).Nodup) (hp:ρ.p.length≤Au) (hr:ρ.r.length≤Au) (hlt:∀ i∈ρ.p++ρ.r,i<n) (ht:∀ j d,(j,d)∈t→Sy s ρ.p ρ.r j d) :
  ∃ X,Ag ⟨F.w,F.h,X⟩ h (fun i=>g (HH ρ.p ρ.r i)) (AL.get t) w ∧
   ∀ {F2:Fr} {d d2:List Deferred} {h2:Ad} {ge:GE} {s2:Az Ty} {w2:World} {np nr:Nat},FD ⟨F.w,F.h,X⟩ F2 d d2→Ag F2 h2 ge (AL.get s2) w2→Ad.le h h2→(∀ j,j<ρ.p.length→ge j=g (AR ρ.p j))→EV (EF np nr) (AL.get s2)→ρ.p.length≤np→np≤Au →
    ∃ F3,FD F F3 d d2∧Ag F3 h2 (JJ g ge ρ.p.length n np) (AL.get (Qk (Ed ρ.p ρ.p.length n np) (JH (ρ.p++ρ.r) s) s2)) w2 ∧
    HG (n+(np-ρ.p.length)+nr) (AL.get (Qk (Ed ρ.p ρ.p.length n np) (JH (ρ.p++ρ.r) s) s2)) ∧
    (∀ i,i<n→JJ g ge ρ.p.length n np i=g i) ∧
    (∀ j,EF np nr j=true→JJ g ge ρ.p.length n np (Ed ρ.p ρ.p.length n np j)=ge j∧Cl (n+(np-ρ.p.length)+nr) (Ed ρ.p ρ.p.length n np j)=true):=by
 let M1:Mo Ty:=fun i=>if A8 (ρ.p++ρ.r) i=true then AL.get s i else none
 obtain⟨X,hX,back⟩:=hm.hideF (M1:=M1) (fun i c hc=>by
  replace hc:(if A8 (ρ.p++ρ.r) i=true then AL.get s i else none)=some c:=hc
  split at hc
  · exact hc
  · cases hc)
 have sigm:∀ j,Sx ρ.p ρ.r j→HH ρ.p ρ.r j∈ρ.p++ρ.r:=fun j hj=>by
  rcases hj with hj | ⟨h1,h2⟩
  · rw [FL (by omega)]; exact ZaR _ (C2 hj)
  · have:=Tz (pf:=ρ.p) (rf:=ρ.r) (i:=j-Au)
    rw [show Au+(j-Au)=j from by omega] at this
    rw [this]; exact List.mem_append_right _ (C2 (by omega))
 refine⟨X,(hX.canon hn hp hr ht fun j hj=>?_).1,?_⟩
 · show(if A8 (ρ.p++ρ.r) (HH ρ.p ρ.r j)=true then _ else none)=_
   rw [if_pos (Be.2 (sigm j hj))]
 · intro F2 d d2 h2 ge s2 w2 np nr hfd hm2 hle hge hin2 hkn hnp
   have gold:∀ i,i<n→JJ g ge ρ.p.length n np i=g i:=fun i hi=>by unfold JJ; rw [if_pos hi]
   have gout:∀ j,EF np nr j=true→JJ g ge ρ.p.length n np (Ed ρ.p ρ.p.length n np j)=ge j∧Cl (n+(np-ρ.p.length)+nr) (Ed ρ.p ρ.p.length n np j)=true:=fun j hj=>by
    rcases Q2.1 hj with hj | ⟨hj,hj2⟩
    · rcases Za2 j ρ.p.length with hjk | hjk
      · have hl:=hlt _ (ZaR ρ.r (C2 hjk))
        rw [Q3 hjk]
        exact⟨by rw [gold _ hl,hge j hjk],Am.2 (by omega)⟩
      · rw [Q4 hjk (by omega)]
        refine⟨?_,Am.2 (by omega)⟩
        unfold JJ
        rw [if_neg (by omega),if_pos (by omega)]
        congr 1; omega
    · rw [Q5 hp hj]
      refine⟨?_,Am.2 (by omega)⟩
      unfold JJ
      rw [if_neg (by omega),if_neg (by omega)]
      congr 1; omega
   have finj:∀ {i j},EF np nr i=true→EF np nr j=true→Ed ρ.p ρ.p.length n np i=Ed ρ.p ρ.p.length n np j→i=j:=fun {i j} hi hj he=>by
    have key:∀ {i},EF np nr i=true→(i<ρ.p.length∧Ed ρ.p ρ.p.length n np i=AR ρ.p i∧AR ρ.p i<n)∨(ρ.p.length≤i∧i<np∧Ed ρ.p ρ.p.length n np i=n+(i-ρ.p.length))∨(Au≤i∧Ed ρ.p ρ.p.length n np i=n+(np-ρ.p.length)+(i-Au)):=fun {i} hi=>by
     rcases Q2.1 hi with hi | ⟨hi,_⟩
     · rcases Za2 i ρ.p.length with hik | hik
       · exact .inl ⟨hik,Q3 hik,hlt _ (ZaR ρ.r (C2 hik))⟩
       · exact .inr (.inl ⟨hik,hi,Q4 hik (by omega)⟩)
     · exact .inr (.inr ⟨hi,Q5 hp hi⟩)
    rcases key hi with⟨a1,a2,a3⟩ | ⟨a1,a2,a3⟩ | ⟨a1,a2⟩ <;> rcases key hj with⟨b1,b2,b3⟩ | ⟨b1,b2,b3⟩ | ⟨b1,b2⟩
    · rw [a2,b2] at he
      have hnd:=(List.nodup_append.1 hn).1
      have:=E4 hnd a1
      rw [he,E4 hnd b1] at this
      exact this.symm
    all_goals omega
   let rest:Nat→Bool:=fun i=>Nat.blt i n && !A8 (ρ.p++ρ.r) i
   let M2:Mo Ty:=AL.get (Qk (Ed ρ.p ρ.p.length n np) [] s2)
   have get2:∀ {i d},M2 i=some d→∃ j c,AL.get s2 j=some c∧Ed ρ.p ρ.p.length n np j=i∧d=c.ren (Ed ρ.p ρ.p.length n np)∧EF np nr j=true∧c.okB (EF np nr)=true:=fun {i d} hi=>by
    rcases Q0 hi with⟨j,c,q1,q2,q3⟩ | q
    · exact⟨j,c,q1,q2,q3,hin2 _ _ q1⟩
    · cases q
   have hM2:Ag F2 h2 (JJ g ge ρ.p.length n np) M2 w2:=by
    refine⟨hm2.below,hm2.le,hm2.old,hm2.has,fun i d hd=>?_,fun i d hd hnl=>?_,fun i j c d hc hd h1 h3 hb=>?_,hm2.ext,hm2.glo⟩
    · obtain⟨j,c,q1,rfl,rfl,q4,q5⟩:=get2 hd
      rw [(gout j q4).1]
      have:=hm2.cell _ _ q1
      exact this.renC (fun i hi=>(gout i hi).1) q5
    · obtain⟨j,c,q1,rfl,rfl,q4,q5⟩:=get2 hd
      rw [(gout j q4).1] at hnl ⊢
      exact hm2.own _ _ q1 hnl
    · obtain⟨a,c',q1,rfl,rfl,q4,q5⟩:=get2 hc
      obtain⟨b,d',r1,rfl,rfl,r4,r5⟩:=get2 hd
      rw [(gout a q4).1] at h1 hb
      rw [(gout b r4).1] at h3 hb
      rw [hm2.inj _ _ _ _ q1 r1 h1 h3 hb]
   obtain⟨F3,hf3,hcomb⟩:=back (p:=Cl n) rest hfd hM2 hle (fun i hi=>gold i (Am.1 hi)) hi (fun i c hc hr=>by
    have hr:(Nat.blt i n && !A8 (ρ.p++ρ.r) i)=true:=hr
    obtain⟨_,hr⟩:=Ao hr
    show(if A8 (ρ.p++ρ.r) i=true then AL.get s i else none)=none
    rw [if_neg]
    intro hh; rw [hh] at hr; cases hr)
   have getR:∀ {i d},AL.get (Qk (Ed ρ.p ρ.p.length n np) (JH (ρ.p++ρ.r) s) s2) i=some d→(∃ j c,AL.get s2 j=some c∧Ed ρ.p ρ.p.length n np j=i∧d=c.ren (Ed ρ.p ρ.p.length n np)∧EF np nr j=true∧c.okB (EF np nr)=true)∨(rest i=true∧AL.get s i=some d):=fun {i d} hd=>by
    rcases Q0 hd with⟨j,c,q1,q2,q3⟩ | q
    · exact .inl ⟨j,c,q1,q2,q3,hin2 _ _ q1⟩
    · rw [VG] at q
      split at q
      · cases q
      · rename_i hnm
        refine .inr ⟨?_,q⟩
        have:=Am.1 (hi i d q).1
        show(Nat.blt i n && !A8 (ρ.p++ρ.r) i)=true
        rw [Ab7 this]
        simpa using hnm
   have notrest:∀ {j},EF np nr j=true→rest (Ed ρ.p ρ.p.length n np j)=true→False:=fun {j} hj hr=>by
    have hr:(Nat.blt (Ed ρ.p ρ.p.length n np j) n && !A8 (ρ.p++ρ.r) (Ed ρ.p ρ.p.length n np j))=true:=hr
    obtain⟨r1,r2⟩:=Ao hr
    have r1:Ed ρ.p ρ.p.length n np j<n:=Zaf r1
    rcases Q2.1 hj with hj | ⟨hj,_⟩
    · rcases Za2 j ρ.p.length with hjk | hjk
      · rw [Q3 hjk,Be.2 (ZaR ρ.r (C2 hjk))] at r2
        cases r2
      · rw [Q4 hjk (by omega)] at r1; omega
    · rw [Q5 hp hj] at r1; omega
   refine⟨F3,hf3,hcomb.less fun i d hd=>?_,fun i d hd=>?_,gold,gout⟩
   · rcases getR hd with⟨j,c,q1,q2,q3,q4,q5⟩ | ⟨q1,q2⟩
     · show(if rest i=true then AL.get s i else M2 i)=some d
       rw [if_neg (fun hh=>notrest q4 (by rw [q2]; exact hh))]
       subst q2 q3
       have:=finj (i:=j) (j:=j) q4 q4 rfl
       -- the first with that number
       cases hg:M2 (Ed ρ.p ρ.p.length n np j) with
       | some d' =>
        obtain⟨j',c',r1,r2,r3,r4,r5⟩:=get2 hg
        have e:=finj r4 q4 r2
        subst e
        rw [q1] at r1
        cases r1
        rw [r3]
       | none =>
        exfalso
        have key:∀ {s2:Az Ty} {j:Nat} {c:A7 Ty} {f:Nat→Nat},AL.get s2 j=some c→AL.get (Qk f [] s2) (f j)≠none:=by
         intro s2
         induction s2 with
         | nil=>intro j c f hj; cases hj
         | cons q t ih =>
          obtain⟨j0,c0⟩:=q
          intro j c f hj
          show(bif Nat.beq (f j0) (f j) then some (c0.ren f) else AL.get (Qk f [] t) (f j))≠none
          cases hb:Nat.beq (f j0) (f j) with
          | true=>simp
          | false =>
           rw [Zad]
           have hh:(bif Nat.beq j0 j then some c0 else AL.get t j)=some c:=hj
           cases hb2:Nat.beq j0 j with
           | true=>rw [Zab hb2,Nat.beq_refl] at hb; cases hb
           | false=>rw [hb2] at hh; exact ih hh
        exact key q1 hg
     · show(if rest i=true then AL.get s i else M2 i)=some d
       rw [if_pos q1]; exact q2
   · rcases getR hd with⟨j,c,q1,q2,q3,q4,q5⟩ | ⟨q1,q2⟩
     · subst q2 q3
       refine⟨(gout j q4).2,?_⟩
       exact A7.okB_ren (fun i hi=>(gout i hi).2) q5
     · have:=hi i d q2
       exact⟨Et (by omega) _ this.1,A7.okB_imp (Et (by omega)) this.2⟩
end
section
variable {Ty:Nat→Type} [UV Ty]
def Afc (f:Nat→Nat):AcJ Ty→AcJ Ty
 | .pan v=>.pan (v.ren f)
 | e=>e
def Z0 (p:Nat→Bool):AcJ Ty→Bool
 | .pan v=>v.okB p
 | _=>true
def Ab9 (p:Nat→Bool):List (Nat×V Ty)→Bool
 | []=>true
 | (_,v)::t=>v.okB p && Ab9 p t
def Ad9 (ρ:DF) (s:Az Ty) (n:Nat) (e:Wo) (a:C.Ds Ty e.all):Tr (Lf Ty) :=
 let m:=(Zby e.all a ⟨0,0,[]⟩).2
 let lf:=Nz e a
 bif Z0 (EF m.np m.nr) lf.e && Ab9 (EF m.np m.nr) lf.st.m && My (EF m.np m.nr) lf.st.s && Nat.ble (AZ ρ.p) m.np && Nat.ble m.np Au then
  let f:=Ed ρ.p (AZ ρ.p) n m.np
  .ret ⟨Afc f lf.e,⟨mapM f lf.st.m,Qk f (JH (ρ.p++ρ.r) s) lf.st.s,n+(m.np-AZ ρ.p)+m.nr⟩⟩
 else .fail
def K4 (D:List (Nat×C)) (kp:Nat) (E:List Wo) (F:C.Ds Ty (A9 D)→Option (YT Ty E)) (st:St Ty):Tr (Lf Ty):=match Ny st.m D with
 | some vs=>match Ht (A9 D) vs st.s st.nx with
  | some (x,ρ,_,s,n)=>bif Nat.beq (AZ ρ.p) kp then .ask (F x) fun y=>AeN (Ad9 ρ s n) E y else .fail
  | none=>.fail
 | none=>.fail
end
section
variable {Ty:Nat→Type} [rT:∀ k,Rep (Ty k)] [RFs] [UM Ty] [UML Ty] [UV Ty] [UL Ty] {P:Program} [UMP Ty P] {N:Nat} {y0:Bool}
def VH (y0:Bool) (P:Program) (N:Nat) (c:Code) (D:List (Nat×C)) (kp:Nat) (E:List Wo) (x:C.Ds Ty (A9 D)) (y:YT Ty E):Prop :=
 ∀ (F:Fr)(h:Ad)(g:GE)(t:Array Value)(w:World)(Q:Exit→Act→World→Prop)(d:List Deferred),RS N F h g (2*Au) (Bp D x).m (Bp D x).s t w→YK (fun l=>Aba N F h g kp Q d l) E y→CJ y0 P c Q ⟨t,d⟩ w
omit rT [UL Ty] [RFs] [UM Ty] [UML Ty] [UMP Ty P] in
theorem Xl {cs:List C} {vs:List (V Ty)} {s:Az Ty} {n:Nat} {x:C.Ds Ty cs} {ρ:DF} {rest:List (V Ty)×Az Ty×Nat} (ht:Ht cs vs s n=some (x,ρ,rest)):ρ.p.length≤Au:=by
 unfold Ht at ht
 generalize Zct cs vs s n=r at ht
 obtain⟨v1,s1,n1⟩:=r
 simp only at ht
 split at ht
 · rename_i x2 ρ2 hpk
   cases hb:(Gh (ρ2.p++ρ2.r) && Nat.ble (AZ ρ2.p) Au && Nat.ble (AZ ρ2.r) Au && Sv n1 (ρ2.p++ρ2.r)) with
   | false=>rw [hb] at ht; cases ht
   | true =>
    rw [hb,Zac] at ht
    cases ht
    obtain⟨hb,b4⟩:=Ao hb
    obtain⟨hb,b3⟩:=Ao hb
    obtain⟨b1,b2⟩:=Ao hb
    have:=Zaf b2
    rwa [A5] at this
 · cases ht
omit [RFs] [UMP Ty P] in
theorem S0 {kp:Nat}:∀ {es:List Wo} {lf:Lf Ty} {y:YT Ty es},FJ kp es lf=some y→kp≤Au
 | [],lf,y,h=>by cases h
 | [e],lf,y,h=>by
  unfold FJ at h
  cases hb:e.fits lf with
  | false=>simp only [hb] at h; cases h
  | true=>simp only [hb,Zac] at h; exact ex h
 | e::e2::es,lf,y,h=>by
  unfold FJ at h
  cases hb:e.fits lf with
  | false =>
   simp only [hb,Zad] at h
   obtain⟨b,h1,h2⟩:=Zat.1 h
   exact S0 h1
  | true =>
   simp only [hb,Zac] at h
   obtain⟨b,h1,h2⟩:=Zat.1 h
   exact ex h1
where
 ex {kp:Nat} {e:Wo} {rv:List (V Ty)} {st:St Ty} {x:C.Ds Ty e.all} (h:GS kp e rv st=some x):kp≤Au:=by
  unfold GS at h
  cases hb:Nat.beq (AZ e.ps) kp with
  | false=>rw [hb] at h; cases h
  | true =>
   rw [hb,Zac] at h
   split at h
   · split at h
     · rename_i x1 ρ rest ht
       cases hpre:PI kp ρ.p with
       | false=>rw [hpre] at h; cases h
       | true =>
        have h1:=(I1 hpre).1
        have:=Xl ht
        omega
     · cases h
   · cases h
theorem Aei {call:AT Ty} {cuts:Ld Ty} {c:Code} {D:List (Nat×C)} {kp:Nat} {E:List Wo} {x:C.Ds Ty (A9 D)} {y:YT Ty E} (hP:E5 P) (hmix:P.follows .mixedOrders=true) (hc:Cm P call)
  (hy0:y0=false→∀ args k s,(call An args k s).runK some=none) (hsc:y0=false→Fg c=true)
  (hcuts:∀ z∈Br cuts c,∀ f,cuts (GO z)=some f→Bm y0 P N f z) (hy:(Cv P N call cuts c (Bp D x)).runK (FJ kp E)=some y):VH y0 P N c D kp E x y:=by
 rw [Tr.runK_some] at hy
 obtain⟨lf,h1,h2⟩:=Zae.1 hy
 intro F h g t w Q d hs hK
 refine Bg hP hmix hc hy0 c hsc hcuts (Bp D x) lf h1 F h g t w Q d hs ?_
 intro F' d' h' g' t' w' q0 q1 q2 q3 q4
 have hkp:=S0 h2
 have hnx:(Bp D x).nx=2*Au:=rfl
 rw [hnx] at q2 q3
 exact Gy q4 (by omega) (Ad.le_refl _) (fun _ _=>rfl) h2 (YK.imp (fun l hl=>hl.of q0 q1 (fun i hi=>q2 i (by omega)) (Zal _)) hK)
theorem DR {call:Nat→AT Ty} {cuts:Nat→Ld Ty} {c:Code} {D:List (Nat×C)} {kp:Nat} {E:List Wo} {Fn:Nat→C.Ds Ty (A9 D)→Option (YT Ty E)} (hP:E5 P) (hmix:P.follows .mixedOrders=true) (hc:∀ n,Cm P (call n))
  (hy0:y0=false→∀ n args k s,(call n An args k s).runK some=none) (hsc:y0=false→Fg c=true)
  (hcuts:∀ n,∀ z∈Br (cuts n) c,∀ f,cuts n (GO z)=some f→Bm y0 P N f z) (hkp:kp≤Au) (h0:∀ x,Fn 0 x=none)
  (hr:∀ n x,(Cv P N (call n) (cuts n) c (Bp D x)).runK (EE kp D E (Fn n))=Fn (n+1) x) {n:Nat} {x:C.Ds Ty (A9 D)} {y:YT Ty E} (hy:Fn n x=some y):VH y0 P N (.loop c) D kp E x y:=by
 intro F h g t w Q d hs hK
 refine .loop (fun m a w'=>∃ F' d' h' g' t' x',a=⟨t',d'⟩∧FD F F' d d'∧Ad.le h h'∧(∀ i,i<kp→g' i=g i)∧RS N F' h' g' (2*Au) (Bp D x').m (Bp D x').s t' w'∧Fn m x' = some y) n ⟨F,d,h,g,t,x,rfl,FD.refl F d,Ad.le_refl _,fun _ _=>rfl,hs,hy⟩ ?_
 rintro m a w1 ⟨F1,d1,h1,g1,t1,x1,rfl,q0,q1,q2,q3,q4⟩
 cases m with
 | zero=>rw [h0] at q4; cases q4
 | succ m =>
  rw [← hr m x1,Tr.runK_some] at q4
  obtain⟨lf,e1,e2⟩:=Zae.1 q4
  refine Bg hP hmix (hc m) (fun hh=>hy0 hh m) c hsc (hcuts m) (Bp D x1) lf e1 F1 h1 g1 t1 w1 _ d1 q3 ?_
  intro F2 d2 h2 g2 t2 w2 r0 r1 r2 r3 r4
  have hnx:(Bp D x1).nx=2*Au:=rfl
  rw [hnx] at r2 r3
  have out:FJ kp E lf=some y→Zv Q g2 h2 lf.st.nx ⟨t2,d2⟩ w2 lf.e:=fun hl =>
   Gy r4 (by omega) (Ad.le_refl _) (fun _ _=>rfl) hl (YK.imp (fun l hl=>hl.of (q0.trans r0) (Ad.le_trans q1 r1) (fun i hi=>by rw [r2 i (by omega),q2 i hi]) (Zal _)) hK)
  unfold EE at e2
  cases he:lf.e with
  | normal =>
   rw [he] at e2
   simp only at e2
   obtain⟨x2,f1,f2⟩:=Zae.1 e2
   refine⟨m,Zbf _,?_⟩
   unfold Lq at f1
   split at f1
   · rename_i vs hvs
     split at f1
     · rename_i x3 ρ rest ht
       obtain⟨vs',s',n'⟩:=rest
       cases hpre:PI kp ρ.p with
       | false=>rw [hpre] at f1; cases f1
       | true =>
        rw [hpre,Zac] at f1
        cases f1
        obtain⟨a1,a2,sus,a3,a4⟩:=Fk r4.kn r4.im hvs
        obtain⟨h3,g3,T⟩:=CH ht r4.mem r4.is_ a1 a3
        refine⟨F2,d2,h3,fun i=>g3 (HH ρ.p ρ.r i),t2,x2,rfl,q0.trans r0,Ad.le_trans q1 (Ad.le_trans r1 T.pre.le),fun i hi=>?_,⟨r4.size,?_,T.mem,?_,T.ins⟩,f2⟩
        · show g3 (HH ρ.p ρ.r i)=g i
          rw [T3 hpre T.lp hi,T.pre.g i (Am.2 (by omega)),r2 i (by omega),q2 i hi]
        · exact FM a4 T.denc
        · exact FN T.okc
     · cases f1
   · cases f1
  | exit i=>rw [he] at e2; have:=out e2; rw [he] at this; exact this
  | ret=>rw [he] at e2; have:=out e2; rw [he] at this; exact this
  | pan v=>rw [he] at e2; have:=out e2; rw [he] at this; exact this
theorem Q6 {p:Nat→Bool}:∀ {m:List (Nat×V Ty)},Ab9 p m=true→PP p m
 | [],_=>fun k v hv=>by cases hv
 | (j,c)::t,h=>fun k v hv=>by
  unfold Ab9 at h
  obtain⟨h1,h2⟩:=Ao h
  have hh:(bif Nat.beq j k then some c else AL.get t k)=some v:=hv
  cases hb:Nat.beq j k with
  | true=>rw [hb] at hh; cases hh; exact h1
  | false=>rw [hb] at hh; exact Q6 h2 k v hh
theorem AdA {K:Lf Ty→Prop} {f:(e:Wo)→C.Ds Ty e.all→Tr (Lf Ty)} {lf:Lf Ty} (H:∀ e a,(f e a).runK some=some lf→K (Nz e a)):∀ {es:List Wo} {y:YT Ty es},(AeN f es y).runK some=some lf→YK K es y
 | [],y,h=>trivial
 | [e],y,h=>H e y h
 | e::e2::es,.inl a,h=>H e a h
 | e::e2::es,.inr b,h=>AdA H (es:=e2::es) (y:=b) h
def AbA (f g:St Ty→Tr (Lf Ty)) (st:St Ty):Tr (Lf Ty):=match f st with
 | .fail=>g st
 | t=>t
omit [UV Ty] [UL Ty] [UMP Ty P] in
theorem Yl {f g:St Ty→Tr (Lf Ty)} {c:Code} (hf:Bm y0 P N f c) (hg:Bm y0 P N g c):Bm y0 P N (AbA f g) c:=by
 intro st lf hr
 unfold AbA at hr
 split at hr
 · exact hg st lf hr
 · exact hf st lf hr
theorem FO {c:Code} {D:List (Nat×C)} {kp:Nat} {E:List Wo} {Fn:C.Ds Ty (A9 D)→Option (YT Ty E)} (hF:∀ x y,Fn x=some y→VH y0 P N c D kp E x y):Bm y0 P N (K4 D kp E Fn) c:=by
 intro st lf hr F h g t w Q d hs hK
 unfold K4 at hr
 split at hr
 · rename_i vs hvs
   split at hr
   · rename_i x ρ vs' s n ht
     cases hl:Nat.beq (AZ ρ.p) kp with
     | false=>rw [hl] at hr; cases hr
     | true =>
      rw [hl,Zac,Tr.runK_ask] at hr
      have hl:ρ.p.length=kp:=by rw [← A5]; exact Zab hl
      obtain⟨y,hy,hr⟩:=Zae.1 hr
      obtain⟨a1,a2,sus,a3,a4⟩:=Fk hs.kn hs.im hvs
      obtain⟨h1,g1,T⟩:=CH ht hs.mem hs.is_ a1 a3
      obtain⟨X,hX,back⟩:=T.pre.mem.lendC T.pre.is_ T.nodup T.lp T.lr T.lt T.cells
      refine hF x y hy ⟨F.w,F.h,X⟩ h1 (fun i=>g1 (HH ρ.p ρ.r i)) t w Q d ⟨hs.size,FM a4 T.denc,hX,FN T.okc,T.ins⟩ (AdA (fun e a ha=>?_) hr)
      intro F2 d2 h2 ge t2 w2 q0 q1 q2 q3 q4
      unfold Ad9 at ha
      simp only at ha
      cases hb:(Z0 (EF (Zby e.all a ⟨0,0,[]⟩).2.np (Zby e.all a ⟨0,0,[]⟩).2.nr) (Nz e a).e && Ab9 (EF (Zby e.all a ⟨0,0,[]⟩).2.np (Zby e.all a ⟨0,0,[]⟩).2.nr) (Nz e a).st.m && My (EF (Zby e.all a ⟨0,0,[]⟩).2.np (Zby e.all a ⟨0,0,[]⟩).2.nr) (Nz e a).st.s && Nat.ble (AZ ρ.p) (Zby e.all a ⟨0,0,[]⟩).2.np && Nat.ble (Zby e.all a ⟨0,0,[]⟩).2.np Au) with
      | false=>rw [hb] at ha; cases ha
      | true =>
       rw [hb,Zac] at ha
       generalize hmm:(Zby e.all a ⟨0,0,[]⟩).2=m at ha hb
       cases ha
       obtain⟨hb,b5⟩:=Ao hb
       obtain⟨hb,b4⟩:=Ao hb
       obtain⟨hb,b3⟩:=Ao hb
       obtain⟨b1,b2⟩:=Ao hb
       have b4:=Zaf b4
       have b5:=Zaf b5
       rw [A5] at hK b4
       obtain⟨F3,f3,p1,p2,p3,p4⟩:=back (np:=m.np) (nr:=m.nr) q0 q4.mem q1 (fun j hj=>by rw [q2 j (by omega)]; show g1 (HH ρ.p ρ.r j)=_; rw [FL (by have:=T.lp; omega)]) (HX b3) b4 b5
       have hn:=T.pre.n
       have hgg:∀ i,EF m.np m.nr i=true→JJ g1 ge ρ.p.length n m.np (Ed ρ.p ρ.p.length n m.np i)=ge i:=fun i hi=>(p4 i hi).1
       have hK2:=hK F3 d2 h2 (JJ g1 ge ρ.p.length n m.np) t2 w2 f3 (Ad.le_trans T.pre.le q1) (fun i hi=>by rw [p3 i (by omega)]; exact T.pre.g i (Am.2 hi)) (by show st.nx≤n+_+_; omega)
        ⟨q4.size,fun k v hv=>?_,p1,fun k v hv=>?_,p2⟩
       · cases he:(Nz e a).e with
         | normal=>rw [he] at hK2; exact hK2
         | exit i=>rw [he] at hK2; exact hK2
         | ret=>rw [he] at hK2; exact hK2
         | pan v =>
          rw [he] at hK2 b1
          intro u hu ho
          exact hK2 u (V.den_ren hgg v u b1 hu) (V.okB_ren (fun i hi=>(p4 i hi).2) v b1)
       · obtain⟨v0,e1,rfl⟩:=Q1 hv
         obtain⟨u,f1,f2⟩:=q4.kn k v0 e1
         exact⟨u,f1,V.den_ren hgg v0 u (Q6 b2 k v0 e1) f2⟩
       · obtain⟨v0,e1,rfl⟩:=Q1 hv
         exact V.okB_ren (fun i hi=>(p4 i hi).2) v0 (Q6 b2 k v0 e1)
   · cases hr
 · cases hr
end
section
variable {Ty:Nat→Type} [UV Ty]
def EK.isP:EK→Bool→Bool
 | .ret,false=>true
 | .pan,true=>true
 | _,_=>false
def DS (kp:Nat) (p:Bool) (rv:List (V Ty)) (st:St Ty):(es:List Wo)→Option (YT Ty es)
 | []=>none
 | e::es=>match es with
  | []=>bif e.k.isP p then GS kp e rv st else none
  | e2::es2=>bif e.k.isP p then(GS kp e rv st).elim ((DS kp p rv st (e2::es2)).map Sum.inr) fun a=>some (.inl a) else(DS kp p rv st (e2::es2)).map Sum.inr
def Gj (P:Program) (rs:List ResultVar) (kp:Nat) (E:List Wo) (lf:Lf Ty):Option (YT Ty E):=match lf.e with
 | .normal | .ret=>(Mj P lf.st.m lf.st.s rs).runK fun vs=>DS kp false vs lf.st E
 | .pan v=>DS kp true [v] lf.st E
 | .exit _=>none
def Q7 (ρ:DF) (s:Az Ty) (n:Nat) (e:Wo) (a:C.Ds Ty e.all):Tr (CR Ty) :=
 let m:=(Zby e.all a ⟨0,0,[]⟩).2
 let v:=O4 (Mx (AZ e.ps+AZ e.sl) (Zby e.all a ⟨0,0,[]⟩).1)
 bif v.okB (EF m.np m.nr) && My (EF m.np m.nr) m.s && Nat.ble (AZ ρ.p) m.np && Nat.ble m.np Au then
  let f:=Ed ρ.p (AZ ρ.p) n m.np
  .ret ⟨e.k.isP true,v.ren f,Qk f (JH (ρ.p++ρ.r) s) m.s,n+(m.np-AZ ρ.p)+m.nr⟩
 else .fail
def ET (D:List (Nat×C)) (kp:Nat) (E:List Wo) (F:C.Ds Ty (A9 D)→Option (YT Ty E)):FQ Ty:=fun args k s=>match Ht (A9 D) args s k with
 | some (x,ρ,_,s',n)=>bif Nat.beq (AZ ρ.p) kp then .ask (F x) fun y=>AeN (Q7 ρ s' n) E y else .fail
 | none=>.fail
def Lr:Nat→List (Nat×C)→Bool
 | _,[]=>true
 | i,(k,_)::r=>Nat.beq k i && Lr (i+1) r
end
section
variable {Ty:Nat→Type} [rT:∀ k,Rep (Ty k)] [RFs] [UM Ty] [UML Ty] {P:Program} {F:Fr} {h:Ad} {g:GE} {w:World} {t:Array Value}
def Ls:List Value→Value
 | [u]=>u
 | us=>.tuple us.toArray
theorem Q8 {vs:List (V Ty)} {us:List Value} (hd:V.dens g h vs us):(O4 vs).den g h (Ls us):=by
 have hl:=V.dens_len hd
 match vs,us,hd,hl with
 | [v],[u],hd,_ =>
  unfold V.dens V.dens at hd
  obtain⟨u',us',e1,e2,_⟩:=hd
  cases e1
  exact e2
 | [],[],hd,_=>unfold O4 V.den; exact⟨[],rfl,hd⟩
 | a::b::r,x::y::z,hd,_=>unfold O4 V.den; exact⟨_,rfl,hd⟩
 | [],_::_,_,hl=>simp at hl
 | [_],[],_,hl=>simp at hl
 | [_],_::_::_,_,hl=>simp at hl
 | _::_::_,[],_,hl=>simp at hl
 | _::_::_,[_],_,hl=>simp at hl
variable [UV Ty] [UL Ty]
theorem GU [UMP Ty P] {m:List (Nat×V Ty)} {s:Az Ty} {fn:Func} {vs:List (V Ty)} (hk:MM g h m t) (hm:Ag F h g (AL.get s) w) (hr:(Mj P m s fn.results.toList).runK some=some vs):∃ us,V.dens g h vs us∧(results fn t).run P w=.ok (Ls us) w:=by
 obtain⟨us,h1,h2⟩:=I5 hk hm hr
 refine⟨us,h2,?_⟩
 rw [P6,← ZaX (xs:=fn.results),List.mapM_toArray]
 simp only [Sem.run_bind,Sem.run_map,h1,Result.andThen_ok,Sem.run_pure]
 match us with
 | [u]=>simp [Ls]
 | []=>rfl
 | a::b::r=>rw [dif_neg (by simp)]; rfl
omit [RFs] [UM Ty] [UML Ty] in
theorem T4 {p:Nat→Bool} {m:List (Nat×V Ty)} {s:Az Ty} (hi:PP p m) (hs:EV p (AL.get s)):∀ {rs:List ResultVar} {vs:List (V Ty)},(Mj P m s rs).runK some=some vs→V.oksB p vs=true
 | [],vs,hh=>by cases hh; rfl
 | .tmp k::r,vs,hh=>by
  unfold Mj at hh
  split at hh
  · rename_i v hv
    obtain⟨ws,hws,hh⟩:=Tr.run_bind hh
    cases hh
    unfold V.oksB
    rw [hi k v hv,T4 hi hs hws]; rfl
  · cases hh
 | .cell a T::r,vs,hh=>by
  unfold Mj at hh
  split at hh
  · rename_i i off hv
    obtain⟨v,hlv,hh⟩:=Tr.run_bind hh
    obtain⟨ws,hws,hh⟩:=Tr.run_bind hh
    cases hh
    unfold V.oksB
    rw [Vl (hi a _ hv) (fun i c hc=>(hs i c hc).2) hlv,T4 hi hs hws]; rfl
  · cases hh
omit [UV Ty] [UL Ty] rT [RFs] [UM Ty] [UML Ty] in
theorem Lt {vals:List Value} (ht:∀ (i:Nat)(u:Value),vals[i]? = some u→t[i]? = some u):∀ {D:List (Nat×C)} {i:Nat} {us:List Value},Lr i D=true→us.length=D.length→(∀ (j:Nat)(u:Value),us[j]? = some u→vals[i+j]? = some u)→I7 t D us
 | [],i,us,_,_,_=>trivial
 | (k,c)::r,i,[],_,hl,_=>by simp at hl
 | (k,c)::r,i,u::us,hk,hl,hu=>by
  unfold Lr at hk
  obtain⟨k1,k2⟩:=Ao hk
  rw [Zab k1]
  refine⟨u,us,rfl,ht i u (by have:=hu 0 u rfl; rwa [Nat.add_zero] at this),Lt ht k2 (by simpa using hl) fun j x hx=>?_⟩
  have:=hu (j+1) x (by simpa using hx)
  rwa [show i+(j+1)=i+1+j from by omega] at this
def YR (K:(e:Wo)→C.Ds Ty e.all→Prop):(es:List Wo)→YT Ty es→Prop
 | [],_=>True
 | e::es,y=>match es,y with
  | [],y=>K e y
  | _::_,.inl a=>K e a
  | e2::es2,.inr b=>YR K (e2::es2) b
theorem Ym {ρ:Type} {K:(e:Wo)→C.Ds Ty e.all→Prop} {f:(e:Wo)→C.Ds Ty e.all→Tr ρ} {r:ρ} (H:∀ e a,(f e a).runK some=some r→K e a):∀ {es:List Wo} {y:YT Ty es},(AeN f es y).runK some=some r→YR K es y
 | [],y,h=>trivial
 | [e],y,h=>H e y h
 | e::e2::es,.inl a,h=>H e a h
 | e::e2::es,.inr b,h=>Ym H (es:=e2::es) (y:=b) h
theorem Hv {kp:Nat} {p:Bool} {rv:List (V Ty)} {st:St Ty} {K:(e:Wo)→C.Ds Ty e.all→Prop} {R:Prop} (H:∀ e a,e.k.isP p=true→GS kp e rv st=some a→K e a→R):∀ {es:List Wo} {y:YT Ty es},DS kp p rv st es=some y→YR K es y→R
 | [],y,h,_=>by cases h
 | [e],y,h,hK=>by
  unfold DS at h
  cases hb:e.k.isP p with
  | false=>simp only [hb] at h; cases h
  | true=>simp only [hb,Zac] at h; exact H e y hb h hK
 | e::e2::es,y,h,hK=>by
  unfold DS at h
  have tail:(DS kp p rv st (e2::es)).map (Sum.inr (α:=C.Ds Ty e.all))=some y→R:=fun hh=>by
   obtain⟨b,h1,h2⟩:=Zat.1 hh
   subst h2
   exact Hv H h1 hK
  cases hb:e.k.isP p with
  | false=>simp only [hb,Zad] at h; exact tail h
  | true =>
   simp only [hb,Zac] at h
   cases ha:GS kp e rv st with
   | none=>rw [ha] at h; exact tail h
   | some a =>
    rw [ha] at h
    have h:some (Sum.inl a)=some y:=h
    cases h
    exact H e a hb ha hK
omit rT [UL Ty] [RFs] [UM Ty] [UML Ty] in
theorem N3:∀ (cs:List C)(x:C.Ds Ty cs)(m:Mk Ty),(Zby cs x m).1.length=cs.length
 | [],_,_=>by unfold Zby; rfl
 | c::cs,x,m=>by unfold Zby; simp [N3 cs]
omit rT [UL Ty] [UV Ty] [RFs] [UM Ty] [UML Ty] in
theorem Q9:∀ (D:List (Nat×C)),(A9 D).length=D.length
 | []=>rfl
 | (k,c)::r=>by unfold A9; simp [Q9 r]
theorem H7 [UMP Ty P] {call:AT Ty} {cuts:Ld Ty} {f:FuncId} {fn:Func} {c:Code} {D:List (Nat×C)} {kp:Nat} {E:List Wo} {Fn:C.Ds Ty (A9 D)→Option (YT Ty E)} (hf:P.funcs[f]? = some fn) (hb:fn.body=some c) (hkey:Lr 0 D=true) (hn:D.length≤fn.ntmps) (hlt:Nat.blt f An=true)
  (hP:E5 P) (hmix:P.follows .mixedOrders=true) (hc:Cm P call) (hcuts:∀ z∈Br cuts c,∀ q,cuts (GO z)=some q→Bm true P fn.ntmps q z)
  (hF:∀ x,(Cv P fn.ntmps call cuts c (Bp D x)).runK (Gj P fn.results.toList kp E)=Fn x):AX P f (ET D kp E Fn):=by
 intro args k s r hr F h g w vals hm hin hargs hden
 unfold ET at hr
 split at hr
 · rename_i x ρ vs' s' n ht
   cases hl:Nat.beq (AZ ρ.p) kp with
   | false=>rw [hl] at hr; cases hr
   | true =>
    rw [hl,Zac,Tr.runK_ask] at hr
    have hl:ρ.p.length=kp:=by rw [← A5]; exact Zab hl
    obtain⟨y,hy,hr⟩:=Zae.1 hr
    obtain⟨h1,g1,T⟩:=CH ht hm hin hargs hden
    obtain⟨X,hX,back⟩:=T.pre.mem.lendC T.pre.is_ T.nodup T.lp T.lr T.lt T.cells
    rw [← hF x,Tr.runK_some] at hy
    obtain⟨lf,e1,e2⟩:=Zae.1 hy
    have hlen:=V.dens_len hden
    have hlenc:(Zby (A9 D) x ⟨0,0,[]⟩).1.length=D.length:=by rw [N3,Q9]
    have hvl:vals.length=D.length:=by rw [V.dens_len T.denc,hlenc]
    refine .of hlt (callsIn_wide.1 (callsIn_of_wp_marks (n:=0) hf hb trivial (wpIn_wide.2 ?_)))
    have hget:∀ i u,vals[i]? = some u→(vals.toArray++Array.replicate (fn.ntmps-vals.toArray.size) Go.undef)[i]? = some u:=fun i u hu=>by
     have hlt:i<vals.length:=(Zaq.1 hu).1
     rw [Zbn (by simpa using hlt)]
     simpa using hu
    refine(Bg (y:=true) hP hmix hc (fun hh=>by cases hh) c (fun hh=>by cases hh) hcuts (Bp D x) lf e1 ⟨F.w,F.h,X⟩ h1 (fun i=>g1 (HH ρ.p ρ.r i)) _ w _ [] ⟨?_,?_,hX,FN T.okc,T.ins⟩ ?_).wp
    · simp only [Array.size_append,Zbg,Array.size_replicate]; omega
    · exact FM (Lt hget hkey hvl fun j u hu=>by rwa [Zar]) T.denc
    · intro F2 d2 h2 g2 t2 w2 q0 q1 q2 q3 q4
      obtain⟨bs,hbs,nd,hXb⟩:=q0.ds
      rw [Zbd] at hbs
      have f0:FD (⟨F.w,F.h,X⟩:Fr) F2 [] []:=⟨q0.w,q0.h,q0.X,[],rfl,Zbt,by simp⟩
      have hnx:(Bp D x).nx=2*Au:=rfl
      rw [hnx] at q2 q3
      -- a typed end is the law's
      have fin:∀ {F3:Fr} {w3:World} {p:Bool} {rv:List (V Ty)} {rus:List Value},FD (⟨F.w,F.h,X⟩:Fr) F3 [] []→Ag F3 h2 g2 (AL.get lf.st.s) w3→DS kp p rv lf.st E=some y→V.dens g2 h2 rv rus→V.oksB (Cl lf.st.nx) rv=true→HW F h g k r (NW p (Ls rus)) w3:=fun {F3 w3 p rv rus} hf3 hm3 hty hrd hro=>by
       have q4:RS fn.ntmps F3 h2 g2 lf.st.nx lf.st.m lf.st.s t2 w3:=⟨q4.size,q4.kn,hm3,q4.im,q4.is_⟩
       refine Hv (K:=fun e a=>(Q7 ρ s' n e a).runK some=some r) (fun e a hp hx ha=>?_) hty (Ym (fun e a h=>h) hr)
       have lp:=T.lp
       obtain⟨h3,gc,r1,r2,r3,r4,r5,r6⟩:=Hu hx q4 (by omega) hrd hro
       unfold Q7 at ha
       simp only at ha
       generalize hmm:(Zby e.all a ⟨0,0,[]⟩).2=m at ha
       rw [GT,A5,A5] at ha
       generalize hvv:(Zby e.all a ⟨0,0,[]⟩).1.drop (e.ps.length+e.sl.length)=vc at ha r5 r6
       cases hbb:((O4 vc).okB (EF m.np m.nr) && My (EF m.np m.nr) m.s && Nat.ble (AZ ρ.p) m.np && Nat.ble m.np Au) with
       | false=>rw [hbb] at ha; cases ha
       | true =>
        rw [hbb,Zac] at ha
        cases ha
        obtain⟨hbb,b5⟩:=Ao hbb
        obtain⟨hbb,b4⟩:=Ao hbb
        obtain⟨b2,b3⟩:=Ao hbb
        have b4:=Zaf b4
        have b5:=Zaf b5
        rw [A5] at b4
        have hmem:Ag F3 h3 gc (AL.get m.s) w3:=by rw [← hmm]; exact r4.mem
        obtain⟨F4,hf4,p1,p2,p3,p4⟩:=back (np:=m.np) (nr:=m.nr) hf3 hmem (Ad.le_trans q1 r1) (fun j hj=>by rw [r2 j (by omega),q2 j (by omega)]; show g1 (HH ρ.p ρ.r j)=_; rw [FL (by omega)]) (HX b3) b4 b5
        have hnn:=T.pre.n
        have hgg:∀ i,EF m.np m.nr i=true→JJ g1 gc ρ.p.length n m.np (Ed ρ.p ρ.p.length n m.np i)=gc i:=fun i hi=>(p4 i hi).1
        rw [A5]
        have hpp:e.k.isP true=p:=by cases hek:e.k <;> rw [hek] at hp <;> cases p <;> first | rfl | cases hp
        refine⟨h3,JJ g1 gc ρ.p.length n m.np,Ls rus,Ad.le_trans T.pre.le (Ad.le_trans q1 r1),fun i hi=>?_,p1.back hf4,p2,?_,V.okB_ren (fun i hi=>(p4 i hi).2) _ b2,V.den_ren hgg _ _ b2 (Q8 r5),by rw [hpp]⟩
        · have:=Am.1 hi
          rw [p3 i (by omega)]; exact T.pre.g i hi
        · show k≤n+_+_; omega
      have ret:∀ {vs:List (V Ty)},(Mj P lf.st.m lf.st.s fn.results.toList).runK some=some vs→DS kp false vs lf.st E=some y→LeavesInM Fence.wide 0 P fn t2 (HW F h g k r) d2 .returning w2:=fun {vs} hvs hf=>by
       rw [hbs]
       refine Dh (F:=⟨F.w,F.h,X⟩) (h:=h2) (g:=g2) (M:=AL.get lf.st.s) (by simp) (fun F3 w3 hf3 hm3=>?_) bs F2 w2 f0 q4.mem nd hXb
       obtain⟨us,f1,f2⟩:=GU q4.kn hm3 hvs
       exact⟨Ls us,f2,fin hf3 hm3 hf f1 (T4 q4.im q4.is_ hvs)⟩
      unfold Gj at e2
      cases he:lf.e with
      | normal =>
       rw [he] at e2
       simp only at e2
       rw [Tr.runK_some] at e2
       obtain⟨vs,hvs,e2⟩:=Zae.1 e2
       exact ret hvs e2
      | ret =>
       rw [he] at e2
       simp only at e2
       rw [Tr.runK_some] at e2
       obtain⟨vs,hvs,e2⟩:=Zae.1 e2
       exact ret hvs e2
      | pan v =>
       rw [he] at e2
       intro u hu ho
       show LeavesInM Fence.wide 0 P fn t2 (HW F h g k r) d2 _ w2
       rw [hbs]
       refine Dh (F:=⟨F.w,F.h,X⟩) (h:=h2) (g:=g2) (M:=AL.get lf.st.s) (by simp) (fun F3 w3 hf3 hm3=>?_) bs F2 w2 f0 q4.mem nd hXb
       unfold LeavesIn
       exact fin (p:=true) (rus:=[u]) hf3 hm3 e2 (by unfold V.dens; exact⟨u,[],rfl,hu,by unfold V.dens; rfl⟩) (by unfold V.oksB; rw [ho]; rfl)
      | exit id=>rw [he] at e2; cases e2
 · cases hr
end
def B (l:List Nat):ByteArray:=⟨(l.map UInt8.ofNat).toArray⟩
def Lu (r:Nat):Code→Option Code
 | .seq a b=>match Lu r a with
  | some c=>some c
  | none=>Lu r b
 | .cond _ a b=>match Lu r a with
  | some c=>some c
  | none=>Lu r b
 | .block _ c | .scope c | .rangeFunc _ _ _ c=>Lu r c
 | .loop c=>bif Nat.beq (Lh c) r then some c else Lu r c
 | _=>none
def Bs (f:Func):Code:=match f.body with
 | some c=>c
 | none=>.skip
def BR (r:Nat) (f:Func):Code:=match Lu r (Bs f) with
 | some c=>c
 | none=>.skip
def Xm (r:Nat):Code→Option Code
 | .seq a b=>match Xm r a with
  | some c=>some c
  | none=>Xm r b
 | .cond _ a b=>match Xm r a with
  | some c=>some c
  | none=>Xm r b
 | .block _ c | .scope c | .loop c=>Xm r c
 | .rangeFunc f ps a b=>bif Nat.beq (Lh b) r then some (.rangeFunc f ps a b) else none
 | _=>none
def N4 (r:Nat):Code→Option Code
 | .seq a b=>match N4 r a with
  | some c=>some c
  | none=>N4 r b
 | .cond x a b=>bif Nat.beq (Lh (.cond x a b)) r then some (.cond x a b) else match N4 r a with
  | some c=>some c
  | none=>N4 r b
 | .block _ c | .scope c | .loop c | .rangeFunc _ _ _ c=>N4 r c
 | _=>none
def DT (k:J3) (f:Func):Code:=match k with
 | .loop r=>.loop (BR r f)
 | .rf r=>match Xm r (Bs f) with
  | some c=>c
  | none=>.skip
 | .cond r=>match N4 r (Bs f) with
  | some c=>c
  | none=>.skip
 | _=>.skip
def Adb:J3→J3→Bool
 | .loop a,.loop b=>Nat.beq a b
 | .rf a,.rf b=>Nat.beq a b
 | .cond a,.cond b=>Nat.beq a b
 | _,_=>false
theorem Adc:∀ {a b:J3},Adb a b=true→a=b
 | .loop a,.loop b,h=>by rw [Zab h]
 | .rf a,.rf b,h=>by rw [Zab h]
 | .cond a,.cond b,h=>by rw [Zab h]
 | .loop _,.rf _,h | .loop _,.cond _,h | .loop _,.block _,h | .rf _,.loop _,h | .rf _,.cond _,h | .rf _,.block _,h | .cond _,.loop _,h | .cond _,.rf _,h | .cond _,.block _,h | .block _,_,h=>by cases h
section
variable {Ty:Nat→Type}
abbrev EG (Ty:Nat→Type):=List (J3×(St Ty→Tr (Lf Ty)))
def A0:EG Ty→Ld Ty
 | [],_=>none
 | (r,f)::t,k=>bif Adb k r then some f else A0 t k
variable [rT:∀ k,Rep (Ty k)] [RFs] [UM Ty] [UML Ty] {y:Bool} {P:Program} {N:Nat}
def T5 (y:Bool) (P:Program) (N:Nat) (fn:Func):EG Ty→Prop
 | []=>True
 | (k,f)::t=>Bm y P N f (DT k fn)∧T5 y P N fn t
theorem VI {fn:Func}:∀ {L:EG Ty},T5 y P N fn L→∀ {k:J3} {f:St Ty→Tr (Lf Ty)},A0 L k=some f→Bm y P N f (DT k fn)
 | [],_,_,_,hf=>by cases hf
 | (j,g)::t,hL,k,f,hf=>by
  have h2:(bif Adb k j then some g else A0 t k)=some f:=hf
  cases hb:Adb k j with
  | true=>rw [hb] at h2; cases h2; rw [Adc hb]; exact hL.1
  | false=>rw [hb] at h2; exact VI hL.2 h2
theorem Ay {fn:Func} {c:Code} {L:EG Ty} {ks:List J3} (hL:T5 y P N fn L) (hz:Br (A0 L) c=ks.map fun k=>DT k fn) (hr:ks.map (fun k=>GO (DT k fn))=ks) :
  ∀ z∈Br (A0 L) c,∀ f,A0 L (GO z)=some f→Bm y P N f z:=by
 intro z hzm f hf
 rw [hz] at hzm
 obtain⟨r,hr1,rfl⟩:=ZaV.1 hzm
 have e:GO (DT r fn)=r:=by
  have key:∀ (l:List J3),l.map (fun r=>GO (DT r fn))=l→∀ r∈l,GO (DT r fn)=r:=by
   intro l
   induction l with
   | nil=>intro _ r hr; cases hr
   | cons a t ih =>
    intro h r hr
    rw [Zbm] at h
    obtain⟨h1,h2⟩:=List.cons.inj h
    rcases Zam.1 hr with rfl | hr
    · exact h1
    · exact ih h2 r hr
  exact key ks hr r hr1
 rw [e] at hf
 exact VI hL hf
abbrev Je (Ty:Nat→Type):=List (Nat×EG Ty)
def Z1:Je Ty→FuncId→Ld Ty
 | [],_=>fun _=>none
 | (j,L)::t,f=>bif Nat.beq j f then A0 L else Z1 t f
def Gl (P:Program):Je Ty→Prop
 | []=>True
 | (f,L)::t=>(∀ fn c,P.funcs[f]? = some fn→fn.body=some c→∀ x∈Br (A0 L) c,∀ q,A0 L (GO x)=some q→Bm true P fn.ntmps q x)∧Gl P t
theorem Eu:Gl P ([]:Je Ty):=trivial
theorem AbB:∀ {I:Je Ty},Gl P I→∀ (f:FuncId)(fn:Func)(c:Code),P.funcs[f]? = some fn→fn.body=some c→∀ x∈Br (Z1 I f) c,∀ q,Z1 I f (GO x)=some q→Bm true P fn.ntmps q x
 | [],_,f,fn,c,_,_,x,_,q,hq=>by cases hq
 | (j,L)::t,H,f,fn,c,hf,hb,x,hx,q,hq=>by
  have e:Z1 ((j,L)::t) f=bif Nat.beq j f then A0 L else Z1 t f:=rfl
  rw [e] at hx hq
  cases hbb:Nat.beq j f with
  | true =>
   rw [hbb] at hx hq
   have:=Zab hbb
   subst this
   exact H.1 fn c hf hb x hx q hq
  | false=>rw [hbb] at hx hq; exact AbB H.2 f fn c hf hb x hx q hq
theorem DG {f:FuncId} {fn:Func} {c:Code} {L:EG Ty} (hf:P.funcs[f]? = some fn) (hb:fn.body=some c) (H:∀ x∈Br (A0 L) c,∀ q,A0 L (GO x)=some q→Bm true P fn.ntmps q x) :
  ∀ fn c,P.funcs[f]? = some fn→fn.body=some c→∀ x∈Br (A0 L) c,∀ q,A0 L (GO x)=some q→Bm true P fn.ntmps q x:=fun fn' c' hf' hb'=>by
 rw [hf] at hf'
 cases hf'
 rw [hb] at hb'
 cases hb'
 exact H
variable [UV Ty] [UL Ty] [UMP Ty P]
abbrev BJ (P:Program) (T:List (Nat×FQ Ty)) (I:Je Ty):AT Ty:=Yf P (AcY T) (Z1 I) 9
theorem A3 {T:List (Nat×FQ Ty)} {I:Je Ty} (hP:E5 P) (hmix:P.follows .mixedOrders=true) (hT:JF P T) (hI:Gl P I):Cm P (BJ P T I):=Oa hP hmix (Qi hT) (fun f _=>AbB hI f) 9
end
def Aej (P:Program):Bool:=P.funcs.toList.all fun fn=>!(fn.name == "runtime.NumGoroutine")
theorem AbC {P:Program} (h:Aej P=true):E5 P:=fun f fn hf=>by
 have:=ZaE.1 h fn (Za4 (i:=f) (by simpa using hf))
 simpa using this
section
variable {Ty:Nat→Type}
mutual
/-- is it told without the memory? -/
def I8:V Ty→Bool
 | .int _ _ | .bool _ | .str _ | .nilp | .nils | .nilm | .nilf | .nili | .undef=>true
 | .agg cs | .tup cs=>ZdY cs
 | .ifc _ x=>I8 x
 | _=>false
def ZdY:List (V Ty)→Bool
 | []=>true
 | c::cs=>I8 c && ZdY cs
end
def Xn (v:V Ty) (s:Az Ty):V Ty×Az Ty:=match v with
 | .agg cs=>match K2 cs s with
  | (cs',s')=>(.agg cs',s')
 | v=>Si v s
def Oh (vs:List (V Ty)) (s:Az Ty):List (V Ty)×Az Ty:=match vs with
 | []=>([],s)
 | v::r=>match Xn v s with
  | (v',s1)=>match Oh r s1 with
   | (r',s2)=>(v'::r',s2)
def QA (l:FQ Ty):FQ Ty:=fun args k s=>match Oh args s with
 | (vs,_)=>bif V.oksB (fun _=>false) vs then(l vs 0 []).bind fun r=>(match r.s with
     | []=>bif I8 r.v then .ret ⟨r.p,r.v,s,k⟩ else .fail
     | _=>.fail)
  else .fail
variable [rT:∀ k,Rep (Ty k)] [RFs] [UM Ty] [UML Ty] {P:Program}
mutual
theorem Lv {g g':GE} {h h':Ad} {p:Nat→Bool}:∀ {v:V Ty} {u:Value},I8 v=true→v.den g h u→v.den g' h' u∧v.okB p=true
 | .int _ _,u,_,hv | .bool _,u,_,hv | .str _,u,_,hv | .nilp,u,_,hv | .nils,u,_,hv | .nilm,u,_,hv | .nilf,u,_,hv | .nili,u,_,hv | .undef,u,_,hv=>⟨hv,rfl⟩
 | .agg cs,u,hp,hv=>by
  unfold I8 at hp
  unfold V.den at hv ⊢
  unfold V.okB
  obtain⟨us,e,h1⟩:=hv
  obtain⟨q1,q2⟩:=Zdc (g':=g') (h':=h') (p:=p) hp h1
  exact⟨⟨us,e,q1⟩,q2⟩
 | .tup cs,u,hp,hv=>by
  unfold I8 at hp
  unfold V.den at hv ⊢
  unfold V.okB
  obtain⟨us,e,h1⟩:=hv
  obtain⟨q1,q2⟩:=Zdc (g':=g') (h':=h') (p:=p) hp h1
  exact⟨⟨us,e,q1⟩,q2⟩
 | .ifc t x,u,hp,hv=>by
  unfold I8 at hp
  unfold V.den at hv ⊢
  unfold V.okB
  obtain⟨us,e,h1⟩:=hv
  obtain⟨q1,q2⟩:=Lv (g':=g') (h':=h') (p:=p) hp h1
  exact⟨⟨us,e,q1⟩,q2⟩
 | .ptr _ _,_,hp,_ | .ept _ _,_,hp,_ | .rpt _ _ _ _,_,hp,_ | .lst _ _,_,hp,_ | .hdr _ _,_,hp,_ | .mp _,_,hp,_ | .bsl _ _,_,hp,_ | .fn _ _ _,_,hp,_ | .arr _ _,_,hp,_=>by simp [I8] at hp
theorem Zdc {g g':GE} {h h':Ad} {p:Nat→Bool}:∀ {vs:List (V Ty)} {us:List Value},ZdY vs=true→V.dens g h vs us→V.dens g' h' vs us∧V.oksB p vs=true
 | [],us,_,hv=>⟨hv,rfl⟩
 | c::cs,us,hp,hv=>by
  unfold ZdY at hp
  obtain⟨p1,p2⟩:=Ao hp
  unfold V.dens at hv ⊢
  obtain⟨u,us',e,h1,h2⟩:=hv
  obtain⟨a1,a2⟩:=Lv (g':=g') (h':=h') (p:=p) p1 h1
  obtain⟨b1,b2⟩:=Zdc (g':=g') (h':=h') (p:=p) p2 h2
  refine⟨⟨u,us',e,a1,b1⟩,?_⟩
  unfold V.oksB
  rw [a2,b2]; rfl
end
theorem Xo {F:Fr} {w:World} {n:Nat} {v:V Ty} {h:Ad} {g:GE} {s:Az Ty} {u:Value} (hm:Ag F h g (AL.get s) w) (hi:HG n (AL.get s)) (hk:v.okB (Cl n)=true) (hv:v.den g h u) :
  ∃ h' g',E7 F w h g s n h' g' (Xn v s).2 n∧(Xn v s).1.okB (Cl n)=true∧(Xn v s).1.den g' h' u:=by
 unfold Xn
 split
 · rename_i cs
   unfold V.den at hv
   unfold V.okB at hk
   obtain⟨us,e,hus⟩:=hv
   obtain⟨h',g',a,a2,a3⟩:=I6 hm hi hk hus
   refine⟨h',g',a,?_,?_⟩
   · show V.okB _ (.agg _)=true
     unfold V.okB; exact a2
   · show V.den g' h' (.agg _) u
     unfold V.den; exact⟨us,e,a3⟩
 · exact N1 hm hi hk hv
theorem Oi {F:Fr} {w:World} {n:Nat}:∀ {vs:List (V Ty)} {h:Ad} {g:GE} {s:Az Ty} {us:List Value},Ag F h g (AL.get s) w→HG n (AL.get s)→V.oksB (Cl n) vs=true→V.dens g h vs us →
  ∃ h' g',E7 F w h g s n h' g' (Oh vs s).2 n∧V.oksB (Cl n) (Oh vs s).1=true∧V.dens g' h' (Oh vs s).1 us
 | [],h,g,s,us,hm,hi,hk,hv=>⟨h,g,E7.refl hm hi,hk,hv⟩
 | v::r,h,g,s,us,hm,hi,hk,hv=>by
  unfold V.oksB at hk
  obtain⟨k1,k2⟩:=Ao hk
  unfold V.dens at hv
  obtain⟨u,us',rfl,v1,v2⟩:=hv
  obtain⟨h1,g1,a,a2,a3⟩:=Xo hm hi k1 v1
  obtain⟨h2,g2,b,b2,b3⟩:=Oi (vs:=r) a.mem a.is_ k2 (a.dens k2 v2)
  unfold Oh
  refine⟨h2,g2,a.trans b,?_,?_⟩
  · show(V.okB (Cl n) (Xn v s).1 && V.oksB (Cl n) (Oh r (Xn v s).2).1)=true
    rw [a2,b2]; rfl
  · show V.dens g2 h2 (_::_) _
    unfold V.dens
    exact⟨u,us',rfl,b.den a2 a3,b3⟩
theorem JK {f:FuncId} {l:FQ Ty} (hl:AX P f l):AX P f (QA l):=by
 intro args k s r hr F h g w vals hm hin hargs hden
 unfold QA at hr
 obtain⟨h1,g1,a,a2,a3⟩:=Oi hm hin hargs hden
 generalize hst:Oh args s=q at hr a a2 a3
 obtain⟨vs,s1⟩:=q
 simp only at hr a a2 a3
 cases hb:V.oksB (fun _=>false) vs with
 | false=>rw [hb] at hr; cases hr
 | true =>
  rw [hb,Zac] at hr
  obtain⟨r1,e1,e2⟩:=Tr.run_bind hr
  have hok:V.oksB (Cl 0) vs=true:=V.oksB_iff.2 fun x hx=>V.okB_imp (fun i hi=>by cases hi) _ (V.oksB_iff.1 hb x hx)
  have hc:=hl vs 0 [] r1 e1 ⟨w,h1,Ad0⟩ h1 g1 w vals (Ag.begin h1 w g1 a.mem.has a.mem.gl) (fun i c hi=>by cases hi) hok a3
  split at e2
  · rename_i hs
    cases hp:I8 r1.v with
    | false=>rw [hp] at e2; cases e2
    | true =>
     rw [hp,Zac] at e2
     cases e2
     refine hc.mono fun en w2 hcr=>?_
     obtain⟨h2,g2,u,q1,q2,q3,q4,q5,q6,q7,q8⟩:=hcr
     obtain⟨d1,d2⟩:=Lv (g':=g) (h':=h) (p:=Cl k) hp q7
     have b:=q3.below
     exact⟨h,g,u,Ad.le_refl _,fun _ _=>rfl,hm.grow ⟨b.os,b.tape,b.output,b.size,fun i hi _=>b.block i hi⟩,hin,Zal _,d2,d1,q8⟩
  · cases e2
end
end Go.Proofs.YtkpgggfibljflaaGreatDoor
namespace Go.Proofs.YtkpgggfibljflaaGreatDoor
noncomputable section
open Go Go.RowKit
open Rep (rep)
section
variable {Ty:Nat→Type}
def Yn (m:List (Nat×V Ty)):List Nat→Option (List (V Ty))
 | []=>some []
 | k::r=>match AL.get m k with
  | some v=>match Yn m r with
   | some vs=>some (v::vs)
   | none=>none
  | none=>none
def T6:List Nat→List (V Ty)→List (Nat×V Ty)
 | k::r,v::vs=>(k,v)::T6 r vs
 | _,_=>[]
def QB (n:Nat):List Nat→Bool
 | []=>true
 | k::r=>Nat.blt k n && QB n r
def Yo:List (V Ty)→Option (List (V Ty)×V Ty)
 | []=>none
 | [x]=>some ([],x)
 | x::r=>match Yo r with
  | some (l,y)=>some (x::l,y)
  | none=>none
def AbD (pend:Option Code) (st:St Ty):Tr (Lf Ty):=match pend with
 | none=>.ret ⟨.normal,st⟩
 | some .ret=>.ret ⟨.ret,st⟩
 | some (.exit id)=>.ret ⟨.exit id,st⟩
 | some _=>.fail
def Aek:AcJ Ty→Option (Option Code)
 | .normal=>some none
 | .ret=>some (some .ret)
 | .exit id=>some (some (.exit id))
 | .pan _=>none
variable [RFs] [UV Ty] [UM Ty]
def AeO (P:Program) (call:AT Ty) (cutsA cutsB:Ld Ty) (tag:Nat):FQ Ty:=fun args k s=>match Yo args with
 | some (vals,.mp i)=>match AL.get s i with
  | some (.lp .ready none t2 ks vs)=>bif Nat.beq t2 tag && Nat.beq (AZ vals) (AZ (RFs.rf tag).ps.toList) && Gh (RFs.rf tag).ps.toList && QB (RFs.rf tag).n (RFs.rf tag).ps.toList && Nat.blt i k && Fg (RFs.rf tag).assign && Fg (RFs.rf tag).body then
   (Cv P (RFs.rf tag).n (Aea call) cutsA (RFs.rf tag).assign ⟨T6 (RFs.rf tag).ps.toList vals++T6 ks vs,s,k⟩).bind fun l1=>match l1.e with
    | .normal=>match AL.get l1.st.s i with
     | some (.lp .ready none t3 ks3 vs3)=>(Cv P (RFs.rf tag).n (Aea call) cutsB (RFs.rf tag).body ⟨l1.st.m,AL.put l1.st.s i (.lp .busy none t3 ks3 vs3),l1.st.nx⟩).bind fun l2=>match Aek l2.e with
      | some pd=>match AL.get l2.st.s i with
       | some (.lp .busy none t4 ks4 vs4)=>J5 k false (.bool pd.isNone) (AL.put l2.st.s i (.lp (bif pd.isNone then .ready else .done) pd t4 ks4 vs4))
       | _=>.fail
      | none=>.fail
     | _=>.fail
    | _=>.fail
   else .fail
  | _=>.fail
 | _=>.fail
def Aeu (P:Program) (callI:AT Ty) (g:Operand) (tag:Nat) (ks:List Nat) (st:St Ty):Tr (Lf Ty):=match Gu st.m g,Yn st.m ks with
 | some (.fn f a b),some vs=>bif Nat.blt f An then
   (Iy P callI (AL.put st.s st.nx (.lp .ready none tag ks vs)) (st.nx+1) f (a++[.fn An [] [.mp st.nx]]++b)).bind fun oc=>match oc with
    | .ok _ ws=>match AL.get (Az.app (AL.put st.s st.nx (.lp .ready none tag ks vs)) ws) st.nx with
     | some (.lp st' pend _ _ _)=>match st' with
      | .busy=>.fail
      | _=>AbD pend ⟨st.m,AL.del (Az.app (AL.put st.s st.nx (.lp .ready none tag ks vs)) ws) st.nx,st.nx+65⟩
     | _=>.fail
    | .pan _ _=>.fail
  else .fail
 | _,_=>.fail
end
section
variable {Ty:Nat→Type} [rT:∀ k,Rep (Ty k)] [RFs] [UM Ty] [UML Ty] {F:Fr} {h:Ad} {g:GE} {M:Mo Ty} {w w':World} {P:Program} {N:Nat}
theorem Oj {m:List (Nat×V Ty)} {t:Array Value} {p:Nat→Bool} (hk:MM g h m t) (hi:PP p m):∀ {ks:List Nat} {vs:List (V Ty)},Yn m ks=some vs→V.oksB p vs=true∧AcH g h t ks vs
 | [],vs,hh=>by
  cases hh
  exact⟨rfl,rfl,[],by unfold V.dens; rfl,by simp⟩
 | k::r,vs,hh=>by
  unfold Yn at hh
  split at hh
  · rename_i v hv
    split at hh
    · rename_i ws hws
      cases hh
      obtain⟨q1,q2,us,q3,q4⟩:=Oj hk hi hws
      obtain⟨u,e1,e2⟩:=hk k v hv
      refine⟨by unfold V.oksB; rw [hi k v hv,q1]; rfl,by simp [q2],u::us,by unfold V.dens; exact⟨u,us,rfl,e2,q3⟩,fun j k' u' hj hu=>?_⟩
      cases j with
      | zero =>
       simp at hj hu
       subst hj hu
       exact e1
      | succ j=>exact q4 j k' u' (by simpa using hj) (by simpa using hu)
    · cases hh
  · cases hh
theorem QC:∀ {args:List (V Ty)} {l:List (V Ty)} {x:V Ty},Yo args=some (l,x)→args=l++[x]
 | [],_,_,h=>by cases h
 | [y],l,x,h=>by cases h; rfl
 | y::z::r,l,x,h=>by
  unfold Yo at h
  split at h
  · rename_i l' y' hl
    cases h
    rw [QC hl]; rfl
  · cases h
theorem T7 {t:Array Value}:∀ {ks:List Nat} {vs:List (V Ty)} {us:List Value},V.dens g h vs us→(∀ (j k:Nat)(u:Value),ks[j]? = some k→us[j]? = some u→t[k]? = some u)→∀ {k:Nat} {v:V Ty},AL.get (T6 ks vs) k=some v→∃ u,t[k]? = some u∧v.den g h u
 | [],vs,us,_,_,k,v,hv=>by cases vs <;> cases hv
 | _::_,[],us,_,_,k,v,hv=>by cases hv
 | j::r,x::vs,us,hd,hg,k,v,hv=>by
  unfold V.dens at hd
  obtain⟨u,us',rfl,h1,h2⟩:=hd
  have h3:(bif Nat.beq j k then some x else AL.get (T6 r vs) k)=some v:=hv
  cases hb:Nat.beq j k with
  | true =>
   rw [hb] at h3
   cases h3
   have:=Zab hb
   subst this
   exact⟨u,hg 0 j u rfl rfl,h1⟩
  | false =>
   rw [hb] at h3
   exact T7 h2 (fun j' k' u' hj hu=>hg (j'+1) k' u' (by simpa using hj) (by simpa using hu)) h3
theorem T8 {p:Nat→Bool}:∀ {ks:List Nat} {vs:List (V Ty)},V.oksB p vs=true→∀ {k:Nat} {v:V Ty},AL.get (T6 ks vs) k=some v→v.okB p=true
 | [],vs,_,k,v,hv=>by cases vs <;> cases hv
 | _::_,[],_,k,v,hv=>by cases hv
 | j::r,x::vs,ho,k,v,hv=>by
  unfold V.oksB at ho
  obtain⟨o1,o2⟩:=Ao ho
  have h3:(bif Nat.beq j k then some x else AL.get (T6 r vs) k)=some v:=hv
  cases hb:Nat.beq j k with
  | true=>rw [hb] at h3; cases h3; exact o1
  | false=>rw [hb] at h3; exact T8 o2 h3
theorem AL.get_append {α:Type}:∀ (l r:List (Nat×α))(k:Nat),AL.get (l++r) k=match AL.get l k with | some v=>some v | none=>AL.get r k
 | [],r,k=>rfl
 | (j,v)::l,r,k=>by
  show(bif Nat.beq j k then some v else AL.get (l++r) k)=match (bif Nat.beq j k then some v else AL.get l k) with | some v=>some v | none=>AL.get r k
  cases Nat.beq j k with
  | true=>rfl
  | false=>exact AL.get_append l r k
theorem S1:∀ {ks:List Nat} {vs:List (V Ty)} {k:Nat},ks.length=vs.length→AL.get (T6 ks vs) k=none→k ∉ ks
 | [],_,k,_,_=>by simp
 | j::r,[],k,hl,_=>by simp at hl
 | j::r,v::vs,k,hl,hn=>by
  have h3:(bif Nat.beq j k then some v else AL.get (T6 r vs) k)=none:=hn
  cases hb:Nat.beq j k with
  | true=>rw [hb] at h3; cases h3
  | false =>
   rw [hb] at h3
   have:=S1 (by simpa using hl) h3
   intro hm
   rcases Zam.1 hm with rfl | hm
   · simp at hb
   · exact this hm
theorem VJ:∀ (ps:List Nat)(us:List Value)(t:Array Value),ps.length=us.length→ps.Nodup→(∀ p∈ps,p<t.size) →
  ((ps.zip us).foldl (fun tmps x=>tmps.setIfInBounds x.1 x.2) t).size=t.size∧(∀ (j k:Nat)(u:Value),ps[j]? = some k→us[j]? = some u→((ps.zip us).foldl (fun tmps x=>tmps.setIfInBounds x.1 x.2) t)[k]? = some u)∧(∀ k,k ∉ ps→((ps.zip us).foldl (fun tmps x=>tmps.setIfInBounds x.1 x.2) t)[k]? = t[k]?)
 | [],us,t,_,_,_=>⟨rfl,by simp,fun _ _=>rfl⟩
 | p::ps,[],t,hl,_,_=>by simp at hl
 | p::ps,u::us,t,hl,hn,hb=>by
  obtain⟨n1,n2⟩:=Zbi.1 hn
  obtain⟨h1,h2,h3⟩:=VJ ps us (t.setIfInBounds p u) (by simpa using hl) n2 (fun q hq=>by simpa using hb q (by simp [hq]))
  refine⟨by simpa using h1,fun j k v hj hv=>?_,fun k hk=>?_⟩
  · cases j with
    | zero =>
     simp at hj hv
     subst hj hv
     show(List.foldl _ _ _)[p]? = some u
     rw [List.zip_cons_cons,List.foldl_cons,h3 p n1]
     simp [hb p (by simp)]
    | succ j=>exact h2 j k v (by simpa using hj) (by simpa using hv)
  · rw [List.zip_cons_cons,List.foldl_cons,h3 k (fun hh=>hk (by simp [hh]))]
    rw [ZaN (fun hh=>hk (by simp [hh]))]
theorem QD {n:Nat}:∀ {l:List Nat},QB n l=true→∀ k∈l,k<n
 | [],_,k,hk=>by cases hk
 | j::r,h,k,hk=>by
  unfold QB at h
  obtain⟨h1,h2⟩:=Ao h
  rcases Zam.1 hk with rfl | hk
  · exact Zaf h1
  · exact QD h2 k hk
variable [UV Ty] [UL Ty] [UMP Ty P]
theorem Ag.loopTo {i:Nat} {st st':LoopState} {pd pd':Option Code} {tag:Nat} {ks:List Nat} {vs:List (V Ty)} {s:Az Ty} (hm:Ag F h g (AL.get s) w) (hi:AL.get s i=some (.lp st pd tag ks vs)) :
  ∃ r,w.heap[(g i).b]? = some (.loop r)∧r.state=st∧r.pending=pd∧r.params=(RFs.rf tag).ps∧r.assign=(RFs.rf tag).assign∧r.body=(RFs.rf tag).body∧r.tmps.size=(RFs.rf tag).n∧AcH g h r.tmps ks vs ∧
   Ag F h g (AL.get (AL.put s i (.lp st' pd' tag ks vs))) (w.putObj (g i).b (.loop { r with state:=st',pending:=pd' })):=by
 obtain⟨h0,r,c1,c2,c3,c4,c5,c6,c7,c8⟩:=hm.cell i _ hi
 refine⟨r,c1,c2,c3,c4,c5,c6,c7,c8,?_⟩
 have hput:AL.get (AL.put s i (.lp st' pd' tag ks vs))=Mo.put (AL.get s) i (some (.lp st' pd' tag ks vs)):=by
  funext j; rw [AL.get_put]; unfold Mo.put
  by_cases hij:i=j
  · rw [if_pos hij,if_pos hij.symm]
  · rw [if_neg hij,if_neg (fun hh=>hij hh.symm)]
 rw [hput]
 exact hm.set hi h0 (Gt w _ _) ⟨h0,_,World.putObj_heap_same (Zag.1 c1).1,rfl,rfl,c4,c5,c6,c7,c8⟩
theorem HG.putC {n i:Nat} {s:Az Ty} {c:A7 Ty} (hin:HG n (AL.get s)) (hi:i<n) (hc:c.okB (Cl n)=true):HG n (AL.get (AL.put s i c)):=fun j d hj=>by
 rw [AL.get_put] at hj
 split at hj
 · rename_i hh; subst hh; cases hj; exact⟨Am.2 hi,hc⟩
 · exact hin j d hj
theorem Xp {call:AT Ty} {cutsA cutsB:Ld Ty} {tag:Nat} (hP:E5 P) (hmix:P.follows .mixedOrders=true) (hc:Cm P call)
  (hA:∀ z∈Br cutsA (RFs.rf tag).assign,∀ f,cutsA (GO z)=some f→Bm false P (RFs.rf tag).n f z) (hB:∀ z∈Br cutsB (RFs.rf tag).body,∀ f,cutsB (GO z)=some f→Bm false P (RFs.rf tag).n f z) :
  AX P An (AeO P call cutsA cutsB tag):=by
 intro args k s r hr F h g w vals hm hin hargs hden
 unfold AeO at hr
 split at hr
 · rename_i vl i hlast
   have hlast:=QC hlast
   subst hlast
   split at hr
   · rename_i t2 ks vs hcell
     cases hb:(Nat.beq t2 tag && Nat.beq (AZ vl) (AZ (RFs.rf tag).ps.toList) && Gh (RFs.rf tag).ps.toList && QB (RFs.rf tag).n (RFs.rf tag).ps.toList && Nat.blt i k && Fg (RFs.rf tag).assign && Fg (RFs.rf tag).body) with
     | false=>rw [hb] at hr; cases hr
     | true =>
      rw [hb,Zac] at hr
      obtain⟨hb,b7⟩:=Ao hb
      obtain⟨hb,b6⟩:=Ao hb
      obtain⟨hb,b5⟩:=Ao hb
      obtain⟨hb,b4⟩:=Ao hb
      obtain⟨hb,b3⟩:=Ao hb
      obtain⟨b1,b2⟩:=Ao hb
      have b1:=Zab b1
      subst b1
      have b2:=Zab b2
      rw [A5,A5] at b2
      have b3:=Fh b3
      have b5:i<k:=Zaf b5
      -- the values
      obtain⟨us,hus⟩:∃ us,vals=us++[Value.map (some (g i).b)]∧V.dens g h vl us:=by
       have key:∀ {vl:List (V Ty)} {vals:List Value},V.dens g h (vl++[.mp i]) vals→∃ us,vals=us++[Value.map (some (g i).b)]∧V.dens g h vl us:=by
        intro vl
        induction vl with
        | nil =>
         intro vals hd
         obtain⟨u,rfl,hu⟩:=Mt hd
         unfold V.den at hu
         exact⟨[],by rw [hu]; rfl,by unfold V.dens; rfl⟩
        | cons a vl ih =>
         intro vals hd
         rw [ZaP] at hd
         unfold V.dens at hd
         obtain⟨u,us',rfl,h1,h2⟩:=hd
         obtain⟨us,rfl,h3⟩:=ih h2
         exact⟨u::us,rfl,by unfold V.dens; exact⟨u,us,rfl,h1,h3⟩⟩
       exact key hden
      obtain⟨rfl,husd⟩:=hus
      have hul:=V.dens_len husd
      obtain⟨hnl,rr,c1,c2,c3,c4,c5,c6,c7,c8⟩:=hm.cell i _ hcell
      have hvok:=(hin i _ hcell).2
      obtain⟨hkl,kus,kd,kg⟩:=c8
      obtain⟨l1,e1,e2⟩:=Tr.run_bind hr
      show Es P An _ w _
      unfold Es
      rw [if_pos rfl]
      refine⟨(g i).b,us,rr,rfl,c1,by rw [c4,← ZaG,← b2,hul],?_⟩
      refine roundIn_of_wpIn trivial ?_
      have hzip:((rr.params.zip us.toArray).foldl (fun tmps x=>tmps.setIfInBounds x.1 x.2) rr.tmps)=(((RFs.rf t2).ps.toList.zip us).foldl (fun tmps x=>tmps.setIfInBounds x.1 x.2) rr.tmps):=by
       rw [c4,← Array.foldl_toList]
       congr 1
       simp
      obtain⟨p1,p2,p3⟩:=VJ (RFs.rf t2).ps.toList us rr.tmps (by rw [← b2,hul]) b3 (fun q hq=>by rw [c7]; exact QD b4 q hq)
      have hargs2:V.oksB (Cl k) vl=true:=V.oksB_iff.2 fun x hx=>V.oksB_iff.1 hargs x (ZaR _ hx)
      have hL1:∀ (F1:Fr)(h1:Ad)(g1:GE)(w1:World),True:=fun _ _ _ _=>trivial
      rw [c5,c6]
      refine(Bg (y:=false) hP hmix (Xh hc) (fun _=>Qg) (RFs.rf t2).assign (fun _=>b6) hA _ l1 e1 F h g _ w _ [] ⟨?_,?_,hm,?_,hin⟩ ?_).rd (fun⟨_,_,hh⟩=>hh) (g i).b
      · rw [hzip,p1,c7]
      · intro q v hv
        rw [AL.get_append] at hv
        rw [hzip]
        split at hv
        · rename_i v' hv'
          cases hv
          exact T7 husd p2 hv'
        · rename_i hnone
          obtain⟨u,f1,f2⟩:=T7 kd kg hv
          exact⟨u,by rw [p3 q (S1 b2.symm hnone)]; exact f1,f2⟩
      · intro q v hv
        rw [AL.get_append] at hv
        split at hv
        · rename_i v' hv'
          cases hv
          exact T8 hargs2 hv'
        · exact T8 hvok hv
      · intro F1 d1 h1 g1 t1 w1 q0 q1 q2 q3 q4
        cases he:l1.e with
        | normal =>
         rw [he] at e2
         simp only at e2
         split at e2
         · rename_i t3 ks3 vs3 hcell3
           have hi1:i<l1.st.nx:=by
            have:k≤l1.st.nx:=q3
            omega
           obtain⟨r3,d1',d2,d3,d4,d5,d6,d7,d8,hm3⟩:=q4.mem.loopTo (st':=.busy) (pd':=none) hcell3
           have hgi:g1 i=g i:=q2 i b5
           obtain⟨l2,f1,f2⟩:=Tr.run_bind e2
           refine⟨_,run_beginRound (by rw [← hgi]; exact d1') d2,?_⟩
           have hbusy:({ r3 with state:=LoopState.busy }:Loop)={ r3 with state:=.busy,pending:=none }:=by rw [← d3]
           rw [hbusy,← hgi]
           refine(Bg (y:=false) hP hmix (Xh hc) (fun _=>Qg) (RFs.rf t2).body (fun _=>b7) hB _ l2 f1 F1 h1 g1 t1 _ _ d1 ⟨q4.size,q4.kn,hm3,q4.im,q4.is_.putC hi1 (q4.is_ _ _ hcell3).2⟩ ?_).rd (fun⟨_,_,hh⟩=>hh) _
           intro F2 d2' h2 g2 t2' w2 r0 r1 r2 r3' r4
           split at f2
           · rename_i pd hpd
             split at f2
             · rename_i t4 ks4 vs4 hcell4
               have hi2:i<l2.st.nx:=by
                have:l1.st.nx≤l2.st.nx:=r3'
                omega
               obtain⟨r5,s1,s2,s3,s4,s5,s6,s7,s8,hm5⟩:=r4.mem.loopTo (st':=bif pd.isNone then .ready else .done) (pd':=pd) hcell4
               have hg2:g2 i=g1 i:=r2 i hi1
               obtain⟨g3,a1,a2,a3,a4,a5,a6,a7⟩:=Mw hm5 (r4.is_.putC hi2 (r4.is_ _ _ hcell4).2) (u:=.bool pd.isNone) (by unfold V.den; rfl) f2
               have hR:HW F h g k r (.returned (.bool pd.isNone)) (w2.putObj (g2 i).b (.loop { r5 with state:=bif pd.isNone then .ready else .done,pending:=pd })) :=
                ⟨h2,g3,_,Ad.le_trans q1 r1,fun j hj=>by
                 have hjk:=Am.1 hj
                 have hkn:k≤l1.st.nx:=q3
                 rw [a1 j hj,r2 j (Zai hjk hkn),q2 j hjk],(a2.back r0).back q0,a3,a4,a5,a6,by rw [a7]; rfl⟩
               have fin:∃ v w',(Instr.endRound (g1 i).b pd).run P w2=.ok v w'∧HW F h g k r (.returned v) w':=by
                refine⟨.bool pd.isNone,_,run_endRound (r:=r5) pd (by rw [← hg2]; exact s1),?_⟩
                rw [← hg2]
                cases pd <;> exact hR
               cases he2:l2.e with
               | normal=>rw [he2] at hpd; cases hpd; exact fin
               | ret=>rw [he2] at hpd; cases hpd; exact fin
               | exit id=>rw [he2] at hpd; cases hpd; exact fin
               | pan v=>rw [he2] at hpd; cases hpd
             · cases f2
           · cases f2
         · cases e2
        | exit id=>rw [he] at e2; cases e2
        | ret=>rw [he] at e2; cases e2
        | pan v=>rw [he] at e2; cases e2
   · cases hr
 · cases hr
end
section
variable {Ty:Nat→Type} [rT:∀ k,Rep (Ty k)] [RFs] [UM Ty] [UML Ty] {F:Fr} {h:Ad} {g:GE} {M:Mo Ty} {w w':World} {P:Program} {N:Nat}
theorem Ag.allocX (hm:Ag F h g M w) (o:Obj):Ag (F.put w.heap.size (some o)) h g M (w.alloc o):=by
 have hm2:=hm.grow (World.grownBy_alloc w o none)
 refine⟨hm2.below,hm2.le,hm2.old,hm2.has,hm2.cell,fun i c hi hn=>?_,hm2.inj,fun b x hx=>?_,hm2.glo⟩
 · obtain⟨q1,q2,q3,q4⟩:=hm2.own i c hi hn
   have:=(hm.own i c hi hn).2.1
   refine⟨q1,q2,?_,q4⟩
   show(if (g i).b=w.heap.size then _ else F.X (g i).b)=none
   rw [if_neg (by omega)]; exact q3
 · replace hx:(if b=w.heap.size then some o else F.X b)=some x:=hx
   split at hx
   · rename_i hb
     cases hx
     subst hb
     refine⟨hm.size,World.alloc_heap_new _ _,fun ofs=>?_⟩
     cases hx:h w.heap.size ofs with
     | none=>rfl
     | some x=>have:=hm.lt hx; omega
   · exact hm2.ext b x hx
theorem Ag.X_new (hm:Ag F h g M w):F.X w.heap.size=none:=by
 cases hx:F.X w.heap.size with
 | none=>rfl
 | some x=>have:=(Zag.1 (hm.ext _ x hx).2.1).1; omega
variable [UV Ty] [UL Ty] [UMP Ty P]
theorem Ael {callI:AT Ty} {g0:Operand} {tag:Nat} {ks:List Nat} {ps:Array Tmp} {assign body:Code} (hP:E5 P) (hc:Cm P callI) (hrf:RFs.rf tag=⟨N,ps,assign,body⟩):Bm true P N (Aeu P callI g0 tag ks) (.rangeFunc g0 ps assign body):=by
 intro st lf hr F h g t w Q d hs hK
 unfold Aeu at hr
 split at hr
 · rename_i f a b vs hg0 hvs
   cases hlt:Nat.blt f An with
   | false=>rw [hlt] at hr; cases hr
   | true =>
    rw [hlt,Zac] at hr
    obtain⟨oc,hr1,hr2⟩:=Tr.run_bind hr
    have hge:=Nr (d:=d) hs.kn g0 _ hg0
    have hgo:=AaW hs.im g0 _ hg0
    unfold V.den at hge
    obtain⟨as,bs,hge,ha,hb⟩:=hge
    rw [PA hlt] at hge
    unfold V.okB at hgo
    obtain⟨o1,o2⟩:=Ao hgo
    obtain⟨hvok,hkvs⟩:=Oj hs.kn hs.im hvs
    have hnx:∀ i,Cl st.nx i=true→Cl (st.nx+1) i=true:=Et (Nat.le_succ _)
    show(Code.rangeFunc g0 ps assign body).wp P Q ⟨t,d⟩ w
    refine wpIn_wide.1 (wpIn_rangeFunc (n:=0) fun fn _=>?_)
    -- the memory at the call
    have hmA:=hs.mem.allocX (.deferred (some []))
    have hXn:=hs.mem.X_new
    have hsz:(w.alloc (.deferred (some []))).heap.size=w.heap.size+1:=by simp
    have hfd:FD F (F.put w.heap.size (some (.deferred (some [])))) d (Ve w.heap.size::d):=by
     refine⟨rfl,rfl,fun b x hx=>?_,[w.heap.size],rfl,by simp,fun b hb=>?_⟩
     · show(if b=w.heap.size then _ else F.X b)=some x
       rw [if_neg (fun hh=>by rw [hh,hXn] at hx; cases hx)]; exact hx
     · simp at hb
       subst hb
       refine⟨hXn,?_⟩
       show(if w.heap.size=w.heap.size then _ else _)=_
       rw [if_pos rfl]
    have hnewg:∀ i,Cl st.nx i=true→F5 g st.nx ⟨w.heap.size+1,0,0,false⟩ i=g i:=fun i hi=>CT (FW _) hi
    have hput:AL.get (AL.put st.s st.nx (.lp .ready none tag ks vs))=Mo.put (AL.get st.s) st.nx (some (.lp .ready none tag ks vs)):=by
     funext j; rw [AL.get_put]; unfold Mo.put
     by_cases hij:st.nx=j
     · rw [if_pos hij,if_pos hij.symm]
     · rw [if_neg hij,if_neg (fun hh=>hij hh.symm)]
    have hm1:Ag (F.put w.heap.size (some (.deferred (some [])))) h (F5 g st.nx ⟨w.heap.size+1,0,0,false⟩) (AL.get (AL.put st.s st.nx (.lp .ready none tag ks vs))) (Kj w ⟨.ready,none,fn,t,ps,assign,body,w.heap.size⟩):=by
     rw [hput]
     refine hmA.newB (FW _) hs.is_ (World.grownBy_alloc _ _ none) (by show(w.alloc _).heap.size≤w.heap.size+1; rw [hsz]; exact Zal _) (by show w.heap.size+1<((w.alloc (.deferred (some []))).alloc _).heap.size; rw [World.size_alloc,hsz]; exact Zbf _) ?_
     refine⟨rfl,⟨.ready,none,fn,t,ps,assign,body,w.heap.size⟩,?_,rfl,rfl,(congrArg LI.ps hrf).symm,(congrArg LI.assign hrf).symm,(congrArg LI.body hrf).symm,hs.size.trans (congrArg LI.n hrf).symm,?_⟩
     · have:=World.alloc_heap_new (w.alloc (.deferred (some []))) (.loop ⟨.ready,none,fn,t,ps,assign,body,w.heap.size⟩)
       rw [hsz] at this
       exact this
     · have:=hkvs.ren (g':=F5 g st.nx ⟨w.heap.size+1,0,0,false⟩) (f:=id) hnewg hvok
       rw [V.rens_id] at this
       exact this
    have hin1:EV (Cl (st.nx+1)) (AL.get (AL.put st.s st.nx (.lp .ready none tag ks vs))):=HG.putC (EV.mono hs.is_ hnx) (Zbf _) (V.oksB_imp hnx _ hvok)
    have hyd:V.dens (F5 g st.nx ⟨w.heap.size+1,0,0,false⟩) h (a++[.fn An [] [.mp st.nx]]++b) (as++[Value.func (.yield (w.heap.size+1)) #[] #[]]++bs):=by
     refine V.dens_append (V.dens_append (V.dens_agree hnewg o1 ha) ?_) (V.dens_agree hnewg o2 hb)
     unfold V.dens V.dens
     refine⟨_,[],rfl,?_,rfl⟩
     unfold V.den
     refine⟨[],[.map (some (w.heap.size+1))],?_,by unfold V.dens; rfl,?_⟩
     · unfold Zi; rw [if_pos rfl]
     · unfold V.dens V.dens
       refine⟨_,[],rfl,?_,rfl⟩
       unfold V.den
       rw [BA]
    have hyo:V.oksB (Cl (st.nx+1)) (a++[.fn An [] [.mp st.nx]]++b)=true:=by
     refine V.oksB_append (V.oksB_append (V.oksB_imp hnx _ o1) ?_) (V.oksB_imp hnx _ o2)
     show(true && (Cl (st.nx+1) st.nx && true) && true)=true
     rw [Am.2 (Zbf _)]; rfl
    obtain⟨hent,hcalls⟩:=I2 (K:=fun _ w''=>rangePost Fence.wide 0 P (w.heap.size+1) Q ⟨t,Ve w.heap.size::d⟩ (.returned .nilFunc) w'') (Q:=Q) (a:=⟨t,Ve w.heap.size::d⟩) (dst:=none) hP hc hm1 (FW _) hin1 hyd hyo hr1 (by
     cases oc with
     | pan v ws=>cases hr2
     | ok v ws =>
      simp only at hr2
      intro h' g' w2 u q1 q2 q3 q4 q5 q6
      rw [← Az.get_app] at q3 q4
      split at hr2
      · rename_i st' pend tag' ks' vs' hcell
        have hgn:(g' st.nx).b=w.heap.size+1:=by rw [q2 _ (Am.2 (Zbf _)),BA]
        obtain⟨hnl,r,c1,c2,c3,_⟩:=q3.cell _ _ hcell
        rw [hgn] at c1
        have hbz:r.state≠.busy:=by
         rw [c2]
         split at hr2
         · cases hr2
         · rename_i hne; exact hne
        have hj:(AbD pend ⟨st.m,AL.del (Az.app (AL.put st.s st.nx (.lp .ready none tag ks vs)) ws) st.nx,st.nx+65⟩).runK some=some lf:=by
         split at hr2
         · cases hr2
         · exact hr2
        have hdel:∀ i c,AL.get (AL.del (Az.app (AL.put st.s st.nx (.lp .ready none tag ks vs)) ws) st.nx) i=some c→AL.get (Az.app (AL.put st.s st.nx (.lp .ready none tag ks vs)) ws) i=some c∧i≠st.nx:=fun i c hi=>by
         rw [AL.get_del] at hi
         split at hi
         · cases hi
         · rename_i hne; exact⟨hi,fun hh=>hne hh.symm⟩
        obtain⟨w1,w2',w3,w4⟩:=q3.own _ _ hcell hnl
        rw [hgn] at w1 w2' w3 w4
        have hm4:Ag (F.put w.heap.size (some (.deferred (some [])))) h' g' (AL.get (AL.del (Az.app (AL.put st.s st.nx (.lp .ready none tag ks vs)) ws) st.nx)) (w2.putObj (w.heap.size+1) (.loop { r with state:=.exhausted })):=by
         refine(q3.less fun i c hi=>(hdel i c hi).1).setFree (Gt w2 _ _) w1 w3 w4 fun j c hj hnj heq=>?_
         obtain⟨e1,e2⟩:=hdel j c hj
         exact e2 (q3.inj _ _ _ _ e1 hcell hnj hnl (by rw [heq,hgn]))
        have hup:∀ i,Rj (Cl (st.nx+1)) (st.nx+1) i=true→Cl (st.nx+65) i=true:=fun i hi=>by
         have:=Tu i hi
         exact this
        have hgst:∀ i,i<st.nx→g' i=g i:=fun i hi=>by rw [q2 i (Am.2 (by omega)),hnewg i (Am.2 hi)]
        have hrs:RS N (F.put w.heap.size (some (.deferred (some [])))) h' g' (st.nx+65) st.m (AL.del (Az.app (AL.put st.s st.nx (.lp .ready none tag ks vs)) ws) st.nx) t (w2.putObj (w.heap.size+1) (.loop { r with state:=.exhausted })) :=
         ⟨hs.size,hs.kn.mono hs.im q1 (fun i hi=>hgst i (Am.1 hi)),hm4,hs.im.mono (Et (by omega)),fun i c hi=>by
          obtain⟨e1,_⟩:=hdel i c hi
          have:=q4 i c e1
          exact⟨hup _ this.1,A7.okB_imp hup this.2⟩⟩
        refine⟨r.pending,_,run_endLoop c1 hbz,?_⟩
        generalize w2.putObj (w.heap.size+1) (.loop { r with state:=.exhausted })=w4 at hrs ⊢
        rw [c3]
        unfold AbD at hj
        split at hj
        · cases hj
          exact hK _ _ h' g' t _ hfd q1 hgst (by simp only; omega) hrs
        · cases hj
          exact wpIn_ret (hK _ _ h' g' t _ hfd q1 hgst (by simp only; omega) hrs)
        · cases hj
          exact wpIn_exit (hK _ _ h' g' t _ hfd q1 hgst (by simp only; omega) hrs)
        · cases hj
      · cases hr2)
    have hne:=Nj hlt
    have hcalls:=hcalls.calls hne
    refine⟨w.heap.size+1,[Ve w.heap.size],Kj w ⟨.ready,none,fn,t,ps,assign,body,w.heap.size⟩,{ target:=.fn (.func f) bs.toArray,args:=as.toArray++#[.func (.yield (w.heap.size+1)) #[] #[]] },
     Kj w ⟨.ready,none,fn,t,ps,assign,body,w.heap.size⟩,f,as.toArray++#[.func (.yield (w.heap.size+1)) #[] #[]]++bs.toArray,Kj w ⟨.ready,none,fn,t,ps,assign,body,w.heap.size⟩,?_,?_,fun _ _=>trivial,?_,fun hh=>by simp [Fence.wide] at hh,?_⟩
    · exact run_enterLoop_outer _ _ _ _ _
    · simp only [resolve,rangeCall,hge,Deferred.ofValue,List.map_toArray,Zbm,List.map_nil]
      simp only [Act.eval]
      rfl
    · simp only [invoke,hent hne]
    · refine callsIn_wide.2 (Calls.mono (by simpa using hcalls) ?_)
      intro en w2 hh
      cases en <;> exact hh
 · cases hr
end
section
variable (Ty:Nat→Type) [rT:∀ k,Rep (Ty k)]
structure TB (α:Type) [Rep α] where
 on:Bool
 sz:Nat
 view:α→List (V Ty)
 pack:List (V Ty)→Option α
structure TB.Ok {α:Type} [Rep α] (b:TB Ty α):Prop where
 sz_eq:b.sz=Rep.sz α
 view_den:∀ (g:GE)(h:Ad)(x:α)(us:List Value),rep h x us→V.dens g h (b.view x) us
 view_ok:∀ (p:Nat→Bool)(x:α),V.oksB p (b.view x)=true
 pack_rep:∀ (g:GE)(h:Ad)(vs:List (V Ty))(x:α)(us:List Value),b.pack vs=some x→V.dens g h vs us→rep h x us
end
section
variable {Ty:Nat→Type} [rT:∀ k,Rep (Ty k)]
def TB.one {α:Type} [Rep α] (view:α→V Ty) (pack:V Ty→Option α):TB Ty α:=⟨true,1,fun x=>[view x],fun vs=>match vs with
 | [v]=>pack v
 | _=>none⟩
theorem TB.one_ok {α:Type} [Rep α] {view:α→V Ty} {pack:V Ty→Option α} (hs:Rep.sz α=1) (h1:∀ (g:GE)(h:Ad)(x:α)(u:Value),rep h x [u]→(view x).den g h u) (h2:∀ p x,(view x).okB p=true)
  (h3:∀ (g:GE)(h:Ad)(v:V Ty)(x:α)(u:Value),pack v=some x→v.den g h u→rep h x [u]):(TB.one view pack).Ok:=by
 refine⟨hs.symm,fun g h x us hr=>?_,fun p x=>?_,fun g h vs x us hp hv=>?_⟩
 · have hl:=Rep.len hr
   rw [hs] at hl
   match us,hl with
   | [u],_ =>
    show V.dens g h [view x] [u]
    unfold V.dens V.dens
    exact⟨u,[],rfl,h1 g h x u hr,rfl⟩
 · show V.oksB p [view x]=true
   unfold V.oksB V.oksB
   rw [h2]; rfl
 · match vs,hp,hv with
   | [v],hp,hv =>
    unfold V.dens V.dens at hv
    obtain⟨u,us',e,q1,q2⟩:=hv
    subst e q2
    exact h3 g h _ x u hp q1
   | [],hp,_=>cases hp
   | _::_::_,hp,_=>cases hp
instance : Rep Unit:=⟨0,fun _ _ cs=>cs=[],fun _ h=>h,fun h=>by subst h; rfl,fun h v hv=>by subst h; simp at hv⟩
def AbE:TB Ty Unit:=⟨false,0,fun _=>[],fun _=>none⟩
theorem Z2:(AbE (Ty:=Ty)).Ok:=⟨rfl,fun g h x us hr=>by rw [show us=[] from hr]; rfl,fun _ _=>rfl,fun g h vs x us hp _=>by cases hp⟩
def AdB:V Ty→Option Int
 | .int .i64 n=>some n
 | _=>none
def AeP (k:IntKind):V Ty→Option (IK k)
 | .int k' n=>if k' = k then some ⟨n⟩ else none
 | _=>none
def AbF:V Ty→Option Bool
 | .bool b=>some b
 | _=>none
def AdC:V Ty→Option ByteArray
 | .str s=>some s
 | _=>none
def Afn (k:Nat):V Ty→Option (List (Ty k))
 | .lst k' l=>if h:k' = k then some (h▸l) else none
 | .nils=>some []
 | _=>none
def At:TB Ty Int:=TB.one (fun x=>.int .i64 x) AdB
def Lw (k:IntKind):TB Ty (IK k):=TB.one (fun x=>.int k x.n) (AeP k)
def AbG:TB Ty Bool:=TB.one (fun x=>.bool x) AbF
def AdD:TB Ty ByteArray:=TB.one (fun x=>.str x) AdC
def OM (k:Nat):TB Ty (List (Ty k)):=TB.one (fun x=>.lst k x) (Afn k)
theorem Af:(At (Ty:=Ty)).Ok:=TB.one_ok rfl (fun g h x u hr=>by have e:[u]=[.int .i64 x]:=hr; cases e; unfold V.den; rfl) (fun _ _=>rfl) fun g h v x u hp hv=>by
 unfold AdB at hp
 split at hp
 · cases hp; unfold V.den at hv; subst hv; rfl
 · cases hp
theorem DH (k:IntKind):(Lw (Ty:=Ty) k).Ok:=TB.one_ok rfl (fun g h x u hr=>by have e:[u]=[.int k x.n]:=hr; cases e; unfold V.den; rfl) (fun _ _=>rfl) fun g h v x u hp hv=>by
 unfold AeP at hp
 split at hp
 · split at hp
   · rename_i hk; subst hk; cases hp; unfold V.den at hv; subst hv; rfl
   · cases hp
 · cases hp
theorem Z3:(AbG (Ty:=Ty)).Ok:=TB.one_ok rfl (fun g h x u hr=>by have e:[u]=[.bool x]:=hr; cases e; unfold V.den; rfl) (fun _ _=>rfl) fun g h v x u hp hv=>by
 unfold AbF at hp
 split at hp
 · cases hp; unfold V.den at hv; subst hv; rfl
 · cases hp
theorem AbH:(AdD (Ty:=Ty)).Ok:=TB.one_ok rfl (fun g h x u hr=>by have e:[u]=[.string x]:=hr; cases e; unfold V.den; rfl) (fun _ _=>rfl) fun g h v x u hp hv=>by
 unfold AdC at hp
 split at hp
 · cases hp; unfold V.den at hv; subst hv; rfl
 · cases hp
theorem Cn (k:Nat):(OM (Ty:=Ty) k).Ok:=TB.one_ok rfl (fun g h x u hr=>by
  obtain⟨a,c,e,q⟩:=hr
  cases e
  unfold V.den; exact⟨a,c,rfl,q⟩) (fun _ _=>rfl) fun g h v x u hp hv=>by
 unfold Afn at hp
 split at hp
 · split at hp
   · rename_i hk; subst hk; cases hp; unfold V.den at hv; obtain⟨a,c,e,q⟩:=hv; subst e; exact⟨a,c,rfl,q⟩
   · cases hp
 · cases hp; unfold V.den at hv; subst hv; exact⟨none,0,rfl,F0.nil⟩
 · cases hp
structure Fp where
 f:Int
deriving DecidableEq,Inhabited
def Aev (n:Int):Value:=if n<0 then .nilFunc else .func (.func n.toNat) #[] #[]
theorem Ade (n:Int):(Aev n).oneCell' = true:=by unfold Aev; split <;> rfl
instance : Rep Fp:=⟨1,fun _ x cs=>cs=[Aev x.f],fun _ h=>h,fun h=>by subst h; rfl,fun h v hv=>by subst h; simp at hv; subst hv; exact Ade _⟩
def AeQ:V Ty→Option Fp
 | .nilf=>some ⟨-1⟩
 | .fn f [] []=>bif Nat.blt f An then some ⟨(f:Int)⟩ else none
 | .fn f [.int .i64 n] []=>bif Nat.beq f NS then some ⟨n⟩ else none
 | _=>none
def T9:TB Ty Fp:=TB.one (fun x=>.fn NS [.int .i64 x.f] []) AeQ
theorem Hw:(T9 (Ty:=Ty)).Ok:=TB.one_ok rfl (fun g h x u hr=>by
  have e:[u]=[Aev x.f]:=hr
  cases e
  unfold V.den
  refine⟨[.int .i64 x.f],[],?_,?_,by unfold V.dens; rfl⟩
  · unfold Zi; rw [if_neg (show ¬ NS=An by decide),if_pos rfl]; rfl
  · unfold V.dens V.dens; exact⟨_,[],rfl,by unfold V.den; rfl,rfl⟩) (fun _ _=>rfl) fun g h v x u hp hv=>by
 unfold AeQ at hp
 split at hp
 · cases hp; unfold V.den at hv; subst hv; rfl
 · rename_i f
   cases hb:Nat.blt f An with
   | false=>rw [hb] at hp; cases hp
   | true =>
    rw [hb] at hp
    cases hp
    unfold V.den at hv
    obtain⟨as,bs,e,e1,e2⟩:=hv
    unfold V.dens at e1 e2
    subst e1 e2
    rw [PA hb] at e
    rw [e]
    show [_]=[Aev (f:Int)]
    unfold Aev; rw [if_neg (by omega)]; rfl
 · rename_i f n
   cases hb:Nat.beq f NS with
   | false=>rw [hb] at hp; cases hp
   | true =>
    rw [hb] at hp
    cases hp
    unfold V.den at hv
    obtain⟨as,bs,e,e1,e2⟩:=hv
    rw [Zab hb] at e
    unfold V.dens at e1 e2
    obtain⟨u1,us1,rfl,e3,e4⟩:=e1
    unfold V.dens at e4
    unfold V.den at e3
    subst e2 e3 e4
    unfold Zi at e
    rw [if_neg (by decide),if_pos rfl] at e
    rw [e]; rfl
 · cases hp
def TB.pair {α β:Type} [Rep α] [Rep β] (a:TB Ty α) (b:TB Ty β):TB Ty (α×β):=⟨true,a.sz+b.sz,fun x=>a.view x.1++b.view x.2,fun vs=>match a.pack (vs.take a.sz) with
 | some x=>match b.pack (vs.drop a.sz) with
  | some y=>some (x,y)
  | none=>none
 | none=>none⟩
theorem TB.pair_ok {α β:Type} [Rep α] [Rep β] {a:TB Ty α} {b:TB Ty β} (ha:a.Ok) (hb:b.Ok):(a.pair b).Ok:=by
 refine⟨?_,fun g h x us hr=>?_,fun p x=>?_,fun g h vs x us hp hv=>?_⟩
 · show a.sz+b.sz=Rep.sz α+Rep.sz β
   rw [ha.sz_eq,hb.sz_eq]
 · obtain⟨c1,c2,rfl,h1,h2⟩:=hr
   exact V.dens_append (ha.view_den g h x.1 c1 h1) (hb.view_den g h x.2 c2 h2)
 · exact V.oksB_append (ha.view_ok p x.1) (hb.view_ok p x.2)
 · unfold TB.pair at hp
   simp only at hp
   split at hp
   · rename_i y hy
     split at hp
     · rename_i z hz
       cases hp
       have h1:=ha.pack_rep g h _ y _ hy (V.dens_take a.sz hv)
       have h2:=hb.pack_rep g h _ z _ hz (V.dens_drop a.sz hv)
       exact⟨us.take a.sz,us.drop a.sz,(Zba _ _).symm,h1,h2⟩
     · cases hp
   · cases hp
def TB.via {α β:Type} [Rep β] (f:α→β) (k:β→α) (b:TB Ty β) : @TB Ty α (Rep.via f):=@TB.mk Ty α (Rep.via f) true b.sz (fun x=>b.view (f x)) (fun vs=>match b.pack vs with
 | some y=>some (k y)
 | none=>none)
theorem TB.via_ok {α β:Type} [Rep β] {f:α→β} {k:β→α} (hk:∀ y,f (k y)=y) {b:TB Ty β} (hb:b.Ok) : @TB.Ok Ty rT α (Rep.via f) (TB.via f k b):=by
 refine @TB.Ok.mk Ty rT α (Rep.via f) _ hb.sz_eq (fun g h x us hr=>hb.view_den g h (f x) us hr) (fun p x=>hb.view_ok p (f x)) (fun g h vs x us hp hv=>?_)
 unfold TB.via at hp
 simp only at hp
 split at hp
 · rename_i y hy
   cases hp
   show rep h (f (k y)) us
   rw [hk]
   exact hb.pack_rep g h vs y us hy hv
 · cases hp
end
structure Ap where
 bus:Int
 number:Int
 minute:Int
 kind:IK .u8
 part:Int
 sg:Int
deriving DecidableEq,Inhabited
instance : Rep Ap:=Rep.via fun x=>(x.bus,x.number,x.minute,x.kind,x.part,x.sg)
structure Jk where
 bus:Int
 fr:Int
deriving DecidableEq,Inhabited
instance : Rep Jk:=Rep.via fun x=>(x.bus,x.fr)
structure I9 where
 bus:Int
 fr:Int
 to_:Int
 miles:Int
deriving DecidableEq,Inhabited
instance : Rep I9:=Rep.via fun x=>(x.bus,x.fr,x.to_,x.miles)
structure Ab where
 machine:Int
 seq:Int
 minute:Int
 kind:IK .u8
 a:Int
 b:Int
deriving DecidableEq,Inhabited
instance : Rep Ab:=Rep.via fun x=>(x.machine,x.seq,x.minute,x.kind,x.a,x.b)
structure Rg where
 lo:Int
 hi:Int
deriving DecidableEq,Inhabited
instance : Rep Rg:=Rep.via fun x=>(x.lo,x.hi)
structure AH where
 day:Int
 on:Int
 off:Rg
 route:Int
deriving DecidableEq,Inhabited
instance : Rep AH:=Rep.via fun x=>(x.day,x.on,x.off,x.route)
structure AA where
 knows:List Int
 leave:List Int
 wish:List Int
 off:Int
 row:Int
 used:Int
deriving DecidableEq,Inhabited
instance : Rep AA:=Rep.via fun x=>(x.knows,x.leave,x.wish,x.off,x.row,x.used)
structure Aq where
 days:Int
 duties:List AH
 drivers:List AA
 rest:Int
 run:Int
 hours:Int
deriving DecidableEq,Inhabited
instance : Rep Aq:=Rep.via fun x=>(x.days,x.duties,x.drivers,x.rest,x.run,x.hours)
structure Ah where
 cards:List Ap
 outs:List Jk
 runs:List I9
 records:List Ab
 week:Aq
 roster:List Int
deriving DecidableEq,Inhabited
instance : Rep Ah:=Rep.via fun x=>(x.cards,x.outs,x.runs,x.records,x.week,x.roster)
structure CS where
 machine:Int
 fr:Int
 to_:Int
 sales:Int
 coins:Int
deriving DecidableEq,Inhabited
instance : Rep CS:=Rep.via fun x=>(x.machine,x.fr,x.to_,x.sales,x.coins)
structure Aa where
 state:Ah
deriving DecidableEq,Inhabited
instance : Rep Aa:=Rep.via fun x=>(x.state)
structure Du where
 fr:Ab
 to_:Ab
 between:List Ab
deriving DecidableEq,Inhabited
instance : Rep Du:=Rep.via fun x=>(x.fr,x.to_,x.between)
structure Ak where
 kind:IK .u8
 driver:Int
 duty:Int
deriving DecidableEq,Inhabited
instance : Rep Ak:=Rep.via fun x=>(x.kind,x.driver,x.duty)
structure FX where
 machine:Int
 seq:Int
deriving DecidableEq,Inhabited
instance : Rep FX:=Rep.via fun x=>(x.machine,x.seq)
structure Av where
 errno:Int
deriving DecidableEq,Inhabited
instance : Rep Av:=Rep.via fun x=>(x.errno)
structure Dn where
 many:Int
 do_:Fp
deriving DecidableEq,Inhabited
instance : Rep Dn:=Rep.via fun x=>(x.many,x.do_)
structure EU where
 right:Fp
deriving DecidableEq,Inhabited
instance : Rep EU:=Rep.via fun x=>(x.right)
structure Ai where
 free:Int
 row:Int
 used:Int
 day:Int
deriving DecidableEq,Inhabited
instance : Rep Ai:=Rep.via fun x=>(x.free,x.row,x.used,x.day)
structure AC where
 kind:IK .u8
 holds:Fp
deriving DecidableEq,Inhabited
instance : Rep AC:=Rep.via fun x=>(x.kind,x.holds)
structure Afo where
 α:Type
 rep:Rep α
abbrev Aem:Nat→Afo
 | 3=>⟨Int,inferInstance⟩
 | 4=>⟨Bool,inferInstance⟩
 | 9=>⟨ByteArray,inferInstance⟩
 | 37=>⟨Int,inferInstance⟩
 | 5=>⟨IK .u8,inferInstance⟩
 | 180=>⟨Ap,inferInstance⟩
 | 60=>⟨Jk,inferInstance⟩
 | 62=>⟨I9,inferInstance⟩
 | 93=>⟨Ab,inferInstance⟩
 | 184=>⟨AH,inferInstance⟩
 | 186=>⟨AA,inferInstance⟩
 | 35=>⟨Ah,inferInstance⟩
 | 114=>⟨Aa,inferInstance⟩
 | 32=>⟨Aq,inferInstance⟩
 | 65=>⟨Ap,inferInstance⟩
 | 2=>⟨Int,inferInstance⟩
 | 12=>⟨IK .u64,inferInstance⟩
 | 21=>⟨IK .i32,inferInstance⟩
 | 28=>⟨List Ab,inferInstance⟩
 | 45=>⟨List Ab,inferInstance⟩
 | 49=>⟨Aq,inferInstance⟩
 | 51=>⟨Ah,inferInstance⟩
 | 87=>⟨IK .u16,inferInstance⟩
 | 90=>⟨Ab,inferInstance⟩
 | 98=>⟨CS,inferInstance⟩
 | 124=>⟨Jk,inferInstance⟩
 | 125=>⟨I9,inferInstance⟩
 | 154=>⟨Du,inferInstance⟩
 | 178=>⟨CS,inferInstance⟩
 | 182=>⟨Rg,inferInstance⟩
 | 189=>⟨Rg,inferInstance⟩
 | 191=>⟨AH,inferInstance⟩
 | 192=>⟨AA,inferInstance⟩
 | 195=>⟨Fp,inferInstance⟩
 | 227=>⟨FX,inferInstance⟩
 | 234=>⟨Av,inferInstance⟩
 | 235=>⟨Fp,inferInstance⟩
 | 237=>⟨Dn,inferInstance⟩
 | 259=>⟨EU,inferInstance⟩
 | 262=>⟨IK .u64,inferInstance⟩
 | 267=>⟨Ai,inferInstance⟩
 | 276=>⟨Fp,inferInstance⟩
 | 278=>⟨AC,inferInstance⟩
 | 280=>⟨Ak,inferInstance⟩
 | 287=>⟨Fp,inferInstance⟩
 | 309=>⟨IK .u32,inferInstance⟩
 | 311=>⟨IK .u64,inferInstance⟩
 | 329=>⟨EU,inferInstance⟩
 | 346=>⟨Ak,inferInstance⟩
 | _=>⟨Unit,inferInstance⟩
abbrev Ty (k:Nat):Type:=(Aem k).α
instance (k:Nat):Rep (Ty k):=(Aem k).rep
def S2:TB Ty Ap:=TB.via (fun x:Ap=>(x.bus,x.number,x.minute,x.kind,x.part,x.sg)) (fun p=>(⟨p.1,p.2.1,p.2.2.1,p.2.2.2.1,p.2.2.2.2.1,p.2.2.2.2.2⟩:Ap)) (At.pair (At.pair (At.pair ((Lw .u8).pair (At.pair At)))))
theorem TA:(S2).Ok:=TB.via_ok (fun _=>rfl) (TB.pair_ok Af (TB.pair_ok Af (TB.pair_ok Af (TB.pair_ok (DH _) (TB.pair_ok Af Af)))))
def Yp:TB Ty Jk:=TB.via (fun x:Jk=>(x.bus,x.fr)) (fun p=>(⟨p.1,p.2⟩:Jk)) (At.pair At)
theorem Xq:(Yp).Ok:=TB.via_ok (fun _=>rfl) (TB.pair_ok Af Af)
def Yq:TB Ty I9:=TB.via (fun x:I9=>(x.bus,x.fr,x.to_,x.miles)) (fun p=>(⟨p.1,p.2.1,p.2.2.1,p.2.2.2⟩:I9)) (At.pair (At.pair (At.pair At)))
theorem Xr:(Yq).Ok:=TB.via_ok (fun _=>rfl) (TB.pair_ok Af (TB.pair_ok Af (TB.pair_ok Af Af)))
def IA:TB Ty Ab:=TB.via (fun x:Ab=>(x.machine,x.seq,x.minute,x.kind,x.a,x.b)) (fun p=>(⟨p.1,p.2.1,p.2.2.1,p.2.2.2.1,p.2.2.2.2.1,p.2.2.2.2.2⟩:Ab)) (At.pair (At.pair (At.pair ((Lw .u8).pair (At.pair At)))))
theorem H8:(IA).Ok:=TB.via_ok (fun _=>rfl) (TB.pair_ok Af (TB.pair_ok Af (TB.pair_ok Af (TB.pair_ok (DH _) (TB.pair_ok Af Af)))))
def TC:TB Ty Rg:=TB.via (fun x:Rg=>(x.lo,x.hi)) (fun p=>(⟨p.1,p.2⟩:Rg)) (At.pair At)
theorem QE:(TC).Ok:=TB.via_ok (fun _=>rfl) (TB.pair_ok Af Af)
def S3:TB Ty AH:=TB.via (fun x:AH=>(x.day,x.on,x.off,x.route)) (fun p=>(⟨p.1,p.2.1,p.2.2.1,p.2.2.2⟩:AH)) (At.pair (At.pair (TC.pair At)))
theorem TE:(S3).Ok:=TB.via_ok (fun _=>rfl) (TB.pair_ok Af (TB.pair_ok Af (TB.pair_ok QE Af)))
def Ol:TB Ty AA:=TB.via (fun x:AA=>(x.knows,x.leave,x.wish,x.off,x.row,x.used)) (fun p=>(⟨p.1,p.2.1,p.2.2.1,p.2.2.2.1,p.2.2.2.2.1,p.2.2.2.2.2⟩:AA)) ((OM 3).pair ((OM 3).pair ((OM 3).pair (At.pair (At.pair At)))))
theorem QF:(Ol).Ok:=TB.via_ok (fun _=>rfl) (TB.pair_ok (Cn _) (TB.pair_ok (Cn _) (TB.pair_ok (Cn _) (TB.pair_ok Af (TB.pair_ok Af Af)))))
def QG:TB Ty Aq:=TB.via (fun x:Aq=>(x.days,x.duties,x.drivers,x.rest,x.run,x.hours)) (fun p=>(⟨p.1,p.2.1,p.2.2.1,p.2.2.2.1,p.2.2.2.2.1,p.2.2.2.2.2⟩:Aq)) (At.pair ((OM 184).pair ((OM 186).pair (At.pair (At.pair At)))))
theorem Om:(QG).Ok:=TB.via_ok (fun _=>rfl) (TB.pair_ok Af (TB.pair_ok (Cn _) (TB.pair_ok (Cn _) (TB.pair_ok Af (TB.pair_ok Af Af)))))
def N5:TB Ty Ah:=TB.via (fun x:Ah=>(x.cards,x.outs,x.runs,x.records,x.week,x.roster)) (fun p=>(⟨p.1,p.2.1,p.2.2.1,p.2.2.2.1,p.2.2.2.2.1,p.2.2.2.2.2⟩:Ah)) ((OM 180).pair ((OM 60).pair ((OM 62).pair ((OM 93).pair (QG.pair (OM 3))))))
theorem M4:(N5).Ok:=TB.via_ok (fun _=>rfl) (TB.pair_ok (Cn _) (TB.pair_ok (Cn _) (TB.pair_ok (Cn _) (TB.pair_ok (Cn _) (TB.pair_ok Om (Cn _))))))
def M5:TB Ty Aa:=TB.via (fun x:Aa=>x.state) (fun p=>(⟨p⟩:Aa)) N5
theorem O7:(M5).Ok:=TB.via_ok (fun _=>rfl) M4
def VK:TB Ty Ap:=TB.via (fun x:Ap=>(x.bus,x.number,x.minute,x.kind,x.part,x.sg)) (fun p=>(⟨p.1,p.2.1,p.2.2.1,p.2.2.2.1,p.2.2.2.2.1,p.2.2.2.2.2⟩:Ap)) (At.pair (At.pair (At.pair ((Lw .u8).pair (At.pair At)))))
theorem VL:(VK).Ok:=TB.via_ok (fun _=>rfl) (TB.pair_ok Af (TB.pair_ok Af (TB.pair_ok Af (TB.pair_ok (DH _) (TB.pair_ok Af Af)))))
def QH:TB Ty Aq:=TB.via (fun x:Aq=>(x.days,x.duties,x.drivers,x.rest,x.run,x.hours)) (fun p=>(⟨p.1,p.2.1,p.2.2.1,p.2.2.2.1,p.2.2.2.2.1,p.2.2.2.2.2⟩:Aq)) (At.pair ((OM 191).pair ((OM 192).pair (At.pair (At.pair At)))))
theorem On:(QH).Ok:=TB.via_ok (fun _=>rfl) (TB.pair_ok Af (TB.pair_ok (Cn _) (TB.pair_ok (Cn _) (TB.pair_ok Af (TB.pair_ok Af Af)))))
def S4:TB Ty Ah:=TB.via (fun x:Ah=>(x.cards,x.outs,x.runs,x.records,x.week,x.roster)) (fun p=>(⟨p.1,p.2.1,p.2.2.1,p.2.2.2.1,p.2.2.2.2.1,p.2.2.2.2.2⟩:Ah)) ((OM 65).pair ((OM 124).pair ((OM 125).pair ((OM 90).pair (QH.pair (OM 3))))))
theorem TF:(S4).Ok:=TB.via_ok (fun _=>rfl) (TB.pair_ok (Cn _) (TB.pair_ok (Cn _) (TB.pair_ok (Cn _) (TB.pair_ok (Cn _) (TB.pair_ok On (Cn _))))))
def QI:TB Ty Ab:=TB.via (fun x:Ab=>(x.machine,x.seq,x.minute,x.kind,x.a,x.b)) (fun p=>(⟨p.1,p.2.1,p.2.2.1,p.2.2.2.1,p.2.2.2.2.1,p.2.2.2.2.2⟩:Ab)) (At.pair (At.pair (At.pair ((Lw .u8).pair (At.pair At)))))
theorem R2:(QI).Ok:=TB.via_ok (fun _=>rfl) (TB.pair_ok Af (TB.pair_ok Af (TB.pair_ok Af (TB.pair_ok (DH _) (TB.pair_ok Af Af)))))
def VM:TB Ty CS:=TB.via (fun x:CS=>(x.machine,x.fr,x.to_,x.sales,x.coins)) (fun p=>(⟨p.1,p.2.1,p.2.2.1,p.2.2.2.1,p.2.2.2.2⟩:CS)) (At.pair (At.pair (At.pair (At.pair At))))
theorem VN:(VM).Ok:=TB.via_ok (fun _=>rfl) (TB.pair_ok Af (TB.pair_ok Af (TB.pair_ok Af (TB.pair_ok Af Af))))
def VO:TB Ty Jk:=TB.via (fun x:Jk=>(x.bus,x.fr)) (fun p=>(⟨p.1,p.2⟩:Jk)) (At.pair At)
theorem VP:(VO).Ok:=TB.via_ok (fun _=>rfl) (TB.pair_ok Af Af)
def VQ:TB Ty I9:=TB.via (fun x:I9=>(x.bus,x.fr,x.to_,x.miles)) (fun p=>(⟨p.1,p.2.1,p.2.2.1,p.2.2.2⟩:I9)) (At.pair (At.pair (At.pair At)))
theorem VR:(VQ).Ok:=TB.via_ok (fun _=>rfl) (TB.pair_ok Af (TB.pair_ok Af (TB.pair_ok Af Af)))
def M6:TB Ty Du:=TB.via (fun x:Du=>(x.fr,x.to_,x.between)) (fun p=>(⟨p.1,p.2.1,p.2.2⟩:Du)) (IA.pair (IA.pair (OM 93)))
theorem O8:(M6).Ok:=TB.via_ok (fun _=>rfl) (TB.pair_ok H8 (TB.pair_ok H8 (Cn _)))
def S5:TB Ty CS:=TB.via (fun x:CS=>(x.machine,x.fr,x.to_,x.sales,x.coins)) (fun p=>(⟨p.1,p.2.1,p.2.2.1,p.2.2.2.1,p.2.2.2.2⟩:CS)) (At.pair (At.pair (At.pair (At.pair At))))
theorem TG:(S5).Ok:=TB.via_ok (fun _=>rfl) (TB.pair_ok Af (TB.pair_ok Af (TB.pair_ok Af (TB.pair_ok Af Af))))
def TH:TB Ty Rg:=TB.via (fun x:Rg=>(x.lo,x.hi)) (fun p=>(⟨p.1,p.2⟩:Rg)) (At.pair At)
theorem QJ:(TH).Ok:=TB.via_ok (fun _=>rfl) (TB.pair_ok Af Af)
def S6:TB Ty AH:=TB.via (fun x:AH=>(x.day,x.on,x.off,x.route)) (fun p=>(⟨p.1,p.2.1,p.2.2.1,p.2.2.2⟩:AH)) (At.pair (At.pair (TH.pair At)))
theorem TI:(S6).Ok:=TB.via_ok (fun _=>rfl) (TB.pair_ok Af (TB.pair_ok Af (TB.pair_ok QJ Af)))
def Oo:TB Ty AA:=TB.via (fun x:AA=>(x.knows,x.leave,x.wish,x.off,x.row,x.used)) (fun p=>(⟨p.1,p.2.1,p.2.2.1,p.2.2.2.1,p.2.2.2.2.1,p.2.2.2.2.2⟩:AA)) ((OM 3).pair ((OM 3).pair ((OM 3).pair (At.pair (At.pair At)))))
theorem QK:(Oo).Ok:=TB.via_ok (fun _=>rfl) (TB.pair_ok (Cn _) (TB.pair_ok (Cn _) (TB.pair_ok (Cn _) (TB.pair_ok Af (TB.pair_ok Af Af)))))
def VS:TB Ty FX:=TB.via (fun x:FX=>(x.machine,x.seq)) (fun p=>(⟨p.1,p.2⟩:FX)) (At.pair At)
theorem VT:(VS).Ok:=TB.via_ok (fun _=>rfl) (TB.pair_ok Af Af)
def M7:TB Ty Av:=TB.via (fun x:Av=>x.errno) (fun p=>(⟨p⟩:Av)) At
theorem O9:(M7).Ok:=TB.via_ok (fun _=>rfl) Af
def S7:TB Ty Dn:=TB.via (fun x:Dn=>(x.many,x.do_)) (fun p=>(⟨p.1,p.2⟩:Dn)) (At.pair T9)
theorem TJ:(S7).Ok:=TB.via_ok (fun _=>rfl) (TB.pair_ok Af Hw)
def S8:TB Ty EU:=TB.via (fun x:EU=>x.right) (fun p=>(⟨p⟩:EU)) T9
theorem TK:(S8).Ok:=TB.via_ok (fun _=>rfl) Hw
def QL:TB Ty Ai:=TB.via (fun x:Ai=>(x.free,x.row,x.used,x.day)) (fun p=>(⟨p.1,p.2.1,p.2.2.1,p.2.2.2⟩:Ai)) (At.pair (At.pair (At.pair At)))
theorem R3:(QL).Ok:=TB.via_ok (fun _=>rfl) (TB.pair_ok Af (TB.pair_ok Af (TB.pair_ok Af Af)))
def KI:TB Ty AC:=TB.via (fun x:AC=>(x.kind,x.holds)) (fun p=>(⟨p.1,p.2⟩:AC)) ((Lw .u8).pair T9)
theorem N6:(KI).Ok:=TB.via_ok (fun _=>rfl) (TB.pair_ok (DH _) Hw)
def Oq:TB Ty Ak:=TB.via (fun x:Ak=>(x.kind,x.driver,x.duty)) (fun p=>(⟨p.1,p.2.1,p.2.2⟩:Ak)) ((Lw .u8).pair (At.pair At))
theorem QM:(Oq).Ok:=TB.via_ok (fun _=>rfl) (TB.pair_ok (DH _) (TB.pair_ok Af Af))
def S9:TB Ty EU:=TB.via (fun x:EU=>x.right) (fun p=>(⟨p⟩:EU)) T9
theorem TL:(S9).Ok:=TB.via_ok (fun _=>rfl) Hw
def Ot:TB Ty Ak:=TB.via (fun x:Ak=>(x.kind,x.driver,x.duty)) (fun p=>(⟨p.1,p.2.1,p.2.2⟩:Ak)) ((Lw .u8).pair (At.pair At))
theorem QN:(Ot).Ok:=TB.via_ok (fun _=>rfl) (TB.pair_ok (DH _) (TB.pair_ok Af Af))
structure AO (k:Nat) where
 tb:TB Ty (Ty k)
 ok:tb.Ok
def Zf3 {k:Nat} (e:Aem k=⟨Unit,inferInstance⟩):AO k:=by
 have key:∀ (b:Afo),b=⟨Unit,inferInstance⟩→∃ t : @TB Ty b.α b.rep,@TB.Ok Ty _ b.α b.rep t:=fun b hb=>by subst hb; exact⟨AbE,Z2⟩
 exact Classical.choice (by obtain⟨t,ht⟩:=key (Aem k) e; exact⟨⟨t,ht⟩⟩)
theorem AbI {k:Nat} (h3 : ¬ k=3) (h4 : ¬ k=4) (h9 : ¬ k=9) (h37 : ¬ k=37) (h5 : ¬ k=5) (h180 : ¬ k=180) (h60 : ¬ k=60) (h62 : ¬ k=62) (h93 : ¬ k=93) (h184 : ¬ k=184) (h186 : ¬ k=186) (h35 : ¬ k=35) (h114 : ¬ k=114) (h32 : ¬ k=32) (h65 : ¬ k=65) (h2 : ¬ k=2) (h12 : ¬ k=12) (h21 : ¬ k=21) (h28 : ¬ k=28) (h45 : ¬ k=45) (h49 : ¬ k=49) (h51 : ¬ k=51) (h87 : ¬ k=87) (h90 : ¬ k=90) (h98 : ¬ k=98) (h124 : ¬ k=124) (h125 : ¬ k=125) (h154 : ¬ k=154) (h178 : ¬ k=178) (h182 : ¬ k=182) (h189 : ¬ k=189) (h191 : ¬ k=191) (h192 : ¬ k=192) (h195 : ¬ k=195) (h227 : ¬ k=227) (h234 : ¬ k=234) (h235 : ¬ k=235) (h237 : ¬ k=237) (h259 : ¬ k=259) (h262 : ¬ k=262) (h267 : ¬ k=267) (h276 : ¬ k=276) (h278 : ¬ k=278) (h280 : ¬ k=280) (h287 : ¬ k=287) (h309 : ¬ k=309) (h311 : ¬ k=311) (h329 : ¬ k=329) (h346 : ¬ k=346):Aem k=⟨Unit,inferInstance⟩:=by
 unfold Aem
 split <;> first | rfl | contradiction
def ZdH (k:Nat):AO k :=
 if h3:k=3 then h3▸(⟨At,Af⟩:AO 3) else
 if h4:k=4 then h4▸(⟨AbG,Z3⟩:AO 4) else
 if h9:k=9 then h9▸(⟨AdD,AbH⟩:AO 9) else
 if h37:k=37 then h37▸(⟨At,Af⟩:AO 37) else
 if h5:k=5 then h5▸(⟨Lw .u8,DH _⟩:AO 5) else
 if h180:k=180 then h180▸(⟨S2,TA⟩:AO 180) else
 if h60:k=60 then h60▸(⟨Yp,Xq⟩:AO 60) else
 if h62:k=62 then h62▸(⟨Yq,Xr⟩:AO 62) else
 if h93:k=93 then h93▸(⟨IA,H8⟩:AO 93) else
 if h184:k=184 then h184▸(⟨S3,TE⟩:AO 184) else
 if h186:k=186 then h186▸(⟨Ol,QF⟩:AO 186) else
 if h35:k=35 then h35▸(⟨N5,M4⟩:AO 35) else
 if h114:k=114 then h114▸(⟨M5,O7⟩:AO 114) else
 if h32:k=32 then h32▸(⟨QG,Om⟩:AO 32) else
 if h65:k=65 then h65▸(⟨VK,VL⟩:AO 65) else
 if h2:k=2 then h2▸(⟨At,Af⟩:AO 2) else
 if h12:k=12 then h12▸(⟨Lw .u64,DH _⟩:AO 12) else
 if h21:k=21 then h21▸(⟨Lw .i32,DH _⟩:AO 21) else
 if h28:k=28 then h28▸(⟨OM 93,Cn _⟩:AO 28) else
 if h45:k=45 then h45▸(⟨OM 90,Cn _⟩:AO 45) else
 if h49:k=49 then h49▸(⟨QH,On⟩:AO 49) else
 if h51:k=51 then h51▸(⟨S4,TF⟩:AO 51) else
 if h87:k=87 then h87▸(⟨Lw .u16,DH _⟩:AO 87) else
 if h90:k=90 then h90▸(⟨QI,R2⟩:AO 90) else
 if h98:k=98 then h98▸(⟨VM,VN⟩:AO 98) else
 if h124:k=124 then h124▸(⟨VO,VP⟩:AO 124) else
 if h125:k=125 then h125▸(⟨VQ,VR⟩:AO 125) else
 if h154:k=154 then h154▸(⟨M6,O8⟩:AO 154) else
 if h178:k=178 then h178▸(⟨S5,TG⟩:AO 178) else
 if h182:k=182 then h182▸(⟨TC,QE⟩:AO 182) else
 if h189:k=189 then h189▸(⟨TH,QJ⟩:AO 189) else
 if h191:k=191 then h191▸(⟨S6,TI⟩:AO 191) else
 if h192:k=192 then h192▸(⟨Oo,QK⟩:AO 192) else
 if h195:k=195 then h195▸(⟨T9,Hw⟩:AO 195) else
 if h227:k=227 then h227▸(⟨VS,VT⟩:AO 227) else
 if h234:k=234 then h234▸(⟨M7,O9⟩:AO 234) else
 if h235:k=235 then h235▸(⟨T9,Hw⟩:AO 235) else
 if h237:k=237 then h237▸(⟨S7,TJ⟩:AO 237) else
 if h259:k=259 then h259▸(⟨S8,TK⟩:AO 259) else
 if h262:k=262 then h262▸(⟨Lw .u64,DH _⟩:AO 262) else
 if h267:k=267 then h267▸(⟨QL,R3⟩:AO 267) else
 if h276:k=276 then h276▸(⟨T9,Hw⟩:AO 276) else
 if h278:k=278 then h278▸(⟨KI,N6⟩:AO 278) else
 if h280:k=280 then h280▸(⟨Oq,QM⟩:AO 280) else
 if h287:k=287 then h287▸(⟨T9,Hw⟩:AO 287) else
 if h309:k=309 then h309▸(⟨Lw .u32,DH _⟩:AO 309) else
 if h311:k=311 then h311▸(⟨Lw .u64,DH _⟩:AO 311) else
 if h329:k=329 then h329▸(⟨S9,TL⟩:AO 329) else
 if h346:k=346 then h346▸(⟨Ot,QN⟩:AO 346) else
 have e:Aem k=⟨Unit,inferInstance⟩:=AbI h3 h4 h9 h37 h5 h180 h60 h62 h93 h184 h186 h35 h114 h32 h65 h2 h12 h21 h28 h45 h49 h51 h87 h90 h98 h124 h125 h154 h178 h182 h189 h191 h192 h195 h227 h234 h235 h237 h259 h262 h267 h276 h278 h280 h287 h309 h311 h329 h346
 Zf3 e
instance : UV Ty where
 typed k:=(ZdH k).tb.on
 sz k:=(ZdH k).tb.sz
 view k x:=(ZdH k).tb.view x
 pack k vs:=(ZdH k).tb.pack vs
instance : UL Ty where
 sz_eq k:=(ZdH k).ok.sz_eq
 view_den g h k x us:=(ZdH k).ok.view_den g h x us
 view_ok p k x:=(ZdH k).ok.view_ok p x
 pack_rep g h k vs x us:=(ZdH k).ok.pack_rep g h vs x us
def QO (l:List (IK .u8)):ByteArray:=⟨(l.map fun x=>UInt8.ofNat x.n.toNat).toArray⟩
def FY (s:ByteArray):List (IK .u8):=(O1 s).map fun n=>⟨n⟩
def DO (a b:Int):Bool:=a == b
def F7 (a b:ByteArray):Bool:=decide (a=b)
def Ax (a b:FX):Bool:=a.machine == b.machine && a.seq == b.seq
def AeR:(k:Nat)→Ty k→Value
 | 3=>fun(x:Int)=>.int .i64 x
 | 9=>fun(x:ByteArray)=>.string x
 | 227=>fun(x:FX)=>.agg #[.int .i64 x.machine,.int .i64 x.seq]
 | _=>fun _=>Go.undef
def AeS:(k:Nat)→Ty k→Ty k→Bool
 | 3=>DO
 | 9=>F7
 | 227=>Ax
 | _=>fun _ _=>false
instance : UM Ty where
 ag k:=A8 [180,60,62,93,184,186,35,114,32,65,49,51,90,98,124,125,154,178,182,189,191,192,227,234,237,259,267,278,280,329,346] k
 isK k:=A8 [3,9,227] k
 kv:=AeR
 keq:=AeS
 b8:=5
 str:=QO
 bts:=FY
theorem Kt {k:Nat} (h:UM.isK Ty k=true):k=3∨k=9∨k=227:=by
 have:=Be.1 (show A8 [3,9,227] k=true from h)
 simpa using this
theorem Afd {k:Nat} {a b:Ty k} (hk:UM.isK Ty k=true) (h:AeR k a=AeR k b):a=b:=by
 rcases Kt hk with rfl | rfl | rfl
 · have e:(Value.int .i64 (a:Int))=.int .i64 (b:Int):=h
   injection e
 · have e:(Value.string (a:ByteArray))=.string (b:ByteArray):=h
   injection e
 · have e:(Value.agg #[.int .i64 (a:FX).machine,.int .i64 (a:FX).seq])=.agg #[.int .i64 (b:FX).machine,.int .i64 (b:FX).seq]:=h
   simp only [Value.agg.injEq,Array.mk.injEq,List.cons.injEq,Value.int.injEq,true_and,and_true] at e
   show(a:FX)=b
   obtain⟨a0,a1⟩:=(a:FX)
   obtain⟨b0,b1⟩:=(b:FX)
   simp_all
theorem Afy {k:Nat} {a b:Ty k} (hk:UM.isK Ty k=true):AeS k a b=true↔a=b:=by
 rcases Kt hk with rfl | rfl | rfl
 · show(@BEq.beq Int _ a b)=true↔@Eq Int a b
   exact beq_iff_eq
 · show decide (@Eq ByteArray a b)=true↔@Eq ByteArray a b
   exact decide_eq_true_iff
 · show Ax (a:FX) (b:FX)=true↔(a:FX)=b
   obtain⟨a0,a1⟩:=(a:FX)
   obtain⟨b0,b1⟩:=(b:FX)
   show Ax ⟨a0,a1⟩ ⟨b0,b1⟩=true↔(⟨a0,a1⟩:FX)=⟨b0,b1⟩
   simp [Ax]
theorem Afe {k:Nat} {h:Ad} {x:Ty k} {us:List Value} (hk:UM.isK Ty k=true) (h1:rep h x us):if UM.ag Ty k=true then AeR k x=.agg us.toArray else us=[AeR k x]:=by
 rcases Kt hk with rfl | rfl | rfl
 · have e:us=[.int .i64 (x:Int)]:=h1
   exact e
 · have e:us=[.string (x:ByteArray)]:=h1
   exact e
 · have e:rep h (((x:FX).machine,(x:FX).seq)) us:=h1
   have e2:us=[.int .i64 (x:FX).machine,.int .i64 (x:FX).seq]:=by
    obtain⟨c1,c2,rfl,e1,e2⟩:=e
    have e1:c1=[.int .i64 (x:FX).machine]:=e1
    have e2:c2=[.int .i64 (x:FX).seq]:=e2
    rw [e1,e2]; rfl
   rw [e2]
   rfl
theorem AeT {h:Ad}:∀ {l:List (IK .u8)} {us:List Value},Ar h l us→∃ ns:List Int,us=ns.map (.int .u8)∧QO l=⟨(ns.map fun n=>UInt8.ofNat n.toNat).toArray⟩
 | [],us,hc=>by
  have e:us=[]:=hc
  exact⟨[],e,rfl⟩
 | x::l,us,hc=>by
  obtain⟨c1,c2,e,h1,h2⟩:=hc
  have h1:c1=[.int .u8 x.n]:=h1
  obtain⟨ns,e1,e2⟩:=AeT h2
  refine⟨x.n::ns,by rw [e,h1,e1]; rfl,?_⟩
  unfold QO at e2 ⊢
  have:=congrArg ByteArray.data e2
  simp only at this
  simp only [Zbm]
  congr 1
  have e3:=congrArg Array.toList this
  simp only at e3
  rw [e3]
instance : UML Ty where
 inj k a b hk h:=Afd hk h
 eq_iff k a b hk:=Afy hk
 kv_rep k h x us hk h1:=Afe hk h1
 bts_rep h s:=by
  show Ar h ((O1 s).map fun n=>(⟨n⟩:IK .u8)) ((O1 s).map (.int .u8))
  generalize O1 s=l
  induction l with
  | nil=>exact Ar.nil
  | cons n l ih=>exact⟨[.int .u8 n],l.map (.int .u8),rfl,rfl,ih⟩
 bts_len s:=by
  show((O1 s).map fun n=>(⟨n⟩:IK .u8)).length=s.size
  unfold O1
  rw [ZaH,ZaH,ZaG]
  rfl
 str_rep h l us hc:=AeT hc
 b8_sz:=rfl
open KRep (kv)
open VRep (rv)
section
variable {P:Program}
def Aew (P:Program):Nat→TypeId→SA→SA→Option Bool
 | 0,_,_,_=>none
 | d+1,T,x,y=>match P.underlying T,x,y with
  | some (.int k),.c (.int _ a),.c (.int _ b)=>some (a == b)
  | some .bool,.c (.bool a),.c (.bool b)=>some (a == b)
  | some (.struct fs),.agg xs,.agg ys=>if P.stoodInHeld T then none else
   fs.toList.foldr (fun f acc=>if f.name = "_" then none else match NN P f.type xs f.offset,NN P f.type ys f.offset with
    | some a,some b=>match Aew P d f.type a b,acc with
     | some p,some q=>some (p && q)
     | _,_=>none
    | _,_=>none) (some true)
  | some (.array n E),.agg xs,.agg ys =>
   (List.range n).foldr (fun i acc=>match NN P E xs (i*P.cellsOf E),NN P E ys (i*P.cellsOf E) with
    | some a,some b=>match Aew P d E a b,acc with
     | some p,some q=>some (p && q)
     | _,_=>none
    | _,_=>none) (some true)
  | _,_,_=>none
def M8 (P:Program):Nat→TypeId→SA→Bool
 | 0,_,_=>false
 | d+1,T,x=>match P.underlying T,x with
  | some (.int k),.c (.int k' _)=>k == k'
  | some .bool,.c (.bool _)=>true
  | some (.struct fs),.agg xs=>fs.toList.all fun f=>match NN P f.type xs f.offset with
   | some a=>M8 P d f.type a
   | none=>false
  | some (.array n E),.agg xs=>(P.info? E).isSome && (List.range n).all fun i=>match NN P E xs (i*P.cellsOf E) with
   | some a=>M8 P d E a
   | none=>false
  | _,_=>false
theorem N7 (e:HO) (k:Nat):∀ (d:Nat) {T:TypeId} {x y:SA} {b:Bool} (w:World),M8 P d T x=true→M8 P d T y=true→Aew P d T x y=some b→(Op.equalIn (k+d) T (x.den e) (y.den e)).run P w=.ok b w
 | 0,_,_,_,_,_,_,_,h=>by simp [Aew] at h
 | d+1,T,x,y,b,w,kx,ky,h=>by
  unfold Aew at h
  unfold M8 at kx ky
  rw [show k+(d+1)=(k+d)+1 from rfl]
  split at h
  · rename_i kk k1 a k2 b' hu
    cases h
    simp only [hu] at kx ky
    have e1:=eq_of_beq kx
    have e2:=eq_of_beq ky
    subst e1; subst e2
    exact run_equalIn_int w (k+d) T _ _ a b' hu
  · rename_i a b' hu
    cases h
    exact run_equalIn_bool' w (k+d) T a b' hu
  · rename_i fs xs ys hu
    simp only [hu] at kx ky
    split at h
    · cases h
    · rename_i hst
      have hF:P.fieldsOf T=fs:=by unfold Program.fieldsOf; rw [hu]
      show(Op.equalIn (k+d+1) T (.agg _) (.agg _)).run P w=_
      rw [run_equalIn_struct w (k+d) T _ _ (by rw [hF]; exact hu) (by simpa using hst),hF]
      clear hF hu hst
      generalize fs.toList=l at h kx ky
      induction l generalizing b with
      | nil=>simp at h; subst h; rfl
      | cons f fs' ih =>
       simp only [List.foldr_cons] at h
       simp only [ZaT,Zax] at kx ky
       split at h
       · cases h
       · rename_i hn
         split at h
         · rename_i a c ha hc
           rw [ha] at kx
           rw [hc] at ky
           split at h
           · rename_i p q hp hq
             cases h
             unfold Op.eqFields
             rw [if_pos hn]
             simp only [Sem.run_bind,EN e w ha,EN e w hc,Result.andThen_ok,N7 e k d w kx.1 ky.1 hp]
             cases p
             · rfl
             · simp only [ZaM,Zaz,if_false,ZaS]
               exact ih q hq kx.2 ky.2
           · cases h
         · cases h
  · rename_i n E xs ys hu
    simp only [hu,Zax] at kx ky
    obtain⟨i,hi⟩:=Option.isSome_iff_exists.1 kx.1
    show(Op.equalIn (k+d+1) T (.agg _) (.agg _)).run P w=_
    rw [run_equalIn_array w (k+d) _ _ hu hi]
    have kx:=kx.2
    have ky:=ky.2
    clear hu hi
    generalize List.range n=l at h kx ky
    induction l generalizing b with
    | nil=>simp at h; subst h; rfl
    | cons j l' ih =>
     simp only [List.foldr_cons] at h
     simp only [ZaT,Zax] at kx ky
     split at h
     · rename_i a c ha hc
       rw [ha] at kx
       rw [hc] at ky
       split at h
       · rename_i p q hp hq
         cases h
         unfold Op.eqItems
         simp only [Sem.run_bind,EN e w ha,EN e w hc,Result.andThen_ok,N7 e k d w kx.1 ky.1 hp]
         cases p
         · rfl
         · simp only [ZaM,Zaz,if_false,ZaS]
           exact ih q hq kx.2 ky.2
       · cases h
     · cases h
  · cases h
theorem IB (e:HO) (em:Bool) (k:Nat):∀ (d:Nat) {T:TypeId} {x:SA} (w:World),M8 P d T x=true→(Instr.checkKey em (k+d) T (x.den e)).run P w=.ok () w
 | 0,_,_,_,h=>by simp [M8] at h
 | d+1,T,x,w,h=>by
  unfold M8 at h
  rw [show k+(d+1)=(k+d)+1 from rfl,Instr.checkKey]
  split at h
  · rename_i hu
    simp only [Sem.run_bind,run_underlying hu,Result.andThen_ok]
    rfl
  · rename_i hu
    simp only [Sem.run_bind,run_underlying hu,Result.andThen_ok]
    rfl
  · rename_i fs xs hu
    simp only [SA.den,Sem.run_bind,run_underlying hu,Result.andThen_ok]
    rw [← Array.forIn_toList]
    clear hu
    generalize fs.toList=l at h
    induction l generalizing w with
    | nil=>simp
    | cons f fs' ih =>
     simp only [ZaT,Zax] at h
     have h1:=h.1
     split at h1
     · rename_i a ha
       simp only [List.forIn_cons,Sem.run_bind,Sem.run_ite]
       split
       · simp only [Sem.run_bind,EN e w ha,Result.andThen_ok,IB e em k d w h1,Sem.run_pure]
         exact ih w h.2
       · simp only [Sem.run_pure,Result.andThen_ok]
         exact ih w h.2
     · cases h1
  · rename_i n E xs hu
    simp only [Zax] at h
    obtain⟨i,hi⟩:=Option.isSome_iff_exists.1 h.1
    have h:=h.2
    simp only [SA.den,Sem.run_bind,run_underlying hu,Result.andThen_ok]
    simp only [Std.Legacy.Range.forIn_eq_forIn_range',Std.Legacy.Range.size,Nat.sub_zero,Nat.add_one_sub_one,Nat.div_one]
    rw [List.range_eq_range'] at h
    generalize List.range' 0 n=l at h
    induction l with
    | nil=>simp
    | cons j l' ih =>
     simp only [ZaT,Zax] at h
     have h1:=h.1
     split at h1
     · rename_i a ha
       simp only [List.forIn_cons,Sem.run_bind,run_sizeOf w hi,Result.andThen_ok,EN e w ha,IB e em k d w h1,Sem.run_pure]
       exact ih h.2
     · cases h1
  · cases h
def N8:List SC→Bool
 | []=>true
 | .int _ _::r=>N8 r
 | .bool _::r=>N8 r
 | _=>false
theorem GV (e:HO) (n:Nat):∀ {cs:List SC},N8 cs=true→((cs.map (SC.den e)).zip (cs.map (SC.den e))).all (fun(x,y)=>Instr.sameBits n x y)=true
 | [],_=>rfl
 | .int k a::r,h=>by simp only [N8] at h; simp only [Zbm,List.zip_cons_cons,ZaT,GV e n h]; simp [SC.den,Instr.sameBits]
 | .bool b::r,h=>by simp only [N8] at h; simp only [Zbm,List.zip_cons_cons,ZaT,GV e n h]; simp [SC.den,Instr.sameBits]
theorem Ja {K:Type} [KRep K] [DecidableEq K] {KT:TypeId} (w:World) (heq:∀ a b:K,(Op.equal KT (kv a) (kv b)).run P w=.ok (decide (a=b)) w) (k:K):∀ (es:List MapEntry)(i:Nat),(∀ e∈es,∃ q:K,e.key=kv q) →
  ((Instr.findAsking KT (kv k) es i).run P w=.ok none w∧∀ e∈es,e.key≠kv k)∨∃ j e,(Instr.findAsking KT (kv k) es i).run P w=.ok (some (i+j,e.val)) w∧es[j]? = some e∧e.key=kv k
 | [],i,_=>.inl ⟨rfl,by simp⟩
 | e::es,i,h=>by
  obtain⟨q,hq⟩:=h e (by simp)
  by_cases hk:k=q
  · subst hk
    refine .inr ⟨0,e,?_,rfl,hq⟩
    unfold Instr.findAsking
    simp only [hq,Sem.run_bind,heq,Result.andThen_ok,decide_true,if_true,Sem.run_pure,Nat.add_zero]
  · have hne:e.key≠kv k:=fun he=>hk (KRep.inj (by rw [← he,hq]))
    have hrun:(Instr.findAsking KT (kv k) (e::es) i).run P w=(Instr.findAsking KT (kv k) es (i+1)).run P w:=by
     rw [Instr.findAsking]
     simp only [hq,Sem.run_bind,heq,Result.andThen_ok,hk,decide_false,Zaz,if_false]
    rcases Ja w heq k es (i+1) (fun e he=>h e (by simp [he])) with⟨h1,h2⟩ | ⟨j,e',h1,h2,h3⟩
    · exact .inl ⟨by rw [hrun]; exact h1,fun x hx=>by
       rcases Zam.1 hx with rfl | hx
       · exact hne
       · exact h2 x hx⟩
    · exact .inr ⟨j+1,e',by rw [hrun,h1]; congr 3; omega,by simpa using h2,h3⟩
theorem KL.struct {K:Type} [KRep K] [DecidableEq K] {KT:TypeId} (d:Nat) (hd:decide (d≤10000)=true) (cs:K→List SC) (hkv:∀ k:K,kv k=.agg ((cs k).map (SC.den [])).toArray) (hw:(match P.underlying KT with | some (.array _ _) | some (.struct _)=>true | _=>false)=true)
  (hkind:∀ k:K,M8 P d KT (.agg (cs k))=true) (hp:∀ k:K,N8 (cs k)=true) (heq:∀ a b:K,∃ r,Aew P d KT (.agg (cs a)) (.agg (cs b))=some r∧(r=true↔a=b)):KL P KT K:=by
 have hd:=of_decide_eq_true hd
 have h0:∀ (w:World)(a b:K),(Op.equal KT (kv a) (kv b)).run P w=.ok (decide (a=b)) w:=fun w a b=>by
  obtain⟨r,hr,hiff⟩:=heq a b
  have:=N7 [] (10000-d) d w (hkind a) (hkind b) hr
  rw [show 10000-d+d=10000 by omega] at this
  rw [hkv a,hkv b]
  have hr2:decide (a=b)=r:=by
   cases r
   · have : ¬ a=b:=fun h=>by have:=hiff.2 h; cases this
     simp [this]
   · have:=hiff.1 rfl
     simp [this]
  rw [hr2]
  exact this
 refine⟨fun w em k=>?_,fun w k es he=>?_,fun w k=>?_⟩
 · have:=IB (P:=P) [] em (10000-d) d w (hkind k)
   rw [show 10000-d+d=10000 by omega] at this
   rw [hkv k]
   exact this
 · rw [run_findKey_eq (P:=P) w hw]
   have:=Ja (P:=P) w (h0 w) k es 0 he
   simpa using this
 · have:Instr.sameBits 10000 (kv k) (kv k)=true:=by
    rw [hkv k]
    show Instr.sameBits (9999+1) _ _=true
    simp only [Instr.sameBits,beq_self_eq_true,ZaS]
    exact GV [] 9999 (hp k)
   simp [Instr.keyThatStays,this]
end
end
end Go.Proofs.YtkpgggfibljflaaGreatDoor
