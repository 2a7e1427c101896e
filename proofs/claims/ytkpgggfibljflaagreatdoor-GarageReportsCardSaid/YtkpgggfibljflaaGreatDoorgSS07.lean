/- What a proof leans on: a machine that steps through code, and what functions compute. -/
import Derived.Test.YtkpgggfibljflaaGreatDoorgSS06
import Derived.OrdersIn
import Derived.Scope
import Derived.DeepKeys3
set_option linter.all false
namespace Go.Proofs.YtkpgggfibljflaaGreatDoor
open Go Go.RowKit
open Rep (rep)
section
variable {Ty:Nat→Type} {ops:Array Oper}
theorem GJ {xs ys:List Nat} (h:NC xs ys=true) {x:Nat} (hx:AF xs x=true):AF ys x=false:=by
 have:=Za9.1 h x (Br.1 hx)
 cases hb:AF ys x with
 | false=>rfl
 | true=>rw [hb] at this; cases this
theorem Pa {B:List Nat} {i:Nat} {a:Oper} {ra:Rc Ty}:∀ {bs:List Oper} {rbs:List (Rc Ty)} {j k:Nat} {b:Oper} {rb:Rc Ty},Abq ops B i a ra j bs rbs=true→bs[k]? = some b→rbs[k]? = some rb→Tg ops B i a ra (j+k) b rb=true
 | [],_,j,k,b,rb,_,h,_=>by simp at h
 | _::_,[],j,k,b,rb,_,_,h=>by simp at h
 | b0::bs,r0::rbs,j,0,b,rb,hh,h1,h2=>by
  simp at h1 h2
  subst h1; subst h2
  exact(As hh).1
 | b0::bs,r0::rbs,j,k+1,b,rb,hh,h1,h2=>by
  have:=Pa (As hh).2 (k:=k) (by simpa using h1) (by simpa using h2)
  rwa [show j+1+k=j+(k+1) by omega] at this
theorem Gb {B:List Nat}:∀ {as:List Oper} {ras:List (Rc Ty)} {i x y:Nat} {a b:Oper} {ra rb:Rc Ty},MA ops B i as ras=true→as[x]? = some a→ras[x]? = some ra→as[y]? = some b→ras[y]? = some rb→x<y→Tg ops B (i+x) a ra (i+y) b rb=true
 | [],_,i,x,y,a,b,ra,rb,_,h,_,_,_,_=>by simp at h
 | _::_,[],i,x,y,a,b,ra,rb,_,_,h,_,_,_=>by simp at h
 | a0::as,r0::ras,i,0,0,a,b,ra,rb,_,_,_,_,_,h=>by omega
 | a0::as,r0::ras,i,0,y+1,a,b,ra,rb,hh,h1,h2,h3,h4,_=>by
  simp at h1 h2
  subst h1; subst h2
  have:=Pa (As hh).1 (k:=y) (by simpa using h3) (by simpa using h4)
  rwa [show i+1+y=i+(y+1) by omega] at this
 | a0::as,r0::ras,i,x+1,0,a,b,ra,rb,_,_,_,_,_,h=>by omega
 | a0::as,r0::ras,i,x+1,y+1,a,b,ra,rb,hh,h1,h2,h3,h4,hlt=>by
  have:=Gb (As hh).2 (x:=x) (y:=y) (by simpa using h1) (by simpa using h2) (by simpa using h3) (by simpa using h4) (by omega)
  rwa [show i+1+x=i+(x+1) by omega,show i+1+y=i+(y+1) by omega] at this
theorem GK:∀ {as:List Oper} {i k:Nat} {o:Oper},Qi i as=true→as[k]? = some o→∀ e∈DB o,e<i+k
 | [],i,k,o,_,h=>by simp at h
 | a::as,i,0,o,hh,h=>by
  simp at h
  subst h
  intro e he
  have:=Za9.1 (As hh).1 e he
  exact Zah this
 | a::as,i,k+1,o,hh,h=>by
  intro e he
  have:=GK (As hh).2 (k:=k) (by simpa using h) e he
  omega
structure T6 (ops:Array Oper) (a:Oper) (ra:Rc Ty) (b:Oper) (rb:Rc Ty):Prop where
 t1:∀ x,AF (Ll a) x=true→AF (J0 ops b) x=false
 w1:∀ x,AF (K0 ra.ws) x=true→AF rb.rd x=false
 w2:∀ x,AF (K0 ra.ws) x=true→AF (K0 rb.ws) x=false
theorem F8 {B:List Nat} {i j:Nat} {a b:Oper} {ra rb:Rc Ty} (h:Tg ops B i a ra j b rb=true) (hb:R6 (Be B j) i=false):T6 ops a ra b rb∧T6 ops b rb a ra:=by
 unfold Tg at h
 rw [hb,Zbs] at h
 obtain⟨h,h5⟩:=As h
 obtain⟨h,h4⟩:=As h
 obtain⟨h,h3⟩:=As h
 obtain⟨h1,h2⟩:=As h
 have flip:∀ {xs ys:List Nat},NC xs ys=true→∀ x,AF ys x=true→AF xs x=false:=fun {xs ys} hh x hx=>by
  cases hc:AF xs x with
  | false=>rfl
  | true=>have:=GJ hh hc; rw [hx] at this; cases this
 exact⟨⟨fun x hx=>GJ h1 hx,fun x hx=>GJ h3 hx,fun x hx=>GJ h4 hx⟩,⟨fun x hx=>GJ h2 hx,fun x hx=>flip h5 x hx,fun x hx=>flip h4 x hx⟩⟩
end
section
variable {Ty:Nat→Type} [rT:∀ k,Rep (Ty k)] [RFs] [UM Ty] [UML Ty] {P:Program} {F:Fr} {h:Ad} {g:GE} {w w':World} {N n0:Nat}
variable {Q:Exit→Act→World→Prop} {t:Array Value} {d:List Deferred} {ops:Array Oper} {rs:List (Rc Ty)} {X0:Nat→Option (V Ty)} {M0:Mo Ty} {h0:Ad} {g0:GE}
def TD (ops:Array Oper) (rs:List (Rc Ty)) (X0:Nat→Option (V Ty)) (D:Nat→Bool):Nat→Option (V Ty):=Dw D 0 (Hf ops.toList rs) X0
def MD (rs:List (Rc Ty)) (M0:Mo Ty) (D:Nat→Bool):Mo Ty:=Dw D 0 (rs.map Aar) M0
def pD (n0 n:Nat) (D:Nat→Bool):Nat→Bool:=fun i=>Nat.blt i n0 || (List.range n).any fun a=>D a && Ng (n0+64*a) i
theorem AiY {n:Nat} {D:Nat→Bool} {a i:Nat} (ha:a<n) (hD:D a=true) (hi:Ng (n0+64*a) i=true):pD n0 n D i=true:=by
 unfold pD
 rw [ZaS]
 exact .inr (ZaW.2 ⟨a,Zb5.2 ha,by rw [hD,hi]; rfl⟩)
theorem MH {n:Nat} {D D':Nat→Bool} (hD:∀ a,D a=true→D' a=true):∀ i,pD n0 n D i=true→pD n0 n D' i=true:=fun i hi=>by
 unfold pD at hi ⊢
 rw [ZaS] at hi ⊢
 rcases hi with hi | hi
 · exact .inl hi
 · obtain⟨a,h1,h2⟩:=ZaW.1 hi
   obtain⟨q1,q2⟩:=As h2
   exact .inr (ZaW.2 ⟨a,h1,by rw [hD a q1,q2]; rfl⟩)
theorem AfF {n:Nat} {D:Nat→Bool} {i:Nat} (hi:D i=false):Eb (pD n0 n D) (n0+64*i):=fun j hj=>by
 cases hb:pD n0 n D j with
 | false=>rfl
 | true =>
  exfalso
  have h1:=Ea.1 hj
  unfold pD at hb
  rw [ZaS] at hb
  rcases hb with hb | hb
  · have:j<n0:=Zah hb
    omega
  · obtain⟨a,_,h2⟩:=ZaW.1 hb
    obtain⟨q1,q2⟩:=As h2
    have h3:=Ea.1 q2
    have:a=i:=by omega
    subst this
    rw [hi] at q1; cases q1
structure AdM (ops:Array Oper) (rs:List (Rc Ty)) (X0:Nat→Option (V Ty)) (M0:Mo Ty) (N n0:Nat) (F:Fr) (h0:Ad) (g0:GE) (D:Nat→Bool) (t:Array Value) (w:World):Prop where
 size:t.size=N
 ex:∃ h g,Ad.le h0 h∧(∀ j,j<n0→g j=g0 j)∧Al F h g (MD rs M0 D) w∧(∀ k v,TD ops rs X0 D k=some v→∃ u,t[k]? = some u∧v.den g h u)∧(∀ k v,TD ops rs X0 D k=some v→v.okB (pD n0 ops.size D)=true)∧G1 (pD n0 ops.size D) (MD rs M0 D)
theorem T7 {o:Oper} {x:Nat} (h:AF (Zg o.op.operands.toList) x=true):AF (J0 ops o) x=true:=by
 unfold J0
 rw [Br,Za6]
 exact ZaL _ (Br.1 h)
theorem Abw {o:Oper} {x:Nat} (h:AF (Ll o) x=true):AF (J0 ops o) x=true:=by
 unfold J0
 rw [Br]
 exact ZaL _ (List.mem_append_right _ (Br.1 h))
theorem Xm {o oj:Oper} {j x:Nat} {wt:Bool} (hg:o.guard=some (j,wt)) (hj:ops[j]? = some oj) (hd:oj.dst=some x):AF (J0 ops o) x=true:=by
 unfold J0
 rw [Br]
 refine List.mem_append_right _ ?_
 simp [hg,hj,hd]
theorem Z8 {a b:Nat} (h:AF [a] b=true):a=b:=by
 have:=Br.1 h
 simp at this
 exact this.symm
variable [UV Ty] [UL Ty] [UMP Ty P]
def Z9 (y:Bool) (P:Program) (ops:Array Oper) (Q:Exit→Act→World→Prop) (i:Nat) (K:Act→World→Prop) (a:Act) (w:World):Prop:=match y with
 | true=>wpOpIn Fence.wide 0 P ops Q i K a w
 | false=>wpOp P ops Q i K a w
def MT (y:Bool) (P:Program) (ops:Array Oper) (Q:Exit→Act→World→Prop) (fuel:Nat) (listed:Array Bool) (a:Act) (w:World):Prop:=match y with
 | true=>wpAnyIn Fence.wide 0 P .any ops Q fuel listed a w
 | false=>wpAny P .any ops Q fuel listed a w
omit rT [UV Ty] [UL Ty] [UMP Ty P] [RFs] [UM Ty] [UML Ty] in
theorem Z9.mono {y:Bool} {i:Nat} {K K':Act→World→Prop} {a:Act} {w:World} (h:∀ a w,K a w→K' a w) (hh:Z9 y P ops Q i K a w):Z9 y P ops Q i K' a w:=match y,hh with
 | true,hh=>wpOpIn_mono h hh
 | false,hh=>wpOp_mono h hh
omit rT [UV Ty] [UL Ty] [UMP Ty P] [RFs] [UM Ty] [UML Ty] in
theorem MT.zero {y:Bool} {listed:Array Bool} {a:Act} {w:World} (h1:Region.ready .any ops listed=[]) (h2:Q .normal a w):MT y P ops Q 0 listed a w:=match y with
 | true=>⟨h1,h2⟩
 | false=>⟨h1,h2⟩
omit rT [UV Ty] [UL Ty] [UMP Ty P] [RFs] [UM Ty] [UML Ty] in
theorem MT.succ {y:Bool} {fuel:Nat} {listed:Array Bool} {a:Act} {w:World} (h1:Region.ready .any ops listed=[]→Q .normal a w) (h2:∀ i∈Region.ready .any ops listed,Z9 y P ops Q i (MT y P ops Q fuel (listed.setIfInBounds i true)) a w):MT y P ops Q (fuel+1) listed a w:=match y,h2 with
 | true,h2=>⟨h1,h2⟩
 | false,h2=>⟨h1,h2⟩
omit rT [UV Ty] [UL Ty] [UMP Ty P] [RFs] [UM Ty] [UML Ty] in
theorem Qr.one {y:Bool} {i:Nat} {a:Act} {w:World} (hi:ops.size=i+1) (h:Qr y P ops Q i a w):Z9 y P ops Q i (fun a w=>Q .normal a w) a w:=by
 cases y with
 | true =>
  have h:GF P ops Q i a w:=h
  unfold GF at h
  rw [hi,show i+1-i=1 by omega] at h
  have h:wpOpsIn Fence.wide 0 P ops Q (i::[]) a w:=h
  rw [wpOpsIn_cons] at h
  exact h
 | false =>
  have h:Hr P ops Q i a w:=h
  unfold Hr at h
  rw [hi,show i+1-i=1 by omega] at h
  exact h
theorem ZA {y:Bool} {call:Bi Ty} (hP:Ga P) (hc:CU P call) (hy:y=false→∀ args k s,(call Ar args k s).runK some=none) (hlen:rs.length≤ops.toList.length)
  (hfact:∀ (k:Nat)(o:Oper)(rc:Rc Ty),ops.toList[k]? = some o→rs[k]? = some rc→Wf P N call ops n0 k o rc (TD ops rs X0 fun a=>decide (a<k)) (MD rs M0 fun a=>decide (a<k)))
  {D:Nat→Bool} {i:Nat} {o:Oper} {rc:Rc Ty} (ho:ops[i]? = some o) (hrc:rs[i]? = some rc) (hDi:D i=false)
  (hpre:∀ k ok rk,ops[k]? = some ok→rs[k]? = some rk→k<i→D k=false→T6 ops ok rk o rc)
  (hpost:∀ k ok rk,ops[k]? = some ok→rs[k]? = some rk→i<k→D k=true→T6 ops ok rk o rc∧T6 ops o rc ok rk)
  (hI:AdM ops rs X0 M0 N n0 F h0 g0 D t w) {K:Act→World→Prop}
  (hK:∀ t' w',AdM ops rs X0 M0 N n0 F h0 g0 (fun a=>D a || a == i) t' w'→K ⟨t',d⟩ w'):Z9 y P ops Q i K ⟨t,d⟩ w:=by
 obtain⟨hsize,h,g,hle,hg0,hm,hkn,hok,hin⟩:=hI
 have hil:i<ops.size:=(Zak.1 ho).1
 have hoL:ops.toList[i]? = some o:=by rw [Za1]; exact ho
 obtain⟨hdst,hcase⟩:=hfact i o rc hoL hrc
 -- the slots and cells that it looks at are as in the text's order
 have agreeT:∀ x,AF (J0 ops o) x=true→TD ops rs X0 (fun a=>decide (a<i)) x=TD ops rs X0 D x:=fun x hx=>by
  refine CE (JU _ _) (fun k f hk hne=>?_) rfl
  obtain⟨ok,rk,h1,h2,rfl⟩:=JV hk
  rw [Zaw] at hne
  rw [Za1] at h1
  show AF (Ll ok) x=false
  cases hb:AF (Ll ok) x with
  | false=>rfl
  | true =>
   exfalso
   rcases Nat.lt_trichotomy k i with hlt | heq | hgt
   · have hDk:D k=false:=by
      cases hD:D k with
      | false=>rfl
      | true=>rw [hD] at hne; exact absurd (by simp [hlt]) hne
     have:=(hpre k ok rk h1 h2 hlt hDk).t1 x hb
     rw [hx] at this; cases this
   · subst heq; rw [hDi] at hne; exact hne (by simp)
   · have hDk:D k=true:=by
      cases hD:D k with
      | true=>rfl
      | false=>rw [hD] at hne; exact absurd (by simp; omega) hne
     have:=(hpost k ok rk h1 h2 hgt hDk).1.t1 x hb
     rw [hx] at this; cases this
 have agreeM:∀ x,AF rc.rd x=true→MD rs M0 (fun a=>decide (a<i)) x=MD rs M0 D x:=fun x hx=>by
  refine CE (LS _) (fun k f hk hne=>?_) rfl
  rw [ZaI] at hk
  obtain⟨rk,h2,rfl⟩:=Za0.1 hk
  rw [Zaw] at hne
  have hkl:k<ops.size:=by
   have:=(Zaz.1 h2).1
   have:=Zaq this hlen; simpa using this
  obtain⟨ok,h1⟩:∃ ok,ops[k]? = some ok:=⟨_,ZaJ hkl⟩
  show AF (K0 rk.ws) x=false
  cases hb:AF (K0 rk.ws) x with
  | false=>rfl
  | true =>
   exfalso
   rcases Nat.lt_trichotomy k i with hlt | heq | hgt
   · have hDk:D k=false:=by
      cases hD:D k with
      | false=>rfl
      | true=>rw [hD] at hne; exact absurd (by simp [hlt]) hne
     have:=(hpre k ok rk h1 h2 hlt hDk).w1 x hb
     rw [hx] at this; cases this
   · subst heq; rw [hDi] at hne; exact hne (by simp)
   · have hDk:D k=true:=by
      cases hD:D k with
      | true=>rfl
      | false=>rw [hD] at hne; exact absurd (by simp; omega) hne
     have:=(hpost k ok rk h1 h2 hgt hDk).1.w1 x hb
     rw [hx] at this; cases this
 -- behind it
 let D':Nat→Bool:=fun a=>D a || a == i
 have hDD:∀ a,D a=true→D' a=true:=fun a ha=>by show(D a || a == i)=true; rw [ha]; rfl
 have updT:∀ x,TD ops rs X0 D' x=if AF (Ll o) x=true then some rc.v else TD ops rs X0 D x:=fun x=>by
  split
  · rename_i hx
    have:=T4 (D:=D') (i:=0) (k:=i) (j:=x) (f:=AdK o rc) (X:=X0) (Z:=X0) (JU ops.toList rs) (Ac0 hoL hrc) (by show(D (0+i) || 0+i == i)=true; simp) hx (fun k' f' hk' hlt hD'=>?_)
    · unfold TD
      rw [this]
      show(if AF (Ll o) x=true then some rc.v else X0 x)=_
      rw [if_pos hx]
    · obtain⟨ok,rk,h1,h2,rfl⟩:=JV hk'
      rw [Za1] at h1
      have hDk:D k' = true:=by
       have:(D (0+k') || 0+k' == i)=true:=hD'
       rw [Zaw,ZaS] at this
       rcases this with h | h
       · exact h
       · have:k' = i:=by simpa using h
         omega
      show AF (Ll ok) x=false
      cases hb:AF (Ll ok) x with
      | false=>rfl
      | true =>
       have:=(hpost k' ok rk h1 h2 hlt hDk).1.t1 x hb
       rw [Abw hx] at this; cases this
  · rename_i hx
    refine CE (JU _ _) (fun k f hk hne=>?_) rfl
    obtain⟨ok,rk,h1,h2,rfl⟩:=JV hk
    rw [Zaw] at hne
    have hki:k=i:=by
     have:(D k || k == i)≠D k:=hne
     cases hD:D k with
     | true=>rw [hD] at this; exact absurd rfl this
     | false =>
      rw [hD] at this
      cases hk2:(k == i) with
      | true=>simpa using hk2
      | false=>rw [hk2] at this; exact absurd rfl this
    subst hki
    rw [Za1,ho] at h1
    cases h1
    show AF (Ll o) x=false
    simpa using hx
 have updM:∀ (Z:Mo Ty) x,MD rs M0 D' x=if AF (K0 rc.ws) x=true then Mo.app Z rc.ws x else MD rs M0 D x:=fun Z x=>by
  split
  · rename_i hx
    refine T4 (D:=D') (i:=0) (k:=i) (j:=x) (f:=Aar rc) (LS rs) (by rw [ZaI,hrc]; rfl) (by show(D (0+i) || 0+i == i)=true; simp) hx (fun k' f' hk' hlt hD'=>?_)
    rw [ZaI] at hk'
    obtain⟨rk,h2,rfl⟩:=Za0.1 hk'
    have hkl:k'<ops.size:=by
     have:=(Zaz.1 h2).1
     have:=Zaq this hlen; simpa using this
    obtain⟨ok,h1⟩:∃ ok,ops[k']? = some ok:=⟨_,ZaJ hkl⟩
    have hDk:D k' = true:=by
     have:(D (0+k') || 0+k' == i)=true:=hD'
     rw [Zaw,ZaS] at this
     rcases this with h | h
     · exact h
     · have:k' = i:=by simpa using h
       omega
    exact(hpost k' ok rk h1 h2 hlt hDk).2.w2 x hx
  · rename_i hx
    refine CE (LS _) (fun k f hk hne=>?_) rfl
    rw [ZaI] at hk
    obtain⟨rk,h2,rfl⟩:=Za0.1 hk
    rw [Zaw] at hne
    have hki:k=i:=by
     have:(D k || k == i)≠D k:=hne
     cases hD:D k with
     | true=>rw [hD] at this; exact absurd rfl this
     | false =>
      rw [hD] at this
      cases hk2:(k == i) with
      | true=>simpa using hk2
      | false=>rw [hk2] at this; exact absurd rfl this
    subst hki
    rw [hrc] at h2
    cases h2
    show AF (K0 rc.ws) x=false
    simpa using hx
 have hwant:∀ b,Ni ops (TD ops rs X0 fun a=>decide (a<i)) o=some b→Region.wanted o (yielded ops t)=b:=fun b hb=>by
  unfold Ni at hb
  unfold Region.wanted
  split at hb
  · rename_i hg; cases hb; simp [hg]
  · rename_i j wt hg
    simp only [hg]
    split at hb
    · rename_i oj hoj
      split at hb
      · rename_i x hd
        have ha:=agreeT x (Xm hg hoj hd)
        split at hb
        · rename_i b' hx
          cases hb
          rw [ha] at hx
          obtain⟨u,q1,q2⟩:=hkn x _ hx
          unfold V.den at q2
          subst q2
          unfold yielded
          rw [hoj]
          simp only [Zaa,hd,q1]
          cases b' <;> cases wt <;> rfl
        · rename_i hx
          cases hb
          rw [ha] at hx
          obtain⟨u,q1,q2⟩:=hkn x _ hx
          unfold V.den at q2
          subst q2
          unfold yielded
          rw [hoj]
          simp only [Zaa,hd,q1,Go.undef]
          rfl
        · cases hb
      · cases hb
    · cases hb
 suffices hsuf:if Region.wanted o (yielded ops t)=true then Ait y P o ⟨t,d⟩ w K Q else K ((Act.mk t d).put o.dst Go.undef) w by
  cases y with
  | true =>
   show wpOpIn Fence.wide 0 P ops Q i K ⟨t,d⟩ w
   unfold wpOpIn
   simp only [ho]
   split
   · rename_i hw; rw [if_pos hw] at hsuf; exact hsuf
   · rename_i hw; rw [if_neg hw] at hsuf; exact⟨fun _ _=>trivial,hsuf⟩
  | false =>
   show wpOp P ops Q i K ⟨t,d⟩ w
   unfold wpOp
   simp only [ho]
   split
   · rename_i hw; rw [if_pos hw] at hsuf; exact .inl hsuf
   · rename_i hw; rw [if_neg hw] at hsuf; exact hsuf
 rcases hcase with⟨hw,m',s',hm',hs',hrun,hsub⟩ | ⟨hw,hv,hws⟩
 · simp only [hwant true hw,if_true]
   have hsub1:∀ j c,AL.get s' j=some c→MD rs M0 D j=some c:=fun j c hj=>by
    rw [hs' j] at hj
    split at hj
    · rename_i hrd; rw [← agreeM j hrd]; exact hj
    · cases hj
   obtain⟨X,hm1,hback⟩:=hm.hide hsub1
   have hk1:P3 g h m' t:=fun k v hv=>by
    rw [hm' k] at hv
    split at hv
    · rename_i hns; exact hkn k v (by rw [← agreeT k (T7 hns)]; exact hv)
    · cases hv
   have hi1:Tq (pD n0 ops.size D) m':=fun k v hv=>by
    rw [hm' k] at hv
    split at hv
    · rename_i hns; exact hok k v (by rw [← agreeT k (T7 hns)]; exact hv)
    · cases hv
   have hin1:G1 (pD n0 ops.size D) (AL.get s'):=fun j c hj=>hin j c (hsub1 j c hj)
   refine Wd (F:=⟨F.w,F.h,X⟩) hP hc hy rfl hm1 (AfF hDi) hin1 hk1 hi1 hrun ?_
   intro h' g' w' u q1 q2 q3 q4 q5 q6
   have hup:∀ j,UD (pD n0 ops.size D) (n0+64*i) j=true→pD n0 ops.size D' j=true:=fun j hj=>by
    unfold UD at hj
    rw [ZaS] at hj
    rcases hj with hj | hj
    · exact MH hDD j hj
    · exact AiY hil (by show(D i || i == i)=true; simp) hj
   have hsubw:∀ {l:List Nat},Ad8 (n0+64*i) rc.rd l=true→∀ x,AF l x=true→AF rc.rd x=true∨Ng (n0+64*i) x=true:=by
    intro l
    induction l with
    | nil=>intro _ x hx; cases hx
    | cons y l ih =>
     intro hh x hx
     unfold Ad8 at hh
     obtain⟨q1,q2⟩:=As hh
     unfold AF at hx
     cases hb:Nat.beq y x with
     | true =>
      have:=Zac hb
      subst this
      rw [ZaS] at q1
      exact q1
     | false=>rw [hb] at hx; exact ih q2 x hx
   have hact:(Act.mk t d).put o.dst u=Act.mk ((Act.mk t d).put o.dst u).tmps d:=RO (K4 _ _ _)
   rw [hact]
   refine hK _ w' ⟨by rw [OZ]; exact hsize,h',g',Ad.le_trans hle q1,fun j hj=>?_,?_,?_,?_,?_⟩
   · rw [q2 j (by unfold pD; rw [show Nat.blt j n0=true from Za2 hj]; rfl)]
     exact hg0 j hj
   · have:=hback (p:=pD n0 ops.size D) (fun j=>!AF rc.rd j && !AF (K0 rc.ws) j) q3 q1 q2 hin (fun j c hj hr=>by
      rw [hs' j,if_neg]
      intro hrd
      rw [hrd] at hr
      cases hr)
     refine Al.less this fun j c hj=>?_
     show(if (!AF rc.rd j && !AF (K0 rc.ws) j)=true then MD rs M0 D j else Mo.app (AL.get s') rc.ws j)=some c
     rw [updM (AL.get s') j] at hj
     split at hj
     · rename_i hx
       rw [if_neg (by rw [hx]; simp)]
       exact hj
     · rename_i hx
       cases hrd:AF rc.rd j with
       | false=>rw [if_pos (by simp [show AF (K0 rc.ws) j=false by simpa using hx])]; exact hj
       | true =>
        rw [if_neg (by simp)]
        rw [Mo.app_not (fun x hx' he=>hx (Br.2 (by rw [← he]; exact List.mem_map_of_mem hx')))]
        rw [hs' j,if_pos hrd,agreeM j hrd]
        exact hj
   · intro k v hv
     have hv2:TD ops rs X0 D' k=some v:=hv
     rw [updT k] at hv2
     split at hv2
     · rename_i hx
       cases hv2
       unfold Ll at hx
       cases hd:o.dst with
       | none=>rw [hd] at hx; cases hx
       | some x =>
        rw [hd] at hx
        have:=Z8 hx
        subst this
        refine⟨u,?_,q5⟩
        rw [hd] at hdst
        have:x<t.size:=by rw [hsize]; exact Zah hdst
        simp [Act.put,this]
     · rename_i hx
       obtain⟨u',e1,e2⟩:=hkn k v hv2
       refine⟨u',?_,V.den_mono q1 _ _ (V.den_agree q2 (hok k v hv2) e2)⟩
       cases hd:o.dst with
       | none=>exact e1
       | some x =>
        have hne:x≠k:=fun hh=>by
         subst hh
         apply hx
         unfold Ll
         rw [hd]
         simp [AF]
        simp only [Act.put]
        rw [ZaX hne]
        exact e1
   · intro k v hv
     have hv2:TD ops rs X0 D' k=some v:=hv
     rw [updT k] at hv2
     split at hv2
     · cases hv2; exact V.okB_imp hup _ q6
     · exact V.okB_imp (MH hDD) _ (hok k v hv2)
   · intro j c hj
     have hj2:MD rs M0 D' j=some c:=hj
     rw [updM (AL.get s') j] at hj2
     split at hj2
     · obtain⟨e1,e2⟩:=q4 j c hj2
       exact⟨hup j e1,AE.okB_imp hup e2⟩
     · obtain⟨e1,e2⟩:=hin j c hj2
       exact⟨MH hDD j e1,AE.okB_imp (MH hDD) e2⟩
 · have hrv:rc.v=.undef:=hv
   clear hv
   simp only [hwant false hw,Za4,if_false]
   have hact:(Act.mk t d).put o.dst Go.undef=Act.mk ((Act.mk t d).put o.dst Go.undef).tmps d:=RO (K4 _ _ _)
   rw [hact]
   have hMs:MD rs M0 D' = MD rs M0 D:=funext fun j=>by
    rw [updM M0 j,hws]
    rfl
   refine hK _ w ⟨by rw [OZ]; exact hsize,h,g,hle,hg0,?_,?_,?_,?_⟩
   · show Al F h g (MD rs M0 D') w
     rw [hMs]; exact hm
   · intro k v hv
     have hv2:TD ops rs X0 D' k=some v:=hv
     rw [updT k] at hv2
     split at hv2
     · rename_i hx
       cases hv2
       unfold Ll at hx
       cases hd:o.dst with
       | none=>rw [hd] at hx; cases hx
       | some x =>
        rw [hd] at hx
        have:=Z8 hx
        subst this
        rw [hd] at hdst
        have:x<t.size:=by rw [hsize]; exact Zah hdst
        exact⟨Go.undef,by simp [Act.put,this],by rw [hrv]; unfold V.den; rfl⟩
     · rename_i hx
       obtain⟨u',e1,e2⟩:=hkn k v hv2
       refine⟨u',?_,e2⟩
       cases hd:o.dst with
       | none=>exact e1
       | some x =>
        have hne:x≠k:=fun hh=>by
         subst hh
         apply hx
         unfold Ll
         rw [hd]
         simp [AF]
        simp only [Act.put]
        rw [ZaX hne]
        exact e1
   · intro k v hv
     have hv2:TD ops rs X0 D' k=some v:=hv
     rw [updT k] at hv2
     split at hv2
     · cases hv2; rw [hrv]; rfl
     · exact V.okB_imp (MH hDD) _ (hok k v hv2)
   · show G1 (pD n0 ops.size D') (MD rs M0 D')
     rw [hMs]
     exact G1.mono hin (MH hDD)
omit rT [UV Ty] [UL Ty] in
theorem LU {p q:Nat→Bool} {i:Nat}:∀ (l:List Nat),(∀ a∈l,q a=(p a && !(a == i)))→(l.filter q).length≤(l.filter p).length∧(i∈l→p i=true→(l.filter q).length<(l.filter p).length)
 | [],_=>⟨Zas _,fun h=>by simp at h⟩
 | b::l,hq=>by
  obtain⟨h1,h2⟩:=LU l fun a ha=>hq a (by simp [ha])
  have hb:=hq b (by simp)
  simp only [List.filter_cons,hb]
  constructor
  · cases p b <;> cases (b == i) <;> simp only [ZaC,Za7,Zb1,Zbm,if_true,if_false,Za4,Zau] <;> omega
  · intro hi hp
    by_cases hbi:b=i
    · subst hbi
      rw [hp]
      simp only [beq_self_eq_true,ZaC,Zbm,if_true,if_false,Za4,Zau]
      omega
    · have hne:(b == i)=false:=by simpa using hbi
      have:=h2 (by rcases Zam.1 hi with h | h; exact absurd h.symm hbi; exact h) hp
      rw [hne]
      cases p b <;> simp only [ZaC,Za7,Zb1,Zbm,if_true,if_false,Za4,Zau] <;> omega
theorem LV {α:Type}:∀ {l:List α} {r:List α} {x:α},JS l=some (r,x)→l=r++[x]
 | [],_,_,h=>by cases h
 | [y],r,x,h=>by cases h; rfl
 | y::z::q,r,x,h=>by
  unfold JS at h
  split at h
  · rename_i l' y' hl
    cases h
    rw [LV hl]; rfl
  · cases h
theorem Rf {b:Nat}:∀ {n i:Nat},MB b n=true→i<n→R6 b i=true
 | 0,_,_,h=>by omega
 | n+1,i,h,hi=>by
  unfold MB at h
  obtain⟨h1,h2⟩:=As h
  by_cases hin:i=n
  · subst hin; exact h1
  · exact Rf h2 (by omega)
theorem ZB {z:List Oper}:∀ {pre:List Oper} {rs:List (Rc Ty)},rs.length=pre.length→Hf (pre++z) rs=Hf pre rs
 | [],[],_=>by cases z <;> rfl
 | [],_::_,h=>by cases h
 | _::_,[],h=>by cases h
 | o::os,r::rs,h=>by
  show(_::Hf (os++z) rs)=_::Hf os rs
  rw [ZB (by simpa using h)]
theorem Va {y:Bool} {call:Bi Ty} {m:List (Nat×V Ty)} {s:A7 Ty} {lf:Lf Ty} (hP:Ga P) (hc:CU P call) (hy:y=false→∀ args k s,(call Ar args k s).runK some=none) (hK:AfD N F h g n0 Q d lf) (hs:RS N F h g n0 m s t w) (hr:(Xc P N call ops n0 m s).runK some=some lf):MT y P ops Q ops.size (Array.replicate ops.size false) ⟨t,d⟩ w:=by
 unfold Xc at hr
 cases hb:Qi 0 ops.toList with
 | false=>rw [hb] at hr; cases hr
 | true =>
  rw [hb,Zab] at hr
  obtain⟨rs,h1,h2⟩:=Tr.run_bind hr
  cases hp:MA ops (Gm ops.toList) 0 ops.toList rs with
  | false=>rw [hp] at h2; cases h2
  | true =>
   rw [hp,Zab] at h2
   cases h2
   obtain⟨hlen,hfact⟩:=NK h1
   have hfact':∀ (k:Nat)(o:Oper)(rc:Rc Ty),ops.toList[k]? = some o→rs[k]? = some rc→Wf P N call ops n0 k o rc (TD ops rs (AL.get m) fun a=>decide (a<k)) (MD rs (AL.get s) fun a=>decide (a<k)):=fun k o rc q1 q2=>by
    have:=hfact k o rc q1 q2
    rw [Zaw] at this
    exact this
   obtain⟨mf,sf,e1,e2,e3⟩:=Qs (n0:=n0) (r:=ops.toList) (rs:=rs) (i:=0) (m:=m) (s:=s) hlen
   rw [e1] at hK
   have recs:∀ k,k<ops.size→∃ o rc,ops[k]? = some o∧rs[k]? = some rc:=fun k hk=>⟨_,_,ZaJ hk,Zap (by rw [hlen]; simpa using hk)⟩
   -- whoever is listed has behind it what it stands on
   have key:∀ (fuel:Nat)(listed:Array Bool)(t:Array Value)(w:World),listed.size=ops.size→((List.range ops.size).filter fun i=>!listed.getD i true).length≤fuel →
     (∀ (b:Nat)(o:Oper),ops[b]? = some o→listed.getD b false=true→∀ e∈DB o,listed.getD e false=true) →
     AdM ops rs (AL.get m) (AL.get s) N n0 F h g (fun a=>listed.getD a false) t w→MT y P ops Q fuel listed ⟨t,d⟩ w:=by
    have gd:∀ (listed:Array Bool)(i:Nat),listed.size=ops.size→i<ops.size→listed.getD i true=listed.getD i false:=fun listed i h1 h2=>by
     simp [ZaH,ZaJ (show i<listed.size by omega)]
    have fin:∀ (listed:Array Bool)(t:Array Value)(w:World),listed.size=ops.size→(∀ i,i<ops.size→listed.getD i false=true)→AdM ops rs (AL.get m) (AL.get s) N n0 F h g (fun a=>listed.getD a false) t w→Q .normal ⟨t,d⟩ w:=by
     intro listed t w hsz hall hI
     obtain⟨hsize,h',g',q1,q2,q3,q4,q5,q6⟩:=hI
     have hT:AL.get mf=TD ops rs (AL.get m) fun a=>listed.getD a false:=by
      rw [e2]
      funext x
      refine CE (JU _ _) (fun k f hk hne=>?_) rfl
      obtain⟨o,r,p1,_,_⟩:=JV hk
      rw [Za1] at p1
      exact absurd (hall k (Zak.1 p1).1).symm (by simpa using hne)
     have hM:AL.get sf=MD rs (AL.get s) fun a=>listed.getD a false:=by
      rw [e3]
      funext x
      refine CE (LS _) (fun k f hk hne=>?_) rfl
      have:=(Zaz.1 hk).1
      simp only [ZaO] at this
      rw [hlen] at this
      exact absurd (hall k (by simpa using this)).symm (by simpa using hne)
     have hpd:∀ i,pD n0 ops.size (fun a=>listed.getD a false) i=true→CT (n0+64*(0+ops.toList.length)) i=true:=fun i hi=>by
      unfold pD at hi
      rw [ZaS] at hi
      refine Ap.2 ?_
      rcases hi with hi | hi
      · have:i<n0:=Zah hi
        omega
      · obtain⟨a,p1,p2⟩:=ZaW.1 hi
        have:=Zb5.1 p1
        have:=Ea.1 (As p2).2
        simp only [ZaN]
        omega
     exact hK F d h' g' t w (FD.refl F d) q1 q2 (by simp only; omega) ⟨hsize,fun k v hv=>q4 k v (by rw [← hT]; exact hv),by simp only; rw [hM]; exact q3,fun k v hv=>V.okB_imp hpd _ (q5 k v (by rw [← hT]; exact hv)),by simp only; rw [hM]; exact G1.mono q6 hpd⟩
    intro fuel
    induction fuel with
    | zero =>
     intro listed t w hsz hcount hcl hI
     have hall:∀ i,i<ops.size→listed.getD i false=true:=fun i hi=>by
      cases hx:listed.getD i false with
      | true=>rfl
      | false =>
       have:i∈(List.range ops.size).filter fun i=>!listed.getD i true:=Zbp.2 ⟨Zb5.2 hi,by rw [gd listed i hsz hi,hx]; rfl⟩
       have:=List.length_pos_of_mem this
       omega
     refine MT.zero ?_ (fin listed t w hsz hall hI)
     cases hrd:Region.ready .any ops listed with
     | nil=>rfl
     | cons i l =>
      have hi:i∈Region.ready .any ops listed:=by rw [hrd]; simp
      obtain⟨hun,o,ho,_⟩:=mem_ready.1 hi
      have hil:=(Zak.1 ho).1
      rw [gd listed i hsz hil,hall i hil] at hun
      cases hun
    | succ fuel ih =>
     intro listed t w hsz hcount hcl hI
     refine MT.succ ?_ ?_
     · intro hrd
       refine fin listed t w hsz ?_ hI
       intro i
       induction i using Nat.strongRecOn with
       | _ i ihi =>
        intro hil
        cases hx:listed.getD i false with
        | true=>rfl
        | false =>
         obtain⟨o,rc,ho,hrc⟩:=recs i hil
         have:i∈Region.ready .any ops listed:=mem_ready.2 ⟨by rw [gd listed i hsz hil,hx],o,ho,fun e he hbe=>by
          have hem:e.on∈DB o:=ZaY.2 ⟨e,Zbp.2 ⟨by simpa using he,hbe⟩,rfl⟩
          have hlt:=GK hb (k:=i) (by rw [Za1]; exact ho) e.on hem
          exact ihi e.on (by omega) (by omega)⟩
         rw [hrd] at this
         cases this
     · intro i hi
       obtain⟨hun,o,ho,hall⟩:=mem_ready.1 hi
       have hil:=(Zak.1 ho).1
       obtain⟨o',rc,ho',hrc⟩:=recs i hil
       rw [ho] at ho'
       cases ho'
       have hDi:listed.getD i false=false:=by rw [← gd listed i hsz hil]; exact hun
       have hedges:∀ e∈DB o,listed.getD e false=true:=fun e he=>by
        obtain⟨ed,p1,p2⟩:=ZaY.1 he
        obtain⟨p3,p4⟩:=Zbp.1 p1
        rw [← p2]
        exact hall ed (by simpa using p3) p4
       have hES:∀ (b:Nat)(es:List Nat),(ops.toList.map DB)[b]? = some es→∃ ob,ops[b]? = some ob∧es=DB ob:=fun b es hbe=>by
        rw [ZaI] at hbe
        obtain⟨ob,p1,rfl⟩:=Za0.1 hbe
        exact⟨ob,by rw [← Za1]; exact p1,rfl⟩
       have hgood:∀ b ob,ops[b]? = some ob→(∀ e∈DB ob,listed.getD e false=true)→∀ a,R6 (Be (Gm ops.toList) b) a=true→listed.getD a false=true:=fun b ob hob he a ha=>by
        refine NL (ES:=ops.toList.map DB) (D:=fun a=>listed.getD a false) ?_ ?_ (ops.toList.map DB) [] [] rfl rfl (fun b es _ hlt=>by simp at hlt) b (DB ob) (by rw [ZaI,Za1,hob]; rfl) he a ha
        · intro b es hbe hD e he
          obtain⟨ob,p1,rfl⟩:=hES b es hbe
          exact hcl b ob p1 hD e he
        · intro b es hbe e he
          obtain⟨ob,p1,rfl⟩:=hES b es hbe
          have:=GK hb (k:=b) (by rw [Za1]; exact p1) e he
          omega
       have gset:∀ a,(listed.setIfInBounds i true).getD a false=(listed.getD a false || a == i):=fun a=>by
        by_cases hai:i=a
        · subst hai
          simp [ZaH,show i<listed.size by omega]
        · rw [getD_set_ne false hai]
          have:(a == i)=false:=by simp; exact fun h=>hai h.symm
          rw [this,Bool.or_false]
       refine ZA hP hc hy (Nat.le_of_eq hlen) hfact' ho hrc hDi ?_ ?_ hI ?_
       · intro k ok rk hok hrk hlt hDk
         have hpo:=Gb hp (x:=k) (y:=i) (by rw [Za1]; exact hok) hrk (by rw [Za1]; exact ho) hrc hlt
         rw [Zaw,Zaw] at hpo
         refine(F8 hpo ?_).1
         cases hbit:R6 (Be (Gm ops.toList) i) k with
         | false=>rfl
         | true=>rw [hgood i o ho hedges k hbit] at hDk; cases hDk
       · intro k ok rk hok hrk hlt hDk
         have hpo:=Gb hp (x:=i) (y:=k) (by rw [Za1]; exact ho) hrc (by rw [Za1]; exact hok) hrk hlt
         rw [Zaw,Zaw] at hpo
         have hbit:R6 (Be (Gm ops.toList) k) i=false:=by
          cases hbit:R6 (Be (Gm ops.toList) k) i with
          | false=>rfl
          | true=>rw [hgood k ok hok (hcl k ok hok hDk) i hbit] at hDi; cases hDi
         exact⟨(F8 hpo hbit).2,(F8 hpo hbit).1⟩
       · intro t' w' hI'
         refine ih _ t' w' (by simp [hsz]) ?_ ?_ ?_
         · have hsz2:(listed.setIfInBounds i true).size=ops.size:=by simp [hsz]
           have hlt:=(LU (p:=fun a=>!listed.getD a true) (q:=fun a=>!(listed.setIfInBounds i true).getD a true) (i:=i) (List.range ops.size) (fun a ha=>by
            have ha:=Zb5.1 ha
            show(!(listed.setIfInBounds i true).getD a true)=(!listed.getD a true && !(a == i))
            rw [gd _ a hsz2 ha,gset,gd _ a hsz ha]
            cases listed.getD a false <;> cases (a == i) <;> rfl)).2 (Zb5.2 hil) (by show(!listed.getD i true)=true; rw [gd _ i hsz hil,hDi]; rfl)
           omega
         · intro b ob hob hD e he
           rw [gset] at hD ⊢
           rw [ZaS] at hD
           rcases hD with hD | hD
           · rw [hcl b ob hob hD e he]; rfl
           · have:b=i:=by simpa using hD
             subst this
             rw [ho] at hob
             cases hob
             rw [hedges e he]; rfl
         · have:(fun a=>(listed.setIfInBounds i true).getD a false)=fun a=>listed.getD a false || a == i:=funext gset
           rw [this]
           exact hI'
   have hgd0:∀ a,(Array.replicate ops.size false).getD a false=false:=fun a=>by
    rw [ZaH]
    rcases Za8 a ops.size with h' | h'
    · simp [h']
    · rw [Array.getElem?_eq_none (by simpa using h')]; rfl
   refine key ops.size _ t w (by simp) (ZaM (Zbf _ _) (by simp)) (fun b o _ hD=>by rw [hgd0] at hD; cases hD) ?_
   have hD0:(fun a=>(Array.replicate ops.size false).getD a false)=fun _=>false:=funext hgd0
   rw [hD0]
   have hT0:TD ops rs (AL.get m) (fun _=>false)=AL.get m:=by
    have:=Hu (Hf ops.toList rs) 0 (AL.get m)
    simpa [TD] using this
   have hM0:MD rs (AL.get s) (fun _=>false)=AL.get s:=by
    have:=Hu (rs.map Aar) 0 (AL.get s)
    simpa [MD] using this
   have hp0:∀ i,CT n0 i=true→pD n0 ops.size (fun _=>false) i=true:=fun i hi=>by unfold pD; rw [show Nat.blt i n0=true from hi]; rfl
   exact⟨hs.size,h,g,Ad.le_refl _,fun _ _=>rfl,by rw [hM0]; exact hs.mem,by rw [hT0]; exact hs.kn,by rw [hT0]; exact hs.im.mono hp0,by rw [hM0]; exact G1.mono hs.is_ hp0⟩
theorem T8 {y:Bool} {call:Bi Ty} {m:List (Nat×V Ty)} {s:A7 Ty} {lf:Lf Ty} (hP:Ga P) (hc:CU P call) (hy:y=false→∀ args k s,(call Ar args k s).runK some=none) (hK:AfD N F h g n0 Q d lf) (hs:RS N F h g n0 m s t w) (hr:(Th P N call ops n0 m s).runK some=some lf):MT y P ops Q ops.size (Array.replicate ops.size false) ⟨t,d⟩ w:=by
 unfold Th at hr
 split at hr
 case h_2=>cases hr
 rename_i pre z hsp
 have hops:=LV hsp
 rw [AC] at hr
 have hnz:ops.size=pre.length+1:=by rw [← ZaN,hops]; simp
 have hz:ops[pre.length]? = some z:=by rw [← Za1,hops]; simp
 have hpo':∀ k o,pre[k]? = some o→ops[k]? = some o:=fun k o hk=>by
  rw [← Za1,hops,Zay (Zaz.1 hk).1]; exact hk
 have hop':∀ k o,k<pre.length→ops[k]? = some o→pre[k]? = some o:=fun k o hk ho=>by
  rw [← Za1,hops,Zay hk] at ho; exact ho
 cases hbb:(Qi 0 ops.toList && MB (Be (Gm ops.toList) pre.length) pre.length) with
 | false=>rw [hbb] at hr; cases hr
 | true =>
  rw [hbb,Zab] at hr
  obtain⟨hb,hbz⟩:=As hbb
  obtain⟨rs,h1,h2⟩:=Tr.run_bind hr
  cases hp:MA ops (Gm ops.toList) 0 pre rs with
  | false=>rw [hp] at h2; cases h2
  | true =>
   rw [hp,Zab] at h2
   obtain⟨hlen,hfact⟩:=NK h1
   have hups:Hf ops.toList rs=Hf pre rs:=by rw [hops]; exact ZB hlen
   have hfact':∀ (k:Nat)(o:Oper)(rc:Rc Ty),ops.toList[k]? = some o→rs[k]? = some rc→Wf P N call ops n0 k o rc (TD ops rs (AL.get m) fun a=>decide (a<k)) (MD rs (AL.get s) fun a=>decide (a<k)):=fun k o rc q1 q2=>by
    have hk:k<pre.length:=by rw [← hlen]; exact(Zaz.1 q2).1
    have:=hfact k o rc (hop' k o hk (by rw [← Za1]; exact q1)) q2
    rw [Zaw] at this
    unfold TD MD
    rw [hups]
    exact this
   obtain⟨mf,sf,e1,e2,e3⟩:=Qs (n0:=n0) (r:=pre) (rs:=rs) (i:=0) (m:=m) (s:=s) hlen
   rw [e1] at h2
   have recs:∀ k,k<pre.length→∃ o rc,ops[k]? = some o∧rs[k]? = some rc∧pre[k]? = some o:=fun k hk=>⟨_,_,hpo' k _ (Zap hk),Zap (by rw [hlen]; exact hk),Zap hk⟩
   -- whoever is listed has behind it what it stands on
   have key:∀ (fuel:Nat)(listed:Array Bool)(t:Array Value)(w:World),listed.size=ops.size→((List.range ops.size).filter fun i=>!listed.getD i true).length≤fuel →
     (∀ (b:Nat)(o:Oper),ops[b]? = some o→listed.getD b false=true→∀ e∈DB o,listed.getD e false=true)→listed.getD pre.length false=false →
     AdM ops rs (AL.get m) (AL.get s) N n0 F h g (fun a=>listed.getD a false) t w→MT y P ops Q fuel listed ⟨t,d⟩ w:=by
    have gd:∀ (listed:Array Bool)(i:Nat),listed.size=ops.size→i<ops.size→listed.getD i true=listed.getD i false:=fun listed i h1 h2=>by
     simp [ZaH,ZaJ (show i<listed.size by omega)]
    have full:∀ (listed:Array Bool),listed.size=ops.size→(∀ i,i<ops.size→listed.getD i false=true)→Region.ready .any ops listed=[]:=fun listed hsz hall=>by
     cases hrd:Region.ready .any ops listed with
     | nil=>rfl
     | cons i l =>
      have hi:i∈Region.ready .any ops listed:=by rw [hrd]; simp
      obtain⟨hun,o,ho,_⟩:=mem_ready.1 hi
      have hil:=(Zak.1 ho).1
      rw [gd listed i hsz hil,hall i hil] at hun
      cases hun
    have fin:∀ (fuel:Nat)(listed:Array Bool)(t:Array Value)(w:World),listed.size=ops.size→(∀ i,i<pre.length→listed.getD i false=true)→listed.getD pre.length false=false→AdM ops rs (AL.get m) (AL.get s) N n0 F h g (fun a=>listed.getD a false) t w→Z9 y P ops Q pre.length (MT y P ops Q fuel (listed.setIfInBounds pre.length true)) ⟨t,d⟩ w:=by
     intro fuel listed t w hsz hall hzn hI
     obtain⟨hsize,h',g',q1,q2,q3,q4,q5,q6⟩:=hI
     have hT:AL.get mf=TD ops rs (AL.get m) fun a=>listed.getD a false:=by
      rw [e2]
      unfold TD
      rw [hups]
      funext x
      refine CE (JU _ _) (fun k f hk hne=>?_) rfl
      obtain⟨o,r,p1,_,_⟩:=JV hk
      rw [Zaw] at hne
      exact absurd (hall k (Zaz.1 p1).1).symm (by simpa using hne)
     have hM:AL.get sf=MD rs (AL.get s) fun a=>listed.getD a false:=by
      rw [e3]
      funext x
      refine CE (LS _) (fun k f hk hne=>?_) rfl
      have:=(Zaz.1 hk).1
      simp only [ZaO] at this
      rw [hlen] at this
      rw [Zaw] at hne
      exact absurd (hall k this).symm (by simpa using hne)
     have hpd:∀ i,pD n0 ops.size (fun a=>listed.getD a false) i=true→CT (n0+64*pre.length) i=true:=fun i hi=>by
      unfold pD at hi
      rw [ZaS] at hi
      refine Ap.2 ?_
      rcases hi with hi | hi
      · have:i<n0:=Zah hi
        omega
      · obtain⟨a,p1,p2⟩:=ZaW.1 hi
        have:=Zb5.1 p1
        obtain⟨p3,p4⟩:=As p2
        have:=Ea.1 p4
        have:a≠pre.length:=fun hh=>by
         subst hh
         have p5:listed.getD pre.length false=true:=p3
         rw [hzn] at p5; cases p5
        omega
     have hz1:=Ik (y:=y) (ops:=ops) hP hc hy hK [z] pre.length mf sf h' g' t w (by rw [hops]; simp) ⟨hsize,fun k v hv=>q4 k v (by rw [← hT]; exact hv),by rw [hM]; exact q3,fun k v hv=>V.okB_imp hpd _ (q5 k v (by rw [← hT]; exact hv)),by rw [hM]; exact G1.mono q6 hpd⟩ q1 q2 h2
     refine Z9.mono (fun a' w' hq=>?_) (Qr.one hnz hz1)
     have hfull:Region.ready .any ops (listed.setIfInBounds pre.length true)=[]:=full _ (by simp [hsz]) fun i hi=>by
      by_cases hiz:pre.length=i
      · subst hiz
        simp [ZaH,show pre.length<listed.size by omega]
      · rw [getD_set_ne false hiz]
        exact hall i (by omega)
     cases fuel with
     | zero=>exact MT.zero hfull hq
     | succ fuel=>exact MT.succ (fun _=>hq) (fun i hi=>by rw [hfull] at hi; cases hi)
    intro fuel
    induction fuel with
    | zero =>
     intro listed t w hsz hcount hcl hzn hI
     have:pre.length∈(List.range ops.size).filter fun i=>!listed.getD i true:=Zbp.2 ⟨Zb5.2 (by omega),by rw [gd listed _ hsz (by omega),hzn]; rfl⟩
     have:=List.length_pos_of_mem this
     omega
    | succ fuel ih =>
     intro listed t w hsz hcount hcl hzn hI
     refine MT.succ ?_ ?_
     · intro hrd
       exfalso
       have hall:∀ i,i<ops.size→listed.getD i false=true:=by
        intro i
        induction i using Nat.strongRecOn with
        | _ i ihi =>
         intro hil
         cases hx:listed.getD i false with
         | true=>rfl
         | false =>
          obtain⟨o,ho⟩:∃ o,ops[i]? = some o:=⟨_,ZaJ hil⟩
          have:i∈Region.ready .any ops listed:=mem_ready.2 ⟨by rw [gd listed i hsz hil,hx],o,ho,fun e he hbe=>by
           have hem:e.on∈DB o:=ZaY.2 ⟨e,Zbp.2 ⟨by simpa using he,hbe⟩,rfl⟩
           have hlt:=GK hb (k:=i) (by rw [Za1]; exact ho) e.on hem
           exact ihi e.on (by omega) (by omega)⟩
          rw [hrd] at this
          cases this
       rw [hall pre.length (by omega)] at hzn
       cases hzn
     · intro i hi
       obtain⟨hun,o,ho,hall⟩:=mem_ready.1 hi
       have hil:=(Zak.1 ho).1
       have hDi:listed.getD i false=false:=by rw [← gd listed i hsz hil]; exact hun
       have hedges:∀ e∈DB o,listed.getD e false=true:=fun e he=>by
        obtain⟨ed,p1,p2⟩:=ZaY.1 he
        obtain⟨p3,p4⟩:=Zbp.1 p1
        rw [← p2]
        exact hall ed (by simpa using p3) p4
       have hES:∀ (b:Nat)(es:List Nat),(ops.toList.map DB)[b]? = some es→∃ ob,ops[b]? = some ob∧es=DB ob:=fun b es hbe=>by
        rw [ZaI] at hbe
        obtain⟨ob,p1,rfl⟩:=Za0.1 hbe
        exact⟨ob,by rw [← Za1]; exact p1,rfl⟩
       have hgood:∀ b ob,ops[b]? = some ob→(∀ e∈DB ob,listed.getD e false=true)→∀ a,R6 (Be (Gm ops.toList) b) a=true→listed.getD a false=true:=fun b ob hob he a ha=>by
        refine NL (ES:=ops.toList.map DB) (D:=fun a=>listed.getD a false) ?_ ?_ (ops.toList.map DB) [] [] rfl rfl (fun b es _ hlt=>by simp at hlt) b (DB ob) (by rw [ZaI,Za1,hob]; rfl) he a ha
        · intro b es hbe hD e he
          obtain⟨ob,p1,rfl⟩:=hES b es hbe
          exact hcl b ob p1 hD e he
        · intro b es hbe e he
          obtain⟨ob,p1,rfl⟩:=hES b es hbe
          have:=GK hb (k:=b) (by rw [Za1]; exact p1) e he
          omega
       rcases Za8 i pre.length with hip | hip
       case inr =>
        have hiz:i=pre.length:=by omega
        subst hiz
        refine fin fuel listed t w hsz (fun k hk=>?_) hzn hI
        exact hgood pre.length o ho hedges k (Rf hbz hk)
       obtain⟨o',rc,ho',hrc,_⟩:=recs i hip
       rw [ho] at ho'
       cases ho'
       have gset:∀ a,(listed.setIfInBounds i true).getD a false=(listed.getD a false || a == i):=fun a=>by
        by_cases hai:i=a
        · subst hai
          simp [ZaH,show i<listed.size by omega]
        · rw [getD_set_ne false hai]
          have:(a == i)=false:=by simp; exact fun h=>hai h.symm
          rw [this,Bool.or_false]
       refine ZA hP hc hy (by rw [hlen,hops]; simp) hfact' ho hrc hDi ?_ ?_ hI ?_
       · intro k ok rk hok hrk hlt hDk
         have hpo:=Gb hp (x:=k) (y:=i) (hop' k ok (by omega) hok) hrk (hop' i o hip ho) hrc hlt
         rw [Zaw,Zaw] at hpo
         refine(F8 hpo ?_).1
         cases hbit:R6 (Be (Gm ops.toList) i) k with
         | false=>rfl
         | true=>rw [hgood i o ho hedges k hbit] at hDk; cases hDk
       · intro k ok rk hok hrk hlt hDk
         have hpo:=Gb hp (x:=i) (y:=k) (hop' i o hip ho) hrc (hop' k ok (by rw [← hlen]; exact(Zaz.1 hrk).1) hok) hrk hlt
         rw [Zaw,Zaw] at hpo
         have hbit:R6 (Be (Gm ops.toList) k) i=false:=by
          cases hbit:R6 (Be (Gm ops.toList) k) i with
          | false=>rfl
          | true=>rw [hgood k ok hok (hcl k ok hok hDk) i hbit] at hDi; cases hDi
         exact⟨(F8 hpo hbit).2,(F8 hpo hbit).1⟩
       · intro t' w' hI'
         refine ih _ t' w' (by simp [hsz]) ?_ ?_ (by rw [getD_set_ne false (by omega)]; exact hzn) ?_
         · have hsz2:(listed.setIfInBounds i true).size=ops.size:=by simp [hsz]
           have hlt:=(LU (p:=fun a=>!listed.getD a true) (q:=fun a=>!(listed.setIfInBounds i true).getD a true) (i:=i) (List.range ops.size) (fun a ha=>by
            have ha:=Zb5.1 ha
            show(!(listed.setIfInBounds i true).getD a true)=(!listed.getD a true && !(a == i))
            rw [gd _ a hsz2 ha,gset,gd _ a hsz ha]
            cases listed.getD a false <;> cases (a == i) <;> rfl)).2 (Zb5.2 hil) (by show(!listed.getD i true)=true; rw [gd _ i hsz hil,hDi]; rfl)
           omega
         · intro b ob hob hD e he
           rw [gset] at hD ⊢
           rw [ZaS] at hD
           rcases hD with hD | hD
           · rw [hcl b ob hob hD e he]; rfl
           · have:b=i:=by simpa using hD
             subst this
             rw [ho] at hob
             cases hob
             rw [hedges e he]; rfl
         · have:(fun a=>(listed.setIfInBounds i true).getD a false)=fun a=>listed.getD a false || a == i:=funext gset
           rw [this]
           exact hI'
   have hgd0:∀ a,(Array.replicate ops.size false).getD a false=false:=fun a=>by
    rw [ZaH]
    rcases Za8 a ops.size with h' | h'
    · simp [h']
    · rw [Array.getElem?_eq_none (by simpa using h')]; rfl
   refine key ops.size _ t w (by simp) (ZaM (Zbf _ _) (by simp)) (fun b o _ hD=>by rw [hgd0] at hD; cases hD) (hgd0 _) ?_
   have hD0:(fun a=>(Array.replicate ops.size false).getD a false)=fun _=>false:=funext hgd0
   rw [hD0]
   have hT0:TD ops rs (AL.get m) (fun _=>false)=AL.get m:=by
    have:=Hu (Hf ops.toList rs) 0 (AL.get m)
    simpa [TD] using this
   have hM0:MD rs (AL.get s) (fun _=>false)=AL.get s:=by
    have:=Hu (rs.map Aar) 0 (AL.get s)
    simpa [MD] using this
   have hp0:∀ i,CT n0 i=true→pD n0 ops.size (fun _=>false) i=true:=fun i hi=>by unfold pD; rw [show Nat.blt i n0=true from hi]; rfl
   exact⟨hs.size,h,g,Ad.le_refl _,fun _ _=>rfl,by rw [hM0]; exact hs.mem,by rw [hT0]; exact hs.kn,by rw [hT0]; exact hs.im.mono hp0,by rw [hM0]; exact G1.mono hs.is_ hp0⟩
theorem T9 {y:Bool} {call:Bi Ty} {m:List (Nat×V Ty)} {s:A7 Ty} {lf:Lf Ty} (hP:Ga P) (hc:CU P call) (hy:y=false→∀ args k s,(call Ar args k s).runK some=none) (hK:AfD N F h g n0 Q d lf) (hs:RS N F h g n0 m s t w) (hr:(Ti P N call ops n0 m s).runK some=some lf):MT y P ops Q ops.size (Array.replicate ops.size false) ⟨t,d⟩ w:=by
 unfold Ti at hr
 cases hb:Ais ops with
 | true=>rw [hb,Zab] at hr; exact T8 hP hc hy hK hs hr
 | false=>rw [hb,Zad] at hr; exact Va hP hc hy hK hs hr
end
section
variable {Ty:Nat→Type} [rT:∀ k,Rep (Ty k)] [RFs] [UM Ty] [UML Ty] [UV Ty] [UL Ty] {P:Program} [UMP Ty P] {N:Nat} {call:Bi Ty} {y:Bool}
def B7 (y:Bool) (P:Program) (N:Nat) (f:St Ty→Tr (Lf Ty)) (c:Code):Prop:=∀ (st:St Ty)(lf:Lf Ty),(f st).runK some=some lf →
 ∀ (F:Fr)(h:Ad)(g:GE)(t:Array Value)(w:World)(Q:Exit→Act→World→Prop)(d:List Deferred),RS N F h g st.nx st.m st.s t w→AfD N F h g st.nx Q d lf→CJ y P c Q ⟨t,d⟩ w
theorem AfD.of {F F':Fr} {h h':Ad} {g g':GE} {n n':Nat} {Q:Exit→Act→World→Prop} {d d':List Deferred} {lf:Lf Ty} (hK:AfD N F h g n Q d lf) (hf:FD F F' d d') (hle:Ad.le h h') (hg:∀ i,i<n→g' i=g i) (hn:n≤n'):AfD N F' h' g' n' Q d' lf :=
 fun F2 d2 h2 g2 t2 w2 q0 q1 q2 q3 q4=>hK F2 d2 h2 g2 t2 w2 (hf.trans q0) (Ad.le_trans hle q1) (fun i hi=>by rw [q2 i (by omega)]; exact hg i hi) (by omega) q4
omit [RFs] [UML Ty] [UL Ty] rT [UMP Ty P] [UV Ty] [UM Ty] in
theorem TA (args:List (V Ty)) (k:Nat) (s:A7 Ty):(AiT call Ar args k s).runK some=none:=by
 unfold AiT
 rw [show Nat.beq Ar Ar=true from Nat.beq_refl _]; rfl
omit [UL Ty] [UMP Ty P] [UV Ty] in
theorem Abx (hc:CU P call):CU P (AiT call):=by
 intro f args k s r hr
 unfold AiT at hr
 cases hb:Nat.beq f Ar with
 | true=>rw [hb] at hr; cases hr
 | false=>rw [hb,Zad] at hr; exact hc f args k s r hr
theorem Bt {cuts:NA Ty} (hP:Ga P) (hmix:P.follows .mixedOrders=true) (hc:CU P call) (hy:y=false→∀ args k s,(call Ar args k s).runK some=none):∀ (c:Code),(y=false→GH c=true)→(∀ x∈BD cuts c,∀ f,cuts (IC x)=some f→B7 y P N f x)→B7 y P N (CI P N call cuts c) c
 | .skip,_,_,st,lf,hr,F,h,g,t,w,Q,d,hs,hK=>by
  cases hr
  exact .skip (hK F d h g t w (FD.refl F d) (Ad.le_refl _) (fun _ _=>rfl) (Zas _) hs)
 | .label l,_,_,st,lf,hr,F,h,g,t,w,Q,d,hs,hK=>by
  cases hr
  exact .label (hK F d h g t w (FD.refl F d) (Ad.le_refl _) (fun _ _=>rfl) (Zas _) hs)
 | .exit id,_,_,st,lf,hr,F,h,g,t,w,Q,d,hs,hK=>by
  cases hr
  exact .exit (hK F d h g t w (FD.refl F d) (Ad.le_refl _) (fun _ _=>rfl) (Zas _) hs)
 | .ret,_,_,st,lf,hr,F,h,g,t,w,Q,d,hs,hK=>by
  cases hr
  exact .ret (hK F d h g t w (FD.refl F d) (Ad.le_refl _) (fun _ _=>rfl) (Zas _) hs)
 | .region id ops false,_,_,st,lf,hr,F,h,g,t,w,Q,d,hs,hK=>by
  unfold CI at hr
  cases hd:GD ops with
  | false=>rw [hd] at hr; cases hr
  | true =>
   rw [hd,Zab] at hr
   exact .region hd (Ik hP hc hy hK ops.toList 0 st.m st.s h g t w rfl hs (Ad.le_refl _) (fun _ _=>rfl) hr)
 | .region id ops true,_,_,st,lf,hr,F,h,g,t,w,Q,d,hs,hK=>by
  unfold CI at hr
  cases hd:GD ops with
  | false=>rw [hd] at hr; cases hr
  | true =>
   rw [hd,Zab] at hr
   have:=T9 hP hc hy hK (⟨hs.size,hs.kn,hs.mem.drew,hs.im,hs.is_⟩:RS N F h g st.nx st.m st.s t w.drew) hr
   cases y with
   | true=>exact wpIn_wide.1 (wpIn_region_any hmix this)
   | false =>
    have this2:wpAny P .any ops Q ops.size (Array.replicate ops.size false) ⟨t,d⟩ w.drew:=this
    refine CJ.regionG (y:=false) hd hmix ?_
    unfold AiM
    simpa [LC] using this2
 | .seq a b,hsc,hn,st,lf,hr,F,h,g,t,w,Q,d,hs,hK=>by
  obtain⟨lf1,h1,h2⟩:=Tr.run_bind hr
  have hna:∀ x∈BD cuts a,∀ f,cuts (IC x)=some f→B7 y P N f x:=fun x hx=>hn x (ZaL _ hx)
  have hnb:∀ x∈BD cuts b,∀ f,cuts (IC x)=some f→B7 y P N f x:=fun x hx=>hn x (List.mem_append_right _ hx)
  refine .seq (Bt hP hmix hc hy a (fun hh=>(As (hsc hh)).1) hna st lf1 h1 F h g t w _ d hs ?_)
  intro F' d' h' g' t' w' q0 q1 q2 q3 q4
  cases he:lf1.e with
  | normal =>
   rw [he] at h2
   simp only [St.frc_eq] at h2
   exact Bt hP hmix hc hy b (fun hh=>(As (hsc hh)).2) hnb lf1.st lf h2 F' h' g' t' w' Q d' q4 (hK.of q0 q1 q2 q3)
  | exit id=>rw [he] at h2; cases h2; have:=hK F' d' h' g' t' w' q0 q1 q2 q3 q4; rw [he] at this; exact this
  | ret=>rw [he] at h2; cases h2; have:=hK F' d' h' g' t' w' q0 q1 q2 q3 q4; rw [he] at this; exact this
  | pan v=>rw [he] at h2; cases h2; have:=hK F' d' h' g' t' w' q0 q1 q2 q3 q4; rw [he] at this; exact this
 | .cond c a b,hsc,hn,st,lf,hr,F,h,g,t,w,Q,d,hs,hK=>by
  unfold CI at hr
  unfold BD at hn
  cases hcut:cuts (.cond (ND (.cond c a b))) with
  | some f =>
   rw [hcut] at hr hn
   exact hn (.cond c a b) (by simp) f hcut st lf hr F h g t w Q d hs hK
  | none =>
   rw [hcut] at hr hn
   simp only at hr hn
   cases hev:Ih st.m c with
   | none=>rw [hev] at hr; cases hr
   | some v =>
    rw [hev] at hr
    cases v <;> first | cases hr | skip
    rename_i x
    have hce:=Qm (d:=d) hs.kn c _ hev
    unfold V.den at hce
    rw [Tr.runK_br] at hr
    refine .cond hce (fun hx=>?_) (fun hx=>?_)
    · rw [hx,Zab] at hr
      exact Bt hP hmix hc hy a (fun hh=>(As (hsc hh)).1) (fun y hy=>hn y (ZaL _ hy)) st lf hr F h g t w Q d hs hK
    · rw [hx,Zad] at hr
      exact Bt hP hmix hc hy b (fun hh=>(As (hsc hh)).2) (fun y hy=>hn y (List.mem_append_right _ hy)) st lf hr F h g t w Q d hs hK
 | .block id c,hsc,hn,st,lf,hr,F,h,g,t,w,Q,d,hs,hK=>by
  unfold CI at hr
  unfold BD at hn
  cases hcut:cuts (.block id) with
  | some f =>
   rw [hcut] at hr hn
   exact hn (.block id c) (by simp) f hcut st lf hr F h g t w Q d hs hK
  | none =>
   rw [hcut] at hr hn
   simp only at hr hn
   obtain⟨lf1,h1,h2⟩:=Tr.run_bind hr
   refine .block (Bt hP hmix hc hy c hsc hn st lf1 h1 F h g t w _ d hs ?_)
   intro F' d' h' g' t' w' q0 q1 q2 q3 q4
   cases he:lf1.e with
   | exit j =>
    rw [he] at h2
    simp only at h2
    cases hb:Nat.beq j id with
    | true =>
     rw [hb] at h2
     cases h2
     have:=Zac hb
     show Exit.inBlock id Q (.exit j) ⟨t',d'⟩ w'
     simp only [Exit.inBlock,this,if_true]
     exact hK F' d' h' g' t' w' q0 q1 q2 q3 q4
    | false =>
     rw [hb] at h2
     cases h2
     have hne : ¬ j=id:=fun hh=>by subst hh; simp at hb
     have:=hK F' d' h' g' t' w' q0 q1 q2 q3 q4
     rw [he] at this
     show Exit.inBlock id Q (.exit j) ⟨t',d'⟩ w'
     simp only [Exit.inBlock,hne,if_false]
     exact this
   | normal=>rw [he] at h2; cases h2; have:=hK F' d' h' g' t' w' q0 q1 q2 q3 q4; rw [he] at this; exact this
   | ret=>rw [he] at h2; cases h2; have:=hK F' d' h' g' t' w' q0 q1 q2 q3 q4; rw [he] at this; exact this
   | pan v=>rw [he] at h2; cases h2; have:=hK F' d' h' g' t' w' q0 q1 q2 q3 q4; rw [he] at this; exact this
 | .loop c,hsc,hn,st,lf,hr,F,h,g,t,w,Q,d,hs,hK=>by
  unfold CI at hr
  unfold BD at hn
  cases hcut:cuts (.loop (ND c)) with
  | some f =>
   rw [hcut] at hr hn
   exact hn (.loop c) (by simp) f hcut st lf hr F h g t w Q d hs hK
  | none=>rw [hcut] at hr; cases hr
 | .scope c,hsc,hn,st,lf,hr,F,h,g,t,w,Q,d,hs,hK=>by
  have hyt:y=true:=by
   rw [← Bool.not_eq_false]
   intro hh
   have:=hsc hh
   cases this
  refine .scope hyt (Bt hP hmix hc hy c (fun hh=>by rw [hyt] at hh; cases hh) hn st lf hr F h g t w _ d hs ?_)
  intro F' d' h' g' t' w' q0 q1 q2 q3 q4
  have:=hK F' d' h' g' t' w' q0 q1 q2 q3 q4
  cases he:lf.e <;> rw [he] at this <;> exact this
 | .rangeFunc f ps a b,hsc,hn,st,lf,hr,F,h,g,t,w,Q,d,hs,hK=>by
  unfold CI at hr
  unfold BD at hn
  cases hcut:cuts (.rf (ND b)) with
  | some q =>
   rw [hcut] at hr hn
   exact hn (.rangeFunc f ps a b) (by simp) q hcut st lf hr F h g t w Q d hs hK
  | none=>rw [hcut] at hr; cases hr
 | .goto _,_,_,st,lf,hr,_,_,_,_,_,_,_,_,_=>by cases hr
 | .refuse _,_,_,st,lf,hr,_,_,_,_,_,_,_,_,_=>by cases hr
theorem K6 {F:Fr} {h:Ad} {g:GE} {m:List (Nat×V Ty)} {s:A7 Ty} {t:Array Value} {w:World} (hk:P3 g h m t) (hm:Al F h g (AL.get s) w):∀ {rs:List ResultVar} {vs:List (V Ty)},(OQ P m s rs).runK some=some vs→∃ us,(rs.mapM (N9 t)).run P w=.ok us w∧V.dens g h vs us
 | [],vs,hh=>by cases hh; exact⟨[],rfl,by unfold V.dens; rfl⟩
 | .tmp k::r,vs,hh=>by
  unfold OQ at hh
  split at hh
  · rename_i v hv
    obtain⟨ws,hws,hh⟩:=Tr.run_bind hh
    cases hh
    obtain⟨us,h1,h2⟩:=K6 hk hm hws
    obtain⟨u,q1,q2⟩:=hk k v hv
    refine⟨u::us,?_,by unfold V.dens; exact⟨u,us,rfl,q2,h2⟩⟩
    rw [List.mapM_cons]
    have e1:(N9 t (.tmp k)).run P w=.ok u w:=by
     unfold N9
     simp [ZaH,q1]
    simp only [Sem.run_bind,e1,Result.andThen_ok,h1,Sem.run_pure]
  · cases hh
 | .cell a T::r,vs,hh=>by
  unfold OQ at hh
  split at hh
  · rename_i i off hv
    obtain⟨v,hlv,hh⟩:=Tr.run_bind hh
    obtain⟨ws,hws,hh⟩:=Tr.run_bind hh
    cases hh
    obtain⟨us,h1,h2⟩:=K6 hk hm hws
    obtain⟨u,q1,q2⟩:=hk a _ hv
    obtain⟨x,p1,p2⟩:=QX hm q2 hlv
    unfold V.den at q2
    subst q2
    refine⟨x::us,?_,by unfold V.dens; exact⟨x,us,rfl,p2,h2⟩⟩
    rw [List.mapM_cons]
    have e1:(N9 t (.cell a T)).run P w=.ok x w:=by
     unfold N9
     simp only [ZaH,q1,Option.getD_some,asAddr,Sem.run_bind,Sem.run_pure,Result.andThen_ok]
     simpa [Instr.loadAt,Instr.sureAddr] using p1
    simp only [Sem.run_bind,e1,Result.andThen_ok,h1,Sem.run_pure]
  · cases hh
theorem Vb {F:Fr} {h:Ad} {g:GE} {m:List (Nat×V Ty)} {s:A7 Ty} {t:Array Value} {w:World} {fn:Func} {vs:List (V Ty)} (hk:P3 g h m t) (hm:Al F h g (AL.get s) w) (hr:(OQ P m s fn.results.toList).runK some=some vs):∃ u,(results fn t).run P w=.ok u w∧(R7 vs).den g h u:=by
 obtain⟨us,h1,h2⟩:=K6 hk hm hr
 have hlen:=V.dens_len h2
 rw [SY,← Zbj (xs:=fn.results),List.mapM_toArray]
 simp only [Sem.run_bind,Sem.run_map,h1,Result.andThen_ok,Sem.run_pure]
 match vs,us,h2,hlen with
 | [v],[u],h2,_ =>
  refine⟨u,by simp,?_⟩
  unfold V.dens V.dens at h2
  obtain⟨u',us',e1,e2,_⟩:=h2
  cases e1
  exact e2
 | [],[],h2,_=>exact⟨_,rfl,by unfold R7 V.den; exact⟨[],rfl,h2⟩⟩
 | a::b::r,x::y::z,h2,_=>exact⟨_,by rw [dif_neg (by simp)],by unfold R7 V.den; exact⟨_,rfl,h2⟩⟩
 | [],_::_,_,hl=>simp at hl
 | [_],[],_,hl=>simp at hl
 | [_],_::_::_,_,hl=>simp at hl
 | _::_::_,[],_,hl=>simp at hl
 | _::_::_,[_],_,hl=>simp at hl
theorem Pb {F:Fr} {h:Ad} {g:GE} {k n:Nat} {p:Bool} {v:V Ty} {s:A7 Ty} {w:World} {u:Value} {r:CR Ty} (hm:Al F h g (AL.get s) w) (hin:JD n (AL.get s)) (hv:v.den g h u) (hr:(LL k p v s).runK some=some r) :
  ∃ g',(∀ i,CT k i=true→g' i=g i)∧Al F h g' (AL.get r.s) w∧JD r.n (AL.get r.s)∧k≤r.n∧r.v.okB (CT r.n)=true∧r.v.den g' h u∧r.p=p:=by
 unfold LL at hr
 generalize hρ:ON s 400 (LL.idsAt s 0 k++V.ids v) (IB 0 k)=ρ at hr
 simp only at hr
 cases hb:(HQ ρ && V.okB (AF ρ) v && Nc s ρ ρ && Tj k ρ) with
 | false=>rw [hb] at hr; cases hr
 | true =>
  rw [hb] at hr
  cases hr
  obtain⟨hb,b4⟩:=As hb
  obtain⟨hb,b3⟩:=As hb
  obtain⟨b1,b2⟩:=As hb
  have hnd:=GI b1
  obtain⟨hkl,hpre⟩:=K2 b4
  have hg:∀ i,AF ρ i=true→(fun j=>g (Be ρ j)) (DK ρ i)=g i:=fun i hi=>by simp only; rw [LP (Br.1 hi)]
  have hp:∀ i,AF ρ i=true→CT ρ.length (DK ρ i)=true:=fun i hi=>Ap.2 (MF (Br.1 hi))
  refine⟨fun j=>g (Be ρ j),fun i hi=>by simp only; rw [hpre i (Ap.1 hi)],?_,?_,?_,?_,?_,rfl⟩
  · exact hm.sub hnd b3
  · simp only [AC]; exact Acz hnd b3
  · simp only [AC]; exact hkl
  · simp only [AC]; exact V.okB_ren hp v b2
  · exact V.den_ren (g':=fun j=>g (Be ρ j)) hg v u b2 hv
end
section
variable {Ty:Nat→Type} [rT:∀ k,Rep (Ty k)] [RFs] [UM Ty] [UML Ty] {P:Program}
abbrev GL (Ty:Nat→Type):=List (V Ty)→Nat→A7 Ty→Tr (CR Ty)
def JW (F:Fr) (h:Ad) (g:GE) (k:Nat) (r:CR Ty) (en:Ending) (w':World):Prop :=
 ∃ (h':Ad)(g':GE)(u:Value),Ad.le h h'∧(∀ i,CT k i=true→g' i=g i)∧Al F h' g' (AL.get r.s) w'∧JD r.n (AL.get r.s)∧k≤r.n∧r.v.okB (CT r.n)=true∧r.v.den g' h' u∧en=Ra r.p u
def Bb (P:Program) (f:FuncId) (l:GL Ty):Prop:=∀ (args:List (V Ty))(k:Nat)(s:A7 Ty)(r:CR Ty),(l args k s).runK some=some r →
 ∀ (F:Fr)(h:Ad)(g:GE)(w:World)(vals:List Value),Al F h g (AL.get s) w→JD k (AL.get s)→V.oksB (CT k) args=true→V.dens g h args vals→FM P f vals.toArray w (JW F h g k r)
theorem AdN {call:Bi Ty} (H:∀ f,Bb P f (call f)):CU P call:=fun f args k s r hr F h g w vals q1 q2 q3 q4=>H f args k s r hr F h g w vals q1 q2 q3 q4
theorem TC:∀ {args:List (V Ty)} {i k:Nat} {v:V Ty},AL.get (AhF i args) k=some v→∃ j,k=i+j∧args[j]? = some v
 | [],i,k,v,h=>by cases h
 | a::r,i,k,v,h=>by
  have h2:(bif Nat.beq i k then some a else AL.get (AhF (i+1) r) k)=some v:=h
  cases hb:Nat.beq i k with
  | true =>
   rw [hb] at h2
   cases h2
   exact⟨0,(Zac hb).symm,rfl⟩
  | false =>
   rw [hb] at h2
   obtain⟨j,q1,q2⟩:=TC h2
   exact⟨j+1,by omega,by simpa using q2⟩
theorem Al.setX {F:Fr} {h:Ad} {g:GE} {M:Mo Ty} {w w':World} {b:Nat} {o o':Obj} (hm:Al F h g M w) (hx:F.X b=some o) (hg:w.grownBy w' (some b)) (ho:w'.heap[b]? = some o'):Al (F.put b (some o')) h g M w':=by
 obtain⟨x1,x2,x3⟩:=hm.ext b o hx
 have hlt:=(Zak.1 x2).1
 have hb:∀ k,k<w.heap.size→k≠b→w'.heap[k]? = w.heap[k]?:=fun k hk hne=>hg.block k hk (by simpa using hne)
 have hne:∀ i c,M i=some c→(g i).nl=false→(g i).b≠b:=fun i c hi hn heq=>by
  have:=(hm.own i c hi hn).2.2.1
  rw [heq,hx] at this
  cases this
 refine⟨hm.below.trans ⟨hg.os,hg.tape,hg.output,hg.size,fun k hk=>hb k (Zaq hk hm.size) (fun hh=>by subst hh; exact absurd x1 (Nat.not_le_of_lt hk))⟩,hm.le,hm.old,?_,?_,?_,hm.inj,?_,hm.glo⟩
 · intro c ofs v hv
   obtain⟨h1,h2⟩:=hm.has c ofs v hv
   have:c≠b:=fun hh=>by rw [hh,x3 ofs] at hv; cases hv
   exact⟨Zaq h1 hg.size,by rw [C8 (hb c h1 this)]; exact h2⟩
 · exact fun i c hi=>(hm.cell i c hi).block fun hn=>hb _ (hm.own i c hi hn).2.1 (hne i c hi hn)
 · intro i c hi hn
   obtain⟨h1,h2,h3,h4⟩:=hm.own i c hi hn
   refine⟨h1,Zaq h2 hg.size,?_,h4⟩
   show(if (g i).b=b then some o' else F.X (g i).b)=none
   rw [if_neg (hne i c hi hn)]; exact h3
 · intro c x hc
   replace hc:(if c=b then some o' else F.X c)=some x:=hc
   split at hc
   · rename_i hcb
     cases hc
     subst hcb
     exact⟨x1,ho,x3⟩
   · rename_i hcb
     obtain⟨q1,q2,q3⟩:=hm.ext c x hc
     exact⟨q1,by rw [hb c (Zak.1 q2).1 hcb]; exact q2,q3⟩
theorem Ec {F:Fr} {h:Ad} {g:GE} {M:Mo Ty} {fn:Func} {t:Array Value} {R:Ending→World→Prop} {u:FrameMode} (hu:u≠.run) (hend:∀ F2 w2,FD F F2 [] []→Al F2 h g M w2→LeavesIn Fence.wide 0 P fn t R [] u w2) :
  ∀ (bs:List Nat)(F':Fr)(w':World),FD F F' [] []→Al F' h g M w'→bs.Nodup→(∀ b∈bs,F.X b=none∧F'.X b=some (.deferred (some [])))→LeavesInM Fence.wide 0 P fn t R (bs.map Zc) u w'
 | [],F',w',hf,hm,_,_=>hend F' w' hf hm
 | b::bs,F',w',hf,hm,hn,hx=>by
  obtain⟨h0,hb⟩:=hx b (by simp)
  obtain⟨n1,n2⟩:=Zbu.1 hn
  have hlt:=(Zak.1 (hm.ext b _ hb).2.1).1
  refine⟨hu,.inl ⟨b,_,rfl,run_takeDeferred (hm.ext b _ hb).2.1,?_⟩⟩
  refine Ec hu hend bs (F'.put b (some (.deferred none))) _ ⟨hf.w,hf.h,fun c x hc=>?_,[],rfl,Zb4,by simp⟩ (hm.setX hb (Ig w' b _) (World.putObj_heap_same hlt)) n2 fun c hc=>?_
  · show(if c=b then _ else F'.X c)=some x
    rw [if_neg (fun hcb=>by rw [hcb,h0] at hc; cases hc)]
    exact hf.X c x hc
  · have hcb:c≠b:=fun hcb=>n1 (hcb▸hc)
    obtain⟨q1,q2⟩:=hx c (by simp [hc])
    refine⟨q1,?_⟩
    show(if c=b then _ else F'.X c)=_
    rw [if_neg hcb]; exact q2
variable [UV Ty] [UL Ty] [UMP Ty P]
theorem Xn {call:Bi Ty} {cuts:FuncId→NA Ty} {f:FuncId} (hP:Ga P) (hmix:P.follows .mixedOrders=true) (hc:CU P call)
  (hcuts:∀ fn c,P.funcs[f]? = some fn→fn.body=some c→∀ x∈BD (cuts f) c,∀ q,cuts f (IC x)=some q→B7 true P fn.ntmps q x):Bb P f (Abr P call cuts f):=by
 intro args k s r hr F h g w vals hm hin hargs hden
 unfold Abr at hr
 split at hr
 · rename_i fn hf
   split at hr
   · rename_i c hb
     cases hn:(Nat.blt f Ar && Nat.ble args.length fn.ntmps) with
     | false=>rw [hn] at hr; cases hr
     | true =>
      rw [hn,Zab] at hr
      obtain⟨hlt,hn⟩:=As hn
      have hn:=Zah hn
      obtain⟨lf,h1,h2⟩:=Tr.run_bind hr
      have hlen:=V.dens_len hden
      refine .of hlt (callsIn_wide.1 (callsIn_of_wp_marks (n:=0) hf hb trivial (wpIn_wide.2 ?_)))
      refine(Bt (y:=true) hP hmix hc (fun hh=>by cases hh) c (fun hh=>by cases hh) (hcuts fn c hf hb) _ lf h1 F h g _ w _ [] ⟨?_,?_,hm,?_,hin⟩ ?_).wp
      · simp only [Array.size_append,Zbt,Array.size_replicate,hlen]; omega
      · intro i v hv
        obtain⟨j,e1,e2⟩:=TC hv
        rw [Zaw] at e1
        subst e1
        obtain⟨u,q1,q2⟩:=V.dens_get hden e2
        refine⟨u,?_,q2⟩
        have hlt:i<vals.length:=(Zaz.1 q1).1
        rw [Zb2 (by simpa using hlt)]
        simpa using q1
      · intro i v hv
        obtain⟨j,e1,e2⟩:=TC hv
        exact V.oksB_get hargs e2
      · intro F' d' h' g' t' w' q0 q1 q2 q3 q4
        obtain⟨bs,hbs,nd,hX⟩:=q0.ds
        rw [Zbh] at hbs
        have f0:FD F F' [] []:=⟨q0.w,q0.h,q0.X,[],rfl,Zb4,by simp⟩
        have fin:∀ {F2:Fr} {w2:World} {p:Bool} {v:V Ty} {u:Value},FD F F2 [] []→Al F2 h' g' (AL.get lf.st.s) w2→v.den g' h' u→(LL k p v lf.st.s).runK some=some r→JW F h g k r (Ra p u) w2:=fun {F2 w2 p v u} hf2 hm2 hv hf=>by
         obtain⟨g2,e1,e2,e3,e4,e5,e6,e7⟩:=Pb (hm2.back hf2) q4.is_ hv hf
         exact⟨h',g2,u,q1,fun i hi=>by rw [e1 i hi,q2 i (Ap.1 hi)],e2,e3,e4,e5,e6,by rw [e7]⟩
        have ret:∀ {vs:List (V Ty)},(OQ P lf.st.m lf.st.s fn.results.toList).runK some=some vs→(LL k false (R7 vs) lf.st.s).runK some=some r→LeavesInM Fence.wide 0 P fn t' (JW F h g k r) (bs.map Zc) .returning w':=fun {vs} hvs hf=>by
         refine Ec (F:=F) (h:=h') (g:=g') (M:=AL.get lf.st.s) (by simp) (fun F2 w2 hf2 hm2=>?_) bs F' w' f0 q4.mem nd hX
         obtain⟨u,e1,e2⟩:=Vb q4.kn hm2 hvs
         exact⟨u,e1,fin hf2 hm2 e2 hf⟩
        cases he:lf.e with
        | normal =>
         rw [he] at h2
         simp only at h2
         obtain⟨vs,hvs,h2⟩:=Tr.run_bind h2
         show LeavesInM Fence.wide 0 P fn t' (JW F h g k r) d' .returning w'
         rw [hbs]
         exact ret hvs h2
        | ret =>
         rw [he] at h2
         simp only at h2
         obtain⟨vs,hvs,h2⟩:=Tr.run_bind h2
         show LeavesInM Fence.wide 0 P fn t' (JW F h g k r) d' .returning w'
         rw [hbs]
         exact ret hvs h2
        | pan v =>
         rw [he] at h2
         intro u hu _
         show LeavesInM Fence.wide 0 P fn t' (JW F h g k r) d' _ w'
         rw [hbs]
         refine Ec (F:=F) (h:=h') (g:=g') (M:=AL.get lf.st.s) (by simp) (fun F2 w2 hf2 hm2=>?_) bs F' w' f0 q4.mem nd hX
         unfold LeavesIn
         exact fin hf2 hm2 hu h2
        | exit id=>rw [he] at h2; cases h2
   · cases hr
 · cases hr
theorem Rh {laws:FuncId→Option (GL Ty)} {cuts:FuncId→NA Ty} (hP:Ga P) (hmix:P.follows .mixedOrders=true) (hl:∀ f l,laws f=some l→Bb P f l)
  (hcuts:∀ f,laws f=none→∀ fn c,P.funcs[f]? = some fn→fn.body=some c→∀ x∈BD (cuts f) c,∀ q,cuts f (IC x)=some q→B7 true P fn.ntmps q x):∀ n,CU P (Acx P laws cuts n)
 | 0=>fun f args k s r hr=>by cases hr
 | n+1=>AdN fun f=>by
  intro args k s r hr
  unfold Acx at hr
  split at hr
  · rename_i l hlf
    exact hl f l hlf args k s r hr
  · rename_i hlf
    exact Xn hP hmix (Rh hP hmix hl hcuts n) (hcuts f hlf) args k s r hr
def AhO:List (Nat×GL Ty)→FuncId→Option (GL Ty)
 | [],_=>none
 | (j,l)::r,f=>bif Nat.beq j f then some l else AhO r f
def K7 (P:Program):List (Nat×GL Ty)→Prop
 | []=>True
 | (f,l)::r=>Bb P f l∧K7 P r
theorem TE:∀ {T:List (Nat×GL Ty)},K7 P T→∀ f l,AhO T f=some l→Bb P f l
 | [],_,f,l,h=>by cases h
 | (j,x)::r,H,f,l,h=>by
  have h2:(bif Nat.beq j f then some x else AhO r f)=some l:=h
  cases hb:Nat.beq j f with
  | true =>
   rw [hb] at h2
   cases h2
   have:=Zac hb
   subst this
   exact H.1
  | false=>rw [hb] at h2; exact TE H.2 f l h2
end
inductive C where
 | s (k:Nat)
 | g (k:Nat)
 | l (k:Nat)
 | o (k:Nat)
 | v (k:Nat)
 | p (tb:Nat) (cs:List C)
 | a (k:Nat)
 | u (k:Nat)
 | q (j:Nat)
 | f (n:FuncId) (as bs:List C)
 | z
 | t (cs:List C)
 | n
 | i (t:TypeId) (c:C)
 | m (k v:Nat)
 | y (q tag:Nat) (ks:List Nat) (cs:List C)
 | r (k j:Nat)
section
variable (Ty:Nat→Type)
mutual
def C.D:C→Type
 | .s k | .g k | .u k=>Ty k
 | .l k | .o k | .v k | .a k=>List (Ty k)
 | .p _ cs | .t cs=>C.Ds cs
 | .f _ as bs=>C.Ds as×C.Ds bs
 | .i _ c=>C.D c
 | .q _ | .z | .n | .r _ _=>Unit
 | .m k e=>List (Ty k×Ty e)
 | .y _ _ _ cs=>C.Ds cs
def C.Ds:List C→Type
 | []=>Unit
 | c::cs=>C.D c×C.Ds cs
end
end
def Ax:Nat:=1000
section
variable {Ty:Nat→Type}
structure ET where
 p:List Nat
 r:List Nat
def isNil:V Ty→Bool
 | .nilp | .nilm | .nilf | .nili=>true
 | _=>false
structure Mk (Ty:Nat→Type) where
 np:Nat
 nr:Nat
 s:A7 Ty
def Aiu (v:V Ty) (s:A7 Ty) (n:Nat):V Ty×A7 Ty×Nat:=match VU v s with
 | (v',s')=>(v',s',n)
def AfG (v:V Ty) (s:A7 Ty) (n:Nat):V Ty×A7 Ty×Nat:=match v with
 | .agg cs=>match MS cs s with
  | (cs',s')=>(.agg cs',s',n)
 | v=>(v,s,n)
def AfH (k:Nat) (v:V Ty) (s:A7 Ty) (n:Nat):V Ty×A7 Ty×Nat:=match v with
 | .nils=>(.hdr k n,AL.put s n (.row k []),n+1)
 | v=>(v,s,n)
def Ac1 (f:List (V Ty)→A7 Ty→Nat→List (V Ty)×A7 Ty×Nat) (v:V Ty) (s:A7 Ty) (n:Nat):V Ty×A7 Ty×Nat:=match v with
 | .ptr i off=>match AL.get s i with
  | some (.blk tb vs)=>match f vs s n with
   | (vs',s',n')=>(.ptr i off,AL.put s' i (.blk tb vs'),n')
  | _=>(.ptr i off,s,n)
 | v=>(v,s,n)
def Aiv (vs:List (V Ty)) (s:A7 Ty) (n:Nat):List (V Ty)×A7 Ty×Nat:=match MS vs s with
 | (vs',s')=>(vs',s',n)
def AfI (f:List (V Ty)→A7 Ty→Nat→List (V Ty)×A7 Ty×Nat) (v:V Ty) (s:A7 Ty) (n:Nat):V Ty×A7 Ty×Nat:=match v with
 | .fn q [] [.mp i]=>match AL.get s i with
  | some (.lp st e tag ks vs)=>match f vs s n with
   | (vs',s',n')=>(.fn q [] [.mp i],AL.put s' i (.lp st e tag ks vs'),n')
  | _=>(v,s,n)
 | v=>(v,s,n)
def ZC:List Nat→List Nat→Bool
 | [],[]=>true
 | a::r,b::q=>Nat.beq a b && ZC r q
 | _,_=>false
theorem ZD:∀ {a b:List Nat},ZC a b=true→a=b
 | [],[],_=>rfl
 | a::r,b::q,h=>by
  unfold ZC at h
  simp only [Zan] at h
  rw [Zac h.1,ZD h.2]
 | [],_::_,h=>by cases h
 | _::_,[],h=>by cases h
def AfJ (f:List (V Ty)→A7 Ty→Nat→List (V Ty)×A7 Ty×Nat) (v:V Ty) (s:A7 Ty) (n:Nat):V Ty×A7 Ty×Nat:=match v with
 | .tup vs=>match f vs s n with
  | (vs',s',n')=>(.tup vs',s',n')
 | v=>(v,s,n)
mutual
def LW (c:C) (v:V Ty) (s:A7 Ty) (n:Nat):V Ty×A7 Ty×Nat:=match c with
 | .l k=>Aiu v s n
 | .g k=>AfG v s n
 | .o k=>AfH k v s n
 | .p _ cs=>Ac1 (fun vs s n=>ZcD cs vs s n) v s n
 | .u _=>Ac1 Aiv v s n
 | .t cs=>AfJ (fun vs s n=>ZcD cs vs s n) v s n
 | .y _ _ _ cs=>AfI (fun vs s n=>ZcD cs vs s n) v s n
 | _=>(v,s,n)
def ZcD (cs:List C) (vs:List (V Ty)) (s:A7 Ty) (n:Nat):List (V Ty)×A7 Ty×Nat:=match cs with
 | []=>(vs,s,n)
 | c::cs=>match vs with
  | []=>([],s,n)
  | v::vs=>match LW c v s n with
   | (v',s1,n1)=>match ZcD cs vs s1 n1 with
    | (vs',s2,n2)=>(v'::vs',s2,n2)
end
variable [UV Ty]
def ZE:List (V Ty)→V Ty
 | [v]=>v
 | _=>.undef
def AfK (k:Nat) (v:V Ty) (ρ:ET):Option (Ty k×ET):=match v with
 | .agg cs=>(UV.pack k cs).map fun x=>(x,ρ)
 | _=>none
def Aby (k:Nat) (v:V Ty) (ρ:ET):Option (List (Ty k)×ET):=match v with
 | .lst k' l=>if h:k' = k then some (h▸l,ρ) else none
 | .nils=>some ([],ρ)
 | _=>none
def Abz (k:Nat) (v:V Ty) (ρ:ET):Option (List (Ty k)×ET):=match v with
 | .arr k' l=>if h:k' = k then some (h▸l,ρ) else none
 | _=>none
def AfL (s:A7 Ty) (k:Nat) (v:V Ty) (ρ:ET):Option (List (Ty k)×ET):=match v with
 | .hdr k' i=>if k' = k then match AL.get s i with
   | some (.row k2 l)=>if h:k2=k then some (h▸l,⟨ρ.p,ρ.r++[i]⟩) else none
   | _=>none
  else none
 | _=>none
def AfM (s:A7 Ty) (k:Nat) (v:V Ty) (ρ:ET):Option (List (Ty k)×ET):=match v with
 | .ptr i off=>bif Nat.beq off 0 then match AL.get s i with
   | some (.arr k2 l)=>if h:k2=k then some (h▸l,⟨ρ.p++[i],ρ.r⟩) else none
   | _=>none
  else none
 | _=>none
def AfN (s:A7 Ty) (k v:Nat) (x:V Ty) (ρ:ET):Option (List (Ty k×Ty v)×ET):=match x with
 | .mp i=>match AL.get s i with
  | some (.mp k2 v2 l)=>if h:k2=k then if h2:v2=v then some (h▸h2▸l,⟨ρ.p++[i],ρ.r⟩) else none else none
  | _=>none
 | _=>none
def AfO (s:A7 Ty) (k:Nat) (v:V Ty) (ρ:ET):Option (Ty k×ET):=match v with
 | .ptr i off=>bif Nat.beq off 0 then match AL.get s i with
   | some (.blk _ vs)=>(UV.pack k vs).map fun x=>(x,⟨ρ.p++[i],ρ.r⟩)
   | _=>none
  else none
 | _=>none
def AfP (j:Nat) (v:V Ty) (ρ:ET):Option (Unit×ET):=match v with
 | .ptr i off=>bif Nat.beq off 0 && Nat.blt j ρ.p.length && Nat.beq (Be ρ.p j) i then some ((),ρ) else none
 | _=>none
def AfQ (k j:Nat) (v:V Ty) (ρ:ET):Option (Unit×ET):=match v with
 | .hdr k' i=>bif Nat.beq k' k && Nat.blt j ρ.r.length && Nat.beq (Be ρ.r j) i then some ((),ρ) else none
 | _=>none
def AfR (v:V Ty) (ρ:ET):Option (Unit×ET):=match v with
 | .nilp=>some ((),ρ)
 | _=>none
def AfS (v:V Ty) (ρ:ET):Option (Unit×ET):=match v with
 | .nili=>some ((),ρ)
 | _=>none
section
variable {α β:Type}
def AfT (s:A7 Ty) (tb:Nat) (f:List (V Ty)→ET→Option (α×ET)) (v:V Ty) (ρ:ET):Option (α×ET):=match v with
 | .ptr i off=>bif Nat.beq off 0 then match AL.get s i with
   | some (.blk t vs)=>bif Nat.beq tb 0 || Nat.beq t tb then f vs ⟨ρ.p++[i],ρ.r⟩ else none
   | _=>none
  else none
 | _=>none
def Aiw:Nat→LoopState×Option Code
 | 0=>(.ready,none)
 | 1=>(.done,some .ret)
 | q+2=>(.done,some (.exit q))
def AjI:Nat→LoopState→Option Code→Bool
 | 0,.ready,none=>true
 | 1,.done,some .ret=>true
 | q+2,.done,some (.exit i)=>Nat.beq i q
 | _,_,_=>false
theorem AiZ:∀ {q:Nat} {st:LoopState} {pend:Option Code},AjI q st pend=true→(Aiw q).1=st∧(Aiw q).2=pend:=by
 intro q st pend h
 unfold AjI at h
 split at h
 · exact⟨rfl,rfl⟩
 · exact⟨rfl,rfl⟩
 · rw [Zac h]; exact⟨rfl,rfl⟩
 · cases h
def AfU (s:A7 Ty) (q0 tag:Nat) (ks:List Nat) (f:List (V Ty)→ET→Option (α×ET)) (v:V Ty) (ρ:ET):Option (α×ET):=match v with
 | .fn q [] [.mp i]=>bif Nat.beq q Ar then match AL.get s i with
   | some (.lp st pend t2 ks2 vs)=>bif AjI q0 st pend && (Nat.beq t2 tag && ZC ks2 ks) then f vs ⟨ρ.p++[i],ρ.r⟩ else none
   | _=>none
  else none
 | _=>none
def AfV (n:Nat) (f:List (V Ty)→ET→Option (α×ET)) (g:List (V Ty)→ET→Option (β×ET)) (v:V Ty) (ρ:ET):Option ((α×β)×ET):=match v with
 | .fn n' xs ys=>bif Nat.beq n' n then match f xs ρ with
   | some (x,ρ1)=>match g ys ρ1 with
    | some (y,ρ2)=>some ((x,y),ρ2)
    | none=>none
   | none=>none
  else none
 | _=>none
def AfW (f:List (V Ty)→ET→Option (α×ET)) (v:V Ty) (ρ:ET):Option (α×ET):=match v with
 | .tup vs=>f vs ρ
 | _=>none
def AfX (t:TypeId) (f:V Ty→ET→Option (α×ET)) (v:V Ty) (ρ:ET):Option (α×ET):=match v with
 | .ifc t' v=>bif Nat.beq t' t then f v ρ else none
 | _=>none
end
mutual
def TF (s:A7 Ty) (c:C) (v:V Ty) (ρ:ET):Option (C.D Ty c×ET):=match c with
 | .s k=>(UV.pack k [v]).map fun x=>(x,ρ)
 | .g k=>AfK k v ρ
 | .l k=>Aby k v ρ
 | .o k=>AfL s k v ρ
 | .v k=>Abz k v ρ
 | .p tb cs=>AfT s tb (fun vs ρ=>ZbS s cs vs ρ) v ρ
 | .a k=>AfM s k v ρ
 | .u k=>AfO s k v ρ
 | .q j=>AfP j v ρ
 | .f n as bs=>AfV n (fun vs ρ=>ZbS s as vs ρ) (fun vs ρ=>ZbS s bs vs ρ) v ρ
 | .z=>AfR v ρ
 | .n=>AfS v ρ
 | .t cs=>AfW (fun vs ρ=>ZbS s cs vs ρ) v ρ
 | .i t c=>AfX t (fun v ρ=>TF s c v ρ) v ρ
 | .m k q=>AfN s k q v ρ
 | .r k j=>AfQ k j v ρ
 | .y q tag ks cs=>AfU s q tag ks (fun vs ρ=>ZbS s cs vs ρ) v ρ
def ZbS (s:A7 Ty) (cs:List C) (vs:List (V Ty)) (ρ:ET):Option (C.Ds Ty cs×ET):=match cs with
 | []=>match vs with
  | []=>some ((),ρ)
  | _=>none
 | c::cs=>match vs with
  | []=>none
  | v::vs=>match TF s c v ρ with
   | some (x,ρ1)=>match ZbS s cs vs ρ1 with
    | some (y,ρ2)=>some ((x,y),ρ2)
    | none=>none
   | none=>none
end
mutual
def IF:(c:C)→C.D Ty c→Mk Ty→V Ty×Mk Ty
 | .s k,x,m=>(ZE (UV.view k x),m)
 | .g k,x,m=>(.agg (UV.view k x),m)
 | .l k,l,m=>(.lst k l,m)
 | .o k,l,m=>(.hdr k (Ax+m.nr),⟨m.np,m.nr+1,(Ax+m.nr,.row k l)::m.s⟩)
 | .v k,l,m=>(.arr k l,m)
 | .p tb cs,x,m=>match ZbE cs x ⟨m.np+1,m.nr,m.s⟩ with
  | (vs,m')=>(.ptr m.np 0,⟨m'.np,m'.nr,(m.np,.blk tb vs)::m'.s⟩)
 | .a k,l,m=>(.ptr m.np 0,⟨m.np+1,m.nr,(m.np,.arr k l)::m.s⟩)
 | .u k,x,m=>(.ptr m.np 0,⟨m.np+1,m.nr,(m.np,.blk 0 (UV.view k x))::m.s⟩)
 | .q j,_,m=>(.ptr j 0,m)
 | .r k j,_,m=>(.hdr k (Ax+j),m)
 | .f n as bs,x,m=>match ZbE as x.1 m with
  | (xs,m1)=>match ZbE bs x.2 m1 with
   | (ys,m2)=>(.fn n xs ys,m2)
 | .z,_,m=>(.nilp,m)
 | .n,_,m=>(.nili,m)
 | .t cs,x,m=>match ZbE cs x m with
  | (vs,m')=>(.tup vs,m')
 | .i t c,x,m=>match IF c x m with
  | (v,m')=>(.ifc t v,m')
 | .m k e,l,m=>(.mp m.np,⟨m.np+1,m.nr,(m.np,.mp k e l)::m.s⟩)
 | .y q tag ks cs,x,m=>match ZbE cs x ⟨m.np+1,m.nr,m.s⟩ with
  | (vs,m')=>(.fn Ar [] [.mp m.np],⟨m'.np,m'.nr,(m.np,.lp (Aiw q).1 (Aiw q).2 tag ks vs)::m'.s⟩)
def ZbE:(cs:List C)→C.Ds Ty cs→Mk Ty→List (V Ty)×Mk Ty
 | [],_,m=>([],m)
 | c::cs,x,m=>match IF c x.1 m with
  | (v,m1)=>match ZbE cs x.2 m1 with
   | (vs,m2)=>(v::vs,m2)
end
end
end Go.Proofs.YtkpgggfibljflaaGreatDoor
namespace Go.Proofs.YtkpgggfibljflaaGreatDoor
open Go Go.RowKit
open Rep (rep)
inductive EK where
 | normal
 | exit (id:Nat)
 | ret
 | pan
structure Wo where
 k:EK
 ps:List C
 sl:List (Nat×C)
 rv:List C
def AH:List (Nat×C)→List C
 | []=>[]
 | (_,c)::r=>c::AH r
def Aja:List C→List C→List C
 | [],r=>r
 | c::cs,r=>c::Aja cs r
def Wo.all (e:Wo):List C:=Aja e.ps (Aja (AH e.sl) e.rv)
section
variable (Ty:Nat→Type)
def YT:List Wo→Type
 | []=>Empty
 | e::es=>match es with
  | []=>C.Ds Ty e.all
  | _=>Sum (C.Ds Ty e.all) (YT es)
end
section
variable {Ty:Nat→Type} [UV Ty]
def EK.is:EK→Ah9 Ty→Bool
 | .normal,.normal=>true
 | .exit i,.exit j=>Nat.beq i j
 | .ret,.ret=>true
 | .pan,.pan _=>true
 | _,_=>false
def Qt (m:List (Nat×V Ty)):List (Nat×C)→Option (List (V Ty))
 | []=>some []
 | (k,_)::r=>match AL.get m k with
  | some v=>match Qt m r with
   | some vs=>some (v::vs)
   | none=>none
  | none=>none
def AfY (c:C) (j:Nat):V Ty:=match c with
 | .m _ _=>.mp j
 | .y _ _ _ _=>.fn Ar [] [.mp j]
 | _=>.ptr j 0
def Xo:Nat→List C→List (V Ty)
 | _,[]=>[]
 | j,c::cs=>AfY c j::Xo (j+1) cs
def AfZ:List (V Ty)→List (V Ty)→List (V Ty)
 | [],r=>r
 | c::cs,r=>c::AfZ cs r
def Wg (n:Nat):List Nat→Bool
 | []=>true
 | i::r=>Nat.blt i n && Wg n r
def Jj (cs:List C) (vs:List (V Ty)) (s:A7 Ty) (n:Nat):Option (C.Ds Ty cs×ET×List (V Ty)×A7 Ty×Nat):=match ZcD cs vs s n with
 | (vs',s',n')=>match ZbS s' cs vs' ⟨[],[]⟩ with
  | some (x,ρ)=>bif HQ (ρ.p++ρ.r) && Nat.ble (Bm ρ.p) Ax && Nat.ble (Bm ρ.r) Ax && Wg n' (ρ.p++ρ.r) then some (x,ρ,vs',s',n') else none
  | none=>none
def IG (kp:Nat) (e:Wo) (rv:List (V Ty)) (st:St Ty):Option (C.Ds Ty e.all):=bif Nat.beq (Bm e.ps) kp then match Qt st.m e.sl with
 | some vs=>match Jj e.all (AfZ (Xo 0 e.ps) (AfZ vs rv)) st.s st.nx with
  | some (x,ρ,_)=>bif Tj kp ρ.p then some x else none
  | none=>none
 | none=>none
 else none
def NM (kp:Nat) (D:List (Nat×C)) (st:St Ty):Option (C.Ds Ty (AH D)):=match Qt st.m D with
 | some vs=>match Jj (AH D) vs st.s st.nx with
  | some (x,ρ,_)=>bif Tj kp ρ.p then some x else none
  | none=>none
 | none=>none
def Vc:Ah9 Ty→List (V Ty)
 | .pan v=>[v]
 | _=>[]
def Aga (s:A7 Ty):Nat→List C→Bool
 | _,[]=>true
 | j,.y q _ _ _::r=>(match AL.get s j with
  | some (.lp st pend _ _ _)=>AjI q st pend
  | _=>true) && Aga s (j+1) r
 | j,.p _ (.z::_)::r=>(match AL.get s j with
  | some (.blk _ (.nilp::_))=>true
  | some (.blk _ _)=>false
  | _=>true) && Aga s (j+1) r
 | j,.p _ (.q _::_)::r=>(match AL.get s j with
  | some (.blk _ (.nilp::_))=>false
  | _=>true) && Aga s (j+1) r
 | j,_::r=>Aga s (j+1) r
def Wo.fits (e:Wo) (lf:Lf Ty):Bool:=e.k.is lf.e && Aga lf.st.s 0 e.ps
def Hv (kp:Nat):(es:List Wo)→Lf Ty→Option (YT Ty es)
 | [],_=>none
 | e::es,lf=>match es with
  | []=>bif e.fits lf then IG kp e (Vc lf.e) lf.st else none
  | e2::es2=>bif e.fits lf then(IG kp e (Vc lf.e) lf.st).map Sum.inl else(Hv kp (e2::es2) lf).map Sum.inr
def Hw:List (Nat×C)→List (V Ty)→List (Nat×V Ty)
 | (k,_)::r,v::vs=>(k,v)::Hw r vs
 | _,_=>[]
def By (D:List (Nat×C)) (x:C.Ds Ty (AH D)):St Ty:=match ZbE (AH D) x ⟨0,0,[]⟩ with
 | (vs,m)=>⟨Hw D vs,m.s,2*Ax⟩
def Gn (kp:Nat) (D:List (Nat×C)) (E:List Wo) (f:C.Ds Ty (AH D)→Option (YT Ty E)) (lf:Lf Ty):Option (YT Ty E):=match lf.e with
 | .normal=>(NM kp D lf.st).bind f
 | _=>Hv kp E lf
def EK.ext:EK→List (V Ty)→Ah9 Ty
 | .normal,_=>.normal
 | .exit i,_=>.exit i
 | .ret,_=>.ret
 | .pan,[v]=>.pan v
 | .pan,_=>.pan .undef
def Pc {α:Type}:Nat→List α→List α
 | 0,l=>l
 | _+1,[]=>[]
 | n+1,_::l=>Pc n l
def Qu (e:Wo) (x:C.Ds Ty e.all):Lf Ty:=match ZbE e.all x ⟨0,0,[]⟩ with
 | (vs,m)=>match Pc (Bm e.ps) vs with
  | vs'=>⟨e.k.ext (Pc (Bm e.sl) vs'),⟨Hw e.sl vs',m.s,2*Ax⟩⟩
def F9 (pf:List Nat) (kp n np j:Nat):Nat:=bif Nat.blt j kp then Be pf j else bif Nat.blt j Ax then n+(j-kp) else n+(np-kp)+(j-Ax)
def LX (r:List Nat):A7 Ty→A7 Ty
 | []=>[]
 | (i,c)::t=>bif AF r i then LX r t else(i,c)::LX r t
def TG (f:Nat→Nat) (b:A7 Ty):A7 Ty→A7 Ty
 | []=>b
 | (j,c)::t=>(f j,c.ren f)::TG f b t
def mapM (f:Nat→Nat):List (Nat×V Ty)→List (Nat×V Ty)
 | []=>[]
 | (k,v)::t=>(k,v.ren f)::mapM f t
def Gp (np nr i:Nat):Bool:=Nat.blt i np || (Nat.ble Ax i && Nat.blt i (Ax+nr))
def Pd (p:Nat→Bool):A7 Ty→Bool
 | []=>true
 | (j,c)::t=>p j && c.okB p && Pd p t
def AjJ {ρ:Type} (f:(e:Wo)→C.Ds Ty e.all→Tr ρ):(es:List Wo)→YT Ty es→Tr ρ
 | [],_=>.fail
 | e::es,y=>match es,y with
  | [],y=>f e y
  | e2::es2,y=>.sum y (fun a=>f e a) (fun b=>AjJ f (e2::es2) b)
end
def JE (pf rf:List Nat) (i:Nat):Nat:=bif Nat.blt i Ax then Be pf i else Be rf (i-Ax)
theorem Hx {pf rf:List Nat} {i:Nat} (h:i<Ax):JE pf rf i=Be pf i:=by
 unfold JE; rw [show Nat.blt i Ax=true from Za2 h]; rfl
theorem Xp {pf rf:List Nat} {i:Nat}:JE pf rf (Ax+i)=Be rf i:=by
 unfold JE
 cases h:Nat.blt (Ax+i) Ax with
 | true=>have:=Zah h; omega
 | false=>simp
theorem Pe {l m:List Nat} (h:l <+: m) {j:Nat} (hj:j<l.length):Be m j=Be l j:=by
 obtain⟨r,rfl⟩:=h
 have h1:=IE hj
 have h2:=IE (l:=l++r) (j:=j) (by simp; omega)
 rw [Zay hj,h1] at h2
 exact(Option.some.inj h2).symm
theorem Iz {l m:List Nat} {i:Nat} (h:l++[i] <+: m):Be m l.length=i:=by
 rw [Pe h (by simp)]
 have:=IE (l:=l++[i]) (j:=l.length) (by simp)
 rw [Zbg (Zas _)] at this
 simpa using this.symm
section
variable {Ty:Nat→Type} [UV Ty]
section
variable {α β:Type} {s:A7 Ty} {v:V Ty} {ρ ρ':ET} {k:Nat}
theorem TH {x:Ty k} (h:AfK k v ρ=some (x,ρ')):∃ cs,v=.agg cs∧UV.pack k cs=some x∧ρ' = ρ:=by
 unfold AfK at h
 split at h
 · obtain⟨y,h1,h2⟩:=Za0.1 h
   cases h2
   exact⟨_,rfl,h1,rfl⟩
 · cases h
theorem Ri {x:List (Ty k)} (h:Aby k v ρ=some (x,ρ')):(v=.lst k x∨v=.nils∧x=[])∧ρ' = ρ:=by
 unfold Aby at h
 split at h
 · split at h
   · rename_i hk; subst hk; cases h; exact⟨.inl rfl,rfl⟩
   · cases h
 · cases h; exact⟨.inr ⟨rfl,rfl⟩,rfl⟩
 · cases h
theorem Rj {x:List (Ty k)} (h:Abz k v ρ=some (x,ρ')):v=.arr k x∧ρ' = ρ:=by
 unfold Abz at h
 split at h
 · split at h
   · rename_i hk; subst hk; cases h; exact⟨rfl,rfl⟩
   · cases h
 · cases h
theorem TI {x:List (Ty k)} (h:AfL s k v ρ=some (x,ρ')):∃ i,v=.hdr k i∧AL.get s i=some (.row k x)∧ρ' = ⟨ρ.p,ρ.r++[i]⟩:=by
 unfold AfL at h
 split at h
 · split at h
   · rename_i hk
     subst hk
     split at h
     · rename_i hg
       split at h
       · rename_i hk; subst hk; cases h; exact⟨_,rfl,hg,rfl⟩
       · cases h
     · cases h
   · cases h
 · cases h
theorem TJ {x:List (Ty k)} (h:AfM s k v ρ=some (x,ρ')):∃ i,v=.ptr i 0∧AL.get s i=some (.arr k x)∧ρ' = ⟨ρ.p++[i],ρ.r⟩:=by
 unfold AfM at h
 split at h
 · rename_i i off
   cases hb:Nat.beq off 0 with
   | false=>rw [hb] at h; cases h
   | true =>
    rw [hb,Zab] at h
    have:=Zac hb
    subst this
    split at h
    · rename_i hg
      split at h
      · rename_i hk; subst hk; cases h; exact⟨_,rfl,hg,rfl⟩
      · cases h
    · cases h
 · cases h
theorem TK {k2:Nat} {x:List (Ty k×Ty k2)} (h:AfN s k k2 v ρ=some (x,ρ')):∃ i,v=.mp i∧AL.get s i=some (.mp k k2 x)∧ρ' = ⟨ρ.p++[i],ρ.r⟩:=by
 unfold AfN at h
 split at h
 · split at h
   · rename_i hg
     split at h
     · rename_i hk
       subst hk
       split at h
       · rename_i hk2; subst hk2; cases h; exact⟨_,rfl,hg,rfl⟩
       · cases h
     · cases h
   · cases h
 · cases h
theorem TL {q0 tag:Nat} {ks:List Nat} {f:List (V Ty)→ET→Option (α×ET)} {x:α} (h:AfU s q0 tag ks f v ρ=some (x,ρ')):∃ i vs,v=.fn Ar [] [.mp i]∧AL.get s i=some (.lp (Aiw q0).1 (Aiw q0).2 tag ks vs)∧f vs ⟨ρ.p++[i],ρ.r⟩=some (x,ρ'):=by
 unfold AfU at h
 split at h
 · rename_i q i
   cases hb:Nat.beq q Ar with
   | false=>rw [hb] at h; cases h
   | true =>
    rw [hb,Zab] at h
    split at h
    · rename_i st pend t2 ks2 vs hg
      cases hb2:(AjI q0 st pend && (Nat.beq t2 tag && ZC ks2 ks)) with
      | false=>rw [hb2] at h; cases h
      | true =>
       rw [hb2,Zab] at h
       obtain⟨b0,b12⟩:=As hb2
       obtain⟨b1,b2⟩:=As b12
       obtain⟨l1,l2⟩:=AiZ b0
       have e1:=Zac b1
       have e2:=ZD b2
       subst e1 e2
       exact⟨i,vs,by rw [Zac hb],by rw [l1,l2]; exact hg,h⟩
    · cases h
 · cases h
theorem TN {x:Ty k} (h:AfO s k v ρ=some (x,ρ')):∃ i tb vs,v=.ptr i 0∧AL.get s i=some (.blk tb vs)∧UV.pack k vs=some x∧ρ' = ⟨ρ.p++[i],ρ.r⟩:=by
 unfold AfO at h
 split at h
 · rename_i i off
   cases hb:Nat.beq off 0 with
   | false=>rw [hb] at h; cases h
   | true =>
    rw [hb,Zab] at h
    have:=Zac hb
    subst this
    split at h
    · rename_i hg
      obtain⟨y,h1,h2⟩:=Za0.1 h
      cases h2
      exact⟨_,_,_,rfl,hg,h1,rfl⟩
    · cases h
 · cases h
theorem TO {j:Nat} {x:Unit} (h:AfP j v ρ=some (x,ρ')):j<ρ.p.length∧v=.ptr (Be ρ.p j) 0∧ρ' = ρ:=by
 unfold AfP at h
 split at h
 · rename_i i off
   cases hb:(Nat.beq off 0 && Nat.blt j ρ.p.length && Nat.beq (Be ρ.p j) i) with
   | false=>rw [hb] at h; cases h
   | true =>
    rw [hb,Zab] at h
    cases h
    obtain⟨hb,b3⟩:=As hb
    obtain⟨b1,b2⟩:=As hb
    rw [Zac b1,← Zac b3]
    exact⟨Zah b2,rfl,rfl⟩
 · cases h
theorem TP {j:Nat} {x:Unit} (h:AfQ k j v ρ=some (x,ρ')):j<ρ.r.length∧v=.hdr k (Be ρ.r j)∧ρ' = ρ:=by
 unfold AfQ at h
 split at h
 · rename_i k' i
   cases hb:(Nat.beq k' k && Nat.blt j ρ.r.length && Nat.beq (Be ρ.r j) i) with
   | false=>rw [hb] at h; cases h
   | true =>
    rw [hb,Zab] at h
    cases h
    obtain⟨hb,b3⟩:=As hb
    obtain⟨b1,b2⟩:=As hb
    rw [Zac b1,← Zac b3]
    exact⟨Zah b2,rfl,rfl⟩
 · cases h
theorem TQ {x:Unit} (h:AfR v ρ=some (x,ρ')):v=.nilp∧ρ' = ρ:=by
 unfold AfR at h
 split at h
 · cases h; exact⟨rfl,rfl⟩
 · cases h
theorem TR {x:Unit} (h:AfS v ρ=some (x,ρ')):v=.nili∧ρ' = ρ:=by
 unfold AfS at h
 split at h
 · cases h; exact⟨rfl,rfl⟩
 · cases h
theorem TS {tb:Nat} {f:List (V Ty)→ET→Option (α×ET)} {x:α} (h:AfT s tb f v ρ=some (x,ρ')):∃ i t vs,v=.ptr i 0∧AL.get s i=some (.blk t vs)∧(tb=0∨t=tb)∧f vs ⟨ρ.p++[i],ρ.r⟩=some (x,ρ'):=by
 unfold AfT at h
 split at h
 · rename_i i off
   cases hb:Nat.beq off 0 with
   | false=>rw [hb] at h; cases h
   | true =>
    rw [hb,Zab] at h
    have:=Zac hb
    subst this
    split at h
    · rename_i t vs hg
      cases hb2:(Nat.beq tb 0 || Nat.beq t tb) with
      | false=>rw [hb2] at h; cases h
      | true =>
       rw [hb2] at h
       refine⟨_,_,_,rfl,hg,?_,h⟩
       rcases Bool.or_eq_true_iff.1 hb2 with q | q
       · exact .inl (Zac q)
       · exact .inr (Zac q)
    · cases h
 · cases h
theorem TU {n:Nat} {f:List (V Ty)→ET→Option (α×ET)} {g:List (V Ty)→ET→Option (β×ET)} {x:α×β} (h:AfV n f g v ρ=some (x,ρ')):∃ xs ys ρ1,v=.fn n xs ys∧f xs ρ=some (x.1,ρ1)∧g ys ρ1=some (x.2,ρ'):=by
 unfold AfV at h
 split at h
 · rename_i n' xs ys
   cases hb:Nat.beq n' n with
   | false=>rw [hb] at h; cases h
   | true =>
    rw [hb,Zab] at h
    have:=Zac hb
    subst this
    split at h
    · rename_i h1
      split at h
      · rename_i h2
        cases h
        exact⟨_,_,_,rfl,h1,h2⟩
      · cases h
    · cases h
 · cases h
theorem TV {f:List (V Ty)→ET→Option (α×ET)} {x:α} (h:AfW f v ρ=some (x,ρ')):∃ vs,v=.tup vs∧f vs ρ=some (x,ρ'):=by
 unfold AfW at h
 split at h
 · exact⟨_,rfl,h⟩
 · cases h
theorem TW {t:TypeId} {f:V Ty→ET→Option (α×ET)} {x:α} (h:AfX t f v ρ=some (x,ρ')):∃ y,v=.ifc t y∧f y ρ=some (x,ρ'):=by
 unfold AfX at h
 split at h
 · rename_i t' y
   cases hb:Nat.beq t' t with
   | false=>rw [hb] at h; cases h
   | true=>rw [hb,Zab] at h; exact⟨y,by rw [Zac hb],h⟩
 · cases h
theorem Rk {c:C} {cs:List C} {vs:List (V Ty)} {x:C.Ds Ty (c::cs)} (h:ZbS s (c::cs) vs ρ=some (x,ρ')):∃ y ys ρ1,vs=y::ys∧TF s c y ρ=some (x.1,ρ1)∧ZbS s cs ys ρ1=some (x.2,ρ'):=by
 unfold ZbS at h
 split at h
 · cases h
 · split at h
   · rename_i h1
     split at h
     · rename_i h2
       cases h
       exact⟨_,_,_,rfl,h1,h2⟩
     · cases h
   · cases h
theorem TX {vs:List (V Ty)} {x:C.Ds Ty []} (h:ZbS s [] vs ρ=some (x,ρ')):vs=[]∧ρ' = ρ:=by
 unfold ZbS at h
 split at h
 · cases h; exact⟨rfl,rfl⟩
 · cases h
end
mutual
theorem Wh {s:A7 Ty}:∀ (c:C) {v:V Ty} {ρ ρ':ET} {x:C.D Ty c},TF s c v ρ=some (x,ρ')→ρ.p <+: ρ'.p∧ρ.r <+: ρ'.r
 | .s k,v,ρ,ρ',x,h=>by
  unfold TF at h
  obtain⟨y,_,h2⟩:=Za0.1 h
  cases h2
  exact⟨ZaE _,ZaE _⟩
 | .g k,v,ρ,ρ',x,h=>by
  obtain⟨_,_,_,rfl⟩:=TH (x:=x) h
  exact⟨ZaE _,ZaE _⟩
 | .l k,v,ρ,ρ',x,h=>by
  obtain⟨_,rfl⟩:=Ri (x:=x) h
  exact⟨ZaE _,ZaE _⟩
 | .o k,v,ρ,ρ',x,h=>by
  obtain⟨_,_,_,rfl⟩:=TI (x:=x) h
  exact⟨ZaE _,Zb6 _ _⟩
 | .v k,v,ρ,ρ',x,h=>by
  obtain⟨_,rfl⟩:=Rj (x:=x) h
  exact⟨ZaE _,ZaE _⟩
 | .p tb cs,v,ρ,ρ',x,h=>by
  obtain⟨i,t,vs,_,_,_,h1⟩:=TS (x:=x) h
  obtain⟨h1,h2⟩:=ZbK cs h1
  exact⟨List.IsPrefix.trans (Zb6 _ _) h1,h2⟩
 | .a k,v,ρ,ρ',x,h=>by
  obtain⟨_,_,_,rfl⟩:=TJ (x:=x) h
  exact⟨Zb6 _ _,ZaE _⟩
 | .u k,v,ρ,ρ',x,h=>by
  obtain⟨_,_,_,_,_,_,rfl⟩:=TN (x:=x) h
  exact⟨Zb6 _ _,ZaE _⟩
 | .q j,v,ρ,ρ',x,h=>by
  obtain⟨_,_,rfl⟩:=TO (x:=x) h
  exact⟨ZaE _,ZaE _⟩
 | .f n as bs,v,ρ,ρ',x,h=>by
  obtain⟨xs,ys,ρ1,_,h1,h2⟩:=TU (x:=x) h
  obtain⟨a1,a2⟩:=ZbK as h1
  obtain⟨b1,b2⟩:=ZbK bs h2
  exact⟨a1.trans b1,a2.trans b2⟩
 | .z,v,ρ,ρ',x,h=>by
  obtain⟨_,rfl⟩:=TQ (x:=x) h
  exact⟨ZaE _,ZaE _⟩
 | .n,v,ρ,ρ',x,h=>by
  obtain⟨_,rfl⟩:=TR (x:=x) h
  exact⟨ZaE _,ZaE _⟩
 | .t cs,v,ρ,ρ',x,h=>by
  obtain⟨vs,_,h1⟩:=TV (x:=x) h
  exact ZbK cs h1
 | .i t c,v,ρ,ρ',x,h=>by
  obtain⟨y,_,h1⟩:=TW (x:=x) h
  exact Wh c h1
 | .r k j,v,ρ,ρ',x,h=>by
  obtain⟨_,_,rfl⟩:=TP (x:=x) h
  exact⟨ZaE _,ZaE _⟩
 | .m k k2,v,ρ,ρ',x,h=>by
  obtain⟨_,_,_,rfl⟩:=TK (x:=x) h
  exact⟨Zb6 _ _,ZaE _⟩
 | .y q tag ks cs,v,ρ,ρ',x,h=>by
  obtain⟨i,vs,_,_,h1⟩:=TL (x:=x) h
  obtain⟨h1,h2⟩:=ZbK cs h1
  exact⟨List.IsPrefix.trans (Zb6 _ _) h1,h2⟩
theorem ZbK {s:A7 Ty}:∀ (cs:List C) {vs:List (V Ty)} {ρ ρ':ET} {x:C.Ds Ty cs},ZbS s cs vs ρ=some (x,ρ')→ρ.p <+: ρ'.p∧ρ.r <+: ρ'.r
 | [],vs,ρ,ρ',x,h=>by
  obtain⟨_,rfl⟩:=TX h
  exact⟨ZaE _,ZaE _⟩
 | c::cs,vs,ρ,ρ',x,h=>by
  obtain⟨y,ys,ρ1,_,h1,h2⟩:=Rk h
  obtain⟨a1,a2⟩:=Wh c h1
  obtain⟨b1,b2⟩:=ZbK cs h2
  exact⟨a1.trans b1,a2.trans b2⟩
end
end
end Go.Proofs.YtkpgggfibljflaaGreatDoor
namespace Go.Proofs.YtkpgggfibljflaaGreatDoor
open Go Go.RowKit
open Rep (rep)
section
variable {Ty:Nat→Type} [rT:∀ k,Rep (Ty k)] [RFs] [UM Ty] [UML Ty]
theorem ZF {g:GE} {h:Ad} {k:Nat} {u:Value} (hu:(V.nils:V Ty).den g h u):(V.lst k ([]:List (Ty k))).den g h u:=by
 unfold V.den at hu ⊢
 exact⟨none,0,hu,Hd.nil⟩
def Wi (pf rf:List Nat) (j:Nat):Prop:=j<pf.length∨(Ax≤j∧j<Ax+rf.length)
def Wj (s:A7 Ty) (pf rf:List Nat) (j:Nat) (d:AE Ty):Prop:=Wi pf rf j∧d.okB (CT (2*Ax))=true ∧
 ∃ c0,AL.get s (JE pf rf j)=some c0∧∀ (h:Ad)(g:GE)(a:GA)(w:World),BU h g a w c0→BU h (fun i=>g (JE pf rf i)) a w d
structure PR (s:A7 Ty) (pf rf:List Nat) (ρ':ET) (m m':Mk Ty):Prop where
 np:m'.np=ρ'.p.length
 nr:m'.nr=ρ'.r.length
 cells:∀ j d,(j,d)∈m'.s→(j,d)∈m.s∨Wj s pf rf j d
theorem PR.trans {s:A7 Ty} {pf rf:List Nat} {ρ1 ρ2:ET} {m m1 m2:Mk Ty} (h1:PR s pf rf ρ1 m m1) (h2:PR s pf rf ρ2 m1 m2):PR s pf rf ρ2 m m2 :=
 ⟨h2.np,h2.nr,fun j d hd=>(h2.cells j d hd).elim (h1.cells j d) .inr⟩
variable [UV Ty] [UL Ty]
theorem Ab0 {k:Nat} {x:Ty k} {v:V Ty} (hp:UV.pack k [v]=some x):(ZE (UV.view k x)).okB (CT (2*Ax))=true∧∀ (g g':GE)(h:Ad)(u:Value),v.den g h u→(ZE (UV.view k x)).den g' h u:=by
 refine⟨?_,fun g g' h u hu=>?_⟩
 · have:=UL.view_ok (Ty:=Ty) (CT (2*Ax)) k x
   unfold ZE
   split
   · rename_i y hy
     rw [hy] at this
     unfold V.oksB at this
     exact(As this).1
   · rfl
 · have h1:=UL.pack_rep g h k _ x [u] hp (by unfold V.dens; exact⟨u,[],rfl,hu,by unfold V.dens; rfl⟩)
   have h2:=UL.view_den g' h k x [u] h1
   have hl:=V.dens_len h2
   match hv:UV.view k x with
   | [y] =>
    rw [hv] at h2
    unfold V.dens at h2
    obtain⟨u',us',e,h3,_⟩:=h2
    cases e
    exact h3
   | []=>rw [hv] at hl; simp at hl
   | _::_::_=>rw [hv] at hl; simp at hl
theorem Qv {pf:List Nat} (hp:pf.length≤Ax) {i:Nat} (h:i<pf.length):CT (2*Ax) i=true:=Ap.2 (by omega)
mutual
theorem Rl {s:A7 Ty} {pf rf:List Nat} (hp:pf.length≤Ax) (hr:rf.length≤Ax):∀ (c:C) {v:V Ty} {ρ ρ':ET} {x:C.D Ty c},TF s c v ρ=some (x,ρ')→ρ'.p <+: pf→ρ'.r <+: rf →
  ∀ (m:Mk Ty),m.np=ρ.p.length→m.nr=ρ.r.length→PR s pf rf ρ' m (IF c x m).2∧(IF c x m).1.okB (CT (2*Ax))=true∧∀ (g:GE)(h:Ad)(u:Value),v.den g h u→(IF c x m).1.den (fun i=>g (JE pf rf i)) h u
 | .s k,v,ρ,ρ',x,h,_,_,m,h1,h2=>by
  unfold TF at h
  obtain⟨y,hy,e⟩:=Za0.1 h
  cases e
  obtain⟨q1,q2⟩:=Ab0 hy
  unfold IF
  exact⟨⟨h1,h2,fun _ _=>.inl⟩,q1,fun g h u hu=>q2 _ _ h u hu⟩
 | .g k,v,ρ,ρ',x,h,_,_,m,h1,h2=>by
  obtain⟨cs,rfl,hy,rfl⟩:=TH (x:=x) h
  unfold IF
  refine⟨⟨h1,h2,fun _ _=>.inl⟩,?_,fun g h u hu=>?_⟩
  · unfold V.okB; exact UL.view_ok _ k x
  · unfold V.den at hu ⊢
    obtain⟨us,e,hus⟩:=hu
    exact⟨us,e,UL.view_den _ h k x us (UL.pack_rep g h k _ x us hy hus)⟩
 | .l k,v,ρ,ρ',x,h,_,_,m,h1,h2=>by
  obtain⟨hv,rfl⟩:=Ri (x:=x) h
  unfold IF
  refine⟨⟨h1,h2,fun _ _=>.inl⟩,rfl,fun g hp' u hu=>?_⟩
  rcases hv with rfl | ⟨rfl,hx⟩
  · exact hu
  · show(V.lst k x).den _ hp' u
    rw [show x=([]:List (Ty k)) from hx]
    exact ZF hu
 | .o k,v,ρ,ρ',x,h,hpp,hrr,m,h1,h2=>by
  obtain⟨i,rfl,hg,rfl⟩:=TI (x:=x) h
  have hrr:ρ.r++[i] <+: rf:=hrr
  have hlen:ρ.r.length<rf.length:=by have:=hrr.length_le; simp at this; omega
  have hs:JE pf rf (Ax+m.nr)=i:=by rw [Xp,h2]; exact Iz hrr
  unfold IF
  refine⟨⟨h1,by simp [h2],fun j d hd=>?_⟩,?_,fun g h u hu=>?_⟩
  · rcases Zam.1 hd with hd | hd
    · cases hd
      refine .inr ⟨.inr ⟨Nat.le_add_right _ _,by omega⟩,rfl,.row k x,?_,fun h g a w hc=>hc⟩
      rw [hs]; exact hg
    · exact .inl hd
  · unfold V.okB; exact Ap.2 (by omega)
  · unfold V.den at hu ⊢
    rw [hs]
    exact hu
 | .v k,v,ρ,ρ',x,h,_,_,m,h1,h2=>by
  obtain⟨rfl,rfl⟩:=Rj (x:=x) h
  unfold IF
  exact⟨⟨h1,h2,fun _ _=>.inl⟩,rfl,fun g h u hu=>hu⟩
 | .p tb cs,v,ρ,ρ',x,h,hpp,hrr,m,h1,h2=>by
  obtain⟨i,t,vs,rfl,hg,ht,hh⟩:=TS (x:=x) h
  have hpre:=(ZbK cs hh).1
  have hin:ρ.p++[i] <+: pf:=hpre.trans hpp
  have hlen:ρ.p.length<pf.length:=by have:=hin.length_le; simp at this; omega
  obtain⟨q1,q2,q3⟩:=ZbO hp hr cs hh hpp hrr ⟨m.np+1,m.nr,m.s⟩ (by simp [h1]) h2
  have hs:JE pf rf m.np=i:=by rw [Hx (by omega),h1]; exact Iz hin
  unfold IF
  refine⟨⟨q1.np,q1.nr,fun j d hd=>?_⟩,?_,fun g h u hu=>?_⟩
  · rcases Zam.1 hd with hd | hd
    · cases hd
      refine .inr ⟨.inl (by omega),q2,.blk t vs,by rw [hs]; exact hg,fun h g a w hc=>?_⟩
      obtain⟨c0,us,T,c1,c2,c3,c4⟩:=hc
      exact⟨c0,us,T,c1,q3 g h us c2,c3,ht.elim .inl fun q=>by subst q; exact c4⟩
    · exact q1.cells j d hd
  · unfold V.okB; exact Qv hp (by omega)
  · unfold V.den at hu ⊢
    rw [hs]
    exact hu
 | .a k,v,ρ,ρ',x,h,hpp,hrr,m,h1,h2=>by
  obtain⟨i,rfl,hg,rfl⟩:=TJ (x:=x) h
  have hin:ρ.p++[i] <+: pf:=hpp
  have hlen:ρ.p.length<pf.length:=by have:=hin.length_le; simp at this; omega
  have hs:JE pf rf m.np=i:=by rw [Hx (by omega),h1]; exact Iz hin
  unfold IF
  refine⟨⟨by simp [h1],h2,fun j d hd=>?_⟩,?_,fun g h u hu=>?_⟩
  · rcases Zam.1 hd with hd | hd
    · cases hd
      exact .inr ⟨.inl (by omega),rfl,.arr k x,by rw [hs]; exact hg,fun h g a w hc=>hc⟩
    · exact .inl hd
  · unfold V.okB; exact Qv hp (by omega)
  · unfold V.den at hu ⊢
    rw [hs]
    exact hu
 | .u k,v,ρ,ρ',x,h,hpp,hrr,m,h1,h2=>by
  obtain⟨i,tb,vs,rfl,hg,hy,rfl⟩:=TN (x:=x) h
  have hin:ρ.p++[i] <+: pf:=hpp
  have hlen:ρ.p.length<pf.length:=by have:=hin.length_le; simp at this; omega
  have hs:JE pf rf m.np=i:=by rw [Hx (by omega),h1]; exact Iz hin
  unfold IF
  refine⟨⟨by simp [h1],h2,fun j d hd=>?_⟩,?_,fun g h u hu=>?_⟩
  · rcases Zam.1 hd with hd | hd
    · cases hd
      refine .inr ⟨.inl (by omega),UL.view_ok _ k x,.blk tb vs,by rw [hs]; exact hg,fun h g a w hc=>?_⟩
      obtain⟨c0,us,T,c1,c2,c3,_⟩:=hc
      exact⟨c0,us,T,c1,UL.view_den _ h k x us (UL.pack_rep g h k _ x us hy c2),c3,.inl rfl⟩
    · exact .inl hd
  · unfold V.okB; exact Qv hp (by omega)
  · unfold V.den at hu ⊢
    rw [hs]
    exact hu
 | .q j,v,ρ,ρ',x,h,hpp,hrr,m,h1,h2=>by
  obtain⟨hj,rfl,rfl⟩:=TO (x:=x) h
  have hlen:=hpp.length_le
  unfold IF
  refine⟨⟨h1,h2,fun _ _=>.inl⟩,?_,fun g h u hu=>?_⟩
  · unfold V.okB; exact Qv hp (by omega)
  · unfold V.den at hu ⊢
    rw [Hx (by omega),Pe hpp hj]
    exact hu
 | .f n as bs,v,ρ,ρ',x,h,hpp,hrr,m,h1,h2=>by
  obtain⟨xs,ys,ρ1,rfl,e1,e2⟩:=TU (x:=x) h
  obtain⟨b1,b2⟩:=ZbK bs e2
  obtain⟨q1,q2,q3⟩:=ZbO hp hr as e1 (b1.trans hpp) (b2.trans hrr) m h1 h2
  obtain⟨r1,r2,r3⟩:=ZbO hp hr bs e2 hpp hrr (ZbE as x.1 m).2 q1.np q1.nr
  unfold IF
  refine⟨q1.trans r1,?_,fun g h u hu=>?_⟩
  · unfold V.okB; simp only [Zan]; exact⟨q2,r2⟩
  · unfold V.den at hu ⊢
    obtain⟨us,ws,e,h3,h4⟩:=hu
    exact⟨us,ws,e,q3 g h us h3,r3 g h ws h4⟩
 | .z,v,ρ,ρ',x,h,_,_,m,h1,h2=>by
  obtain⟨rfl,rfl⟩:=TQ (x:=x) h
  unfold IF
  exact⟨⟨h1,h2,fun _ _=>.inl⟩,rfl,fun g h u hu=>hu⟩
 | .n,v,ρ,ρ',x,h,_,_,m,h1,h2=>by
  obtain⟨rfl,rfl⟩:=TR (x:=x) h
  unfold IF
  exact⟨⟨h1,h2,fun _ _=>.inl⟩,rfl,fun g h u hu=>hu⟩
 | .t cs,v,ρ,ρ',x,h,hpp,hrr,m,h1,h2=>by
  obtain⟨vs,rfl,hh⟩:=TV (x:=x) h
  obtain⟨q1,q2,q3⟩:=ZbO hp hr cs hh hpp hrr m h1 h2
  unfold IF
  refine⟨q1,q2,fun g h u hu=>?_⟩
  unfold V.den at hu ⊢
  obtain⟨us,e,h3⟩:=hu
  exact⟨us,e,q3 g h us h3⟩
 | .i t c,v,ρ,ρ',x,h,hpp,hrr,m,h1,h2=>by
  obtain⟨y,rfl,hh⟩:=TW (x:=x) h
  obtain⟨q1,q2,q3⟩:=Rl hp hr c hh hpp hrr m h1 h2
  unfold IF
  refine⟨q1,q2,fun g h u hu=>?_⟩
  unfold V.den at hu ⊢
  obtain⟨us,e,h3⟩:=hu
  exact⟨us,e,q3 g h us h3⟩
 | .r k j,v,ρ,ρ',x,h,hpp,hrr,m,h1,h2=>by
  obtain⟨hj,rfl,rfl⟩:=TP (x:=x) h
  have hlen:=hrr.length_le
  unfold IF
  refine⟨⟨h1,h2,fun _ _=>.inl⟩,?_,fun g h u hu=>?_⟩
  · unfold V.okB; exact Ap.2 (by omega)
  · unfold V.den at hu ⊢
    rw [Xp,Pe hrr hj]
    exact hu
 | .m k k2,v,ρ,ρ',x,h,hpp,hrr,m,h1,h2=>by
  obtain⟨i,rfl,hg,rfl⟩:=TK (x:=x) h
  have hin:ρ.p++[i] <+: pf:=hpp
  have hlen:ρ.p.length<pf.length:=by have:=hin.length_le; simp at this; omega
  have hs:JE pf rf m.np=i:=by rw [Hx (by omega),h1]; exact Iz hin
  unfold IF
  refine⟨⟨by simp [h1],h2,fun j d hd=>?_⟩,?_,fun g h u hu=>?_⟩
  · rcases Zam.1 hd with hd | hd
    · cases hd
      exact .inr ⟨.inl (by omega),rfl,.mp k k2 x,by rw [hs]; exact hg,fun h g a w hc=>hc⟩
    · exact .inl hd
  · unfold V.okB; exact Qv hp (by omega)
  · unfold V.den at hu ⊢
    rw [hs]
    exact hu
 | .y q tag ks cs,v,ρ,ρ',x,h,hpp,hrr,m,h1,h2=>by
  obtain⟨i,vs,rfl,hg,hh⟩:=TL (x:=x) h
  have hpre:=(ZbK cs hh).1
  have hin:ρ.p++[i] <+: pf:=hpre.trans hpp
  have hlen:ρ.p.length<pf.length:=by have:=hin.length_le; simp at this; omega
  obtain⟨q1,q2,q3⟩:=ZbO hp hr cs hh hpp hrr ⟨m.np+1,m.nr,m.s⟩ (by simp [h1]) h2
  have hs:JE pf rf m.np=i:=by rw [Hx (by omega),h1]; exact Iz hin
  unfold IF
  refine⟨⟨q1.np,q1.nr,fun j d hd=>?_⟩,?_,fun g h u hu=>?_⟩
  · rcases Zam.1 hd with hd | hd
    · cases hd
      refine .inr ⟨.inl (by omega),q2,.lp (Aiw q).1 (Aiw q).2 tag ks vs,by rw [hs]; exact hg,fun h g a w hc=>?_⟩
      obtain⟨h0,r,c1,c2,c3,c4,c5,c6,c7,c8,us,c9,c10⟩:=hc
      exact⟨h0,r,c1,c2,c3,c4,c5,c6,c7,by rw [c8,← V.dens_len c9,← V.dens_len (q3 g h us c9)],us,q3 g h us c9,c10⟩
    · exact q1.cells j d hd
  · show(true && (CT (2*Ax) m.np && true))=true
    rw [Qv hp (by omega)]; rfl
  · unfold V.den at hu ⊢
    obtain⟨as,bs,e,e1,e2⟩:=hu
    obtain⟨u1,rfl,e3⟩:=OY e2
    refine⟨as,[u1],e,e1,?_⟩
    unfold V.dens V.dens
    refine⟨u1,[],rfl,?_,rfl⟩
    unfold V.den at e3 ⊢
    rw [hs]
    exact e3
theorem ZbO {s:A7 Ty} {pf rf:List Nat} (hp:pf.length≤Ax) (hr:rf.length≤Ax):∀ (cs:List C) {vs:List (V Ty)} {ρ ρ':ET} {x:C.Ds Ty cs},ZbS s cs vs ρ=some (x,ρ')→ρ'.p <+: pf→ρ'.r <+: rf →
  ∀ (m:Mk Ty),m.np=ρ.p.length→m.nr=ρ.r.length→PR s pf rf ρ' m (ZbE cs x m).2∧V.oksB (CT (2*Ax)) (ZbE cs x m).1=true∧∀ (g:GE)(h:Ad)(us:List Value),V.dens g h vs us→V.dens (fun i=>g (JE pf rf i)) h (ZbE cs x m).1 us
 | [],vs,ρ,ρ',x,h,_,_,m,h1,h2=>by
  obtain⟨rfl,rfl⟩:=TX h
  unfold ZbE
  exact⟨⟨h1,h2,fun _ _=>.inl⟩,rfl,fun g h u hu=>hu⟩
 | c::cs,vs,ρ,ρ',x,h,hpp,hrr,m,h1,h2=>by
  obtain⟨y,ys,ρ1,rfl,e1,e2⟩:=Rk h
  obtain⟨b1,b2⟩:=ZbK cs e2
  obtain⟨q1,q2,q3⟩:=Rl hp hr c e1 (b1.trans hpp) (b2.trans hrr) m h1 h2
  obtain⟨r1,r2,r3⟩:=ZbO hp hr cs e2 hpp hrr (IF c x.1 m).2 q1.np q1.nr
  unfold ZbE
  refine⟨q1.trans r1,?_,fun g h us hu=>?_⟩
  · unfold V.oksB; simp only [Zan]; exact⟨q2,r2⟩
  · unfold V.dens at hu ⊢
    obtain⟨u,us',e,h3,h4⟩:=hu
    exact⟨u,us',e,q3 g h u h3,r3 g h us' h4⟩
end
end
end Go.Proofs.YtkpgggfibljflaaGreatDoor
namespace Go.Proofs.YtkpgggfibljflaaGreatDoor
open Go Go.RowKit
open Rep (rep)
section
variable {Ty:Nat→Type} [rT:∀ k,Rep (Ty k)] [RFs] [UM Ty] [UML Ty] {F:Fr} {w:World}
def AE.isRow:AE Ty→Bool
 | .row _ _=>true
 | _=>false
structure Gc (F:Fr) (w:World) (h:Ad) (g:GE) (s:A7 Ty) (n:Nat) (h':Ad) (g':GE) (s':A7 Ty) (n':Nat):Prop where
 le:Ad.le h h'
 g:∀ i,CT n i=true→g' i=g i
 n:n≤n'
 mem:Al F h' g' (AL.get s') w
 is_:JD n' (AL.get s')
 blk:∀ i c,AL.get s i=some c→c.isRow=false→∃ c',AL.get s' i=some c'∧c'.isRow=false
theorem Gc.refl {h:Ad} {g:GE} {s:A7 Ty} {n:Nat} (hm:Al F h g (AL.get s) w) (hi:JD n (AL.get s)):Gc F w h g s n h g s n :=
 ⟨Ad.le_refl _,fun _ _=>rfl,Zas _,hm,hi,fun i c hv hn=>⟨c,hv,hn⟩⟩
theorem Gc.trans {h h1 h2:Ad} {g g1 g2:GE} {s s1 s2:A7 Ty} {n n1 n2:Nat} (a:Gc F w h g s n h1 g1 s1 n1) (b:Gc F w h1 g1 s1 n1 h2 g2 s2 n2):Gc F w h g s n h2 g2 s2 n2 :=
 ⟨Ad.le_trans a.le b.le,fun i hi=>by rw [b.g i (FN a.n i hi),a.g i hi],ZaM a.n b.n,b.mem,b.is_,fun i c hv hn=>by obtain⟨v1,h1,h2⟩:=a.blk i c hv hn; exact b.blk i v1 h1 h2⟩
theorem Gc.den {h h1:Ad} {g g1:GE} {s s1:A7 Ty} {n n1:Nat} (a:Gc F w h g s n h1 g1 s1 n1) {v:V Ty} {u:Value} (hk:v.okB (CT n)=true) (hv:v.den g h u):v.den g1 h1 u:=V.den_mono a.le _ _ (V.den_agree a.g hk hv)
theorem Gc.dens {h h1:Ad} {g g1:GE} {s s1:A7 Ty} {n n1:Nat} (a:Gc F w h g s n h1 g1 s1 n1) {v:List (V Ty)} {u:List Value} (hk:V.oksB (CT n) v=true) (hv:V.dens g h v u):V.dens g1 h1 v u:=V.dens_mono a.le _ _ (V.dens_agree a.g hk hv)
theorem Qw {h:Ad} {g:GE} {s:A7 Ty} {n:Nat} {v:V Ty} {u:Value} (hm:Al F h g (AL.get s) w) (hi:JD n (AL.get s)) (hk:v.okB (CT n)=true) (hv:v.den g h u) :
  ∃ h' g',Gc F w h g s n h' g' (VU v s).2 n∧(VU v s).1.okB (CT n)=true∧(VU v s).1.den g' h' u:=by
 have same:∃ h' g',Gc F w h g s n h' g' s n∧v.okB (CT n)=true∧v.den g' h' u:=⟨h,g,Gc.refl hm hi,hk,hv⟩
 unfold VU
 split
 · rename_i k i
   split
   · rename_i k2 l hg
     cases hb:Nat.beq k2 k with
     | false=>exact same
     | true =>
      have:=Zac hb
      subst this
      simp only [Zab]
      obtain⟨r1,r2⟩:=hm.row hg
      have hdel:AL.get (AL.del s i)=Mo.put (AL.get s) i none:=by
       funext j; rw [AL.get_del]; unfold Mo.put
       by_cases hij:i=j
       · rw [if_pos hij,if_pos hij.symm]
       · rw [if_neg hij,if_neg (fun hh=>hij hh.symm)]
      have hins:JD n (AL.get (AL.del s i)):=fun j c hj=>by
       rw [AL.get_del] at hj
       split at hj
       · cases hj
       · exact hi j c hj
      have hblk:∀ j c,AL.get s j=some c→c.isRow=false→∃ c',AL.get (AL.del s i) j=some c'∧c'.isRow=false:=fun j c hj hn=>by
       refine⟨c,?_,hn⟩
       rw [AL.get_del,if_neg]
       · exact hj
       · intro hh; subst hh; rw [hg] at hj; cases hj; cases hn
      rcases r2 with⟨hnl,hl⟩ | ⟨hnl,us,sp,q1,q2,q3,q4,q5,q6⟩
      · refine⟨h,g,⟨Ad.le_refl _,fun _ _=>rfl,Zas _,hm.less fun j c hj=>?_,hins,hblk⟩,rfl,?_⟩
        · rw [AL.get_del] at hj
          split at hj
          · cases hj
          · exact hj
        · subst hl
          refine ZF ?_
          unfold V.den at hv ⊢
          rw [hnl] at hv
          exact hv
      · obtain⟨h',e1,e2,e3⟩:=hm.settle hg hnl q1 (At.one q2)
        refine⟨h',g,⟨e1,fun _ _=>rfl,Zas _,by rw [hdel]; exact e2,hins,hblk⟩,rfl,?_⟩
        unfold V.den at hv ⊢
        rw [hnl] at hv
        refine⟨some ⟨(g i).b,0,none⟩,(g i).c,by rw [r1]; exact hv,us,q2.mono e1,fun o x hx=>⟨_,rfl,rfl,?_⟩,by omega⟩
        rw [Zaw]
        exact e3 o x hx
   · exact same
 · exact same
theorem K8 {n:Nat}:∀ {vs:List (V Ty)} {h:Ad} {g:GE} {s:A7 Ty} {us:List Value},Al F h g (AL.get s) w→JD n (AL.get s)→V.oksB (CT n) vs=true→V.dens g h vs us →
  ∃ h' g',Gc F w h g s n h' g' (MS vs s).2 n∧V.oksB (CT n) (MS vs s).1=true∧V.dens g' h' (MS vs s).1 us
 | [],h,g,s,us,hm,hi,hk,hv=>⟨h,g,Gc.refl hm hi,hk,hv⟩
 | v::r,h,g,s,us,hm,hi,hk,hv=>by
  unfold V.oksB at hk
  obtain⟨k1,k2⟩:=As hk
  unfold V.dens at hv
  obtain⟨u,us',rfl,v1,v2⟩:=hv
  obtain⟨h1,g1,a,a2,a3⟩:=Qw hm hi k1 v1
  obtain⟨h2,g2,b,b2,b3⟩:=K8 (vs:=r) a.mem a.is_ k2 (a.dens k2 v2)
  unfold MS
  refine⟨h2,g2,a.trans b,?_,?_⟩
  · show(V.okB (CT n) (VU v s).1 && V.oksB (CT n) (MS r (VU v s).2).1)=true
    rw [a2,b2]; rfl
  · show V.dens g2 h2 (_::_) _
    unfold V.dens
    exact⟨u,us',rfl,b.den a2 a3,b3⟩
def Rm (F:Fr) (w:World) (f:V Ty→A7 Ty→Nat→V Ty×A7 Ty×Nat):Prop:=∀ (v:V Ty)(h:Ad)(g:GE)(s:A7 Ty)(n:Nat)(u:Value),Al F h g (AL.get s) w→JD n (AL.get s)→v.okB (CT n)=true→v.den g h u →
 ∃ h' g',Gc F w h g s n h' g' (f v s n).2.1 (f v s n).2.2∧(f v s n).1.okB (CT (f v s n).2.2)=true∧(f v s n).1.den g' h' u
def Qx (F:Fr) (w:World) (f:List (V Ty)→A7 Ty→Nat→List (V Ty)×A7 Ty×Nat):Prop:=∀ (v:List (V Ty))(h:Ad)(g:GE)(s:A7 Ty)(n:Nat)(u:List Value),Al F h g (AL.get s) w→JD n (AL.get s)→V.oksB (CT n) v=true→V.dens g h v u →
 ∃ h' g',Gc F w h g s n h' g' (f v s n).2.1 (f v s n).2.2∧V.oksB (CT (f v s n).2.2) (f v s n).1=true∧V.dens g' h' (f v s n).1 u
theorem Agb:Rm F w (fun(v:V Ty) s n=>(v,s,n)):=fun v h g s n u hm hi hk hv=>⟨h,g,Gc.refl hm hi,hk,hv⟩
theorem Agc:Rm F w (Aiu (Ty:=Ty)):=fun v h g s n u hm hi hk hv=>Qw hm hi hk hv
theorem Agd:Rm F w (AfG (Ty:=Ty)):=fun v h g s n u hm hi hk hv=>by
 unfold AfG
 split
 · rename_i cs
   unfold V.den at hv
   unfold V.okB at hk
   obtain⟨us,e,hus⟩:=hv
   obtain⟨h',g',a,a2,a3⟩:=K8 hm hi hk hus
   refine⟨h',g',a,?_,?_⟩
   · show V.okB _ (.agg _)=true
     unfold V.okB; exact a2
   · show V.den g' h' (.agg _) u
     unfold V.den; exact⟨us,e,a3⟩
 · exact⟨h,g,Gc.refl hm hi,hk,hv⟩
theorem Age (k:Nat):Rm F w (AfH (Ty:=Ty) k):=fun v h g s n u hm hi hk hv=>by
 unfold AfH
 split
 · have hnn:AL.get s n=none:=by
    cases hc:AL.get s n with
    | none=>rfl
    | some c=>have:=Ap.1 (hi n c hc).1; omega
   let g':GE:=fun i=>if i=n then⟨0,0,0,true⟩ else g i
   have hg:∀ i,CT n i=true→g' i=g i:=fun i hin=>by
    have:=Ap.1 hin
    show(if i=n then _ else g i)=g i
    rw [if_neg (by omega)]
   have hgn:g' n=⟨0,0,0,true⟩:=by show(if n=n then _ else g n)=_; rw [if_pos rfl]
   have hput:AL.get (AL.put s n (.row k []))=Mo.put (AL.get s) n (some (.row k [])):=by
    funext j; rw [AL.get_put]; unfold Mo.put
    by_cases hij:n=j
    · rw [if_pos hij,if_pos hij.symm]
    · rw [if_neg hij,if_neg (fun hh=>hij hh.symm)]
   refine⟨h,g',⟨Ad.le_refl _,hg,Nat.le_succ n,?_,fun j c hj=>?_,fun j c hj hn=>⟨c,?_,hn⟩⟩,?_,?_⟩
   · show Al F h g' (AL.get (AL.put s n (.row k []))) w
     rw [hput]
     refine(hm.agree hg hi).newC hnn ?_ (fun hh=>by rw [hgn] at hh; cases hh)
     rw [hgn]
     exact⟨rfl,rfl⟩
   · replace hj:AL.get (AL.put s n (.row k [])) j=some c:=hj
     rw [AL.get_put] at hj
     split at hj
     · rename_i hh; subst hh; cases hj; exact⟨Ap.2 (Zbr _),rfl⟩
     · have:=hi j c hj
       exact⟨FN (Nat.le_succ n) _ this.1,AE.okB_imp (FN (Nat.le_succ n)) this.2⟩
   · show AL.get (AL.put s n (.row k [])) j=_
     rw [AL.get_put,if_neg]
     · exact hj
     · intro hh; subst hh; rw [hnn] at hj; cases hj
   · show V.okB _ (.hdr k n)=true
     unfold V.okB
     exact Ap.2 (Zbr _)
   · show V.den g' h (.hdr k n) u
     unfold V.den at hv ⊢
     rw [hgn]
     exact hv
 · exact⟨h,g,Gc.refl hm hi,hk,hv⟩
theorem ZG {f:List (V Ty)→A7 Ty→Nat→List (V Ty)×A7 Ty×Nat} (hf:Qx F w f) {mk:List (V Ty)→AE Ty} (hrow:∀ vs,(mk vs).isRow=false) (hok0:∀ p vs,(mk vs).okB p=V.oksB p vs)
  (hmk:∀ (h:Ad)(g:GE)(a:GA)(vs:List (V Ty)),BU h g a w (mk vs)→∃ us,V.dens g h vs us∧∀ (h':Ad)(g':GE)(vs':List (V Ty)),V.dens g' h' vs' us→BU h' g' a w (mk vs'))
  {h:Ad} {g:GE} {s:A7 Ty} {n i:Nat} {v:V Ty} {u:Value} {vs:List (V Ty)} (hm:Al F h g (AL.get s) w) (hi:JD n (AL.get s)) (hk:v.okB (CT n)=true) (hv:v.den g h u) (hg:AL.get s i=some (mk vs)) :
  ∃ h' g',Gc F w h g s n h' g' (AL.put (f vs s n).2.1 i (mk (f vs s n).1)) (f vs s n).2.2∧v.okB (CT (f vs s n).2.2)=true∧v.den g' h' u:=by
 obtain⟨hin,hok⟩:=hi _ _ hg
 rw [hok0] at hok
 obtain⟨us,c2,cmk⟩:=hmk h g (g i) vs (hm.cell _ _ hg)
 obtain⟨h',g',a,a2,a3⟩:=hf vs h g s n us hm hi hok c2
 obtain⟨vs1,hv1,_⟩:=a.blk _ _ hg (hrow vs)
 have hgi:=a.g i hin
 have hput:AL.get (AL.put (f vs s n).2.1 i (mk (f vs s n).1))=Mo.put (AL.get (f vs s n).2.1) i (some (mk (f vs s n).1)):=by
  funext j; rw [AL.get_put]; unfold Mo.put
  by_cases hij:i=j
  · rw [if_pos hij,if_pos hij.symm]
  · rw [if_neg hij,if_neg (fun hh=>hij hh.symm)]
 have hcn:BU h' g' (g' i) w (mk (f vs s n).1):=by rw [hgi]; exact cmk _ _ _ a3
 refine⟨h',g',⟨a.le,a.g,a.n,?_,fun j c hj=>?_,fun j ws hj hn=>?_⟩,?_,?_⟩
 · rw [hput]
   refine⟨a.mem.below,a.mem.le,a.mem.old,a.mem.has,fun j c hj=>?_,fun j c hj=>?_,fun j1 j2 d1 d2 hj1 hj2=>?_,a.mem.ext,a.mem.glo⟩
   · unfold Mo.put at hj
     split at hj
     · rename_i hh; subst hh; cases hj; exact hcn
     · exact a.mem.cell j c hj
   · unfold Mo.put at hj
     split at hj
     · rename_i hh; subst hh; exact a.mem.own _ _ hv1
     · exact a.mem.own j c hj
   · have old:∀ {j d},Mo.put (AL.get (f vs s n).2.1) i (some (mk (f vs s n).1)) j=some d→∃ d',AL.get (f vs s n).2.1 j=some d':=fun {j d} hj=>by
      unfold Mo.put at hj
      split at hj
      · rename_i hh; subst hh; exact⟨_,hv1⟩
      · exact⟨_,hj⟩
     obtain⟨e1,p1⟩:=old hj1
     obtain⟨e2,p2⟩:=old hj2
     exact a.mem.inj j1 j2 e1 e2 p1 p2
 · rw [AL.get_put] at hj
   split at hj
   · rename_i hh; subst hh; cases hj; exact⟨FN a.n _ hin,by rw [hok0]; exact a2⟩
   · exact a.is_ j c hj
 · rw [AL.get_put]
   split
   · exact⟨_,rfl,hrow _⟩
   · exact a.blk j ws hj hn
 · exact V.okB_imp (FN a.n) _ hk
 · exact a.den hk hv
theorem ZH {f:List (V Ty)→A7 Ty→Nat→List (V Ty)×A7 Ty×Nat} (hf:Qx F w f):Rm F w (Ac1 f):=fun v h g s n u hm hi hk hv=>by
 unfold Ac1
 split
 · rename_i i off
   split
   · rename_i tb vs hg
     exact ZG hf (mk:=.blk tb) (fun _=>rfl) (fun _ _=>rfl) (fun h g a vs hc=>by
      obtain⟨c0,us,T,c1,c2,c3⟩:=hc
      exact⟨us,c2,fun _ _ vs' hd=>⟨c0,us,T,c1,hd,c3⟩⟩) hm hi hk hv hg
   · exact⟨h,g,Gc.refl hm hi,hk,hv⟩
 · exact⟨h,g,Gc.refl hm hi,hk,hv⟩
theorem Agf {f:List (V Ty)→A7 Ty→Nat→List (V Ty)×A7 Ty×Nat} (hf:Qx F w f):Rm F w (AfI f):=fun v h g s n u hm hi hk hv=>by
 unfold AfI
 split
 · rename_i q i
   split
   · rename_i st e tag ks vs hg
     exact ZG hf (mk:=.lp st e tag ks) (fun _=>rfl) (fun _ _=>rfl) (fun h g a vs hc=>by
      obtain⟨h0,r,c1,c2,c3,c4,c5,c6,c7,c8,us,c9,c10⟩:=hc
      exact⟨us,c9,fun _ _ vs' hd=>⟨h0,r,c1,c2,c3,c4,c5,c6,c7,by rw [c8,← V.dens_len c9,V.dens_len hd],us,hd,c10⟩⟩) hm hi hk hv hg
   · exact⟨h,g,Gc.refl hm hi,hk,hv⟩
 · exact⟨h,g,Gc.refl hm hi,hk,hv⟩
theorem Agg {f:List (V Ty)→A7 Ty→Nat→List (V Ty)×A7 Ty×Nat} (hf:Qx F w f):Rm F w (AfJ f):=fun v h g s n u hm hi hk hv=>by
 unfold AfJ
 split
 · rename_i cs
   unfold V.den at hv
   unfold V.okB at hk
   obtain⟨us,e,hus⟩:=hv
   obtain⟨h',g',a,a2,a3⟩:=hf cs h g s n us hm hi hk hus
   refine⟨h',g',a,?_,?_⟩
   · show V.okB _ (.tup _)=true
     unfold V.okB; exact a2
   · show V.den g' h' (.tup _) u
     unfold V.den; exact⟨us,e,a3⟩
 · exact⟨h,g,Gc.refl hm hi,hk,hv⟩
theorem Agh:Qx F w (Aiv (Ty:=Ty)):=fun v h g s n u hm hi hk hv=>K8 hm hi hk hv
mutual
theorem Agi:∀ c:C,Rm F w (LW (Ty:=Ty) c)
 | .l _=>fun v h g s n u=>by unfold LW; exact Agc v h g s n u
 | .g _=>fun v h g s n u=>by unfold LW; exact Agd v h g s n u
 | .o k=>fun v h g s n u=>by unfold LW; exact Age k v h g s n u
 | .p _ cs=>fun v h g s n u=>by unfold LW; exact ZH (Zdc cs) v h g s n u
 | .u _=>fun v h g s n u=>by unfold LW; exact ZH Agh v h g s n u
 | .t cs=>fun v h g s n u=>by unfold LW; exact Agg (Zdc cs) v h g s n u
 | .y _ _ _ cs=>fun v h g s n u=>by unfold LW; exact Agf (Zdc cs) v h g s n u
 | .s _ | .v _ | .a _ | .q _ | .f _ _ _ | .z | .n | .i _ _ | .m _ _ | .r _ _=>fun v h g s n u=>by unfold LW; exact Agb v h g s n u
theorem Zdc:∀ cs:List C,Qx F w (ZcD (Ty:=Ty) cs)
 | []=>fun v h g s n u hm hi hk hv=>⟨h,g,Gc.refl hm hi,hk,hv⟩
 | c::cs=>fun vs h g s n us hm hi hk hv=>by
  cases vs with
  | nil=>exact⟨h,g,Gc.refl hm hi,hk,hv⟩
  | cons v r =>
   unfold V.oksB at hk
   obtain⟨k1,k2⟩:=As hk
   unfold V.dens at hv
   obtain⟨u,us',rfl,v1,v2⟩:=hv
   obtain⟨h1,g1,a,a2,a3⟩:=Agi c v h g s n u hm hi k1 v1
   have k2':V.oksB (CT (LW c v s n).2.2) r=true:=V.oksB_iff.2 fun x hx=>V.okB_imp (FN a.n) _ (V.oksB_iff.1 k2 x hx)
   obtain⟨h2,g2,b,b2,b3⟩:=Zdc cs r h1 g1 _ _ us' a.mem a.is_ k2' (a.dens k2 v2)
   unfold ZcD
   refine⟨h2,g2,a.trans b,?_,?_⟩
   · show(_ && _)=true
     rw [b2,V.okB_imp (FN b.n) _ a2]; rfl
   · show V.dens g2 h2 (_::_) _
     unfold V.dens
     exact⟨u,us',rfl,b.den a2 a3,b3⟩
end
end
end Go.Proofs.YtkpgggfibljflaaGreatDoor
namespace Go.Proofs.YtkpgggfibljflaaGreatDoor
open Go Go.RowKit
open Rep (rep)
theorem LY:∀ (l m:List Nat)(j:Nat),Be (l++m) (l.length+j)=Be m j
 | [],m,j=>by simp
 | a::l,m,j=>by
  rw [ZaQ,Zau,show l.length+1+j=(l.length+j)+1 from by omega]
  exact LY l m j
theorem Wk {n:Nat}:∀ {r:List Nat},Wg n r=true→∀ i∈r,i<n
 | [],_,i,hi=>by cases hi
 | j::r,h,i,hi=>by
  unfold Wg at h
  simp only [Zan] at h
  rcases Zam.1 hi with rfl | hi
  · exact Zah h.1
  · exact Wk h.2 i hi
theorem AhP {pf rf:List Nat} (hn:(pf++rf).Nodup) (hp:pf.length≤Ax) {i j:Nat} (hi:Wi pf rf i) (hj:Wi pf rf j) (h:JE pf rf i=JE pf rf j):i=j:=by
 have key:∀ {i},Wi pf rf i→∃ q,q<(pf++rf).length∧JE pf rf i=Be (pf++rf) q∧((i<pf.length∧q=i)∨(Ax≤i∧q=pf.length+(i-Ax))):=fun {i} hi=>by
  rcases hi with hi | ⟨h1,h2⟩
  · exact⟨i,by rw [Zaj]; omega,by rw [Hx (by omega),Pe (Zb6 pf rf) hi],.inl ⟨hi,rfl⟩⟩
  · refine⟨pf.length+(i-Ax),by rw [Zaj]; omega,?_,.inr ⟨h1,rfl⟩⟩
    rw [LY]
    have:=Xp (pf:=pf) (rf:=rf) (i:=i-Ax)
    rwa [show Ax+(i-Ax)=i from by omega] at this
 obtain⟨a,a1,a2,a3⟩:=key hi
 obtain⟨b,b1,b2,b3⟩:=key hj
 rw [a2,b2] at h
 have e:=FZ hn a1
 rw [h,FZ hn b1] at e
 rcases a3 with⟨a3,a4⟩ | ⟨a3,a4⟩ <;> rcases b3 with⟨b3,b4⟩ | ⟨b3,b4⟩ <;> omega
section
variable {Ty:Nat→Type} [rT:∀ k,Rep (Ty k)] [RFs] [UM Ty] [UML Ty] {F:Fr} {h:Ad} {g:GE} {w:World}
theorem AL.get_mem {α:Type}:∀ {l:List (Nat×α)} {k:Nat} {x:α},AL.get l k=some x→(k,x)∈l
 | [],_,_,h=>by cases h
 | (j,v)::r,k,x,h=>by
  have h2:(bif Nat.beq j k then some v else AL.get r k)=some x:=h
  cases hb:Nat.beq j k with
  | true =>
   rw [hb] at h2
   cases h2
   rw [Zac hb]
   exact List.mem_cons_self
  | false=>rw [hb] at h2; exact ZaR _ (AL.get_mem h2)
theorem Al.canon {s t:A7 Ty} {M:Mo Ty} {pf rf:List Nat} (hm:Al F h g M w) (hn:(pf++rf).Nodup) (hp:pf.length≤Ax) (hr:rf.length≤Ax) (ht:∀ j d,(j,d)∈t→Wj s pf rf j d) (hM:∀ j,Wi pf rf j→M (JE pf rf j)=AL.get s (JE pf rf j)) :
  Al F h (fun i=>g (JE pf rf i)) (AL.get t) w∧JD (2*Ax) (AL.get t):=by
 have get:∀ {j d},AL.get t j=some d→Wj s pf rf j d:=fun {j d} hj=>ht j d (AL.get_mem hj)
 refine⟨⟨hm.below,hm.le,hm.old,hm.has,fun j d hj=>?_,fun j d hj hnl=>?_,fun i j c d hi hj h1 h2 hb=>?_,hm.ext,hm.glo⟩,fun j d hj=>?_⟩
 · obtain⟨k1,_,c0,q1,q2⟩:=get hj
   exact q2 h g _ w (hm.cell _ _ ((hM j k1).trans q1))
 · obtain⟨k1,_,c0,q1,q2⟩:=get hj
   exact hm.own _ _ ((hM j k1).trans q1) hnl
 · obtain⟨k1,_,c0,q1,_⟩:=get hi
   obtain⟨k2,_,d0,q2,_⟩:=get hj
   exact AhP hn hp k1 k2 (hm.inj _ _ _ _ ((hM i k1).trans q1) ((hM j k2).trans q2) h1 h2 hb)
 · obtain⟨k1,k2,_⟩:=get hj
   refine⟨Ap.2 ?_,k2⟩
   rcases k1 with k1 | ⟨_,k1⟩ <;> omega
variable [UV Ty] [UL Ty]
structure Akv (F:Fr) (w:World) (h:Ad) (g:GE) (s:A7 Ty) (n:Nat) (us:List Value) (h':Ad) (g':GE) (ρ:ET) (vs':List (V Ty)) (s':A7 Ty) (n':Nat) (vc:List (V Ty)) (m:Mk Ty):Prop where
 pre:Gc F w h g s n h' g' s' n'
 ok:V.oksB (CT n') vs' = true
 den:V.dens g' h' vs' us
 nodup:(ρ.p++ρ.r).Nodup
 lp:ρ.p.length≤Ax
 lr:ρ.r.length≤Ax
 lt:∀ i∈ρ.p++ρ.r,i<n'
 mem:Al F h' (fun i=>g' (JE ρ.p ρ.r i)) (AL.get m.s) w
 ins:JD (2*Ax) (AL.get m.s)
 np:m.np=ρ.p.length
 nr:m.nr=ρ.r.length
 okc:V.oksB (CT (2*Ax)) vc=true
 denc:V.dens (fun i=>g' (JE ρ.p ρ.r i)) h' vc us
 cells:∀ j d,(j,d)∈m.s→Wj s' ρ.p ρ.r j d
theorem DC {cs:List C} {vs vs':List (V Ty)} {s s':A7 Ty} {n n':Nat} {x:C.Ds Ty cs} {ρ:ET} {us:List Value} (ht:Jj cs vs s n=some (x,ρ,vs',s',n')) (hm:Al F h g (AL.get s) w) (hi:JD n (AL.get s)) (hk:V.oksB (CT n) vs=true) (hv:V.dens g h vs us) :
  ∃ h' g',Akv F w h g s n us h' g' ρ vs' s' n' (ZbE cs x ⟨0,0,[]⟩).1 (ZbE cs x ⟨0,0,[]⟩).2:=by
 obtain⟨h',g',a,a2,a3⟩:=Zdc cs vs h g s n us hm hi hk hv
 unfold Jj at ht
 generalize hpp:ZcD cs vs s n=r at ht a a2 a3
 obtain⟨v1,s1,n1⟩:=r
 simp only at ht a a2 a3
 split at ht
 · rename_i x1 ρ1 hpk
   cases hb:(HQ (ρ1.p++ρ1.r) && Nat.ble (Bm ρ1.p) Ax && Nat.ble (Bm ρ1.r) Ax && Wg n1 (ρ1.p++ρ1.r)) with
   | false=>rw [hb] at ht; cases ht
   | true =>
    rw [hb,Zab] at ht
    cases ht
    obtain⟨hb,b4⟩:=As hb
    obtain⟨hb,b3⟩:=As hb
    obtain⟨b1,b2⟩:=As hb
    have b1:=GI b1
    have b2:ρ.p.length≤Ax:=by rw [← AC]; exact Zah b2
    have b3:ρ.r.length≤Ax:=by rw [← AC]; exact Zah b3
    obtain⟨q1,q2,q3⟩:=ZbO b2 b3 cs hpk (ZaE _) (ZaE _) ⟨0,0,[]⟩ rfl rfl
    have hc:∀ j d,(j,d)∈(ZbE cs x ⟨0,0,[]⟩).2.s→Wj s' ρ.p ρ.r j d:=fun j d hd=>(q1.cells j d hd).elim (fun hh=>by cases hh) id
    obtain⟨c1,c2⟩:=a.mem.canon b1 b2 b3 hc (fun _ _=>rfl)
    exact⟨h',g',a,a2,a3,b1,b2,b3,Wk b4,c1,c2,q1.np,q1.nr,q2,q3 g' h' us a3,hc⟩
 · cases ht
end
theorem IH {α:Type}:∀ (n:Nat)(l:List α),Pc n l=l.drop n
 | 0,l=>rfl
 | _+1,[]=>by simp [Pc]
 | n+1,_::l=>by unfold Pc; rw [IH n l]; rfl
section
variable {Ty:Nat→Type}
theorem Xq:∀ (a b:List (V Ty)),AfZ a b=a++b
 | [],b=>rfl
 | x::a,b=>by unfold AfZ; rw [Xq a b]; rfl
variable [rT:∀ k,Rep (Ty k)] [RFs] [UM Ty] [UML Ty] {F:Fr} {h:Ad} {g:GE} {w:World} {t:Array Value}
def K9 (t:Array Value):List (Nat×C)→List Value→Prop
 | [],_=>True
 | (k,_)::r,us=>∃ u us',us=u::us'∧t[k]? = some u∧K9 t r us'
theorem K9.app:∀ {sl:List (Nat×C)} {us:List Value} (ws:List Value),K9 t sl us→K9 t sl (us++ws)
 | [],_,_,_=>trivial
 | (k,_)::r,us,ws,hs=>by
  obtain⟨u,us',rfl,h1,h2⟩:=hs
  exact⟨u,us'++ws,rfl,h1,h2.app ws⟩
theorem GM {p:Nat→Bool} {m:List (Nat×V Ty)} (hk:P3 g h m t) (hi:Tq p m):∀ {sl:List (Nat×C)} {vs:List (V Ty)},Qt m sl=some vs→V.oksB p vs=true∧vs.length=sl.length∧∃ us,V.dens g h vs us∧K9 t sl us
 | [],vs,hh=>by cases hh; exact⟨rfl,rfl,[],rfl,trivial⟩
 | (k,c)::r,vs,hh=>by
  unfold Qt at hh
  split at hh
  · rename_i v hv
    split at hh
    · rename_i ws hws
      cases hh
      obtain⟨h1,h2,us,h3,h4⟩:=GM hk hi hws
      obtain⟨u,q1,q2⟩:=hk k v hv
      refine⟨?_,by simp [h2],u::us,?_,u,us,rfl,q1,h4⟩
      · unfold V.oksB; rw [hi k v hv,h1]; rfl
      · unfold V.dens; exact⟨u,us,rfl,q2,h3⟩
    · cases hh
  · cases hh
theorem Hy:∀ {sl:List (Nat×C)} {vs:List (V Ty)} {us:List Value},K9 t sl us→V.dens g h vs us→P3 g h (Hw sl vs) t
 | [],vs,us,_,_=>fun k v hv=>by unfold Hw at hv; cases hv
 | (j,c)::r,[],us,_,_=>fun k v hv=>by unfold Hw at hv; cases hv
 | (j,c)::r,v::vs,us,hs,hd=>fun k x hx=>by
  obtain⟨u,us',rfl,q1,q2⟩:=hs
  unfold V.dens at hd
  obtain⟨u2,us2,e,d1,d2⟩:=hd
  cases e
  have h2:(bif Nat.beq j k then some v else AL.get (Hw r vs) k)=some x:=hx
  cases hb:Nat.beq j k with
  | true =>
   rw [hb] at h2
   cases h2
   rw [← Zac hb]
   exact⟨u,q1,d1⟩
  | false=>rw [hb] at h2; exact Hy q2 d2 k x h2
omit rT in
theorem Hz {p:Nat→Bool}:∀ {sl:List (Nat×C)} {vs:List (V Ty)},V.oksB p vs=true→Tq p (Hw sl vs)
 | [],vs,_=>fun k v hv=>by unfold Hw at hv; cases hv
 | (j,c)::r,[],_=>fun k v hv=>by unfold Hw at hv; cases hv
 | (j,c)::r,v::vs,ho=>fun k x hx=>by
  unfold V.oksB at ho
  obtain⟨o1,o2⟩:=As ho
  have h2:(bif Nat.beq j k then some v else AL.get (Hw r vs) k)=some x:=hx
  cases hb:Nat.beq j k with
  | true=>rw [hb] at h2; cases h2; exact o1
  | false=>rw [hb] at h2; exact Hz o2 k x h2
theorem Agj (c:C) (j:Nat):∃ u,(AfY (Ty:=Ty) c j).den g h u:=by
 unfold AfY
 split
 · exact⟨_,by unfold V.den; rfl⟩
 · refine⟨.func (.yield (g j).b) #[] #[],?_⟩
   unfold V.den V.dens V.dens
   refine⟨[],[.map (some (g j).b)],?_,rfl,_,[],rfl,by unfold V.den; rfl,rfl⟩
   unfold Ad6; rw [if_pos rfl]
 · exact⟨_,by unfold V.den; rfl⟩
theorem ZI:∀ (cs:List C)(j:Nat),∃ us,V.dens g h (Xo (Ty:=Ty) j cs) us∧us.length=cs.length
 | [],j=>⟨[],by unfold Xo V.dens; rfl,rfl⟩
 | c::cs,j=>by
  obtain⟨us,h1,h2⟩:=ZI cs (j+1)
  obtain⟨u,h3⟩:=Agj (Ty:=Ty) (g:=g) (h:=h) c j
  refine⟨u::us,?_,by simp [h2]⟩
  unfold Xo V.dens
  exact⟨u,us,rfl,h3,h1⟩
omit rT [RFs] [UM Ty] [UML Ty] in
theorem AhQ {p:Nat→Bool} (c:C) {j:Nat} (hj:p j=true):(AfY (Ty:=Ty) c j).okB p=true:=by
 unfold AfY
 split
 · exact hj
 · show(true && (p j && true))=true
   rw [hj]; rfl
 · exact hj
omit rT [RFs] [UM Ty] [UML Ty] in
theorem Ac2 {p:Nat→Bool}:∀ (cs:List C)(j:Nat),(∀ i,j≤i→i<j+cs.length→p i=true)→V.oksB p (Xo (Ty:=Ty) j cs)=true
 | [],j,_=>rfl
 | c::cs,j,hp=>by
  unfold Xo V.oksB
  rw [AhQ c (hp j (Zas _) (by simp)),Ac2 cs (j+1) fun i h1 h2=>hp i (by omega) (by simp only [Zau]; omega)]
  rfl
theorem V.oksB_app {p:Nat→Bool} {xs ys:List (V Ty)} (hx:V.oksB p xs=true) (hy:V.oksB p ys=true):V.oksB p (xs++ys)=true:=V.oksB_append hx hy
variable [UV Ty] [UL Ty] {N:Nat} {Q:Exit→Act→World→Prop} {d:List Deferred}
theorem Xr {kp:Nat} {pf rf:List Nat} (hp:Tj kp pf=true) (hl:pf.length≤Ax) {i:Nat} (hi:i<kp):JE pf rf i=i:=by
 obtain⟨h1,h2⟩:=K2 hp
 rw [Hx (by omega),h2 i hi]
theorem Jk {kp:Nat} {e:Wo} {st:St Ty} {rv:List (V Ty)} {x:C.Ds Ty e.all} {rus:List Value} (hx:IG kp e rv st=some x) (hs:RS N F h g st.nx st.m st.s t w) (hkp:kp≤st.nx) (hrus:V.dens g h rv rus) (hrok:V.oksB (CT st.nx) rv=true) :
  ∃ (h':Ad)(gc:GE),Ad.le h h'∧(∀ i,i<kp→gc i=g i)∧kp≤Ax∧RS N F h' gc (2*Ax) (Qu e x).st.m (Qu e x).st.s t w ∧
   V.dens gc h' ((ZbE e.all x ⟨0,0,[]⟩).1.drop (e.ps.length+e.sl.length)) rus∧V.oksB (CT (2*Ax)) ((ZbE e.all x ⟨0,0,[]⟩).1.drop (e.ps.length+e.sl.length))=true:=by
 unfold IG at hx
 cases hlen:Nat.beq (Bm e.ps) kp with
 | false=>rw [hlen] at hx; cases hx
 | true =>
  rw [hlen,Zab] at hx
  have hlen:e.ps.length=kp:=by rw [← AC]; exact Zac hlen
  split at hx
  · rename_i vs hvs
    split at hx
    · rename_i x1 ρ rest ht
      obtain⟨vs',s',n'⟩:=rest
      cases hpre:Tj kp ρ.p with
      | false=>rw [hpre] at hx; cases hx
      | true =>
       rw [hpre,Zab] at hx
       cases hx
       rw [Xq,Xq] at ht
       obtain⟨a1,a2,sus,a3,a4⟩:=GM hs.kn hs.im hvs
       obtain⟨pus,b1,b2⟩:=ZI (Ty:=Ty) (g:=g) (h:=h) e.ps 0
       have hok:V.oksB (CT st.nx) (Xo 0 e.ps++(vs++rv))=true:=V.oksB_app (Ac2 e.ps 0 fun i _ hi=>Ap.2 (by omega)) (V.oksB_app a1 hrok)
       have hden:V.dens g h (Xo 0 e.ps++(vs++rv)) (pus++(sus++rus)):=V.dens_append b1 (V.dens_append a3 hrus)
       obtain⟨h',g',T⟩:=DC ht hs.mem hs.is_ hok hden
       have hsus:sus.length=e.sl.length:=by rw [V.dens_len a3,a2]
       have hd1:V.dens (fun i=>g' (JE ρ.p ρ.r i)) h' ((ZbE e.all x ⟨0,0,[]⟩).1.drop e.ps.length) (sus++rus):=by
        have:=V.dens_drop e.ps.length T.denc
        rwa [Zba (by omega),List.drop_of_length_le (l:=pus) (by omega),Zax] at this
       have hd2:V.dens (fun i=>g' (JE ρ.p ρ.r i)) h' (((ZbE e.all x ⟨0,0,[]⟩).1.drop e.ps.length).drop e.sl.length) rus:=by
        have:=V.dens_drop e.sl.length hd1
        rwa [Zba (by omega),List.drop_of_length_le (l:=sus) (by omega),Zax] at this
       have ho1:=V.oksB_drop e.ps.length T.okc
       have hkl:=(K2 hpre).1
       have lp:=T.lp
       refine⟨h',fun i=>g' (JE ρ.p ρ.r i),T.pre.le,fun i hi=>?_,by omega,⟨hs.size,?_,T.mem,?_,T.ins⟩,by rw [← List.drop_drop]; exact hd2,V.oksB_drop _ T.okc⟩
       · show g' (JE ρ.p ρ.r i)=_
         rw [Xr hpre T.lp hi]; exact T.pre.g i (Ap.2 (by omega))
       · show P3 _ h' (Hw e.sl (Pc (Bm e.ps) (ZbE e.all x ⟨0,0,[]⟩).1)) t
         rw [IH,AC]
         exact Hy (a4.app rus) hd1
       · show Tq _ (Hw e.sl (Pc (Bm e.ps) (ZbE e.all x ⟨0,0,[]⟩).1))
         rw [IH,AC]
         exact Hz ho1
    · cases hx
  · cases hx
theorem Pf {kp:Nat} {e:Wo} {lf:Lf Ty} {x:C.Ds Ty e.all} {h0:Ad} {g0:GE} (hx:IG kp e (Vc lf.e) lf.st=some x) (hk:e.k.is lf.e=true) (hs:RS N F h g lf.st.nx lf.st.m lf.st.s t w) (hkp:kp≤lf.st.nx)
  (hK:AfD N F h0 g0 kp Q d (Qu e x)) (hle:Ad.le h0 h) (hg:∀ i,i<kp→g i=g0 i):AdJ Q g h lf.st.nx ⟨t,d⟩ w lf.e:=by
 have main:∀ rus,V.dens g h (Vc lf.e) rus→V.oksB (CT lf.st.nx) (Vc lf.e)=true→∃ (h':Ad)(gc:GE)(vc:List (V Ty)),V.dens gc h' vc rus∧V.oksB (CT (2*Ax)) vc=true∧AdJ Q gc h' (2*Ax) ⟨t,d⟩ w (e.k.ext vc):=by
  intro rus hrus hrok
  obtain⟨h',gc,r1,r2,r3,r4,r5,r6⟩:=Jk hx hs hkp hrus hrok
  refine⟨h',gc,_,r5,r6,?_⟩
  have:=hK F d h' gc t w (FD.refl F d) (Ad.le_trans hle r1) (fun i hi=>by rw [r2 i hi,hg i hi]) (by show kp≤2*Ax; omega) r4
  have e1:(Qu e x).e=e.k.ext ((ZbE e.all x ⟨0,0,[]⟩).1.drop (e.ps.length+e.sl.length)):=by
   rw [← List.drop_drop]
   unfold Qu; simp only [IH,AC]
  rw [e1] at this
  exact this
 cases hle':lf.e with
 | normal =>
  rw [hle'] at hk main
  obtain⟨h',gc,vc,m1,m2,m3⟩:=main [] (by unfold Vc V.dens; rfl) rfl
  cases hek:e.k <;> rw [hek] at hk m3 <;> first | (cases hk; done) | exact m3
 | exit i =>
  rw [hle'] at hk main
  obtain⟨h',gc,vc,m1,m2,m3⟩:=main [] (by unfold Vc V.dens; rfl) rfl
  cases hek:e.k <;> rw [hek] at hk m3 <;> first | (cases hk; done) | skip
  have:=Zac hk
  subst this
  exact m3
 | ret =>
  rw [hle'] at hk main
  obtain⟨h',gc,vc,m1,m2,m3⟩:=main [] (by unfold Vc V.dens; rfl) rfl
  cases hek:e.k <;> rw [hek] at hk m3 <;> first | (cases hk; done) | exact m3
 | pan v =>
  intro u hu hok
  rw [hle'] at hk main
  obtain⟨h',gc,vc,m1,m2,m3⟩:=main [u] (by unfold Vc V.dens; exact⟨u,[],rfl,hu,by unfold V.dens; rfl⟩) (by unfold Vc V.oksB; rw [hok]; rfl)
  cases hek:e.k <;> rw [hek] at hk m3 <;> first | (cases hk; done) | skip
  have hl:=V.dens_len m1
  match vc,m1,m2,m3,hl with
  | [v'],m1,m2,m3,_ =>
   unfold V.dens at m1
   obtain⟨u',us',e1,e2,_⟩:=m1
   cases e1
   unfold V.oksB at m2
   exact m3 u e2 (As m2).1
  | [],_,_,_,hl=>simp at hl
  | _::_::_,_,_,_,hl=>simp at hl
def YK (K:Lf Ty→Prop):(es:List Wo)→YT Ty es→Prop
 | [],_=>True
 | e::es,y=>match es,y with
  | [],y=>K (Qu e y)
  | _::_,.inl a=>K (Qu e a)
  | e2::es2,.inr b=>YK K (e2::es2) b
theorem YK.imp {K K':Lf Ty→Prop} (H:∀ l,K l→K' l):∀ {es:List Wo} {y:YT Ty es},YK K es y→YK K' es y
 | [],_,_=>trivial
 | [e],y,h=>H _ h
 | e::e2::es,.inl a,h=>H _ h
 | e::e2::es,.inr b,h=>YK.imp (es:=e2::es) (y:=b) H h
theorem Il {kp:Nat} {lf:Lf Ty} {h0:Ad} {g0:GE} (hs:RS N F h g lf.st.nx lf.st.m lf.st.s t w) (hkp:kp≤lf.st.nx) (hle:Ad.le h0 h) (hg:∀ i,i<kp→g i=g0 i) :
  ∀ {es:List Wo} {y:YT Ty es},Hv kp es lf=some y→YK (fun l=>AfD N F h0 g0 kp Q d l) es y→AdJ Q g h lf.st.nx ⟨t,d⟩ w lf.e
 | [],y,hy,_=>by cases hy
 | [e],y,hy,hK=>by
  unfold Hv at hy
  cases hb:e.fits lf with
  | false=>simp only [hb] at hy; cases hy
  | true =>
   simp only [hb,Zab] at hy
   exact Pf hy (As hb).1 hs hkp hK hle hg
 | e::e2::es,y,hy,hK=>by
  unfold Hv at hy
  cases hb:e.fits lf with
  | false =>
   simp only [hb,Zad] at hy
   obtain⟨b,h1,h2⟩:=Za0.1 hy
   subst h2
   exact Il hs hkp hle hg h1 hK
  | true =>
   simp only [hb,Zab] at hy
   obtain⟨a,h1,h2⟩:=Za0.1 hy
   subst h2
   exact Pf h1 (As hb).1 hs hkp hK hle hg
end
section
variable {Ty:Nat→Type}
theorem ZJ {r:List Nat}:∀ {s:A7 Ty} {i:Nat},AL.get (LX r s) i=if AF r i=true then none else AL.get s i
 | [],i=>by unfold LX; simp [AL.get]
 | (j,c)::t,i=>by
  have ih:=ZJ (r:=r) (s:=t) (i:=i)
  unfold LX
  cases hm:AF r j with
  | true =>
   rw [Zab,ih]
   split
   · rfl
   · rename_i hi
     show _=bif Nat.beq j i then some c else AL.get t i
     cases hb:Nat.beq j i with
     | true=>have:=Zac hb; subst this; rw [hm] at hi; exact absurd rfl hi
     | false=>rfl
  | false =>
   rw [Zad]
   show(bif Nat.beq j i then some c else AL.get (LX r t) i)=if AF r i=true then none else(bif Nat.beq j i then some c else AL.get t i)
   cases hb:Nat.beq j i with
   | true=>have:=Zac hb; subst this; rw [hm]; rfl
   | false=>rw [Zad,Zad,ih]
theorem TY {f:Nat→Nat} {b:A7 Ty}:∀ {s:A7 Ty} {i:Nat} {d:AE Ty},AL.get (TG f b s) i=some d→(∃ j c,AL.get s j=some c∧f j=i∧d=c.ren f)∨AL.get b i=some d
 | [],i,d,h=>.inr h
 | (j0,c0)::t,i,d,h=>by
  have h2:(bif Nat.beq (f j0) i then some (c0.ren f) else AL.get (TG f b t) i)=some d:=h
  cases hb:Nat.beq (f j0) i with
  | true =>
   rw [hb] at h2
   cases h2
   refine .inl ⟨j0,c0,?_,Zac hb,rfl⟩
   show(bif Nat.beq j0 j0 then some c0 else AL.get t j0)=some c0
   rw [Nat.beq_refl]; rfl
  | false =>
   rw [hb] at h2
   rcases TY h2 with⟨j,c,q1,q2,q3⟩ | q
   · refine .inl ⟨j,c,?_,q2,q3⟩
     show(bif Nat.beq j0 j then some c0 else AL.get t j)=some c
     cases hb2:Nat.beq j0 j with
     | true =>
      rw [Zac hb2,q2] at hb
      rw [Nat.beq_refl] at hb
      cases hb
     | false=>exact q1
   · exact .inr q
theorem TZ {f:Nat→Nat}:∀ {m:List (Nat×V Ty)} {k:Nat} {v:V Ty},AL.get (mapM f m) k=some v→∃ v0,AL.get m k=some v0∧v=v0.ren f
 | [],k,v,h=>by cases h
 | (j,c)::t,k,v,h=>by
  have h2:(bif Nat.beq j k then some (c.ren f) else AL.get (mapM f t) k)=some v:=h
  show ∃ v0,(bif Nat.beq j k then some c else AL.get t k)=some v0∧_
  cases hb:Nat.beq j k with
  | true=>rw [hb] at h2; cases h2; exact⟨c,rfl,rfl⟩
  | false=>rw [hb] at h2; exact TZ h2
theorem JX {p:Nat→Bool}:∀ {s:A7 Ty},Pd p s=true→G1 p (AL.get s)
 | [],_=>fun i c hi=>by cases hi
 | (j,c)::t,h=>fun i d hi=>by
  unfold Pd at h
  obtain⟨h,h3⟩:=As h
  obtain⟨h1,h2⟩:=As h
  have hh:(bif Nat.beq j i then some c else AL.get t i)=some d:=hi
  cases hb:Nat.beq j i with
  | true=>rw [hb] at hh; cases hh; rw [← Zac hb]; exact⟨h1,h2⟩
  | false=>rw [hb] at hh; exact JX h3 i d hh
theorem Ua {np nr i:Nat}:Gp np nr i=true↔i<np∨(Ax≤i∧i<Ax+nr):=by
 unfold Gp
 simp only [ZaS,Zan]
 exact⟨fun h=>h.elim (fun h=>.inl (Zah h)) (fun h=>.inr ⟨Zah h.1,Zah h.2⟩),fun h=>h.elim (fun h=>.inl (Za2 h)) (fun h=>.inr ⟨Za2 h.1,Za2 h.2⟩)⟩
theorem Agk {a b:Nat} (h:a<b):Nat.blt a b=true:=Za2 h
theorem Agl {a b:Nat} (h:b≤a):Nat.blt a b=false:=by
 cases hb:Nat.blt a b with
 | true=>have:=Zah hb; omega
 | false=>rfl
theorem Ub {pf:List Nat} {kp n np j:Nat} (h:j<kp):F9 pf kp n np j=Be pf j:=by unfold F9; rw [Agk h]; rfl
theorem Uc {pf:List Nat} {kp n np j:Nat} (h:kp≤j) (h2:j<Ax):F9 pf kp n np j=n+(j-kp):=by unfold F9; rw [Agl h,Agk h2]; rfl
theorem Ud {pf:List Nat} {kp n np j:Nat} (hk:kp≤Ax) (h:Ax≤j):F9 pf kp n np j=n+(np-kp)+(j-Ax):=by unfold F9; rw [Agl (by omega),Agl h]; rfl
def LZ (g ge:GE) (kp n np:Nat):GE:=fun i=>if i<n then g i else if i-n<np-kp then ge (i-n+kp) else ge (Ax+(i-n-(np-kp)))
variable [rT:∀ k,Rep (Ty k)] [RFs] [UM Ty] [UML Ty] {F:Fr} {h:Ad} {g:GE} {w:World}
theorem Al.lendC {ρ:ET} {s t:A7 Ty} {n:Nat} (hm:Al F h g (AL.get s) w) (hi:JD n (AL.get s)) (hn:(ρ.p++ρ.r).Nodup) (hp:ρ.p.length≤Ax) (hr:ρ.r.length≤Ax) (hlt:∀ i∈ρ.p++ρ.r,i<n) (ht:∀ j d,(j,d)∈t→Wj s ρ.p ρ.r j d) :
  ∃ X,Al ⟨F.w,F.h,X⟩ h (fun i=>g (JE ρ.p ρ.r i)) (AL.get t) w ∧
   ∀ {F2:Fr} {d d2:List Deferred} {h2:Ad} {ge:GE} {s2:A7 Ty} {w2:World} {np nr:Nat},FD ⟨F.w,F.h,X⟩ F2 d d2→Al F2 h2 ge (AL.get s2) w2→Ad.le h h2→(∀ j,j<ρ.p.length→ge j=g (Be ρ.p j))→G1 (Gp np nr) (AL.get s2)→ρ.p.length≤np→np≤Ax →
    ∃ F3,FD F F3 d d2∧Al F3 h2 (LZ g ge ρ.p.length n np) (AL.get (TG (F9 ρ.p ρ.p.length n np) (LX (ρ.p++ρ.r) s) s2)) w2 ∧
    JD (n+(np-ρ.p.length)+nr) (AL.get (TG (F9 ρ.p ρ.p.length n np) (LX (ρ.p++ρ.r) s) s2)) ∧
    (∀ i,i<n→LZ g ge ρ.p.length n np i=g i) ∧
    (∀ j,Gp np nr j=true→LZ g ge ρ.p.length n np (F9 ρ.p ρ.p.length n np j)=ge j∧CT (n+(np-ρ.p.length)+nr) (F9 ρ.p ρ.p.length n np j)=true):=by
 let M1:Mo Ty:=fun i=>if AF (ρ.p++ρ.r) i=true then AL.get s i else none
 obtain⟨X,hX,back⟩:=hm.hideF (M1:=M1) (fun i c hc=>by
  replace hc:(if AF (ρ.p++ρ.r) i=true then AL.get s i else none)=some c:=hc
  split at hc
  · exact hc
  · cases hc)
 have sigm:∀ j,Wi ρ.p ρ.r j→JE ρ.p ρ.r j∈ρ.p++ρ.r:=fun j hj=>by
  rcases hj with hj | ⟨h1,h2⟩
  · rw [Hx (by omega)]; exact ZaL _ (Dv hj)
  · have:=Xp (pf:=ρ.p) (rf:=ρ.r) (i:=j-Ax)
    rw [show Ax+(j-Ax)=j from by omega] at this
    rw [this]; exact List.mem_append_right _ (Dv (by omega))
 refine⟨X,(hX.canon hn hp hr ht fun j hj=>?_).1,?_⟩
 · show(if AF (ρ.p++ρ.r) (JE ρ.p ρ.r j)=true then _ else none)=_
   rw [if_pos (Br.2 (sigm j hj))]
 · intro F2 d d2 h2 ge s2 w2 np nr hfd hm2 hle hge hin2 hkn hnp
   have gold:∀ i,i<n→LZ g ge ρ.p.length n np i=g i:=fun i hi=>by unfold LZ; rw [if_pos hi]
   have gout:∀ j,Gp np nr j=true→LZ g ge ρ.p.length n np (F9 ρ.p ρ.p.length n np j)=ge j∧CT (n+(np-ρ.p.length)+nr) (F9 ρ.p ρ.p.length n np j)=true:=fun j hj=>by
    rcases Ua.1 hj with hj | ⟨hj,hj2⟩
    · rcases Za8 j ρ.p.length with hjk | hjk
      · have hl:=hlt _ (ZaL ρ.r (Dv hjk))
        rw [Ub hjk]
        exact⟨by rw [gold _ hl,hge j hjk],Ap.2 (by omega)⟩
      · rw [Uc hjk (by omega)]
        refine⟨?_,Ap.2 (by omega)⟩
        unfold LZ
        rw [if_neg (by omega),if_pos (by omega)]
        congr 1; omega
    · rw [Ud hp hj]
      refine⟨?_,Ap.2 (by omega)⟩
      unfold LZ
      rw [if_neg (by omega),if_neg (by omega)]
      congr 1; omega
   have finj:∀ {i j},Gp np nr i=true→Gp np nr j=true→F9 ρ.p ρ.p.length n np i=F9 ρ.p ρ.p.length n np j→i=j:=fun {i j} hi hj he=>by
    have key:∀ {i},Gp np nr i=true→(i<ρ.p.length∧F9 ρ.p ρ.p.length n np i=Be ρ.p i∧Be ρ.p i<n)∨(ρ.p.length≤i∧i<np∧F9 ρ.p ρ.p.length n np i=n+(i-ρ.p.length))∨(Ax≤i∧F9 ρ.p ρ.p.length n np i=n+(np-ρ.p.length)+(i-Ax)):=fun {i} hi=>by
     rcases Ua.1 hi with hi | ⟨hi,_⟩
     · rcases Za8 i ρ.p.length with hik | hik
       · exact .inl ⟨hik,Ub hik,hlt _ (ZaL ρ.r (Dv hik))⟩
       · exact .inr (.inl ⟨hik,hi,Uc hik (by omega)⟩)
     · exact .inr (.inr ⟨hi,Ud hp hi⟩)
    rcases key hi with⟨a1,a2,a3⟩ | ⟨a1,a2,a3⟩ | ⟨a1,a2⟩ <;> rcases key hj with⟨b1,b2,b3⟩ | ⟨b1,b2,b3⟩ | ⟨b1,b2⟩
    · rw [a2,b2] at he
      have hnd:=(ZbA.1 hn).1
      have:=FZ hnd a1
      rw [he,FZ hnd b1] at this
      exact this.symm
    all_goals omega
   let rest:Nat→Bool:=fun i=>Nat.blt i n && !AF (ρ.p++ρ.r) i
   let M2:Mo Ty:=AL.get (TG (F9 ρ.p ρ.p.length n np) [] s2)
   have get2:∀ {i d},M2 i=some d→∃ j c,AL.get s2 j=some c∧F9 ρ.p ρ.p.length n np j=i∧d=c.ren (F9 ρ.p ρ.p.length n np)∧Gp np nr j=true∧c.okB (Gp np nr)=true:=fun {i d} hi=>by
    rcases TY hi with⟨j,c,q1,q2,q3⟩ | q
    · exact⟨j,c,q1,q2,q3,hin2 _ _ q1⟩
    · cases q
   have hM2:Al F2 h2 (LZ g ge ρ.p.length n np) M2 w2:=by
    refine⟨hm2.below,hm2.le,hm2.old,hm2.has,fun i d hd=>?_,fun i d hd hnl=>?_,fun i j c d hc hd h1 h3 hb=>?_,hm2.ext,hm2.glo⟩
    · obtain⟨j,c,q1,rfl,rfl,q4,q5⟩:=get2 hd
      rw [(gout j q4).1]
      have:=hm2.cell _ _ q1
      exact this.renC (fun i hi=>(gout i hi).1) q5
    · obtain⟨j,c,q1,rfl,rfl,q4,q5⟩:=get2 hd
      rw [(gout j q4).1] at hnl ⊢
      exact hm2.own _ _ q1 hnl
    · obtain⟨a,c',q1,rfl,rfl,q4,q5⟩:=get2 hc
      obtain⟨b,d',r1,rfl,rfl,r4,r5⟩:=get2 hd
      rw [(gout a q4).1] at h1 hb
      rw [(gout b r4).1] at h3 hb
      rw [hm2.inj _ _ _ _ q1 r1 h1 h3 hb]
   obtain⟨F3,hf3,hcomb⟩:=back (p:=CT n) rest hfd hM2 hle (fun i hi=>gold i (Ap.1 hi)) hi (fun i c hc hr=>by
    have hr:(Nat.blt i n && !AF (ρ.p++ρ.r) i)=true:=hr
    obtain⟨_,hr⟩:=As hr
    show(if AF (ρ.p++ρ.r) i=true then AL.get s i else none)=none
    rw [if_neg]
    intro hh; rw [hh] at hr; cases hr)
   have getR:∀ {i d},AL.get (TG (F9 ρ.p ρ.p.length n np) (LX (ρ.p++ρ.r) s) s2) i=some d→(∃ j c,AL.get s2 j=some c∧F9 ρ.p ρ.p.length n np j=i∧d=c.ren (F9 ρ.p ρ.p.length n np)∧Gp np nr j=true∧c.okB (Gp np nr)=true)∨(rest i=true∧AL.get s i=some d):=fun {i d} hd=>by
    rcases TY hd with⟨j,c,q1,q2,q3⟩ | q
    · exact .inl ⟨j,c,q1,q2,q3,hin2 _ _ q1⟩
    · rw [ZJ] at q
      split at q
      · cases q
      · rename_i hnm
        refine .inr ⟨?_,q⟩
        have:=Ap.1 (hi i d q).1
        show(Nat.blt i n && !AF (ρ.p++ρ.r) i)=true
        rw [Agk this]
        simpa using hnm
   have notrest:∀ {j},Gp np nr j=true→rest (F9 ρ.p ρ.p.length n np j)=true→False:=fun {j} hj hr=>by
    have hr:(Nat.blt (F9 ρ.p ρ.p.length n np j) n && !AF (ρ.p++ρ.r) (F9 ρ.p ρ.p.length n np j))=true:=hr
    obtain⟨r1,r2⟩:=As hr
    have r1:F9 ρ.p ρ.p.length n np j<n:=Zah r1
    rcases Ua.1 hj with hj | ⟨hj,_⟩
    · rcases Za8 j ρ.p.length with hjk | hjk
      · rw [Ub hjk,Br.2 (ZaL ρ.r (Dv hjk))] at r2
        cases r2
      · rw [Uc hjk (by omega)] at r1; omega
    · rw [Ud hp hj] at r1; omega
   refine⟨F3,hf3,hcomb.less fun i d hd=>?_,fun i d hd=>?_,gold,gout⟩
   · rcases getR hd with⟨j,c,q1,q2,q3,q4,q5⟩ | ⟨q1,q2⟩
     · show(if rest i=true then AL.get s i else M2 i)=some d
       rw [if_neg (fun hh=>notrest q4 (by rw [q2]; exact hh))]
       subst q2 q3
       have:=finj (i:=j) (j:=j) q4 q4 rfl
       -- the first with that number
       cases hg:M2 (F9 ρ.p ρ.p.length n np j) with
       | some d' =>
        obtain⟨j',c',r1,r2,r3,r4,r5⟩:=get2 hg
        have e:=finj r4 q4 r2
        subst e
        rw [q1] at r1
        cases r1
        rw [r3]
       | none =>
        exfalso
        have key:∀ {s2:A7 Ty} {j:Nat} {c:AE Ty} {f:Nat→Nat},AL.get s2 j=some c→AL.get (TG f [] s2) (f j)≠none:=by
         intro s2
         induction s2 with
         | nil=>intro j c f hj; cases hj
         | cons q t ih =>
          obtain⟨j0,c0⟩:=q
          intro j c f hj
          show(bif Nat.beq (f j0) (f j) then some (c0.ren f) else AL.get (TG f [] t) (f j))≠none
          cases hb:Nat.beq (f j0) (f j) with
          | true=>simp
          | false =>
           rw [Zad]
           have hh:(bif Nat.beq j0 j then some c0 else AL.get t j)=some c:=hj
           cases hb2:Nat.beq j0 j with
           | true=>rw [Zac hb2,Nat.beq_refl] at hb; cases hb
           | false=>rw [hb2] at hh; exact ih hh
        exact key q1 hg
     · show(if rest i=true then AL.get s i else M2 i)=some d
       rw [if_pos q1]; exact q2
   · rcases getR hd with⟨j,c,q1,q2,q3,q4,q5⟩ | ⟨q1,q2⟩
     · subst q2 q3
       refine⟨(gout j q4).2,?_⟩
       exact AE.okB_ren (fun i hi=>(gout i hi).2) q5
     · have:=hi i d q2
       exact⟨FN (by omega) _ this.1,AE.okB_imp (FN (by omega)) this.2⟩
end
section
variable {Ty:Nat→Type} [UV Ty]
def Akc (f:Nat→Nat):Ah9 Ty→Ah9 Ty
 | .pan v=>.pan (v.ren f)
 | e=>e
def AdO (p:Nat→Bool):Ah9 Ty→Bool
 | .pan v=>v.okB p
 | _=>true
def Agm (p:Nat→Bool):List (Nat×V Ty)→Bool
 | []=>true
 | (_,v)::t=>v.okB p && Agm p t
def Aix (ρ:ET) (s:A7 Ty) (n:Nat) (e:Wo) (a:C.Ds Ty e.all):Tr (Lf Ty) :=
 let m:=(ZbE e.all a ⟨0,0,[]⟩).2
 let lf:=Qu e a
 bif AdO (Gp m.np m.nr) lf.e && Agm (Gp m.np m.nr) lf.st.m && Pd (Gp m.np m.nr) lf.st.s && Nat.ble (Bm ρ.p) m.np && Nat.ble m.np Ax then
  let f:=F9 ρ.p (Bm ρ.p) n m.np
  .ret ⟨Akc f lf.e,⟨mapM f lf.st.m,TG f (LX (ρ.p++ρ.r) s) lf.st.s,n+(m.np-Bm ρ.p)+m.nr⟩⟩
 else .fail
def MU (D:List (Nat×C)) (kp:Nat) (E:List Wo) (F:C.Ds Ty (AH D)→Option (YT Ty E)) (st:St Ty):Tr (Lf Ty):=match Qt st.m D with
 | some vs=>match Jj (AH D) vs st.s st.nx with
  | some (x,ρ,_,s,n)=>bif Nat.beq (Bm ρ.p) kp then .ask (F x) fun y=>AjJ (Aix ρ s n) E y else .fail
  | none=>.fail
 | none=>.fail
end
section
variable {Ty:Nat→Type} [rT:∀ k,Rep (Ty k)] [RFs] [UM Ty] [UML Ty] [UV Ty] [UL Ty] {P:Program} [UMP Ty P] {N:Nat} {y0:Bool}
def ZK (y0:Bool) (P:Program) (N:Nat) (c:Code) (D:List (Nat×C)) (kp:Nat) (E:List Wo) (x:C.Ds Ty (AH D)) (y:YT Ty E):Prop :=
 ∀ (F:Fr)(h:Ad)(g:GE)(t:Array Value)(w:World)(Q:Exit→Act→World→Prop)(d:List Deferred),RS N F h g (2*Ax) (By D x).m (By D x).s t w→YK (fun l=>AfD N F h g kp Q d l) E y→CJ y0 P c Q ⟨t,d⟩ w
omit rT [UL Ty] [RFs] [UM Ty] [UML Ty] [UMP Ty P] in
theorem Ab1 {cs:List C} {vs:List (V Ty)} {s:A7 Ty} {n:Nat} {x:C.Ds Ty cs} {ρ:ET} {rest:List (V Ty)×A7 Ty×Nat} (ht:Jj cs vs s n=some (x,ρ,rest)):ρ.p.length≤Ax:=by
 unfold Jj at ht
 generalize ZcD cs vs s n=r at ht
 obtain⟨v1,s1,n1⟩:=r
 simp only at ht
 split at ht
 · rename_i x2 ρ2 hpk
   cases hb:(HQ (ρ2.p++ρ2.r) && Nat.ble (Bm ρ2.p) Ax && Nat.ble (Bm ρ2.r) Ax && Wg n1 (ρ2.p++ρ2.r)) with
   | false=>rw [hb] at ht; cases ht
   | true =>
    rw [hb,Zab] at ht
    cases ht
    obtain⟨hb,b4⟩:=As hb
    obtain⟨hb,b3⟩:=As hb
    obtain⟨b1,b2⟩:=As hb
    have:=Zah b2
    rwa [AC] at this
 · cases ht
omit [RFs] [UMP Ty P] in
theorem Wl {kp:Nat}:∀ {es:List Wo} {lf:Lf Ty} {y:YT Ty es},Hv kp es lf=some y→kp≤Ax
 | [],lf,y,h=>by cases h
 | [e],lf,y,h=>by
  unfold Hv at h
  cases hb:e.fits lf with
  | false=>simp only [hb] at h; cases h
  | true=>simp only [hb,Zab] at h; exact ex h
 | e::e2::es,lf,y,h=>by
  unfold Hv at h
  cases hb:e.fits lf with
  | false =>
   simp only [hb,Zad] at h
   obtain⟨b,h1,h2⟩:=Za0.1 h
   exact Wl h1
  | true =>
   simp only [hb,Zab] at h
   obtain⟨b,h1,h2⟩:=Za0.1 h
   exact ex h1
where
 ex {kp:Nat} {e:Wo} {rv:List (V Ty)} {st:St Ty} {x:C.Ds Ty e.all} (h:IG kp e rv st=some x):kp≤Ax:=by
  unfold IG at h
  cases hb:Nat.beq (Bm e.ps) kp with
  | false=>rw [hb] at h; cases h
  | true =>
   rw [hb,Zab] at h
   split at h
   · split at h
     · rename_i x1 ρ rest ht
       cases hpre:Tj kp ρ.p with
       | false=>rw [hpre] at h; cases h
       | true =>
        have h1:=(K2 hpre).1
        have:=Ab1 ht
        omega
     · cases h
   · cases h
theorem Ajb {call:Bi Ty} {cuts:NA Ty} {c:Code} {D:List (Nat×C)} {kp:Nat} {E:List Wo} {x:C.Ds Ty (AH D)} {y:YT Ty E} (hP:Ga P) (hmix:P.follows .mixedOrders=true) (hc:CU P call)
  (hy0:y0=false→∀ args k s,(call Ar args k s).runK some=none) (hsc:y0=false→GH c=true)
  (hcuts:∀ z∈BD cuts c,∀ f,cuts (IC z)=some f→B7 y0 P N f z) (hy:(CI P N call cuts c (By D x)).runK (Hv kp E)=some y):ZK y0 P N c D kp E x y:=by
 rw [Tr.runK_some] at hy
 obtain⟨lf,h1,h2⟩:=Zag.1 hy
 intro F h g t w Q d hs hK
 refine Bt hP hmix hc hy0 c hsc hcuts (By D x) lf h1 F h g t w Q d hs ?_
 intro F' d' h' g' t' w' q0 q1 q2 q3 q4
 have hkp:=Wl h2
 have hnx:(By D x).nx=2*Ax:=rfl
 rw [hnx] at q2 q3
 exact Il q4 (by omega) (Ad.le_refl _) (fun _ _=>rfl) h2 (YK.imp (fun l hl=>hl.of q0 q1 (fun i hi=>q2 i (by omega)) (Zas _)) hK)
theorem Fk {call:Nat→Bi Ty} {cuts:Nat→NA Ty} {c:Code} {D:List (Nat×C)} {kp:Nat} {E:List Wo} {Fn:Nat→C.Ds Ty (AH D)→Option (YT Ty E)} (hP:Ga P) (hmix:P.follows .mixedOrders=true) (hc:∀ n,CU P (call n))
  (hy0:y0=false→∀ n args k s,(call n Ar args k s).runK some=none) (hsc:y0=false→GH c=true)
  (hcuts:∀ n,∀ z∈BD (cuts n) c,∀ f,cuts n (IC z)=some f→B7 y0 P N f z) (hkp:kp≤Ax) (h0:∀ x,Fn 0 x=none)
  (hr:∀ n x,(CI P N (call n) (cuts n) c (By D x)).runK (Gn kp D E (Fn n))=Fn (n+1) x) {n:Nat} {x:C.Ds Ty (AH D)} {y:YT Ty E} (hy:Fn n x=some y):ZK y0 P N (.loop c) D kp E x y:=by
 intro F h g t w Q d hs hK
 refine .loop (fun m a w'=>∃ F' d' h' g' t' x',a=⟨t',d'⟩∧FD F F' d d'∧Ad.le h h'∧(∀ i,i<kp→g' i=g i)∧RS N F' h' g' (2*Ax) (By D x').m (By D x').s t' w'∧Fn m x' = some y) n ⟨F,d,h,g,t,x,rfl,FD.refl F d,Ad.le_refl _,fun _ _=>rfl,hs,hy⟩ ?_
 rintro m a w1 ⟨F1,d1,h1,g1,t1,x1,rfl,q0,q1,q2,q3,q4⟩
 cases m with
 | zero=>rw [h0] at q4; cases q4
 | succ m =>
  rw [← hr m x1,Tr.runK_some] at q4
  obtain⟨lf,e1,e2⟩:=Zag.1 q4
  refine Bt hP hmix (hc m) (fun hh=>hy0 hh m) c hsc (hcuts m) (By D x1) lf e1 F1 h1 g1 t1 w1 _ d1 q3 ?_
  intro F2 d2 h2 g2 t2 w2 r0 r1 r2 r3 r4
  have hnx:(By D x1).nx=2*Ax:=rfl
  rw [hnx] at r2 r3
  have out:Hv kp E lf=some y→AdJ Q g2 h2 lf.st.nx ⟨t2,d2⟩ w2 lf.e:=fun hl =>
   Il r4 (by omega) (Ad.le_refl _) (fun _ _=>rfl) hl (YK.imp (fun l hl=>hl.of (q0.trans r0) (Ad.le_trans q1 r1) (fun i hi=>by rw [r2 i (by omega),q2 i hi]) (Zas _)) hK)
  unfold Gn at e2
  cases he:lf.e with
  | normal =>
   rw [he] at e2
   simp only at e2
   obtain⟨x2,f1,f2⟩:=Zag.1 e2
   refine⟨m,Zbr _,?_⟩
   unfold NM at f1
   split at f1
   · rename_i vs hvs
     split at f1
     · rename_i x3 ρ rest ht
       obtain⟨vs',s',n'⟩:=rest
       cases hpre:Tj kp ρ.p with
       | false=>rw [hpre] at f1; cases f1
       | true =>
        rw [hpre,Zab] at f1
        cases f1
        obtain⟨a1,a2,sus,a3,a4⟩:=GM r4.kn r4.im hvs
        obtain⟨h3,g3,T⟩:=DC ht r4.mem r4.is_ a1 a3
        refine⟨F2,d2,h3,fun i=>g3 (JE ρ.p ρ.r i),t2,x2,rfl,q0.trans r0,Ad.le_trans q1 (Ad.le_trans r1 T.pre.le),fun i hi=>?_,⟨r4.size,?_,T.mem,?_,T.ins⟩,f2⟩
        · show g3 (JE ρ.p ρ.r i)=g i
          rw [Xr hpre T.lp hi,T.pre.g i (Ap.2 (by omega)),r2 i (by omega),q2 i hi]
        · exact Hy a4 T.denc
        · exact Hz T.okc
     · cases f1
   · cases f1
  | exit i=>rw [he] at e2; have:=out e2; rw [he] at this; exact this
  | ret=>rw [he] at e2; have:=out e2; rw [he] at this; exact this
  | pan v=>rw [he] at e2; have:=out e2; rw [he] at this; exact this
theorem Ue {p:Nat→Bool}:∀ {m:List (Nat×V Ty)},Agm p m=true→Tq p m
 | [],_=>fun k v hv=>by cases hv
 | (j,c)::t,h=>fun k v hv=>by
  unfold Agm at h
  obtain⟨h1,h2⟩:=As h
  have hh:(bif Nat.beq j k then some c else AL.get t k)=some v:=hv
  cases hb:Nat.beq j k with
  | true=>rw [hb] at hh; cases hh; exact h1
  | false=>rw [hb] at hh; exact Ue h2 k v hh
theorem Aiy {K:Lf Ty→Prop} {f:(e:Wo)→C.Ds Ty e.all→Tr (Lf Ty)} {lf:Lf Ty} (H:∀ e a,(f e a).runK some=some lf→K (Qu e a)):∀ {es:List Wo} {y:YT Ty es},(AjJ f es y).runK some=some lf→YK K es y
 | [],y,h=>trivial
 | [e],y,h=>H e y h
 | e::e2::es,.inl a,h=>H e a h
 | e::e2::es,.inr b,h=>Aiy H (es:=e2::es) (y:=b) h
def Agn (f g:St Ty→Tr (Lf Ty)) (st:St Ty):Tr (Lf Ty):=match f st with
 | .fail=>g st
 | t=>t
omit [UV Ty] [UL Ty] [UMP Ty P] in
theorem Ac3 {f g:St Ty→Tr (Lf Ty)} {c:Code} (hf:B7 y0 P N f c) (hg:B7 y0 P N g c):B7 y0 P N (Agn f g) c:=by
 intro st lf hr
 unfold Agn at hr
 split at hr
 · exact hg st lf hr
 · exact hf st lf hr
theorem H1 {c:Code} {D:List (Nat×C)} {kp:Nat} {E:List Wo} {Fn:C.Ds Ty (AH D)→Option (YT Ty E)} (hF:∀ x y,Fn x=some y→ZK y0 P N c D kp E x y):B7 y0 P N (MU D kp E Fn) c:=by
 intro st lf hr F h g t w Q d hs hK
 unfold MU at hr
 split at hr
 · rename_i vs hvs
   split at hr
   · rename_i x ρ vs' s n ht
     cases hl:Nat.beq (Bm ρ.p) kp with
     | false=>rw [hl] at hr; cases hr
     | true =>
      rw [hl,Zab,Tr.runK_ask] at hr
      have hl:ρ.p.length=kp:=by rw [← AC]; exact Zac hl
      obtain⟨y,hy,hr⟩:=Zag.1 hr
      obtain⟨a1,a2,sus,a3,a4⟩:=GM hs.kn hs.im hvs
      obtain⟨h1,g1,T⟩:=DC ht hs.mem hs.is_ a1 a3
      obtain⟨X,hX,back⟩:=T.pre.mem.lendC T.pre.is_ T.nodup T.lp T.lr T.lt T.cells
      refine hF x y hy ⟨F.w,F.h,X⟩ h1 (fun i=>g1 (JE ρ.p ρ.r i)) t w Q d ⟨hs.size,Hy a4 T.denc,hX,Hz T.okc,T.ins⟩ (Aiy (fun e a ha=>?_) hr)
      intro F2 d2 h2 ge t2 w2 q0 q1 q2 q3 q4
      unfold Aix at ha
      simp only at ha
      cases hb:(AdO (Gp (ZbE e.all a ⟨0,0,[]⟩).2.np (ZbE e.all a ⟨0,0,[]⟩).2.nr) (Qu e a).e && Agm (Gp (ZbE e.all a ⟨0,0,[]⟩).2.np (ZbE e.all a ⟨0,0,[]⟩).2.nr) (Qu e a).st.m && Pd (Gp (ZbE e.all a ⟨0,0,[]⟩).2.np (ZbE e.all a ⟨0,0,[]⟩).2.nr) (Qu e a).st.s && Nat.ble (Bm ρ.p) (ZbE e.all a ⟨0,0,[]⟩).2.np && Nat.ble (ZbE e.all a ⟨0,0,[]⟩).2.np Ax) with
      | false=>rw [hb] at ha; cases ha
      | true =>
       rw [hb,Zab] at ha
       generalize hmm:(ZbE e.all a ⟨0,0,[]⟩).2=m at ha hb
       cases ha
       obtain⟨hb,b5⟩:=As hb
       obtain⟨hb,b4⟩:=As hb
       obtain⟨hb,b3⟩:=As hb
       obtain⟨b1,b2⟩:=As hb
       have b4:=Zah b4
       have b5:=Zah b5
       rw [AC] at hK b4
       obtain⟨F3,f3,p1,p2,p3,p4⟩:=back (np:=m.np) (nr:=m.nr) q0 q4.mem q1 (fun j hj=>by rw [q2 j (by omega)]; show g1 (JE ρ.p ρ.r j)=_; rw [Hx (by have:=T.lp; omega)]) (JX b3) b4 b5
       have hn:=T.pre.n
       have hgg:∀ i,Gp m.np m.nr i=true→LZ g1 ge ρ.p.length n m.np (F9 ρ.p ρ.p.length n m.np i)=ge i:=fun i hi=>(p4 i hi).1
       have hK2:=hK F3 d2 h2 (LZ g1 ge ρ.p.length n m.np) t2 w2 f3 (Ad.le_trans T.pre.le q1) (fun i hi=>by rw [p3 i (by omega)]; exact T.pre.g i (Ap.2 hi)) (by show st.nx≤n+_+_; omega)
        ⟨q4.size,fun k v hv=>?_,p1,fun k v hv=>?_,p2⟩
       · cases he:(Qu e a).e with
         | normal=>rw [he] at hK2; exact hK2
         | exit i=>rw [he] at hK2; exact hK2
         | ret=>rw [he] at hK2; exact hK2
         | pan v =>
          rw [he] at hK2 b1
          intro u hu ho
          exact hK2 u (V.den_ren hgg v u b1 hu) (V.okB_ren (fun i hi=>(p4 i hi).2) v b1)
       · obtain⟨v0,e1,rfl⟩:=TZ hv
         obtain⟨u,f1,f2⟩:=q4.kn k v0 e1
         exact⟨u,f1,V.den_ren hgg v0 u (Ue b2 k v0 e1) f2⟩
       · obtain⟨v0,e1,rfl⟩:=TZ hv
         exact V.okB_ren (fun i hi=>(p4 i hi).2) v0 (Ue b2 k v0 e1)
   · cases hr
 · cases hr
end
section
variable {Ty:Nat→Type} [UV Ty]
def EK.isP:EK→Bool→Bool
 | .ret,false=>true
 | .pan,true=>true
 | _,_=>false
def Fl (kp:Nat) (p:Bool) (rv:List (V Ty)) (st:St Ty):(es:List Wo)→Option (YT Ty es)
 | []=>none
 | e::es=>match es with
  | []=>bif e.k.isP p then IG kp e rv st else none
  | e2::es2=>bif e.k.isP p then(IG kp e rv st).elim ((Fl kp p rv st (e2::es2)).map Sum.inr) fun a=>some (.inl a) else(Fl kp p rv st (e2::es2)).map Sum.inr
def GN (P:Program) (rs:List ResultVar) (kp:Nat) (E:List Wo) (lf:Lf Ty):Option (YT Ty E):=match lf.e with
 | .normal | .ret=>(OQ P lf.st.m lf.st.s rs).runK fun vs=>Fl kp false vs lf.st E
 | .pan v=>Fl kp true [v] lf.st E
 | .exit _=>none
def Uf (ρ:ET) (s:A7 Ty) (n:Nat) (e:Wo) (a:C.Ds Ty e.all):Tr (CR Ty) :=
 let m:=(ZbE e.all a ⟨0,0,[]⟩).2
 let v:=R7 (Pc (Bm e.ps+Bm e.sl) (ZbE e.all a ⟨0,0,[]⟩).1)
 bif v.okB (Gp m.np m.nr) && Pd (Gp m.np m.nr) m.s && Nat.ble (Bm ρ.p) m.np && Nat.ble m.np Ax then
  let f:=F9 ρ.p (Bm ρ.p) n m.np
  .ret ⟨e.k.isP true,v.ren f,TG f (LX (ρ.p++ρ.r) s) m.s,n+(m.np-Bm ρ.p)+m.nr⟩
 else .fail
def FA (D:List (Nat×C)) (kp:Nat) (E:List Wo) (F:C.Ds Ty (AH D)→Option (YT Ty E)):GL Ty:=fun args k s=>match Jj (AH D) args s k with
 | some (x,ρ,_,s',n)=>bif Nat.beq (Bm ρ.p) kp then .ask (F x) fun y=>AjJ (Uf ρ s' n) E y else .fail
 | none=>.fail
def NN:Nat→List (Nat×C)→Bool
 | _,[]=>true
 | i,(k,_)::r=>Nat.beq k i && NN (i+1) r
end
section
variable {Ty:Nat→Type} [rT:∀ k,Rep (Ty k)] [RFs] [UM Ty] [UML Ty] {P:Program} {F:Fr} {h:Ad} {g:GE} {w:World} {t:Array Value}
def NO:List Value→Value
 | [u]=>u
 | us=>.tuple us.toArray
theorem Ug {vs:List (V Ty)} {us:List Value} (hd:V.dens g h vs us):(R7 vs).den g h (NO us):=by
 have hl:=V.dens_len hd
 match vs,us,hd,hl with
 | [v],[u],hd,_ =>
  unfold V.dens V.dens at hd
  obtain⟨u',us',e1,e2,_⟩:=hd
  cases e1
  exact e2
 | [],[],hd,_=>unfold R7 V.den; exact⟨[],rfl,hd⟩
 | a::b::r,x::y::z,hd,_=>unfold R7 V.den; exact⟨_,rfl,hd⟩
 | [],_::_,_,hl=>simp at hl
 | [_],[],_,hl=>simp at hl
 | [_],_::_::_,_,hl=>simp at hl
 | _::_::_,[],_,hl=>simp at hl
 | _::_::_,[_],_,hl=>simp at hl
variable [UV Ty] [UL Ty]
theorem II [UMP Ty P] {m:List (Nat×V Ty)} {s:A7 Ty} {fn:Func} {vs:List (V Ty)} (hk:P3 g h m t) (hm:Al F h g (AL.get s) w) (hr:(OQ P m s fn.results.toList).runK some=some vs):∃ us,V.dens g h vs us∧(results fn t).run P w=.ok (NO us) w:=by
 obtain⟨us,h1,h2⟩:=K6 hk hm hr
 refine⟨us,h2,?_⟩
 rw [SY,← Zbj (xs:=fn.results),List.mapM_toArray]
 simp only [Sem.run_bind,Sem.run_map,h1,Result.andThen_ok,Sem.run_pure]
 match us with
 | [u]=>simp [NO]
 | []=>rfl
 | a::b::r=>rw [dif_neg (by simp)]; rfl
omit [RFs] [UM Ty] [UML Ty] in
theorem Xs {p:Nat→Bool} {m:List (Nat×V Ty)} {s:A7 Ty} (hi:Tq p m) (hs:G1 p (AL.get s)):∀ {rs:List ResultVar} {vs:List (V Ty)},(OQ P m s rs).runK some=some vs→V.oksB p vs=true
 | [],vs,hh=>by cases hh; rfl
 | .tmp k::r,vs,hh=>by
  unfold OQ at hh
  split at hh
  · rename_i v hv
    obtain⟨ws,hws,hh⟩:=Tr.run_bind hh
    cases hh
    unfold V.oksB
    rw [hi k v hv,Xs hi hs hws]; rfl
  · cases hh
 | .cell a T::r,vs,hh=>by
  unfold OQ at hh
  split at hh
  · rename_i i off hv
    obtain⟨v,hlv,hh⟩:=Tr.run_bind hh
    obtain⟨ws,hws,hh⟩:=Tr.run_bind hh
    cases hh
    unfold V.oksB
    rw [Zj (hi a _ hv) (fun i c hc=>(hs i c hc).2) hlv,Xs hi hs hws]; rfl
  · cases hh
omit [UV Ty] [UL Ty] rT [RFs] [UM Ty] [UML Ty] in
theorem NP {vals:List Value} (ht:∀ (i:Nat)(u:Value),vals[i]? = some u→t[i]? = some u):∀ {D:List (Nat×C)} {i:Nat} {us:List Value},NN i D=true→us.length=D.length→(∀ (j:Nat)(u:Value),us[j]? = some u→vals[i+j]? = some u)→K9 t D us
 | [],i,us,_,_,_=>trivial
 | (k,c)::r,i,[],_,hl,_=>by simp at hl
 | (k,c)::r,i,u::us,hk,hl,hu=>by
  unfold NN at hk
  obtain⟨k1,k2⟩:=As hk
  rw [Zac k1]
  refine⟨u,us,rfl,ht i u (by have:=hu 0 u rfl; rwa [Nat.add_zero] at this),NP ht k2 (by simpa using hl) fun j x hx=>?_⟩
  have:=hu (j+1) x (by simpa using hx)
  rwa [show i+(j+1)=i+1+j from by omega] at this
def YR (K:(e:Wo)→C.Ds Ty e.all→Prop):(es:List Wo)→YT Ty es→Prop
 | [],_=>True
 | e::es,y=>match es,y with
  | [],y=>K e y
  | _::_,.inl a=>K e a
  | e2::es2,.inr b=>YR K (e2::es2) b
theorem Ac4 {ρ:Type} {K:(e:Wo)→C.Ds Ty e.all→Prop} {f:(e:Wo)→C.Ds Ty e.all→Tr ρ} {r:ρ} (H:∀ e a,(f e a).runK some=some r→K e a):∀ {es:List Wo} {y:YT Ty es},(AjJ f es y).runK some=some r→YR K es y
 | [],y,h=>trivial
 | [e],y,h=>H e y h
 | e::e2::es,.inl a,h=>H e a h
 | e::e2::es,.inr b,h=>Ac4 H (es:=e2::es) (y:=b) h
theorem Jl {kp:Nat} {p:Bool} {rv:List (V Ty)} {st:St Ty} {K:(e:Wo)→C.Ds Ty e.all→Prop} {R:Prop} (H:∀ e a,e.k.isP p=true→IG kp e rv st=some a→K e a→R):∀ {es:List Wo} {y:YT Ty es},Fl kp p rv st es=some y→YR K es y→R
 | [],y,h,_=>by cases h
 | [e],y,h,hK=>by
  unfold Fl at h
  cases hb:e.k.isP p with
  | false=>simp only [hb] at h; cases h
  | true=>simp only [hb,Zab] at h; exact H e y hb h hK
 | e::e2::es,y,h,hK=>by
  unfold Fl at h
  have tail:(Fl kp p rv st (e2::es)).map (Sum.inr (α:=C.Ds Ty e.all))=some y→R:=fun hh=>by
   obtain⟨b,h1,h2⟩:=Za0.1 hh
   subst h2
   exact Jl H h1 hK
  cases hb:e.k.isP p with
  | false=>simp only [hb,Zad] at h; exact tail h
  | true =>
   simp only [hb,Zab] at h
   cases ha:IG kp e rv st with
   | none=>rw [ha] at h; exact tail h
   | some a =>
    rw [ha] at h
    have h:some (Sum.inl a)=some y:=h
    cases h
    exact H e a hb ha hK
omit rT [UL Ty] [RFs] [UM Ty] [UML Ty] in
theorem Qy:∀ (cs:List C)(x:C.Ds Ty cs)(m:Mk Ty),(ZbE cs x m).1.length=cs.length
 | [],_,_=>by unfold ZbE; rfl
 | c::cs,x,m=>by unfold ZbE; simp [Qy cs]
omit rT [UL Ty] [UV Ty] [RFs] [UM Ty] [UML Ty] in
theorem Uh:∀ (D:List (Nat×C)),(AH D).length=D.length
 | []=>rfl
 | (k,c)::r=>by unfold AH; simp [Uh r]
theorem HT [UMP Ty P] {call:Bi Ty} {cuts:NA Ty} {f:FuncId} {fn:Func} {c:Code} {D:List (Nat×C)} {kp:Nat} {E:List Wo} {Fn:C.Ds Ty (AH D)→Option (YT Ty E)} (hf:P.funcs[f]? = some fn) (hb:fn.body=some c) (hkey:NN 0 D=true) (hn:D.length≤fn.ntmps) (hlt:Nat.blt f Ar=true)
  (hP:Ga P) (hmix:P.follows .mixedOrders=true) (hc:CU P call) (hcuts:∀ z∈BD cuts c,∀ q,cuts (IC z)=some q→B7 true P fn.ntmps q z)
  (hF:∀ x,(CI P fn.ntmps call cuts c (By D x)).runK (GN P fn.results.toList kp E)=Fn x):Bb P f (FA D kp E Fn):=by
 intro args k s r hr F h g w vals hm hin hargs hden
 unfold FA at hr
 split at hr
 · rename_i x ρ vs' s' n ht
   cases hl:Nat.beq (Bm ρ.p) kp with
   | false=>rw [hl] at hr; cases hr
   | true =>
    rw [hl,Zab,Tr.runK_ask] at hr
    have hl:ρ.p.length=kp:=by rw [← AC]; exact Zac hl
    obtain⟨y,hy,hr⟩:=Zag.1 hr
    obtain⟨h1,g1,T⟩:=DC ht hm hin hargs hden
    obtain⟨X,hX,back⟩:=T.pre.mem.lendC T.pre.is_ T.nodup T.lp T.lr T.lt T.cells
    rw [← hF x,Tr.runK_some] at hy
    obtain⟨lf,e1,e2⟩:=Zag.1 hy
    have hlen:=V.dens_len hden
    have hlenc:(ZbE (AH D) x ⟨0,0,[]⟩).1.length=D.length:=by rw [Qy,Uh]
    have hvl:vals.length=D.length:=by rw [V.dens_len T.denc,hlenc]
    refine .of hlt (callsIn_wide.1 (callsIn_of_wp_marks (n:=0) hf hb trivial (wpIn_wide.2 ?_)))
    have hget:∀ i u,vals[i]? = some u→(vals.toArray++Array.replicate (fn.ntmps-vals.toArray.size) Go.undef)[i]? = some u:=fun i u hu=>by
     have hlt:i<vals.length:=(Zaz.1 hu).1
     rw [Zb2 (by simpa using hlt)]
     simpa using hu
    refine(Bt (y:=true) hP hmix hc (fun hh=>by cases hh) c (fun hh=>by cases hh) hcuts (By D x) lf e1 ⟨F.w,F.h,X⟩ h1 (fun i=>g1 (JE ρ.p ρ.r i)) _ w _ [] ⟨?_,?_,hX,Hz T.okc,T.ins⟩ ?_).wp
    · simp only [Array.size_append,Zbt,Array.size_replicate]; omega
    · exact Hy (NP hget hkey hvl fun j u hu=>by rwa [Zaw]) T.denc
    · intro F2 d2 h2 g2 t2 w2 q0 q1 q2 q3 q4
      obtain⟨bs,hbs,nd,hXb⟩:=q0.ds
      rw [Zbh] at hbs
      have f0:FD (⟨F.w,F.h,X⟩:Fr) F2 [] []:=⟨q0.w,q0.h,q0.X,[],rfl,Zb4,by simp⟩
      have hnx:(By D x).nx=2*Ax:=rfl
      rw [hnx] at q2 q3
      -- a typed end is the law's
      have fin:∀ {F3:Fr} {w3:World} {p:Bool} {rv:List (V Ty)} {rus:List Value},FD (⟨F.w,F.h,X⟩:Fr) F3 [] []→Al F3 h2 g2 (AL.get lf.st.s) w3→Fl kp p rv lf.st E=some y→V.dens g2 h2 rv rus→V.oksB (CT lf.st.nx) rv=true→JW F h g k r (Ra p (NO rus)) w3:=fun {F3 w3 p rv rus} hf3 hm3 hty hrd hro=>by
       have q4:RS fn.ntmps F3 h2 g2 lf.st.nx lf.st.m lf.st.s t2 w3:=⟨q4.size,q4.kn,hm3,q4.im,q4.is_⟩
       refine Jl (K:=fun e a=>(Uf ρ s' n e a).runK some=some r) (fun e a hp hx ha=>?_) hty (Ac4 (fun e a h=>h) hr)
       have lp:=T.lp
       obtain⟨h3,gc,r1,r2,r3,r4,r5,r6⟩:=Jk hx q4 (by omega) hrd hro
       unfold Uf at ha
       simp only at ha
       generalize hmm:(ZbE e.all a ⟨0,0,[]⟩).2=m at ha
       rw [IH,AC,AC] at ha
       generalize hvv:(ZbE e.all a ⟨0,0,[]⟩).1.drop (e.ps.length+e.sl.length)=vc at ha r5 r6
       cases hbb:((R7 vc).okB (Gp m.np m.nr) && Pd (Gp m.np m.nr) m.s && Nat.ble (Bm ρ.p) m.np && Nat.ble m.np Ax) with
       | false=>rw [hbb] at ha; cases ha
       | true =>
        rw [hbb,Zab] at ha
        cases ha
        obtain⟨hbb,b5⟩:=As hbb
        obtain⟨hbb,b4⟩:=As hbb
        obtain⟨b2,b3⟩:=As hbb
        have b4:=Zah b4
        have b5:=Zah b5
        rw [AC] at b4
        have hmem:Al F3 h3 gc (AL.get m.s) w3:=by rw [← hmm]; exact r4.mem
        obtain⟨F4,hf4,p1,p2,p3,p4⟩:=back (np:=m.np) (nr:=m.nr) hf3 hmem (Ad.le_trans q1 r1) (fun j hj=>by rw [r2 j (by omega),q2 j (by omega)]; show g1 (JE ρ.p ρ.r j)=_; rw [Hx (by omega)]) (JX b3) b4 b5
        have hnn:=T.pre.n
        have hgg:∀ i,Gp m.np m.nr i=true→LZ g1 gc ρ.p.length n m.np (F9 ρ.p ρ.p.length n m.np i)=gc i:=fun i hi=>(p4 i hi).1
        rw [AC]
        have hpp:e.k.isP true=p:=by cases hek:e.k <;> rw [hek] at hp <;> cases p <;> first | rfl | cases hp
        refine⟨h3,LZ g1 gc ρ.p.length n m.np,NO rus,Ad.le_trans T.pre.le (Ad.le_trans q1 r1),fun i hi=>?_,p1.back hf4,p2,?_,V.okB_ren (fun i hi=>(p4 i hi).2) _ b2,V.den_ren hgg _ _ b2 (Ug r5),by rw [hpp]⟩
        · have:=Ap.1 hi
          rw [p3 i (by omega)]; exact T.pre.g i hi
        · show k≤n+_+_; omega
      have ret:∀ {vs:List (V Ty)},(OQ P lf.st.m lf.st.s fn.results.toList).runK some=some vs→Fl kp false vs lf.st E=some y→LeavesInM Fence.wide 0 P fn t2 (JW F h g k r) d2 .returning w2:=fun {vs} hvs hf=>by
       rw [hbs]
       refine Ec (F:=⟨F.w,F.h,X⟩) (h:=h2) (g:=g2) (M:=AL.get lf.st.s) (by simp) (fun F3 w3 hf3 hm3=>?_) bs F2 w2 f0 q4.mem nd hXb
       obtain⟨us,f1,f2⟩:=II q4.kn hm3 hvs
       exact⟨NO us,f2,fin hf3 hm3 hf f1 (Xs q4.im q4.is_ hvs)⟩
      unfold GN at e2
      cases he:lf.e with
      | normal =>
       rw [he] at e2
       simp only at e2
       rw [Tr.runK_some] at e2
       obtain⟨vs,hvs,e2⟩:=Zag.1 e2
       exact ret hvs e2
      | ret =>
       rw [he] at e2
       simp only at e2
       rw [Tr.runK_some] at e2
       obtain⟨vs,hvs,e2⟩:=Zag.1 e2
       exact ret hvs e2
      | pan v =>
       rw [he] at e2
       intro u hu ho
       show LeavesInM Fence.wide 0 P fn t2 (JW F h g k r) d2 _ w2
       rw [hbs]
       refine Ec (F:=⟨F.w,F.h,X⟩) (h:=h2) (g:=g2) (M:=AL.get lf.st.s) (by simp) (fun F3 w3 hf3 hm3=>?_) bs F2 w2 f0 q4.mem nd hXb
       unfold LeavesIn
       exact fin (p:=true) (rus:=[u]) hf3 hm3 e2 (by unfold V.dens; exact⟨u,[],rfl,hu,by unfold V.dens; rfl⟩) (by unfold V.oksB; rw [ho]; rfl)
      | exit id=>rw [he] at e2; cases e2
 · cases hr
end
def B (l:List Nat):ByteArray:=⟨(l.map UInt8.ofNat).toArray⟩
def NQ (r:Nat):Code→Option Code
 | .seq a b=>match NQ r a with
  | some c=>some c
  | none=>NQ r b
 | .cond _ a b=>match NQ r a with
  | some c=>some c
  | none=>NQ r b
 | .block _ c | .scope c | .rangeFunc _ _ _ c=>NQ r c
 | .loop c=>bif Nat.beq (ND c) r then some c else NQ r c
 | _=>none
def Bz (f:Func):Code:=match f.body with
 | some c=>c
 | none=>.skip
def Cv (r:Nat) (f:Func):Code:=match NQ r (Bz f) with
 | some c=>c
 | none=>.skip
def Ab2 (r:Nat):Code→Option Code
 | .seq a b=>match Ab2 r a with
  | some c=>some c
  | none=>Ab2 r b
 | .cond _ a b=>match Ab2 r a with
  | some c=>some c
  | none=>Ab2 r b
 | .block _ c | .scope c | .loop c=>Ab2 r c
 | .rangeFunc f ps a b=>bif Nat.beq (ND b) r then some (.rangeFunc f ps a b) else none
 | _=>none
def Qz (r:Nat):Code→Option Code
 | .seq a b=>match Qz r a with
  | some c=>some c
  | none=>Qz r b
 | .cond x a b=>bif Nat.beq (ND (.cond x a b)) r then some (.cond x a b) else match Qz r a with
  | some c=>some c
  | none=>Qz r b
 | .block _ c | .scope c | .loop c | .rangeFunc _ _ _ c=>Qz r c
 | _=>none
def Fm (k:LJ) (f:Func):Code:=match k with
 | .loop r=>.loop (Cv r f)
 | .rf r=>match Ab2 r (Bz f) with
  | some c=>c
  | none=>.skip
 | .cond r=>match Qz r (Bz f) with
  | some c=>c
  | none=>.skip
 | _=>.skip
def AhR:LJ→LJ→Bool
 | .loop a,.loop b=>Nat.beq a b
 | .rf a,.rf b=>Nat.beq a b
 | .cond a,.cond b=>Nat.beq a b
 | _,_=>false
theorem AhS:∀ {a b:LJ},AhR a b=true→a=b
 | .loop a,.loop b,h=>by rw [Zac h]
 | .rf a,.rf b,h=>by rw [Zac h]
 | .cond a,.cond b,h=>by rw [Zac h]
 | .loop _,.rf _,h | .loop _,.cond _,h | .loop _,.block _,h | .rf _,.loop _,h | .rf _,.cond _,h | .rf _,.block _,h | .cond _,.loop _,h | .cond _,.rf _,h | .cond _,.block _,h | .block _,_,h=>by cases h
section
variable {Ty:Nat→Type}
abbrev FO (Ty:Nat→Type):=List (LJ×(St Ty→Tr (Lf Ty)))
def A6:FO Ty→NA Ty
 | [],_=>none
 | (r,f)::t,k=>bif AhR k r then some f else A6 t k
variable [rT:∀ k,Rep (Ty k)] [RFs] [UM Ty] [UML Ty] {y:Bool} {P:Program} {N:Nat}
def Xt (y:Bool) (P:Program) (N:Nat) (fn:Func):FO Ty→Prop
 | []=>True
 | (k,f)::t=>B7 y P N f (Fm k fn)∧Xt y P N fn t
theorem ZL {fn:Func}:∀ {L:FO Ty},Xt y P N fn L→∀ {k:LJ} {f:St Ty→Tr (Lf Ty)},A6 L k=some f→B7 y P N f (Fm k fn)
 | [],_,_,_,hf=>by cases hf
 | (j,g)::t,hL,k,f,hf=>by
  have h2:(bif AhR k j then some g else A6 t k)=some f:=hf
  cases hb:AhR k j with
  | true=>rw [hb] at h2; cases h2; rw [AhS hb]; exact hL.1
  | false=>rw [hb] at h2; exact ZL hL.2 h2
theorem A0 {fn:Func} {c:Code} {L:FO Ty} {ks:List LJ} (hL:Xt y P N fn L) (hz:BD (A6 L) c=ks.map fun k=>Fm k fn) (hr:ks.map (fun k=>IC (Fm k fn))=ks) :
  ∀ z∈BD (A6 L) c,∀ f,A6 L (IC z)=some f→B7 y P N f z:=by
 intro z hzm f hf
 rw [hz] at hzm
 obtain⟨r,hr1,rfl⟩:=ZaY.1 hzm
 have e:IC (Fm r fn)=r:=by
  have key:∀ (l:List LJ),l.map (fun r=>IC (Fm r fn))=l→∀ r∈l,IC (Fm r fn)=r:=by
   intro l
   induction l with
   | nil=>intro _ r hr; cases hr
   | cons a t ih =>
    intro h r hr
    rw [ZbB] at h
    obtain⟨h1,h2⟩:=List.cons.inj h
    rcases Zam.1 hr with rfl | hr
    · exact h1
    · exact ih h2 r hr
  exact key ks hr r hr1
 rw [e] at hf
 exact ZL hL hf
abbrev Lm (Ty:Nat→Type):=List (Nat×FO Ty)
def AdP:Lm Ty→FuncId→NA Ty
 | [],_=>fun _=>none
 | (j,L)::t,f=>bif Nat.beq j f then A6 L else AdP t f
def HX (P:Program):Lm Ty→Prop
 | []=>True
 | (f,L)::t=>(∀ fn c,P.funcs[f]? = some fn→fn.body=some c→∀ x∈BD (A6 L) c,∀ q,A6 L (IC x)=some q→B7 true P fn.ntmps q x)∧HX P t
theorem EO:HX P ([]:Lm Ty):=trivial
theorem Ago:∀ {I:Lm Ty},HX P I→∀ (f:FuncId)(fn:Func)(c:Code),P.funcs[f]? = some fn→fn.body=some c→∀ x∈BD (AdP I f) c,∀ q,AdP I f (IC x)=some q→B7 true P fn.ntmps q x
 | [],_,f,fn,c,_,_,x,_,q,hq=>by cases hq
 | (j,L)::t,H,f,fn,c,hf,hb,x,hx,q,hq=>by
  have e:AdP ((j,L)::t) f=bif Nat.beq j f then A6 L else AdP t f:=rfl
  rw [e] at hx hq
  cases hbb:Nat.beq j f with
  | true =>
   rw [hbb] at hx hq
   have:=Zac hbb
   subst this
   exact H.1 fn c hf hb x hx q hq
  | false=>rw [hbb] at hx hq; exact Ago H.2 f fn c hf hb x hx q hq
theorem EU {f:FuncId} {fn:Func} {c:Code} {L:FO Ty} (hf:P.funcs[f]? = some fn) (hb:fn.body=some c) (H:∀ x∈BD (A6 L) c,∀ q,A6 L (IC x)=some q→B7 true P fn.ntmps q x) :
  ∀ fn c,P.funcs[f]? = some fn→fn.body=some c→∀ x∈BD (A6 L) c,∀ q,A6 L (IC x)=some q→B7 true P fn.ntmps q x:=fun fn' c' hf' hb'=>by
 rw [hf] at hf'
 cases hf'
 rw [hb] at hb'
 cases hb'
 exact H
variable [UV Ty] [UL Ty] [UMP Ty P]
abbrev Ca (P:Program) (T:List (Nat×GL Ty)) (I:Lm Ty):Bi Ty:=Acx P (AhO T) (AdP I) 9
theorem A5 {T:List (Nat×GL Ty)} {I:Lm Ty} (hP:Ga P) (hmix:P.follows .mixedOrders=true) (hT:K7 P T) (hI:HX P I):CU P (Ca P T I):=Rh hP hmix (TE hT) (fun f _=>Ago hI f) 9
omit [UL Ty] [UMP Ty P] in
theorem Agp {f:FuncId} {D:List (Nat×C)} {kp:Nat} {E:List Wo}:Bb P f (FA D kp E (fun _=>none):GL Ty):=by
 intro args k s r hr
 unfold FA at hr
 split at hr
 · cases hb:Nat.beq (Bm _) kp with
   | false=>rw [hb] at hr; cases hr
   | true=>rw [hb] at hr; cases hr
 · cases hr
end
def Ajc (P:Program):Bool:=P.funcs.toList.all fun fn=>!(fn.name == "runtime.NumGoroutine")
theorem Agq {P:Program} (h:Ajc P=true):Ga P:=fun f fn hf=>by
 have:=Za9.1 h fn (ZaB (i:=f) (by simpa using hf))
 simpa using this
section
variable {Ty:Nat→Type}
mutual
/-- is it told without the memory? -/
def KA:V Ty→Bool
 | .int _ _ | .bool _ | .str _ | .nilp | .nils | .nilm | .nilf | .nili | .undef=>true
 | .agg cs | .tup cs=>ZeK cs
 | .ifc _ x=>KA x
 | _=>false
def ZeK:List (V Ty)→Bool
 | []=>true
 | c::cs=>KA c && ZeK cs
end
def Ab3 (v:V Ty) (s:A7 Ty):V Ty×A7 Ty:=match v with
 | .agg cs=>match MS cs s with
  | (cs',s')=>(.agg cs',s')
 | v=>VU v s
def Rn (vs:List (V Ty)) (s:A7 Ty):List (V Ty)×A7 Ty:=match vs with
 | []=>([],s)
 | v::r=>match Ab3 v s with
  | (v',s1)=>match Rn r s1 with
   | (r',s2)=>(v'::r',s2)
def Ui (l:GL Ty):GL Ty:=fun args k s=>match Rn args s with
 | (vs,_)=>bif V.oksB (fun _=>false) vs then(l vs 0 []).bind fun r=>(match r.s with
     | []=>bif KA r.v then .ret ⟨r.p,r.v,s,k⟩ else .fail
     | _=>.fail)
  else .fail
variable [rT:∀ k,Rep (Ty k)] [RFs] [UM Ty] [UML Ty] {P:Program}
mutual
theorem NR {g g':GE} {h h':Ad} {p:Nat→Bool}:∀ {v:V Ty} {u:Value},KA v=true→v.den g h u→v.den g' h' u∧v.okB p=true
 | .int _ _,u,_,hv | .bool _,u,_,hv | .str _,u,_,hv | .nilp,u,_,hv | .nils,u,_,hv | .nilm,u,_,hv | .nilf,u,_,hv | .nili,u,_,hv | .undef,u,_,hv=>⟨hv,rfl⟩
 | .agg cs,u,hp,hv=>by
  unfold KA at hp
  unfold V.den at hv ⊢
  unfold V.okB
  obtain⟨us,e,h1⟩:=hv
  obtain⟨q1,q2⟩:=Zd6 (g':=g') (h':=h') (p:=p) hp h1
  exact⟨⟨us,e,q1⟩,q2⟩
 | .tup cs,u,hp,hv=>by
  unfold KA at hp
  unfold V.den at hv ⊢
  unfold V.okB
  obtain⟨us,e,h1⟩:=hv
  obtain⟨q1,q2⟩:=Zd6 (g':=g') (h':=h') (p:=p) hp h1
  exact⟨⟨us,e,q1⟩,q2⟩
 | .ifc t x,u,hp,hv=>by
  unfold KA at hp
  unfold V.den at hv ⊢
  unfold V.okB
  obtain⟨us,e,h1⟩:=hv
  obtain⟨q1,q2⟩:=NR (g':=g') (h':=h') (p:=p) hp h1
  exact⟨⟨us,e,q1⟩,q2⟩
 | .ptr _ _,_,hp,_ | .ept _ _,_,hp,_ | .rpt _ _ _ _,_,hp,_ | .lst _ _,_,hp,_ | .hdr _ _,_,hp,_ | .mp _,_,hp,_ | .bsl _ _,_,hp,_ | .fn _ _ _,_,hp,_ | .arr _ _,_,hp,_=>by simp [KA] at hp
theorem Zd6 {g g':GE} {h h':Ad} {p:Nat→Bool}:∀ {vs:List (V Ty)} {us:List Value},ZeK vs=true→V.dens g h vs us→V.dens g' h' vs us∧V.oksB p vs=true
 | [],us,_,hv=>⟨hv,rfl⟩
 | c::cs,us,hp,hv=>by
  unfold ZeK at hp
  obtain⟨p1,p2⟩:=As hp
  unfold V.dens at hv ⊢
  obtain⟨u,us',e,h1,h2⟩:=hv
  obtain⟨a1,a2⟩:=NR (g':=g') (h':=h') (p:=p) p1 h1
  obtain⟨b1,b2⟩:=Zd6 (g':=g') (h':=h') (p:=p) p2 h2
  refine⟨⟨u,us',e,a1,b1⟩,?_⟩
  unfold V.oksB
  rw [a2,b2]; rfl
end
theorem Ab4 {F:Fr} {w:World} {n:Nat} {v:V Ty} {h:Ad} {g:GE} {s:A7 Ty} {u:Value} (hm:Al F h g (AL.get s) w) (hi:JD n (AL.get s)) (hk:v.okB (CT n)=true) (hv:v.den g h u) :
  ∃ h' g',Gc F w h g s n h' g' (Ab3 v s).2 n∧(Ab3 v s).1.okB (CT n)=true∧(Ab3 v s).1.den g' h' u:=by
 unfold Ab3
 split
 · rename_i cs
   unfold V.den at hv
   unfold V.okB at hk
   obtain⟨us,e,hus⟩:=hv
   obtain⟨h',g',a,a2,a3⟩:=K8 hm hi hk hus
   refine⟨h',g',a,?_,?_⟩
   · show V.okB _ (.agg _)=true
     unfold V.okB; exact a2
   · show V.den g' h' (.agg _) u
     unfold V.den; exact⟨us,e,a3⟩
 · exact Qw hm hi hk hv
theorem Ro {F:Fr} {w:World} {n:Nat}:∀ {vs:List (V Ty)} {h:Ad} {g:GE} {s:A7 Ty} {us:List Value},Al F h g (AL.get s) w→JD n (AL.get s)→V.oksB (CT n) vs=true→V.dens g h vs us →
  ∃ h' g',Gc F w h g s n h' g' (Rn vs s).2 n∧V.oksB (CT n) (Rn vs s).1=true∧V.dens g' h' (Rn vs s).1 us
 | [],h,g,s,us,hm,hi,hk,hv=>⟨h,g,Gc.refl hm hi,hk,hv⟩
 | v::r,h,g,s,us,hm,hi,hk,hv=>by
  unfold V.oksB at hk
  obtain⟨k1,k2⟩:=As hk
  unfold V.dens at hv
  obtain⟨u,us',rfl,v1,v2⟩:=hv
  obtain⟨h1,g1,a,a2,a3⟩:=Ab4 hm hi k1 v1
  obtain⟨h2,g2,b,b2,b3⟩:=Ro (vs:=r) a.mem a.is_ k2 (a.dens k2 v2)
  unfold Rn
  refine⟨h2,g2,a.trans b,?_,?_⟩
  · show(V.okB (CT n) (Ab3 v s).1 && V.oksB (CT n) (Rn r (Ab3 v s).2).1)=true
    rw [a2,b2]; rfl
  · show V.dens g2 h2 (_::_) _
    unfold V.dens
    exact⟨u,us',rfl,b.den a2 a3,b3⟩
theorem Ma {f:FuncId} {l:GL Ty} (hl:Bb P f l):Bb P f (Ui l):=by
 intro args k s r hr F h g w vals hm hin hargs hden
 unfold Ui at hr
 obtain⟨h1,g1,a,a2,a3⟩:=Ro hm hin hargs hden
 generalize hst:Rn args s=q at hr a a2 a3
 obtain⟨vs,s1⟩:=q
 simp only at hr a a2 a3
 cases hb:V.oksB (fun _=>false) vs with
 | false=>rw [hb] at hr; cases hr
 | true =>
  rw [hb,Zab] at hr
  obtain⟨r1,e1,e2⟩:=Tr.run_bind hr
  have hok:V.oksB (CT 0) vs=true:=V.oksB_iff.2 fun x hx=>V.okB_imp (fun i hi=>by cases hi) _ (V.oksB_iff.1 hb x hx)
  have hc:=hl vs 0 [] r1 e1 ⟨w,h1,Aip⟩ h1 g1 w vals (Al.begin h1 w g1 a.mem.has a.mem.gl) (fun i c hi=>by cases hi) hok a3
  split at e2
  · rename_i hs
    cases hp:KA r1.v with
    | false=>rw [hp] at e2; cases e2
    | true =>
     rw [hp,Zab] at e2
     cases e2
     refine hc.mono fun en w2 hcr=>?_
     obtain⟨h2,g2,u,q1,q2,q3,q4,q5,q6,q7,q8⟩:=hcr
     obtain⟨d1,d2⟩:=NR (g':=g) (h':=h) (p:=CT k) hp q7
     have b:=q3.below
     exact⟨h,g,u,Ad.le_refl _,fun _ _=>rfl,hm.grow ⟨b.os,b.tape,b.output,b.size,fun i hi _=>b.block i hi⟩,hin,Zas _,d2,d1,q8⟩
  · cases e2
end
end Go.Proofs.YtkpgggfibljflaaGreatDoor
namespace Go.Proofs.YtkpgggfibljflaaGreatDoor
noncomputable section
open Go Go.RowKit
open Rep (rep)
section
variable {Ty:Nat→Type}
def Ac5 (m:List (Nat×V Ty)):List Nat→Option (List (V Ty))
 | []=>some []
 | k::r=>match AL.get m k with
  | some v=>match Ac5 m r with
   | some vs=>some (v::vs)
   | none=>none
  | none=>none
def Xu:List Nat→List (V Ty)→List (Nat×V Ty)
 | k::r,v::vs=>(k,v)::Xu r vs
 | _,_=>[]
def Uj (n:Nat):List Nat→Bool
 | []=>true
 | k::r=>Nat.blt k n && Uj n r
def Ac6:List (V Ty)→Option (List (V Ty)×V Ty)
 | []=>none
 | [x]=>some ([],x)
 | x::r=>match Ac6 r with
  | some (l,y)=>some (x::l,y)
  | none=>none
def Agr (pend:Option Code) (st:St Ty):Tr (Lf Ty):=match pend with
 | none=>.ret ⟨.normal,st⟩
 | some .ret=>.ret ⟨.ret,st⟩
 | some (.exit id)=>.ret ⟨.exit id,st⟩
 | some _=>.fail
def Ajd:Ah9 Ty→Option (Option Code)
 | .normal=>some none
 | .ret=>some (some .ret)
 | .exit id=>some (some (.exit id))
 | .pan _=>none
variable [RFs] [UV Ty] [UM Ty]
def AjK (P:Program) (call:Bi Ty) (cutsA cutsB:NA Ty) (tag:Nat):GL Ty:=fun args k s=>match Ac6 args with
 | some (vals,.mp i)=>match AL.get s i with
  | some (.lp .ready none t2 ks vs)=>bif Nat.beq t2 tag && Nat.beq (Bm vals) (Bm (RFs.rf tag).ps.toList) && HQ (RFs.rf tag).ps.toList && Uj (RFs.rf tag).n (RFs.rf tag).ps.toList && Nat.blt i k && GH (RFs.rf tag).assign && GH (RFs.rf tag).body then
   (CI P (RFs.rf tag).n (AiT call) cutsA (RFs.rf tag).assign ⟨Xu (RFs.rf tag).ps.toList vals++Xu ks vs,s,k⟩).bind fun l1=>match l1.e with
    | .normal=>match AL.get l1.st.s i with
     | some (.lp .ready none t3 ks3 vs3)=>(CI P (RFs.rf tag).n (AiT call) cutsB (RFs.rf tag).body ⟨l1.st.m,AL.put l1.st.s i (.lp .busy none t3 ks3 vs3),l1.st.nx⟩).bind fun l2=>match Ajd l2.e with
      | some pd=>match AL.get l2.st.s i with
       | some (.lp .busy none t4 ks4 vs4)=>LL k false (.bool pd.isNone) (AL.put l2.st.s i (.lp (bif pd.isNone then .ready else .done) pd t4 ks4 vs4))
       | _=>.fail
      | none=>.fail
     | _=>.fail
    | _=>.fail
   else .fail
  | _=>.fail
 | _=>.fail
def Ajo (P:Program) (callI:Bi Ty) (g:Operand) (tag:Nat) (ks:List Nat) (st:St Ty):Tr (Lf Ty):=match Ih st.m g,Ac5 st.m ks with
 | some (.fn f a b),some vs=>bif Nat.blt f Ar then
   (Kz P callI (AL.put st.s st.nx (.lp .ready none tag ks vs)) (st.nx+1) f (a++[.fn Ar [] [.mp st.nx]]++b)).bind fun oc=>match oc with
    | .ok _ ws=>match AL.get (A7.app (AL.put st.s st.nx (.lp .ready none tag ks vs)) ws) st.nx with
     | some (.lp st' pend _ _ _)=>match st' with
      | .busy=>.fail
      | _=>Agr pend ⟨st.m,AL.del (A7.app (AL.put st.s st.nx (.lp .ready none tag ks vs)) ws) st.nx,st.nx+65⟩
     | _=>.fail
    | .pan _ _=>.fail
  else .fail
 | _,_=>.fail
end
section
variable {Ty:Nat→Type} [rT:∀ k,Rep (Ty k)] [RFs] [UM Ty] [UML Ty] {F:Fr} {h:Ad} {g:GE} {M:Mo Ty} {w w':World} {P:Program} {N:Nat}
theorem Rp {m:List (Nat×V Ty)} {t:Array Value} {p:Nat→Bool} (hk:P3 g h m t) (hi:Tq p m):∀ {ks:List Nat} {vs:List (V Ty)},Ac5 m ks=some vs→V.oksB p vs=true∧Ah7 g h t ks vs
 | [],vs,hh=>by
  cases hh
  exact⟨rfl,rfl,[],by unfold V.dens; rfl,by simp⟩
 | k::r,vs,hh=>by
  unfold Ac5 at hh
  split at hh
  · rename_i v hv
    split at hh
    · rename_i ws hws
      cases hh
      obtain⟨q1,q2,us,q3,q4⟩:=Rp hk hi hws
      obtain⟨u,e1,e2⟩:=hk k v hv
      refine⟨by unfold V.oksB; rw [hi k v hv,q1]; rfl,by simp [q2],u::us,by unfold V.dens; exact⟨u,us,rfl,e2,q3⟩,fun j k' u' hj hu=>?_⟩
      cases j with
      | zero =>
       simp at hj hu
       subst hj hu
       exact e1
      | succ j=>exact q4 j k' u' (by simpa using hj) (by simpa using hu)
    · cases hh
  · cases hh
theorem Uk:∀ {args:List (V Ty)} {l:List (V Ty)} {x:V Ty},Ac6 args=some (l,x)→args=l++[x]
 | [],_,_,h=>by cases h
 | [y],l,x,h=>by cases h; rfl
 | y::z::r,l,x,h=>by
  unfold Ac6 at h
  split at h
  · rename_i l' y' hl
    cases h
    rw [Uk hl]; rfl
  · cases h
theorem Xv {t:Array Value}:∀ {ks:List Nat} {vs:List (V Ty)} {us:List Value},V.dens g h vs us→(∀ (j k:Nat)(u:Value),ks[j]? = some k→us[j]? = some u→t[k]? = some u)→∀ {k:Nat} {v:V Ty},AL.get (Xu ks vs) k=some v→∃ u,t[k]? = some u∧v.den g h u
 | [],vs,us,_,_,k,v,hv=>by cases vs <;> cases hv
 | _::_,[],us,_,_,k,v,hv=>by cases hv
 | j::r,x::vs,us,hd,hg,k,v,hv=>by
  unfold V.dens at hd
  obtain⟨u,us',rfl,h1,h2⟩:=hd
  have h3:(bif Nat.beq j k then some x else AL.get (Xu r vs) k)=some v:=hv
  cases hb:Nat.beq j k with
  | true =>
   rw [hb] at h3
   cases h3
   have:=Zac hb
   subst this
   exact⟨u,hg 0 j u rfl rfl,h1⟩
  | false =>
   rw [hb] at h3
   exact Xv h2 (fun j' k' u' hj hu=>hg (j'+1) k' u' (by simpa using hj) (by simpa using hu)) h3
theorem Xw {p:Nat→Bool}:∀ {ks:List Nat} {vs:List (V Ty)},V.oksB p vs=true→∀ {k:Nat} {v:V Ty},AL.get (Xu ks vs) k=some v→v.okB p=true
 | [],vs,_,k,v,hv=>by cases vs <;> cases hv
 | _::_,[],_,k,v,hv=>by cases hv
 | j::r,x::vs,ho,k,v,hv=>by
  unfold V.oksB at ho
  obtain⟨o1,o2⟩:=As ho
  have h3:(bif Nat.beq j k then some x else AL.get (Xu r vs) k)=some v:=hv
  cases hb:Nat.beq j k with
  | true=>rw [hb] at h3; cases h3; exact o1
  | false=>rw [hb] at h3; exact Xw o2 h3
theorem AL.get_append {α:Type}:∀ (l r:List (Nat×α))(k:Nat),AL.get (l++r) k=match AL.get l k with | some v=>some v | none=>AL.get r k
 | [],r,k=>rfl
 | (j,v)::l,r,k=>by
  show(bif Nat.beq j k then some v else AL.get (l++r) k)=match (bif Nat.beq j k then some v else AL.get l k) with | some v=>some v | none=>AL.get r k
  cases Nat.beq j k with
  | true=>rfl
  | false=>exact AL.get_append l r k
theorem Wm:∀ {ks:List Nat} {vs:List (V Ty)} {k:Nat},ks.length=vs.length→AL.get (Xu ks vs) k=none→k ∉ ks
 | [],_,k,_,_=>by simp
 | j::r,[],k,hl,_=>by simp at hl
 | j::r,v::vs,k,hl,hn=>by
  have h3:(bif Nat.beq j k then some v else AL.get (Xu r vs) k)=none:=hn
  cases hb:Nat.beq j k with
  | true=>rw [hb] at h3; cases h3
  | false =>
   rw [hb] at h3
   have:=Wm (by simpa using hl) h3
   intro hm
   rcases Zam.1 hm with rfl | hm
   · simp at hb
   · exact this hm
theorem ZM:∀ (ps:List Nat)(us:List Value)(t:Array Value),ps.length=us.length→ps.Nodup→(∀ p∈ps,p<t.size) →
  ((ps.zip us).foldl (fun tmps x=>tmps.setIfInBounds x.1 x.2) t).size=t.size∧(∀ (j k:Nat)(u:Value),ps[j]? = some k→us[j]? = some u→((ps.zip us).foldl (fun tmps x=>tmps.setIfInBounds x.1 x.2) t)[k]? = some u)∧(∀ k,k ∉ ps→((ps.zip us).foldl (fun tmps x=>tmps.setIfInBounds x.1 x.2) t)[k]? = t[k]?)
 | [],us,t,_,_,_=>⟨rfl,by simp,fun _ _=>rfl⟩
 | p::ps,[],t,hl,_,_=>by simp at hl
 | p::ps,u::us,t,hl,hn,hb=>by
  obtain⟨n1,n2⟩:=Zbu.1 hn
  obtain⟨h1,h2,h3⟩:=ZM ps us (t.setIfInBounds p u) (by simpa using hl) n2 (fun q hq=>by simpa using hb q (by simp [hq]))
  refine⟨by simpa using h1,fun j k v hj hv=>?_,fun k hk=>?_⟩
  · cases j with
    | zero =>
     simp at hj hv
     subst hj hv
     show(List.foldl _ _ _)[p]? = some u
     rw [List.zip_cons_cons,List.foldl_cons,h3 p n1]
     simp [hb p (by simp)]
    | succ j=>exact h2 j k v (by simpa using hj) (by simpa using hv)
  · rw [List.zip_cons_cons,List.foldl_cons,h3 k (fun hh=>hk (by simp [hh]))]
    rw [ZaX (fun hh=>hk (by simp [hh]))]
theorem Ul {n:Nat}:∀ {l:List Nat},Uj n l=true→∀ k∈l,k<n
 | [],_,k,hk=>by cases hk
 | j::r,h,k,hk=>by
  unfold Uj at h
  obtain⟨h1,h2⟩:=As h
  rcases Zam.1 hk with rfl | hk
  · exact Zah h1
  · exact Ul h2 k hk
variable [UV Ty] [UL Ty] [UMP Ty P]
theorem Al.loopTo {i:Nat} {st st':LoopState} {pd pd':Option Code} {tag:Nat} {ks:List Nat} {vs:List (V Ty)} {s:A7 Ty} (hm:Al F h g (AL.get s) w) (hi:AL.get s i=some (.lp st pd tag ks vs)) :
  ∃ r,w.heap[(g i).b]? = some (.loop r)∧r.state=st∧r.pending=pd∧r.params=(RFs.rf tag).ps∧r.assign=(RFs.rf tag).assign∧r.body=(RFs.rf tag).body∧r.tmps.size=(RFs.rf tag).n∧Ah7 g h r.tmps ks vs ∧
   Al F h g (AL.get (AL.put s i (.lp st' pd' tag ks vs))) (w.putObj (g i).b (.loop { r with state:=st',pending:=pd' })):=by
 obtain⟨h0,r,c1,c2,c3,c4,c5,c6,c7,c8⟩:=hm.cell i _ hi
 refine⟨r,c1,c2,c3,c4,c5,c6,c7,c8,?_⟩
 have hput:AL.get (AL.put s i (.lp st' pd' tag ks vs))=Mo.put (AL.get s) i (some (.lp st' pd' tag ks vs)):=by
  funext j; rw [AL.get_put]; unfold Mo.put
  by_cases hij:i=j
  · rw [if_pos hij,if_pos hij.symm]
  · rw [if_neg hij,if_neg (fun hh=>hij hh.symm)]
 rw [hput]
 exact hm.set hi h0 (Ig w _ _) ⟨h0,_,World.putObj_heap_same (Zak.1 c1).1,rfl,rfl,c4,c5,c6,c7,c8⟩
theorem JD.putC {n i:Nat} {s:A7 Ty} {c:AE Ty} (hin:JD n (AL.get s)) (hi:i<n) (hc:c.okB (CT n)=true):JD n (AL.get (AL.put s i c)):=fun j d hj=>by
 rw [AL.get_put] at hj
 split at hj
 · rename_i hh; subst hh; cases hj; exact⟨Ap.2 hi,hc⟩
 · exact hin j d hj
theorem Ab5 {call:Bi Ty} {cutsA cutsB:NA Ty} {tag:Nat} (hP:Ga P) (hmix:P.follows .mixedOrders=true) (hc:CU P call)
  (hA:∀ z∈BD cutsA (RFs.rf tag).assign,∀ f,cutsA (IC z)=some f→B7 false P (RFs.rf tag).n f z) (hB:∀ z∈BD cutsB (RFs.rf tag).body,∀ f,cutsB (IC z)=some f→B7 false P (RFs.rf tag).n f z) :
  Bb P Ar (AjK P call cutsA cutsB tag):=by
 intro args k s r hr F h g w vals hm hin hargs hden
 unfold AjK at hr
 split at hr
 · rename_i vl i hlast
   have hlast:=Uk hlast
   subst hlast
   split at hr
   · rename_i t2 ks vs hcell
     cases hb:(Nat.beq t2 tag && Nat.beq (Bm vl) (Bm (RFs.rf tag).ps.toList) && HQ (RFs.rf tag).ps.toList && Uj (RFs.rf tag).n (RFs.rf tag).ps.toList && Nat.blt i k && GH (RFs.rf tag).assign && GH (RFs.rf tag).body) with
     | false=>rw [hb] at hr; cases hr
     | true =>
      rw [hb,Zab] at hr
      obtain⟨hb,b7⟩:=As hb
      obtain⟨hb,b6⟩:=As hb
      obtain⟨hb,b5⟩:=As hb
      obtain⟨hb,b4⟩:=As hb
      obtain⟨hb,b3⟩:=As hb
      obtain⟨b1,b2⟩:=As hb
      have b1:=Zac b1
      subst b1
      have b2:=Zac b2
      rw [AC,AC] at b2
      have b3:=GI b3
      have b5:i<k:=Zah b5
      -- the values
      obtain⟨us,hus⟩:∃ us,vals=us++[Value.map (some (g i).b)]∧V.dens g h vl us:=by
       have key:∀ {vl:List (V Ty)} {vals:List Value},V.dens g h (vl++[.mp i]) vals→∃ us,vals=us++[Value.map (some (g i).b)]∧V.dens g h vl us:=by
        intro vl
        induction vl with
        | nil =>
         intro vals hd
         obtain⟨u,rfl,hu⟩:=OY hd
         unfold V.den at hu
         exact⟨[],by rw [hu]; rfl,by unfold V.dens; rfl⟩
        | cons a vl ih =>
         intro vals hd
         rw [ZaQ] at hd
         unfold V.dens at hd
         obtain⟨u,us',rfl,h1,h2⟩:=hd
         obtain⟨us,rfl,h3⟩:=ih h2
         exact⟨u::us,rfl,by unfold V.dens; exact⟨u,us,rfl,h1,h3⟩⟩
       exact key hden
      obtain⟨rfl,husd⟩:=hus
      have hul:=V.dens_len husd
      obtain⟨hnl,rr,c1,c2,c3,c4,c5,c6,c7,c8⟩:=hm.cell i _ hcell
      have hvok:=(hin i _ hcell).2
      obtain⟨hkl,kus,kd,kg⟩:=c8
      obtain⟨l1,e1,e2⟩:=Tr.run_bind hr
      show FM P Ar _ w _
      unfold FM
      rw [if_pos rfl]
      refine⟨(g i).b,us,rr,rfl,c1,by rw [c4,← ZaN,← b2,hul],?_⟩
      refine roundIn_of_wpIn trivial ?_
      have hzip:((rr.params.zip us.toArray).foldl (fun tmps x=>tmps.setIfInBounds x.1 x.2) rr.tmps)=(((RFs.rf t2).ps.toList.zip us).foldl (fun tmps x=>tmps.setIfInBounds x.1 x.2) rr.tmps):=by
       rw [c4,← Array.foldl_toList]
       congr 1
       simp
      obtain⟨p1,p2,p3⟩:=ZM (RFs.rf t2).ps.toList us rr.tmps (by rw [← b2,hul]) b3 (fun q hq=>by rw [c7]; exact Ul b4 q hq)
      have hargs2:V.oksB (CT k) vl=true:=V.oksB_iff.2 fun x hx=>V.oksB_iff.1 hargs x (ZaL _ hx)
      have hL1:∀ (F1:Fr)(h1:Ad)(g1:GE)(w1:World),True:=fun _ _ _ _=>trivial
      rw [c5,c6]
      refine(Bt (y:=false) hP hmix (Abx hc) (fun _=>TA) (RFs.rf t2).assign (fun _=>b6) hA _ l1 e1 F h g _ w _ [] ⟨?_,?_,hm,?_,hin⟩ ?_).rd (fun⟨_,_,hh⟩=>hh) (g i).b
      · rw [hzip,p1,c7]
      · intro q v hv
        rw [AL.get_append] at hv
        rw [hzip]
        split at hv
        · rename_i v' hv'
          cases hv
          exact Xv husd p2 hv'
        · rename_i hnone
          obtain⟨u,f1,f2⟩:=Xv kd kg hv
          exact⟨u,by rw [p3 q (Wm b2.symm hnone)]; exact f1,f2⟩
      · intro q v hv
        rw [AL.get_append] at hv
        split at hv
        · rename_i v' hv'
          cases hv
          exact Xw hargs2 hv'
        · exact Xw hvok hv
      · intro F1 d1 h1 g1 t1 w1 q0 q1 q2 q3 q4
        cases he:l1.e with
        | normal =>
         rw [he] at e2
         simp only at e2
         split at e2
         · rename_i t3 ks3 vs3 hcell3
           have hi1:i<l1.st.nx:=by
            have:k≤l1.st.nx:=q3
            omega
           obtain⟨r3,d1',d2,d3,d4,d5,d6,d7,d8,hm3⟩:=q4.mem.loopTo (st':=.busy) (pd':=none) hcell3
           have hgi:g1 i=g i:=q2 i b5
           obtain⟨l2,f1,f2⟩:=Tr.run_bind e2
           refine⟨_,run_beginRound (by rw [← hgi]; exact d1') d2,?_⟩
           have hbusy:({ r3 with state:=LoopState.busy }:Loop)={ r3 with state:=.busy,pending:=none }:=by rw [← d3]
           rw [hbusy,← hgi]
           refine(Bt (y:=false) hP hmix (Abx hc) (fun _=>TA) (RFs.rf t2).body (fun _=>b7) hB _ l2 f1 F1 h1 g1 t1 _ _ d1 ⟨q4.size,q4.kn,hm3,q4.im,q4.is_.putC hi1 (q4.is_ _ _ hcell3).2⟩ ?_).rd (fun⟨_,_,hh⟩=>hh) _
           intro F2 d2' h2 g2 t2' w2 r0 r1 r2 r3' r4
           split at f2
           · rename_i pd hpd
             split at f2
             · rename_i t4 ks4 vs4 hcell4
               have hi2:i<l2.st.nx:=by
                have:l1.st.nx≤l2.st.nx:=r3'
                omega
               obtain⟨r5,s1,s2,s3,s4,s5,s6,s7,s8,hm5⟩:=r4.mem.loopTo (st':=bif pd.isNone then .ready else .done) (pd':=pd) hcell4
               have hg2:g2 i=g1 i:=r2 i hi1
               obtain⟨g3,a1,a2,a3,a4,a5,a6,a7⟩:=Pb hm5 (r4.is_.putC hi2 (r4.is_ _ _ hcell4).2) (u:=.bool pd.isNone) (by unfold V.den; rfl) f2
               have hR:JW F h g k r (.returned (.bool pd.isNone)) (w2.putObj (g2 i).b (.loop { r5 with state:=bif pd.isNone then .ready else .done,pending:=pd })) :=
                ⟨h2,g3,_,Ad.le_trans q1 r1,fun j hj=>by
                 have hjk:=Ap.1 hj
                 have hkn:k≤l1.st.nx:=q3
                 rw [a1 j hj,r2 j (Zaq hjk hkn),q2 j hjk],(a2.back r0).back q0,a3,a4,a5,a6,by rw [a7]; rfl⟩
               have fin:∃ v w',(Instr.endRound (g1 i).b pd).run P w2=.ok v w'∧JW F h g k r (.returned v) w':=by
                refine⟨.bool pd.isNone,_,run_endRound (r:=r5) pd (by rw [← hg2]; exact s1),?_⟩
                rw [← hg2]
                cases pd <;> exact hR
               cases he2:l2.e with
               | normal=>rw [he2] at hpd; cases hpd; exact fin
               | ret=>rw [he2] at hpd; cases hpd; exact fin
               | exit id=>rw [he2] at hpd; cases hpd; exact fin
               | pan v=>rw [he2] at hpd; cases hpd
             · cases f2
           · cases f2
         · cases e2
        | exit id=>rw [he] at e2; cases e2
        | ret=>rw [he] at e2; cases e2
        | pan v=>rw [he] at e2; cases e2
   · cases hr
 · cases hr
end
section
variable {Ty:Nat→Type} [rT:∀ k,Rep (Ty k)] [RFs] [UM Ty] [UML Ty] {F:Fr} {h:Ad} {g:GE} {M:Mo Ty} {w w':World} {P:Program} {N:Nat}
theorem Al.allocX (hm:Al F h g M w) (o:Obj):Al (F.put w.heap.size (some o)) h g M (w.alloc o):=by
 have hm2:=hm.grow (World.grownBy_alloc w o none)
 refine⟨hm2.below,hm2.le,hm2.old,hm2.has,hm2.cell,fun i c hi hn=>?_,hm2.inj,fun b x hx=>?_,hm2.glo⟩
 · obtain⟨q1,q2,q3,q4⟩:=hm2.own i c hi hn
   have:=(hm.own i c hi hn).2.1
   refine⟨q1,q2,?_,q4⟩
   show(if (g i).b=w.heap.size then _ else F.X (g i).b)=none
   rw [if_neg (by omega)]; exact q3
 · replace hx:(if b=w.heap.size then some o else F.X b)=some x:=hx
   split at hx
   · rename_i hb
     cases hx
     subst hb
     refine⟨hm.size,World.alloc_heap_new _ _,fun ofs=>?_⟩
     cases hx:h w.heap.size ofs with
     | none=>rfl
     | some x=>have:=hm.lt hx; omega
   · exact hm2.ext b x hx
theorem Al.X_new (hm:Al F h g M w):F.X w.heap.size=none:=by
 cases hx:F.X w.heap.size with
 | none=>rfl
 | some x=>have:=(Zak.1 (hm.ext _ x hx).2.1).1; omega
variable [UV Ty] [UL Ty] [UMP Ty P]
theorem Aje {callI:Bi Ty} {g0:Operand} {tag:Nat} {ks:List Nat} {ps:Array Tmp} {assign body:Code} (hP:Ga P) (hc:CU P callI) (hrf:RFs.rf tag=⟨N,ps,assign,body⟩):B7 true P N (Ajo P callI g0 tag ks) (.rangeFunc g0 ps assign body):=by
 intro st lf hr F h g t w Q d hs hK
 unfold Ajo at hr
 split at hr
 · rename_i f a b vs hg0 hvs
   cases hlt:Nat.blt f Ar with
   | false=>rw [hlt] at hr; cases hr
   | true =>
    rw [hlt,Zab] at hr
    obtain⟨oc,hr1,hr2⟩:=Tr.run_bind hr
    have hge:=Qm (d:=d) hs.kn g0 _ hg0
    have hgo:=Af9 hs.im g0 _ hg0
    unfold V.den at hge
    obtain⟨as,bs,hge,ha,hb⟩:=hge
    rw [Tc hlt] at hge
    unfold V.okB at hgo
    obtain⟨o1,o2⟩:=As hgo
    obtain⟨hvok,hkvs⟩:=Rp hs.kn hs.im hvs
    have hnx:∀ i,CT st.nx i=true→CT (st.nx+1) i=true:=FN (Nat.le_succ _)
    show(Code.rangeFunc g0 ps assign body).wp P Q ⟨t,d⟩ w
    refine wpIn_wide.1 (wpIn_rangeFunc (n:=0) fun fn _=>?_)
    -- the memory at the call
    have hmA:=hs.mem.allocX (.deferred (some []))
    have hXn:=hs.mem.X_new
    have hsz:(w.alloc (.deferred (some []))).heap.size=w.heap.size+1:=by simp
    have hfd:FD F (F.put w.heap.size (some (.deferred (some [])))) d (Zc w.heap.size::d):=by
     refine⟨rfl,rfl,fun b x hx=>?_,[w.heap.size],rfl,by simp,fun b hb=>?_⟩
     · show(if b=w.heap.size then _ else F.X b)=some x
       rw [if_neg (fun hh=>by rw [hh,hXn] at hx; cases hx)]; exact hx
     · simp at hb
       subst hb
       refine⟨hXn,?_⟩
       show(if w.heap.size=w.heap.size then _ else _)=_
       rw [if_pos rfl]
    have hnewg:∀ i,CT st.nx i=true→He g st.nx ⟨w.heap.size+1,0,0,false⟩ i=g i:=fun i hi=>DM (HC _) hi
    have hput:AL.get (AL.put st.s st.nx (.lp .ready none tag ks vs))=Mo.put (AL.get st.s) st.nx (some (.lp .ready none tag ks vs)):=by
     funext j; rw [AL.get_put]; unfold Mo.put
     by_cases hij:st.nx=j
     · rw [if_pos hij,if_pos hij.symm]
     · rw [if_neg hij,if_neg (fun hh=>hij hh.symm)]
    have hm1:Al (F.put w.heap.size (some (.deferred (some [])))) h (He g st.nx ⟨w.heap.size+1,0,0,false⟩) (AL.get (AL.put st.s st.nx (.lp .ready none tag ks vs))) (M8 w ⟨.ready,none,fn,t,ps,assign,body,w.heap.size⟩):=by
     rw [hput]
     refine hmA.newB (HC _) hs.is_ (World.grownBy_alloc _ _ none) (by show(w.alloc _).heap.size≤w.heap.size+1; rw [hsz]; exact Zas _) (by show w.heap.size+1<((w.alloc (.deferred (some []))).alloc _).heap.size; rw [World.size_alloc,hsz]; exact Zbr _) ?_
     refine⟨rfl,⟨.ready,none,fn,t,ps,assign,body,w.heap.size⟩,?_,rfl,rfl,(congrArg LI.ps hrf).symm,(congrArg LI.assign hrf).symm,(congrArg LI.body hrf).symm,hs.size.trans (congrArg LI.n hrf).symm,?_⟩
     · have:=World.alloc_heap_new (w.alloc (.deferred (some []))) (.loop ⟨.ready,none,fn,t,ps,assign,body,w.heap.size⟩)
       rw [hsz] at this
       exact this
     · have:=hkvs.ren (g':=He g st.nx ⟨w.heap.size+1,0,0,false⟩) (f:=id) hnewg hvok
       rw [V.rens_id] at this
       exact this
    have hin1:G1 (CT (st.nx+1)) (AL.get (AL.put st.s st.nx (.lp .ready none tag ks vs))):=JD.putC (G1.mono hs.is_ hnx) (Zbr _) (V.oksB_imp hnx _ hvok)
    have hyd:V.dens (He g st.nx ⟨w.heap.size+1,0,0,false⟩) h (a++[.fn Ar [] [.mp st.nx]]++b) (as++[Value.func (.yield (w.heap.size+1)) #[] #[]]++bs):=by
     refine V.dens_append (V.dens_append (V.dens_agree hnewg o1 ha) ?_) (V.dens_agree hnewg o2 hb)
     unfold V.dens V.dens
     refine⟨_,[],rfl,?_,rfl⟩
     unfold V.den
     refine⟨[],[.map (some (w.heap.size+1))],?_,by unfold V.dens; rfl,?_⟩
     · unfold Ad6; rw [if_pos rfl]
     · unfold V.dens V.dens
       refine⟨_,[],rfl,?_,rfl⟩
       unfold V.den
       rw [Cb]
    have hyo:V.oksB (CT (st.nx+1)) (a++[.fn Ar [] [.mp st.nx]]++b)=true:=by
     refine V.oksB_append (V.oksB_append (V.oksB_imp hnx _ o1) ?_) (V.oksB_imp hnx _ o2)
     show(true && (CT (st.nx+1) st.nx && true) && true)=true
     rw [Ap.2 (Zbr _)]; rfl
    obtain⟨hent,hcalls⟩:=K3 (K:=fun _ w''=>rangePost Fence.wide 0 P (w.heap.size+1) Q ⟨t,Zc w.heap.size::d⟩ (.returned .nilFunc) w'') (Q:=Q) (a:=⟨t,Zc w.heap.size::d⟩) (dst:=none) hP hc hm1 (HC _) hin1 hyd hyo hr1 (by
     cases oc with
     | pan v ws=>cases hr2
     | ok v ws =>
      simp only at hr2
      intro h' g' w2 u q1 q2 q3 q4 q5 q6
      rw [← A7.get_app] at q3 q4
      split at hr2
      · rename_i st' pend tag' ks' vs' hcell
        have hgn:(g' st.nx).b=w.heap.size+1:=by rw [q2 _ (Ap.2 (Zbr _)),Cb]
        obtain⟨hnl,r,c1,c2,c3,_⟩:=q3.cell _ _ hcell
        rw [hgn] at c1
        have hbz:r.state≠.busy:=by
         rw [c2]
         split at hr2
         · cases hr2
         · rename_i hne; exact hne
        have hj:(Agr pend ⟨st.m,AL.del (A7.app (AL.put st.s st.nx (.lp .ready none tag ks vs)) ws) st.nx,st.nx+65⟩).runK some=some lf:=by
         split at hr2
         · cases hr2
         · exact hr2
        have hdel:∀ i c,AL.get (AL.del (A7.app (AL.put st.s st.nx (.lp .ready none tag ks vs)) ws) st.nx) i=some c→AL.get (A7.app (AL.put st.s st.nx (.lp .ready none tag ks vs)) ws) i=some c∧i≠st.nx:=fun i c hi=>by
         rw [AL.get_del] at hi
         split at hi
         · cases hi
         · rename_i hne; exact⟨hi,fun hh=>hne hh.symm⟩
        obtain⟨w1,w2',w3,w4⟩:=q3.own _ _ hcell hnl
        rw [hgn] at w1 w2' w3 w4
        have hm4:Al (F.put w.heap.size (some (.deferred (some [])))) h' g' (AL.get (AL.del (A7.app (AL.put st.s st.nx (.lp .ready none tag ks vs)) ws) st.nx)) (w2.putObj (w.heap.size+1) (.loop { r with state:=.exhausted })):=by
         refine(q3.less fun i c hi=>(hdel i c hi).1).setFree (Ig w2 _ _) w1 w3 w4 fun j c hj hnj heq=>?_
         obtain⟨e1,e2⟩:=hdel j c hj
         exact e2 (q3.inj _ _ _ _ e1 hcell hnj hnl (by rw [heq,hgn]))
        have hup:∀ i,UD (CT (st.nx+1)) (st.nx+1) i=true→CT (st.nx+65) i=true:=fun i hi=>by
         have:=Xl i hi
         exact this
        have hgst:∀ i,i<st.nx→g' i=g i:=fun i hi=>by rw [q2 i (Ap.2 (by omega)),hnewg i (Ap.2 hi)]
        have hrs:RS N (F.put w.heap.size (some (.deferred (some [])))) h' g' (st.nx+65) st.m (AL.del (A7.app (AL.put st.s st.nx (.lp .ready none tag ks vs)) ws) st.nx) t (w2.putObj (w.heap.size+1) (.loop { r with state:=.exhausted })) :=
         ⟨hs.size,hs.kn.mono hs.im q1 (fun i hi=>hgst i (Ap.1 hi)),hm4,hs.im.mono (FN (by omega)),fun i c hi=>by
          obtain⟨e1,_⟩:=hdel i c hi
          have:=q4 i c e1
          exact⟨hup _ this.1,AE.okB_imp hup this.2⟩⟩
        refine⟨r.pending,_,run_endLoop c1 hbz,?_⟩
        generalize w2.putObj (w.heap.size+1) (.loop { r with state:=.exhausted })=w4 at hrs ⊢
        rw [c3]
        unfold Agr at hj
        split at hj
        · cases hj
          exact hK _ _ h' g' t _ hfd q1 hgst (by simp only; omega) hrs
        · cases hj
          exact wpIn_ret (hK _ _ h' g' t _ hfd q1 hgst (by simp only; omega) hrs)
        · cases hj
          exact wpIn_exit (hK _ _ h' g' t _ hfd q1 hgst (by simp only; omega) hrs)
        · cases hj
      · cases hr2)
    have hne:=Qe hlt
    have hcalls:=hcalls.calls hne
    refine⟨w.heap.size+1,[Zc w.heap.size],M8 w ⟨.ready,none,fn,t,ps,assign,body,w.heap.size⟩,{ target:=.fn (.func f) bs.toArray,args:=as.toArray++#[.func (.yield (w.heap.size+1)) #[] #[]] },
     M8 w ⟨.ready,none,fn,t,ps,assign,body,w.heap.size⟩,f,as.toArray++#[.func (.yield (w.heap.size+1)) #[] #[]]++bs.toArray,M8 w ⟨.ready,none,fn,t,ps,assign,body,w.heap.size⟩,?_,?_,fun _ _=>trivial,?_,fun hh=>by simp [Fence.wide] at hh,?_⟩
    · exact run_enterLoop_outer _ _ _ _ _
    · simp only [resolve,rangeCall,hge,Deferred.ofValue,List.map_toArray,ZbB,List.map_nil]
      simp only [Act.eval]
      rfl
    · simp only [invoke,hent hne]
    · refine callsIn_wide.2 (Calls.mono (by simpa using hcalls) ?_)
      intro en w2 hh
      cases en <;> exact hh
 · cases hr
end
section
variable (Ty:Nat→Type) [rT:∀ k,Rep (Ty k)]
structure TB (α:Type) [Rep α] where
 on:Bool
 sz:Nat
 view:α→List (V Ty)
 pack:List (V Ty)→Option α
structure TB.Ok {α:Type} [Rep α] (b:TB Ty α):Prop where
 sz_eq:b.sz=Rep.sz α
 view_den:∀ (g:GE)(h:Ad)(x:α)(us:List Value),rep h x us→V.dens g h (b.view x) us
 view_ok:∀ (p:Nat→Bool)(x:α),V.oksB p (b.view x)=true
 pack_rep:∀ (g:GE)(h:Ad)(vs:List (V Ty))(x:α)(us:List Value),b.pack vs=some x→V.dens g h vs us→rep h x us
end
section
variable {Ty:Nat→Type} [rT:∀ k,Rep (Ty k)]
def TB.one {α:Type} [Rep α] (view:α→V Ty) (pack:V Ty→Option α):TB Ty α:=⟨true,1,fun x=>[view x],fun vs=>match vs with
 | [v]=>pack v
 | _=>none⟩
theorem TB.one_ok {α:Type} [Rep α] {view:α→V Ty} {pack:V Ty→Option α} (hs:Rep.sz α=1) (h1:∀ (g:GE)(h:Ad)(x:α)(u:Value),rep h x [u]→(view x).den g h u) (h2:∀ p x,(view x).okB p=true)
  (h3:∀ (g:GE)(h:Ad)(v:V Ty)(x:α)(u:Value),pack v=some x→v.den g h u→rep h x [u]):(TB.one view pack).Ok:=by
 refine⟨hs.symm,fun g h x us hr=>?_,fun p x=>?_,fun g h vs x us hp hv=>?_⟩
 · have hl:=Rep.len hr
   rw [hs] at hl
   match us,hl with
   | [u],_ =>
    show V.dens g h [view x] [u]
    unfold V.dens V.dens
    exact⟨u,[],rfl,h1 g h x u hr,rfl⟩
 · show V.oksB p [view x]=true
   unfold V.oksB V.oksB
   rw [h2]; rfl
 · match vs,hp,hv with
   | [v],hp,hv =>
    unfold V.dens V.dens at hv
    obtain⟨u,us',e,q1,q2⟩:=hv
    subst e q2
    exact h3 g h _ x u hp q1
   | [],hp,_=>cases hp
   | _::_::_,hp,_=>cases hp
instance : Rep Unit:=⟨0,fun _ _ cs=>cs=[],fun _ h=>h,fun h=>by subst h; rfl,fun h v hv=>by subst h; simp at hv⟩
def Ags:TB Ty Unit:=⟨false,0,fun _=>[],fun _=>none⟩
theorem AdQ:(Ags (Ty:=Ty)).Ok:=⟨rfl,fun g h x us hr=>by rw [show us=[] from hr]; rfl,fun _ _=>rfl,fun g h vs x us hp _=>by cases hp⟩
def Aiz:V Ty→Option Int
 | .int .i64 n=>some n
 | _=>none
def AjL (k:IntKind):V Ty→Option (IK k)
 | .int k' n=>if k' = k then some ⟨n⟩ else none
 | _=>none
def Agt:V Ty→Option Bool
 | .bool b=>some b
 | _=>none
def Ai0:V Ty→Option ByteArray
 | .str s=>some s
 | _=>none
def Akl (k:Nat):V Ty→Option (List (Ty k))
 | .lst k' l=>if h:k' = k then some (h▸l) else none
 | .nils=>some []
 | _=>none
def Aw:TB Ty Int:=TB.one (fun x=>.int .i64 x) Aiz
def NS (k:IntKind):TB Ty (IK k):=TB.one (fun x=>.int k x.n) (AjL k)
def Agu:TB Ty Bool:=TB.one (fun x=>.bool x) Agt
def Ai1:TB Ty ByteArray:=TB.one (fun x=>.str x) Ai0
def RQ (k:Nat):TB Ty (List (Ty k)):=TB.one (fun x=>.lst k x) (Akl k)
theorem Ag:(Aw (Ty:=Ty)).Ok:=TB.one_ok rfl (fun g h x u hr=>by have e:[u]=[.int .i64 x]:=hr; cases e; unfold V.den; rfl) (fun _ _=>rfl) fun g h v x u hp hv=>by
 unfold Aiz at hp
 split at hp
 · cases hp; unfold V.den at hv; subst hv; rfl
 · cases hp
theorem EV (k:IntKind):(NS (Ty:=Ty) k).Ok:=TB.one_ok rfl (fun g h x u hr=>by have e:[u]=[.int k x.n]:=hr; cases e; unfold V.den; rfl) (fun _ _=>rfl) fun g h v x u hp hv=>by
 unfold AjL at hp
 split at hp
 · split at hp
   · rename_i hk; subst hk; cases hp; unfold V.den at hv; subst hv; rfl
   · cases hp
 · cases hp
theorem AdR:(Agu (Ty:=Ty)).Ok:=TB.one_ok rfl (fun g h x u hr=>by have e:[u]=[.bool x]:=hr; cases e; unfold V.den; rfl) (fun _ _=>rfl) fun g h v x u hp hv=>by
 unfold Agt at hp
 split at hp
 · cases hp; unfold V.den at hv; subst hv; rfl
 · cases hp
theorem Agv:(Ai1 (Ty:=Ty)).Ok:=TB.one_ok rfl (fun g h x u hr=>by have e:[u]=[.string x]:=hr; cases e; unfold V.den; rfl) (fun _ _=>rfl) fun g h v x u hp hv=>by
 unfold Ai0 at hp
 split at hp
 · cases hp; unfold V.den at hv; subst hv; rfl
 · cases hp
theorem CV (k:Nat):(RQ (Ty:=Ty) k).Ok:=TB.one_ok rfl (fun g h x u hr=>by
  obtain⟨a,c,e,q⟩:=hr
  cases e
  unfold V.den; exact⟨a,c,rfl,q⟩) (fun _ _=>rfl) fun g h v x u hp hv=>by
 unfold Akl at hp
 split at hp
 · split at hp
   · rename_i hk; subst hk; cases hp; unfold V.den at hv; obtain⟨a,c,e,q⟩:=hv; subst e; exact⟨a,c,rfl,q⟩
   · cases hp
 · cases hp; unfold V.den at hv; subst hv; exact⟨none,0,rfl,Hd.nil⟩
 · cases hp
structure Fp where
 f:Int
deriving DecidableEq,Inhabited
def Ajp (n:Int):Value:=if n<0 then .nilFunc else .func (.func n.toNat) #[] #[]
theorem AhT (n:Int):(Ajp n).oneCell' = true:=by unfold Ajp; split <;> rfl
instance : Rep Fp:=⟨1,fun _ x cs=>cs=[Ajp x.f],fun _ h=>h,fun h=>by subst h; rfl,fun h v hv=>by subst h; simp at hv; subst hv; exact AhT _⟩
def AjM:V Ty→Option Fp
 | .nilf=>some ⟨-1⟩
 | .fn f [] []=>bif Nat.blt f Ar then some ⟨(f:Int)⟩ else none
 | .fn f [.int .i64 n] []=>bif Nat.beq f QW then some ⟨n⟩ else none
 | _=>none
def Xx:TB Ty Fp:=TB.one (fun x=>.fn QW [.int .i64 x.f] []) AjM
theorem Jm:(Xx (Ty:=Ty)).Ok:=TB.one_ok rfl (fun g h x u hr=>by
  have e:[u]=[Ajp x.f]:=hr
  cases e
  unfold V.den
  refine⟨[.int .i64 x.f],[],?_,?_,by unfold V.dens; rfl⟩
  · unfold Ad6; rw [if_neg (show ¬ QW=Ar by decide),if_pos rfl]; rfl
  · unfold V.dens V.dens; exact⟨_,[],rfl,by unfold V.den; rfl,rfl⟩) (fun _ _=>rfl) fun g h v x u hp hv=>by
 unfold AjM at hp
 split at hp
 · cases hp; unfold V.den at hv; subst hv; rfl
 · rename_i f
   cases hb:Nat.blt f Ar with
   | false=>rw [hb] at hp; cases hp
   | true =>
    rw [hb] at hp
    cases hp
    unfold V.den at hv
    obtain⟨as,bs,e,e1,e2⟩:=hv
    unfold V.dens at e1 e2
    subst e1 e2
    rw [Tc hb] at e
    rw [e]
    show [_]=[Ajp (f:Int)]
    unfold Ajp; rw [if_neg (by omega)]; rfl
 · rename_i f n
   cases hb:Nat.beq f QW with
   | false=>rw [hb] at hp; cases hp
   | true =>
    rw [hb] at hp
    cases hp
    unfold V.den at hv
    obtain⟨as,bs,e,e1,e2⟩:=hv
    rw [Zac hb] at e
    unfold V.dens at e1 e2
    obtain⟨u1,us1,rfl,e3,e4⟩:=e1
    unfold V.dens at e4
    unfold V.den at e3
    subst e2 e3 e4
    unfold Ad6 at e
    rw [if_neg (by decide),if_pos rfl] at e
    rw [e]; rfl
 · cases hp
def TB.pair {α β:Type} [Rep α] [Rep β] (a:TB Ty α) (b:TB Ty β):TB Ty (α×β):=⟨true,a.sz+b.sz,fun x=>a.view x.1++b.view x.2,fun vs=>match a.pack (vs.take a.sz) with
 | some x=>match b.pack (vs.drop a.sz) with
  | some y=>some (x,y)
  | none=>none
 | none=>none⟩
theorem TB.pair_ok {α β:Type} [Rep α] [Rep β] {a:TB Ty α} {b:TB Ty β} (ha:a.Ok) (hb:b.Ok):(a.pair b).Ok:=by
 refine⟨?_,fun g h x us hr=>?_,fun p x=>?_,fun g h vs x us hp hv=>?_⟩
 · show a.sz+b.sz=Rep.sz α+Rep.sz β
   rw [ha.sz_eq,hb.sz_eq]
 · obtain⟨c1,c2,rfl,h1,h2⟩:=hr
   exact V.dens_append (ha.view_den g h x.1 c1 h1) (hb.view_den g h x.2 c2 h2)
 · exact V.oksB_append (ha.view_ok p x.1) (hb.view_ok p x.2)
 · unfold TB.pair at hp
   simp only at hp
   split at hp
   · rename_i y hy
     split at hp
     · rename_i z hz
       cases hp
       have h1:=ha.pack_rep g h _ y _ hy (V.dens_take a.sz hv)
       have h2:=hb.pack_rep g h _ z _ hz (V.dens_drop a.sz hv)
       exact⟨us.take a.sz,us.drop a.sz,(Zbe _ _).symm,h1,h2⟩
     · cases hp
   · cases hp
def TB.via {α β:Type} [Rep β] (f:α→β) (k:β→α) (b:TB Ty β) : @TB Ty α (Rep.via f):=@TB.mk Ty α (Rep.via f) true b.sz (fun x=>b.view (f x)) (fun vs=>match b.pack vs with
 | some y=>some (k y)
 | none=>none)
theorem TB.via_ok {α β:Type} [Rep β] {f:α→β} {k:β→α} (hk:∀ y,f (k y)=y) {b:TB Ty β} (hb:b.Ok) : @TB.Ok Ty rT α (Rep.via f) (TB.via f k b):=by
 refine @TB.Ok.mk Ty rT α (Rep.via f) _ hb.sz_eq (fun g h x us hr=>hb.view_den g h (f x) us hr) (fun p x=>hb.view_ok p (f x)) (fun g h vs x us hp hv=>?_)
 unfold TB.via at hp
 simp only at hp
 split at hp
 · rename_i y hy
   cases hp
   show rep h (f (k y)) us
   rw [hk]
   exact hb.pack_rep g h vs y us hy hv
 · cases hp
end
structure Ak where
 bus:Int
 number:Int
 minute:Int
 kind:IK .u8
 part:Int
 sg:Int
deriving DecidableEq,Inhabited
instance : Rep Ak:=Rep.via fun x=>(x.bus,x.number,x.minute,x.kind,x.part,x.sg)
structure MV where
 bus:Int
 fr:Int
deriving DecidableEq,Inhabited
instance : Rep MV:=Rep.via fun x=>(x.bus,x.fr)
structure Ls where
 bus:Int
 fr:Int
 to_:Int
 miles:Int
deriving DecidableEq,Inhabited
instance : Rep Ls:=Rep.via fun x=>(x.bus,x.fr,x.to_,x.miles)
structure Aa where
 machine:Int
 seq:Int
 minute:Int
 kind:IK .u8
 a:Int
 b:Int
deriving DecidableEq,Inhabited
instance : Rep Aa:=Rep.via fun x=>(x.machine,x.seq,x.minute,x.kind,x.a,x.b)
structure Rg where
 lo:Int
 hi:Int
deriving DecidableEq,Inhabited
instance : Rep Rg:=Rep.via fun x=>(x.lo,x.hi)
structure AA where
 day:Int
 on:Int
 off:Rg
 route:Int
deriving DecidableEq,Inhabited
instance : Rep AA:=Rep.via fun x=>(x.day,x.on,x.off,x.route)
structure AJ where
 knows:List Int
 leave:List Int
 wish:List Int
 off:Int
 row:Int
 used:Int
deriving DecidableEq,Inhabited
instance : Rep AJ:=Rep.via fun x=>(x.knows,x.leave,x.wish,x.off,x.row,x.used)
structure Ai where
 days:Int
 duties:List AA
 drivers:List AJ
 rest:Int
 run:Int
 hours:Int
deriving DecidableEq,Inhabited
instance : Rep Ai:=Rep.via fun x=>(x.days,x.duties,x.drivers,x.rest,x.run,x.hours)
structure Ae where
 cards:List Ak
 outs:List MV
 runs:List Ls
 records:List Aa
 week:Ai
 roster:List Int
deriving DecidableEq,Inhabited
instance : Rep Ae:=Rep.via fun x=>(x.cards,x.outs,x.runs,x.records,x.week,x.roster)
structure Bc where
 machine:Int
 fr:Int
 to_:Int
 sales:Int
 coins:Int
deriving DecidableEq,Inhabited
instance : Rep Bc:=Rep.via fun x=>(x.machine,x.fr,x.to_,x.sales,x.coins)
structure Ab where
 state:Ae
deriving DecidableEq,Inhabited
instance : Rep Ab:=Rep.via fun x=>(x.state)
structure Ey where
 fr:Aa
 to_:Aa
 between:List Aa
deriving DecidableEq,Inhabited
instance : Rep Ey:=Rep.via fun x=>(x.fr,x.to_,x.between)
structure Ah where
 kind:IK .u8
 driver:Int
 duty:Int
deriving DecidableEq,Inhabited
instance : Rep Ah:=Rep.via fun x=>(x.kind,x.driver,x.duty)
structure HD where
 machine:Int
 seq:Int
deriving DecidableEq,Inhabited
instance : Rep HD:=Rep.via fun x=>(x.machine,x.seq)
structure Az where
 errno:Int
deriving DecidableEq,Inhabited
instance : Rep Az:=Rep.via fun x=>(x.errno)
structure DL where
 many:Int
 do_:Fp
deriving DecidableEq,Inhabited
instance : Rep DL:=Rep.via fun x=>(x.many,x.do_)
structure G0 where
 right:Fp
deriving DecidableEq,Inhabited
instance : Rep G0:=Rep.via fun x=>(x.right)
structure Aj where
 free:Int
 row:Int
 used:Int
 day:Int
deriving DecidableEq,Inhabited
instance : Rep Aj:=Rep.via fun x=>(x.free,x.row,x.used,x.day)
structure AN where
 kind:IK .u8
 holds:Fp
deriving DecidableEq,Inhabited
instance : Rep AN:=Rep.via fun x=>(x.kind,x.holds)
structure Akm where
 α:Type
 rep:Rep α
abbrev Ajf:Nat→Akm
 | 3=>⟨Int,inferInstance⟩
 | 4=>⟨Bool,inferInstance⟩
 | 9=>⟨ByteArray,inferInstance⟩
 | 37=>⟨Int,inferInstance⟩
 | 5=>⟨IK .u8,inferInstance⟩
 | 180=>⟨Ak,inferInstance⟩
 | 60=>⟨MV,inferInstance⟩
 | 62=>⟨Ls,inferInstance⟩
 | 93=>⟨Aa,inferInstance⟩
 | 184=>⟨AA,inferInstance⟩
 | 186=>⟨AJ,inferInstance⟩
 | 35=>⟨Ae,inferInstance⟩
 | 114=>⟨Ab,inferInstance⟩
 | 32=>⟨Ai,inferInstance⟩
 | 65=>⟨Ak,inferInstance⟩
 | 2=>⟨Int,inferInstance⟩
 | 12=>⟨IK .u64,inferInstance⟩
 | 21=>⟨IK .i32,inferInstance⟩
 | 28=>⟨List Aa,inferInstance⟩
 | 45=>⟨List Aa,inferInstance⟩
 | 49=>⟨Ai,inferInstance⟩
 | 51=>⟨Ae,inferInstance⟩
 | 87=>⟨IK .u16,inferInstance⟩
 | 90=>⟨Aa,inferInstance⟩
 | 98=>⟨Bc,inferInstance⟩
 | 124=>⟨MV,inferInstance⟩
 | 125=>⟨Ls,inferInstance⟩
 | 154=>⟨Ey,inferInstance⟩
 | 178=>⟨Bc,inferInstance⟩
 | 182=>⟨Rg,inferInstance⟩
 | 189=>⟨Rg,inferInstance⟩
 | 191=>⟨AA,inferInstance⟩
 | 192=>⟨AJ,inferInstance⟩
 | 195=>⟨Fp,inferInstance⟩
 | 227=>⟨HD,inferInstance⟩
 | 234=>⟨Az,inferInstance⟩
 | 235=>⟨Fp,inferInstance⟩
 | 237=>⟨DL,inferInstance⟩
 | 259=>⟨G0,inferInstance⟩
 | 262=>⟨IK .u64,inferInstance⟩
 | 267=>⟨Aj,inferInstance⟩
 | 276=>⟨Fp,inferInstance⟩
 | 278=>⟨AN,inferInstance⟩
 | 280=>⟨Ah,inferInstance⟩
 | 287=>⟨Fp,inferInstance⟩
 | 309=>⟨IK .u32,inferInstance⟩
 | 311=>⟨IK .u64,inferInstance⟩
 | 329=>⟨G0,inferInstance⟩
 | 346=>⟨Ah,inferInstance⟩
 | _=>⟨Unit,inferInstance⟩
abbrev Ty (k:Nat):Type:=(Ajf k).α
instance (k:Nat):Rep (Ty k):=(Ajf k).rep
def Wn:TB Ty Ak:=TB.via (fun x:Ak=>(x.bus,x.number,x.minute,x.kind,x.part,x.sg)) (fun p=>(⟨p.1,p.2.1,p.2.2.1,p.2.2.2.1,p.2.2.2.2.1,p.2.2.2.2.2⟩:Ak)) (Aw.pair (Aw.pair (Aw.pair ((NS .u8).pair (Aw.pair Aw)))))
theorem Xy:(Wn).Ok:=TB.via_ok (fun _=>rfl) (TB.pair_ok Ag (TB.pair_ok Ag (TB.pair_ok Ag (TB.pair_ok (EV _) (TB.pair_ok Ag Ag)))))
def Ac7:TB Ty MV:=TB.via (fun x:MV=>(x.bus,x.fr)) (fun p=>(⟨p.1,p.2⟩:MV)) (Aw.pair Aw)
theorem Ab6:(Ac7).Ok:=TB.via_ok (fun _=>rfl) (TB.pair_ok Ag Ag)
def Ac8:TB Ty Ls:=TB.via (fun x:Ls=>(x.bus,x.fr,x.to_,x.miles)) (fun p=>(⟨p.1,p.2.1,p.2.2.1,p.2.2.2⟩:Ls)) (Aw.pair (Aw.pair (Aw.pair Aw)))
theorem Ab7:(Ac8).Ok:=TB.via_ok (fun _=>rfl) (TB.pair_ok Ag (TB.pair_ok Ag (TB.pair_ok Ag Ag)))
def KB:TB Ty Aa:=TB.via (fun x:Aa=>(x.machine,x.seq,x.minute,x.kind,x.a,x.b)) (fun p=>(⟨p.1,p.2.1,p.2.2.1,p.2.2.2.1,p.2.2.2.2.1,p.2.2.2.2.2⟩:Aa)) (Aw.pair (Aw.pair (Aw.pair ((NS .u8).pair (Aw.pair Aw)))))
theorem J1:(KB).Ok:=TB.via_ok (fun _=>rfl) (TB.pair_ok Ag (TB.pair_ok Ag (TB.pair_ok Ag (TB.pair_ok (EV _) (TB.pair_ok Ag Ag)))))
def Xz:TB Ty Rg:=TB.via (fun x:Rg=>(x.lo,x.hi)) (fun p=>(⟨p.1,p.2⟩:Rg)) (Aw.pair Aw)
theorem Um:(Xz).Ok:=TB.via_ok (fun _=>rfl) (TB.pair_ok Ag Ag)
def Wp:TB Ty AA:=TB.via (fun x:AA=>(x.day,x.on,x.off,x.route)) (fun p=>(⟨p.1,p.2.1,p.2.2.1,p.2.2.2⟩:AA)) (Aw.pair (Aw.pair (Xz.pair Aw)))
theorem X6:(Wp).Ok:=TB.via_ok (fun _=>rfl) (TB.pair_ok Ag (TB.pair_ok Ag (TB.pair_ok Um Ag)))
def Rq:TB Ty AJ:=TB.via (fun x:AJ=>(x.knows,x.leave,x.wish,x.off,x.row,x.used)) (fun p=>(⟨p.1,p.2.1,p.2.2.1,p.2.2.2.1,p.2.2.2.2.1,p.2.2.2.2.2⟩:AJ)) ((RQ 3).pair ((RQ 3).pair ((RQ 3).pair (Aw.pair (Aw.pair Aw)))))
theorem Un:(Rq).Ok:=TB.via_ok (fun _=>rfl) (TB.pair_ok (CV _) (TB.pair_ok (CV _) (TB.pair_ok (CV _) (TB.pair_ok Ag (TB.pair_ok Ag Ag)))))
def Uo:TB Ty Ai:=TB.via (fun x:Ai=>(x.days,x.duties,x.drivers,x.rest,x.run,x.hours)) (fun p=>(⟨p.1,p.2.1,p.2.2.1,p.2.2.2.1,p.2.2.2.2.1,p.2.2.2.2.2⟩:Ai)) (Aw.pair ((RQ 184).pair ((RQ 186).pair (Aw.pair (Aw.pair Aw)))))
theorem Rr:(Uo).Ok:=TB.via_ok (fun _=>rfl) (TB.pair_ok Ag (TB.pair_ok (CV _) (TB.pair_ok (CV _) (TB.pair_ok Ag (TB.pair_ok Ag Ag)))))
def Q0:TB Ty Ae:=TB.via (fun x:Ae=>(x.cards,x.outs,x.runs,x.records,x.week,x.roster)) (fun p=>(⟨p.1,p.2.1,p.2.2.1,p.2.2.2.1,p.2.2.2.2.1,p.2.2.2.2.2⟩:Ae)) ((RQ 180).pair ((RQ 60).pair ((RQ 62).pair ((RQ 93).pair (Uo.pair (RQ 3))))))
theorem Pg:(Q0).Ok:=TB.via_ok (fun _=>rfl) (TB.pair_ok (CV _) (TB.pair_ok (CV _) (TB.pair_ok (CV _) (TB.pair_ok (CV _) (TB.pair_ok Rr (CV _))))))
def Ph:TB Ty Ab:=TB.via (fun x:Ab=>x.state) (fun p=>(⟨p⟩:Ab)) Q0
theorem RA:(Ph).Ok:=TB.via_ok (fun _=>rfl) Pg
def ZN:TB Ty Ak:=TB.via (fun x:Ak=>(x.bus,x.number,x.minute,x.kind,x.part,x.sg)) (fun p=>(⟨p.1,p.2.1,p.2.2.1,p.2.2.2.1,p.2.2.2.2.1,p.2.2.2.2.2⟩:Ak)) (Aw.pair (Aw.pair (Aw.pair ((NS .u8).pair (Aw.pair Aw)))))
theorem ZO:(ZN).Ok:=TB.via_ok (fun _=>rfl) (TB.pair_ok Ag (TB.pair_ok Ag (TB.pair_ok Ag (TB.pair_ok (EV _) (TB.pair_ok Ag Ag)))))
def Up:TB Ty Ai:=TB.via (fun x:Ai=>(x.days,x.duties,x.drivers,x.rest,x.run,x.hours)) (fun p=>(⟨p.1,p.2.1,p.2.2.1,p.2.2.2.1,p.2.2.2.2.1,p.2.2.2.2.2⟩:Ai)) (Aw.pair ((RQ 191).pair ((RQ 192).pair (Aw.pair (Aw.pair Aw)))))
theorem Rs:(Up).Ok:=TB.via_ok (fun _=>rfl) (TB.pair_ok Ag (TB.pair_ok (CV _) (TB.pair_ok (CV _) (TB.pair_ok Ag (TB.pair_ok Ag Ag)))))
def Wq:TB Ty Ae:=TB.via (fun x:Ae=>(x.cards,x.outs,x.runs,x.records,x.week,x.roster)) (fun p=>(⟨p.1,p.2.1,p.2.2.1,p.2.2.2.1,p.2.2.2.2.1,p.2.2.2.2.2⟩:Ae)) ((RQ 65).pair ((RQ 124).pair ((RQ 125).pair ((RQ 90).pair (Up.pair (RQ 3))))))
theorem X7:(Wq).Ok:=TB.via_ok (fun _=>rfl) (TB.pair_ok (CV _) (TB.pair_ok (CV _) (TB.pair_ok (CV _) (TB.pair_ok (CV _) (TB.pair_ok Rs (CV _))))))
def Uq:TB Ty Aa:=TB.via (fun x:Aa=>(x.machine,x.seq,x.minute,x.kind,x.a,x.b)) (fun p=>(⟨p.1,p.2.1,p.2.2.1,p.2.2.2.1,p.2.2.2.2.1,p.2.2.2.2.2⟩:Aa)) (Aw.pair (Aw.pair (Aw.pair ((NS .u8).pair (Aw.pair Aw)))))
theorem Vd:(Uq).Ok:=TB.via_ok (fun _=>rfl) (TB.pair_ok Ag (TB.pair_ok Ag (TB.pair_ok Ag (TB.pair_ok (EV _) (TB.pair_ok Ag Ag)))))
def ZP:TB Ty Bc:=TB.via (fun x:Bc=>(x.machine,x.fr,x.to_,x.sales,x.coins)) (fun p=>(⟨p.1,p.2.1,p.2.2.1,p.2.2.2.1,p.2.2.2.2⟩:Bc)) (Aw.pair (Aw.pair (Aw.pair (Aw.pair Aw))))
theorem ZQ:(ZP).Ok:=TB.via_ok (fun _=>rfl) (TB.pair_ok Ag (TB.pair_ok Ag (TB.pair_ok Ag (TB.pair_ok Ag Ag))))
def ZR:TB Ty MV:=TB.via (fun x:MV=>(x.bus,x.fr)) (fun p=>(⟨p.1,p.2⟩:MV)) (Aw.pair Aw)
theorem ZS:(ZR).Ok:=TB.via_ok (fun _=>rfl) (TB.pair_ok Ag Ag)
def ZT:TB Ty Ls:=TB.via (fun x:Ls=>(x.bus,x.fr,x.to_,x.miles)) (fun p=>(⟨p.1,p.2.1,p.2.2.1,p.2.2.2⟩:Ls)) (Aw.pair (Aw.pair (Aw.pair Aw)))
theorem ZU:(ZT).Ok:=TB.via_ok (fun _=>rfl) (TB.pair_ok Ag (TB.pair_ok Ag (TB.pair_ok Ag Ag)))
def Pi:TB Ty Ey:=TB.via (fun x:Ey=>(x.fr,x.to_,x.between)) (fun p=>(⟨p.1,p.2.1,p.2.2⟩:Ey)) (KB.pair (KB.pair (RQ 93)))
theorem RB:(Pi).Ok:=TB.via_ok (fun _=>rfl) (TB.pair_ok J1 (TB.pair_ok J1 (CV _)))
def Wr:TB Ty Bc:=TB.via (fun x:Bc=>(x.machine,x.fr,x.to_,x.sales,x.coins)) (fun p=>(⟨p.1,p.2.1,p.2.2.1,p.2.2.2.1,p.2.2.2.2⟩:Bc)) (Aw.pair (Aw.pair (Aw.pair (Aw.pair Aw))))
theorem X8:(Wr).Ok:=TB.via_ok (fun _=>rfl) (TB.pair_ok Ag (TB.pair_ok Ag (TB.pair_ok Ag (TB.pair_ok Ag Ag))))
def X9:TB Ty Rg:=TB.via (fun x:Rg=>(x.lo,x.hi)) (fun p=>(⟨p.1,p.2⟩:Rg)) (Aw.pair Aw)
theorem Ur:(X9).Ok:=TB.via_ok (fun _=>rfl) (TB.pair_ok Ag Ag)
def Ws:TB Ty AA:=TB.via (fun x:AA=>(x.day,x.on,x.off,x.route)) (fun p=>(⟨p.1,p.2.1,p.2.2.1,p.2.2.2⟩:AA)) (Aw.pair (Aw.pair (X9.pair Aw)))
theorem XA:(Ws).Ok:=TB.via_ok (fun _=>rfl) (TB.pair_ok Ag (TB.pair_ok Ag (TB.pair_ok Ur Ag)))
def Rt:TB Ty AJ:=TB.via (fun x:AJ=>(x.knows,x.leave,x.wish,x.off,x.row,x.used)) (fun p=>(⟨p.1,p.2.1,p.2.2.1,p.2.2.2.1,p.2.2.2.2.1,p.2.2.2.2.2⟩:AJ)) ((RQ 3).pair ((RQ 3).pair ((RQ 3).pair (Aw.pair (Aw.pair Aw)))))
theorem Us:(Rt).Ok:=TB.via_ok (fun _=>rfl) (TB.pair_ok (CV _) (TB.pair_ok (CV _) (TB.pair_ok (CV _) (TB.pair_ok Ag (TB.pair_ok Ag Ag)))))
def ZV:TB Ty HD:=TB.via (fun x:HD=>(x.machine,x.seq)) (fun p=>(⟨p.1,p.2⟩:HD)) (Aw.pair Aw)
theorem ZW:(ZV).Ok:=TB.via_ok (fun _=>rfl) (TB.pair_ok Ag Ag)
def Pj:TB Ty Az:=TB.via (fun x:Az=>x.errno) (fun p=>(⟨p⟩:Az)) Aw
theorem RC:(Pj).Ok:=TB.via_ok (fun _=>rfl) Ag
def Wt:TB Ty DL:=TB.via (fun x:DL=>(x.many,x.do_)) (fun p=>(⟨p.1,p.2⟩:DL)) (Aw.pair Xx)
theorem XB:(Wt).Ok:=TB.via_ok (fun _=>rfl) (TB.pair_ok Ag Jm)
def Wu:TB Ty G0:=TB.via (fun x:G0=>x.right) (fun p=>(⟨p⟩:G0)) Xx
theorem XC:(Wu).Ok:=TB.via_ok (fun _=>rfl) Jm
def Ut:TB Ty Aj:=TB.via (fun x:Aj=>(x.free,x.row,x.used,x.day)) (fun p=>(⟨p.1,p.2.1,p.2.2.1,p.2.2.2⟩:Aj)) (Aw.pair (Aw.pair (Aw.pair Aw)))
theorem Ve:(Ut).Ok:=TB.via_ok (fun _=>rfl) (TB.pair_ok Ag (TB.pair_ok Ag (TB.pair_ok Ag Ag)))
def Nj:TB Ty AN:=TB.via (fun x:AN=>(x.kind,x.holds)) (fun p=>(⟨p.1,p.2⟩:AN)) ((NS .u8).pair Xx)
theorem Q1:(Nj).Ok:=TB.via_ok (fun _=>rfl) (TB.pair_ok (EV _) Jm)
def Ru:TB Ty Ah:=TB.via (fun x:Ah=>(x.kind,x.driver,x.duty)) (fun p=>(⟨p.1,p.2.1,p.2.2⟩:Ah)) ((NS .u8).pair (Aw.pair Aw))
theorem Uu:(Ru).Ok:=TB.via_ok (fun _=>rfl) (TB.pair_ok (EV _) (TB.pair_ok Ag Ag))
def Wv:TB Ty G0:=TB.via (fun x:G0=>x.right) (fun p=>(⟨p⟩:G0)) Xx
theorem XD:(Wv).Ok:=TB.via_ok (fun _=>rfl) Jm
def Rv:TB Ty Ah:=TB.via (fun x:Ah=>(x.kind,x.driver,x.duty)) (fun p=>(⟨p.1,p.2.1,p.2.2⟩:Ah)) ((NS .u8).pair (Aw.pair Aw))
theorem Uv:(Rv).Ok:=TB.via_ok (fun _=>rfl) (TB.pair_ok (EV _) (TB.pair_ok Ag Ag))
structure AY (k:Nat) where
 tb:TB Ty (Ty k)
 ok:tb.Ok
def Zhn {k:Nat} (e:Ajf k=⟨Unit,inferInstance⟩):AY k:=by
 have key:∀ (b:Akm),b=⟨Unit,inferInstance⟩→∃ t : @TB Ty b.α b.rep,@TB.Ok Ty _ b.α b.rep t:=fun b hb=>by subst hb; exact⟨Ags,AdQ⟩
 exact Classical.choice (by obtain⟨t,ht⟩:=key (Ajf k) e; exact⟨⟨t,ht⟩⟩)
theorem Agw {k:Nat} (h3 : ¬ k=3) (h4 : ¬ k=4) (h9 : ¬ k=9) (h37 : ¬ k=37) (h5 : ¬ k=5) (h180 : ¬ k=180) (h60 : ¬ k=60) (h62 : ¬ k=62) (h93 : ¬ k=93) (h184 : ¬ k=184) (h186 : ¬ k=186) (h35 : ¬ k=35) (h114 : ¬ k=114) (h32 : ¬ k=32) (h65 : ¬ k=65) (h2 : ¬ k=2) (h12 : ¬ k=12) (h21 : ¬ k=21) (h28 : ¬ k=28) (h45 : ¬ k=45) (h49 : ¬ k=49) (h51 : ¬ k=51) (h87 : ¬ k=87) (h90 : ¬ k=90) (h98 : ¬ k=98) (h124 : ¬ k=124) (h125 : ¬ k=125) (h154 : ¬ k=154) (h178 : ¬ k=178) (h182 : ¬ k=182) (h189 : ¬ k=189) (h191 : ¬ k=191) (h192 : ¬ k=192) (h195 : ¬ k=195) (h227 : ¬ k=227) (h234 : ¬ k=234) (h235 : ¬ k=235) (h237 : ¬ k=237) (h259 : ¬ k=259) (h262 : ¬ k=262) (h267 : ¬ k=267) (h276 : ¬ k=276) (h278 : ¬ k=278) (h280 : ¬ k=280) (h287 : ¬ k=287) (h309 : ¬ k=309) (h311 : ¬ k=311) (h329 : ¬ k=329) (h346 : ¬ k=346):Ajf k=⟨Unit,inferInstance⟩:=by
 unfold Ajf
 split <;> first | rfl | contradiction
def Zeu (k:Nat):AY k :=
 if h3:k=3 then h3▸(⟨Aw,Ag⟩:AY 3) else
 if h4:k=4 then h4▸(⟨Agu,AdR⟩:AY 4) else
 if h9:k=9 then h9▸(⟨Ai1,Agv⟩:AY 9) else
 if h37:k=37 then h37▸(⟨Aw,Ag⟩:AY 37) else
 if h5:k=5 then h5▸(⟨NS .u8,EV _⟩:AY 5) else
 if h180:k=180 then h180▸(⟨Wn,Xy⟩:AY 180) else
 if h60:k=60 then h60▸(⟨Ac7,Ab6⟩:AY 60) else
 if h62:k=62 then h62▸(⟨Ac8,Ab7⟩:AY 62) else
 if h93:k=93 then h93▸(⟨KB,J1⟩:AY 93) else
 if h184:k=184 then h184▸(⟨Wp,X6⟩:AY 184) else
 if h186:k=186 then h186▸(⟨Rq,Un⟩:AY 186) else
 if h35:k=35 then h35▸(⟨Q0,Pg⟩:AY 35) else
 if h114:k=114 then h114▸(⟨Ph,RA⟩:AY 114) else
 if h32:k=32 then h32▸(⟨Uo,Rr⟩:AY 32) else
 if h65:k=65 then h65▸(⟨ZN,ZO⟩:AY 65) else
 if h2:k=2 then h2▸(⟨Aw,Ag⟩:AY 2) else
 if h12:k=12 then h12▸(⟨NS .u64,EV _⟩:AY 12) else
 if h21:k=21 then h21▸(⟨NS .i32,EV _⟩:AY 21) else
 if h28:k=28 then h28▸(⟨RQ 93,CV _⟩:AY 28) else
 if h45:k=45 then h45▸(⟨RQ 90,CV _⟩:AY 45) else
 if h49:k=49 then h49▸(⟨Up,Rs⟩:AY 49) else
 if h51:k=51 then h51▸(⟨Wq,X7⟩:AY 51) else
 if h87:k=87 then h87▸(⟨NS .u16,EV _⟩:AY 87) else
 if h90:k=90 then h90▸(⟨Uq,Vd⟩:AY 90) else
 if h98:k=98 then h98▸(⟨ZP,ZQ⟩:AY 98) else
 if h124:k=124 then h124▸(⟨ZR,ZS⟩:AY 124) else
 if h125:k=125 then h125▸(⟨ZT,ZU⟩:AY 125) else
 if h154:k=154 then h154▸(⟨Pi,RB⟩:AY 154) else
 if h178:k=178 then h178▸(⟨Wr,X8⟩:AY 178) else
 if h182:k=182 then h182▸(⟨Xz,Um⟩:AY 182) else
 if h189:k=189 then h189▸(⟨X9,Ur⟩:AY 189) else
 if h191:k=191 then h191▸(⟨Ws,XA⟩:AY 191) else
 if h192:k=192 then h192▸(⟨Rt,Us⟩:AY 192) else
 if h195:k=195 then h195▸(⟨Xx,Jm⟩:AY 195) else
 if h227:k=227 then h227▸(⟨ZV,ZW⟩:AY 227) else
 if h234:k=234 then h234▸(⟨Pj,RC⟩:AY 234) else
 if h235:k=235 then h235▸(⟨Xx,Jm⟩:AY 235) else
 if h237:k=237 then h237▸(⟨Wt,XB⟩:AY 237) else
 if h259:k=259 then h259▸(⟨Wu,XC⟩:AY 259) else
 if h262:k=262 then h262▸(⟨NS .u64,EV _⟩:AY 262) else
 if h267:k=267 then h267▸(⟨Ut,Ve⟩:AY 267) else
 if h276:k=276 then h276▸(⟨Xx,Jm⟩:AY 276) else
 if h278:k=278 then h278▸(⟨Nj,Q1⟩:AY 278) else
 if h280:k=280 then h280▸(⟨Ru,Uu⟩:AY 280) else
 if h287:k=287 then h287▸(⟨Xx,Jm⟩:AY 287) else
 if h309:k=309 then h309▸(⟨NS .u32,EV _⟩:AY 309) else
 if h311:k=311 then h311▸(⟨NS .u64,EV _⟩:AY 311) else
 if h329:k=329 then h329▸(⟨Wv,XD⟩:AY 329) else
 if h346:k=346 then h346▸(⟨Rv,Uv⟩:AY 346) else
 have e:Ajf k=⟨Unit,inferInstance⟩:=Agw h3 h4 h9 h37 h5 h180 h60 h62 h93 h184 h186 h35 h114 h32 h65 h2 h12 h21 h28 h45 h49 h51 h87 h90 h98 h124 h125 h154 h178 h182 h189 h191 h192 h195 h227 h234 h235 h237 h259 h262 h267 h276 h278 h280 h287 h309 h311 h329 h346
 Zhn e
instance : UV Ty where
 typed k:=(Zeu k).tb.on
 sz k:=(Zeu k).tb.sz
 view k x:=(Zeu k).tb.view x
 pack k vs:=(Zeu k).tb.pack vs
instance : UL Ty where
 sz_eq k:=(Zeu k).ok.sz_eq
 view_den g h k x us:=(Zeu k).ok.view_den g h x us
 view_ok p k x:=(Zeu k).ok.view_ok p x
 pack_rep g h k vs x us:=(Zeu k).ok.pack_rep g h vs x us
def Q2 (l:List (IK .u8)):ByteArray:=⟨(l.map fun x=>UInt8.ofNat x.n.toNat).toArray⟩
def HE (s:ByteArray):List (IK .u8):=(R4 s).map fun n=>⟨n⟩
def BE (a b:Int):Bool:=a == b
def Di (a b:ByteArray):Bool:=decide (a=b)
def A3 (a b:HD):Bool:=a.machine == b.machine && a.seq == b.seq
def AjN:(k:Nat)→Ty k→Value
 | 3=>fun(x:Int)=>.int .i64 x
 | 9=>fun(x:ByteArray)=>.string x
 | 227=>fun(x:HD)=>.agg #[.int .i64 x.machine,.int .i64 x.seq]
 | _=>fun _=>Go.undef
def AjO:(k:Nat)→Ty k→Ty k→Bool
 | 3=>BE
 | 9=>Di
 | 227=>A3
 | _=>fun _ _=>false
instance : UM Ty where
 ag k:=AF [180,60,62,93,184,186,35,114,32,65,49,51,90,98,124,125,154,178,182,189,191,192,227,234,237,259,267,278,280,329,346] k
 isK k:=AF [3,9,227] k
 kv:=AjN
 keq:=AjO
 b8:=5
 str:=Q2
 bts:=HE
theorem MI {k:Nat} (h:UM.isK Ty k=true):k=3∨k=9∨k=227:=by
 have:=Br.1 (show AF [3,9,227] k=true from h)
 simpa using this
theorem Akd {k:Nat} {a b:Ty k} (hk:UM.isK Ty k=true) (h:AjN k a=AjN k b):a=b:=by
 rcases MI hk with rfl | rfl | rfl
 · have e:(Value.int .i64 (a:Int))=.int .i64 (b:Int):=h
   injection e
 · have e:(Value.string (a:ByteArray))=.string (b:ByteArray):=h
   injection e
 · have e:(Value.agg #[.int .i64 (a:HD).machine,.int .i64 (a:HD).seq])=.agg #[.int .i64 (b:HD).machine,.int .i64 (b:HD).seq]:=h
   simp only [Value.agg.injEq,Array.mk.injEq,List.cons.injEq,Value.int.injEq,true_and,and_true] at e
   show(a:HD)=b
   obtain⟨a0,a1⟩:=(a:HD)
   obtain⟨b0,b1⟩:=(b:HD)
   simp_all
theorem Akw {k:Nat} {a b:Ty k} (hk:UM.isK Ty k=true):AjO k a b=true↔a=b:=by
 rcases MI hk with rfl | rfl | rfl
 · show(@BEq.beq Int _ a b)=true↔@Eq Int a b
   exact beq_iff_eq
 · show decide (@Eq ByteArray a b)=true↔@Eq ByteArray a b
   exact decide_eq_true_iff
 · show A3 (a:HD) (b:HD)=true↔(a:HD)=b
   obtain⟨a0,a1⟩:=(a:HD)
   obtain⟨b0,b1⟩:=(b:HD)
   show A3 ⟨a0,a1⟩ ⟨b0,b1⟩=true↔(⟨a0,a1⟩:HD)=⟨b0,b1⟩
   simp [A3]
theorem Ake {k:Nat} {h:Ad} {x:Ty k} {us:List Value} (hk:UM.isK Ty k=true) (h1:rep h x us):if UM.ag Ty k=true then AjN k x=.agg us.toArray else us=[AjN k x]:=by
 rcases MI hk with rfl | rfl | rfl
 · have e:us=[.int .i64 (x:Int)]:=h1
   exact e
 · have e:us=[.string (x:ByteArray)]:=h1
   exact e
 · have e:rep h (((x:HD).machine,(x:HD).seq)) us:=h1
   have e2:us=[.int .i64 (x:HD).machine,.int .i64 (x:HD).seq]:=by
    obtain⟨c1,c2,rfl,e1,e2⟩:=e
    have e1:c1=[.int .i64 (x:HD).machine]:=e1
    have e2:c2=[.int .i64 (x:HD).seq]:=e2
    rw [e1,e2]; rfl
   rw [e2]
   rfl
theorem AjP {h:Ad}:∀ {l:List (IK .u8)} {us:List Value},At h l us→∃ ns:List Int,us=ns.map (.int .u8)∧Q2 l=⟨(ns.map fun n=>UInt8.ofNat n.toNat).toArray⟩
 | [],us,hc=>by
  have e:us=[]:=hc
  exact⟨[],e,rfl⟩
 | x::l,us,hc=>by
  obtain⟨c1,c2,e,h1,h2⟩:=hc
  have h1:c1=[.int .u8 x.n]:=h1
  obtain⟨ns,e1,e2⟩:=AjP h2
  refine⟨x.n::ns,by rw [e,h1,e1]; rfl,?_⟩
  unfold Q2 at e2 ⊢
  have:=congrArg ByteArray.data e2
  simp only at this
  simp only [ZbB]
  congr 1
  have e3:=congrArg Array.toList this
  simp only at e3
  rw [e3]
instance : UML Ty where
 inj k a b hk h:=Akd hk h
 eq_iff k a b hk:=Akw hk
 kv_rep k h x us hk h1:=Ake hk h1
 bts_rep h s:=by
  show At h ((R4 s).map fun n=>(⟨n⟩:IK .u8)) ((R4 s).map (.int .u8))
  generalize R4 s=l
  induction l with
  | nil=>exact At.nil
  | cons n l ih=>exact⟨[.int .u8 n],l.map (.int .u8),rfl,rfl,ih⟩
 bts_len s:=by
  show((R4 s).map fun n=>(⟨n⟩:IK .u8)).length=s.size
  unfold R4
  rw [ZaO,ZaO,ZaN]
  rfl
 str_rep h l us hc:=AjP hc
 b8_sz:=rfl
open KRep (kv)
open VRep (rv)
section
variable {P:Program}
def Ajq (P:Program):Nat→TypeId→SA→SA→Option Bool
 | 0,_,_,_=>none
 | d+1,T,x,y=>match P.underlying T,x,y with
  | some (.int k),.c (.int _ a),.c (.int _ b)=>some (a == b)
  | some .bool,.c (.bool a),.c (.bool b)=>some (a == b)
  | some (.struct fs),.agg xs,.agg ys=>if P.stoodInHeld T then none else
   fs.toList.foldr (fun f acc=>if f.name = "_" then none else match QR P f.type xs f.offset,QR P f.type ys f.offset with
    | some a,some b=>match Ajq P d f.type a b,acc with
     | some p,some q=>some (p && q)
     | _,_=>none
    | _,_=>none) (some true)
  | some (.array n E),.agg xs,.agg ys =>
   (List.range n).foldr (fun i acc=>match QR P E xs (i*P.cellsOf E),QR P E ys (i*P.cellsOf E) with
    | some a,some b=>match Ajq P d E a b,acc with
     | some p,some q=>some (p && q)
     | _,_=>none
    | _,_=>none) (some true)
  | _,_,_=>none
def Pk (P:Program):Nat→TypeId→SA→Bool
 | 0,_,_=>false
 | d+1,T,x=>match P.underlying T,x with
  | some (.int k),.c (.int k' _)=>k == k'
  | some .bool,.c (.bool _)=>true
  | some (.struct fs),.agg xs=>fs.toList.all fun f=>match QR P f.type xs f.offset with
   | some a=>Pk P d f.type a
   | none=>false
  | some (.array n E),.agg xs=>(P.info? E).isSome && (List.range n).all fun i=>match QR P E xs (i*P.cellsOf E) with
   | some a=>Pk P d E a
   | none=>false
  | _,_=>false
theorem Q3 (e:JC) (k:Nat):∀ (d:Nat) {T:TypeId} {x y:SA} {b:Bool} (w:World),Pk P d T x=true→Pk P d T y=true→Ajq P d T x y=some b→(Op.equalIn (k+d) T (x.den e) (y.den e)).run P w=.ok b w
 | 0,_,_,_,_,_,_,_,h=>by simp [Ajq] at h
 | d+1,T,x,y,b,w,kx,ky,h=>by
  unfold Ajq at h
  unfold Pk at kx ky
  rw [show k+(d+1)=(k+d)+1 from rfl]
  split at h
  · rename_i kk k1 a k2 b' hu
    cases h
    simp only [hu] at kx ky
    have e1:=eq_of_beq kx
    have e2:=eq_of_beq ky
    subst e1; subst e2
    exact run_equalIn_int w (k+d) T _ _ a b' hu
  · rename_i a b' hu
    cases h
    exact run_equalIn_bool' w (k+d) T a b' hu
  · rename_i fs xs ys hu
    simp only [hu] at kx ky
    split at h
    · cases h
    · rename_i hst
      have hF:P.fieldsOf T=fs:=by unfold Program.fieldsOf; rw [hu]
      show(Op.equalIn (k+d+1) T (.agg _) (.agg _)).run P w=_
      rw [run_equalIn_struct w (k+d) T _ _ (by rw [hF]; exact hu) (by simpa using hst),hF]
      clear hF hu hst
      generalize fs.toList=l at h kx ky
      induction l generalizing b with
      | nil=>simp at h; subst h; rfl
      | cons f fs' ih =>
       simp only [List.foldr_cons] at h
       simp only [ZaP,Zan] at kx ky
       split at h
       · cases h
       · rename_i hn
         split at h
         · rename_i a c ha hc
           rw [ha] at kx
           rw [hc] at ky
           split at h
           · rename_i p q hp hq
             cases h
             unfold Op.eqFields
             rw [if_pos hn]
             simp only [Sem.run_bind,Gv e w ha,Gv e w hc,Result.andThen_ok,Q3 e k d w kx.1 ky.1 hp]
             cases p
             · rfl
             · simp only [ZaC,Za4,if_false,ZaF]
               exact ih q hq kx.2 ky.2
           · cases h
         · cases h
  · rename_i n E xs ys hu
    simp only [hu,Zan] at kx ky
    obtain⟨i,hi⟩:=Option.isSome_iff_exists.1 kx.1
    show(Op.equalIn (k+d+1) T (.agg _) (.agg _)).run P w=_
    rw [run_equalIn_array w (k+d) _ _ hu hi]
    have kx:=kx.2
    have ky:=ky.2
    clear hu hi
    generalize List.range n=l at h kx ky
    induction l generalizing b with
    | nil=>simp at h; subst h; rfl
    | cons j l' ih =>
     simp only [List.foldr_cons] at h
     simp only [ZaP,Zan] at kx ky
     split at h
     · rename_i a c ha hc
       rw [ha] at kx
       rw [hc] at ky
       split at h
       · rename_i p q hp hq
         cases h
         unfold Op.eqItems
         simp only [Sem.run_bind,Gv e w ha,Gv e w hc,Result.andThen_ok,Q3 e k d w kx.1 ky.1 hp]
         cases p
         · rfl
         · simp only [ZaC,Za4,if_false,ZaF]
           exact ih q hq kx.2 ky.2
       · cases h
     · cases h
  · cases h
theorem KC (e:JC) (em:Bool) (k:Nat):∀ (d:Nat) {T:TypeId} {x:SA} (w:World),Pk P d T x=true→(Instr.checkKey em (k+d) T (x.den e)).run P w=.ok () w
 | 0,_,_,_,h=>by simp [Pk] at h
 | d+1,T,x,w,h=>by
  unfold Pk at h
  rw [show k+(d+1)=(k+d)+1 from rfl,Instr.checkKey]
  split at h
  · rename_i hu
    simp only [Sem.run_bind,run_underlying hu,Result.andThen_ok]
    rfl
  · rename_i hu
    simp only [Sem.run_bind,run_underlying hu,Result.andThen_ok]
    rfl
  · rename_i fs xs hu
    simp only [SA.den,Sem.run_bind,run_underlying hu,Result.andThen_ok]
    rw [← Array.forIn_toList]
    clear hu
    generalize fs.toList=l at h
    induction l generalizing w with
    | nil=>simp
    | cons f fs' ih =>
     simp only [ZaP,Zan] at h
     have h1:=h.1
     split at h1
     · rename_i a ha
       simp only [List.forIn_cons,Sem.run_bind,Sem.run_ite]
       split
       · simp only [Sem.run_bind,Gv e w ha,Result.andThen_ok,KC e em k d w h1,Sem.run_pure]
         exact ih w h.2
       · simp only [Sem.run_pure,Result.andThen_ok]
         exact ih w h.2
     · cases h1
  · rename_i n E xs hu
    simp only [Zan] at h
    obtain⟨i,hi⟩:=Option.isSome_iff_exists.1 h.1
    have h:=h.2
    simp only [SA.den,Sem.run_bind,run_underlying hu,Result.andThen_ok]
    simp only [Std.Legacy.Range.forIn_eq_forIn_range',Std.Legacy.Range.size,Nat.sub_zero,Nat.add_one_sub_one,Nat.div_one]
    rw [List.range_eq_range'] at h
    generalize List.range' 0 n=l at h
    induction l with
    | nil=>simp
    | cons j l' ih =>
     simp only [ZaP,Zan] at h
     have h1:=h.1
     split at h1
     · rename_i a ha
       simp only [List.forIn_cons,Sem.run_bind,run_sizeOf w hi,Result.andThen_ok,Gv e w ha,KC e em k d w h1,Sem.run_pure]
       exact ih h.2
     · cases h1
  · cases h
def Q4:List SC→Bool
 | []=>true
 | .int _ _::r=>Q4 r
 | .bool _::r=>Q4 r
 | _=>false
theorem IJ (e:JC) (n:Nat):∀ {cs:List SC},Q4 cs=true→((cs.map (SC.den e)).zip (cs.map (SC.den e))).all (fun(x,y)=>Instr.sameBits n x y)=true
 | [],_=>rfl
 | .int k a::r,h=>by simp only [Q4] at h; simp only [ZbB,List.zip_cons_cons,ZaP,IJ e n h]; simp [SC.den,Instr.sameBits]
 | .bool b::r,h=>by simp only [Q4] at h; simp only [ZbB,List.zip_cons_cons,ZaP,IJ e n h]; simp [SC.den,Instr.sameBits]
theorem Lg {K:Type} [KRep K] [DecidableEq K] {KT:TypeId} (w:World) (heq:∀ a b:K,(Op.equal KT (kv a) (kv b)).run P w=.ok (decide (a=b)) w) (k:K):∀ (es:List MapEntry)(i:Nat),(∀ e∈es,∃ q:K,e.key=kv q) →
  ((Instr.findAsking KT (kv k) es i).run P w=.ok none w∧∀ e∈es,e.key≠kv k)∨∃ j e,(Instr.findAsking KT (kv k) es i).run P w=.ok (some (i+j,e.val)) w∧es[j]? = some e∧e.key=kv k
 | [],i,_=>.inl ⟨rfl,by simp⟩
 | e::es,i,h=>by
  obtain⟨q,hq⟩:=h e (by simp)
  by_cases hk:k=q
  · subst hk
    refine .inr ⟨0,e,?_,rfl,hq⟩
    unfold Instr.findAsking
    simp only [hq,Sem.run_bind,heq,Result.andThen_ok,decide_true,if_true,Sem.run_pure,Nat.add_zero]
  · have hne:e.key≠kv k:=fun he=>hk (KRep.inj (by rw [← he,hq]))
    have hrun:(Instr.findAsking KT (kv k) (e::es) i).run P w=(Instr.findAsking KT (kv k) es (i+1)).run P w:=by
     rw [Instr.findAsking]
     simp only [hq,Sem.run_bind,heq,Result.andThen_ok,hk,decide_false,Za4,if_false]
    rcases Lg w heq k es (i+1) (fun e he=>h e (by simp [he])) with⟨h1,h2⟩ | ⟨j,e',h1,h2,h3⟩
    · exact .inl ⟨by rw [hrun]; exact h1,fun x hx=>by
       rcases Zam.1 hx with rfl | hx
       · exact hne
       · exact h2 x hx⟩
    · exact .inr ⟨j+1,e',by rw [hrun,h1]; congr 3; omega,by simpa using h2,h3⟩
theorem KL.struct {K:Type} [KRep K] [DecidableEq K] {KT:TypeId} (d:Nat) (hd:decide (d≤10000)=true) (cs:K→List SC) (hkv:∀ k:K,kv k=.agg ((cs k).map (SC.den [])).toArray) (hw:(match P.underlying KT with | some (.array _ _) | some (.struct _)=>true | _=>false)=true)
  (hkind:∀ k:K,Pk P d KT (.agg (cs k))=true) (hp:∀ k:K,Q4 (cs k)=true) (heq:∀ a b:K,∃ r,Ajq P d KT (.agg (cs a)) (.agg (cs b))=some r∧(r=true↔a=b)):KL P KT K:=by
 have hd:=of_decide_eq_true hd
 have h0:∀ (w:World)(a b:K),(Op.equal KT (kv a) (kv b)).run P w=.ok (decide (a=b)) w:=fun w a b=>by
  obtain⟨r,hr,hiff⟩:=heq a b
  have:=Q3 [] (10000-d) d w (hkind a) (hkind b) hr
  rw [show 10000-d+d=10000 by omega] at this
  rw [hkv a,hkv b]
  have hr2:decide (a=b)=r:=by
   cases r
   · have : ¬ a=b:=fun h=>by have:=hiff.2 h; cases this
     simp [this]
   · have:=hiff.1 rfl
     simp [this]
  rw [hr2]
  exact this
 refine⟨fun w em k=>?_,fun w k es he=>?_,fun w k=>?_⟩
 · have:=KC (P:=P) [] em (10000-d) d w (hkind k)
   rw [show 10000-d+d=10000 by omega] at this
   rw [hkv k]
   exact this
 · rw [run_findKey_eq (P:=P) w hw]
   have:=Lg (P:=P) w (h0 w) k es 0 he
   simpa using this
 · have:Instr.sameBits 10000 (kv k) (kv k)=true:=by
    rw [hkv k]
    show Instr.sameBits (9999+1) _ _=true
    simp only [Instr.sameBits,beq_self_eq_true,ZaF]
    exact IJ [] 9999 (hp k)
   simp [Instr.keyThatStays,this]
end
end
end Go.Proofs.YtkpgggfibljflaaGreatDoor
