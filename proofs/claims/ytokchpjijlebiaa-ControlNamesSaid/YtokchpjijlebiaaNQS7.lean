/- What a printed proof leans on: memory that is read, and steps through a region. -/
import Derived.Test.YtokchpjijlebiaaNQS5
import Derived.Lib.SlicesCompact
set_option linter.all false
namespace Go.Proofs.Ytokchpjijlebiaa
open Go Go.RowKit
open Rep (rep)
section
variable {F:Fr} {h:Ad} {e:AG} {pl:List Cu} {rw rw':List Cf} {w:World}
open Classical in
theorem Ah.reRow (hm:Ah F h e pl rw w) (f:Nat→Nat) (hf:∀ i j,i<rw'.length→j<rw'.length→f i=f j→i=j) (hr:∀ i,i<rw'.length→rw'[i]? = rw[f i]?):Ah F h e pl rw' w:=by
  obtain⟨ow,m⟩:=hm
  refine⟨fun b=>match ow b with | some (.inr j)=>if hj:∃ i,i<rw'.length∧f i=j then some (.inr hj.choose) else none | x=>x,m.below,m.le,m.old,m.has,fun b x hx=>?_,fun b o x i hh hx=>?_,fun i p hp=>?_,fun k r hk=>?_,fun b x hx=>?_⟩
  · cases hb:ow b with
    | none=>simp [hb] at hx
    | some y=>exact m.ows b y hb
  · cases hb:ow b with
    | none=>simp [hb] at hx
    | some y =>
      cases y with
      | inl q=>simp [hb] at hx; subst hx; exact m.hown b o x q hh hb
      | inr q =>
        simp only [hb] at hx
        split at hx <;> cases hx
  · have:=m.pls i p hp
    unfold B7 at this ⊢
    split at this
    · obtain⟨q1,q2⟩:=this
      exact⟨by simp only [q1],q2⟩
    · exact this
  · have hlt:k<rw'.length:=(List.getElem?_eq_some_iff.1 hk).1
    have:=m.rws (f k) r (by rw [← hr k hlt]; exact hk)
    refine⟨this.own,this.frz,fun ad ha=>?_,this.one⟩
    obtain⟨h1,h2,h3⟩:=this.blk ad ha
    refine⟨?_,h2,h3⟩
    simp only [h1]
    have hj:∃ i,i<rw'.length∧f i=f k:=⟨k,hlt,rfl⟩
    rw [dif_pos hj]
    congr 2
    exact hf _ _ hj.choose_spec.1 hlt hj.choose_spec.2
  · obtain⟨h1,h2,h3,h4,h5⟩:=m.ext b x hx
    exact⟨h1,h2,h3,by simp only [h4],h5⟩
theorem Ah.famIn (A:List Cf) {fam:List Cf} {r:Cf} (hm:Ah F h e pl (A++(fam++[r])) w):Ah F h e pl (A++(r::fam)) w:=by
  refine hm.reRow (fun i=>if i<A.length then i else if i=A.length then A.length+fam.length else i-1) (fun i j hi hj hij=>?_) fun i hi=>?_
  · simp only [List.length_append,List.length_cons] at hi hj
    split at hij <;> split at hij <;> (try split at hij) <;> (try split at hij) <;> omega
  · simp only [List.length_append,List.length_cons] at hi
    split
    · rename_i h1; rw [List.getElem?_append_left h1,List.getElem?_append_left h1]
    · rename_i h1
      split
      · rename_i h2
        subst h2
        rw [List.getElem?_append_right (Nat.le_refl _),List.getElem?_append_right (by omega)]
        simp
      · rename_i h2
        rw [List.getElem?_append_right (by omega),List.getElem?_append_right (by omega),show i-A.length=(i-1-A.length)+1 by omega,List.getElem?_cons_succ,List.getElem?_append_left (by omega)]
theorem Ah.famPut (A:List Cf) {fam:List Cf} {r:Cf} {k:Nat} (hm:Ah F h e pl (A++(r::fam)) w) (hk:k<fam.length):Ah F h e pl (A++fam.set k r) w:=by
  refine hm.reRow (fun i=>if i<A.length then i else if i=A.length+k then A.length else i+1) (fun i j hi hj hij=>?_) fun i hi=>?_
  · split at hij <;> split at hij <;> (try split at hij) <;> (try split at hij) <;> omega
  · simp only [List.length_append,List.length_set] at hi
    split
    · rename_i h1; rw [List.getElem?_append_left h1,List.getElem?_append_left h1]
    · rename_i h1
      split
      · rename_i h2
        subst h2
        rw [List.getElem?_append_right (by omega),List.getElem?_append_right (Nat.le_refl _),Nat.add_sub_cancel_left,List.getElem?_set_self hk]
        simp
      · rename_i h2
        rw [List.getElem?_append_right (by omega),List.getElem?_append_right (by omega),show i+1-A.length=(i-A.length)+1 by omega,List.getElem?_cons_succ,List.getElem?_set_ne (by omega)]
theorem Ah.famCut (A B:List Cf) {fam:List Cf} (hm:Ah F h e pl (A++(B++fam)) w):Ah F h e pl (A++fam) w:=by
  refine hm.reRow (fun i=>if i<A.length then i else i+B.length) (fun i j hi hj hij=>?_) fun i hi=>?_
  · split at hij <;> split at hij <;> omega
  · simp only [List.length_append] at hi
    split
    · rename_i h1; rw [List.getElem?_append_left h1,List.getElem?_append_left h1]
    · rw [List.getElem?_append_right (by omega),List.getElem?_append_right (by omega),List.getElem?_append_right (by omega),show i+B.length-A.length-B.length=i-A.length by omega]
theorem Ah.nilRows (E:TypeId) (sz:Nat) (hm:Ah F h e pl rw w):∀ n,Ah F h e pl (rw++List.replicate n ⟨none,0,0,E,sz,[],0⟩) w
  | 0=>by simpa using hm
  | n+1=>by
    have:=(Ah.nilRows E sz hm n).nilRow E sz
    rw [List.append_assoc] at this
    rwa [List.replicate_succ']
end
def Ba {α:Type} (g:Cf→α→List Value):List Cf→List α→List Value
  | r::fam,x::l=>g r x++Ba g fam l
  | _,_=>[]
section
variable {α:Type} {g:Cf→α→List Value} {s:Nat}
theorem K1 (hg:∀ r x,(g r x).length=s):∀ {fam:List Cf} {l:List α},fam.length=l.length→(Ba g fam l).length=l.length*s
  | [],[],_=>by simp [Ba]
  | r::fam,x::l,h=>by
    simp only [Ba,List.length_append,hg,List.length_cons]
    rw [K1 hg (by simpa using h),Nat.succ_mul]; omega
theorem Eb (hg:∀ r x,(g r x).length=s):∀ {fam:List Cf} {l:List α} {k:Nat} {r:Cf} {x:α},fam[k]? = some r→l[k]? = some x→∀ j v,(g r x)[j]? = some v→(Ba g fam l)[0+k*s+j]? = some v
  | r0::fam,x0::l,0,r,x,hr,hx,j,v,hv=>by
    simp at hr hx; subst hr; subst hx
    simp only [Ba,Nat.zero_mul,Nat.zero_add]
    rw [List.getElem?_append_left (List.getElem?_eq_some_iff.1 hv).1,hv]
  | r0::fam,x0::l,k+1,r,x,hr,hx,j,v,hv=>by
    have:=Eb hg (fam:=fam) (l:=l) (k:=k) (by simpa using hr) (by simpa using hx) j v hv
    simp only [Ba]
    rw [List.getElem?_append_right (by rw [hg,Nat.succ_mul]; omega),hg,show 0+(k+1)*s+j-s=0+k*s+j by rw [Nat.succ_mul]; omega]
    exact this
  | [],_,_,_,_,hr,_,_,_,_=>by simp at hr
  | _::_,[],_,_,_,_,hx,_,_,_=>by simp at hx
theorem HC (hg:∀ r x,(g r x).length=s) (hs:0<s) {fam:List Cf} {l:List α} {k:Nat} (hl:fam.length=l.length) (hk:k<l.length):0+k*s<(Ba g fam l).length:=by
  rw [K1 hg hl,Nat.zero_add]
  exact Nat.mul_lt_mul_of_pos_right hk hs
theorem K2 (hg:∀ r x,(g r x).length=s) {fam:List Cf} {l:List α} {k off n:Nat} (hl:fam.length=l.length) (hk:k<l.length) (hp:off+n≤s):0+k*s+off+n≤(Ba g fam l).length:=by
  rw [K1 hg hl]
  have:(k+1)*s≤l.length*s:=Nat.mul_le_mul_right _ hk
  rw [Nat.succ_mul] at this
  omega
theorem IH (hg:∀ r x,(g r x).length=s):∀ {fam:List Cf} {l:List α} {k:Nat} {r r':Cf} {x x':α} {off:Nat} {vals:List Value},fam[k]? = some r→l[k]? = some x→(g r x).take off++vals++(g r x).drop (off+vals.length)=g r' x'→off+vals.length≤s →
    (Ba g fam l).take (0+k*s+off)++vals++(Ba g fam l).drop (0+k*s+off+vals.length)=Ba g (fam.set k r') (l.set k x')
  | r0::fam,x0::l,0,r,r',x,x',off,vals,hr,hx,he,hp=>by
    simp at hr hx; subst hr; subst hx
    simp only [Ba,Nat.zero_mul,Nat.zero_add,List.set_cons_zero]
    rw [← he,List.take_append_of_le_length (by rw [hg]; omega),List.drop_append_of_le_length (by rw [hg]; omega)]
    simp only [List.append_assoc]
  | r0::fam,x0::l,k+1,r,r',x,x',off,vals,hr,hx,he,hp=>by
    have:=IH hg (fam:=fam) (l:=l) (k:=k) (by simpa using hr) (by simpa using hx) he hp
    simp only [Ba,List.set_cons_succ]
    rw [← this]
    have h1:0+(k+1)*s+off=s+(0+k*s+off):=by rw [Nat.succ_mul]; omega
    rw [h1,List.take_append,List.drop_append,hg,List.take_of_length_le (by rw [hg]; omega),List.drop_of_length_le (by rw [hg]; omega),show s+(0+k*s+off)-s=0+k*s+off by omega,show s+(0+k*s+off)+vals.length-s=0+k*s+off+vals.length by omega]
    simp only [List.append_assoc,List.nil_append]
  | [],_,_,_,_,_,_,_,_,hr,_,_,_=>by simp at hr
  | _::_,[],_,_,_,_,_,_,_,_,hx,_,_=>by simp at hx
theorem PF {β:Type} {l:List β} {k:Nat} {x:β} (h:l[k]? = some x):l.set k x=l:=by
  obtain⟨hk,rfl⟩:=List.getElem?_eq_some_iff.1 h
  simp
theorem Ls:∀ {fam:List Cf} {l:List α} {k:Nat} {r r':Cf} {x x':α},fam[k]? = some r→l[k]? = some x→g r x=g r' x'→Ba g (fam.set k r') (l.set k x')=Ba g fam l
  | r0::fam,x0::l,0,r,r',x,x',hr,hx,he=>by
    simp at hr hx; subst hr; subst hx
    simp only [Ba,List.set_cons_zero,he]
  | r0::fam,x0::l,k+1,r,r',x,x',hr,hx,he=>by
    simp only [Ba,List.set_cons_succ]
    rw [Ls (fam:=fam) (l:=l) (k:=k) (by simpa using hr) (by simpa using hx) he]
  | [],_,_,_,_,_,_,hr,_,_=>by simp at hr
  | _::_,[],_,_,_,_,_,_,hx,_=>by simp at hx
theorem Lt {r:Cf} {x:α}:∀ n,(List.replicate n (g r x)).flatten=Ba g (List.replicate n r) (List.replicate n x)
  | 0=>rfl
  | n+1=>by rw [List.replicate_succ,List.flatten_cons,Lt n]; rfl
structure Ei {α β:Type} [Rep β] (pr:α→List β) (E sz:Nat) (h:Ad) (fam:List Cf) (l:List α):Prop where
  len:fam.length=l.length
  row:∀ (k:Nat)(r:Cf)(x:α),fam[k]? = some r→l[k]? = some x→r.E=E∧r.sz=sz∧r.frz=0∧r.n=(pr x).length∧Af h (pr x) r.xs
variable {β:Type} [Rep β] {pr:α→List β} {E sz:Nat} {h h':Ad} {fam:List Cf} {l:List α} {F:Fr} {e:AG} {pl:List Cu} {w:World}
theorem Ei.mono (H:Ei pr E sz h fam l) (hle:Ad.le h h'):Ei pr E sz h' fam l :=
  ⟨H.len,fun k r x hr hx=>let ⟨h1,h2,h3,h4,h5⟩:=H.row k r x hr hx; ⟨h1,h2,h3,h4,h5.mono hle⟩⟩
theorem Ei.get (H:Ei pr E sz h fam l) {k:Nat} {x:α} (hx:l[k]? = some x):∃ a c xs,fam[k]? = some ⟨a,(pr x).length,c,E,sz,xs,0⟩∧Af h (pr x) xs:=by
  have hk:k<fam.length:=by rw [H.len]; exact(List.getElem?_eq_some_iff.1 hx).1
  have hr:fam[k]? = some fam[k]:=List.getElem?_eq_getElem hk
  obtain⟨h1,h2,h3,h4,h5⟩:=H.row k _ x hr hx
  generalize fam[k]=r at hr h1 h2 h3 h4 h5
  obtain⟨a,n,c,E1,s1,xs,f⟩:=r
  simp only at h1 h2 h3 h4 h5
  subst h1 h2 h3 h4
  exact⟨a,c,xs,hr,h5⟩
theorem Ei.set (H:Ei pr E sz h fam l) {k:Nat} {r:Cf} {x:α} (h1:r.E=E∧r.sz=sz∧r.frz=0∧r.n=(pr x).length∧Af h (pr x) r.xs):Ei pr E sz h (fam.set k r) (l.set k x):=by
  refine⟨by simp [H.len],fun j q y hq hy=>?_⟩
  by_cases hj:k=j
  · subst hj
    have hk:=(List.getElem?_eq_some_iff.1 hq).1
    have hl:=(List.getElem?_eq_some_iff.1 hy).1
    simp only [List.length_set] at hk hl
    rw [List.getElem?_set_self hk] at hq
    rw [List.getElem?_set_self hl] at hy
    cases hq; cases hy
    exact h1
  · rw [List.getElem?_set_ne hj] at hq hy
    exact H.row j q y hq hy
theorem Ei.nils {x:α} (hx:pr x=[]) (n:Nat):Ei pr E sz h (List.replicate n ⟨none,0,0,E,sz,[],0⟩) (List.replicate n x):=by
  refine⟨by simp,fun k r y hr hy=>?_⟩
  rw [List.getElem?_replicate] at hr hy
  by_cases hk:k<n
  · rw [if_pos hk] at hr hy
    cases hr; cases hy
    exact⟨rfl,rfl,rfl,by rw [hx]; rfl,by rw [hx]; exact Af.nil⟩
  · rw [if_neg hk] at hr; cases hr
theorem Ei.make {rw:List Cf} {a:Option Addr} {EC szc:Nat} {z:List Value} {x:α} {l:List α} {n:Nat} (E sz:Nat) (hx:pr x=[]) (hz:g ⟨none,0,0,E,sz,[],0⟩ x=z) (hl:l=List.replicate n x)
    (hm:Ah F h e pl (rw++[⟨a,n,n,EC,szc,(List.replicate n z).flatten,0⟩]) w) :
    ∃ fam,Ei pr E sz h fam l∧Ah F h e pl (rw++(⟨a,l.length,l.length,EC,szc,Ba g fam l,0⟩::fam)) w:=by
  subst hl hz
  refine⟨List.replicate n ⟨none,0,0,E,sz,[],0⟩,Ei.nils hx n,?_⟩
  have:=hm.nilRows E sz n
  rw [List.append_assoc] at this
  rw [List.length_replicate,← Lt]
  exact this
theorem Ei.settle (A:List Cf) (hm:Ah F h e pl (A++fam) w):∀ n,n≤fam.length→∃ h' fam',Ad.le h h'∧Ah F h' e pl (A++fam') w∧fam'.length=fam.length∧(∀ k,n≤k→fam'[k]? = fam[k]?)∧∀ (k:Nat)(r:Cf),k<n→fam[k]? = some r→FC h' r.a r.xs
  | 0,_=>⟨h,fam,Ad.le_refl _,hm,rfl,fun _ _=>rfl,fun _ _ hk=>by omega⟩
  | n+1,hn=>by
    obtain⟨h1,f1,hle,hm1,hl1,hs1,hd1⟩:=Ei.settle A hm n (by omega)
    have hr:fam[n]? = some fam[n]:=List.getElem?_eq_getElem (by omega)
    obtain⟨h2,hle2,hsl,hm2⟩:=hm1.settle (i:=A.length+n) (r:=fam[n]) (by rw [List.getElem?_append_right (by omega),Nat.add_sub_cancel_left,hs1 n (Nat.le_refl _),hr])
    rw [show ∀ q:Cf,(A++f1).set (A.length+n) q=A++f1.set n q from fun q=>by rw [List.set_append,if_neg (by omega)]; simp] at hm2
    refine⟨h2,_,Ad.le_trans hle hle2,hm2,by simp [hl1],fun k hk=>?_,fun k r hk hr'=>?_⟩
    · rw [List.getElem?_set_ne (by omega)]; exact hs1 k (by omega)
    · by_cases hkn:k=n
      · subst hkn
        rw [hr] at hr'; cases hr'
        exact hsl
      · exact(hd1 k r (by omega) hr').mono hle2
theorem K3 [Rep α] {h':Ad} (hg:∀ (r:Cf)(x:α),Ar h' r.a r.c (pr x)→r.n=(pr x).length→rep h' x (g r x)):∀ {fam:List Cf} {l:List α},fam.length=l.length→(∀ (k:Nat)(r:Cf)(x:α),fam[k]? = some r→l[k]? = some x→Ar h' r.a r.c (pr x)∧r.n=(pr x).length)→Af h' l (Ba g fam l)
  | [],[],_,_=>rfl
  | r::fam,x::l,hl,H=>by
    have h0:=H 0 r x rfl rfl
    exact⟨_,_,rfl,hg r x h0.1 h0.2,K3 hg (by simpa using hl) fun k r' x' hr hx=>H (k+1) r' x' (by simpa using hr) (by simpa using hx)⟩
theorem Ei.settleAll [Rep α] (A:List Cf) (H:Ei pr E sz h fam l) (hg:∀ (h:Ad)(r:Cf)(x:α),Ar h r.a r.c (pr x)→r.n=(pr x).length→rep h x (g r x)) (hm:Ah F h e pl (A++fam) w):∃ h',Ad.le h h'∧Ah F h' e pl A w∧Af h' l (Ba g fam l):=by
  obtain⟨h1,f1,hle,hm1,hl1,_,hd⟩:=Ei.settle A hm fam.length (Nat.le_refl _)
  have hm2:=hm1.cutRw A.length
  rw [List.take_left] at hm2
  refine⟨h1,hle,hm2,K3 (hg h1) H.len fun k r x hr hx=>?_⟩
  obtain⟨_,_,_,h4,h5⟩:=H.row k r x hr hx
  have hk:=(List.getElem?_eq_some_iff.1 hr).1
  have hc:r.n≤r.c:=hm.rowCap (i:=A.length+k) (by rw [List.getElem?_append_right (by omega),Nat.add_sub_cancel_left,hr])
  exact⟨⟨r.xs,h5.mono hle,hd k r hk hr,by rw [← h4]; exact hc⟩,h4⟩
def E2 {β:Type} (r:Cf) (_:List β):List Value:=[.slice r.a r.n r.c]
abbrev NI {β:Type} (x:List β):List β:=x
theorem Ce {β:Type} (r:Cf) (x:List β):(E2 r x).length=1:=rfl
theorem Pt {β:Type} [Rep β] (h:Ad) (r:Cf) (x:List β) (hr:Ar h r.a r.c (NI x)) (hn:r.n=(NI x).length):rep h x (E2 r x):=by
  unfold E2; rw [hn]; exact Ae hr
end
def MG (P:Program) (f:FuncId):Prop :=
  (∀ (blk cap:Nat)(zs:List Int)(w:World),Go.Sort.Holds (Value.int .i64) w blk 0 zs.toArray→zs.length≤9223372036854775807→zs.length≤cap →
    Calls P f #[.slice (some ⟨blk,0,none⟩) zs.length cap] w fun e w'=>e=.returned (.slice (some ⟨blk,0,none⟩) (Lib.compact zs).length cap)∧∃ q,w' = Go.Sort.putRow (Value.int .i64) (Go.Sort.ahead w q) blk 0 (Lib.compact zs++List.replicate (zs.length-(Lib.compact zs).length) 0).toArray) ∧
  (∀ (a:Option Addr)(c:Nat)(w:World),Calls P f #[.slice a 0 c] w fun e w'=>e=.returned (.slice a 0 c)∧w' = w)
theorem MH (zs:List Int):(Lib.compact zs).length≤zs.length:=by
  unfold Lib.compact Lib.compactUpTo
  rw [List.length_map]
  exact Nat.le_trans (List.length_filter_le _ _) (by simp)
theorem Mb {w:World} {base e n m g cap:Nat} {xs:List Value} (H:w.ownsRow base e 1 (.slice (some ⟨g,0,none⟩) n cap) n xs) (hm:m≤n):w.ownsRow base e 1 (.slice (some ⟨g,0,none⟩) m cap) m (xs.take m):=by
  obtain⟨h1,h2⟩:=H
  refine⟨by rw [List.length_take,h1]; omega,?_⟩
  rcases h2 with⟨hv,_⟩ | ⟨g',cap',cur,hv,q1,q2,q3,q4,q5,q6⟩
  · cases hv
  · simp only [Value.slice.injEq,Option.some.injEq,Addr.mk.injEq,and_true,true_and] at hv
    obtain⟨rfl,rfl⟩:=hv
    exact .inr ⟨g,cap,cur,rfl,q1,q2,by omega,q4,q5,by rw [← q6,List.take_take]; congr 1; omega⟩
def MI (l:List Int):Option (List Int):=if l.length≤9223372036854775807 then some (Lib.compact l) else none
theorem N6 {l u:List Int} (h:MI l=some u):l.length≤9223372036854775807∧u=Lib.compact l:=by
  unfold MI at h
  split at h
  · rename_i hl; exact⟨hl,(Option.some.inj h).symm⟩
  · cases h
section
variable {P:Program} {N:Nat} {F:Fr} {h:Ad} {e:AG} {pl:List Cu} {rw:List Cf} {m:TM} {t:Array Value} {dd:List Deferred} {w w':World}
  {o:Oper} {K:Act→World→Prop} {Q:Exit→Act→World→Prop} {d:Nat}
theorem N7 {f:FuncId} {args:Array Operand} {tys:Array TypeId} {r:Cf} {l:List Int} (S:MG P f) (i:Nat) (hk:Kn N e m t) (hm:Ah F h e pl rw w) (hop:o.op=.call ⟨.value (.func f),args,tys⟩) (hd:o.dst=some d) (hlt:d<N)
    (hargs:He m args.toList=some [.c (.slice r.a r.n r.c)]) (hent:∀ args w,(callFunc f args).run P w=.ok (.enter f args) w) (hi:rw[i]? = some r) (hsz:r.sz=1) (hn:r.n=l.length) (hf:r.frz=0) (hc:Af h l r.xs) (hlen:l.length≤9223372036854775807)
    (hK:∀ t' w',Kn N e (m.put d (.one (.c (.slice r.a (Lib.compact l).length r.c)))) t'→Ah F h e pl (rw.set i ⟨r.a,(Lib.compact l).length,r.c,r.E,r.sz,(Lib.compact l).map (Value.int .i64),0⟩) w'→K ⟨t',dd⟩ w'):o.wp P ⟨t,dd⟩ w K Q:=by
  have h1:args.map (Act.mk t dd).eval=#[.slice r.a r.n r.c]:=by
    have:=CR (dd:=dd) hk hargs
    apply Array.ext'
    rw [Array.toList_map,this]; rfl
  have hxs:=Ib hc
  have hle:=MH l
  have hcall:Calls P f #[.slice r.a r.n r.c] w fun en w'=>en=.returned (.slice r.a (Lib.compact l).length r.c)∧Ah F h e pl (rw.set i ⟨r.a,(Lib.compact l).length,r.c,r.E,r.sz,(Lib.compact l).map (Value.int .i64),0⟩) w':=by
    have hrow:=hm.row hi
    rcases hrow.2 with⟨hv,h0⟩ | ⟨g,cap,cur,hv,hb,hg,q1,q2,q3,q4⟩
    · obtain⟨ra,rn,rc,rE,rsz,rxs,rfz⟩:=r
      simp only at *
      have hl:l=[]:=List.eq_nil_of_length_eq_zero (by omega)
      subst hl
      subst h0
      refine(S.2 ra rc w).mono ?_
      rintro en w' ⟨rfl,rfl⟩
      refine⟨rfl,?_⟩
      have:rw.set i ⟨ra,(Lib.compact ([]:List Int)).length,rc,rE,rsz,List.map (Value.int .i64) (Lib.compact []),0⟩=rw:=by
        have hq:(⟨ra,(Lib.compact ([]:List Int)).length,rc,rE,rsz,List.map (Value.int .i64) (Lib.compact []),0⟩:Cf)=⟨ra,0,rc,rE,rsz,rxs,rfz⟩:=by
          rw [hxs,hf]; rfl
        rw [hq]
        exact PF hi
      rw [this]; exact hm
    · obtain⟨ra,rn,rc,rE,rsz,rxs,rfz⟩:=r
      simp only at *
      simp only [Value.slice.injEq,true_and] at hv
      obtain⟨rfl,rfl⟩:=hv
      subst hn hsz
      have hhold:Go.Sort.Holds (Value.int .i64) w g 0 l.toArray:=holds_of_blockI hg (by rw [Nat.mul_one] at q4; rw [q4,hxs])
      have hyl:(Lib.compact l++List.replicate (l.length-(Lib.compact l).length) 0).length=l.length:=by simp; omega
      refine(S.1 g rc l w hhold hlen q1).mono ?_
      rintro en w' ⟨rfl,n,rfl⟩
      refine⟨rfl,hm.setRow hi (r':=⟨some ⟨g,0,none⟩,(Lib.compact l).length,rc,rE,1,(Lib.compact l).map (Value.int .i64),0⟩) ?_ (fun o ho=>absurd ho (by simp [hf])) (fun v hv=>?_) (.inl ⟨rfl,hf.symm,?_⟩)⟩
      · have:=Mb (ownsRow_sortedI (os:=#[]) (n:=n) hyl hb hg q1 q2 q3) hle
        rw [Go.Sort.grow_empty,List.map_append,List.take_left' (by simp)] at this
        exact this
      · obtain⟨x,_,rfl⟩:=List.mem_map.1 hv; rfl
      · have:=grownBy_sortedI (w:=w) (g:=g) (n:=n) (os:=#[]) (Lib.compact l++List.replicate (l.length-(Lib.compact l).length) 0).toArray
        rw [Go.Sort.grow_empty] at this
        exact this
  unfold Oper.wp execOp
  simp only [hop,resolve,h1]
  simp only [Act.eval,Deferred.ofValue,Sem.run_bind,Sem.run_pure,Result.andThen_ok,invoke,Array.empty_append,Array.append_empty,hent,Oper.upon]
  refine hcall.mono ?_
  rintro en w' ⟨rfl,hm'⟩
  show K _ _
  rw [CE t dd hd]
  exact hK _ _ (hk.put hlt (.one (.c (.slice r.a (Lib.compact l).length r.c)))) hm'
end
theorem OG {c0:SC} {xs:List Value} {b:Nat} {v:Value} (h:xs[b]? = some v) (hv:∀ e:AG,c0.den e=v):∀ (e:AG)(k:Nat) c,([c0]:List SC)[k]? = some c→xs[b+k]? = some (c.den e)
  | e,0,c,hk=>by
    obtain rfl:c0=c:=Option.some.inj hk
    rw [hv]; exact h
  | e,k+1,c,hk=>by simp at hk
theorem Af.atInt {h h':Ad}:∀ {xs:List Int} {vs:List Value},Af h xs vs→Af h' xs vs
  | [],_,H=>H
  | _::_,_,⟨cs,us,e,hx,hr⟩=>⟨cs,us,e,hx,Af.atInt hr⟩
theorem Af.atBool {h h':Ad}:∀ {xs:List Bool} {vs:List Value},Af h xs vs→Af h' xs vs
  | [],_,H=>H
  | _::_,_,⟨cs,us,e,hx,hr⟩=>⟨cs,us,e,hx,Af.atBool hr⟩
theorem Ah.reset {w:World} {h h1:Ad} {e:AG} {pl:List Cu} {rw:List Cf} {w':World} (hh:Dv h w) (hm:Ah ⟨w,h,Az⟩ h1 e pl rw w'):Ah ⟨w,h,Az⟩ h e (pl.map fun p=>⟨if p.own.isSome then p.cells else [],p.own⟩) (rw.map fun r=>⟨r.a,r.n,r.c,r.E,r.sz,r.xs,0⟩) w':=by
  obtain⟨ow,m⟩:=hm
  have hle:=m.le
  have low:∀ b o x,h b o=some x→b<w.heap.size:=fun b o x hx=>(hh b o x hx).1
  refine⟨ow,m.below,Ad.le_refl _,fun _ _ _ hx=>.inl hx,fun b o x hx=>m.has b o x (hle b o x hx),m.ows,fun b o x i hx ho=>m.hown b o x i (hle b o x hx) ho,fun i p hi=>?_,fun i r hi=>?_,fun b x hx=>by cases hx⟩
  · rw [List.getElem?_map] at hi
    obtain⟨p,h0,rfl⟩:=Option.map_eq_some_iff.1 hi
    have H:=m.pls i p h0
    unfold B7 at H ⊢
    simp only
    cases ho:p.own with
    | none =>
      simp only [Option.isSome_none]
      intro j c hc
      simp at hc
    | some T =>
      rw [ho] at H
      simp only [Option.isSome_some,if_true] at H ⊢
      refine⟨H.1,H.2.1,H.2.2.1,fun o=>?_⟩
      cases hx:h (e.blk i).1 o with
      | none=>rfl
      | some x=>exact absurd (H.2.2.2 o) (by rw [hle _ _ _ hx]; simp)
  · rw [List.getElem?_map] at hi
    obtain⟨r0,h0,rfl⟩:=Option.map_eq_some_iff.1 hi
    have H:=m.rws i r0 h0
    refine⟨H.own,Nat.zero_le _,fun ad ha=>⟨(H.blk ad ha).1,fun o _=>?_,fun o ho=>absurd ho (Nat.not_lt_zero _)⟩,H.one⟩
    cases hx:h ad.block o with
    | none=>rfl
    | some x =>
      have h1:=low _ _ _ hx
      have h2:=(m.ows _ _ (H.blk ad ha).1).1
      exact absurd h1 (Nat.not_lt.2 h2)
end Go.Proofs.Ytokchpjijlebiaa
