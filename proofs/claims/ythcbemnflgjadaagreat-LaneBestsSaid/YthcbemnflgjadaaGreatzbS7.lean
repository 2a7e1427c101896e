/- What a printed proof leans on: memory that is read, and steps through a region. -/
import Derived.Test.YthcbemnflgjadaaGreatzbS5
import Derived.Lib.SlicesCompact
set_option linter.all false
namespace Go.Proofs.YthcbemnflgjadaaGreat
open Go Go.RowKit
open Rep (rep)
section
variable {F:Fr} {h:Ac} {e:AG} {pl:List Co} {rw rw':List BH} {w:World}
open Classical in
theorem Aj.reRow (hm:Aj F h e pl rw w) (f:Nat→Nat) (hf:∀ i j,i<rw'.length→j<rw'.length→f i=f j→i=j) (hr:∀ i,i<rw'.length→rw'[i]? = rw[f i]?):Aj F h e pl rw' w:=by
  obtain⟨ow,m⟩:=hm
  refine⟨fun b=>match ow b with | some (.inr j)=>if hj:∃ i,i<rw'.length∧f i=j then some (.inr hj.choose) else none | x=>x,m.below,m.le,m.old,m.has,fun b x hx=>?_,fun b o x i hh hx=>?_,fun i p hp=>?_,fun k r hk=>?_,fun b x hx=>?_⟩
  · cases hb:ow b with
    | none=>simp [hb] at hx
    | some y=>exact m.ows b y hb
  · cases hb:ow b with
    | none=>simp [hb] at hx
    | some y =>
      cases y with
      | inl q=>simp [hb] at hx; subst hx; exact m.hown b o x q hh hb
      | inr q =>
        simp only [hb] at hx
        split at hx <;> cases hx
  · have:=m.pls i p hp
    unfold BR at this ⊢
    split at this
    · obtain⟨q1,q2⟩:=this
      exact⟨by simp only [q1],q2⟩
    · exact this
  · have hlt:k<rw'.length:=(List.getElem?_eq_some_iff.1 hk).1
    have:=m.rws (f k) r (by rw [← hr k hlt]; exact hk)
    refine⟨this.own,this.frz,fun ad ha=>?_,this.one⟩
    obtain⟨h1,h2,h3⟩:=this.blk ad ha
    refine⟨?_,h2,h3⟩
    simp only [h1]
    have hj:∃ i,i<rw'.length∧f i=f k:=⟨k,hlt,rfl⟩
    rw [dif_pos hj]
    congr 2
    exact hf _ _ hj.choose_spec.1 hlt hj.choose_spec.2
  · obtain⟨h1,h2,h3,h4,h5⟩:=m.ext b x hx
    exact⟨h1,h2,h3,by simp only [h4],h5⟩
theorem Aj.famIn (A:List BH) {fam:List BH} {r:BH} (hm:Aj F h e pl (A++(fam++[r])) w):Aj F h e pl (A++(r::fam)) w:=by
  refine hm.reRow (fun i=>if i<A.length then i else if i=A.length then A.length+fam.length else i-1) (fun i j hi hj hij=>?_) fun i hi=>?_
  · simp only [List.length_append,List.length_cons] at hi hj
    split at hij <;> split at hij <;> (try split at hij) <;> (try split at hij) <;> omega
  · simp only [List.length_append,List.length_cons] at hi
    split
    · rename_i h1; rw [List.getElem?_append_left h1,List.getElem?_append_left h1]
    · rename_i h1
      split
      · rename_i h2
        subst h2
        rw [List.getElem?_append_right (Nat.le_refl _),List.getElem?_append_right (by omega)]
        simp
      · rename_i h2
        rw [List.getElem?_append_right (by omega),List.getElem?_append_right (by omega),show i-A.length=(i-1-A.length)+1 by omega,List.getElem?_cons_succ,List.getElem?_append_left (by omega)]
theorem Aj.famCut (A B:List BH) {fam:List BH} (hm:Aj F h e pl (A++(B++fam)) w):Aj F h e pl (A++fam) w:=by
  refine hm.reRow (fun i=>if i<A.length then i else i+B.length) (fun i j hi hj hij=>?_) fun i hi=>?_
  · split at hij <;> split at hij <;> omega
  · simp only [List.length_append] at hi
    split
    · rename_i h1; rw [List.getElem?_append_left h1,List.getElem?_append_left h1]
    · rw [List.getElem?_append_right (by omega),List.getElem?_append_right (by omega),List.getElem?_append_right (by omega),show i+B.length-A.length-B.length=i-A.length by omega]
theorem Aj.nilRows (E:TypeId) (sz:Nat) (hm:Aj F h e pl rw w):∀ n,Aj F h e pl (rw++List.replicate n ⟨none,0,0,E,sz,[],0⟩) w
  | 0=>by simpa using hm
  | n+1=>by
    have:=(Aj.nilRows E sz hm n).nilRow E sz
    rw [List.append_assoc] at this
    rwa [List.replicate_succ']
end
def AT {α:Type} (g:BH→α→List Value):List BH→List α→List Value
  | r::fam,x::l=>g r x++AT g fam l
  | _,_=>[]
section
variable {α:Type} {g:BH→α→List Value} {s:Nat}
theorem NJ (hg:∀ r x,(g r x).length=s):∀ {fam:List BH} {l:List α},fam.length=l.length→(AT g fam l).length=l.length*s
  | [],[],_=>by simp [AT]
  | r::fam,x::l,h=>by
    simp only [AT,List.length_append,hg,List.length_cons]
    rw [NJ hg (by simpa using h),Nat.succ_mul]; omega
theorem E9 (hg:∀ r x,(g r x).length=s):∀ {fam:List BH} {l:List α} {k:Nat} {r:BH} {x:α},fam[k]? = some r→l[k]? = some x→∀ j v,(g r x)[j]? = some v→(AT g fam l)[0+k*s+j]? = some v
  | r0::fam,x0::l,0,r,x,hr,hx,j,v,hv=>by
    simp at hr hx; subst hr; subst hx
    simp only [AT,Nat.zero_mul,Nat.zero_add]
    rw [List.getElem?_append_left (List.getElem?_eq_some_iff.1 hv).1,hv]
  | r0::fam,x0::l,k+1,r,x,hr,hx,j,v,hv=>by
    have:=E9 hg (fam:=fam) (l:=l) (k:=k) (by simpa using hr) (by simpa using hx) j v hv
    simp only [AT]
    rw [List.getElem?_append_right (by rw [hg,Nat.succ_mul]; omega),hg,show 0+(k+1)*s+j-s=0+k*s+j by rw [Nat.succ_mul]; omega]
    exact this
  | [],_,_,_,_,hr,_,_,_,_=>by simp at hr
  | _::_,[],_,_,_,_,hx,_,_,_=>by simp at hx
theorem MT (hg:∀ r x,(g r x).length=s) (hs:0<s) {fam:List BH} {l:List α} {k:Nat} (hl:fam.length=l.length) (hk:k<l.length):0+k*s<(AT g fam l).length:=by
  rw [NJ hg hl,Nat.zero_add]
  exact Nat.mul_lt_mul_of_pos_right hk hs
theorem Lj (hg:∀ r x,(g r x).length=s) {fam:List BH} {l:List α} {k off n:Nat} (hl:fam.length=l.length) (hk:k<l.length) (hp:off+n≤s):0+k*s+off+n≤(AT g fam l).length:=by
  rw [NJ hg hl]
  have:(k+1)*s≤l.length*s:=Nat.mul_le_mul_right _ hk
  rw [Nat.succ_mul] at this
  omega
theorem IX (hg:∀ r x,(g r x).length=s):∀ {fam:List BH} {l:List α} {k:Nat} {r r':BH} {x x':α} {off:Nat} {vals:List Value},fam[k]? = some r→l[k]? = some x→(g r x).take off++vals++(g r x).drop (off+vals.length)=g r' x'→off+vals.length≤s →
    (AT g fam l).take (0+k*s+off)++vals++(AT g fam l).drop (0+k*s+off+vals.length)=AT g (fam.set k r') (l.set k x')
  | r0::fam,x0::l,0,r,r',x,x',off,vals,hr,hx,he,hp=>by
    simp at hr hx; subst hr; subst hx
    simp only [AT,Nat.zero_mul,Nat.zero_add,List.set_cons_zero]
    rw [← he,List.take_append_of_le_length (by rw [hg]; omega),List.drop_append_of_le_length (by rw [hg]; omega)]
    simp only [List.append_assoc]
  | r0::fam,x0::l,k+1,r,r',x,x',off,vals,hr,hx,he,hp=>by
    have:=IX hg (fam:=fam) (l:=l) (k:=k) (by simpa using hr) (by simpa using hx) he hp
    simp only [AT,List.set_cons_succ]
    rw [← this]
    have h1:0+(k+1)*s+off=s+(0+k*s+off):=by rw [Nat.succ_mul]; omega
    rw [h1,List.take_append,List.drop_append,hg,List.take_of_length_le (by rw [hg]; omega),List.drop_of_length_le (by rw [hg]; omega),show s+(0+k*s+off)-s=0+k*s+off by omega,show s+(0+k*s+off)+vals.length-s=0+k*s+off+vals.length by omega]
    simp only [List.append_assoc,List.nil_append]
  | [],_,_,_,_,_,_,_,_,hr,_,_,_=>by simp at hr
  | _::_,[],_,_,_,_,_,_,_,_,hx,_,_=>by simp at hx
theorem TS {β:Type} {l:List β} {k:Nat} {x:β} (h:l[k]? = some x):l.set k x=l:=by
  obtain⟨hk,rfl⟩:=List.getElem?_eq_some_iff.1 h
  simp
theorem SY (hg:∀ r x,(g r x).length=s) {fam:List BH} {l:List α} {k:Nat} {r:BH} {x x':α} {off:Nat} {vals:List Value} (hr:fam[k]? = some r) (hx:l[k]? = some x) (he:(g r x).take off++vals++(g r x).drop (off+vals.length)=g r x') (hp:off+vals.length≤s) :
    (AT g fam l).take (0+k*s+off)++vals++(AT g fam l).drop (0+k*s+off+vals.length)=AT g fam (l.set k x'):=by
  have:=IX hg (r':=r) hr hx he hp
  rwa [TS hr] at this
theorem Pc {r:BH} {x:α}:∀ n,(List.replicate n (g r x)).flatten=AT g (List.replicate n r) (List.replicate n x)
  | 0=>rfl
  | n+1=>by rw [List.replicate_succ,List.flatten_cons,Pc n]; rfl
structure D6 {α β:Type} [Rep β] (pr:α→List β) (E sz:Nat) (h:Ac) (fam:List BH) (l:List α):Prop where
  len:fam.length=l.length
  row:∀ (k:Nat)(r:BH)(x:α),fam[k]? = some r→l[k]? = some x→r.E=E∧r.sz=sz∧r.frz=0∧r.n=(pr x).length∧Af h (pr x) r.xs
variable {β:Type} [Rep β] {pr:α→List β} {E sz:Nat} {h h':Ac} {fam:List BH} {l:List α} {F:Fr} {e:AG} {pl:List Co} {w:World}
theorem D6.mono (H:D6 pr E sz h fam l) (hle:Ac.le h h'):D6 pr E sz h' fam l :=
  ⟨H.len,fun k r x hr hx=>let ⟨h1,h2,h3,h4,h5⟩:=H.row k r x hr hx; ⟨h1,h2,h3,h4,h5.mono hle⟩⟩
theorem D6.get (H:D6 pr E sz h fam l) {k:Nat} {x:α} (hx:l[k]? = some x):∃ a c xs,fam[k]? = some ⟨a,(pr x).length,c,E,sz,xs,0⟩∧Af h (pr x) xs:=by
  have hk:k<fam.length:=by rw [H.len]; exact(List.getElem?_eq_some_iff.1 hx).1
  have hr:fam[k]? = some fam[k]:=List.getElem?_eq_getElem hk
  obtain⟨h1,h2,h3,h4,h5⟩:=H.row k _ x hr hx
  generalize fam[k]=r at hr h1 h2 h3 h4 h5
  obtain⟨a,n,c,E1,s1,xs,f⟩:=r
  simp only at h1 h2 h3 h4 h5
  subst h1 h2 h3 h4
  exact⟨a,c,xs,hr,h5⟩
theorem D6.set (H:D6 pr E sz h fam l) {k:Nat} {r:BH} {x:α} (h1:r.E=E∧r.sz=sz∧r.frz=0∧r.n=(pr x).length∧Af h (pr x) r.xs):D6 pr E sz h (fam.set k r) (l.set k x):=by
  refine⟨by simp [H.len],fun j q y hq hy=>?_⟩
  by_cases hj:k=j
  · subst hj
    have hk:=(List.getElem?_eq_some_iff.1 hq).1
    have hl:=(List.getElem?_eq_some_iff.1 hy).1
    simp only [List.length_set] at hk hl
    rw [List.getElem?_set_self hk] at hq
    rw [List.getElem?_set_self hl] at hy
    cases hq; cases hy
    exact h1
  · rw [List.getElem?_set_ne hj] at hq hy
    exact H.row j q y hq hy
theorem D6.set1 (H:D6 pr E sz h fam l) {k:Nat} {r:BH} {x x':α} (hr:fam[k]? = some r) (hx:l[k]? = some x) (hp:pr x=pr x'):D6 pr E sz h fam (l.set k x'):=by
  have:=H.set (x:=x') (k:=k) (r:=r) (by have:=H.row k r x hr hx; rw [hp] at this; exact this)
  rwa [TS hr] at this
theorem D6.nils {x:α} (hx:pr x=[]) (n:Nat):D6 pr E sz h (List.replicate n ⟨none,0,0,E,sz,[],0⟩) (List.replicate n x):=by
  refine⟨by simp,fun k r y hr hy=>?_⟩
  rw [List.getElem?_replicate] at hr hy
  by_cases hk:k<n
  · rw [if_pos hk] at hr hy
    cases hr; cases hy
    exact⟨rfl,rfl,rfl,by rw [hx]; rfl,by rw [hx]; exact Af.nil⟩
  · rw [if_neg hk] at hr; cases hr
theorem D6.make {rw:List BH} {a:Option Addr} {EC szc:Nat} {z:List Value} {x:α} {l:List α} {n:Nat} (E sz:Nat) (hx:pr x=[]) (hz:g ⟨none,0,0,E,sz,[],0⟩ x=z) (hl:l=List.replicate n x)
    (hm:Aj F h e pl (rw++[⟨a,n,n,EC,szc,(List.replicate n z).flatten,0⟩]) w) :
    ∃ fam,D6 pr E sz h fam l∧Aj F h e pl (rw++(⟨a,l.length,l.length,EC,szc,AT g fam l,0⟩::fam)) w:=by
  subst hl hz
  refine⟨List.replicate n ⟨none,0,0,E,sz,[],0⟩,D6.nils hx n,?_⟩
  have:=hm.nilRows E sz n
  rw [List.append_assoc] at this
  rw [List.length_replicate,← Pc]
  exact this
theorem D6.settle (A:List BH) (hm:Aj F h e pl (A++fam) w):∀ n,n≤fam.length→∃ h' fam',Ac.le h h'∧Aj F h' e pl (A++fam') w∧fam'.length=fam.length∧(∀ k,n≤k→fam'[k]? = fam[k]?)∧∀ (k:Nat)(r:BH),k<n→fam[k]? = some r→GG h' r.a r.xs
  | 0,_=>⟨h,fam,Ac.le_refl _,hm,rfl,fun _ _=>rfl,fun _ _ hk=>by omega⟩
  | n+1,hn=>by
    obtain⟨h1,f1,hle,hm1,hl1,hs1,hd1⟩:=D6.settle A hm n (by omega)
    have hr:fam[n]? = some fam[n]:=List.getElem?_eq_getElem (by omega)
    obtain⟨h2,hle2,hsl,hm2⟩:=hm1.settle (i:=A.length+n) (r:=fam[n]) (by rw [List.getElem?_append_right (by omega),Nat.add_sub_cancel_left,hs1 n (Nat.le_refl _),hr])
    rw [show ∀ q:BH,(A++f1).set (A.length+n) q=A++f1.set n q from fun q=>by rw [List.set_append,if_neg (by omega)]; simp] at hm2
    refine⟨h2,_,Ac.le_trans hle hle2,hm2,by simp [hl1],fun k hk=>?_,fun k r hk hr'=>?_⟩
    · rw [List.getElem?_set_ne (by omega)]; exact hs1 k (by omega)
    · by_cases hkn:k=n
      · subst hkn
        rw [hr] at hr'; cases hr'
        exact hsl
      · exact(hd1 k r (by omega) hr').mono hle2
theorem NK [Rep α] {h':Ac} (hg:∀ (r:BH)(x:α),At h' r.a r.c (pr x)→r.n=(pr x).length→rep h' x (g r x)):∀ {fam:List BH} {l:List α},fam.length=l.length→(∀ (k:Nat)(r:BH)(x:α),fam[k]? = some r→l[k]? = some x→At h' r.a r.c (pr x)∧r.n=(pr x).length)→Af h' l (AT g fam l)
  | [],[],_,_=>rfl
  | r::fam,x::l,hl,H=>by
    have h0:=H 0 r x rfl rfl
    exact⟨_,_,rfl,hg r x h0.1 h0.2,NK hg (by simpa using hl) fun k r' x' hr hx=>H (k+1) r' x' (by simpa using hr) (by simpa using hx)⟩
theorem D6.settleAll [Rep α] (A:List BH) (H:D6 pr E sz h fam l) (hg:∀ (h:Ac)(r:BH)(x:α),At h r.a r.c (pr x)→r.n=(pr x).length→rep h x (g r x)) (hm:Aj F h e pl (A++fam) w):∃ h',Ac.le h h'∧Aj F h' e pl A w∧Af h' l (AT g fam l):=by
  obtain⟨h1,f1,hle,hm1,hl1,_,hd⟩:=D6.settle A hm fam.length (Nat.le_refl _)
  have hm2:=hm1.cutRw A.length
  rw [List.take_left] at hm2
  refine⟨h1,hle,hm2,NK (hg h1) H.len fun k r x hr hx=>?_⟩
  obtain⟨_,_,_,h4,h5⟩:=H.row k r x hr hx
  have hk:=(List.getElem?_eq_some_iff.1 hr).1
  have hc:r.n≤r.c:=hm.rowCap (i:=A.length+k) (by rw [List.getElem?_append_right (by omega),Nat.add_sub_cancel_left,hr])
  exact⟨⟨r.xs,h5.mono hle,hd k r hk hr,by rw [← h4]; exact hc⟩,h4⟩
def J5 {β:Type} (r:BH) (_:List β):List Value:=[.slice r.a r.n r.c]
abbrev UE {β:Type} (x:List β):List β:=x
theorem HL {β:Type} (r:BH) (x:List β):(J5 r x).length=1:=rfl
theorem U4 {β:Type} [Rep β] (h:Ac) (r:BH) (x:List β) (hr:At h r.a r.c (UE x)) (hn:r.n=(UE x).length):rep h x (J5 r x):=by
  unfold J5; rw [hn]; exact Ae hr
end
section
variable {P:Program} {N:Nat} {F:Fr} {h:Ac} {e:AG} {pl:List Co} {rw:List BH} {m:TM} {t:Array Value} {dd:List Deferred} {w w':World}
  {o:Oper} {K:Act→World→Prop} {Q:Exit→Act→World→Prop} {d:Nat}
end
theorem Af.atInt {h h':Ac}:∀ {xs:List Int} {vs:List Value},Af h xs vs→Af h' xs vs
  | [],_,H=>H
  | _::_,_,⟨cs,us,e,hx,hr⟩=>⟨cs,us,e,hx,Af.atInt hr⟩
end Go.Proofs.YthcbemnflgjadaaGreat
namespace Go.Proofs.YthcbemnflgjadaaGreat
open Go Go.RowKit
open Rep (rep)
open KRep (kv)
open VRep (rv)
def UF (P:Program) (f:FuncId) (E:TypeId):Prop:=∀ (k:Nat)(w:World),k≤1000000000→Calls P f #[.slice none 0 0,.int .i64 k] w fun en w' =>
  (en=.returned (.slice none 0 0)∧w' = w)∨∃ (c:Nat)(cur:Array Value),en=.returned (.slice (some ⟨w.heap.size,0,none⟩) 0 c)∧c≤maxLen∧cur.size=c∧w' = w.drew.alloc (.cells cur E (0,0))
def TU (k:Int):Option Unit:=if 0≤k∧k≤1000000000 then some () else none
theorem RT {k:Int} {u:Unit} (h:TU k=some u):0≤k∧k≤1000000000:=by
  unfold TU at h
  split at h
  · assumption
  · cases h
section
variable {P:Program} {Q:Exit→Act→World→Prop} {N:Nat} {F:Fr} {h:Ac} {e:AG} {pl:List Co} {rw:List BH} {w:World} {m:TM} {t:Array Value} {dd:List Deferred} {o:Oper} {d:Nat} {K:Act→World→Prop}
theorem RU {f:FuncId} {args:Array Operand} {tys:Array TypeId} {k:Int} (E:TypeId) (G:UF P f E) (hk:Kn N e m t) (hm:Aj F h e pl rw w) (hop:o.op=.call ⟨.value (.func f),args,tys⟩) (hd:o.dst=some d) (hlt:d<N)
    (hargs:IN m args.toList=some [.c (.slice none 0 0),.c (.int .i64 k)]) (hent:∀ args w,(callFunc f args).run P w=.ok (.enter f args) w) (h0:0≤k) (hb:k≤1000000000)
    (hK:∀ a c t' w',Kn N e (m.put d (.one (.c (.slice a 0 c)))) t'→Aj F h e pl (rw++[⟨a,0,c,E,1,[],0⟩]) w'→K ⟨t',dd⟩ w'):o.wp P ⟨t,dd⟩ w K Q:=by
  obtain⟨n,rfl⟩:∃ n:Nat,k=(n:Int):=⟨k.toNat,by omega⟩
  refine Gq _ #[.slice none 0 0,.int .i64 (n:Int)] hk hop hd hlt hargs rfl hent (S:=fun v w'=>(v=.slice none 0 0∧w' = w)∨∃ (c:Nat)(cur:Array Value),v=.slice (some ⟨w.heap.size,0,none⟩) 0 c∧c≤maxLen∧cur.size=c∧w' = w.drew.alloc (.cells cur E (0,0))) ((G n w (by omega)).mono ?_) ?_
  · rintro en w' (⟨rfl,rfl⟩ | ⟨c,cur,rfl,h1,h2,rfl⟩)
    · exact⟨_,rfl,.inl ⟨rfl,rfl⟩⟩
    · exact⟨_,rfl,.inr ⟨c,cur,rfl,h1,h2,rfl⟩⟩
  · rintro v w' (⟨rfl,rfl⟩ | ⟨c,cur,rfl,h1,h2,rfl⟩)
    · exact⟨.one (.c (.slice none 0 0)),rfl,fun t' hk'=>hK _ _ _ _ hk' (hm.nilRow E 1)⟩
    · refine⟨.one (.c (.slice (some ⟨w.heap.size,0,none⟩) 0 c)),rfl,fun t' hk'=>hK _ _ _ _ hk' ?_⟩
      have hsz:w.drew.heap.size=w.heap.size:=rfl
      refine hm.drew.newRow (r:=⟨some ⟨w.heap.size,0,none⟩,0,c,E,1,[],0⟩) (b:=w.heap.size) (World.grownBy_alloc w.drew _ none) (Nat.le_refl _) (by simp [hsz]) rfl ?_ rfl (by simp)
      refine⟨rfl,.inr ⟨w.heap.size,c,cur,rfl,hm.size,?_,Nat.zero_le _,h1,by show cur.size=c*1; omega,?_⟩⟩
      · show(w.heap.push _)[w.heap.size]? = _
        rw [Array.getElem?_push_size]
      · simp
end
end Go.Proofs.YthcbemnflgjadaaGreat
