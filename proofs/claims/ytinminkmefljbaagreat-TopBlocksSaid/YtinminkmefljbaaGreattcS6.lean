/- What a printed proof leans on: memory that is read, and steps through a region. -/
import Derived.Test.YtinminkmefljbaaGreattcS5
import Derived.Lib.SlicesCompact
set_option linter.all false
namespace Go.Proofs.YtinminkmefljbaaGreat
open Go Go.RowKit
open Rep (rep)
section
variable {F:Fr} {h:Ac} {e:AJ} {pl:List C0} {rw rw':List Ca} {w:World}
open Classical in
theorem Ai.reRow (hm:Ai F h e pl rw w) (f:Nat→Nat) (hf:∀ i j,i<rw'.length→j<rw'.length→f i=f j→i=j) (hr:∀ i,i<rw'.length→rw'[i]? = rw[f i]?):Ai F h e pl rw' w:=by
  obtain⟨ow,m⟩:=hm
  refine⟨fun b=>match ow b with | some (.inr j)=>if hj:∃ i,i<rw'.length∧f i=j then some (.inr hj.choose) else none | x=>x,m.below,m.le,m.old,m.has,fun b x hx=>?_,fun b o x i hh hx=>?_,fun i p hp=>?_,fun k r hk=>?_,fun b x hx=>?_⟩
  · cases hb:ow b with
    | none=>simp [hb] at hx
    | some y=>exact m.ows b y hb
  · cases hb:ow b with
    | none=>simp [hb] at hx
    | some y =>
      cases y with
      | inl q=>simp [hb] at hx; subst hx; exact m.hown b o x q hh hb
      | inr q =>
        simp only [hb] at hx
        split at hx <;> cases hx
  · have:=m.pls i p hp
    unfold Cq at this ⊢
    split at this
    · obtain⟨q1,q2⟩:=this
      exact⟨by simp only [q1],q2⟩
    exact this
  · have hlt:k<rw'.length:=(List.getElem?_eq_some_iff.1 hk).1
    have:=m.rws (f k) r (by rw [← hr k hlt]; exact hk)
    refine⟨this.own,this.frz,fun ad ha=>?_,this.one⟩
    obtain⟨h1,h2,h3⟩:=this.blk ad ha
    refine⟨?_,h2,h3⟩
    simp only [h1]
    have hj:∃ i,i<rw'.length∧f i=f k:=⟨k,hlt,rfl⟩
    rw [dif_pos hj]
    congr 2
    exact hf _ _ hj.choose_spec.1 hlt hj.choose_spec.2
  obtain⟨h1,h2,h3,h4,h5⟩:=m.ext b x hx
  exact⟨h1,h2,h3,by simp only [h4],h5⟩
theorem Ai.famIn (A:List Ca) {fam:List Ca} {r:Ca} (hm:Ai F h e pl (A++(fam++[r])) w):Ai F h e pl (A++(r::fam)) w:=by
  refine hm.reRow (fun i=>if i<A.length then i else if i=A.length then A.length+fam.length else i-1) (fun i j hi hj hij=>?_) fun i hi=>?_
  · simp only [List.length_append,List.length_cons] at hi hj
    split at hij <;> split at hij <;> (try split at hij) <;> (try split at hij) <;> omega
  simp only [List.length_append,List.length_cons] at hi
  split
  · rename_i h1; rw [List.getElem?_append_left h1,List.getElem?_append_left h1]
  rename_i h1
  split
  · rename_i h2
    subst h2
    rw [List.getElem?_append_right (Nat.le_refl _),List.getElem?_append_right (by omega)]
    simp
  rename_i h2
  rw [List.getElem?_append_right (by omega),List.getElem?_append_right (by omega),show i-A.length=(i-1-A.length)+1 by omega,List.getElem?_cons_succ,List.getElem?_append_left (by omega)]
theorem Ai.famCut (A B:List Ca) {fam:List Ca} (hm:Ai F h e pl (A++(B++fam)) w):Ai F h e pl (A++fam) w:=by
  refine hm.reRow (fun i=>if i<A.length then i else i+B.length) (fun i j hi hj hij=>?_) fun i hi=>?_
  · split at hij <;> split at hij <;> omega
  simp only [List.length_append] at hi
  split
  · rename_i h1; rw [List.getElem?_append_left h1,List.getElem?_append_left h1]
  rw [List.getElem?_append_right (by omega),List.getElem?_append_right (by omega),List.getElem?_append_right (by omega),show i+B.length-A.length-B.length=i-A.length by omega]
theorem Ai.nilRows (E:TypeId) (sz:Nat) (hm:Ai F h e pl rw w):∀ n,Ai F h e pl (rw++List.replicate n ⟨none,0,0,E,sz,[],0⟩) w
  | 0=>by simpa using hm
  | n+1=>by
    have:=(Ai.nilRows E sz hm n).nilRow E sz
    rw [List.append_assoc] at this
    rwa [List.replicate_succ']
end
def B2 {α:Type} (g:Ca→α→List Value):List Ca→List α→List Value
  | r::fam,x::l=>g r x++B2 g fam l
  | _,_=>[]
section
variable {α:Type} {g:Ca→α→List Value} {s:Nat}
theorem Pc (hg:∀ r x,(g r x).length=s):∀ {fam:List Ca} {l:List α},fam.length=l.length→(B2 g fam l).length=l.length*s
  | [],[],_=>by simp [B2]
  | r::fam,x::l,h=>by
    simp only [B2,List.length_append,hg,List.length_cons]
    rw [Pc hg (by simpa using h),Nat.succ_mul]; omega
theorem FA (hg:∀ r x,(g r x).length=s):∀ {fam:List Ca} {l:List α} {k:Nat} {r:Ca} {x:α},fam[k]? = some r→l[k]? = some x→∀ j v,(g r x)[j]? = some v→(B2 g fam l)[0+k*s+j]? = some v
  | r0::fam,x0::l,0,r,x,hr,hx,j,v,hv=>by
    simp at hr hx; subst hr; subst hx
    simp only [B2,Nat.zero_mul,Nat.zero_add]
    rw [List.getElem?_append_left (List.getElem?_eq_some_iff.1 hv).1,hv]
  | r0::fam,x0::l,k+1,r,x,hr,hx,j,v,hv=>by
    have:=FA hg (fam:=fam) (l:=l) (k:=k) (by simpa using hr) (by simpa using hx) j v hv
    simp only [B2]
    rw [List.getElem?_append_right (by rw [hg,Nat.succ_mul]; omega),hg,show 0+(k+1)*s+j-s=0+k*s+j by rw [Nat.succ_mul]; omega]
    exact this
  | [],_,_,_,_,hr,_,_,_,_=>by simp at hr
  | _::_,[],_,_,_,_,hx,_,_,_=>by simp at hx
theorem Ok (hg:∀ r x,(g r x).length=s) (hs:0<s) {fam:List Ca} {l:List α} {k:Nat} (hl:fam.length=l.length) (hk:k<l.length):0+k*s<(B2 g fam l).length:=by
  rw [Pc hg hl,Nat.zero_add]
  exact Nat.mul_lt_mul_of_pos_right hk hs
theorem Me (hg:∀ r x,(g r x).length=s) {fam:List Ca} {l:List α} {k off n:Nat} (hl:fam.length=l.length) (hk:k<l.length) (hp:off+n≤s):0+k*s+off+n≤(B2 g fam l).length:=by
  rw [Pc hg hl]
  have:(k+1)*s≤l.length*s:=Nat.mul_le_mul_right _ hk
  rw [Nat.succ_mul] at this
  omega
theorem J0 (hg:∀ r x,(g r x).length=s):∀ {fam:List Ca} {l:List α} {k:Nat} {r r':Ca} {x x':α} {off:Nat} {vals:List Value},fam[k]? = some r→l[k]? = some x→(g r x).take off++vals++(g r x).drop (off+vals.length)=g r' x'→off+vals.length≤s →
    (B2 g fam l).take (0+k*s+off)++vals++(B2 g fam l).drop (0+k*s+off+vals.length)=B2 g (fam.set k r') (l.set k x')
  | r0::fam,x0::l,0,r,r',x,x',off,vals,hr,hx,he,hp=>by
    simp at hr hx; subst hr; subst hx
    simp only [B2,Nat.zero_mul,Nat.zero_add,List.set_cons_zero]
    rw [← he,List.take_append_of_le_length (by rw [hg]; omega),List.drop_append_of_le_length (by rw [hg]; omega)]
    simp only [List.append_assoc]
  | r0::fam,x0::l,k+1,r,r',x,x',off,vals,hr,hx,he,hp=>by
    have:=J0 hg (fam:=fam) (l:=l) (k:=k) (by simpa using hr) (by simpa using hx) he hp
    simp only [B2,List.set_cons_succ]
    rw [← this]
    have h1:0+(k+1)*s+off=s+(0+k*s+off):=by rw [Nat.succ_mul]; omega
    rw [h1,List.take_append,List.drop_append,hg,List.take_of_length_le (by rw [hg]; omega),List.drop_of_length_le (by rw [hg]; omega),show s+(0+k*s+off)-s=0+k*s+off by omega,show s+(0+k*s+off)+vals.length-s=0+k*s+off+vals.length by omega]
    simp only [List.append_assoc,List.nil_append]
  | [],_,_,_,_,_,_,_,_,hr,_,_,_=>by simp at hr
  | _::_,[],_,_,_,_,_,_,_,_,hx,_,_=>by simp at hx
theorem VP {β:Type} {l:List β} {k:Nat} {x:β} (h:l[k]? = some x):l.set k x=l:=by
  obtain⟨hk,rfl⟩:=List.getElem?_eq_some_iff.1 h
  simp
theorem UQ (hg:∀ r x,(g r x).length=s) {fam:List Ca} {l:List α} {k:Nat} {r:Ca} {x x':α} {off:Nat} {vals:List Value} (hr:fam[k]? = some r) (hx:l[k]? = some x) (he:(g r x).take off++vals++(g r x).drop (off+vals.length)=g r x') (hp:off+vals.length≤s) :
    (B2 g fam l).take (0+k*s+off)++vals++(B2 g fam l).drop (0+k*s+off+vals.length)=B2 g fam (l.set k x'):=by
  have:=J0 hg (r':=r) hr hx he hp
  rwa [VP hr] at this
theorem Qq {r:Ca} {x:α}:∀ n,(List.replicate n (g r x)).flatten=B2 g (List.replicate n r) (List.replicate n x)
  | 0=>rfl
  | n+1=>by rw [List.replicate_succ,List.flatten_cons,Qq n]; rfl
structure EM {α β:Type} [Rep β] (pr:α→List β) (E sz:Nat) (h:Ac) (fam:List Ca) (l:List α):Prop where
  len:fam.length=l.length
  row:∀ (k:Nat)(r:Ca)(x:α),fam[k]? = some r→l[k]? = some x→r.E=E∧r.sz=sz∧r.frz=0∧r.n=(pr x).length∧Ae h (pr x) r.xs
variable {β:Type} [Rep β] {pr:α→List β} {E sz:Nat} {h h':Ac} {fam:List Ca} {l:List α} {F:Fr} {e:AJ} {pl:List C0} {w:World}
theorem EM.mono (H:EM pr E sz h fam l) (hle:Ac.le h h'):EM pr E sz h' fam l :=
  ⟨H.len,fun k r x hr hx=>let ⟨h1,h2,h3,h4,h5⟩:=H.row k r x hr hx; ⟨h1,h2,h3,h4,h5.mono hle⟩⟩
theorem EM.get (H:EM pr E sz h fam l) {k:Nat} {x:α} (hx:l[k]? = some x):∃ a c xs,fam[k]? = some ⟨a,(pr x).length,c,E,sz,xs,0⟩∧Ae h (pr x) xs:=by
  have hk:k<fam.length:=by rw [H.len]; exact(List.getElem?_eq_some_iff.1 hx).1
  have hr:fam[k]? = some fam[k]:=List.getElem?_eq_getElem hk
  obtain⟨h1,h2,h3,h4,h5⟩:=H.row k _ x hr hx
  generalize fam[k]=r at hr h1 h2 h3 h4 h5
  obtain⟨a,n,c,E1,s1,xs,f⟩:=r
  simp only at h1 h2 h3 h4 h5
  subst h1 h2 h3 h4
  exact⟨a,c,xs,hr,h5⟩
theorem EM.set (H:EM pr E sz h fam l) {k:Nat} {r:Ca} {x:α} (h1:r.E=E∧r.sz=sz∧r.frz=0∧r.n=(pr x).length∧Ae h (pr x) r.xs):EM pr E sz h (fam.set k r) (l.set k x):=by
  refine⟨by simp [H.len],fun j q y hq hy=>?_⟩
  by_cases hj:k=j
  · subst hj
    have hk:=(List.getElem?_eq_some_iff.1 hq).1
    have hl:=(List.getElem?_eq_some_iff.1 hy).1
    simp only [List.length_set] at hk hl
    rw [List.getElem?_set_self hk] at hq
    rw [List.getElem?_set_self hl] at hy
    cases hq; cases hy
    exact h1
  rw [List.getElem?_set_ne hj] at hq hy
  exact H.row j q y hq hy
theorem EM.set1 (H:EM pr E sz h fam l) {k:Nat} {r:Ca} {x x':α} (hr:fam[k]? = some r) (hx:l[k]? = some x) (hp:pr x=pr x'):EM pr E sz h fam (l.set k x'):=by
  have:=H.set (x:=x') (k:=k) (r:=r) (by have:=H.row k r x hr hx; rw [hp] at this; exact this)
  rwa [VP hr] at this
theorem EM.nils {x:α} (hx:pr x=[]) (n:Nat):EM pr E sz h (List.replicate n ⟨none,0,0,E,sz,[],0⟩) (List.replicate n x):=by
  refine⟨by simp,fun k r y hr hy=>?_⟩
  rw [List.getElem?_replicate] at hr hy
  by_cases hk:k<n
  · rw [if_pos hk] at hr hy
    cases hr; cases hy
    exact⟨rfl,rfl,rfl,by rw [hx]; rfl,by rw [hx]; exact Ae.nil⟩
  rw [if_neg hk] at hr; cases hr
theorem EM.make {rw:List Ca} {a:Option Addr} {EC szc:Nat} {z:List Value} {x:α} {l:List α} {n:Nat} (E sz:Nat) (hx:pr x=[]) (hz:g ⟨none,0,0,E,sz,[],0⟩ x=z) (hl:l=List.replicate n x)
    (hm:Ai F h e pl (rw++[⟨a,n,n,EC,szc,(List.replicate n z).flatten,0⟩]) w) :
    ∃ fam,EM pr E sz h fam l∧Ai F h e pl (rw++(⟨a,l.length,l.length,EC,szc,B2 g fam l,0⟩::fam)) w:=by
  subst hl hz
  refine⟨List.replicate n ⟨none,0,0,E,sz,[],0⟩,EM.nils hx n,?_⟩
  have:=hm.nilRows E sz n
  rw [List.append_assoc] at this
  rw [List.length_replicate,← Qq]
  exact this
theorem EM.settle (A:List Ca) (hm:Ai F h e pl (A++fam) w):∀ n,n≤fam.length→∃ h' fam',Ac.le h h'∧Ai F h' e pl (A++fam') w∧fam'.length=fam.length∧(∀ k,n≤k→fam'[k]? = fam[k]?)∧∀ (k:Nat)(r:Ca),k<n→fam[k]? = some r→Hv h' r.a r.xs
  | 0,_=>⟨h,fam,Ac.le_refl _,hm,rfl,fun _ _=>rfl,fun _ _ hk=>by omega⟩
  | n+1,hn=>by
    obtain⟨h1,f1,hle,hm1,hl1,hs1,hd1⟩:=EM.settle A hm n (by omega)
    have hr:fam[n]? = some fam[n]:=List.getElem?_eq_getElem (by omega)
    obtain⟨h2,hle2,hsl,hm2⟩:=hm1.settle (i:=A.length+n) (r:=fam[n]) (by rw [List.getElem?_append_right (by omega),Nat.add_sub_cancel_left,hs1 n (Nat.le_refl _),hr])
    rw [show ∀ q:Ca,(A++f1).set (A.length+n) q=A++f1.set n q from fun q=>by rw [List.set_append,if_neg (by omega)]; simp] at hm2
    refine⟨h2,_,Ac.le_trans hle hle2,hm2,by simp [hl1],fun k hk=>?_,fun k r hk hr'=>?_⟩
    · rw [List.getElem?_set_ne (by omega)]; exact hs1 k (by omega)
    by_cases hkn:k=n
    · subst hkn
      rw [hr] at hr'; cases hr'
      exact hsl
    exact(hd1 k r (by omega) hr').mono hle2
theorem Pd [Rep α] {h':Ac} (hg:∀ (r:Ca)(x:α),At h' r.a r.c (pr x)→r.n=(pr x).length→rep h' x (g r x)):∀ {fam:List Ca} {l:List α},fam.length=l.length→(∀ (k:Nat)(r:Ca)(x:α),fam[k]? = some r→l[k]? = some x→At h' r.a r.c (pr x)∧r.n=(pr x).length)→Ae h' l (B2 g fam l)
  | [],[],_,_=>rfl
  | r::fam,x::l,hl,H=>by
    have h0:=H 0 r x rfl rfl
    exact⟨_,_,rfl,hg r x h0.1 h0.2,Pd hg (by simpa using hl) fun k r' x' hr hx=>H (k+1) r' x' (by simpa using hr) (by simpa using hx)⟩
theorem EM.settleAll [Rep α] (A:List Ca) (H:EM pr E sz h fam l) (hg:∀ (h:Ac)(r:Ca)(x:α),At h r.a r.c (pr x)→r.n=(pr x).length→rep h x (g r x)) (hm:Ai F h e pl (A++fam) w):∃ h',Ac.le h h'∧Ai F h' e pl A w∧Ae h' l (B2 g fam l):=by
  obtain⟨h1,f1,hle,hm1,hl1,_,hd⟩:=EM.settle A hm fam.length (Nat.le_refl _)
  have hm2:=hm1.cutRw A.length
  rw [List.take_left] at hm2
  refine⟨h1,hle,hm2,Pd (hg h1) H.len fun k r x hr hx=>?_⟩
  obtain⟨_,_,_,h4,h5⟩:=H.row k r x hr hx
  have hk:=(List.getElem?_eq_some_iff.1 hr).1
  have hc:r.n≤r.c:=hm.rowCap (i:=A.length+k) (by rw [List.getElem?_append_right (by omega),Nat.add_sub_cancel_left,hr])
  exact⟨⟨r.xs,h5.mono hle,hd k r hk hr,by rw [← h4]; exact hc⟩,h4⟩
def Pe {β:Type} (r:Ca) (_:List β):List Value:=[.slice r.a r.n r.c]
abbrev XD {β:Type} (x:List β):List β:=x
theorem I4 {β:Type} (r:Ca) (x:List β):(Pe r x).length=1:=rfl
theorem WA {β:Type} [Rep β] (h:Ac) (r:Ca) (x:List β) (hr:At h r.a r.c (XD x)) (hn:r.n=(XD x).length):rep h x (Pe r x):=by
  unfold Pe; rw [hn]; exact Af hr
end
section
variable {P:Program} {N:Nat} {F:Fr} {h:Ac} {e:AJ} {pl:List C0} {rw:List Ca} {m:TM} {t:Array Value} {dd:List Deferred} {w w':World}
  {o:Oper} {K:Act→World→Prop} {Q:Exit→Act→World→Prop} {d:Nat}
end
theorem Ae.atInt {h h':Ac}:∀ {xs:List Int} {vs:List Value},Ae h xs vs→Ae h' xs vs
  | [],_,H=>H
  | _::_,_,⟨cs,us,e,hx,hr⟩=>⟨cs,us,e,hx,Ae.atInt hr⟩
open Go Go.RowKit
open Rep (rep)
open KRep (kv)
open VRep (rv)
def WO (P:Program) (f:FuncId) (E:TypeId):Prop:=∀ (k:Nat)(w:World),k≤1000000000→Calls P f #[.slice none 0 0,.int .i64 k] w fun en w' =>
  (en=.returned (.slice none 0 0)∧w' = w)∨∃ (c:Nat)(cur:Array Value),en=.returned (.slice (some ⟨w.heap.size,0,none⟩) 0 c)∧c≤maxLen∧cur.size=c∧w' = w.drew.alloc (.cells cur E (0,0))
def Uc (k:Int):Option Unit:=if 0≤k∧k≤1000000000 then some () else none
theorem Tz {k:Int} {u:Unit} (h:Uc k=some u):0≤k∧k≤1000000000:=by
  unfold Uc at h
  split at h
  · assumption
  cases h
section
variable {P:Program} {Q:Exit→Act→World→Prop} {N:Nat} {F:Fr} {h:Ac} {e:AJ} {pl:List C0} {rw:List Ca} {w:World} {m:TM} {t:Array Value} {dd:List Deferred} {o:Oper} {d:Nat} {K:Act→World→Prop}
theorem T0 {f:FuncId} {args:Array Operand} {tys:Array TypeId} {k:Int} (E:TypeId) (G:WO P f E) (hk:Kn N e m t) (hm:Ai F h e pl rw w) (hop:o.op=.call ⟨.value (.func f),args,tys⟩) (hd:o.dst=some d) (hlt:d<N)
    (hargs:II m args.toList=some [.c (.slice none 0 0),.c (.int .i64 k)]) (hent:∀ args w,(callFunc f args).run P w=.ok (.enter f args) w) (h0:0≤k) (hb:k≤1000000000)
    (hK:∀ a c t' w',Kn N e (m.put d (.one (.c (.slice a 0 c)))) t'→Ai F h e pl (rw++[⟨a,0,c,E,1,[],0⟩]) w'→K ⟨t',dd⟩ w'):o.wp P ⟨t,dd⟩ w K Q:=by
  obtain⟨n,rfl⟩:∃ n:Nat,k=(n:Int):=⟨k.toNat,by omega⟩
  refine HU _ #[.slice none 0 0,.int .i64 (n:Int)] hk hop hd hlt hargs rfl hent (S:=fun v w'=>(v=.slice none 0 0∧w' = w)∨∃ (c:Nat)(cur:Array Value),v=.slice (some ⟨w.heap.size,0,none⟩) 0 c∧c≤maxLen∧cur.size=c∧w' = w.drew.alloc (.cells cur E (0,0))) ((G n w (by omega)).mono ?_) ?_
  · rintro en w' (⟨rfl,rfl⟩ | ⟨c,cur,rfl,h1,h2,rfl⟩)
    · exact⟨_,rfl,.inl ⟨rfl,rfl⟩⟩
    exact⟨_,rfl,.inr ⟨c,cur,rfl,h1,h2,rfl⟩⟩
  rintro v w' (⟨rfl,rfl⟩ | ⟨c,cur,rfl,h1,h2,rfl⟩)
  · exact⟨.one (.c (.slice none 0 0)),rfl,fun t' hk'=>hK _ _ _ _ hk' (hm.nilRow E 1)⟩
  refine⟨.one (.c (.slice (some ⟨w.heap.size,0,none⟩) 0 c)),rfl,fun t' hk'=>hK _ _ _ _ hk' ?_⟩
  have hsz:w.drew.heap.size=w.heap.size:=rfl
  refine hm.drew.newRow (r:=⟨some ⟨w.heap.size,0,none⟩,0,c,E,1,[],0⟩) (b:=w.heap.size) (World.grownBy_alloc w.drew _ none) (Nat.le_refl _) (by simp [hsz]) rfl ?_ rfl (by simp)
  refine⟨rfl,.inr ⟨w.heap.size,c,cur,rfl,hm.size,?_,Nat.zero_le _,h1,by show cur.size=c*1; omega,?_⟩⟩
  · show(w.heap.push _)[w.heap.size]? = _
    rw [Array.getElem?_push_size]
  simp
end
open Go Go.RowKit
open Rep (rep)
open KRep (kv)
open VRep (rv)
theorem Ba {α:Type} {c:Bool} {a b:α} (h:c=true):(bif c then a else b)=a:=by rw [h]; rfl
theorem Bb {α:Type} {c:Bool} {a b:α} (h:c=false):(bif c then a else b)=b:=by rw [h]; rfl
theorem Cy.flat {KK α:Type} [KRep KK] [VRep α] {h h':Ac} {es:List MapEntry} {c:Nat} {l:List (KK×α)} (hf:∀ (h h':Ac)(x:α)(v:Value),rv h x v→rv h' x v) (H:Cy h es c l):Cy h' es c l :=
  ⟨H.all.imp fun _ _ ⟨h1,h2⟩=>⟨h1,hf _ _ _ _ h2⟩,H.born,H.lt,H.keys⟩
section
variable {P:Program} (w:World)
theorem NS (base:Nat) (t ty:TypeId) (e:TypeId) (i:TypeInfo) (z:Value) (size bytes:Nat) (ht:P.underlying t=some (.slice e)) (hi:P.info? e=some i) (hz:i.zero=some z)
    (hsize:i.size=size) (hby:i.bytes=bytes) (hzs:z.cells.size=size) (hsz:0<size)
    (a0:Option Addr) (c0:Nat) (n:Nat) (xs:List Value) (hown:w.ownsRow base e size (.slice a0 n c0) n xs)
    (a:Option Addr) (m c:Nat) (news:List Value) (hl:news.length=m*size) (hnews:∀ j u,news[j]? = some u→∃ ad,a=some ad∧w.cell? (ad.add j)=some u) (h1:∀ u∈news,u.oneCell' = true)
    (h63:n+m≤maxLen) (hbytes:(n+m)*bytes≤140737488355328) (hbase:base≤w.heap.size) :
    ∃ a' c' w',(Builtin.append_ #[t,t] ty #[.slice a0 n c0,.slice a m c]).run P w=.ok (.slice a' (n+m) c') w'∧w'.ownsRow base e size (.slice a' (n+m) c') (n+m) (xs++news) ∧
      ((a' = a0∧c' = c0∧w.grownBy w' (a0.map (·.block)))∨(∃ g,a' = some ⟨g,0,none⟩∧w.heap.size≤g∧g<w'.heap.size∧w.grownBy w' none)):=by
  cases a with
  | none =>
    have hn:news=[]:=by
      cases news with
      | nil=>rfl
      | cons x r=>obtain⟨ad,h,_⟩:=hnews 0 x rfl; cases h
    subst hn
    have hm:m=0:=by
      rcases Nat.eq_zero_or_pos m with h | h
      · exact h
      have:=Nat.mul_pos h hsz; simp at hl; omega
    subst hm
    have hroom:n≤c0:=by
      rcases hown.2 with⟨h,_⟩ | ⟨g,cap,cur,h,_,_,hnc,_⟩
      · simp at h; omega
      simp at h; omega
    refine⟨a0,c0,w,?_,by simpa using hown,.inl ⟨rfl,rfl,⟨rfl,rfl,rfl,Nat.le_refl _,fun _ _ _=>rfl⟩⟩⟩
    cases a0 <;> simp [Builtin.append_,run_underlying ht,sizeOf,typeInfo,hi,Builtin.lenOf,hroom,Builtin.firstCells,storeCells]
  | some ad =>
    have hnews:∀ j u,news[j]? = some u→w.cell? (ad.add j)=some u:=fun j u hu=>by
      obtain⟨ad',h,h'⟩:=hnews j u hu; cases h; exact h'
    subst hsize
    subst hby
    have hsmall:n+m≤9223372036854775807:=by simp only [maxLen] at h63; omega
    have hlen:(xs++news).length=(n+m)*i.size:=by rw [List.length_append,hown.1,hl,Nat.add_mul]
    have grown:∀ (old:Nat),old<n+m →
        (w.drew.alloc (.cells (xs.toArray++news.toArray++Builtin.zeroCells z.cells (grownCap w (n+m) old e-(n+m))) e)).ownsRow base e i.size
          (.slice (some ⟨w.heap.size,0,none⟩) (n+m) (grownCap w (n+m) old e)) (n+m) (xs++news) ∧
        w.grownBy (w.drew.alloc (.cells (xs.toArray++news.toArray++Builtin.zeroCells z.cells (grownCap w (n+m) old e-(n+m))) e)) none:=by
      intro old ho
      have hge:=grownCap_ge w (n+m) old e
      have hcm:grownCap w (n+m) old e≤maxLen:=grownCap_le_maxLen w (n+m) old e h63
      refine⟨⟨hlen,.inr ⟨w.heap.size,_,_,rfl,hbase,heap_alloc_new w.drew _,hge,hcm,?_,?_⟩⟩,⟨rfl,rfl,rfl,by simp,fun k hk _=>Go.heap_alloc_old w.drew _ hk⟩⟩
      · simp only [Array.size_append,List.size_toArray,size_zeroCells,hzs,hown.1,hl,← Nat.add_mul]
        congr 1
        omega
      simp only [Array.toList_append,List.append_assoc]
      rw [← List.append_assoc,← hlen]
      exact List.take_left
    rcases hown.2 with⟨hv,rfl⟩ | ⟨g,cap,cur,hv,hbg,hg,hnc,hcm,hcs,htake⟩
    · simp only [Value.slice.injEq] at hv
      obtain⟨rfl,_,rfl⟩:=hv
      have hx:xs=[]:=List.eq_nil_of_length_eq_zero (by simpa using hown.1)
      subst hx
      by_cases hm:m=0
      · subst hm
        have hn:news=[]:=List.eq_nil_of_length_eq_zero (by simpa using hl)
        subst hn
        refine⟨none,0,w,?_,World.ownsRow_nil w base e i.size,.inl ⟨rfl,rfl,⟨rfl,rfl,rfl,Nat.le_refl _,fun _ _ _=>rfl⟩⟩⟩
        simp [Builtin.append_,run_underlying ht,sizeOf,typeInfo,hi,Builtin.lenOf,Builtin.firstCells,loadCells,loadCellsFrom]
      have hr:=run_append_nil (P:=P) w t ty e i z ht hi hz ad m c news hl hnews (by omega) (by omega) (by have hb:=hbytes; simp only [Nat.zero_add] at hb; omega)
      have hgr:=grown 0 (by omega)
      simp only [Nat.zero_add,List.nil_append,Array.empty_append] at hgr ⊢
      exact⟨_,_,_,hr,hgr.1,.inr ⟨_,rfl,Nat.le_refl _,by simp,hgr.2⟩⟩
    simp only [Value.slice.injEq,true_and] at hv
    obtain⟨rfl,rfl⟩:=hv
    by_cases hroom:n+m≤c0
    · have hfit:n*i.size+news.length≤cur.size:=by rw [hl,hcs,← Nat.add_mul]; exact Nat.mul_le_mul_right _ hroom
      have hr:=run_append_room (P:=P) w t ty e i ht hi g n c0 cur hg ad m c news hl hnews h1 hroom hfit
      refine⟨_,_,_,hr,⟨hlen,.inr ⟨g,c0,_,rfl,hbg,setRow_heap w g cur _ e _ hg,hroom,hcm,?_,?_⟩⟩,.inl ⟨rfl,rfl,⟨rfl,rfl,rfl,by simp,fun k _ hk=>setRow_other w g k _ (fun e=>hk (by simp [e]))⟩⟩⟩
      · simp only [List.size_toArray,List.length_append,List.length_take,List.length_drop,Array.length_toList]
        omega
      rw [htake,← hlen]
      exact List.take_left
    have lH:∀ j u,xs[j]? = some u→w.cell? ((⟨g,0,none⟩:Addr).add j)=some u:=hown.cells (g:=g) rfl
    have hr:=run_append_grow (P:=P) w t ty e i z ht hi hz ⟨g,0,none⟩ n c0 xs hown.1 lH ad m c news hl hnews (by omega) (by omega) (growslice_fits (by omega) hbytes)
    have hgr:=grown c0 (by omega)
    exact⟨_,_,_,hr,hgr.1,.inr ⟨_,rfl,Nat.le_refl _,by simp,hgr.2⟩⟩
end
section
variable {P:Program} {Q:Exit→Act→World→Prop} {N:Nat} {F:Fr} {h:Ac} {e:AJ} {pl:List C0} {rw:List Ca} {w:World} {m:TM} {t:Array Value} {dd:List Deferred} {o:Oper} {d:Nat} {K:Act→World→Prop}
theorem JY {α:Type} {l:List α} {i:Nat} {x:α} (h:l[i]? = some x):i<l.length:=(List.getElem?_eq_some_iff.1 h).1
theorem HX {α:Type} {l:List α} {i j:Nat} {x y:α} (h:(l.set i x)[j]? = some y):(j=i∧y=x)∨(j≠i∧l[j]? = some y):=by
  by_cases hj:j=i
  · subst hj
    have hl:=JY h
    rw [List.length_set] at hl
    rw [List.getElem?_set_self hl] at h
    exact .inl ⟨rfl,(Option.some.inj h).symm⟩
  rw [List.getElem?_set_ne (Ne.symm hj)] at h
  exact .inr ⟨hj,h⟩
theorem Ai.noRow {i:Nat} (E:TypeId) (sz:Nat) (hm:Ai F h e pl rw w):Ai F h e pl (rw.set i ⟨none,0,0,E,sz,[],0⟩) w:=by
  obtain⟨ow,m⟩:=hm
  refine⟨ow,m.below,m.le,m.old,m.has,m.ows,m.hown,m.pls,fun j r hr=>?_,m.ext⟩
  rcases HX hr with⟨_,rfl⟩ | ⟨_,hr⟩
  · exact⟨World.ownsRow_nil _ _ _ _,Nat.le_refl _,fun ad ha=>(by cases ha),fun v hv=>by simp at hv⟩
  exact m.rws j r hr
theorem Ai.moveRow {i k:Nat} {r q:Ca} (hm:Ai F h e pl rw w) (hi:rw[i]? = some r) (hk:rw[k]? = some q) (hq:q.a=none) (hne:i≠k):Ai F h e pl ((rw.set k r).set i q) w:=by
  obtain⟨ow,m⟩:=hm
  have nok:∀ b,ow b=some (.inr k)→∀ (j:Nat)(r':Ca),rw[j]? = some r'→∀ ad:Addr,r'.a=some ad→ad.block≠b:=fun b hb j r' hr ad ha hbe=>by
    have:=((m.rws j r' hr).blk ad ha).1
    rw [hbe,hb] at this
    have hkj:k=j:=by simpa using this
    subst hkj
    rw [hk] at hr
    cases hr
    rw [hq] at ha
    cases ha
  refine⟨fun b=>match ow b with
    | some (.inr j)=>if j=i then some (.inr k) else if j=k then none else some (.inr j)
    | x=>x,m.below,m.le,m.old,m.has,fun b x hx=>?_,fun b o x p hv hx=>?_,fun p q' hp=>?_,fun j r' hr=>?_,fun b x hx=>?_⟩
  · split at hx
    · rename_i j hj
      exact m.ows b _ hj
    exact m.ows b x hx
  · split at hx
    · split at hx
      · cases hx
      split at hx <;> cases hx
    exact m.hown b o x p hv hx
  · have:=m.pls p q' hp
    unfold Cq at this ⊢
    split at this
    · obtain⟨h1,h2,h3,h4⟩:=this
      exact⟨by simp only [h1],h2,h3,h4⟩
    exact this
  · rcases HX hr with⟨rfl,rfl⟩ | ⟨hj,hr⟩
    · have:=m.rws k r' hk
      exact⟨this.own,this.frz,fun ad ha=>(by rw [hq] at ha; cases ha),this.one⟩
    rcases HX hr with⟨rfl,rfl⟩ | ⟨hj2,hr⟩
    · have:=m.rws i r' hi
      refine⟨this.own,this.frz,fun ad ha=>?_,this.one⟩
      obtain⟨h1,h2⟩:=this.blk ad ha
      exact⟨by simp only [h1,if_true],h2⟩
    have:=m.rws j r' hr
    refine⟨this.own,this.frz,fun ad ha=>?_,this.one⟩
    obtain⟨h1,h2⟩:=this.blk ad ha
    exact⟨by simp only [h1,hj,hj2,if_false],h2⟩
  obtain⟨h1,h2,h3,h4,h5⟩:=m.ext b x hx
  exact⟨h1,h2,h3,by simp only [h4],h5⟩
def XE (r r' k:Ca):Prop:=(r'.a=r.a∧r'.c=r.c∧r.n≤r'.n∧r.xs.length=r.n*r.sz∧r'.E=r.E∧r'.sz=r.sz∧k.a=none)∨k=r
theorem T1 {T:TypeId} {s x:Operand} {r:Ca} (i:Nat) (bytes k c2:Nat) (n':Nat) (a2:Option Addr) (news:List Value) (hk:Kn N e m t) (hm:Ai F h e pl rw w) (hop:o.op=.call ⟨.builtin .append,#[s,x],#[T,T]⟩) (hd:o.dst=some d) (hlt:d<N)
    (hi:rw[i]? = some r) (hf:r.frz=0) (hT:P.underlying T=some (.slice r.E)) (hE:JV P r.E r.sz bytes=true) (hs:DR m s=some (.c (.slice r.a r.n r.c))) (hx:DR m x=some (.c (.slice a2 k c2)))
    (hl:news.length=k*r.sz) (hnews:∀ j u,news[j]? = some u→∃ ad,a2=some ad∧ad.spot=none∧w.cell? ⟨ad.block,ad.off+j,none⟩=some u) (h1:∀ u∈news,u.oneCell' = true)
    (hn':r.n+k=n') (hb:n'≤1000000000) (hby:decide (bytes≤10000)=true)
    (hK:∀ a' c' (q:Ca) t' w',XE r ⟨a',n',c',r.E,r.sz,r.xs++news,0⟩ q→Kn N e (m.put d (.one (.c (.slice a' n' c')))) t'→Ai F h e pl (rw.set i ⟨a',n',c',r.E,r.sz,r.xs++news,0⟩++[q]) w'→K ⟨t',dd⟩ w'):o.wp P ⟨t,dd⟩ w K Q:=by
  subst hn'
  obtain⟨ii,z,e1,e2,e3,e4,e5,e6⟩:=F6 hE
  have hby:bytes≤10000:=by simpa using hby
  have hown:=hm.row hi
  have hmul:(r.n+k)*bytes≤1000000000*10000:=Nat.mul_le_mul hb hby
  obtain⟨a',c',w',hr,hown',hc⟩:=NS (P:=P) w F.w.heap.size T o.type r.E ii z r.sz bytes hT e1 e2 e3 e4 e5 e6 r.a r.c r.n r.xs hown a2 k c2 news hl
    (fun j u hu=>by obtain⟨ad,q1,q2,q3⟩:=hnews j u hu; exact⟨ad,q1,by rw [KH ad j q2]; exact q3⟩) h1 (by unfold maxLen; omega) (by omega) hm.size
  unfold Oper.wp execOp
  have hse:=Ap (d:=dd) hk hs
  have hxe:=Ap (d:=dd) hk hx
  simp only [SA.den,SC.den] at hse hxe
  simp only [hop,resolve,invoke,builtin,Sem.run_bind,Sem.run_pure,Result.andThen_ok,List.map_toArray,List.map_cons,List.map_nil,hse,hxe,hr]
  show K _ _
  rw [CV t dd hd]
  have hkn:Kn N e (m.put d (.one (.c (.slice a' (r.n+k) c')))) (t.setIfInBounds d (.slice a' (r.n+k) c')):=hk.put hlt (.one (.c (.slice a' (r.n+k) c')))
  have hone:∀ v∈r.xs++news,GW v=false:=fun v hv=>(List.mem_append.1 hv).elim (fun hv=>by obtain⟨_,mm⟩:=hm; exact(mm.rws i r hi).one v hv) (fun hv=>F5 (h1 v hv))
  have hlt':=JY hi
  rcases hc with⟨ha,hcc,hg⟩ | ⟨g,ha,hg1,hg2,hg⟩
  · refine hK a' c' ⟨none,0,0,r.E,r.sz,[],0⟩ _ _ (.inl ⟨ha,hcc,Nat.le_add_right _ _,hown.1,rfl,rfl,rfl⟩) hkn (Ai.nilRow r.E r.sz ?_)
    exact hm.setRow (r':=⟨a',r.n+k,c',r.E,r.sz,r.xs++news,0⟩) hi hown' (fun o ho=>(by rw [hf] at ho; omega)) hone (.inl ⟨ha,hf.symm,hg⟩)
  have h2:=(hm.nilRow r.E r.sz).moveRow (i:=i) (k:=rw.length) (r:=r) (q:=⟨none,0,0,r.E,r.sz,[],0⟩) (by rw [List.getElem?_append_left hlt']; exact hi) (by simp) rfl (by omega)
  have h3:((rw++[(⟨none,0,0,r.E,r.sz,[],0⟩:Ca)]).set rw.length r).set i (⟨none,0,0,r.E,r.sz,[],0⟩:Ca)=rw.set i (⟨none,0,0,r.E,r.sz,[],0⟩:Ca)++[r]:=by
    rw [List.set_append_right _ _ (Nat.le_refl _),Nat.sub_self,List.set_append_left _ _ hlt']
    rfl
  rw [h3] at h2
  have h4:=h2.setRow (i:=i) (r:=⟨none,0,0,r.E,r.sz,[],0⟩) (r':=⟨a',r.n+k,c',r.E,r.sz,r.xs++news,0⟩) (by rw [List.getElem?_append_left (by simpa using hlt')]; simp [hlt']) hown' (fun o ho=>by simp at ho) hone (.inr ⟨g,ha,rfl,hg1,hg2,hg⟩)
  rw [List.set_append_left _ _ (by simpa using hlt'),List.set_set] at h4
  exact hK a' c' r _ _ (.inr rfl) hkn h4
theorem Ai.unkeep {i k:Nat} {r r' q:Ca} (hm:Ai F h e pl rw w) (hi:rw[i]? = some r') (hk:rw[k]? = some q) (hne:i≠k) (K:XE r r' q) (hf:r.frz=0) (hf':r'.frz=0) (hx:∃ ys,r'.xs=r.xs++ys):Ai F h e pl ((rw.set i r).set k ⟨none,0,0,r.E,r.sz,[],0⟩) w:=by
  rcases K with⟨k1,k2,k3,k4,k5,k6,k7⟩ | rfl
  · refine Ai.noRow r.E r.sz ?_
    obtain⟨ys,hx⟩:=hx
    obtain⟨ow,m⟩:=hm
    refine⟨ow,m.below,m.le,m.old,m.has,m.ows,m.hown,m.pls,fun j r2 hr=>?_,m.ext⟩
    rcases HX hr with⟨rfl,rfl⟩ | ⟨_,hr⟩
    · have H:=m.rws j r' hi
      have hxt:r'.xs.take r2.xs.length=r2.xs:=by rw [hx]; exact List.take_left
      refine⟨⟨k4,?_⟩,by rw [hf]; exact Nat.zero_le _,fun ad ha=>?_,fun v hv=>H.one v (by rw [hx]; exact List.mem_append_left _ hv)⟩
      · rcases H.own.2 with⟨h1,h2⟩ | ⟨g,cap,cur,h1,h2,h3,h4,h5,h6,h7⟩
        · simp only [Value.slice.injEq] at h1
          have hz:r2.n=0:=by omega
          exact .inl ⟨by rw [← k1,← k2,h1.1,h1.2.2,hz],hz⟩
        simp only [Value.slice.injEq] at h1
        refine .inr ⟨g,cap,cur,by rw [← k1,← k2,h1.1,h1.2.2],h2,by rw [← k5]; exact h3,Nat.le_trans k3 h4,h5,by rw [← k6]; exact h6,?_⟩
        rw [← hxt,← h7,List.take_take,k4,Nat.min_eq_left]
        rw [k6]
        exact Nat.mul_le_mul_right _ k3
      obtain⟨q1,q2,q3⟩:=H.blk ad (by rw [k1]; exact ha)
      exact⟨q1,fun o ho=>q2 o (by rw [hf']; exact Nat.zero_le _),fun o ho=>by rw [hf] at ho; omega⟩
    exact m.rws j r2 hr
  have hi':=JY hi
  have hk':=JY hk
  have h1:=(Ai.noRow (i:=i) q.E q.sz hm).moveRow (i:=k) (k:=i) (r:=q) (q:=⟨none,0,0,q.E,q.sz,[],0⟩) (by rw [List.getElem?_set_ne hne]; exact hk) (by simp [hi']) rfl (Ne.symm hne)
  rw [List.set_set] at h1
  exact h1
theorem Ai.rowFree {i:Nat} {r:Ca} (hm:Ai F h e pl rw w) (hi:rw[i]? = some r) (hf:r.frz=0):∀ ad,r.a=some ad→∀ o,h ad.block o=none:=fun ad ha o=>by
  obtain⟨ow,m⟩:=hm
  exact((m.rws i r hi).blk ad ha).2.1 o (by rw [hf]; exact Nat.zero_le _)
def G3 (h:Ac) (e:AJ) (pl:List C0):Prop:=∀ (j:Nat)(p:C0),pl[j]? = some p→p.own=none→∀ (k:Nat)(c:SC),p.cells[k]? = some c→h (e.blk j).1 ((e.blk j).2+k)=some (c.den e)
theorem Ai.noneIn (hm:Ai F h e pl rw w):G3 h e pl:=fun j p hp ho k c hc=>by
  obtain⟨ow,m⟩:=hm
  have:=m.pls j p hp
  unfold Cq at this
  rw [ho] at this
  exact this k c hc
def J1:List C0→List C0→Prop
  | [],[]=>True
  | p::ps,q::qs=>(q.own=none→p=q)∧J1 ps qs
  | _,_=>False
theorem J1.get:∀ {ps qs:List C0},J1 ps qs→∀ (j:Nat)(q:C0),qs[j]? = some q→q.own=none→ps[j]? = some q
  | [],[],_,_,_,h,_=>by simp at h
  | p::ps,q'::qs,H,0,q,h,ho=>by
    simp at h
    subst h
    rw [H.1 ho]
    rfl
  | p::ps,q'::qs,H,j+1,q,h,ho=>by
    simp at h
    simpa using J1.get H.2 j q h ho
  | [],_::_,H,_,_,_,_=>H.elim
  | _::_,[],H,_,_,_,_=>H.elim
theorem G3.same {pl':List C0} (H:G3 h e pl) (S:J1 pl pl'):G3 h e pl':=fun j p hp ho k c hc=>H j p (S.get j p hp ho) ho k c hc
theorem Ai.forget {h2:Ac} {i:Nat} {r:Ca} (hm:Ai F h2 e pl rw w) (hi:rw[i]? = some r) (h0:Ac.le F.h h) (hle:Ac.le h h2) (hno:∀ ad,r.a=some ad→∀ o,h ad.block o=none) (hp:G3 h e pl) :
    ∃ h3,Ac.le h h3∧Ai F h3 e pl (rw.set i { r with frz:=0 }) w:=by
  obtain⟨ow,m⟩:=hm
  have H:=m.rws i r hi
  have hno':∀ b o x,h b o=some x→∀ ad,r.a=some ad→ad.block≠b:=fun b o x hx ad ha hb=>by rw [← hb,hno ad ha o] at hx; cases hx
  refine⟨fun b o=>if r.a.map (·.block)=some b then none else h2 b o,?_,ow,m.below,?_,?_,?_,m.ows,?_,?_,?_,fun b x hx=>?_⟩
  · intro b o x hx
    have : ¬ r.a.map (·.block)=some b:=fun hb=>by
      obtain⟨ad,ha,hb⟩:=Option.map_eq_some_iff.1 hb
      exact hno' b o x hx ad ha hb
    simp only [this,if_false]
    exact hle b o x hx
  · intro b o x hx
    have hx':=h0 b o x hx
    have : ¬ r.a.map (·.block)=some b:=fun hb=>by
      obtain⟨ad,ha,hb⟩:=Option.map_eq_some_iff.1 hb
      exact hno' b o x hx' ad ha hb
    simp only [this,if_false]
    exact m.le b o x hx
  · intro b o x hx
    (try dsimp only at hx)
    split at hx
    · cases hx
    exact m.old b o x hx
  · intro b o x hx
    (try dsimp only at hx)
    split at hx
    · cases hx
    exact m.has b o x hx
  · intro b o x k hx
    (try dsimp only at hx)
    split at hx
    · cases hx
    exact m.hown b o x k hx
  · intro j p hj
    have hpl:=m.pls j p hj
    unfold Cq at hpl ⊢
    split at hpl
    · obtain⟨q1,q2,q3,q4⟩:=hpl
      refine⟨q1,q2,q3,fun o=>?_⟩
      dsimp only
      split
      · rfl
      exact q4 o
    rename_i ho
    intro k c hc
    have hx:=hp j p hj ho k c hc
    have : ¬ r.a.map (·.block)=some (e.blk j).1:=fun hb=>by
      obtain⟨ad,ha,hb⟩:=Option.map_eq_some_iff.1 hb
      exact hno' _ _ _ hx ad ha hb
    simp only [this,if_false]
    exact hle _ _ _ hx
  · intro j r' hr
    rcases HX hr with⟨rfl,rfl⟩ | ⟨hj,hr⟩
    · refine⟨H.own,Nat.zero_le _,fun ad ha=>⟨(H.blk ad ha).1,fun o _=>?_,fun o ho=>absurd ho (Nat.not_lt_zero _)⟩,H.one⟩
      have ha':r.a=some ad:=ha
      simp [ha']
    have H':=m.rws j r' hr
    refine⟨H'.own,H'.frz,fun ad ha=>?_,H'.one⟩
    obtain⟨q1,q2,q3⟩:=H'.blk ad ha
    have : ¬ r.a.map (·.block)=some ad.block:=fun hb=>by
      obtain⟨ad',ha',hb⟩:=Option.map_eq_some_iff.1 hb
      have q4:=(H.blk ad' ha').1
      replace hb:ad'.block=ad.block:=hb
      rw [hb,q1] at q4
      exact hj (by simpa using q4)
    exact⟨q1,fun o ho=>(by show(if r.a.map (·.block)=some ad.block then none else h2 ad.block o)=_; rw [if_neg this]; exact q2 o ho),fun o ho=>(by show(if r.a.map (·.block)=some ad.block then none else h2 ad.block o)=_; rw [if_neg this]; exact q3 o ho)⟩
  obtain⟨q1,q2,q3,q4,q5,q6⟩:=m.ext b x hx
  refine⟨q1,q2,q3,q4,fun o v hv=>?_,fun hc o=>?_⟩
  · dsimp only at hv
    split at hv
    · cases hv
    exact q5 o v hv
  dsimp only
  split
  · rfl
  exact q6 hc o
theorem Ud:∀ (e e':AJ)(j:Nat),j<e.length→AJ.blk (e++e') j=AJ.blk e j
  | [],_,_,h=>by simp at h
  | _::_,_,0,_=>rfl
  | _::r,e',j+1,h=>Ud r e' j (by simpa using h)
theorem G3.more {e':AJ} {qs:List C0} (H:G3 h e pl) (hl:pl.length≤e.length) (hnp:(pl.all fun(p:C0)=>p.own.isSome || Kq p.cells)=true) (hq:(qs.all fun q=>q.own.isSome || q.cells.isEmpty)=true):G3 h (e++e') (pl++qs):=fun j p hp ho k c hc=>by
  rcases Nat.lt_or_ge j pl.length with hj | hj
  · rw [List.getElem?_append_left hj] at hp
    have hb:AJ.blk (e++e') j=AJ.blk e j:=Ud e e' j (Nat.lt_of_lt_of_le hj hl)
    have hd:=H j p hp ho k c hc
    have hn:=List.all_eq_true.1 hnp p (List.mem_of_getElem? hp)
    rw [ho] at hn
    simp only [Option.isSome_none,Bool.false_or] at hn
    have hd2:=congrArg (·[k]?) (JW (e:=e) (e':=e++e') hn)
    simp only [List.getElem?_map,hc,Option.map_some,Option.some.injEq] at hd2
    rw [hb,← hd2]
    exact hd
  rw [List.getElem?_append_right hj] at hp
  have:=List.all_eq_true.1 hq p (List.mem_of_getElem? hp)
  rw [ho] at this
  simp only [Option.isSome_none,Bool.false_or,List.isEmpty_iff] at this
  rw [this] at hc
  simp at hc
theorem Ai.Fle (hm:Ai F h e pl rw w):Ac.le F.h h:=let ⟨_,m⟩:=hm; m.le
end
section
variable {ops:Array Oper} {X done:List Nat} {i:Nat}
end
open Go Go.RowKit
open Rep (rep)
section
variable {P:Program} {N:Nat} {e:AJ} {pl:List C0} {rw:List Ca} {w:World} {m:TM} {t:Array Value} {dd:List Deferred} {d:Nat} {o:Oper} {K:Act→World→Prop} {Q:Exit→Act→World→Prop} {F:Fr} {h:Ac}
def FX (xs:List Int) (k:Nat) (l:List Int):List Int:=xs.take k++l++xs.drop (k+l.length)
theorem Rj {a:Option Addr} {c:Nat} {l:List Int} (hm:Ai F h e pl rw w) (hr:At h a c l) (k:Nat) (hk:k≤l.length) (n c2:Nat):(Builtin.firstCells 1 k (.slice a n c2)).run P w=.ok ((l.take k).map (Value.int .i64)).toArray w:=by
  obtain⟨vs,hc,hs,_⟩:=hr
  have hvs:=Hb hc
  subst hvs
  cases a with
  | none =>
    have:l=[]:=by
      cases l with
      | nil=>rfl
      | cons q r=>obtain⟨ad,h1,_⟩:=hs 0 _ rfl; cases h1
    subst this
    simp [Builtin.firstCells]
  | some ad =>
    have h2:=run_loadCells_list (P:=P) w ad ((l.take k).map (Value.int .i64)) (fun j v hj=>by
      rw [List.getElem?_map,List.getElem?_take] at hj
      split at hj
      · obtain⟨ad',h1,h2,h3⟩:=hs j v (by rw [List.getElem?_map]; exact hj)
        cases h1
        have:=MI (hm.has _ _ _ h3).2 (by obtain⟨z,_,rfl⟩:=Option.map_eq_some_iff.1 hj; rfl)
        rw [KH _ _ h2]; exact this
      simp at hj)
    rw [List.length_map,List.length_take,Nat.min_eq_left hk] at h2
    simp only [Builtin.firstCells,Nat.mul_one]
    exact h2
theorem Sz {r:Ca} {i:Nat} {l:List Int} (hm:Ai F h e pl rw w) (hi:rw[i]? = some r) (hl:r.xs=l.map (Value.int .i64)) (k:Nat) (hk:k≤l.length) (n c2:Nat):(Builtin.firstCells 1 k (.slice r.a n c2)).run P w=.ok ((l.take k).map (Value.int .i64)).toArray w:=by
  have hc:=hm.rowCell hi
  rw [hl] at hc
  cases ha:r.a with
  | none =>
    have:l=[]:=by
      cases l with
      | nil=>rfl
      | cons q r=>obtain⟨ad,h1,_⟩:=hc 0 _ rfl; rw [ha] at h1; cases h1
    subst this
    simp [Builtin.firstCells]
  | some ad =>
    have h2:=run_loadCells_list (P:=P) w ad ((l.take k).map (Value.int .i64)) (fun j v hj=>by
      rw [List.getElem?_map,List.getElem?_take] at hj
      split at hj
      · obtain⟨ad',h1,h2,h3⟩:=hc j v (by rw [List.getElem?_map]; exact hj)
        rw [ha] at h1
        cases h1
        rw [KH _ _ h2]; exact h3
      simp at hj)
    rw [List.length_map,List.length_take,Nat.min_eq_left hk] at h2
    simp only [Builtin.firstCells,Nat.mul_one]
    exact h2
theorem KO {x y:Operand} {T T2 E:TypeId} {nx ny cx cy:Nat} {r:Ca} {ax ay:Option Addr} {l xs:List Int} (i base:Nat) (hk:Kn N e m t) (hm:Ai F h e pl rw w) (hop:o.op=.call ⟨.builtin .copy,#[x,y],#[T,T2]⟩) (hd:o.dst=some d) (hlt:d<N)
    (hx:DR m x=some (.c (.slice ax nx cx))) (hy:DR m y=some (.c (.slice ay ny cy))) (hT:P.underlying T=some (.slice E)) (hE:FW P E=some 1) (hi:rw[i]? = some r) (hsz:r.sz=1) (hf:r.frz=0) (hxs:r.xs=xs.map (Value.int .i64))
    (ha:∀ ad,ax=some ad→∃ g,r.a=some ⟨g,0,none⟩∧ad=⟨g,base,none⟩) (hn:ax=none→l=[]) (hb:base+nx≤xs.length) (hl:l.length=min ny nx)
    (hload:(Builtin.firstCells 1 (min ny nx) (.slice ay ny cy)).run P w=.ok (l.map (Value.int .i64)).toArray w)
    (hK:∀ t' w',Kn N e (m.put d (.one (.c (.int .i64 ((min ny nx:Nat):Int))))) t'→Ai F h e pl (rw.set i { r with xs:=(FX xs base l).map (Value.int .i64) }) w'→K ⟨t',dd⟩ w'):o.wp P ⟨t,dd⟩ w K Q:=by
  have hxe:=Ap (d:=dd) hk hx
  have hye:=Ap (d:=dd) hk hy
  simp only [SA.den,SC.den] at hxe hye
  have hmin:Nat.min ny nx=min ny nx:=rfl
  have hown:=hm.row hi
  have hlen:=hown.1
  rw [hxs,List.length_map,hsz,Nat.mul_one] at hlen
  cases ax with
  | none =>
    have hl0:=hn rfl
    subst hl0
    have hcopy:(Builtin.copy_ #[T,T2] o.type #[.slice none nx cx,.slice ay ny cy]).run P w=.ok (.int .i64 ((min ny nx:Nat):Int)) w:=by
      simp [Builtin.copy_,run_underlying hT,Builtin.lenOf,BP w hE,hmin,hload,goInt]
    unfold Oper.wp execOp
    simp only [hop,resolve,invoke,builtin,List.map_toArray,List.map_cons,List.map_nil,hxe,hye,Sem.run_bind,Sem.run_pure,Result.andThen_ok,hcopy]
    show K _ _
    rw [CV t dd hd]
    have hr:({ r with xs:=(FX xs base []).map (Value.int .i64) }:Ca)=r:=by
      unfold FX
      rw [List.append_nil,List.length_nil,Nat.add_zero,List.take_append_drop,← hxs]
    refine hK _ _ (hk.put hlt (.one (.c (.int .i64 _)))) ?_
    rw [hr]
    have:rw.set i r=rw:=by
      apply List.ext_getElem?
      intro j
      by_cases hj:i=j
      · subst hj
        rw [List.getElem?_set_self (List.getElem?_eq_some_iff.1 hi).1,hi]
      rw [List.getElem?_set_ne hj]
    rw [this]
    exact hm
  | some ad =>
    obtain⟨g,ha1,rfl⟩:=ha ad rfl
    have hll:l.length≤nx:=by rw [hl]; exact Nat.min_le_right _ _
    have hone:∀ u∈(FX xs base l).map (Value.int .i64),GW u=false:=fun u hu=>by
      obtain⟨c,_,rfl⟩:=List.mem_map.1 hu
      rfl
    rcases hown.2 with⟨hv,_⟩ | ⟨g',cap,cur,hv,hbg,hg,hnc,hcm,hcs,htake⟩
    · rw [ha1] at hv; simp at hv
    rw [ha1] at hv
    simp only [Value.slice.injEq,Option.some.injEq,Addr.mk.injEq,true_and,and_true] at hv
    obtain⟨rfl,hcc⟩:=hv
    have hle:r.n*r.sz≤cur.size:=by rw [hcs]; exact Nat.mul_le_mul_right _ hnc
    have hst:=run_storeCells_at P g base r.E (l.map (Value.int .i64)) 0 cur w hg (by simp; rw [hsz] at hle; omega) (by intro u hu; obtain⟨c,_,rfl⟩:=List.mem_map.1 hu; rfl)
    have hcopy:∀ w2,(storeCells ⟨g,base,none⟩ (l.map (Value.int .i64)) 0).run P w=.ok () w2→(Builtin.copy_ #[T,T2] o.type #[.slice (some ⟨g,base,none⟩) nx cx,.slice ay ny cy]).run P w=.ok (.int .i64 ((min ny nx:Nat):Int)) w2:=by
      intro w2 hw2
      simp [Builtin.copy_,run_underlying hT,Builtin.lenOf,BP w hE,hmin,hload,hw2,goInt]
    replace hcopy:=hcopy _ hst
    unfold Oper.wp execOp
    simp only [hop,resolve,invoke,builtin,List.map_toArray,List.map_cons,List.map_nil,hxe,hye,Sem.run_bind,Sem.run_pure,Result.andThen_ok,hcopy]
    show K _ _
    rw [CV t dd hd]
    have hcl:(FX xs base l).length=xs.length:=by
      unfold FX
      simp
      omega
    refine hK _ _ (hk.put hlt (.one (.c (.int .i64 _)))) (hm.setRow hi ?_ (fun o ho=>by omega) hone (.inl ⟨rfl,rfl,⟨rfl,rfl,rfl,by simp,fun k _ hne=>setRow_other w _ k _ (fun hh=>hne (by rw [hh,ha1]; rfl))⟩⟩))
    refine⟨?_,.inr ⟨g,cap,_,by rw [ha1,hcc],hbg,setRow_heap w g cur _ r.E _ hg,hnc,hcm,?_,?_⟩⟩
    · rw [List.length_map,hcl,hsz,Nat.mul_one]; exact hlen
    · simp; rw [hsz] at hle; omega
    simp only [Nat.add_zero]
    have h2:base+(l.map (Value.int .i64)).length≤r.n*r.sz:=by rw [List.length_map,hsz]; omega
    have:=N5 cur.toList (l.map (Value.int .i64)) base (r.n*r.sz) h2 (by simpa using hle)
    rw [htake,hxs] at this
    unfold FX
    rw [List.map_append,List.map_append,List.map_take,List.map_drop]
    simpa using this
theorem KP (h:Ac):∀ l:List Int,Ae h l (l.map (Value.int .i64))
  | []=>rfl
  | x::l=>⟨[Value.int .i64 x],l.map (Value.int .i64),rfl,rfl,KP h l⟩
theorem Pf {xs l:List Int} {k:Nat} (h:k+l.length≤xs.length):(FX xs k l).length=xs.length:=by
  unfold FX
  simp
  omega
def EE (xs l:List Int):List Int:=FX xs 0 (l.take (min l.length xs.length))
theorem PJ (xs l:List Int):(EE xs l).length=xs.length:=Pf (by rw [List.length_take]; omega)
theorem Rl {x y:Operand} {T T2 E:TypeId} {r:Ca} {ay:Option Addr} {cy:Nat} {l xs:List Int} (i:Nat) (hk:Kn N e m t) (hm:Ai F h e pl rw w) (hop:o.op=.call ⟨.builtin .copy,#[x,y],#[T,T2]⟩) (hd:o.dst=some d) (hlt:d<N)
    (hx:DR m x=some (.c (.slice r.a r.n r.c))) (hy:DR m y=some (.c (.slice ay l.length cy))) (hT:P.underlying T=some (.slice E)) (hE:FW P E=some 1) (hi:rw[i]? = some r) (hsz:r.sz=1) (hf:r.frz=0) (hxs:r.xs=xs.map (Value.int .i64)) (hr:At h ay cy l)
    (hK:∀ t' w',Kn N e (m.put d (.one (.c (.int .i64 ((min l.length xs.length:Nat):Int))))) t'→Ai F h e pl (rw.set i { r with xs:=(EE xs l).map (Value.int .i64) }) w'→K ⟨t',dd⟩ w'):o.wp P ⟨t,dd⟩ w K Q:=by
  have hown:=hm.row hi
  have hlen:=hown.1
  rw [hxs,List.length_map,hsz,Nat.mul_one] at hlen
  rw [hlen] at hK
  refine KO (l:=l.take (min l.length r.n)) (xs:=xs) i 0 hk hm hop hd hlt hx hy hT hE hi hsz hf hxs (fun ad ha=>?_) (fun ha=>?_) (by omega) (by rw [List.length_take]; omega) (Rj hm hr _ (Nat.min_le_left _ _) _ _) (fun t' w' a b=>hK t' w' a (by unfold EE; rw [hlen]; exact b))
  · rcases hown.2 with⟨hv,_⟩ | ⟨g,cap,cur,hv,_⟩
    · rw [ha] at hv; simp at hv
    rw [ha] at hv
    simp only [Value.slice.injEq,Option.some.injEq] at hv
    exact⟨g,by rw [ha,hv.1],hv.1⟩
  rcases hown.2 with⟨_,hn⟩ | ⟨g,cap,cur,hv,_⟩
  · rw [hn]; simp
  rw [ha] at hv; simp at hv
def EU (xs:List Int) (k:Int):List Int:=FX xs k.toNat (xs.take (min k.toNat (xs.length-k.toNat)))
theorem Rm {xs:List Int} {k:Int} (h0:0≤k) (h1:k≤xs.length):(EU xs k).length=xs.length:=by
  unfold EU
  exact Pf (by rw [List.length_take]; omega)
theorem S0 {x y:Operand} {T T2 E:TypeId} {r:Ca} {n1 n2 c1 c2:Nat} {xs:List Int} {k:Int} (i:Nat) (hk:Kn N e m t) (hm:Ai F h e pl rw w) (hop:o.op=.call ⟨.builtin .copy,#[x,y],#[T,T2]⟩) (hd:o.dst=some d) (hlt:d<N)
    (hx:DR m x=some (.c (.slice (HS 1 r.a r.c k.toNat) n1 c1))) (hy:DR m y=some (.c (.slice r.a n2 c2))) (hT:P.underlying T=some (.slice E)) (hE:FW P E=some 1) (hi:rw[i]? = some r) (hsz:r.sz=1) (hf:r.frz=0) (hxs:r.xs=xs.map (Value.int .i64))
    (h0:0≤k) (h1:k≤xs.length) (hn1:n1=xs.length-k.toNat) (hn2:n2=k.toNat)
    (hK:∀ t' w',Kn N e (m.put d (.one (.c (.int .i64 ((min k.toNat (xs.length-k.toNat):Nat):Int))))) t'→Ai F h e pl (rw.set i { r with xs:=(EU xs k).map (Value.int .i64) }) w'→K ⟨t',dd⟩ w'):o.wp P ⟨t,dd⟩ w K Q:=by
  subst hn1 hn2
  have hown:=hm.row hi
  have hlen:=hown.1
  rw [hxs,List.length_map,hsz,Nat.mul_one] at hlen
  have hcap:=hm.rowCap hi
  have copy0:∀ b,FX xs b []=xs:=fun b=>by
    unfold FX
    rw [List.append_nil,List.length_nil,Nat.add_zero,List.take_append_drop]
  have hsub:∀ ad,HS 1 r.a r.c k.toNat=some ad→∃ g,r.a=some ⟨g,0,none⟩∧ad=⟨g,if r.c=k.toNat then 0 else k.toNat,none⟩:=fun ad ha=>by
    rcases hown.2 with⟨hv,_⟩ | ⟨g,cap,cur,hv,_⟩
    · simp only [Value.slice.injEq] at hv
      rw [hv.1] at ha
      unfold HS at ha
      split at ha <;> simp at ha
    simp only [Value.slice.injEq] at hv
    refine⟨g,hv.1,?_⟩
    rw [hv.1] at ha
    unfold HS at ha
    by_cases hq:r.c=k.toNat
    · rw [if_pos hq] at ha
      rw [if_pos hq]
      cases ha
      rfl
    rw [if_neg hq] at ha
    rw [if_neg hq]
    obtain⟨q1,q2,q3⟩:=VC (⟨g,0,none⟩:Addr) (k.toNat*1) rfl
    simp only [Option.map_some,Option.some.injEq] at ha
    rw [← ha]
    rw [Nat.mul_one] at q1 q2 q3 ⊢
    cases hz:(⟨g,0,none⟩:Addr).add k.toNat with
    | mk b o s =>
      rw [hz] at q1 q2 q3
      simp only at q1 q2 q3
      rw [q1,q2,q3,Nat.zero_add]
  have hnone:HS 1 r.a r.c k.toNat=none→xs.take (min k.toNat (xs.length-k.toNat))=[]:=fun ha=>by
    rcases hown.2 with⟨_,hn⟩ | ⟨g,cap,cur,hv,_⟩
    · have:xs.length=0:=by omega
      rw [List.eq_nil_of_length_eq_zero this]; simp
    simp only [Value.slice.injEq] at hv
    rw [hv.1] at ha
    unfold HS at ha
    split at ha <;> simp at ha
  by_cases hq:r.c=k.toNat
  · have hl0:xs.take (min k.toNat (xs.length-k.toNat))=[]:=by rw [show xs.length-k.toNat=0 by omega,Nat.min_zero,List.take_zero]
    refine KO (l:=xs.take (min k.toNat (xs.length-k.toNat))) (xs:=xs) i 0 hk hm hop hd hlt hx hy hT hE hi hsz hf hxs (fun ad ha=>by have:=hsub ad ha; rwa [if_pos hq] at this) hnone (by omega) (by rw [List.length_take]; omega) (Sz hm hi hxs _ (by omega) _ _) (fun t' w' a b=>hK t' w' a ?_)
    unfold EU
    rw [hl0,copy0] at b ⊢
    exact b
  exact KO (l:=xs.take (min k.toNat (xs.length-k.toNat))) (xs:=xs) i k.toNat hk hm hop hd hlt hx hy hT hE hi hsz hf hxs (fun ad ha=>by have:=hsub ad ha; rwa [if_neg hq] at this) hnone (by omega) (by rw [List.length_take]; omega) (Sz hm hi hxs _ (by omega) _ _) hK
theorem Pg {T:TypeId} {s x:Operand} {r:Ca} (i:Nat) (bytes k c2:Nat) (n':Nat) (a2:Option Addr) (news:List Value) (hk:Kn N e m t) (hm:Ai F h e pl rw w) (hop:o.op=.call ⟨.builtin .append,#[s,x],#[T,T]⟩) (hd:o.dst=some d) (hlt:d<N)
    (hi:rw[i]? = some r) (hT:P.underlying T=some (.slice r.E)) (hE:JV P r.E r.sz bytes=true) (hs:DR m s=some (.c (.slice r.a r.n r.c))) (hx:DR m x=some (.c (.slice a2 k c2)))
    (hl:news.length=k*r.sz) (hnews:∀ j u,news[j]? = some u→∃ ad,a2=some ad∧ad.spot=none∧w.cell? ⟨ad.block,ad.off+j,none⟩=some u) (h1:∀ u∈news,u.oneCell' = true)
    (hn':r.n+k=n') (hb:n'≤17592186044416) (hby:decide (bytes≤8)=true)
    (hK:∀ a' c' f' t' w',f'≤r.frz→Kn N e (m.put d (.one (.c (.slice a' n' c')))) t'→Ai F h e pl (rw.set i ⟨a',n',c',r.E,r.sz,r.xs++news,f'⟩) w'→K ⟨t',dd⟩ w'):o.wp P ⟨t,dd⟩ w K Q:=by
  subst hn'
  obtain⟨ii,z,e1,e2,e3,e4,e5,e6⟩:=F6 hE
  have hby:bytes≤8:=by simpa using hby
  have hown:=hm.row hi
  have hmul:(r.n+k)*bytes≤17592186044416*8:=Nat.mul_le_mul hb hby
  obtain⟨a',c',w',hr,hown',hc⟩:=Jr (P:=P) w F.w.heap.size T o.type r.E ii z r.sz bytes hT e1 e2 e3 e4 e5 e6 r.a r.c r.n r.xs hown a2 k c2 news hl
    (fun j u hu=>by obtain⟨ad,q1,q2,q3⟩:=hnews j u hu; exact⟨ad,q1,by rw [KH ad j q2]; exact q3⟩) h1 (by unfold maxLen; omega) (by omega) hm.size
  unfold Oper.wp execOp
  have hse:=Ap (d:=dd) hk hs
  have hxe:=Ap (d:=dd) hk hx
  simp only [SA.den,SC.den] at hse hxe
  simp only [hop,resolve,invoke,builtin,Sem.run_bind,Sem.run_pure,Result.andThen_ok,List.map_toArray,List.map_cons,List.map_nil,hse,hxe,hr]
  show K _ _
  rw [CV t dd hd]
  have hkn:Kn N e (m.put d (.one (.c (.slice a' (r.n+k) c')))) (t.setIfInBounds d (.slice a' (r.n+k) c')):=hk.put hlt (.one (.c (.slice a' (r.n+k) c')))
  have hfr:r.frz≤r.xs.length:=by obtain⟨_,mm⟩:=hm; exact(mm.rws i r hi).frz
  have hone:∀ v∈r.xs++news,GW v=false:=fun v hv=>(List.mem_append.1 hv).elim (fun hv=>by obtain⟨_,mm⟩:=hm; exact(mm.rws i r hi).one v hv) (fun hv=>F5 (h1 v hv))
  rcases hc with⟨ha,hg⟩ | ⟨g,ha,hg1,hg2,hg⟩
  · refine hK a' c' r.frz _ _ (Nat.le_refl _) hkn (hm.setRow hi hown' (fun o ho=>?_) hone (.inl ⟨ha,rfl,hg⟩))
    exact List.getElem?_append_left (by omega)
  refine hK a' c' 0 _ _ (Nat.zero_le _) hkn (hm.setRow hi hown' (fun o ho=>?_) hone (.inr ⟨g,ha,rfl,hg1,hg2,hg⟩))
  exact List.getElem?_append_left (by omega)
end
def WB {α:Type} (xs ys:List α):Option (List α):=if (xs++ys).length≤17592186044416 then some (xs++ys) else none
theorem Qr {α:Type} {xs ys zs:List α} (h:WB xs ys=some zs):zs=xs++ys∧(xs++ys).length≤17592186044416:=by
  unfold WB at h
  split at h
  · rename_i h1; simp at h; exact⟨h.symm,h1⟩
  cases h
end Go.Proofs.YtinminkmefljbaaGreat
