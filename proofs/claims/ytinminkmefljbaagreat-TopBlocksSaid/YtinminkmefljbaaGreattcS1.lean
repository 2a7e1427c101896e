/- What a printed proof leans on: memory that is read, and steps through a region. -/
import Derived.Test.YtinminkmefljbaaGreattcS0
import Derived.Laws.OwnMore
set_option linter.all false
namespace Go.Proofs.YtinminkmefljbaaGreat
open Go Go.RowKit
abbrev Ac:=Nat→Nat→Option Value
def Ac.le (h h':Ac):Prop:=∀ b o v,h b o=some v→h' b o=some v
theorem Ac.le_refl (h:Ac):Ac.le h h:=fun _ _ _ x=>x
theorem Ac.le_trans {a b c:Ac} (h:Ac.le a b) (k:Ac.le b c):Ac.le a c:=fun x o v hx=>k x o v (h x o v hx)
def OM (e:MapEntry):Value:=.tuple #[e.key,e.val,.int .i64 e.born]
def G1 (es:Array MapEntry) (clock:Nat):Value:=.tuple (#[.int .i64 clock]++es.map OM)
theorem Tk {es es':Array MapEntry} {c c':Nat} (h:G1 es c=G1 es' c'):es=es'∧c=c':=by
  unfold G1 at h
  simp only [Value.tuple.injEq] at h
  have h1:=congrArg Array.toList h
  simp only [Array.toList_append,Array.toList_map,List.cons_append,List.nil_append,List.cons.injEq,Value.int.injEq,true_and] at h1
  obtain⟨h2,h3⟩:=h1
  refine⟨?_,by omega⟩
  apply Array.ext'
  exact List.map_inj_right (f:=OM) (fun a b hab=>by
    cases a; cases b
    simp [OM] at hab
    simp [hab]; omega) |>.1 h3
def GW:Value→Bool
  | .tuple _=>true
  | _=>false
def Jo (w:World) (b o:Nat):Option Value:=match w.heap[b]? with
  | some (.map es c)=>if o=0 then some (G1 es c) else none
  | _=>(w.cell? ⟨b,o,none⟩).filter fun v=>!GW v
theorem EB {w w':World} {b:Nat} (h:w'.heap[b]? = w.heap[b]?) (o:Nat):Jo w' b o=Jo w b o:=by
  unfold Jo
  rw [h,World.cell?_of_block (w:=w) h]
theorem MI {w:World} {b o:Nat} {v:Value} (h:Jo w b o=some v) (hv:GW v=false):w.cell? ⟨b,o,none⟩=some v:=by
  unfold Jo at h
  split at h
  · split at h
    · cases h; cases hv
    cases h
  exact(Option.filter_eq_some_iff.1 h).1
theorem JT {w:World} {b o:Nat} {v:Value} (h:w.cell? ⟨b,o,none⟩=some v) (hv:GW v=false):Jo w b o=some v:=by
  unfold Jo
  split
  · rename_i hb; simp [World.cell?,hb] at h
  rw [h]; simp [Option.filter,hv]
theorem V4 {w:World} {b:Nat} {es:Array MapEntry} {c:Nat} (h:Jo w b 0=some (G1 es c)):w.heap[b]? = some (.map es c):=by
  unfold Jo at h
  split at h
  · rename_i es' c' hb
    simp only [if_true,Option.some.injEq] at h
    obtain⟨rfl,rfl⟩:=Tk h
    exact hb
  have:=(Option.filter_eq_some_iff.1 h).2
  simp [GW,G1] at this
def CK (h:Ac) (w:World):Prop:=∀ b o v,h b o=some v→b<w.heap.size∧Jo w b o=some v
theorem F5 {v:Value} (h:v.oneCell' = true):GW v=false:=by cases v <;> first | rfl | cases h
theorem SC.den_isTup (e:AJ) (c:SC):GW (c.den e)=false:=by cases c <;> rfl
structure Ca where
  a:Option Addr
  n:Nat
  c:Nat
  E:TypeId
  sz:Nat
  xs:List Value
  frz:Nat
structure Fr where
  w:World
  h:Ac
  X:Nat→Option Obj
def BF:Nat→Option Obj:=fun _=>none
abbrev LL:=Nat→Option (Nat ⊕ Nat)
def Cq (ow:LL) (h:Ac) (e:AJ) (w:World) (i:Nat) (p:C0):Prop :=
  match p.own with
  | some T=>ow (e.blk i).1=some (.inl i)∧(e.blk i).2=0∧w.heap[(e.blk i).1]? = some (.cells (p.cells.map (SC.den e)).toArray T (0,0))∧∀ o,h (e.blk i).1 o=none
  | none=>∀ j c,p.cells[j]? = some c→h (e.blk i).1 ((e.blk i).2+j)=some (c.den e)
structure X5 (F:Fr) (ow:LL) (h:Ac) (w:World) (i:Nat) (r:Ca):Prop where
  own:w.ownsRow F.w.heap.size r.E r.sz (.slice r.a r.n r.c) r.n r.xs
  frz:r.frz≤r.xs.length
  blk:∀ ad,r.a=some ad→ow ad.block=some (.inr i)∧(∀ o,r.frz≤o→h ad.block o=none)∧(∀ o,o<r.frz→h ad.block o=r.xs[o]?)
  one:∀ v∈r.xs,GW v=false
def QR:Obj→Bool
  | .cells ..=>true
  | _=>false
def Sg (F:Fr) (h:Ac) (b:Nat) (x:Obj):Prop:=(∀ o v,h b o=some v→F.h b o=some v)∧(QR x=false→∀ o,h b o=none)
theorem Sg.same {F:Fr} {h h':Ac} {b:Nat} {x:Obj} (H:Sg F h b x) (hh:∀ o,h' b o=h b o):Sg F h' b x:=⟨fun o v hv=>H.1 o v (by rw [← hh o]; exact hv),fun hx o=>(by rw [hh o]; exact H.2 hx o)⟩
theorem Sg.none {F:Fr} {h:Ac} {b:Nat} {x:Obj} (hh:∀ o,h b o=none):Sg F h b x:=⟨fun o v hv=>(by rw [hh o] at hv; cases hv),fun _=>hh⟩
structure W0 (F:Fr) (ow:LL) (h:Ac) (e:AJ) (pl:List C0) (rw:List Ca) (w:World):Prop where
  below:Below F.w.heap.size F.w w
  le:Ac.le F.h h
  old:∀ b o x,h b o=some x→F.h b o=some x∨F.w.heap.size≤b
  has:CK h w
  ows:∀ b x,ow b=some x→F.w.heap.size≤b∧b<w.heap.size
  hown:∀ b o x i,h b o=some x→ow b=some (.inl i)→False
  pls:∀ i p,pl[i]? = some p→Cq ow h e w i p
  rws:∀ i r,rw[i]? = some r→X5 F ow h w i r
  ext:∀ b x,F.X b=some x→F.w.heap.size≤b∧b<w.heap.size∧w.heap[b]? = some x∧ow b=none∧Sg F h b x
def Ai (F:Fr) (h:Ac) (e:AJ) (pl:List C0) (rw:List Ca) (w:World):Prop:=∃ ow,W0 F ow h e pl rw w
section
variable {F:Fr} {ow:LL} {h:Ac} {e:AJ} {pl:List C0} {rw:List Ca} {w w':World}
theorem Ai.begin (h:Ac) (w:World) (hh:CK h w):Ai ⟨w,h,BF⟩ h [] [] [] w :=
  ⟨fun _=>none,Below.refl _ _,Ac.le_refl _,fun _ _ _ hx=>.inl hx,hh,(by simp),(by simp),(by simp),(by simp),(by simp [BF])⟩
theorem Ai.has (hm:Ai F h e pl rw w):CK h w:=let ⟨_,m⟩:=hm; m.has
theorem Ai.below (hm:Ai F h e pl rw w):Below F.w.heap.size F.w w:=let ⟨_,m⟩:=hm; m.below
theorem Ai.size (hm:Ai F h e pl rw w):F.w.heap.size≤w.heap.size:=hm.below.size
theorem Ai.plOk (hm:Ai F h e pl rw w):Ay e pl w:=by
  obtain⟨ow,m⟩:=hm
  intro i p hp j c hc
  have:=m.pls i p hp
  unfold Cq at this
  split at this
  · rename_i T hT
    obtain⟨_,h0,hg,_⟩:=this
    rw [h0,Nat.zero_add,cell_of_row w _ j _ _ _ hg]
    simp [hc]
  exact MI (m.has _ _ _ (this j c hc)).2 (SC.den_isTup e c)
theorem W0.grow (m:W0 F ow h e pl rw w) (hg:w.grownBy w' none):W0 F ow h e pl rw w':=by
  have hb:∀ b,b<w.heap.size→w'.heap[b]? = w.heap[b]?:=fun b hb=>hg.block b hb (by simp)
  refine⟨m.below.trans ⟨hg.os,hg.tape,hg.output,hg.size,fun k hk=>hb k (Nat.lt_of_lt_of_le hk m.below.size)⟩,m.le,m.old,?_,?_,m.hown,?_,?_,?_⟩
  · intro b o v hv
    obtain⟨h1,h2⟩:=m.has b o v hv
    exact⟨Nat.lt_of_lt_of_le h1 hg.size,by rw [EB (hb b h1)]; exact h2⟩
  · intro b x hx
    have:=m.ows b x hx
    exact⟨this.1,Nat.lt_of_lt_of_le this.2 hg.size⟩
  · intro i p hp
    have:=m.pls i p hp
    unfold Cq at this ⊢
    split at this
    · rename_i T hT
      obtain⟨h1,h2,h3,h4⟩:=this
      exact⟨h1,h2,by rw [hb _ (m.ows _ _ h1).2]; exact h3,h4⟩
    exact this
  · intro i r hr
    obtain⟨h1,h2,h3,h4⟩:=m.rws i r hr
    exact⟨h1.kept hg (by cases r.a <;> simp [Value.ownBlock]),h2,h3,h4⟩
  intro b x hx
  obtain⟨h1,h2,h3,h4,h5⟩:=m.ext b x hx
  exact⟨h1,Nat.lt_of_lt_of_le h2 hg.size,by rw [hb b h2]; exact h3,h4,h5⟩
theorem Ai.grow (hm:Ai F h e pl rw w) (hg:w.grownBy w' none):Ai F h e pl rw w':=let ⟨ow,m⟩:=hm; ⟨ow,m.grow hg⟩
theorem Ai.drew (hm:Ai F h e pl rw w):Ai F h e pl rw w.drew:=hm.grow ⟨rfl,rfl,rfl,Nat.le_refl _,fun _ _ _=>rfl⟩
def SC.okB (n:Nat):SC→Bool
  | .ptr i _=>decide (i<n)
  | _=>true
def Kb (n:Nat):List SC→Bool
  | []=>true
  | c::r=>c.okB n && Kb n r
def QS (n:Nat):List C0→Bool
  | []=>true
  | p::r=>Kb n p.cells && QS n r
def SA.okB (n:Nat):SA→Bool
  | .c x=>x.okB n
  | .agg xs=>Kb n xs
def UE (n:Nat):List SA→Bool
  | []=>true
  | c::r=>c.okB n && UE n r
def SV.okB (n:Nat):SV→Bool
  | .one x=>x.okB n
  | .tup xs=>UE n xs
  | .undef=>true
def QT (n:Nat):TM→Bool
  | []=>true
  | (_,v)::r=>v.okB n && QT n r
theorem KG (e:AJ) (x:Nat×Nat):∀ {i:Nat},i<e.length→AJ.blk (e++[x]) i=e.blk i:=by
  induction e with
  | nil=>intro i hi; simp at hi
  | cons y r ih =>
    intro i hi
    cases i with
    | zero=>rfl
    | succ i=>exact ih (by simpa using hi)
theorem Jp (e:AJ) (x:Nat×Nat):AJ.blk (e++[x]) e.length=x:=by
  induction e with
  | nil=>rfl
  | cons y r ih=>exact ih
theorem GX {e:AJ} {x:Nat×Nat} {c:SC} (h:c.okB e.length=true):c.den (e++[x])=c.den e:=by
  cases c <;> first | rfl | skip
  case ptr i off =>
    have hi:i<e.length:=by simpa [SC.okB] using h
    simp [SC.den,KG e x hi]
theorem GY {n:Nat}:∀ {cs:List SC},Kb n cs=true→∀ c∈cs,c.okB n=true
  | [],_,c,hc=>by simp at hc
  | x::r,h,c,hc=>by
    simp only [Kb,Bool.and_eq_true] at h
    rcases List.mem_cons.1 hc with rfl | hc
    · exact h.1
    exact GY h.2 c hc
theorem GZ {e:AJ} {x:Nat×Nat} {cs:List SC} (h:Kb e.length cs=true):cs.map (SC.den (e++[x]))=cs.map (SC.den e) :=
  List.map_congr_left fun c hc=>GX (GY h c hc)
theorem N2 {e:AJ} {x:Nat×Nat} {c:SA} (h:c.okB e.length=true):c.den (e++[x])=c.den e:=by
  cases c with
  | c x=>exact GX h
  | agg xs=>simp only [SA.den]; rw [GZ h]
theorem Sh {e:AJ} {x:Nat×Nat} {c:SV} (h:c.okB e.length=true):c.den (e++[x])=c.den e:=by
  cases c with
  | one x=>exact N2 h
  | tup xs =>
    simp only [SV.den]
    congr 2
    have:∀ (xs:List SA),UE e.length xs=true→xs.map (SA.den (e++[x]))=xs.map (SA.den e):=by
      intro xs
      induction xs with
      | nil=>simp
      | cons y r ih =>
        intro h
        simp only [UE,Bool.and_eq_true] at h
        simp [N2 h.1,ih h.2]
    exact this xs h
  | undef=>rfl
theorem ON {n:Nat}:∀ {m:TM},QT n m=true→∀ {k v},m.get k=some v→v.okB n=true
  | [],_,k,v,hk=>by simp [TM.get] at hk
  | (j,u)::r,h,k,v,hk=>by
    simp only [QT,Bool.and_eq_true] at h
    unfold TM.get at hk
    cases hb:Nat.beq j k with
    | true=>rw [hb] at hk; simp at hk; subst hk; exact h.1
    | false=>rw [hb] at hk; exact ON h.2 hk
theorem Kn.push {N:Nat} {m:TM} {t:Array Value} (hk:Kn N e m t) (x:Nat×Nat) (h:QT e.length m=true):Kn N (e++[x]) m t :=
  ⟨hk.size,fun k v hv=>by rw [Sh (ON h hv)]; exact hk.get k v hv⟩
theorem Jq {n:Nat}:∀ {pl:List C0},QS n pl=true→∀ {i:Nat} {p:C0},pl[i]? = some p→Kb n p.cells=true
  | [],_,i,p,hp=>by simp at hp
  | q::r,h,i,p,hp=>by
    simp only [QS,Bool.and_eq_true] at h
    cases i with
    | zero=>simp at hp; subst hp; exact h.1
    | succ i=>exact Jq h.2 (by simpa using hp)
theorem D0 {α:Type} {l:List α} {x y:α} {i:Nat} (h:(l++[x])[i]? = some y):(i<l.length∧l[i]? = some y)∨(i=l.length∧y=x):=by
  rcases Nat.lt_trichotomy i l.length with h1 | h1 | h1
  · rw [List.getElem?_append_left h1] at h; exact .inl ⟨h1,h⟩
  · subst h1; simp at h; exact .inr ⟨rfl,h.symm⟩
  rw [List.getElem?_eq_none (by simp; omega)] at h; cases h
theorem Cq.push {ow:LL} {i:Nat} {p:C0} (x:Nat×Nat) (hi:i<e.length) (hc:Kb e.length p.cells=true) (h1:Cq ow h e w i p):Cq ow h (e++[x]) w i p:=by
  unfold Cq at *
  rw [KG e x hi,GZ hc]
  split at h1
  · exact h1
  intro j c hj
  rw [GX (GY hc c (List.mem_of_getElem? hj))]
  exact h1 j c hj
theorem Ai.newPlc {b:Nat} {T:TypeId} {cs:List SC} (hm:Ai F h e pl rw w) (hg:w.grownBy w' none) (hb:w.heap.size≤b) (hb':b<w'.heap.size)
    (hv:w'.heap[b]? = some (.cells (cs.map (SC.den e)).toArray T (0,0))) (hl:pl.length=e.length) (h1:QS e.length pl=true) (h2:Kb e.length cs=true) :
    Ai F h (e++[(b,0)]) (pl++[⟨cs,some T⟩]) rw w':=by
  obtain⟨ow,m⟩:=hm
  have m':=m.grow hg
  have hn:ow b=none:=by
    cases hx:ow b with
    | none=>rfl
    | some x=>have:=(m.ows b x hx).2; omega
  have hhn:∀ o,h b o=none:=fun o=>by
    cases hx:h b o with
    | none=>rfl
    | some x=>have:=(m.has b o x hx).1; omega
  refine⟨fun k=>if k=b then some (.inl e.length) else ow k,m'.below,m'.le,m'.old,m'.has,?_,?_,?_,?_,?_⟩
  · intro k x hk
    by_cases hkb:k=b
    · subst hkb; exact⟨Nat.le_trans m.below.size hb,hb'⟩
    simp only [hkb,if_false] at hk; exact m'.ows k x hk
  · intro k o x i hk hi
    by_cases hkb:k=b
    · subst hkb; rw [hhn o] at hk; cases hk
    simp only [hkb,if_false] at hi; exact m.hown k o x i hk hi
  · intro i p hp
    rcases D0 hp with⟨hi,hp⟩ | ⟨hi,rfl⟩
    · have:=(m'.pls i p hp).push (b,0) (by omega) (Jq h1 hp)
      unfold Cq at this ⊢
      split at this
      · obtain⟨q1,q2⟩:=this
        refine⟨?_,q2⟩
        by_cases hkb:(AJ.blk (e++[(b,0)]) i).1=b
        · rw [hkb,hn] at q1; cases q1
        simp only [hkb,if_false]; exact q1
      exact this
    rw [hi,hl]
    unfold Cq
    simp only [Jp,if_true,true_and,GZ h2]
    exact⟨hv,hhn⟩
  · intro i r hr
    obtain⟨q1,q2,q3,q9⟩:=m'.rws i r hr
    refine⟨q1,q2,fun ad ha=>?_,q9⟩
    obtain⟨q4,q5⟩:=q3 ad ha
    refine⟨?_,q5⟩
    by_cases hkb:ad.block=b
    · rw [hkb,hn] at q4; cases q4
    simp only [hkb,if_false]; exact q4
  intro k x hx
  obtain⟨h1,h2,h3,h4,h5⟩:=m'.ext k x hx
  have hkb:k≠b:=fun hkb=>by have:=(m.ext k x hx).2.1; omega
  exact⟨h1,h2,h3,by simp only [hkb,if_false]; exact h4,h5⟩
theorem Ai.addPlc {b o:Nat} {cs:List SC} (hm:Ai F h e pl rw w) (hc:∀ j c,cs[j]? = some c→h b (o+j)=some (c.den e)) (hl:pl.length=e.length) (h1:QS e.length pl=true) (h2:Kb e.length cs=true) :
    Ai F h (e++[(b,o)]) (pl++[⟨cs,none⟩]) rw w:=by
  obtain⟨ow,m⟩:=hm
  refine⟨ow,m.below,m.le,m.old,m.has,m.ows,m.hown,?_,m.rws,m.ext⟩
  intro i p hp
  rcases D0 hp with⟨hi,hp⟩ | ⟨hi,rfl⟩
  · exact(m.pls i p hp).push (b,o) (by omega) (Jq h1 hp)
  rw [hi,hl]
  unfold Cq
  simp only [Jp]
  intro j c hj
  rw [GX (GY h2 c (List.mem_of_getElem? hj))]
  exact hc j c hj
theorem Ai.setPlc {i:Nat} {T:TypeId} {cs cs':List SC} (hm:Ai F h e pl rw w) (hp:pl[i]? = some ⟨cs,some T⟩) (hg:w.grownBy w' (some (e.blk i).1))
    (hv:w'.heap[(e.blk i).1]? = some (.cells (cs'.map (SC.den e)).toArray T (0,0))):Ai F h e (pl.set i ⟨cs',some T⟩) rw w':=by
  obtain⟨ow,m⟩:=hm
  have hpi:=m.pls i _ hp
  unfold Cq at hpi
  obtain⟨ho,h0,hh,hn⟩:=hpi
  have hb:∀ b,b<w.heap.size→b≠(e.blk i).1→w'.heap[b]? = w.heap[b]?:=fun b hb hne=>hg.block b hb (by simpa using hne)
  have hlo:=(m.ows _ _ ho).1
  refine⟨ow,m.below.trans ⟨hg.os,hg.tape,hg.output,hg.size,fun k hk=>hb k (Nat.lt_of_lt_of_le hk m.below.size) (by omega)⟩,m.le,m.old,?_,?_,m.hown,?_,?_,fun b x hx=>?_⟩
  · intro b o v hx
    obtain⟨q1,q2⟩:=m.has b o v hx
    refine⟨Nat.lt_of_lt_of_le q1 hg.size,?_⟩
    rw [EB (hb b q1 (fun hbe=>by rw [hbe,hn o] at hx; cases hx))]
    exact q2
  · intro b x hx
    have:=m.ows b x hx
    exact⟨this.1,Nat.lt_of_lt_of_le this.2 hg.size⟩
  · intro j p hj
    by_cases hji:j=i
    · subst hji
      have hlt:j<pl.length:=getElem?_lt' hp
      rw [List.getElem?_set_self hlt] at hj
      cases hj
      unfold Cq
      exact⟨ho,h0,hv,hn⟩
    rw [List.getElem?_set_ne (Ne.symm hji)] at hj
    have:=m.pls j p hj
    unfold Cq at this ⊢
    split at this
    · obtain⟨q1,q2,q3,q4⟩:=this
      refine⟨q1,q2,?_,q4⟩
      rw [hb _ (m.ows _ _ q1).2 (fun hbe=>by rw [hbe,ho] at q1; simp at q1; exact hji q1.symm)]
      exact q3
    exact this
  · intro j r hr
    obtain⟨q1,q2,q3,q9⟩:=m.rws j r hr
    refine⟨q1.kept hg ?_,q2,q3,q9⟩
    cases ha:r.a with
    | none=>left; simp [Value.ownBlock]
    | some ad =>
      right
      simp only [Value.ownBlock,ne_eq,Option.some.injEq]
      intro hbe
      have:=(q3 ad ha).1
      rw [hbe,ho] at this
      simp at this
  obtain⟨h1,h2,h3,h4,h5⟩:=m.ext b x hx
  exact⟨h1,Nat.lt_of_lt_of_le h2 hg.size,by rw [hb b h2 (fun hbe=>by rw [hbe,ho] at h4; cases h4)]; exact h3,h4,h5⟩
where
  getElem?_lt' {α:Type} {l:List α} {k:Nat} {x:α} (h:l[k]? = some x):k<l.length:=by
    rcases Nat.lt_or_ge k l.length with h' | h'
    · exact h'
    rw [List.getElem?_eq_none h'] at h; cases h
end
open Go Go.RowKit
section
variable {P:Program} {N:Nat} {F:Fr} {h:Ac} {e:AJ} {pl:List C0} {rw:List Ca} {m:TM} {t:Array Value} {dd:List Deferred} {w:World}
  {o:Oper} {K:Act→World→Prop} {Q:Exit→Act→World→Prop} {d:Nat}
theorem CV (t:Array Value) (dd:List Deferred) {o:Oper} (hd:o.dst=some d) (v:Value):(Act.mk t dd).put o.dst v=⟨t.setIfInBounds d v,dd⟩:=by rw [hd]; rfl
def N3 (e:AJ) (pl:List C0) (m:TM):Bool:=decide (pl.length=e.length) && QS e.length pl && QT e.length m
theorem Si (hh:N3 e pl m=true):pl.length=e.length∧QS e.length pl=true∧QT e.length m=true:=by
  simpa [N3,and_assoc] using hh
theorem Iw {P:Program} (w:World) (T:TypeId) (v:Value):(newVar T v).run P w=.ok ⟨w.heap.size,0,none⟩ (w.alloc (.cells v.cells T)):=by
  simp [newVar,newRow]
theorem Qg (w:World) (ob:Obj):(w.alloc ob).heap[w.heap.size]? = some ob:=heap_alloc_new w ob
theorem V5 {T:TypeId} {v:Value} {cs:List SC} (hk:Kn N e m t) (hm:Ai F h e pl rw w) (hd:o.dst=some d) (hlt:d<N) (hok:N3 e pl m=true) (hcs:Kb e.length cs=true)
    (hv:v.cells=(cs.map (SC.den e)).toArray) (hr:(execOp (Act.mk t dd).eval o).run P w=.ok (.value (.pointer (some ⟨w.heap.size,0,none⟩))) (w.alloc (.cells v.cells T)))
    (hK:∀ b t' w',Kn N (e++[(b,0)]) (m.put d (.one (.c (.ptr e.length 0)))) t'→Ai F h (e++[(b,0)]) (pl++[⟨cs,some T⟩]) rw w'→K ⟨t',dd⟩ w'):o.wp P ⟨t,dd⟩ w K Q:=by
  obtain⟨h1,h2,h3⟩:=Si hok
  unfold Oper.wp
  rw [hr]
  show K _ _
  rw [CV t dd hd]
  refine hK w.heap.size _ _ ?_ (hm.newPlc (World.grownBy_alloc w _ none) (Nat.le_refl _) (by simp) (by rw [Qg,hv]) h1 h2 hcs)
  have:=(hk.push (w.heap.size,0) h3).put hlt (.one (.c (.ptr e.length 0)))
  simpa [SV.den,SA.den,SC.den,Jp] using this
theorem V6 {T:TypeId} (cs:List SC) (hk:Kn N e m t) (hm:Ai F h e pl rw w) (hop:o.op=.alloc T) (hd:o.dst=some d) (hlt:d<N) (hok:N3 e pl m=true) (hz:Jh P T=some cs) (hcs:Kb e.length cs=true)
    (hK:∀ b t' w',Kn N (e++[(b,0)]) (m.put d (.one (.c (.ptr e.length 0)))) t'→Ai F h (e++[(b,0)]) (pl++[⟨cs,some T⟩]) rw w'→K ⟨t',dd⟩ w'):o.wp P ⟨t,dd⟩ w K Q:=by
  obtain⟨z,h1,h2⟩:=EA e w hz
  refine V5 hk hm hd hlt hok hcs h2 ?_ hK
  unfold execOp
  simp only [hop,Instr.alloc,Sem.run_bind,h1,Result.andThen_ok,Iw,Sem.run_pure]
theorem Xr {T:TypeId} {x:Operand} (v:SA) (hk:Kn N e m t) (hm:Ai F h e pl rw w) (hop:o.op=.box T x) (hd:o.dst=some d) (hlt:d<N) (hok:N3 e pl m=true) (hx:DR m x=some v) (hcs:Kb e.length v.cells=true)
    (hK:∀ b t' w',Kn N (e++[(b,0)]) (m.put d (.one (.c (.ptr e.length 0)))) t'→Ai F h (e++[(b,0)]) (pl++[⟨v.cells,some T⟩]) rw w'→K ⟨t',dd⟩ w'):o.wp P ⟨t,dd⟩ w K Q:=by
  refine V5 (v:=v.den e) hk hm hd hlt hok hcs (SA.den_cells e v) ?_ hK
  unfold execOp
  simp only [hop,Instr.box,Sem.run_bind,Ap hk hx,Result.andThen_ok,Iw,Sem.run_pure]
theorem DS {T:TypeId} {x y:Operand} (i off:Nat) (v:SA) (cs:List SC) {TT:TypeId} {p:List SC} (hk:Kn N e m t) (hm:Ai F h e pl rw w) (hop:o.op=.store T x y) (hd:o.dst=none)
    (hx:DR m x=some (.c (.ptr i off))) (hy:DR m y=some v) (hp:pl[i]? = some ⟨p,some TT⟩) (hsz:FW P T=some v.cells.length) (hfit:decide (off+v.cells.length≤p.length)=true)
    (hcs:p.take off++v.cells++p.drop (off+v.cells.length)=cs)
    (hK:∀ w',Kn N e m t→Ai F h e (pl.set i ⟨cs,some TT⟩) rw w'→K ⟨t,dd⟩ w'):o.wp P ⟨t,dd⟩ w K Q:=by
  subst hcs
  have hfit:off+v.cells.length≤p.length:=by simpa using hfit
  obtain⟨ow,mm⟩:=id hm
  have hpi:=mm.pls i _ hp
  unfold Cq at hpi
  obtain⟨_,h0,hh,_⟩:=hpi
  have hst:=run_storeCells_at P (e.blk i).1 off TT (v.cells.map (SC.den e)) 0 _ w hh (by simpa using hfit) (by intro u hu; obtain⟨c,_,rfl⟩:=List.mem_map.1 hu; exact SC.den_one e c)
  have hxe:(Act.mk t dd).eval x=.pointer (some ⟨(e.blk i).1,off,none⟩):=by
    rw [Ap hk hx]; simp [SA.den,SC.den,h0]
  have hye:=Ap (d:=dd) hk hy
  have hcl:=SA.den_cells e v
  generalize hu:SA.den e v=u at hye hcl
  unfold Oper.wp execOp
  simp only [hop,hxe,hye,Instr.storeAt,Instr.sureAddr,storeVar,Sem.run_bind,Sem.run_pure,Result.andThen_ok,BP w hsz,hcl]
  simp only [List.size_toArray,List.length_map,ne_eq,not_true_eq_false,if_false,hst,Result.andThen_ok]
  show K _ _
  rw [hd]
  refine hK _ hk (hm.setPlc hp ?_ ?_)
  · exact⟨rfl,rfl,rfl,by simp,fun k _ hne=>setRow_other w _ k _ (fun hh=>hne (by rw [hh]))⟩
  rw [setRow_heap w _ _ _ TT (0,0) hh]
  simp [List.map_take,List.map_drop]
def CP (R:Ac→Value→Prop) (h:Ac) (w:World) (en:Ending) (w':World):Prop :=
  ∃ v h',en=.returned v∧Below w.heap.size w w'∧Ac.le h h'∧(∀ b o x,h' b o=some x→h b o=some x∨(w.heap.size≤b∧b<w'.heap.size∧Jo w' b o=some x))∧R h' v
theorem Ai.call {w':World} {h':Ac} (hm:Ai F h e pl rw w) (hb:Below w.heap.size w w') (hle:Ac.le h h')
    (hn:∀ b o x,h' b o=some x→h b o=some x∨(w.heap.size≤b∧b<w'.heap.size∧Jo w' b o=some x)):Ai F h' e pl rw w':=by
  have hg:w.grownBy w' none:=⟨hb.os,hb.tape,hb.output,hb.size,fun k hk _=>hb.block k hk⟩
  obtain⟨ow,m⟩:=hm
  have m':=m.grow hg
  have hold:∀ b o,b<w.heap.size→h' b o=h b o:=fun b o hbl=>by
    cases hx:h b o with
    | some x=>exact hle b o x hx
    | none =>
      cases hy:h' b o with
      | none=>rfl
      | some y =>
        rcases hn b o y hy with h1 | h1
        · rw [hx] at h1; cases h1
        omega
  refine⟨ow,m'.below,Ac.le_trans m.le hle,?_,?_,m'.ows,?_,?_,?_,fun b x hx=>?_⟩
  · intro b o x hx
    rcases hn b o x hx with h1 | h1
    · exact m.old b o x h1
    exact .inr (Nat.le_trans m.below.size h1.1)
  · intro b o x hx
    rcases hn b o x hx with h1 | h1
    · exact m'.has b o x h1
    exact h1.2
  · intro b o x i hx ho
    rw [hold b o (m.ows b _ ho).2] at hx
    exact m.hown b o x i hx ho
  · intro i p hp
    have:=m'.pls i p hp
    unfold Cq at this ⊢
    split at this
    · obtain⟨q1,q2,q3,q4⟩:=this
      exact⟨q1,q2,q3,fun o=>by rw [hold _ o (m.ows _ _ q1).2]; exact q4 o⟩
    exact fun j c hj=>hle _ _ _ (this j c hj)
  · intro i r hr
    obtain⟨q1,q2,q3,q9⟩:=m'.rws i r hr
    refine⟨q1,q2,fun ad ha=>?_,q9⟩
    obtain⟨q4,q5,q6⟩:=q3 ad ha
    exact⟨q4,fun o ho=>by rw [hold _ o (m.ows _ _ q4).2]; exact q5 o ho,fun o ho=>by rw [hold _ o (m.ows _ _ q4).2]; exact q6 o ho⟩
  obtain⟨h1,h2,h3,h4,h5⟩:=m'.ext b x hx
  exact⟨h1,h2,h3,h4,(m.ext b x hx).2.2.2.2.same fun o=>hold b o (m.ext b x hx).2.1⟩
def II (m:TM):List Operand→Option (List SA)
  | []=>some []
  | x::r=>match DR m x,II m r with
    | some v,some vs=>some (v::vs)
    | _,_=>none
theorem Dw (hk:Kn N e m t):∀ {l:List Operand} {vs:List SA},II m l=some vs→l.map (Act.mk t dd).eval=vs.map (SA.den e)
  | [],vs,h=>by simp [II] at h; subst h; rfl
  | x::r,vs,h=>by
    unfold II at h
    split at h
    · rename_i v us hv hus
      simp at h; subst h
      simp [Ap hk hv,Dw hk hus]
    simp at h
theorem W1 {f:FuncId} {args:Array Operand} {tys:Array TypeId} {R:Ac→Value→Prop} (vs:List SA) (vals:Array Value) (hk:Kn N e m t) (hm:Ai F h e pl rw w) (hop:o.op=.call ⟨.value (.func f),args,tys⟩) (hd:o.dst=some d) (hlt:d<N)
    (hargs:II m args.toList=some vs) (hvals:(vs.map (SA.den e)).toArray=vals) (hent:∀ args w,(callFunc f args).run P w=.ok (.enter f args) w) (hcall:Calls P f vals w (CP R h w))
    (hK:∀ v h' w',R h' v→Ac.le h h'→Ai F h' e pl rw w'→∃ sv:SV,sv.den e=v∧∀ t',Kn N e (m.put d sv) t'→K ⟨t',dd⟩ w'):o.wp P ⟨t,dd⟩ w K Q:=by
  subst hvals
  have h1:args.map (Act.mk t dd).eval=(vs.map (SA.den e)).toArray:=by
    rw [← Dw (dd:=dd) hk hargs]
    apply Array.ext'
    rw [Array.toList_map]
  unfold Oper.wp execOp
  simp only [hop,resolve,h1]
  simp only [Act.eval,Deferred.ofValue,Sem.run_bind,Sem.run_pure,Result.andThen_ok,invoke,Array.empty_append,Array.append_empty,hent,Oper.upon]
  refine hcall.mono ?_
  rintro en w' ⟨v,h',rfl,hb,hle,hn,hR⟩
  obtain⟨sv,hsv,hk'⟩:=hK v h' w' hR hle (hm.call hb hle hn)
  show K _ _
  rw [CV t dd hd,← hsv]
  exact hk' _ (hk.put hlt sv)
theorem OO {R:Ac→Value→Prop} {v:Value} (hm:Ai F h e pl rw w) (hR:R h v):CP R F.h F.w (.returned v) w:=by
  obtain⟨ow,m⟩:=hm
  refine⟨v,h,rfl,m.below,m.le,fun b o x hx=>?_,hR⟩
  rcases m.old b o x hx with h1 | h1
  · exact .inl h1
  obtain⟨q1,q2⟩:=m.has b o x hx
  exact .inr ⟨h1,q1,q2⟩
def OP (P:Program) (m:TM) (pl:List C0):ResultVar→Option SA
  | .tmp k=>match m.get k with | some (.one v)=>some v | _=>none
  | .cell a T=>match m.get a with
    | some (.one (.c (.ptr i off)))=>match pl[i]? with
      | some p=>match OF P T,FW P T with
        | some true,some n=>if ((p.cells.drop off).take n).length=n then some (.agg ((p.cells.drop off).take n)) else none
        | some false,_=>(p.cells[off]?).map .c
        | _,_=>none
      | none=>none
    | _=>none
def MJ (P:Program) (m:TM) (pl:List C0):List ResultVar→Option (List SA)
  | []=>some []
  | r::rs=>match OP P m pl r,MJ P m pl rs with
    | some v,some vs=>some (v::vs)
    | _,_=>none
def QU (P:Program) (m:TM) (pl:List C0) (rs:List ResultVar):Option SV:=match MJ P m pl rs with
  | some [v]=>some (.one v)
  | some vs=>some (.tup vs)
  | none=>none
def OQ (t:Array Value):ResultVar→Sem Value
  | .tmp k=>pure (t.getD k undef)
  | .cell a T=>do loadVar T (← asAddr (t.getD a undef))
theorem Tl (fn:Func) (t:Array Value):results fn t=(do let vs←fn.results.mapM (OQ t); pure (if h:vs.size=1 then vs[0] else .tuple vs)):=by
  unfold results
  have:(fun r=>match r with | ResultVar.tmp k=>pure (t.getD k undef) | .cell a T=>(do loadVar T (← asAddr (t.getD a undef)):Sem Value))=OQ t:=by
    funext r; cases r <;> rfl
  rw [← this]
  rfl
theorem QV (hk:Kn N e m t) (hp:Ay e pl w) {r:ResultVar} {v:SA} (hh:OP P m pl r=some v) :
    (OQ t r).run P w=.ok (v.den e) w:=by
  unfold OQ
  cases r with
  | tmp k =>
    simp only [OP] at hh
    split at hh
    · rename_i u hu
      simp at hh; subst hh
      have:=hk.get _ _ hu
      simp [Array.getD_eq_getD_getElem?,this,SV.den]
    simp at hh
  | cell a T =>
    have hq:WM P m pl (.load T (.tmp a))=some (.one v):=by
      simp only [OP] at hh
      simp only [WM,ev]
      split at hh
      · rename_i i off hu
        simp only [hu]
        split at hh
        · rename_i p hpi
          simp only [hpi]
          split at hh
          · rename_i n h1 h2
            simp only [h1,h2]
            split at hh
            · rename_i h3
              rw [if_pos h3]
              simp at hh; rw [← hh]
            simp at hh
          · rename_i h1
            simp only [h1]
            obtain⟨c,hc,rfl⟩:=Option.map_eq_some_iff.1 hh
            simp [hc]
          simp at hh
        simp at hh
      simp at hh
    have h1:=JS (o:={ (default:Oper) with op:=.load T (.tmp a) }) (d:=[]) (w:=w) hk hp hq
    unfold execOp at h1
    have hp':∃ ad,t.getD a undef=.pointer (some ad):=by
      simp only [OP] at hh
      split at hh
      · rename_i i off hu
        have:=hk.get _ _ hu
        exact⟨_,by rw [Array.getD_eq_getD_getElem?,this]; rfl⟩
      simp at hh
    obtain⟨ad,had⟩:=hp'
    simp only [Act.eval,had,Instr.loadAt,Instr.sureAddr,Sem.run_bind,Sem.run_pure,Result.andThen_ok] at h1
    simp only [had,asAddr,Sem.run_bind,Sem.run_pure,Result.andThen_ok]
    cases hl:(loadVar T ad).run P w with
    | ok a w1 =>
      rw [hl] at h1
      simp only [Result.andThen_ok,Result.ok.injEq,Next.value.injEq] at h1
      rw [h1.1,h1.2]; rfl
    | halt x w1=>rw [hl] at h1; simp at h1
theorem LM (hk:Kn N e m t) (hp:Ay e pl w):∀ {rs:List ResultVar} {vs:List SA},MJ P m pl rs=some vs →
    (rs.mapM (OQ t)).run P w=.ok (vs.map (SA.den e)) w
  | [],vs,h=>by simp [MJ] at h; subst h; rfl
  | r::rs,vs,h=>by
    unfold MJ at h
    split at h
    · rename_i v us hv hus
      simp at h; subst h
      rw [List.mapM_cons]
      have h1:=QV (w:=w) hk hp hv
      have h2:=LM hk hp hus
      simp only [Sem.run_bind,h1,Result.andThen_ok,h2,Sem.run_pure,List.map_cons]
    simp at h
theorem Ix {fn:Func} {v:SV} (hk:Kn N e m t) (hp:Ay e pl w) (hh:QU P m pl fn.results.toList=some v):(results fn t).run P w=.ok (v.den e) w:=by
  unfold QU at hh
  have key:∀ vs,MJ P m pl fn.results.toList=some vs→(results fn t).run P w=.ok (if h:(vs.map (SA.den e)).toArray.size=1 then(vs.map (SA.den e)).toArray[0] else .tuple (vs.map (SA.den e)).toArray) w:=by
    intro vs hvs
    have h1:=LM (w:=w) hk hp hvs
    rw [Tl,← Array.toArray_toList (xs:=fn.results),List.mapM_toArray]
    simp only [Sem.run_bind,Sem.run_map,h1,Result.andThen_ok,Sem.run_pure]
  split at hh
  · rename_i u hu
    simp at hh; subst hh
    rw [key _ hu]
    simp [SV.den]
  · rename_i vs hne hvs
    simp at hh; subst hh
    rw [key _ hvs]
    have hn1:(vs.map (SA.den e)).toArray.size≠1:=by
      intro h1
      cases vs with
      | nil=>simp at h1
      | cons x r =>
        cases r with
        | nil=>exact hne x rfl
        | cons y r=>simp at h1
    rw [dif_neg hn1]
    rfl
  simp at hh
theorem Xs {fn:Func} {R:Ac→Value→Prop} (sv:SV) (hk:Kn N e m t) (hm:Ai F h e pl rw w) (hr:QU P m pl fn.results.toList=some sv) (hR:R h (sv.den e)) :
    bodyPost P fn (CP R F.h F.w) .ret ⟨t,[]⟩ w:=⟨rfl,_,Ix hk hm.plOk hr,OO hm hR⟩
def N4 (k:Nat):List SA→TM
  | []=>[]
  | v::r=>(k,.one v)::N4 (k+1) r
theorem JU (e:AJ):∀ (vs:List SA)(k j:Nat)(v:SV),(N4 k vs).get j=some v→∃ i,j=k+i∧(vs.map (SA.den e))[i]? = some (v.den e)
  | [],k,j,v,h=>by simp [N4,TM.get] at h
  | x::r,k,j,v,h=>by
    unfold N4 TM.get at h
    cases hb:Nat.beq k j with
    | true =>
      rw [hb] at h
      have:k=j:=Nat.eq_of_beq_eq_true hb
      subst this
      simp at h; subst h
      exact⟨0,rfl,by simp [SV.den]⟩
    | false =>
      rw [hb] at h
      obtain⟨i,h1,h2⟩:=JU e r (k+1) j v h
      exact⟨i+1,by omega,by simpa using h2⟩
theorem enter {f:FuncId} {fn:Func} {c:Code} {R:Ending→World→Prop} {vals:Array Value} (N:Nat) (vs:List SA) (hf:P.funcs[f]? = some fn) (hb:fn.body=some c) (hN:fn.ntmps=N) (hn:decide (vs.length≤N)=true) (hv:(vs.map (SA.den [])).toArray=vals)
    (H:∀ t,Kn N [] (N4 0 vs) t→c.wp P (bodyPost P fn R) ⟨t,[]⟩ w):Calls P f vals w R:=by
  subst hv
  have hn:vs.length≤N:=by simpa using hn
  refine calls_of_wp hf hb (H _ ⟨by simp [hN]; omega,fun k v hk=>?_⟩)
  obtain⟨i,h1,h2⟩:=JU [] vs 0 k v hk
  obtain rfl:k=i:=by omega
  have hlt:k<(vs.map (SA.den [])).length:=by
    rcases Nat.lt_or_ge k (vs.map (SA.den [])).length with h' | h'
    · exact h'
    rw [List.getElem?_eq_none h'] at h2; cases h2
  rw [Array.getElem?_append_left (by simpa using hlt)]
  simpa using h2
end
open Go Go.RowKit
section
variable {P:Program} (w:World)
theorem KH (ad:Addr) (j:Nat) (h:ad.spot=none):ad.add j=⟨ad.block,ad.off+j,none⟩:=by
  unfold Addr.add
  split
  · subst_vars; cases ad; simp at h; subst h; simp
  rfl
theorem Jr (base:Nat) (t ty:TypeId) (e:TypeId) (i:TypeInfo) (z:Value) (size bytes:Nat) (ht:P.underlying t=some (.slice e)) (hi:P.info? e=some i) (hz:i.zero=some z)
    (hsize:i.size=size) (hby:i.bytes=bytes) (hzs:z.cells.size=size) (hsz:0<size)
    (a0:Option Addr) (c0:Nat) (n:Nat) (xs:List Value) (hown:w.ownsRow base e size (.slice a0 n c0) n xs)
    (a:Option Addr) (m c:Nat) (news:List Value) (hl:news.length=m*size) (hnews:∀ j u,news[j]? = some u→∃ ad,a=some ad∧w.cell? (ad.add j)=some u) (h1:∀ u∈news,u.oneCell' = true)
    (h63:n+m≤maxLen) (hbytes:(n+m)*bytes≤140737488355328) (hbase:base≤w.heap.size) :
    ∃ a' c' w',(Builtin.append_ #[t,t] ty #[.slice a0 n c0,.slice a m c]).run P w=.ok (.slice a' (n+m) c') w'∧w'.ownsRow base e size (.slice a' (n+m) c') (n+m) (xs++news) ∧
      ((a' = a0∧w.grownBy w' (a0.map (·.block)))∨(∃ g,a' = some ⟨g,0,none⟩∧w.heap.size≤g∧g<w'.heap.size∧w.grownBy w' none)):=by
  cases a with
  | none =>
    have hn:news=[]:=by
      cases news with
      | nil=>rfl
      | cons x r=>obtain⟨ad,h,_⟩:=hnews 0 x rfl; cases h
    subst hn
    have hm:m=0:=by
      rcases Nat.eq_zero_or_pos m with h | h
      · exact h
      have:=Nat.mul_pos h hsz; simp at hl; omega
    subst hm
    have hroom:n≤c0:=by
      rcases hown.2 with⟨h,_⟩ | ⟨g,cap,cur,h,_,_,hnc,_⟩
      · simp at h; omega
      simp at h; omega
    refine⟨a0,c0,w,?_,by simpa using hown,.inl ⟨rfl,⟨rfl,rfl,rfl,Nat.le_refl _,fun _ _ _=>rfl⟩⟩⟩
    cases a0 <;> simp [Builtin.append_,run_underlying ht,sizeOf,typeInfo,hi,Builtin.lenOf,hroom,Builtin.firstCells,storeCells]
  | some ad =>
    have hnews:∀ j u,news[j]? = some u→w.cell? (ad.add j)=some u:=fun j u hu=>by
      obtain⟨ad',h,h'⟩:=hnews j u hu; cases h; exact h'
    subst hsize
    subst hby
    have hsmall:n+m≤9223372036854775807:=by simp only [maxLen] at h63; omega
    have hlen:(xs++news).length=(n+m)*i.size:=by rw [List.length_append,hown.1,hl,Nat.add_mul]
    have grown:∀ (old:Nat),old<n+m →
        (w.drew.alloc (.cells (xs.toArray++news.toArray++Builtin.zeroCells z.cells (grownCap w (n+m) old e-(n+m))) e)).ownsRow base e i.size
          (.slice (some ⟨w.heap.size,0,none⟩) (n+m) (grownCap w (n+m) old e)) (n+m) (xs++news) ∧
        w.grownBy (w.drew.alloc (.cells (xs.toArray++news.toArray++Builtin.zeroCells z.cells (grownCap w (n+m) old e-(n+m))) e)) none:=by
      intro old ho
      have hge:=grownCap_ge w (n+m) old e
      have hcm:grownCap w (n+m) old e≤maxLen:=grownCap_le_maxLen w (n+m) old e h63
      refine⟨⟨hlen,.inr ⟨w.heap.size,_,_,rfl,hbase,heap_alloc_new w.drew _,hge,hcm,?_,?_⟩⟩,⟨rfl,rfl,rfl,by simp,fun k hk _=>Go.heap_alloc_old w.drew _ hk⟩⟩
      · simp only [Array.size_append,List.size_toArray,size_zeroCells,hzs,hown.1,hl,← Nat.add_mul]
        congr 1
        omega
      simp only [Array.toList_append,List.append_assoc]
      rw [← List.append_assoc,← hlen]
      exact List.take_left
    rcases hown.2 with⟨hv,rfl⟩ | ⟨g,cap,cur,hv,hbg,hg,hnc,hcm,hcs,htake⟩
    · simp only [Value.slice.injEq] at hv
      obtain⟨rfl,_,rfl⟩:=hv
      have hx:xs=[]:=List.eq_nil_of_length_eq_zero (by simpa using hown.1)
      subst hx
      by_cases hm:m=0
      · subst hm
        have hn:news=[]:=List.eq_nil_of_length_eq_zero (by simpa using hl)
        subst hn
        refine⟨none,0,w,?_,World.ownsRow_nil w base e i.size,.inl ⟨rfl,⟨rfl,rfl,rfl,Nat.le_refl _,fun _ _ _=>rfl⟩⟩⟩
        simp [Builtin.append_,run_underlying ht,sizeOf,typeInfo,hi,Builtin.lenOf,Builtin.firstCells,loadCells,loadCellsFrom]
      have hr:=run_append_nil (P:=P) w t ty e i z ht hi hz ad m c news hl hnews (by omega) (by omega) (by have hb:=hbytes; simp only [Nat.zero_add] at hb; omega)
      have hgr:=grown 0 (by omega)
      simp only [Nat.zero_add,List.nil_append,Array.empty_append] at hgr ⊢
      exact⟨_,_,_,hr,hgr.1,.inr ⟨_,rfl,Nat.le_refl _,by simp,hgr.2⟩⟩
    simp only [Value.slice.injEq,true_and] at hv
    obtain⟨rfl,rfl⟩:=hv
    by_cases hroom:n+m≤c0
    · have hfit:n*i.size+news.length≤cur.size:=by rw [hl,hcs,← Nat.add_mul]; exact Nat.mul_le_mul_right _ hroom
      have hr:=run_append_room (P:=P) w t ty e i ht hi g n c0 cur hg ad m c news hl hnews h1 hroom hfit
      refine⟨_,_,_,hr,⟨hlen,.inr ⟨g,c0,_,rfl,hbg,setRow_heap w g cur _ e _ hg,hroom,hcm,?_,?_⟩⟩,.inl ⟨rfl,⟨rfl,rfl,rfl,by simp,fun k _ hk=>setRow_other w g k _ (fun e=>hk (by simp [e]))⟩⟩⟩
      · simp only [List.size_toArray,List.length_append,List.length_take,List.length_drop,Array.length_toList]
        omega
      rw [htake,← hlen]
      exact List.take_left
    have lH:∀ j u,xs[j]? = some u→w.cell? ((⟨g,0,none⟩:Addr).add j)=some u:=hown.cells (g:=g) rfl
    have hr:=run_append_grow (P:=P) w t ty e i z ht hi hz ⟨g,0,none⟩ n c0 xs hown.1 lH ad m c news hl hnews (by omega) (by omega) (growslice_fits (by omega) hbytes)
    have hgr:=grown c0 (by omega)
    exact⟨_,_,_,hr,hgr.1,.inr ⟨_,rfl,Nat.le_refl _,by simp,hgr.2⟩⟩
end
section
variable {P:Program} {N:Nat} {F:Fr} {h:Ac} {e:AJ} {pl:List C0} {rw:List Ca} {m:TM} {t:Array Value} {dd:List Deferred} {w w':World}
  {o:Oper} {K:Act→World→Prop} {Q:Exit→Act→World→Prop} {d:Nat}
theorem Sj {base:Nat} {r:Ca} (h:w.ownsRow base r.E r.sz (.slice r.a r.n r.c) r.n r.xs) (ha:r.a=none):r.xs=[]∧r.n=0:=by
  rcases h.2 with⟨_,h0⟩ | ⟨g,cap,cur,hv,_⟩
  · refine⟨List.eq_nil_of_length_eq_zero (by rw [h.1,h0]; simp),h0⟩
  rw [ha] at hv; simp at hv
theorem LN {base:Nat} {r:Ca} {ad:Addr} (h:w.ownsRow base r.E r.sz (.slice r.a r.n r.c) r.n r.xs) (ha:r.a=some ad):ad.off=0∧ad.spot=none∧base≤ad.block∧ad.block<w.heap.size ∧
    ∀ j,j<r.xs.length→w.cell? ⟨ad.block,j,none⟩=r.xs[j]?:=by
  have hh:=h
  rcases h.2 with⟨hv,_⟩ | ⟨g,cap,cur,hv,hb,hg,_⟩
  · rw [ha] at hv; simp at hv
  rw [ha] at hv
  simp only [Value.slice.injEq,Option.some.injEq,true_and] at hv
  obtain⟨rfl,_⟩:=hv
  refine⟨rfl,rfl,hb,(Array.getElem?_eq_some_iff.1 hg).1,fun j hj=>?_⟩
  rw [ha] at hh
  exact hh.cellAt j (by rw [← hh.1]; exact hj)
theorem Ai.row (hm:Ai F h e pl rw w) {i:Nat} {r:Ca} (hi:rw[i]? = some r):w.ownsRow F.w.heap.size r.E r.sz (.slice r.a r.n r.c) r.n r.xs:=let ⟨_,m⟩:=hm; (m.rws i r hi).own
theorem Ai.rowCell (hm:Ai F h e pl rw w) {i:Nat} {r:Ca} (hi:rw[i]? = some r):∀ j u,r.xs[j]? = some u→∃ ad,r.a=some ad∧ad.spot=none∧w.cell? ⟨ad.block,ad.off+j,none⟩=some u:=by
  intro j u hu
  have hown:=hm.row hi
  cases ha:r.a with
  | none=>rw [(Sj hown ha).1] at hu; simp at hu
  | some ad =>
    obtain⟨h1,h2,_,_,h5⟩:=LN hown ha
    refine⟨ad,rfl,h2,?_⟩
    rw [h1,Nat.zero_add,h5 j,hu]
    rcases Nat.lt_or_ge j r.xs.length with h' | h'
    · exact h'
    rw [List.getElem?_eq_none h'] at hu; cases hu
theorem Ai.nilRow (E:TypeId) (sz:Nat) (hm:Ai F h e pl rw w):Ai F h e pl (rw++[⟨none,0,0,E,sz,[],0⟩]) w:=by
  obtain⟨ow,m⟩:=hm
  refine⟨ow,m.below,m.le,m.old,m.has,m.ows,m.hown,m.pls,fun i r hr=>?_,m.ext⟩
  rcases D0 hr with⟨_,hr⟩ | ⟨_,rfl⟩
  · exact m.rws i r hr
  exact⟨World.ownsRow_nil _ _ _ _,Nat.le_refl _,fun ad ha=>(by cases ha),fun v hv=>by simp at hv⟩
theorem Ai.newRow {r:Ca} {b:Nat} (hm:Ai F h e pl rw w) (hg:w.grownBy w' none) (hb:w.heap.size≤b) (hb':b<w'.heap.size) (ha:r.a=some ⟨b,0,none⟩)
    (hown:w'.ownsRow F.w.heap.size r.E r.sz (.slice r.a r.n r.c) r.n r.xs) (hf:r.frz=0) (h1:∀ v∈r.xs,GW v=false):Ai F h e pl (rw++[r]) w':=by
  obtain⟨ow,m⟩:=hm
  have m':=m.grow hg
  have hn:ow b=none:=by
    cases hx:ow b with
    | none=>rfl
    | some x=>have:=(m.ows b x hx).2; omega
  have hhn:∀ o,h b o=none:=fun o=>by
    cases hx:h b o with
    | none=>rfl
    | some x=>have:=(m.has b o x hx).1; omega
  refine⟨fun k=>if k=b then some (.inr rw.length) else ow k,m'.below,m'.le,m'.old,m'.has,?_,?_,?_,?_,fun k x hx=>?_⟩
  · intro k x hk
    by_cases hkb:k=b
    · subst hkb; exact⟨Nat.le_trans m.below.size hb,hb'⟩
    simp only [hkb,if_false] at hk; exact m'.ows k x hk
  · intro k o x i hk hi
    by_cases hkb:k=b
    · subst hkb; rw [hhn o] at hk; cases hk
    simp only [hkb,if_false] at hi; exact m.hown k o x i hk hi
  · intro i p hp
    have:=m'.pls i p hp
    unfold Cq at this ⊢
    split at this
    · obtain⟨q1,q2⟩:=this
      refine⟨?_,q2⟩
      by_cases hkb:(AJ.blk e i).1=b
      · rw [hkb,hn] at q1; cases q1
      simp only [hkb,if_false]; exact q1
    exact this
  · intro i s hs
    rcases D0 hs with⟨hi,hs⟩ | ⟨hi,rfl⟩
    · obtain⟨q1,q2,q3,q9⟩:=m'.rws i s hs
      refine⟨q1,q2,fun ad had=>?_,q9⟩
      obtain⟨q4,q5⟩:=q3 ad had
      refine⟨?_,q5⟩
      by_cases hkb:ad.block=b
      · rw [hkb,hn] at q4; cases q4
      simp only [hkb,if_false]; exact q4
    refine⟨hown,by omega,fun ad had=>?_,h1⟩
    rw [ha] at had
    cases had
    exact⟨by simp [hi],fun o _=>hhn o,fun o ho=>by omega⟩
  obtain⟨h1,h2,h3,h4,h5⟩:=m'.ext k x hx
  have hkb:k≠b:=fun hkb=>by have:=(m.ext k x hx).2.1; omega
  exact⟨h1,h2,h3,by simp only [hkb,if_false]; exact h4,h5⟩
theorem Ai.setRow {i:Nat} {r r':Ca} (hm:Ai F h e pl rw w) (hi:rw[i]? = some r) (hown:w'.ownsRow F.w.heap.size r'.E r'.sz (.slice r'.a r'.n r'.c) r'.n r'.xs)
    (hx:∀ o,o<r.frz→r'.xs[o]? = r.xs[o]?) (hone:∀ v∈r'.xs,GW v=false)
    (hc:(r'.a=r.a∧r'.frz=r.frz∧w.grownBy w' (r.a.map (·.block)))∨(∃ g,r'.a=some ⟨g,0,none⟩∧r'.frz=0∧w.heap.size≤g∧g<w'.heap.size∧w.grownBy w' none)):Ai F h e pl (rw.set i r') w':=by
  have hlt:i<rw.length:=by
    rcases Nat.lt_or_ge i rw.length with h' | h'
    · exact h'
    rw [List.getElem?_eq_none h'] at hi; cases hi
  rcases hc with⟨ha,hf,hg⟩ | ⟨g,ha,hf,hg1,hg2,hg⟩
  · obtain⟨ow,m⟩:=hm
    have hr:=m.rws i r hi
    have hblk:∀ b,b<w.heap.size→ow b≠some (.inr i)→w'.heap[b]? = w.heap[b]?:=fun b hb hne=>hg.block b hb (by
      cases har:r.a with
      | none=>simp
      | some ad=>simp; intro hbe; exact hne (by rw [hbe]; exact(hr.blk ad har).1))
    refine⟨ow,m.below.trans ⟨hg.os,hg.tape,hg.output,hg.size,fun k hk=>hblk k (Nat.lt_of_lt_of_le hk m.below.size) (fun hk'=>by have:=(m.ows _ _ hk').1; omega)⟩,m.le,m.old,?_,?_,m.hown,?_,?_,fun b x hbx=>?_⟩
    · intro b o v hv
      obtain⟨q1,q2⟩:=m.has b o v hv
      refine⟨Nat.lt_of_lt_of_le q1 hg.size,?_⟩
      by_cases hob:ow b=some (.inr i)
      · -- the row's own block
        cases har:r.a with
        | none =>
          have:w'.heap[b]? = w.heap[b]?:=hg.block b q1 (by simp [har])
          rw [EB this]; exact q2
        | some ad =>
          by_cases hbb:b=ad.block
          · subst hbb
            obtain⟨_,q5,q6⟩:=hr.blk ad har
            have ho:o<r.frz:=by
              rcases Nat.lt_or_ge o r.frz with h' | h'
              · exact h'
              rw [q5 o h'] at hv; cases hv
            obtain⟨_,_,_,_,q7⟩:=LN hown (by rw [ha]; exact har)
            have h3:r'.xs[o]? = some v:=by rw [hx o ho,← q6 o ho]; exact hv
            refine JT ?_ (hone _ (List.mem_of_getElem? h3))
            rw [q7 o,h3]
            rcases Nat.lt_or_ge o r'.xs.length with h' | h'
            · exact h'
            rw [List.getElem?_eq_none h'] at h3; cases h3
          have:w'.heap[b]? = w.heap[b]?:=hg.block b q1 (by simp [har]; exact hbb)
          rw [EB this]; exact q2
      rw [EB (hblk b q1 hob)]; exact q2
    · intro b x hbx
      have:=m.ows b x hbx
      exact⟨this.1,Nat.lt_of_lt_of_le this.2 hg.size⟩
    · intro j p hp
      have:=m.pls j p hp
      unfold Cq at this ⊢
      split at this
      · obtain⟨q1,q2,q3,q4⟩:=this
        exact⟨q1,q2,by rw [hblk _ (m.ows _ _ q1).2 (by rw [q1]; simp)]; exact q3,q4⟩
      exact this
    · intro j s hs
      by_cases hji:j=i
      · subst hji
        rw [List.getElem?_set_self hlt] at hs
        cases hs
        refine⟨hown,?_,fun ad had=>?_,hone⟩
        · rw [hf]
          rcases Nat.eq_zero_or_pos r.frz with h0 | h0
          · omega
          have h1:=hr.frz
          have h2:=hx (r.frz-1) (by omega)
          have h4:r.xs[r.frz-1]? = some (r.xs[r.frz-1]'(by omega)):=List.getElem?_eq_getElem _
          rw [h4] at h2
          have h3:r.frz-1<r'.xs.length:=by
            rcases Nat.lt_or_ge (r.frz-1) r'.xs.length with h' | h'
            · exact h'
            rw [List.getElem?_eq_none h'] at h2; cases h2
          omega
        rw [ha] at had
        obtain⟨q4,q5,q6⟩:=hr.blk ad had
        rw [hf]
        exact⟨q4,q5,fun o ho=>by rw [q6 o ho,hx o ho]⟩
      rw [List.getElem?_set_ne (Ne.symm hji)] at hs
      obtain⟨q1,q2,q3,q9⟩:=m.rws j s hs
      refine⟨q1.kept hg ?_,q2,q3,q9⟩
      cases hsa:s.a with
      | none=>left; simp [Value.ownBlock]
      | some ad =>
        right
        simp only [Value.ownBlock]
        intro hbe
        cases har:r.a with
        | none=>rw [har] at hbe; simp at hbe
        | some ad' =>
          rw [har] at hbe
          simp at hbe
          have h1:=(q3 ad hsa).1
          have h2:=(hr.blk ad' har).1
          rw [hbe,h2] at h1
          simp at h1
          exact hji h1.symm
    obtain⟨h1,h2,h3,h4,h5⟩:=m.ext b x hbx
    exact⟨h1,Nat.lt_of_lt_of_le h2 hg.size,by rw [hblk b h2 (by rw [h4]; simp)]; exact h3,h4,h5⟩
  have hm2:=hm.newRow (r:=r') hg hg1 hg2 ha hown hf hone
  obtain⟨ow,m⟩:=hm2
  -- the same rows,the new one at place i
  refine⟨fun k=>if k=g then some (.inr i) else ow k,m.below,m.le,m.old,m.has,?_,?_,?_,?_,fun k x hx=>?_⟩
  · intro k x hk
    by_cases hkb:k=g
    · subst hkb; exact⟨Nat.le_trans hm.below.size hg1,hg2⟩
    simp only [hkb,if_false] at hk; exact m.ows k x hk
  · intro k o' x j hk hj
    by_cases hkb:k=g
    · subst hkb; simp at hj
    simp only [hkb,if_false] at hj; exact m.hown k o' x j hk hj
  · intro j p hp
    have:=m.pls j p hp
    unfold Cq at this ⊢
    split at this
    · obtain⟨q1,q2⟩:=this
      refine⟨?_,q2⟩
      by_cases hkb:(AJ.blk e j).1=g
      · have:=(m.rws rw.length r' (by simp)).blk _ ha
        simp only at this
        rw [hkb,this.1] at q1; simp at q1
      simp only [hkb,if_false]; exact q1
    exact this
  · intro j s hs
    have hg3:=(m.rws rw.length r' (by simp)).blk _ ha
    by_cases hji:j=i
    · subst hji
      rw [List.getElem?_set_self hlt] at hs
      cases hs
      refine⟨hown,by omega,fun ad had=>?_,hone⟩
      rw [ha] at had
      cases had
      exact⟨by simp,fun o' ho'=>hg3.2.1 o' (by omega),fun o' ho'=>by omega⟩
    rw [List.getElem?_set_ne (Ne.symm hji)] at hs
    have hjl:j<rw.length:=by
      rcases Nat.lt_or_ge j rw.length with h' | h'
      · exact h'
      rw [List.getElem?_eq_none h'] at hs; cases hs
    obtain⟨q1,q2,q3,q9⟩:=m.rws j s (by rw [List.getElem?_append_left hjl]; exact hs)
    refine⟨q1,q2,fun ad had=>?_,q9⟩
    obtain⟨q4,q5⟩:=q3 ad had
    refine⟨?_,q5⟩
    by_cases hkb:ad.block=g
    · rw [hkb,hg3.1] at q4
      simp at q4
      omega
    simp only [hkb,if_false]; exact q4
  obtain⟨h1,h2,h3,h4,h5⟩:=m.ext k x hx
  have hg3:=(m.rws rw.length r' (by simp)).blk _ ha
  have hkb:k≠g:=fun hkb=>by rw [hkb] at h4; simp only at hg3; rw [hg3.1] at h4; cases h4
  exact⟨h1,h2,h3,by simp only [hkb,if_false]; exact h4,h5⟩
def Hv (h:Ac) (a:Option Addr) (xs:List Value):Prop:=∀ o x,xs[o]? = some x→∃ ad,a=some ad∧ad.spot=none∧h ad.block (ad.off+o)=some x
theorem Hv.mono {h h':Ac} {a:Option Addr} {xs:List Value} (hs:Hv h a xs) (hle:Ac.le h h'):Hv h' a xs:=fun o x hx=>by
  obtain⟨ad,h1,h2,h3⟩:=hs o x hx
  exact⟨ad,h1,h2,hle _ _ _ h3⟩
theorem Ai.settle (hm:Ai F h e pl rw w) {i:Nat} {r:Ca} (hi:rw[i]? = some r) :
    ∃ h',Ac.le h h'∧Hv h' r.a r.xs∧Ai F h' e pl (rw.set i { r with frz:=r.xs.length }) w:=by
  have hlt:i<rw.length:=by
    rcases Nat.lt_or_ge i rw.length with h' | h'
    · exact h'
    rw [List.getElem?_eq_none h'] at hi; cases hi
  have hown:=hm.row hi
  obtain ha | ⟨ad,ha⟩:r.a=none∨∃ ad,r.a=some ad:=by cases r.a <;> simp
  · have hx:=(Sj hown ha).1
    refine⟨h,Ac.le_refl _,fun o x hxo=>by rw [hx] at hxo; simp at hxo,?_⟩
    have hf:r.frz=r.xs.length:=by
      obtain⟨ow,m⟩:=hm
      have:=(m.rws i r hi).frz
      rw [hx] at this ⊢
      simpa using this
    have:rw.set i { r with frz:=r.xs.length }=rw:=by
      apply List.ext_getElem?
      intro j
      by_cases hj:j=i
      · subst hj
        rw [List.getElem?_set_self hlt,hi]
        congr 1
        cases r; simp at hf ⊢; exact hf.symm
      rw [List.getElem?_set_ne (Ne.symm hj)]
    rw [this]
    exact hm
  obtain⟨s1,s2,s3,s4,s5⟩:=LN hown ha
  obtain⟨ow,m⟩:=hm
  have hr:=m.rws i r hi
  obtain⟨q4,q5,q6⟩:=hr.blk ad ha
  refine⟨fun b o=>if b=ad.block then(if o<r.frz then h b o else r.xs[o]?) else h b o,?_,?_,⟨ow,m.below,?_,?_,?_,m.ows,?_,?_,?_,fun k x hx=>?_⟩⟩
  · intro b o v hv
    by_cases hb:b=ad.block
    · subst hb
      simp only [if_true]
      by_cases ho:o<r.frz
      · simp only [ho,if_true]; exact hv
      rw [q5 o (by omega)] at hv; cases hv
    simp only [hb,if_false]; exact hv
  · intro o x hx
    refine⟨ad,ha,s2,?_⟩
    simp only [if_true,s1,Nat.zero_add]
    by_cases ho:o<r.frz
    · simp only [ho,if_true]; rw [q6 o ho]; exact hx
    simp only [ho,if_false]; exact hx
  · refine Ac.le_trans m.le ?_
    intro b o v hv
    by_cases hb:b=ad.block
    · subst hb
      simp only [if_true]
      by_cases ho:o<r.frz
      · simp only [ho,if_true]; exact hv
      rw [q5 o (by omega)] at hv; cases hv
    simp only [hb,if_false]; exact hv
  · intro b o x hx
    by_cases hb:b=ad.block
    · subst hb; exact .inr s3
    simp only [hb,if_false] at hx; exact m.old b o x hx
  · intro b o v hv
    by_cases hb:b=ad.block
    · subst hb
      simp only [if_true] at hv
      by_cases ho:o<r.frz
      · simp only [ho,if_true] at hv; exact m.has _ _ _ hv
      simp only [ho,if_false] at hv
      refine⟨s4,JT ?_ (hr.one _ (List.mem_of_getElem? hv))⟩
      rw [s5 o,hv]
      rcases Nat.lt_or_ge o r.xs.length with h' | h'
      · exact h'
      rw [List.getElem?_eq_none h'] at hv; cases hv
    simp only [hb,if_false] at hv; exact m.has b o v hv
  · intro b o x j hv hj
    by_cases hb:b=ad.block
    · subst hb; rw [q4] at hj; simp at hj
    simp only [hb,if_false] at hv; exact m.hown b o x j hv hj
  · intro j p hp
    have:=m.pls j p hp
    unfold Cq at this ⊢
    split at this
    · obtain⟨t1,t2,t3,t4⟩:=this
      refine⟨t1,t2,t3,fun o=>?_⟩
      have hb:(AJ.blk e j).1≠ad.block:=fun hb=>by rw [hb,q4] at t1; simp at t1
      simp only [hb,if_false]; exact t4 o
    intro k c hc
    have hk:=this k c hc
    by_cases hb:(AJ.blk e j).1=ad.block
    · simp only [hb,if_true]
      rw [hb] at hk
      by_cases ho:(AJ.blk e j).2+k<r.frz
      · simp only [ho,if_true]; exact hk
      rw [q5 _ (by omega)] at hk; cases hk
    simp only [hb,if_false]; exact hk
  · intro j s hs
    by_cases hji:j=i
    · subst hji
      rw [List.getElem?_set_self hlt] at hs
      cases hs
      refine⟨hown,Nat.le_refl _,fun ad' had=>?_,hr.one⟩
      simp only at had
      rw [ha] at had
      cases had
      refine⟨q4,fun o ho=>?_,fun o ho=>?_⟩
      · simp only at ho
        simp only [if_true]
        have : ¬ o<r.frz:=by have:=hr.frz; omega
        simp only [this,if_false]
        exact List.getElem?_eq_none ho
      simp only [if_true]
      by_cases ho':o<r.frz
      · simp only [ho',if_true]; exact q6 o ho'
      simp only [ho',if_false]
    rw [List.getElem?_set_ne (Ne.symm hji)] at hs
    obtain⟨t1,t2,t3,t9⟩:=m.rws j s hs
    refine⟨t1,t2,fun ad' had=>?_,t9⟩
    obtain⟨t4,t5,t6⟩:=t3 ad' had
    have hb:ad'.block≠ad.block:=fun hb=>by rw [hb,q4] at t4; simp at t4; exact hji t4.symm
    simp only [hb,if_false]
    exact⟨t4,t5,t6⟩
  obtain⟨h1,h2,h3,h4,h5⟩:=m.ext k x hx
  have hb:k≠ad.block:=fun hb=>by rw [hb,q4] at h4; cases h4
  exact⟨h1,h2,h3,h4,h5.same fun o=>by simp only [hb,if_false]⟩
end
open Go Go.RowKit
section
variable {P:Program} {N:Nat} {F:Fr} {h:Ac} {e:AJ} {pl:List C0} {rw:List Ca} {m:TM} {t:Array Value} {dd:List Deferred} {w w':World}
  {o:Oper} {K:Act→World→Prop} {Q:Exit→Act→World→Prop} {d:Nat} {ops:Array Oper} {X:List Nat}
def JV (P:Program) (E:TypeId) (sz bytes:Nat):Bool:=match P.info? E with
  | some i=>match i.zero with
    | some z=>i.size == sz && i.bytes == bytes && z.cells.size == sz && decide (0<sz)
    | none=>false
  | none=>false
theorem F6 {E:TypeId} {sz bytes:Nat} (hh:JV P E sz bytes=true):∃ i z,P.info? E=some i∧i.zero=some z∧i.size=sz∧i.bytes=bytes∧z.cells.size=sz∧0<sz:=by
  unfold JV at hh
  split at hh
  · rename_i i hi
    split at hh
    · rename_i z hz
      simp only [Bool.and_eq_true,beq_iff_eq,decide_eq_true_eq] at hh
      obtain⟨⟨⟨h1,h2⟩,h3⟩,h4⟩:=hh
      exact⟨i,z,hi,hz,h1,h2,h3,h4⟩
    cases hh
  cases hh
theorem AS {T:TypeId} {s x:Operand} {r:Ca} (i:Nat) (bytes k c2:Nat) (n':Nat) (a2:Option Addr) (news:List Value) (hk:Kn N e m t) (hm:Ai F h e pl rw w) (hop:o.op=.call ⟨.builtin .append,#[s,x],#[T,T]⟩) (hd:o.dst=some d) (hlt:d<N)
    (hi:rw[i]? = some r) (hT:P.underlying T=some (.slice r.E)) (hE:JV P r.E r.sz bytes=true) (hs:DR m s=some (.c (.slice r.a r.n r.c))) (hx:DR m x=some (.c (.slice a2 k c2)))
    (hl:news.length=k*r.sz) (hnews:∀ j u,news[j]? = some u→∃ ad,a2=some ad∧ad.spot=none∧w.cell? ⟨ad.block,ad.off+j,none⟩=some u) (h1:∀ u∈news,u.oneCell' = true)
    (hn':r.n+k=n') (hb:n'≤1000000000) (hby:decide (bytes≤10000)=true)
    (hK:∀ a' c' f' t' w',f'≤r.frz→Kn N e (m.put d (.one (.c (.slice a' n' c')))) t'→Ai F h e pl (rw.set i ⟨a',n',c',r.E,r.sz,r.xs++news,f'⟩) w'→K ⟨t',dd⟩ w'):o.wp P ⟨t,dd⟩ w K Q:=by
  subst hn'
  obtain⟨ii,z,e1,e2,e3,e4,e5,e6⟩:=F6 hE
  have hby:bytes≤10000:=by simpa using hby
  have hown:=hm.row hi
  have hmul:(r.n+k)*bytes≤1000000000*10000:=Nat.mul_le_mul hb hby
  obtain⟨a',c',w',hr,hown',hc⟩:=Jr (P:=P) w F.w.heap.size T o.type r.E ii z r.sz bytes hT e1 e2 e3 e4 e5 e6 r.a r.c r.n r.xs hown a2 k c2 news hl
    (fun j u hu=>by obtain⟨ad,q1,q2,q3⟩:=hnews j u hu; exact⟨ad,q1,by rw [KH ad j q2]; exact q3⟩) h1 (by unfold maxLen; omega) (by omega) hm.size
  unfold Oper.wp execOp
  have hse:=Ap (d:=dd) hk hs
  have hxe:=Ap (d:=dd) hk hx
  simp only [SA.den,SC.den] at hse hxe
  simp only [hop,resolve,invoke,builtin,Sem.run_bind,Sem.run_pure,Result.andThen_ok,List.map_toArray,List.map_cons,List.map_nil,hse,hxe,hr]
  show K _ _
  rw [CV t dd hd]
  have hkn:Kn N e (m.put d (.one (.c (.slice a' (r.n+k) c')))) (t.setIfInBounds d (.slice a' (r.n+k) c')):=hk.put hlt (.one (.c (.slice a' (r.n+k) c')))
  have hfr:r.frz≤r.xs.length:=by obtain⟨_,mm⟩:=hm; exact(mm.rws i r hi).frz
  have hone:∀ v∈r.xs++news,GW v=false:=fun v hv=>(List.mem_append.1 hv).elim (fun hv=>by obtain⟨_,mm⟩:=hm; exact(mm.rws i r hi).one v hv) (fun hv=>F5 (h1 v hv))
  rcases hc with⟨ha,hg⟩ | ⟨g,ha,hg1,hg2,hg⟩
  · refine hK a' c' r.frz _ _ (Nat.le_refl _) hkn (hm.setRow hi hown' (fun o ho=>?_) hone (.inl ⟨ha,rfl,hg⟩))
    exact List.getElem?_append_left (by omega)
  refine hK a' c' 0 _ _ (Nat.zero_le _) hkn (hm.setRow hi hown' (fun o ho=>?_) hone (.inr ⟨g,ha,rfl,hg1,hg2,hg⟩))
  exact List.getElem?_append_left (by omega)
def Iy (P:Program) (m:TM) (T:TypeId) (len:Nat) (parts:List (Nat×Operand)):Option (List SC) :=
  match P.underlying T with
  | some (.slice E)=>match FW P E,Jh P E,Gf m parts with
    | some sz,some z,some vs=>if len*sz≤16777216∧z.length=sz∧0<sz then OG (fun i=>some (i*sz,sz)) ((List.range (len*sz)).map fun i=>z.getD (i % z.length) (.bool false)) vs else none
    | _,_,_=>none
  | _=>none
theorem V7 (e:AJ) (z:List SC) (zv:Array Value) (hz:zv=(z.map (SC.den e)).toArray) (n:Nat) (h0:0<z.length) :
    ((Array.range n).map (zv[· % zv.size]!))=(((List.range n).map fun i=>z.getD (i % z.length) (.bool false)).map (SC.den e)).toArray:=by
  subst hz
  apply Array.ext'
  simp only [Array.toList_map,Array.toList_range,List.map_map]
  apply List.map_congr_left
  intro i _
  have hlt:i % z.length<z.length:=Nat.mod_lt _ h0
  simp [List.getD,hlt]
theorem Js {T:TypeId} {len:Nat} {parts:Array (Nat×Operand)} (E:TypeId) (sz:Nat) (cs:List SC) (hk:Kn N e m t)
    (hq:Iy P m T len parts.toList=some cs) (hT:P.underlying T=some (.slice E)) (hsz:FW P E=some sz) :
    (Instr.buildSlice T len (parts.map fun(i,x)=>(i,(Act.mk t dd).eval x))).run P w=.ok (.slice (some ⟨w.heap.size,0,none⟩) len len) (w.alloc (.cells (cs.map (SC.den e)).toArray E)):=by
  unfold Iy at hq
  rw [hT] at hq
  simp only [hsz] at hq
  split at hq
  · rename_i sz' z vs hsz' hz hvs
    cases hsz'
    split at hq
    · rename_i hc
      obtain⟨hc1,hc2,hc3⟩:=hc
      obtain⟨zv,hzv,hzc⟩:=EA e w hz
      have hps:=Gg (d:=dd) hk hvs
      have hfill:=Hu e _ _ _ _ hq
      rw [← V7 e z zv.cells hzc _ (by omega)] at hfill
      have hp:(Array.map (fun x=>(x.1,(Act.mk t dd).eval x.2)) parts).toList=vs.map fun x=>(x.1,x.2.den e):=by
        rw [← hps]; simp
      unfold Instr.buildSlice
      simp only [Sem.run_bind,run_underlying hT,Result.andThen_ok,BP w hsz]
      rw [if_neg (by omega)]
      by_cases h0:len*sz=0
      · have hl0:len=0:=by
          rcases Nat.eq_zero_or_pos len with h' | h'
          · exact h'
          have:=Nat.mul_pos h' hc3; omega
        subst hl0
        have ra:∀ f:Nat→Value,(Array.range 0).map f=#[]:=fun f=>Array.eq_empty_of_size_eq_zero (by simp)
        simp only [Nat.zero_mul,if_true,Sem.run_bind,Sem.run_pure,Result.andThen_ok,hp,ra]
        have hf2:Instr.fill (fun i=>some (i*sz,sz)) #[] (vs.map fun x=>(x.1,x.2.den e))=some (cs.map (SC.den e)).toArray:=by
          rw [← hfill,Nat.zero_mul,ra]
        rw [hf2]
        simp [newRow]
      simp only [if_neg h0,Sem.run_bind,hzv,Result.andThen_ok,Sem.run_pure,hp,hfill]
      simp [newRow]
    cases hq
  cases hq
theorem PF {T:TypeId} {len:Nat} {parts:Array (Nat×Operand)} (E:TypeId) (sz:Nat) (cs:List SC) (hk:Kn N e m t) (hm:Ai F h e pl rw w) (hop:o.op=.buildSlice T len parts) (hd:o.dst=some d) (hlt:d<N)
    (hq:Iy P m T len parts.toList=some cs) (hT:P.underlying T=some (.slice E)) (hsz:FW P E=some sz) (hl:cs.length=len*sz) (hlen:decide (len≤1000000000)=true)
    (hK:∀ a t' w',Kn N e (m.put d (.one (.c (.slice a len len)))) t'→Ai F h e pl (rw++[⟨a,len,len,E,sz,cs.map (SC.den e),0⟩]) w'→K ⟨t',dd⟩ w'):o.wp P ⟨t,dd⟩ w K Q:=by
  have hlen:len≤1000000000:=by simpa using hlen
  have hrun:=Js (dd:=dd) (w:=w) E sz cs hk hq hT hsz
  unfold Oper.wp execOp
  simp only [hop,Sem.run_bind]
  rw [hrun]
  simp only [Result.andThen_ok,Sem.run_pure]
  show K _ _
  rw [CV t dd hd]
  refine hK _ _ _ (hk.put hlt (.one (.c (.slice _ len len)))) ?_
  refine hm.newRow (b:=w.heap.size) (World.grownBy_alloc w _ none) (Nat.le_refl _) (by simp) rfl ?_ rfl (fun v hv=>by obtain⟨c,_,rfl⟩:=List.mem_map.1 hv; exact SC.den_isTup e c)
  have:=World.ownsRow_lit (e:=E) (size:=sz) w (cs.map (SC.den e)).toArray len hm.size (by unfold maxLen; omega) (by simpa using hl)
  simpa using this
theorem AC {T:TypeId} {len:Nat} {parts:Array (Nat×Operand)} (i:Nat) {r:Ca} (hi:rw[i]? = some r) (hf:r.frz=0) (E:TypeId) (sz:Nat) (cs:List SC) (hk:Kn N e m t) (hm:Ai F h e pl rw w) (hop:o.op=.buildSlice T len parts) (hd:o.dst=some d) (hlt:d<N)
    (hq:Iy P m T len parts.toList=some cs) (hT:P.underlying T=some (.slice E)) (hsz:FW P E=some sz) (hl:cs.length=len*sz) (hlen:decide (len≤1000000000)=true)
    (hK:∀ a t' w',Kn N e (m.put d (.one (.c (.slice a len len)))) t'→Ai F h e pl (rw.set i ⟨a,len,len,E,sz,cs.map (SC.den e),0⟩) w'→K ⟨t',dd⟩ w'):o.wp P ⟨t,dd⟩ w K Q:=by
  have hlen:len≤1000000000:=by simpa using hlen
  have hrun:=Js (dd:=dd) (w:=w) E sz cs hk hq hT hsz
  unfold Oper.wp execOp
  simp only [hop,Sem.run_bind]
  rw [hrun]
  simp only [Result.andThen_ok,Sem.run_pure]
  show K _ _
  rw [CV t dd hd]
  refine hK _ _ _ (hk.put hlt (.one (.c (.slice _ len len)))) ?_
  refine hm.setRow hi ?_ (fun o ho=>by omega) (fun v hv=>by obtain⟨c,_,rfl⟩:=List.mem_map.1 hv; exact SC.den_isTup e c) (.inr ⟨w.heap.size,rfl,rfl,Nat.le_refl _,by simp,World.grownBy_alloc w _ none⟩)
  have:=World.ownsRow_lit (e:=E) (size:=sz) w (cs.map (SC.den e)).toArray len hm.size (by unfold maxLen; omega) (by simpa using hl)
  simpa using this
theorem PG (z:Array Value) (n:Nat):((Array.range (n*z.size)).map (z[· % z.size]!)).toList=(List.replicate n z.toList).flatten:=by
  induction n with
  | zero=>simp
  | succ n ih =>
    rw [List.replicate_succ',List.flatten_append,← ih]
    simp only [Array.toList_map,Array.toList_range,List.flatten_cons,List.flatten_nil,List.append_nil]
    rw [show(n+1)*z.size=n*z.size+z.size by rw [Nat.add_mul]; omega,List.range_add,List.map_append,List.map_map]
    congr 1
    apply List.ext_getElem?
    intro j
    by_cases hj:j<z.size
    · simp [hj,Nat.mod_eq_of_lt hj]
    simp [hj]
theorem GJ {T:TypeId} {x:Operand} (E:TypeId) (sz bytes:Nat) (z:List SC) (n:Int) (hk:Kn N e m t) (hm:Ai F h e pl rw w) (hop:o.op=.makeSlice T x x) (hd:o.dst=some d) (hlt:d<N)
    (hT:P.underlying T=some (.slice E)) (hE:JV P E sz bytes=true) (hz:Jh P E=some z) (hx:DR m x=some (.c (.int .i64 n))) (h0:0≤n) (hb:n≤1000000000) (hby:decide (bytes≤10000)=true)
    (hK:∀ a t' w',Kn N e (m.put d (.one (.c (.slice a n.toNat n.toNat)))) t'→Ai F h e pl (rw++[⟨a,n.toNat,n.toNat,E,sz,(List.replicate n.toNat (z.map (SC.den e))).flatten,0⟩]) w'→K ⟨t',dd⟩ w'):o.wp P ⟨t,dd⟩ w K Q:=by
  obtain⟨ii,zv,e1,e2,e3,e4,e5,e6⟩:=F6 hE
  have hby:bytes≤10000:=by simpa using hby
  obtain⟨zv',hzv,hzc⟩:=EA e w hz
  have hzz:zv' = zv:=by
    simp [zeroValue,typeInfo,e1,e2] at hzv; exact hzv.symm
  subst hzz
  have hwr:IntKind.i64.wrap n=n:=IntWalk.i64_in _ (by omega)
  have hmul:(bytes:Int)*n≤10000*1000000000:=by
    have h1:(bytes:Int)*n≤10000*n:=Int.mul_le_mul_of_nonneg_right (by omega) h0
    have h2:(10000:Int)*n≤10000*1000000000:=by omega
    omega
  have hmul0:0≤(bytes:Int)*n:=Int.mul_nonneg (by omega) h0
  have hrun:(Instr.makeSlice T (.int .i64 n) (.int .i64 n)).run P w=.ok (.slice (some ⟨w.heap.size,0,none⟩) n.toNat n.toNat) (w.alloc (.cells ((Array.range (n.toNat*sz)).map (zv'.cells[· % zv'.cells.size]!)) E)):=by
    unfold Instr.makeSlice
    simp only [Sem.run_bind,run_underlying hT,Result.andThen_ok,asInt,asIntOf,Sem.run_pure,hwr]
    have hti:(typeInfo E).run P w=.ok ii w:=by simp [typeInfo,e1]
    have hsz:(sizeOf E).run P w=.ok sz w:=by simp [sizeOf,typeInfo,e1,e3]
    simp only [hti,Result.andThen_ok,e4]
    have hc : ¬ ((((decide (n<0) || decide ((bytes:Int)*n>2 ^ 48)) || decide (n<0)) || decide (n>n))=true):=by
      simp; omega
    rw [if_neg hc]
    simp only [Sem.run_bind,run_askRoom,Result.andThen_ok,hsz]
    by_cases hn:n.toNat*sz=0
    · have:n.toNat=0:=by
        rcases Nat.eq_zero_or_pos n.toNat with h' | h'
        · exact h'
        have:=Nat.mul_pos h' e6; omega
      have ra:∀ f:Nat→Value,(Array.range 0).map f=#[]:=fun f=>Array.eq_empty_of_size_eq_zero (by simp)
      simp [this,newRow,ra]
    simp only [if_neg hn,Sem.run_bind,hzv,Result.andThen_ok,Sem.run_pure]
    simp [newRow]
  unfold Oper.wp execOp
  have hxe:=Ap (d:=dd) hk hx
  simp only [SA.den,SC.den] at hxe
  simp only [hop,hxe,Sem.run_bind,hrun,Result.andThen_ok,Sem.run_pure]
  show K _ _
  rw [CV t dd hd]
  refine hK _ _ _ (hk.put hlt (.one (.c (.slice _ n.toNat n.toNat)))) ?_
  have hfl:=PG zv'.cells n.toNat
  rw [e5] at hfl
  refine hm.newRow (b:=w.heap.size) (World.grownBy_alloc w _ none) (Nat.le_refl _) (by simp) rfl ?_ rfl (fun v hv=>by obtain⟨l,hl,hv⟩:=List.mem_flatten.1 hv; rw [(List.mem_replicate.1 hl).2] at hv; obtain⟨c,_,rfl⟩:=List.mem_map.1 hv; exact SC.den_isTup e c)
  have:=World.ownsRow_lit (e:=E) (size:=sz) w ((Array.range (n.toNat*sz)).map (zv'.cells[· % sz]!)) n.toNat hm.size (by unfold maxLen; omega) (by simp)
  have hz2:zv'.cells.toList=z.map (SC.den e):=by rw [hzc]
  rw [hfl,hz2] at this
  simp only [e5]
  exact this
theorem Qh {T E:TypeId} {sz:Nat} {k:IntKind} {b ofs n c:Nat} {i:Int} (hT:P.underlying T=some (.slice E)) (hsz:FW P E=some sz) (h0:0≤i) (hn:i<n) :
    (Instr.indexAt T (.slice (some ⟨b,ofs,none⟩) n c) (.int k i)).run P w=.ok (.pointer (some ⟨b,ofs+i.toNat*sz,none⟩)) w:=by
  unfold Instr.indexAt
  simp only [asIntOf,Sem.run_bind,Sem.run_pure,Result.andThen_ok,run_underlying hT]
  rw [if_pos ⟨h0,hn⟩]
  simp only [Sem.run_bind,BP w hsz,Result.andThen_ok,Sem.run_pure]
  rw [KH _ _ rfl]
theorem Ay.pop {x:Nat×Nat} {p:C0} (hl:pl.length≤e.length) (h1:QS e.length pl=true) (hp:Ay (e++[x]) (pl++[p]) w):Ay e pl w:=by
  intro i q hq j c hc
  have hi:i<pl.length:=by
    rcases Nat.lt_or_ge i pl.length with h' | h'
    · exact h'
    rw [List.getElem?_eq_none h'] at hq; cases hq
  have:=hp i q (by rw [List.getElem?_append_left hi]; exact hq) j c hc
  rw [KG e x (by omega),GX (GY (Jq h1 hq) c (List.mem_of_getElem? hc))] at this
  exact this
theorem A5 {T E:TypeId} {s x:Operand} {sz n c ofs b:Nat} {a:Option Addr} {k:IntKind} {done:List Nat} (i:Nat) (ix:Int) (cs:List SC) {oi:Oper} (hQ:QP Q)
    (hi:ops[i]? = some oi) (hop:oi.op=.indexAddr T s x) (hgd:Region.wanted oi (yielded ops t)=true) (hd:oi.dst=some d) (hlt:d<N) (hns:Region.noSelect ops=true) (hf:KF ops X done i=true) (hk:Kn N e m t) (hS:Ay e pl w)
    (hT:P.underlying T=some (.slice E)) (hsz:FW P E=some sz) (hs:DR m s=some (.c (.slice a n c))) (ha:a=some ⟨b,ofs,none⟩) (hx:DR m x=some (.c (.int k ix))) (h0:0≤ix) (hn:ix<n) (hok:N3 e pl m=true)
    (H:∀ t',Kn N (e++[(b,ofs+ix.toNat*sz)]) (m.put d (.one (.c (.ptr e.length 0)))) t'→FK P ops X Q (e++[(b,ofs+ix.toNat*sz)]) (pl++[⟨cs,none⟩]) (i::done) ⟨t',dd⟩ w):FK P ops X Q e pl done ⟨t,dd⟩ w:=by
  obtain⟨q1,q2,q3⟩:=Si hok
  have hden:SV.den (e++[(b,ofs+ix.toNat*sz)]) (.one (.c (.ptr e.length 0)))=.pointer (some ⟨b,ofs+ix.toNat*sz,none⟩):=by
    simp [SV.den,SA.den,SC.den,Jp]
  refine Jn i (.one (.c (.ptr e.length 0))) hQ hi hns hf hgd hd hS (fun w hp=>hp.pop (by omega) q2) (fun w=>?_) ((hk.push (b,ofs+ix.toNat*sz) q3).put hlt _) H
  rw [hden]
  unfold execOp
  have hse:=Ap (d:=dd) hk hs
  have hxe:=Ap (d:=dd) hk hx
  simp only [SA.den,SC.den] at hse hxe
  subst ha
  simp only [hop,hse,hxe,Sem.run_bind,Qh hT hsz h0 hn,Result.andThen_ok,Sem.run_pure]
theorem A9 {T E:TypeId} {s x:Operand} {sz n c ofs b:Nat} {a:Option Addr} {k:IntKind} (i:Nat) (ix:Int) {oi:Oper}
    (hi:ops[i]? = some oi) (hop:oi.op=.indexAddr T s x) (hgd:Region.wanted oi (yielded ops t)=true) (hd:oi.dst=some d) (hlt:d<N) (hk:Kn N e m t)
    (hT:P.underlying T=some (.slice E)) (hsz:FW P E=some sz) (hs:DR m s=some (.c (.slice a n c))) (ha:a=some ⟨b,ofs,none⟩) (hx:DR m x=some (.c (.int k ix))) (h0:0≤ix) (hn:ix<n) (hok:QT e.length m=true)
    (H:∀ t',Kn N (e++[(b,ofs+ix.toNat*sz)]) (m.put d (.one (.c (.ptr e.length 0)))) t'→Cc P ops Q (i+1) ⟨t',dd⟩ w):Cc P ops Q i ⟨t,dd⟩ w:=by
  have q3:=hok
  have hden:SV.den (e++[(b,ofs+ix.toNat*sz)]) (.one (.c (.ptr e.length 0)))=.pointer (some ⟨b,ofs+ix.toNat*sz,none⟩):=by
    simp [SV.den,SA.den,SC.den,Jp]
  refine AD oi hi hgd fun K hK=>?_
  unfold Oper.wp execOp
  have hse:=Ap (d:=dd) hk hs
  have hxe:=Ap (d:=dd) hk hx
  simp only [SA.den,SC.den] at hse hxe
  subst ha
  simp only [hop,hse,hxe,Sem.run_bind,Qh hT hsz h0 hn,Result.andThen_ok,Sem.run_pure]
  show K _ _
  rw [CV t dd hd,← hden]
  exact hK _ _ (H _ ((hk.push (b,ofs+ix.toNat*sz) q3).put hlt _))
theorem N5 {α:Type} (l v:List α) (a n:Nat) (h:a+v.length≤n) (hn:n≤l.length):(l.take a++v++l.drop (a+v.length)).take n=(l.take n).take a++v++(l.take n).drop (a+v.length):=by
  have h1:(l.take a).length=a:=by simp; omega
  rw [List.append_assoc,List.take_append,h1,List.take_append,List.take_take,List.drop_take,List.append_assoc]
  rw [List.take_of_length_le (l:=v) (by omega),List.take_take,Nat.min_eq_right (by omega),Nat.min_eq_left (by omega),Nat.sub_sub]
theorem B4 {T:TypeId} {x y:Operand} {r:Ca} {ad:Addr} (i j off base:Nat) (v:SA) (hk:Kn N e m t) (hm:Ai F h e pl rw w) (hop:o.op=.store T x y) (hd:o.dst=none)
    (hx:DR m x=some (.c (.ptr j off))) (hy:DR m y=some v) (hj:e.blk j=(ad.block,base)) (hi:rw[i]? = some r) (ha:r.a=some ad) (hf:r.frz=0) (hsz:FW P T=some v.cells.length) (hfit:base+off+v.cells.length≤r.xs.length)
    (hK:∀ w',Kn N e m t→Ai F h e pl (rw.set i { r with xs:=r.xs.take (base+off)++v.cells.map (SC.den e)++r.xs.drop (base+off+v.cells.length) }) w'→K ⟨t,dd⟩ w'):o.wp P ⟨t,dd⟩ w K Q:=by
  have hown:=hm.row hi
  have hr1:∀ u∈r.xs,GW u=false:=by obtain⟨_,mm⟩:=hm; exact(mm.rws i r hi).one
  have hone:∀ u∈r.xs.take (base+off)++v.cells.map (SC.den e)++r.xs.drop (base+off+v.cells.length),GW u=false:=fun u hu=>by
    rcases List.mem_append.1 hu with hu | hu
    · rcases List.mem_append.1 hu with hu | hu
      · exact hr1 u (List.mem_of_mem_take hu)
      obtain⟨c,_,rfl⟩:=List.mem_map.1 hu; exact SC.den_isTup e c
    exact hr1 u (List.mem_of_mem_drop hu)
  rcases hown.2 with⟨hv,_⟩ | ⟨g,cap,cur,hv,hbg,hg,hnc,hcm,hcs,htake⟩
  · rw [ha] at hv; simp at hv
  rw [ha] at hv
  simp only [Value.slice.injEq,Option.some.injEq,true_and] at hv
  obtain⟨had,hcc⟩:=hv
  subst had
  have hlen:=hown.1
  have hle:r.n*r.sz≤cur.size:=by rw [hcs]; exact Nat.mul_le_mul_right _ hnc
  have hst:=run_storeCells_at P g (base+off) r.E (v.cells.map (SC.den e)) 0 cur w hg (by simp; omega) (by intro u hu; obtain⟨c,_,rfl⟩:=List.mem_map.1 hu; exact SC.den_one e c)
  have hxe:(Act.mk t dd).eval x=.pointer (some ⟨g,base+off,none⟩):=by
    rw [Ap hk hx]; simp [SA.den,SC.den,hj]
  have hye:=Ap (d:=dd) hk hy
  have hcl:=SA.den_cells e v
  generalize hu:SA.den e v=u at hye hcl
  unfold Oper.wp execOp
  simp only [hop,hxe,hye,Instr.storeAt,Instr.sureAddr,storeVar,Sem.run_bind,Sem.run_pure,Result.andThen_ok,BP w hsz,hcl]
  simp only [List.size_toArray,List.length_map,ne_eq,not_true_eq_false,if_false,hst,Result.andThen_ok]
  show K _ _
  rw [hd]
  refine hK _ hk (hm.setRow hi ?_ (fun o ho=>by omega) hone (.inl ⟨rfl,rfl,⟨rfl,rfl,rfl,by simp,fun k _ hne=>setRow_other w _ k _ (fun hh=>hne (by rw [hh,ha]; rfl))⟩⟩))
  refine⟨?_,.inr ⟨g,cap,_,by rw [ha,hcc],hbg,setRow_heap w g cur _ r.E _ hg,hnc,hcm,?_,?_⟩⟩
  · simp; omega
  · simp; omega
  simp only [Nat.add_zero]
  rw [← htake]
  have h2:base+off+v.cells.length≤r.n*r.sz:=by rw [← hlen]; exact hfit
  have:=N5 cur.toList (v.cells.map (SC.den e)) (base+off) (r.n*r.sz) (by simpa using h2) (by simpa using hle)
  simpa using this
end
open Go Go.RowKit
class Rep (α:Type) where
  sz:Nat
  rep:Ac→α→List Value→Prop
  mono:∀ {h h':Ac} {x:α} {cs:List Value},Ac.le h h'→rep h x cs→rep h' x cs
  len:∀ {h:Ac} {x:α} {cs:List Value},rep h x cs→cs.length=sz
  one:∀ {h:Ac} {x:α} {cs:List Value},rep h x cs→∀ v∈cs,v.oneCell' = true
open Rep (rep)
structure IK (k:IntKind) where
  n:Int
deriving DecidableEq,Inhabited
instance : Rep Int:=⟨1,fun _ x cs=>cs=[.int .i64 x],fun _ h=>h,fun h=>by subst h; rfl,fun h v hv=>by subst h; simp at hv; subst hv; rfl⟩
instance (k:IntKind):Rep (IK k):=⟨1,fun _ x cs=>cs=[.int k x.n],fun _ h=>h,fun h=>by subst h; rfl,fun h v hv=>by subst h; simp at hv; subst hv; rfl⟩
instance : Rep Bool:=⟨1,fun _ x cs=>cs=[.bool x],fun _ h=>h,fun h=>by subst h; rfl,fun h v hv=>by subst h; simp at hv; subst hv; rfl⟩
instance : Rep ByteArray:=⟨1,fun _ x cs=>cs=[.string x],fun _ h=>h,fun h=>by subst h; rfl,fun h v hv=>by subst h; simp at hv; subst hv; rfl⟩
instance {α β:Type} [Rep α] [Rep β]:Rep (α×β) :=
  ⟨Rep.sz α+Rep.sz β,fun h x cs=>∃ c1 c2,cs=c1++c2∧rep h x.1 c1∧rep h x.2 c2,
   fun hle ⟨c1,c2,e,h1,h2⟩=>⟨c1,c2,e,Rep.mono hle h1,Rep.mono hle h2⟩,
   fun⟨c1,c2,e,h1,h2⟩=>by subst e; rw [List.length_append,Rep.len h1,Rep.len h2],
   fun⟨c1,c2,e,h1,h2⟩ v hv=>by subst e; exact(List.mem_append.1 hv).elim (fun hv=>Rep.one h1 v hv) (fun hv=>Rep.one h2 v hv)⟩
@[reducible] def Rep.via {α β:Type} [Rep β] (f:α→β):Rep α :=
  ⟨Rep.sz β,fun h x cs=>rep h (f x) cs,fun hle h=>Rep.mono hle h,fun h=>Rep.len h,fun h=>Rep.one h⟩
def Ae {α:Type} [Rep α] (h:Ac):List α→List Value→Prop
  | [],vs=>vs=[]
  | x::r,vs=>∃ c1 c2,vs=c1++c2∧rep h x c1∧Ae h r c2
section
variable {α:Type} [Rep α] {h h':Ac}
theorem Ae.mono (hle:Ac.le h h'):∀ {xs:List α} {vs:List Value},Ae h xs vs→Ae h' xs vs
  | [],_,hc=>hc
  | _::_,_,⟨c1,c2,e,h1,h2⟩=>⟨c1,c2,e,Rep.mono hle h1,Ae.mono hle h2⟩
theorem Ae.len:∀ {xs:List α} {vs:List Value},Ae h xs vs→vs.length=xs.length*Rep.sz α
  | [],_,hc=>by rw [show _=[] from hc]; simp
  | _::r,_,⟨c1,c2,e,h1,h2⟩=>by subst e; rw [List.length_append,Rep.len h1,Ae.len h2,List.length_cons,Nat.add_mul]; omega
theorem Ae.one:∀ {xs:List α} {vs:List Value},Ae h xs vs→∀ v∈vs,v.oneCell' = true
  | [],_,hc,v,hv=>by rw [show _=[] from hc] at hv; simp at hv
  | _::r,_,⟨c1,c2,e,h1,h2⟩,v,hv=>by subst e; exact(List.mem_append.1 hv).elim (fun hv=>Rep.one h1 v hv) (fun hv=>Ae.one h2 v hv)
theorem Ae.nil:Ae h ([]:List α) []:=rfl
theorem Ae.append:∀ {xs:List α} {vs:List Value} {ys:List α} {us:List Value},Ae h xs vs→Ae h ys us→Ae h (xs++ys) (vs++us)
  | [],_,_,_,hc,hy=>by rw [show _=[] from hc]; exact hy
  | x::r,_,_,_,⟨c1,c2,e,h1,h2⟩,hy=>⟨c1,_,by rw [e,List.append_assoc],h1,Ae.append h2 hy⟩
theorem Ae.get (hc:∀ {xs:List α} {vs:List Value},Ae h xs vs→True:=fun _=>trivial):∀ {xs:List α} {vs:List Value},Ae h xs vs→∀ {k:Nat} {x:α},xs[k]? = some x →
    ∃ cs,rep h x cs∧∀ j c,cs[j]? = some c→vs[k*Rep.sz α+j]? = some c
  | [],_,_,k,x,hx=>by simp at hx
  | y::r,_,⟨c1,c2,e,h1,h2⟩,0,x,hx=>by
    simp at hx; subst hx; subst e
    refine⟨c1,h1,fun j c hj=>?_⟩
    rw [Nat.zero_mul,Nat.zero_add,List.getElem?_append_left]
    · exact hj
    rcases Nat.lt_or_ge j c1.length with h' | h'
    · exact h'
    rw [List.getElem?_eq_none h'] at hj; cases hj
  | y::r,_,⟨c1,c2,e,h1,h2⟩,k+1,x,hx=>by
    subst e
    obtain⟨cs,h3,h4⟩:=Ae.get hc h2 (k:=k) (x:=x) (by simpa using hx)
    refine⟨cs,h3,fun j c hj=>?_⟩
    have hl:=Rep.len h1
    rw [List.getElem?_append_right (by rw [hl,Nat.add_mul]; omega),hl]
    rw [show(k+1)*Rep.sz α+j-Rep.sz α=k*Rep.sz α+j by rw [Nat.add_mul]; omega]
    exact h4 j c hj
theorem Ae.set:∀ {xs:List α} {vs:List Value} {k:Nat} {y:α} {cs:List Value},Ae h xs vs→k<xs.length→rep h y cs →
    Ae h (xs.set k y) (vs.take (k*Rep.sz α)++cs++vs.drop (k*Rep.sz α+cs.length))
  | [],_,k,_,_,_,hk,_=>by simp at hk
  | x::r,_,0,y,cs,⟨c1,c2,e,h1,h2⟩,_,hy=>by
    subst e
    have hl1:=Rep.len h1
    have hl:=Rep.len hy
    refine⟨cs,c2,?_,hy,h2⟩
    simp only [Nat.zero_mul,Nat.zero_add,List.take_zero,List.nil_append]
    congr 1
    rw [hl,← hl1,List.drop_left]
  | x::r,_,k+1,y,cs,⟨c1,c2,e,h1,h2⟩,hk,hy=>by
    subst e
    have hl:=Rep.len h1
    refine⟨c1,_,?_,h1,Ae.set h2 (k:=k) (by simpa using hk) hy⟩
    have h1:(k+1)*Rep.sz α=c1.length+k*Rep.sz α:=by rw [hl,Nat.add_mul]; omega
    rw [h1,List.take_append,List.drop_append,Nat.add_assoc]
    rw [List.take_of_length_le (by omega),List.drop_of_length_le (l:=c1) (by omega)]
    simp [List.append_assoc]
theorem Ae.replicate {x:α} {cs:List Value} (hx:rep h x cs):∀ n,Ae h (List.replicate n x) (List.replicate n cs).flatten
  | 0=>rfl
  | n+1=>by rw [List.replicate_succ,List.replicate_succ,List.flatten_cons]; exact⟨cs,_,rfl,hx,Ae.replicate hx n⟩
def At (h:Ac) (a:Option Addr) (c:Nat) (xs:List α):Prop:=∃ vs,Ae h xs vs∧Hv h a vs∧xs.length≤c
theorem At.mono {a:Option Addr} {c:Nat} {xs:List α} (hle:Ac.le h h'):At h a c xs→At h' a c xs:=fun⟨vs,h1,h2,h3⟩=>⟨vs,h1.mono hle,h2.mono hle,h3⟩
theorem At.nil:At h none 0 ([]:List α):=⟨[],rfl,fun o x hx=>by simp at hx,Nat.le_refl _⟩
theorem At.get {a:Option Addr} {c:Nat} {xs:List α} (hr:At h a c xs) (hpos:0<Rep.sz α) {k:Nat} {x:α} (hx:xs[k]? = some x) :
    ∃ b ofs cs,a=some ⟨b,ofs,none⟩∧rep h x cs∧∀ j c,cs[j]? = some c→h b (ofs+k*Rep.sz α+j)=some c:=by
  obtain⟨vs,h1,h2,_⟩:=hr
  obtain⟨cs,h3,h4⟩:=Ae.get (fun _=>trivial) h1 hx
  have hl:=Rep.len h3
  have h0:cs[0]? = some (cs[0]'(by omega)):=List.getElem?_eq_getElem _
  obtain⟨ad,e1,e2,_⟩:=h2 _ _ (h4 0 _ h0)
  refine⟨ad.block,ad.off,cs,by rw [e1]; cases ad; simp at e2; subst e2; rfl,h3,fun j c hj=>?_⟩
  obtain⟨ad',e3,_,e5⟩:=h2 _ _ (h4 j c hj)
  rw [e1] at e3; cases e3
  rw [Nat.add_assoc]
  exact e5
end
instance {α:Type} [Rep α]:Rep (List α) :=
  ⟨1,fun h xs cs=>∃ a c,cs=[.slice a xs.length c]∧At h a c xs,fun hle ⟨a,c,e,hr⟩=>⟨a,c,e,hr.mono hle⟩,fun⟨a,c,e,_⟩=>by subst e; rfl,fun⟨a,c,e,_⟩ v hv=>by subst e; simp at hv; subst hv; rfl⟩
theorem Ad {h:Ac} {x:Int}:rep h x [.int .i64 x]:=rfl
theorem Ag {h:Ac} {x:Bool}:rep h x [.bool x]:=rfl
theorem Ab {α β:Type} [Rep α] [Rep β] {h:Ac} {x:α} {y:β} {c1 c2:List Value} (h1:rep h x c1) (h2:rep h y c2):rep h (x,y) (c1++c2):=⟨c1,c2,rfl,h1,h2⟩
theorem Af {α:Type} [Rep α] {h:Ac} {a:Option Addr} {c:Nat} {xs:List α} (hr:At h a c xs):rep h xs [.slice a xs.length c]:=⟨a,c,rfl,hr⟩
def Bm {α:Type} (xs:List α) (i:Int):Option α:=match i with
  | .ofNat n=>xs[n]?
  | .negSucc _=>none
theorem Aj {α:Type} {xs:List α} {i:Int} {x:α} (h:Bm xs i=some x):0≤i∧i<xs.length∧xs[i.toNat]? = some x:=by
  unfold Bm at h
  split at h
  · rename_i n
    refine⟨by simp,?_,by simpa using h⟩
    rcases Nat.lt_or_ge n xs.length with h' | h'
    · simpa using h'
    rw [List.getElem?_eq_none h'] at h; cases h
  cases h
def Ih {α:Type} (xs ys:List α):Option (List α):=if (xs++ys).length≤1000000000 then some (xs++ys) else none
theorem Bj {α:Type} {xs ys zs:List α} (h:Ih xs ys=some zs):zs=xs++ys∧(xs++ys).length≤1000000000:=by
  unfold Ih at h
  split at h
  · rename_i h1; simp at h; exact⟨h.symm,h1⟩
  cases h
def upd {α:Type} (xs:List α) (i:Int) (y:α):Option (List α):=match i with
  | .ofNat n=>if n<xs.length then some (xs.set n y) else none
  | .negSucc _=>none
theorem Cl {α:Type} {xs zs:List α} {i:Int} {y:α} (h:upd xs i y=some zs):0≤i∧i<xs.length∧zs=xs.set i.toNat y:=by
  unfold upd at h
  split at h
  · rename_i n
    split at h
    · rename_i hn; simp at h; exact⟨by simp,by simpa using hn,by simpa using h.symm⟩
    cases h
  cases h
def mk {α:Type} (n:Int) (x:α):Option (List α):=if 0≤n∧n≤1000000000 then some (List.replicate n.toNat x) else none
theorem Oe {α:Type} {n:Int} {x:α} {zs:List α} (h:mk n x=some zs):0≤n∧n≤1000000000∧zs=List.replicate n.toNat x:=by
  unfold mk at h
  split at h
  · rename_i hc; simp at h; exact⟨hc.1,hc.2,h.symm⟩
  cases h
theorem Ao {α β:Type} {x:Option α} {f:α→Option β} {r:β} (h:x.bind f=some r):∃ v,x=some v∧f v=some r:=Option.bind_eq_some_iff.1 h
inductive Ex (ρ σ:Type) where
  | ret (r:ρ)
  | go (s:σ)
section
variable {P:Program} {Q:Exit→Act→World→Prop} {K:Act→World→Prop} {a:Act} {w:World}
theorem Av {c:Code} (I:Nat→Act→World→Prop) (n:Nat) (h0:I n a w)
    (round:∀ n a w,I n a w→c.wp P (Exit.then (fun a' w'=>∃ m,m<n∧I m a' w') Q) a w):(Code.loop c).wp P Q a w:=by
  intro b k cs
  have key:∀ n a w,I n a w →
      ∃ e a' w',Q e a' w'∧Arrives P (lone (b.at a (.code c::.inLoop c::k)) cs w) b k cs e a' w':=by
    intro n
    induction n using Nat.strongRecOn with
    | _ n ih =>
      intro a w hI
      obtain⟨e,a₁,w₁,hq,harr⟩:=round n a w hI b (.inLoop c::k) cs
      cases e with
      | normal =>
        obtain⟨m,hlt,hI₁⟩:=hq
        obtain⟨e₂,a₂,w₂,hq₂,harr₂⟩:=ih m hlt a₁ w₁ hI₁
        exact⟨e₂,a₂,w₂,hq₂,.of_steps (Steps.trans harr (.one step_inLoop)) harr₂⟩
      | exit id=>exact⟨_,a₁,w₁,hq,.pass (x:=.inLoop c) rfl (fun _ _=>.inl (by simp)) harr⟩
      | goto l=>exact⟨_,a₁,w₁,hq,.pass (x:=.inLoop c) rfl (fun _ _=>.inl (by simp)) harr⟩
      | ret=>exact⟨_,a₁,w₁,hq,.pass (x:=.inLoop c) rfl (fun _ _=>.inl (by simp)) harr⟩
      | panic ch=>exact⟨_,a₁,w₁,hq,.pass (x:=.inLoop c) rfl (fun _ _=>.inl (by simp)) harr⟩
      | outgrown=>exact⟨_,a₁,w₁,hq,.pass (x:=.inLoop c) rfl (fun _ _=>.inl (by simp)) harr⟩
  obtain⟨e,a',w',hq,harr⟩:=key n a w h0
  exact⟨e,a',w',hq,.of_steps (.one step_loop) harr⟩
theorem Tm {N:Nat} {e:AJ} {m:TM} {t:Array Value} {d:List Deferred} {c:Operand} {x y:Code} (b:Bool) (hk:Kn N e m t) (hc:DR m c=some (.c (.bool b)))
    (h1:b=true→x.wp P Q ⟨t,d⟩ w) (h2:b=false→y.wp P Q ⟨t,d⟩ w):(Code.cond c x y).wp P Q ⟨t,d⟩ w :=
  wp_cond_split (Ap hk hc) h1 h2
theorem Kn.keep {N:Nat} {e:AJ} {m m':TM} {t:Array Value} (ks:List Nat) (hk:Kn N e m t) (h:FV m ks=m'):Kn N e m' t:=by subst h; exact hk.sub (Fh _ _)
theorem Ai.cutRw {F:Fr} {h:Ac} {e:AJ} {pl:List C0} {rw:List Ca} (k:Nat) (hm:Ai F h e pl rw w):Ai F h e pl (rw.take k) w:=by
  obtain⟨ow,m⟩:=hm
  refine⟨ow,m.below,m.le,m.old,m.has,m.ows,m.hown,m.pls,fun i r hr=>m.rws i r ?_,m.ext⟩
  rw [List.getElem?_take] at hr
  split at hr
  · exact hr
  cases hr
theorem Sk (e:AJ) (k:Nat):∀ {i:Nat},i<k→AJ.blk (e.take k) i=e.blk i:=by
  induction e generalizing k with
  | nil=>intro i _; rw [List.take_nil]
  | cons x r ih =>
    intro i hi
    cases k with
    | zero=>omega
    | succ k=>cases i with
      | zero=>rfl
      | succ i=>exact ih k (by omega)
theorem OR {e:AJ} {k:Nat} {c:SC} (h:c.okB k=true):c.den (e.take k)=c.den e:=by
  cases c <;> first | rfl | skip
  case ptr i off =>
    have hi:i<k:=by simpa [SC.okB] using h
    simp [SC.den,Sk e k hi]
theorem LO {e:AJ} {k:Nat} {cs:List SC} (h:Kb k cs=true):cs.map (SC.den (e.take k))=cs.map (SC.den e) :=
  List.map_congr_left fun c hc=>OR (GY h c hc)
theorem Ai.cutPl {F:Fr} {h:Ac} {e:AJ} {pl:List C0} {rw:List Ca} (k:Nat) (hm:Ai F h e pl rw w) (hok:QS k (pl.take k)=true):Ai F h (e.take k) (pl.take k) rw w:=by
  obtain⟨ow,m⟩:=hm
  refine⟨ow,m.below,m.le,m.old,m.has,m.ows,m.hown,fun i p hp=>?_,m.rws,m.ext⟩
  have hc:=Jq hok hp
  rw [List.getElem?_take] at hp
  split at hp
  · rename_i hi
    have:=m.pls i p hp
    unfold Cq at this ⊢
    rw [Sk e k hi,LO hc]
    split at this
    · exact this
    intro j c hj
    rw [OR (GY hc c (List.mem_of_getElem? hj))]
    exact this j c hj
  cases hp
theorem Qi {e:AJ} {k:Nat} {c:SA} (h:c.okB k=true):c.den (e.take k)=c.den e:=by
  cases c with
  | c x=>exact OR h
  | agg xs=>simp only [SA.den]; rw [LO h]
theorem UF {e:AJ} {k:Nat} {c:SV} (h:c.okB k=true):c.den (e.take k)=c.den e:=by
  cases c with
  | one x=>exact Qi h
  | tup xs =>
    simp only [SV.den]
    congr 2
    have:∀ (xs:List SA),UE k xs=true→xs.map (SA.den (e.take k))=xs.map (SA.den e):=by
      intro xs
      induction xs with
      | nil=>simp
      | cons y r ih =>
        intro h
        simp only [UE,Bool.and_eq_true] at h
        simp [Qi h.1,ih h.2]
    exact this xs h
  | undef=>rfl
theorem Kn.cut {N:Nat} {e:AJ} {m:TM} {t:Array Value} (k:Nat) (hk:Kn N e m t) (hok:QT k m=true):Kn N (e.take k) m t :=
  ⟨hk.size,fun j v hj=>by rw [UF (ON hok hj)]; exact hk.get j v hj⟩
end
open Go Go.RowKit
open Rep (rep)
def Ex.bind {ρ σ β:Type} (o:Ex ρ σ) (f:ρ→Option β) (g:σ→Option β):Option β:=match o with
  | .ret r=>f r
  | .go s=>g s
theorem Ex.bind_go {ρ σ β:Type} (s:σ) (f:ρ→Option β) (g:σ→Option β):Ex.bind (.go s) f g=g s:=rfl
theorem Ak {e:AJ} {cs:List SC} {j:Nat} {c:SC} (h:cs[j]? = some c):(cs.map (SC.den e))[j]? = some (c.den e):=by rw [List.getElem?_map,h]; rfl
section
variable {P:Program} {N:Nat} {F:Fr} {h:Ac} {e e':AJ} {pl pl':List C0} {rw:List Ca} {m:TM} {t:Array Value} {w:World} {Q:Exit→Act→World→Prop} {ops:Array Oper} {X:List Nat}
theorem Ar {c:Code} {a:Act} (M:Act→World→Prop) (h1:c.wp P (Exit.then M Q) a w) (h2:∀ a w,M a w→Q .normal a w):c.wp P Q a w :=
  wp_mono h1 fun e a w hq=>by cases e <;> first | exact h2 _ _ hq | exact hq
theorem BZ {done:List Nat} {a:Act} (hsub:∀ w,Ay e' pl' w→Ay e pl w) (H:FK P ops X Q e' pl' done a w):FK P ops X Q e pl done a w:=Jl hsub _ _ _ _ H
theorem Kn.setB (k:Nat) {E:Bool} (b:Bool) (hk:Kn N e m t) (hg:m.get k=some (.one (.c (.bool E)))) (hb:E=b):Kn N e (m.put k (.one (.c (.bool b)))) t:=by
  subst hb
  refine⟨hk.size,fun j v hj=>?_⟩
  unfold TM.put TM.get at hj
  cases hjk:Nat.beq k j with
  | true =>
    rw [hjk] at hj
    have:k=j:=Nat.eq_of_beq_eq_true hjk
    subst this
    simp at hj
    subst hj
    exact hk.get _ _ hg
  | false=>rw [hjk] at hj; exact hk.get _ _ hj
theorem Hv.cell {a:Option Addr} {vs:List Value} (hs:Hv h a vs) (hh:CK h w) (h1:∀ v∈vs,v.oneCell' = true):∀ j u,vs[j]? = some u→∃ ad,a=some ad∧ad.spot=none∧w.cell? ⟨ad.block,ad.off+j,none⟩=some u:=fun j u hu=>by
  obtain⟨ad,e1,h2,h3⟩:=hs j u hu
  exact⟨ad,e1,h2,MI (hh _ _ _ h3).2 (F5 (h1 _ (List.mem_of_getElem? hu)))⟩
theorem AK {done:List Nat} {a:Act} (done':List Nat) (h1:AY ops.size done=AY ops.size done') (h2:done.length=done'.length) (H:FK P ops X Q e pl done' a w):FK P ops X Q e pl done a w:=by
  unfold FK at *
  rw [h1,h2]; exact H
theorem BT {done:List Nat} {a:Act} (T:(AJ→List C0→List Nat→Act→World→Prop)→Prop) (h2:T (FK P ops X Q)) (h1:T (FK P ops X Q)→FK P ops X Q e pl done a w):FK P ops X Q e pl done a w:=h1 h2
section
variable {a:Act} {done:List Nat}
theorem QW (rs:List Nat) (hr:Region.ready .any ops (AY ops.size done)=rs) (hne:rs≠[]) (hl:done.length<ops.size)
    (h:∀ i∈rs,∃ oi,ops[i]? = some oi∧Region.wanted oi (yielded ops a.tmps)=true∧∀ K:Act→World→Prop,(∀ a' w',Ay e pl w'→FK P ops X Q e pl (i::done) a' w'→K a' w')→oi.wp P a w K Q):FK P ops X Q e pl done a w:=by
  unfold FK at *
  rw [show ops.size-done.length=(ops.size-(i0::done).length)+1 by simp; omega]
  refine⟨fun h0=>absurd (hr▸h0) hne,?_⟩
  rw [hr]
  intro k hk
  obtain⟨oi,h1,h2,h3⟩:=h k hk
  unfold wpOp
  simp only [h1,h2,if_true]
  exact .inl (h3 _ fun a' w' q1 q2=>.inr ⟨q1,q2⟩)
where i0:Nat:=0
abbrev OS (P:Program) (ops:Array Oper) (X:List Nat) (Q:Exit→Act→World→Prop) (e:AJ) (pl:List C0) (done:List Nat) (a:Act) (w:World) (i:Nat) (oi:Oper):Prop :=
  ∀ K:Act→World→Prop,(∀ a' w',Ay e pl w'→FK P ops X Q e pl (i::done) a' w'→K a' w')→oi.wp P a w K Q
theorem LP (i j k:Nat) {oi oj ok:Oper} (hi:ops[i]? = some oi) (hj:ops[j]? = some oj) (hk:ops[k]? = some ok) (hr:Region.ready .any ops (AY ops.size done)=[i,j,k]) (hl:done.length<ops.size)
    (hwi:Region.wanted oi (yielded ops a.tmps)=true) (hwj:Region.wanted oj (yielded ops a.tmps)=true) (hwk:Region.wanted ok (yielded ops a.tmps)=true)
    (h1:OS P ops X Q e pl done a w i oi) (h2:OS P ops X Q e pl done a w j oj) (h3:OS P ops X Q e pl done a w k ok):FK P ops X Q e pl done a w :=
  QW [i,j,k] hr (by simp) hl fun x hx=>by
    simp only [List.mem_cons,List.not_mem_nil,or_false] at hx
    rcases hx with rfl | rfl | rfl
    · exact⟨_,hi,hwi,h1⟩
    · exact⟨_,hj,hwj,h2⟩
    exact⟨_,hk,hwk,h3⟩
theorem Xt (i j k l:Nat) {oi oj ok ol:Oper} (hi:ops[i]? = some oi) (hj:ops[j]? = some oj) (hk:ops[k]? = some ok) (hl':ops[l]? = some ol) (hr:Region.ready .any ops (AY ops.size done)=[i,j,k,l]) (hl:done.length<ops.size)
    (hwi:Region.wanted oi (yielded ops a.tmps)=true) (hwj:Region.wanted oj (yielded ops a.tmps)=true) (hwk:Region.wanted ok (yielded ops a.tmps)=true) (hwl:Region.wanted ol (yielded ops a.tmps)=true)
    (h1:OS P ops X Q e pl done a w i oi) (h2:OS P ops X Q e pl done a w j oj) (h3:OS P ops X Q e pl done a w k ok) (h4:OS P ops X Q e pl done a w l ol):FK P ops X Q e pl done a w :=
  QW [i,j,k,l] hr (by simp) hl fun x hx=>by
    simp only [List.mem_cons,List.not_mem_nil,or_false] at hx
    rcases hx with rfl | rfl | rfl | rfl
    · exact⟨_,hi,hwi,h1⟩
    · exact⟨_,hj,hwj,h2⟩
    · exact⟨_,hk,hwk,h3⟩
    exact⟨_,hl',hwl,h4⟩
end
theorem Sl {o:Oper} {d:List Deferred} {dd:Nat} {v:SV} {K:Act→World→Prop} (hk:Kn N e m t) (hp:Ay e pl w) (hdst:o.dst=some dd) (hlt:dd<N) (hv:WM P m pl o.op=some v)
    (hK:∀ t',Kn N e (m.put dd v) t'→K ⟨t',d⟩ w):o.wp P ⟨t,d⟩ w K Q:=by
  unfold Oper.wp
  rw [JS hk hp hv]
  show K _ _
  rw [CV t d hdst]
  exact hK _ (hk.put hlt v)
theorem Eg {d:List Deferred} {m':TM} (i:Nat) {oi:Oper} {dd:Nat} (v:SV) (hi:ops[i]? = some oi) (hg:Region.wanted oi (yielded ops t)=true) (hdst:oi.dst=some dd)
    (hv:(execOp (Act.mk t d).eval oi).run P w=.ok (.value (v.den e)) w) (hk':Kn N e m' (t.setIfInBounds dd (v.den e)))
    (H:∀ t',Kn N e m' t'→Cc P ops Q (i+1) ⟨t',d⟩ w):Cc P ops Q i ⟨t,d⟩ w:=by
  refine AD oi hi hg fun K hK=>?_
  unfold Oper.wp
  rw [hv]
  show K _ _
  rw [CV t d hdst]
  exact hK _ _ (H _ hk')
theorem TO {op:BinOp} {T yT:TypeId} {x y:Operand} {k:IntKind} {a b:Int} {oi:Oper} {d:List Deferred} (hk:Kn N e m t) (hop:oi.op=.binOp op T x y yT) (hx:DR m x=some (.c (.int k a))) (hy:DR m y=some (.c (.int k b))) (hb:b≠0) :
    (op=.quo→(execOp (Act.mk t d).eval oi).run P w=.ok (.value (.int k (k.wrap (a.tdiv b)))) w)∧(op=.rem→(execOp (Act.mk t d).eval oi).run P w=.ok (.value (.int k (a.tmod b))) w):=by
  have hxe:=Ap (d:=d) hk hx
  have hye:=Ap (d:=d) hk hy
  simp only [SA.den,SC.den] at hxe hye
  constructor
  · rintro rfl
    unfold execOp
    simp only [hop,hxe,hye,eqGuard,Go.binOp,Op.intDiv]
    simp [hb]
  rintro rfl
  unfold execOp
  simp only [hop,hxe,hye,eqGuard,Go.binOp,Op.intDiv]
  simp [hb]
theorem X6 {T yT:TypeId} {x y:Operand} {k:IntKind} {a b:Int} {d:List Deferred} (i:Nat) {oi:Oper} {dd:Nat} (hk:Kn N e m t) (hi:ops[i]? = some oi) (hop:oi.op=.binOp .rem T x y yT) (hg:Region.wanted oi (yielded ops t)=true) (hdst:oi.dst=some dd) (hlt:dd<N) (hx:DR m x=some (.c (.int k a))) (hy:DR m y=some (.c (.int k b))) (hb:b≠0)
    (H:∀ t',Kn N e (m.put dd (.one (.c (.int k (a.tmod b))))) t'→Cc P ops Q (i+1) ⟨t',d⟩ w):Cc P ops Q i ⟨t,d⟩ w :=
  Eg i (.one (.c (.int k (a.tmod b)))) hi hg hdst ((TO hk hop hx hy hb).2 rfl) (hk.put hlt _) H
theorem X7 {T yT:TypeId} {x y:Operand} {k:IntKind} {a b:Int} {d:List Deferred} {done:List Nat} (i:Nat) {oi:Oper} {dd:Nat} (hQ:QP Q) (hk:Kn N e m t) (hi:ops[i]? = some oi) (hop:oi.op=.binOp .rem T x y yT) (hg:Region.wanted oi (yielded ops t)=true) (hdst:oi.dst=some dd) (hlt:dd<N)
    (hs:Region.noSelect ops=true) (hf:KF ops X done i=true) (hS:Ay e pl w) (hx:DR m x=some (.c (.int k a))) (hy:DR m y=some (.c (.int k b))) (hb:b≠0)
    (H:∀ t',Kn N e (m.put dd (.one (.c (.int k (a.tmod b))))) t'→FK P ops X Q e pl (i::done) ⟨t',d⟩ w):FK P ops X Q e pl done ⟨t,d⟩ w :=
  Jn i (.one (.c (.int k (a.tmod b)))) hQ hi hs hf hg hdst hS (fun _ h=>h) (fun _=>(TO hk hop hx hy hb).2 rfl) (hk.put hlt _) H
theorem Ay.peek {b base:Nat} {r:Ca} (hp:Ay e pl w) (hm:Ai F h e pl' rw w) (i j:Nat) (hi:rw[i]? = some r) (hj:e.blk j=(b,base)) (ha:r.a=some ⟨b,0,none⟩) (cs:List SC)
    (hc:∀ k c,cs[k]? = some c→r.xs[base+k]? = some (c.den e)):Ay e (pl.set j ⟨cs,none⟩) w:=by
  intro k p hk x c hx
  by_cases hkj:k=j
  · subst hkj
    have hlt:k<pl.length:=by
      rcases Nat.lt_or_ge k pl.length with h' | h'
      · exact h'
      rw [List.getElem?_eq_none (by simpa using h')] at hk; cases hk
    rw [List.getElem?_set_self hlt] at hk
    cases hk
    obtain⟨ad,h1,_,h3⟩:=hm.rowCell hi _ _ (hc x c hx)
    rw [ha] at h1
    cases h1
    simp only [Nat.zero_add] at h3
    rw [hj]
    exact h3
  rw [List.getElem?_set_ne (Ne.symm hkj)] at hk
  exact hp k p hk x c hx
theorem AP {b0:Nat} {r:Ca} (hm:Ai F h e pl rw w) {i:Nat} (hi:rw[i]? = some r) (hx:b0<r.xs.length):∃ b,r.a=some ⟨b,0,none⟩:=by
  obtain⟨ad,h1,h2,_⟩:=hm.rowCell hi b0 r.xs[b0] (List.getElem?_eq_getElem hx)
  obtain⟨h3,h4,_⟩:=LN (hm.row hi) h1
  exact⟨ad.block,by rw [h1]; cases ad; simp at h3 h4; subst h3; subst h4; rfl⟩
theorem A3 {α:Type} [Rep α] {xs:List α} {vs:List Value} {k sz:Nat} (hs:Rep.sz α=sz) (hc:Ae h xs vs) (hk:k<xs.length):0+k*sz+0+sz≤vs.length:=by
  rw [Ae.len hc,hs]
  have:(k+1)*sz≤xs.length*sz:=Nat.mul_le_mul_right _ hk
  rw [Nat.add_mul] at this
  omega
theorem AM {α:Type} [Rep α] {xs:List α} {vs:List Value} {k sz:Nat} {x:α} (hs:Rep.sz α=sz) (hc:Ae h xs vs) (hx:xs[k]? = some x):∃ cs,rep h x cs∧∀ j c,cs[j]? = some c→vs[0+k*sz+j]? = some c:=by
  subst hs
  obtain⟨cs,h1,h2⟩:=Ae.get (fun _=>trivial) hc hx
  exact⟨cs,h1,fun j c hj=>by rw [Nat.zero_add]; exact h2 j c hj⟩
theorem Df {α:Type} [Rep α] {xs:List α} {vs cs:List Value} {k sz:Nat} {y:α} (hs:Rep.sz α=sz) (hc:Ae h xs vs) (hk:k<xs.length) (hy:rep h y cs) :
    Ae h (xs.set k y) (vs.take (0+k*sz+0)++cs++vs.drop (0+k*sz+0+cs.length)):=by
  subst hs
  rw [Nat.zero_add,Nat.add_zero]
  exact Ae.set hc hk hy
theorem AG {α:Type} {xs:List α} {i:Int} (h0:0≤i) (h1:i<xs.length):i.toNat<xs.length:=by omega
def nz (b:Int):Option Unit:=if b=0 then none else some ()
theorem TP {b:Int} {u:Unit} (h:nz b=some u):b≠0:=by
  unfold nz at h
  split at h
  · cases h
  assumption
end
end Go.Proofs.YtinminkmefljbaaGreat
