/- What a proof leans on: a machine that steps through code, and what functions compute. -/
import Derived.Test.YtkpgggfibljflaaGreatDoorgQS00
import Derived.Laws.OwnMore
set_option linter.all false
namespace Go.Proofs.YtkpgggfibljflaaGreatDoor
open Go Go.RowKit
abbrev Ad:=Nat→Nat→Option Value
def Ad.le (h h':Ad):Prop:=∀ b o v,h b o=some v→h' b o=some v
theorem Ad.le_refl (h:Ad):Ad.le h h:=fun _ _ _ x=>x
theorem Ad.le_trans {a b c:Ad} (h:Ad.le a b) (k:Ad.le b c):Ad.le a c:=fun x o v hx=>k x o v (h x o v hx)
def P2 (e:MapEntry):Value:=.tuple #[e.key,e.val,.int .i64 e.born]
def Jz (es:Array MapEntry) (clock:Nat):Value:=.tuple (#[.int .i64 clock]++es.map P2)
theorem WT {es es':Array MapEntry} {c c':Nat} (h:Jz es c=Jz es' c'):es=es'∧c=c':=by
 unfold Jz at h
 simp only [Value.tuple.injEq] at h
 have h1:=congrArg Array.toList h
 simp only [Array.toList_append,Array.toList_map,ZaP,Za6,List.cons.injEq,Value.int.injEq,true_and] at h1
 obtain⟨h2,h3⟩:=h1
 refine⟨?_,by omega⟩
 apply Array.ext'
 exact List.map_inj_right (f:=P2) (fun a b hab=>by
  cases a; cases b
  simp [P2] at hab
  simp [hab]; omega) |>.1 h3
def NP:Value→Bool
 | .tuple _=>true
 | _=>false
def K0 (w:World) (b o:Nat):Option Value:=match w.heap[b]? with
 | some (.map es c)=>if o=0 then some (Jz es c) else none
 | _=>(w.cell? ⟨b,o,none⟩).filter fun v=>!NP v
theorem Cd {w w':World} {b:Nat} (h:w'.heap[b]? = w.heap[b]?) (o:Nat):K0 w' b o=K0 w b o:=by
 unfold K0
 rw [h,World.cell?_of_block (w:=w) h]
theorem Ki {w:World} {b o:Nat} {v:Value} (h:K0 w b o=some v) (hv:NP v=false):w.cell? ⟨b,o,none⟩=some v:=by
 unfold K0 at h
 split at h
 · split at h
   · cases h; cases hv
   · cases h
 · exact(Option.filter_eq_some_iff.1 h).1
theorem G6 {w:World} {b o:Nat} {v:Value} (h:w.cell? ⟨b,o,none⟩=some v) (hv:NP v=false):K0 w b o=some v:=by
 unfold K0
 split
 · rename_i hb; simp [World.cell?,hb] at h
 · rw [h]; simp [Option.filter,hv]
theorem AaO {w:World} {b:Nat} {es:Array MapEntry} {c:Nat} (h:K0 w b 0=some (Jz es c)):w.heap[b]? = some (.map es c):=by
 unfold K0 at h
 split at h
 · rename_i es' c' hb
   simp only [if_true,Option.some.injEq] at h
   obtain⟨rfl,rfl⟩:=WT h
   exact hb
 · have:=(Option.filter_eq_some_iff.1 h).2
   simp [NP,Jz] at this
def Ack (h:Ad) (w:World):Prop:=∀ b o v,h b o=some v→b<w.heap.size∧K0 w b o=some v
theorem Dt {v:Value} (h:v.oneCell' = true):NP v=false:=by cases v <;> first | rfl | cases h
structure Tb where
 a:Option Addr
 n:Nat
 c:Nat
 E:TypeId
 sz:Nat
 xs:List Value
 frz:Nat
structure Fr where
 w:World
 h:Ad
 X:Nat→Option Obj
def Ad0:Nat→Option Obj:=fun _=>none
abbrev UR:=Nat→Option (Nat ⊕ Nat)
def IX (ow:UR) (h:Ad) (e:HO) (w:World) (i:Nat) (p:WR):Prop :=
 match p.own with
 | some T=>ow (e.blk i).1=some (.inl i)∧(e.blk i).2=0∧w.heap[(e.blk i).1]? = some (.cells (p.cells.map (SC.den e)).toArray T (0,0))∧∀ o,h (e.blk i).1 o=none
 | none=>∀ j c,p.cells[j]? = some c→h (e.blk i).1 ((e.blk i).2+j)=some (c.den e)
structure AeG (F:Fr) (ow:UR) (h:Ad) (w:World) (i:Nat) (r:Tb):Prop where
 own:w.ownsRow F.w.heap.size r.E r.sz (.slice r.a r.n r.c) r.n r.xs
 frz:r.frz≤r.xs.length
 blk:∀ ad,r.a=some ad→ow ad.block=some (.inr i)∧(∀ o,r.frz≤o→h ad.block o=none)∧(∀ o,o<r.frz→h ad.block o=r.xs[o]?)
 one:∀ v∈r.xs,NP v=false
def XW:Obj→Bool
 | .cells ..=>true
 | _=>false
def US (F:Fr) (h:Ad) (b:Nat) (x:Obj):Prop:=(∀ o v,h b o=some v→F.h b o=some v)∧(XW x=false→∀ o,h b o=none)
theorem US.same {F:Fr} {h h':Ad} {b:Nat} {x:Obj} (H:US F h b x) (hh:∀ o,h' b o=h b o):US F h' b x:=⟨fun o v hv=>H.1 o v (by rw [← hh o]; exact hv),fun hx o=>(by rw [hh o]; exact H.2 hx o)⟩
theorem US.none {F:Fr} {h:Ad} {b:Nat} {x:Obj} (hh:∀ o,h b o=none):US F h b x:=⟨fun o v hv=>(by rw [hh o] at hv; cases hv),fun _=>hh⟩
structure AcC (F:Fr) (ow:UR) (h:Ad) (e:HO) (pl:List WR) (rw:List Tb) (w:World):Prop where
 below:Below F.w.heap.size F.w w
 le:Ad.le F.h h
 old:∀ b o x,h b o=some x→F.h b o=some x∨F.w.heap.size≤b
 has:Ack h w
 ows:∀ b x,ow b=some x→F.w.heap.size≤b∧b<w.heap.size
 hown:∀ b o x i,h b o=some x→ow b=some (.inl i)→False
 pls:∀ i p,pl[i]? = some p→IX ow h e w i p
 rws:∀ i r,rw[i]? = some r→AeG F ow h w i r
 ext:∀ b x,F.X b=some x→F.w.heap.size≤b∧b<w.heap.size∧w.heap[b]? = some x∧ow b=none∧US F h b x
def Jj (F:Fr) (h:Ad) (e:HO) (pl:List WR) (rw:List Tb) (w:World):Prop:=∃ ow,AcC F ow h e pl rw w
section
variable {F:Fr} {ow:UR} {h:Ad} {e:HO} {pl:List WR} {rw:List Tb} {w w':World}
theorem Jj.begin (h:Ad) (w:World) (hh:Ack h w):Jj ⟨w,h,Ad0⟩ h [] [] [] w :=
 ⟨fun _=>none,Below.refl _ _,Ad.le_refl _,fun _ _ _ hx=>.inl hx,hh,(by simp),(by simp),(by simp),(by simp),(by simp [Ad0])⟩
theorem Jj.has (hm:Jj F h e pl rw w):Ack h w:=let ⟨_,m⟩:=hm; m.has
theorem Jj.below (hm:Jj F h e pl rw w):Below F.w.heap.size F.w w:=let ⟨_,m⟩:=hm; m.below
theorem Jj.size (hm:Jj F h e pl rw w):F.w.heap.size≤w.heap.size:=hm.below.size
theorem cell_of_heap {w w':World} {b:Nat} (h:w'.heap[b]? = w.heap[b]?) (o:Nat):w'.cell? ⟨b,o,none⟩=w.cell? ⟨b,o,none⟩:=World.cell?_of_block (w:=w) h
theorem AcC.grow (m:AcC F ow h e pl rw w) (hg:w.grownBy w' none):AcC F ow h e pl rw w':=by
 have hb:∀ b,b<w.heap.size→w'.heap[b]? = w.heap[b]?:=fun b hb=>hg.block b hb (by simp)
 refine⟨m.below.trans ⟨hg.os,hg.tape,hg.output,hg.size,fun k hk=>hb k (Zai hk m.below.size)⟩,m.le,m.old,?_,?_,m.hown,?_,?_,?_⟩
 · intro b o v hv
   obtain⟨h1,h2⟩:=m.has b o v hv
   exact⟨Zai h1 hg.size,by rw [Cd (hb b h1)]; exact h2⟩
 · intro b x hx
   have:=m.ows b x hx
   exact⟨this.1,Zai this.2 hg.size⟩
 · intro i p hp
   have:=m.pls i p hp
   unfold IX at this ⊢
   split at this
   · rename_i T hT
     obtain⟨h1,h2,h3,h4⟩:=this
     exact⟨h1,h2,by rw [hb _ (m.ows _ _ h1).2]; exact h3,h4⟩
   · exact this
 · intro i r hr
   obtain⟨h1,h2,h3,h4⟩:=m.rws i r hr
   exact⟨h1.kept hg (by cases r.a <;> simp [Value.ownBlock]),h2,h3,h4⟩
 · intro b x hx
   obtain⟨h1,h2,h3,h4,h5⟩:=m.ext b x hx
   exact⟨h1,Zai h2 hg.size,by rw [hb b h2]; exact h3,h4,h5⟩
theorem Jj.grow (hm:Jj F h e pl rw w) (hg:w.grownBy w' none):Jj F h e pl rw w':=let ⟨ow,m⟩:=hm; ⟨ow,m.grow hg⟩
theorem Jj.drew (hm:Jj F h e pl rw w):Jj F h e pl rw w.drew:=hm.grow ⟨rfl,rfl,rfl,Zal _,fun _ _ _=>rfl⟩
def SC.okB (n:Nat):SC→Bool
 | .ptr i _=>decide (i<n)
 | _=>true
def Zh (n:Nat):List SC→Bool
 | []=>true
 | c::r=>c.okB n && Zh n r
def SA.okB (n:Nat):SA→Bool
 | .c x=>x.okB n
 | .agg xs=>Zh n xs
def AcD (n:Nat):List SA→Bool
 | []=>true
 | c::r=>c.okB n && AcD n r
def SV.okB (n:Nat):SV→Bool
 | .one x=>x.okB n
 | .tup xs=>AcD n xs
 | .undef=>true
def AcE (n:Nat):TM→Bool
 | []=>true
 | (_,v)::r=>v.okB n && AcE n r
theorem P3 (e:HO) (x:Nat×Nat):∀ {i:Nat},i<e.length→HO.blk (e++[x]) i=e.blk i:=by
 induction e with
 | nil=>intro i hi; simp at hi
 | cons y r ih =>
  intro i hi
  cases i with
  | zero=>rfl
  | succ i=>exact ih (by simpa using hi)
theorem Lb {e:HO} {x:Nat×Nat} {c:SC} (h:c.okB e.length=true):c.den (e++[x])=c.den e:=by
 cases c <;> first | rfl | skip
 case ptr i off =>
  have hi:i<e.length:=by simpa [SC.okB] using h
  simp [SC.den,P3 e x hi]
theorem P4 {n:Nat}:∀ {cs:List SC},Zh n cs=true→∀ c∈cs,c.okB n=true
 | [],_,c,hc=>by simp at hc
 | x::r,h,c,hc=>by
  simp only [Zh,Zax] at h
  rcases Zam.1 hc with rfl | hc
  · exact h.1
  · exact P4 h.2 c hc
theorem J0 {e:HO} {x:Nat×Nat} {cs:List SC} (h:Zh e.length cs=true):cs.map (SC.den (e++[x]))=cs.map (SC.den e) :=
 List.map_congr_left fun c hc=>Lb (P4 h c hc)
theorem NQ {e:HO} {x:Nat×Nat} {c:SA} (h:c.okB e.length=true):c.den (e++[x])=c.den e:=by
 cases c with
 | c x=>exact Lb h
 | agg xs=>simp only [SA.den]; rw [J0 h]
theorem UT {e:HO} {x:Nat×Nat} {c:SV} (h:c.okB e.length=true):c.den (e++[x])=c.den e:=by
 cases c with
 | one x=>exact NQ h
 | tup xs =>
  simp only [SV.den]
  congr 2
  have:∀ (xs:List SA),AcD e.length xs=true→xs.map (SA.den (e++[x]))=xs.map (SA.den e):=by
   intro xs
   induction xs with
   | nil=>simp
   | cons y r ih =>
    intro h
    simp only [AcD,Zax] at h
    simp [NQ h.1,ih h.2]
  exact this xs h
 | undef=>rfl
theorem UU {n:Nat}:∀ {m:TM},AcE n m=true→∀ {k v},m.get k=some v→v.okB n=true
 | [],_,k,v,hk=>by simp [TM.get] at hk
 | (j,u)::r,h,k,v,hk=>by
  simp only [AcE,Zax] at h
  unfold TM.get at hk
  cases hb:Nat.beq j k with
  | true=>rw [hb] at hk; simp at hk; subst hk; exact h.1
  | false=>rw [hb] at hk; exact UU h.2 hk
theorem Kn.push {N:Nat} {m:TM} {t:Array Value} (hk:Kn N e m t) (x:Nat×Nat) (h:AcE e.length m=true):Kn N (e++[x]) m t :=
 ⟨hk.size,fun k v hv=>by rw [UT (UU h hv)]; exact hk.get k v hv⟩
theorem K1 {α:Type} {l:List α} {x y:α} {i:Nat} (h:(l++[x])[i]? = some y):(i<l.length∧l[i]? = some y)∨(i=l.length∧y=x):=by
 rcases Nat.lt_trichotomy i l.length with h1 | h1 | h1
 · rw [Zau h1] at h; exact .inl ⟨h1,h⟩
 · subst h1; simp at h; exact .inr ⟨rfl,h.symm⟩
 · rw [Za0 (by simp; omega)] at h; cases h
theorem IX.push {ow:UR} {i:Nat} {p:WR} (x:Nat×Nat) (hi:i<e.length) (hc:Zh e.length p.cells=true) (h1:IX ow h e w i p):IX ow h (e++[x]) w i p:=by
 unfold IX at *
 rw [P3 e x hi,J0 hc]
 split at h1
 · exact h1
 · intro j c hj
   rw [Lb (P4 hc c (Za4 hj))]
   exact h1 j c hj
end
section
variable {P:Program} {N:Nat} {F:Fr} {h:Ad} {e:HO} {pl:List WR} {rw:List Tb} {m:TM} {t:Array Value} {dd:List Deferred} {w:World}
 {o:Oper} {K:Act→World→Prop} {Q:Exit→Act→World→Prop} {d:Nat}
theorem P5 {P:Program} (w:World) (T:TypeId) (v:Value):(newVar T v).run P w=.ok ⟨w.heap.size,0,none⟩ (w.alloc (.cells v.cells T)):=by
 simp [newVar,newRow]
theorem HP (w:World) (ob:Obj):(w.alloc ob).heap[w.heap.size]? = some ob:=heap_alloc_new w ob
theorem Jj.call {w':World} {h':Ad} (hm:Jj F h e pl rw w) (hb:Below w.heap.size w w') (hle:Ad.le h h')
  (hn:∀ b o x,h' b o=some x→h b o=some x∨(w.heap.size≤b∧b<w'.heap.size∧K0 w' b o=some x)):Jj F h' e pl rw w':=by
 have hg:w.grownBy w' none:=⟨hb.os,hb.tape,hb.output,hb.size,fun k hk _=>hb.block k hk⟩
 obtain⟨ow,m⟩:=hm
 have m':=m.grow hg
 have hold:∀ b o,b<w.heap.size→h' b o=h b o:=fun b o hbl=>by
  cases hx:h b o with
  | some x=>exact hle b o x hx
  | none =>
   cases hy:h' b o with
   | none=>rfl
   | some y =>
    rcases hn b o y hy with h1 | h1
    · rw [hx] at h1; cases h1
    · omega
 refine⟨ow,m'.below,Ad.le_trans m.le hle,?_,?_,m'.ows,?_,?_,?_,fun b x hx=>?_⟩
 · intro b o x hx
   rcases hn b o x hx with h1 | h1
   · exact m.old b o x h1
   · exact .inr (ZaF m.below.size h1.1)
 · intro b o x hx
   rcases hn b o x hx with h1 | h1
   · exact m'.has b o x h1
   · exact h1.2
 · intro b o x i hx ho
   rw [hold b o (m.ows b _ ho).2] at hx
   exact m.hown b o x i hx ho
 · intro i p hp
   have:=m'.pls i p hp
   unfold IX at this ⊢
   split at this
   · obtain⟨q1,q2,q3,q4⟩:=this
     exact⟨q1,q2,q3,fun o=>by rw [hold _ o (m.ows _ _ q1).2]; exact q4 o⟩
   · exact fun j c hj=>hle _ _ _ (this j c hj)
 · intro i r hr
   obtain⟨q1,q2,q3,q9⟩:=m'.rws i r hr
   refine⟨q1,q2,fun ad ha=>?_,q9⟩
   obtain⟨q4,q5,q6⟩:=q3 ad ha
   exact⟨q4,fun o ho=>by rw [hold _ o (m.ows _ _ q4).2]; exact q5 o ho,fun o ho=>by rw [hold _ o (m.ows _ _ q4).2]; exact q6 o ho⟩
 · obtain⟨h1,h2,h3,h4,h5⟩:=m'.ext b x hx
   exact⟨h1,h2,h3,h4,(m.ext b x hx).2.2.2.2.same fun o=>hold b o (m.ext b x hx).2.1⟩
def Lc (t:Array Value):ResultVar→Sem Value
 | .tmp k=>pure (t.getD k undef)
 | .cell a T=>do loadVar T (← asAddr (t.getD a undef))
theorem P6 (fn:Func) (t:Array Value):results fn t=(do let vs←fn.results.mapM (Lc t); pure (if h:vs.size=1 then vs[0] else .tuple vs)):=by
 unfold results
 have:(fun r=>match r with | ResultVar.tmp k=>pure (t.getD k undef) | .cell a T=>(do loadVar T (← asAddr (t.getD a undef)):Sem Value))=Lc t:=by
  funext r; cases r <;> rfl
 rw [← this]
 rfl
def UW (k:Nat):List SA→TM
 | []=>[]
 | v::r=>(k,.one v)::UW (k+1) r
theorem Sa (e:HO):∀ (vs:List SA)(k j:Nat)(v:SV),(UW k vs).get j=some v→∃ i,j=k+i∧(vs.map (SA.den e))[i]? = some (v.den e)
 | [],k,j,v,h=>by simp [UW,TM.get] at h
 | x::r,k,j,v,h=>by
  unfold UW TM.get at h
  cases hb:Nat.beq k j with
  | true =>
   rw [hb] at h
   have:k=j:=Zab hb
   subst this
   simp at h; subst h
   exact⟨0,rfl,by simp [SV.den]⟩
  | false =>
   rw [hb] at h
   obtain⟨i,h1,h2⟩:=Sa e r (k+1) j v h
   exact⟨i+1,by omega,by simpa using h2⟩
theorem enter {f:FuncId} {fn:Func} {c:Code} {R:Ending→World→Prop} {vals:Array Value} (N:Nat) (vs:List SA) (hf:P.funcs[f]? = some fn) (hb:fn.body=some c) (hN:fn.ntmps=N) (hn:decide (vs.length≤N)=true) (hv:(vs.map (SA.den [])).toArray=vals)
  (H:∀ t,Kn N [] (UW 0 vs) t→c.wp P (bodyPost P fn R) ⟨t,[]⟩ w):Calls P f vals w R:=by
 subst hv
 have hn:vs.length≤N:=by simpa using hn
 refine calls_of_wp hf hb (H _ ⟨by simp [hN]; omega,fun k v hk=>?_⟩)
 obtain⟨i,h1,h2⟩:=Sa [] vs 0 k v hk
 obtain rfl:k=i:=by omega
 have hlt:k<(vs.map (SA.den [])).length:=by
  rcases Za2 k (vs.map (SA.den [])).length with h' | h'
  · exact h'
  · rw [Za0 h'] at h2; cases h2
 rw [Zbn (by simpa using hlt)]
 simpa using h2
end
section
variable {P:Program} (w:World)
theorem Ng (ad:Addr) (j:Nat) (h:ad.spot=none):ad.add j=⟨ad.block,ad.off+j,none⟩:=by
 unfold Addr.add
 split
 · subst_vars; cases ad; simp at h; subst h; simp
 · rfl
theorem P7 (base:Nat) (t ty:TypeId) (e:TypeId) (i:TypeInfo) (z:Value) (size bytes:Nat) (ht:P.underlying t=some (.slice e)) (hi:P.info? e=some i) (hz:i.zero=some z)
  (hsize:i.size=size) (hby:i.bytes=bytes) (hzs:z.cells.size=size) (hsz:0<size)
  (a0:Option Addr) (c0:Nat) (n:Nat) (xs:List Value) (hown:w.ownsRow base e size (.slice a0 n c0) n xs)
  (a:Option Addr) (m c:Nat) (news:List Value) (hl:news.length=m*size) (hnews:∀ j u,news[j]? = some u→∃ ad,a=some ad∧w.cell? (ad.add j)=some u) (h1:∀ u∈news,u.oneCell' = true)
  (h63:n+m≤maxLen) (hbytes:(n+m)*bytes≤140737488355328) (hbase:base≤w.heap.size) :
  ∃ a' c' w',(Builtin.append_ #[t,t] ty #[.slice a0 n c0,.slice a m c]).run P w=.ok (.slice a' (n+m) c') w'∧w'.ownsRow base e size (.slice a' (n+m) c') (n+m) (xs++news) ∧
   ((a' = a0∧w.grownBy w' (a0.map (·.block)))∨(∃ g,a' = some ⟨g,0,none⟩∧w.heap.size≤g∧g<w'.heap.size∧w.grownBy w' none)):=by
 cases a with
 | none =>
  have hn:news=[]:=by
   cases news with
   | nil=>rfl
   | cons x r=>obtain⟨ad,h,_⟩:=hnews 0 x rfl; cases h
  subst hn
  have hm:m=0:=by
   rcases ZaW m with h | h
   · exact h
   · have:=Nat.mul_pos h hsz; simp at hl; omega
  subst hm
  have hroom:n≤c0:=by
   rcases hown.2 with⟨h,_⟩ | ⟨g,cap,cur,h,_,_,hnc,_⟩
   · simp at h; omega
   · simp at h; omega
  refine⟨a0,c0,w,?_,by simpa using hown,.inl ⟨rfl,⟨rfl,rfl,rfl,Zal _,fun _ _ _=>rfl⟩⟩⟩
  cases a0 <;> simp [Builtin.append_,run_underlying ht,sizeOf,typeInfo,hi,Builtin.lenOf,hroom,Builtin.firstCells,storeCells]
 | some ad =>
  have hnews:∀ j u,news[j]? = some u→w.cell? (ad.add j)=some u:=fun j u hu=>by
   obtain⟨ad',h,h'⟩:=hnews j u hu; cases h; exact h'
  subst hsize
  subst hby
  have hsmall:n+m≤9223372036854775807:=by simp only [maxLen] at h63; omega
  have hlen:(xs++news).length=(n+m)*i.size:=by rw [Zan,hown.1,hl,Zbc]
  have grown:∀ (old:Nat),old<n+m →
    (w.drew.alloc (.cells (xs.toArray++news.toArray++Builtin.zeroCells z.cells (grownCap w (n+m) old e-(n+m))) e)).ownsRow base e i.size
     (.slice (some ⟨w.heap.size,0,none⟩) (n+m) (grownCap w (n+m) old e)) (n+m) (xs++news) ∧
    w.grownBy (w.drew.alloc (.cells (xs.toArray++news.toArray++Builtin.zeroCells z.cells (grownCap w (n+m) old e-(n+m))) e)) none:=by
   intro old ho
   have hge:=grownCap_ge w (n+m) old e
   have hcm:grownCap w (n+m) old e≤maxLen:=grownCap_le_maxLen w (n+m) old e h63
   refine⟨⟨hlen,.inr ⟨w.heap.size,_,_,rfl,hbase,heap_alloc_new w.drew _,hge,hcm,?_,?_⟩⟩,⟨rfl,rfl,rfl,by simp,fun k hk _=>Go.heap_alloc_old w.drew _ hk⟩⟩
   · simp only [Array.size_append,Zbg,size_zeroCells,hzs,hown.1,hl,← Zbc]
     congr 1
     omega
   · simp only [Array.toList_append,ZaC]
     rw [← ZaC,← hlen]
     exact List.take_left
  rcases hown.2 with⟨hv,rfl⟩ | ⟨g,cap,cur,hv,hbg,hg,hnc,hcm,hcs,htake⟩
  · simp only [Value.slice.injEq] at hv
    obtain⟨rfl,_,rfl⟩:=hv
    have hx:xs=[]:=Za3 (by simpa using hown.1)
    subst hx
    by_cases hm:m=0
    · subst hm
      have hn:news=[]:=Za3 (by simpa using hl)
      subst hn
      refine⟨none,0,w,?_,World.ownsRow_nil w base e i.size,.inl ⟨rfl,⟨rfl,rfl,rfl,Zal _,fun _ _ _=>rfl⟩⟩⟩
      simp [Builtin.append_,run_underlying ht,sizeOf,typeInfo,hi,Builtin.lenOf,Builtin.firstCells,loadCells,loadCellsFrom]
    · have hr:=run_append_nil (P:=P) w t ty e i z ht hi hz ad m c news hl hnews (by omega) (by omega) (by have hb:=hbytes; simp only [Zar] at hb; omega)
      have hgr:=grown 0 (by omega)
      simp only [Zar,Za6,Array.empty_append] at hgr ⊢
      exact⟨_,_,_,hr,hgr.1,.inr ⟨_,rfl,Zal _,by simp,hgr.2⟩⟩
  · simp only [Value.slice.injEq,true_and] at hv
    obtain⟨rfl,rfl⟩:=hv
    by_cases hroom:n+m≤c0
    · have hfit:n*i.size+news.length≤cur.size:=by rw [hl,hcs,← Zbc]; exact Nat.mul_le_mul_right _ hroom
      have hr:=run_append_room (P:=P) w t ty e i ht hi g n c0 cur hg ad m c news hl hnews h1 hroom hfit
      refine⟨_,_,_,hr,⟨hlen,.inr ⟨g,c0,_,rfl,hbg,setRow_heap w g cur _ e _ hg,hroom,hcm,?_,?_⟩⟩,.inl ⟨rfl,⟨rfl,rfl,rfl,by simp,fun k _ hk=>setRow_other w g k _ (fun e=>hk (by simp [e]))⟩⟩⟩
      · simp only [Zbg,Zan,ZaU,Zbo,ZaG]
        omega
      · rw [htake,← hlen]
        exact List.take_left
    · have holds:∀ j u,xs[j]? = some u→w.cell? ((⟨g,0,none⟩:Addr).add j)=some u:=hown.cells (g:=g) rfl
      have hr:=run_append_grow (P:=P) w t ty e i z ht hi hz ⟨g,0,none⟩ n c0 xs hown.1 holds ad m c news hl hnews (by omega) (by omega) (growslice_fits (by omega) hbytes)
      have hgr:=grown c0 (by omega)
      exact⟨_,_,_,hr,hgr.1,.inr ⟨_,rfl,Zal _,by simp,hgr.2⟩⟩
end
section
variable {P:Program} {N:Nat} {F:Fr} {h:Ad} {e:HO} {pl:List WR} {rw:List Tb} {m:TM} {t:Array Value} {dd:List Deferred} {w w':World}
 {o:Oper} {K:Act→World→Prop} {Q:Exit→Act→World→Prop} {d:Nat}
theorem AaP {base:Nat} {r:Tb} (h:w.ownsRow base r.E r.sz (.slice r.a r.n r.c) r.n r.xs) (ha:r.a=none):r.xs=[]∧r.n=0:=by
 rcases h.2 with⟨_,h0⟩ | ⟨g,cap,cur,hv,_⟩
 · refine⟨Za3 (by rw [h.1,h0]; simp),h0⟩
 · rw [ha] at hv; simp at hv
theorem UX {base:Nat} {r:Tb} {ad:Addr} (h:w.ownsRow base r.E r.sz (.slice r.a r.n r.c) r.n r.xs) (ha:r.a=some ad):ad.off=0∧ad.spot=none∧base≤ad.block∧ad.block<w.heap.size ∧
  ∀ j,j<r.xs.length→w.cell? ⟨ad.block,j,none⟩=r.xs[j]?:=by
 have hh:=h
 rcases h.2 with⟨hv,_⟩ | ⟨g,cap,cur,hv,hb,hg,_⟩
 · rw [ha] at hv; simp at hv
 · rw [ha] at hv
   simp only [Value.slice.injEq,Option.some.injEq,true_and] at hv
   obtain⟨rfl,_⟩:=hv
   refine⟨rfl,rfl,hb,(Zag.1 hg).1,fun j hj=>?_⟩
   rw [ha] at hh
   exact hh.cellAt j (by rw [← hh.1]; exact hj)
theorem Jj.row (hm:Jj F h e pl rw w) {i:Nat} {r:Tb} (hi:rw[i]? = some r):w.ownsRow F.w.heap.size r.E r.sz (.slice r.a r.n r.c) r.n r.xs:=let ⟨_,m⟩:=hm; (m.rws i r hi).own
theorem Jj.newRow {r:Tb} {b:Nat} (hm:Jj F h e pl rw w) (hg:w.grownBy w' none) (hb:w.heap.size≤b) (hb':b<w'.heap.size) (ha:r.a=some ⟨b,0,none⟩)
  (hown:w'.ownsRow F.w.heap.size r.E r.sz (.slice r.a r.n r.c) r.n r.xs) (hf:r.frz=0) (h1:∀ v∈r.xs,NP v=false):Jj F h e pl (rw++[r]) w':=by
 obtain⟨ow,m⟩:=hm
 have m':=m.grow hg
 have hn:ow b=none:=by
  cases hx:ow b with
  | none=>rfl
  | some x=>have:=(m.ows b x hx).2; omega
 have hhn:∀ o,h b o=none:=fun o=>by
  cases hx:h b o with
  | none=>rfl
  | some x=>have:=(m.has b o x hx).1; omega
 refine⟨fun k=>if k=b then some (.inr rw.length) else ow k,m'.below,m'.le,m'.old,m'.has,?_,?_,?_,?_,fun k x hx=>?_⟩
 · intro k x hk
   by_cases hkb:k=b
   · subst hkb; exact⟨ZaF m.below.size hb,hb'⟩
   · simp only [hkb,if_false] at hk; exact m'.ows k x hk
 · intro k o x i hk hi
   by_cases hkb:k=b
   · subst hkb; rw [hhn o] at hk; cases hk
   · simp only [hkb,if_false] at hi; exact m.hown k o x i hk hi
 · intro i p hp
   have:=m'.pls i p hp
   unfold IX at this ⊢
   split at this
   · obtain⟨q1,q2⟩:=this
     refine⟨?_,q2⟩
     by_cases hkb:(HO.blk e i).1=b
     · rw [hkb,hn] at q1; cases q1
     · simp only [hkb,if_false]; exact q1
   · exact this
 · intro i s hs
   rcases K1 hs with⟨hi,hs⟩ | ⟨hi,rfl⟩
   · obtain⟨q1,q2,q3,q9⟩:=m'.rws i s hs
     refine⟨q1,q2,fun ad had=>?_,q9⟩
     obtain⟨q4,q5⟩:=q3 ad had
     refine⟨?_,q5⟩
     by_cases hkb:ad.block=b
     · rw [hkb,hn] at q4; cases q4
     · simp only [hkb,if_false]; exact q4
   · refine⟨hown,by omega,fun ad had=>?_,h1⟩
     rw [ha] at had
     cases had
     exact⟨by simp [hi],fun o _=>hhn o,fun o ho=>by omega⟩
 · obtain⟨h1,h2,h3,h4,h5⟩:=m'.ext k x hx
   have hkb:k≠b:=fun hkb=>by have:=(m.ext k x hx).2.1; omega
   exact⟨h1,h2,h3,by simp only [hkb,if_false]; exact h4,h5⟩
theorem Jj.setRow {i:Nat} {r r':Tb} (hm:Jj F h e pl rw w) (hi:rw[i]? = some r) (hown:w'.ownsRow F.w.heap.size r'.E r'.sz (.slice r'.a r'.n r'.c) r'.n r'.xs)
  (hx:∀ o,o<r.frz→r'.xs[o]? = r.xs[o]?) (hone:∀ v∈r'.xs,NP v=false)
  (hc:(r'.a=r.a∧r'.frz=r.frz∧w.grownBy w' (r.a.map (·.block)))∨(∃ g,r'.a=some ⟨g,0,none⟩∧r'.frz=0∧w.heap.size≤g∧g<w'.heap.size∧w.grownBy w' none)):Jj F h e pl (rw.set i r') w':=by
 have hlt:i<rw.length:=by
  rcases Za2 i rw.length with h' | h'
  · exact h'
  · rw [Za0 h'] at hi; cases hi
 rcases hc with⟨ha,hf,hg⟩ | ⟨g,ha,hf,hg1,hg2,hg⟩
 · obtain⟨ow,m⟩:=hm
   have hr:=m.rws i r hi
   have hblk:∀ b,b<w.heap.size→ow b≠some (.inr i)→w'.heap[b]? = w.heap[b]?:=fun b hb hne=>hg.block b hb (by
    cases har:r.a with
    | none=>simp
    | some ad=>simp; intro hbe; exact hne (by rw [hbe]; exact(hr.blk ad har).1))
   refine⟨ow,m.below.trans ⟨hg.os,hg.tape,hg.output,hg.size,fun k hk=>hblk k (Zai hk m.below.size) (fun hk'=>by have:=(m.ows _ _ hk').1; omega)⟩,m.le,m.old,?_,?_,m.hown,?_,?_,fun b x hbx=>?_⟩
   · intro b o v hv
     obtain⟨q1,q2⟩:=m.has b o v hv
     refine⟨Zai q1 hg.size,?_⟩
     by_cases hob:ow b=some (.inr i)
     · -- the row's own block
       cases har:r.a with
       | none =>
        have:w'.heap[b]? = w.heap[b]?:=hg.block b q1 (by simp [har])
        rw [Cd this]; exact q2
       | some ad =>
        by_cases hbb:b=ad.block
        · subst hbb
          obtain⟨_,q5,q6⟩:=hr.blk ad har
          have ho:o<r.frz:=by
           rcases Za2 o r.frz with h' | h'
           · exact h'
           · rw [q5 o h'] at hv; cases hv
          obtain⟨_,_,_,_,q7⟩:=UX hown (by rw [ha]; exact har)
          have h3:r'.xs[o]? = some v:=by rw [hx o ho,← q6 o ho]; exact hv
          refine G6 ?_ (hone _ (Za4 h3))
          rw [q7 o,h3]
          rcases Za2 o r'.xs.length with h' | h'
          · exact h'
          · rw [Za0 h'] at h3; cases h3
        · have:w'.heap[b]? = w.heap[b]?:=hg.block b q1 (by simp [har]; exact hbb)
          rw [Cd this]; exact q2
     · rw [Cd (hblk b q1 hob)]; exact q2
   · intro b x hbx
     have:=m.ows b x hbx
     exact⟨this.1,Zai this.2 hg.size⟩
   · intro j p hp
     have:=m.pls j p hp
     unfold IX at this ⊢
     split at this
     · obtain⟨q1,q2,q3,q4⟩:=this
       exact⟨q1,q2,by rw [hblk _ (m.ows _ _ q1).2 (by rw [q1]; simp)]; exact q3,q4⟩
     · exact this
   · intro j s hs
     by_cases hji:j=i
     · subst hji
       rw [List.getElem?_set_self hlt] at hs
       cases hs
       refine⟨hown,?_,fun ad had=>?_,hone⟩
       · rw [hf]
         rcases ZaW r.frz with h0 | h0
         · omega
         · have h1:=hr.frz
           have h2:=hx (r.frz-1) (by omega)
           have h4:r.xs[r.frz-1]? = some (r.xs[r.frz-1]'(by omega)):=Zao _
           rw [h4] at h2
           have h3:r.frz-1<r'.xs.length:=by
            rcases Za2 (r.frz-1) r'.xs.length with h' | h'
            · exact h'
            · rw [Za0 h'] at h2; cases h2
           omega
       · rw [ha] at had
         obtain⟨q4,q5,q6⟩:=hr.blk ad had
         rw [hf]
         exact⟨q4,q5,fun o ho=>by rw [q6 o ho,hx o ho]⟩
     · rw [List.getElem?_set_ne (Ne.symm hji)] at hs
       obtain⟨q1,q2,q3,q9⟩:=m.rws j s hs
       refine⟨q1.kept hg ?_,q2,q3,q9⟩
       cases hsa:s.a with
       | none=>left; simp [Value.ownBlock]
       | some ad =>
        right
        simp only [Value.ownBlock]
        intro hbe
        cases har:r.a with
        | none=>rw [har] at hbe; simp at hbe
        | some ad' =>
         rw [har] at hbe
         simp at hbe
         have h1:=(q3 ad hsa).1
         have h2:=(hr.blk ad' har).1
         rw [hbe,h2] at h1
         simp at h1
         exact hji h1.symm
   · obtain⟨h1,h2,h3,h4,h5⟩:=m.ext b x hbx
     exact⟨h1,Zai h2 hg.size,by rw [hblk b h2 (by rw [h4]; simp)]; exact h3,h4,h5⟩
 · have hm2:=hm.newRow (r:=r') hg hg1 hg2 ha hown hf hone
   obtain⟨ow,m⟩:=hm2
   -- the same rows,the new one at place i
   refine⟨fun k=>if k=g then some (.inr i) else ow k,m.below,m.le,m.old,m.has,?_,?_,?_,?_,fun k x hx=>?_⟩
   · intro k x hk
     by_cases hkb:k=g
     · subst hkb; exact⟨ZaF hm.below.size hg1,hg2⟩
     · simp only [hkb,if_false] at hk; exact m.ows k x hk
   · intro k o' x j hk hj
     by_cases hkb:k=g
     · subst hkb; simp at hj
     · simp only [hkb,if_false] at hj; exact m.hown k o' x j hk hj
   · intro j p hp
     have:=m.pls j p hp
     unfold IX at this ⊢
     split at this
     · obtain⟨q1,q2⟩:=this
       refine⟨?_,q2⟩
       by_cases hkb:(HO.blk e j).1=g
       · have:=(m.rws rw.length r' (by simp)).blk _ ha
         simp only at this
         rw [hkb,this.1] at q1; simp at q1
       · simp only [hkb,if_false]; exact q1
     · exact this
   · intro j s hs
     have hg3:=(m.rws rw.length r' (by simp)).blk _ ha
     by_cases hji:j=i
     · subst hji
       rw [List.getElem?_set_self hlt] at hs
       cases hs
       refine⟨hown,by omega,fun ad had=>?_,hone⟩
       rw [ha] at had
       cases had
       exact⟨by simp,fun o' ho'=>hg3.2.1 o' (by omega),fun o' ho'=>by omega⟩
     · rw [List.getElem?_set_ne (Ne.symm hji)] at hs
       have hjl:j<rw.length:=by
        rcases Za2 j rw.length with h' | h'
        · exact h'
        · rw [Za0 h'] at hs; cases hs
       obtain⟨q1,q2,q3,q9⟩:=m.rws j s (by rw [Zau hjl]; exact hs)
       refine⟨q1,q2,fun ad had=>?_,q9⟩
       obtain⟨q4,q5⟩:=q3 ad had
       refine⟨?_,q5⟩
       by_cases hkb:ad.block=g
       · rw [hkb,hg3.1] at q4
         simp at q4
         omega
       · simp only [hkb,if_false]; exact q4
   · obtain⟨h1,h2,h3,h4,h5⟩:=m.ext k x hx
     have hg3:=(m.rws rw.length r' (by simp)).blk _ ha
     have hkb:k≠g:=fun hkb=>by rw [hkb] at h4; simp only at hg3; rw [hg3.1] at h4; cases h4
     exact⟨h1,h2,h3,by simp only [hkb,if_false]; exact h4,h5⟩
def Iw (h:Ad) (a:Option Addr) (xs:List Value):Prop:=∀ o x,xs[o]? = some x→∃ ad,a=some ad∧ad.spot=none∧h ad.block (ad.off+o)=some x
theorem Iw.mono {h h':Ad} {a:Option Addr} {xs:List Value} (hs:Iw h a xs) (hle:Ad.le h h'):Iw h' a xs:=fun o x hx=>by
 obtain⟨ad,h1,h2,h3⟩:=hs o x hx
 exact⟨ad,h1,h2,hle _ _ _ h3⟩
theorem Jj.settle (hm:Jj F h e pl rw w) {i:Nat} {r:Tb} (hi:rw[i]? = some r) :
  ∃ h',Ad.le h h'∧Iw h' r.a r.xs∧Jj F h' e pl (rw.set i { r with frz:=r.xs.length }) w:=by
 have hlt:i<rw.length:=by
  rcases Za2 i rw.length with h' | h'
  · exact h'
  · rw [Za0 h'] at hi; cases hi
 have hown:=hm.row hi
 obtain ha | ⟨ad,ha⟩:r.a=none∨∃ ad,r.a=some ad:=by cases r.a <;> simp
 · have hx:=(AaP hown ha).1
   refine⟨h,Ad.le_refl _,fun o x hxo=>by rw [hx] at hxo; simp at hxo,?_⟩
   have hf:r.frz=r.xs.length:=by
    obtain⟨ow,m⟩:=hm
    have:=(m.rws i r hi).frz
    rw [hx] at this ⊢
    simpa using this
   have:rw.set i { r with frz:=r.xs.length }=rw:=by
    apply List.ext_getElem?
    intro j
    by_cases hj:j=i
    · subst hj
      rw [List.getElem?_set_self hlt,hi]
      congr 1
      cases r; simp at hf ⊢; exact hf.symm
    · rw [List.getElem?_set_ne (Ne.symm hj)]
   rw [this]
   exact hm
 · obtain⟨s1,s2,s3,s4,s5⟩:=UX hown ha
   obtain⟨ow,m⟩:=hm
   have hr:=m.rws i r hi
   obtain⟨q4,q5,q6⟩:=hr.blk ad ha
   refine⟨fun b o=>if b=ad.block then(if o<r.frz then h b o else r.xs[o]?) else h b o,?_,?_,⟨ow,m.below,?_,?_,?_,m.ows,?_,?_,?_,fun k x hx=>?_⟩⟩
   · intro b o v hv
     by_cases hb:b=ad.block
     · subst hb
       simp only [if_true]
       by_cases ho:o<r.frz
       · simp only [ho,if_true]; exact hv
       · rw [q5 o (by omega)] at hv; cases hv
     · simp only [hb,if_false]; exact hv
   · intro o x hx
     refine⟨ad,ha,s2,?_⟩
     simp only [if_true,s1,Zar]
     by_cases ho:o<r.frz
     · simp only [ho,if_true]; rw [q6 o ho]; exact hx
     · simp only [ho,if_false]; exact hx
   · refine Ad.le_trans m.le ?_
     intro b o v hv
     by_cases hb:b=ad.block
     · subst hb
       simp only [if_true]
       by_cases ho:o<r.frz
       · simp only [ho,if_true]; exact hv
       · rw [q5 o (by omega)] at hv; cases hv
     · simp only [hb,if_false]; exact hv
   · intro b o x hx
     by_cases hb:b=ad.block
     · subst hb; exact .inr s3
     · simp only [hb,if_false] at hx; exact m.old b o x hx
   · intro b o v hv
     by_cases hb:b=ad.block
     · subst hb
       simp only [if_true] at hv
       by_cases ho:o<r.frz
       · simp only [ho,if_true] at hv; exact m.has _ _ _ hv
       · simp only [ho,if_false] at hv
         refine⟨s4,G6 ?_ (hr.one _ (Za4 hv))⟩
         rw [s5 o,hv]
         rcases Za2 o r.xs.length with h' | h'
         · exact h'
         · rw [Za0 h'] at hv; cases hv
     · simp only [hb,if_false] at hv; exact m.has b o v hv
   · intro b o x j hv hj
     by_cases hb:b=ad.block
     · subst hb; rw [q4] at hj; simp at hj
     · simp only [hb,if_false] at hv; exact m.hown b o x j hv hj
   · intro j p hp
     have:=m.pls j p hp
     unfold IX at this ⊢
     split at this
     · obtain⟨t1,t2,t3,t4⟩:=this
       refine⟨t1,t2,t3,fun o=>?_⟩
       have hb:(HO.blk e j).1≠ad.block:=fun hb=>by rw [hb,q4] at t1; simp at t1
       simp only [hb,if_false]; exact t4 o
     · intro k c hc
       have hk:=this k c hc
       by_cases hb:(HO.blk e j).1=ad.block
       · simp only [hb,if_true]
         rw [hb] at hk
         by_cases ho:(HO.blk e j).2+k<r.frz
         · simp only [ho,if_true]; exact hk
         · rw [q5 _ (by omega)] at hk; cases hk
       · simp only [hb,if_false]; exact hk
   · intro j s hs
     by_cases hji:j=i
     · subst hji
       rw [List.getElem?_set_self hlt] at hs
       cases hs
       refine⟨hown,Zal _,fun ad' had=>?_,hr.one⟩
       simp only at had
       rw [ha] at had
       cases had
       refine⟨q4,fun o ho=>?_,fun o ho=>?_⟩
       · simp only at ho
         simp only [if_true]
         have : ¬ o<r.frz:=by have:=hr.frz; omega
         simp only [this,if_false]
         exact Za0 ho
       · simp only [if_true]
         by_cases ho':o<r.frz
         · simp only [ho',if_true]; exact q6 o ho'
         · simp only [ho',if_false]
     · rw [List.getElem?_set_ne (Ne.symm hji)] at hs
       obtain⟨t1,t2,t3,t9⟩:=m.rws j s hs
       refine⟨t1,t2,fun ad' had=>?_,t9⟩
       obtain⟨t4,t5,t6⟩:=t3 ad' had
       have hb:ad'.block≠ad.block:=fun hb=>by rw [hb,q4] at t4; simp at t4; exact hji t4.symm
       simp only [hb,if_false]
       exact⟨t4,t5,t6⟩
   · obtain⟨h1,h2,h3,h4,h5⟩:=m.ext k x hx
     have hb:k≠ad.block:=fun hb=>by rw [hb,q4] at h4; cases h4
     exact⟨h1,h2,h3,h4,h5.same fun o=>by simp only [hb,if_false]⟩
end
section
variable {P:Program} {N:Nat} {F:Fr} {h:Ad} {e:HO} {pl:List WR} {rw:List Tb} {m:TM} {t:Array Value} {dd:List Deferred} {w w':World}
 {o:Oper} {K:Act→World→Prop} {Q:Exit→Act→World→Prop} {d:Nat} {ops:Array Oper} {X:List Nat}
def XX (P:Program) (E:TypeId) (sz bytes:Nat):Bool:=match P.info? E with
 | some i=>match i.zero with
  | some z=>i.size == sz && i.bytes == bytes && z.cells.size == sz && decide (0<sz)
  | none=>false
 | none=>false
theorem Md {E:TypeId} {sz bytes:Nat} (hh:XX P E sz bytes=true):∃ i z,P.info? E=some i∧i.zero=some z∧i.size=sz∧i.bytes=bytes∧z.cells.size=sz∧0<sz:=by
 unfold XX at hh
 split at hh
 · rename_i i hi
   split at hh
   · rename_i z hz
     simp only [Zax,beq_iff_eq,decide_eq_true_eq] at hh
     obtain⟨⟨⟨h1,h2⟩,h3⟩,h4⟩:=hh
     exact⟨i,z,hi,hz,h1,h2,h3,h4⟩
   · cases hh
 · cases hh
theorem KA (z:Array Value) (n:Nat):((Array.range (n*z.size)).map (z[· % z.size]!)).toList=(List.replicate n z.toList).flatten:=by
 induction n with
 | zero=>simp
 | succ n ih =>
  rw [List.replicate_succ',List.flatten_append,← ih]
  simp only [Array.toList_map,Array.toList_range,List.flatten_cons,List.flatten_nil,Zbd]
  rw [show(n+1)*z.size=n*z.size+z.size by rw [Zbc]; omega,List.range_add,List.map_append,List.map_map]
  congr 1
  apply List.ext_getElem?
  intro j
  by_cases hj:j<z.size
  · simp [hj,Nat.mod_eq_of_lt hj]
  · simp [hj]
theorem Nh {T E:TypeId} {sz:Nat} {k:IntKind} {b ofs n c:Nat} {i:Int} (hT:P.underlying T=some (.slice E)) (hsz:Hg P E=some sz) (h0:0≤i) (hn:i<n) :
  (Instr.indexAt T (.slice (some ⟨b,ofs,none⟩) n c) (.int k i)).run P w=.ok (.pointer (some ⟨b,ofs+i.toNat*sz,none⟩)) w:=by
 unfold Instr.indexAt
 simp only [asIntOf,Sem.run_bind,Sem.run_pure,Result.andThen_ok,run_underlying hT]
 rw [if_pos ⟨h0,hn⟩]
 simp only [Sem.run_bind,AW w hsz,Result.andThen_ok,Sem.run_pure]
 rw [Ng _ _ rfl]
end
class Rep (α:Type) where
 sz:Nat
 rep:Ad→α→List Value→Prop
 mono:∀ {h h':Ad} {x:α} {cs:List Value},Ad.le h h'→rep h x cs→rep h' x cs
 len:∀ {h:Ad} {x:α} {cs:List Value},rep h x cs→cs.length=sz
 one:∀ {h:Ad} {x:α} {cs:List Value},rep h x cs→∀ v∈cs,v.oneCell' = true
open Rep (rep)
structure IK (k:IntKind) where
 n:Int
deriving DecidableEq,Inhabited
instance : Rep Int:=⟨1,fun _ x cs=>cs=[.int .i64 x],fun _ h=>h,fun h=>by subst h; rfl,fun h v hv=>by subst h; simp at hv; subst hv; rfl⟩
instance (k:IntKind):Rep (IK k):=⟨1,fun _ x cs=>cs=[.int k x.n],fun _ h=>h,fun h=>by subst h; rfl,fun h v hv=>by subst h; simp at hv; subst hv; rfl⟩
instance : Rep Bool:=⟨1,fun _ x cs=>cs=[.bool x],fun _ h=>h,fun h=>by subst h; rfl,fun h v hv=>by subst h; simp at hv; subst hv; rfl⟩
instance : Rep ByteArray:=⟨1,fun _ x cs=>cs=[.string x],fun _ h=>h,fun h=>by subst h; rfl,fun h v hv=>by subst h; simp at hv; subst hv; rfl⟩
instance {α β:Type} [Rep α] [Rep β]:Rep (α×β) :=
 ⟨Rep.sz α+Rep.sz β,fun h x cs=>∃ c1 c2,cs=c1++c2∧rep h x.1 c1∧rep h x.2 c2,
  fun hle ⟨c1,c2,e,h1,h2⟩=>⟨c1,c2,e,Rep.mono hle h1,Rep.mono hle h2⟩,
  fun⟨c1,c2,e,h1,h2⟩=>by subst e; rw [Zan,Rep.len h1,Rep.len h2],
  fun⟨c1,c2,e,h1,h2⟩ v hv=>by subst e; exact(Zap.1 hv).elim (fun hv=>Rep.one h1 v hv) (fun hv=>Rep.one h2 v hv)⟩
@[reducible] def Rep.via {α β:Type} [Rep β] (f:α→β):Rep α :=
  ⟨Rep.sz β,fun h x cs=>rep h (f x) cs,fun hle h=>Rep.mono hle h,fun h=>Rep.len h,fun h=>Rep.one h⟩
def Ar {α:Type} [Rep α] (h:Ad):List α→List Value→Prop
 | [],vs=>vs=[]
 | x::r,vs=>∃ c1 c2,vs=c1++c2∧rep h x c1∧Ar h r c2
section
variable {α:Type} [Rep α] {h h':Ad}
theorem Ar.mono (hle:Ad.le h h'):∀ {xs:List α} {vs:List Value},Ar h xs vs→Ar h' xs vs
 | [],_,hc=>hc
 | _::_,_,⟨c1,c2,e,h1,h2⟩=>⟨c1,c2,e,Rep.mono hle h1,Ar.mono hle h2⟩
theorem Ar.len:∀ {xs:List α} {vs:List Value},Ar h xs vs→vs.length=xs.length*Rep.sz α
 | [],_,hc=>by rw [show _=[] from hc]; simp
 | _::r,_,⟨c1,c2,e,h1,h2⟩=>by subst e; rw [Zan,Rep.len h1,Ar.len h2,Zas,Zbc]; omega
theorem Ar.one:∀ {xs:List α} {vs:List Value},Ar h xs vs→∀ v∈vs,v.oneCell' = true
 | [],_,hc,v,hv=>by rw [show _=[] from hc] at hv; simp at hv
 | _::r,_,⟨c1,c2,e,h1,h2⟩,v,hv=>by subst e; exact(Zap.1 hv).elim (fun hv=>Rep.one h1 v hv) (fun hv=>Ar.one h2 v hv)
theorem Ar.nil:Ar h ([]:List α) []:=rfl
theorem Ar.append:∀ {xs:List α} {vs:List Value} {ys:List α} {us:List Value},Ar h xs vs→Ar h ys us→Ar h (xs++ys) (vs++us)
 | [],_,_,_,hc,hy=>by rw [show _=[] from hc]; exact hy
 | x::r,_,_,_,⟨c1,c2,e,h1,h2⟩,hy=>⟨c1,_,by rw [e,ZaC],h1,Ar.append h2 hy⟩
theorem Ar.get (hc:∀ {xs:List α} {vs:List Value},Ar h xs vs→True:=fun _=>trivial):∀ {xs:List α} {vs:List Value},Ar h xs vs→∀ {k:Nat} {x:α},xs[k]? = some x →
  ∃ cs,rep h x cs∧∀ j c,cs[j]? = some c→vs[k*Rep.sz α+j]? = some c
 | [],_,_,k,x,hx=>by simp at hx
 | y::r,_,⟨c1,c2,e,h1,h2⟩,0,x,hx=>by
  simp at hx; subst hx; subst e
  refine⟨c1,h1,fun j c hj=>?_⟩
  rw [Nat.zero_mul,Zar,Zau]
  · exact hj
  · rcases Za2 j c1.length with h' | h'
    · exact h'
    · rw [Za0 h'] at hj; cases hj
 | y::r,_,⟨c1,c2,e,h1,h2⟩,k+1,x,hx=>by
  subst e
  obtain⟨cs,h3,h4⟩:=Ar.get hc h2 (k:=k) (x:=x) (by simpa using hx)
  refine⟨cs,h3,fun j c hj=>?_⟩
  have hl:=Rep.len h1
  rw [ZaO (by rw [hl,Zbc]; omega),hl]
  rw [show(k+1)*Rep.sz α+j-Rep.sz α=k*Rep.sz α+j by rw [Zbc]; omega]
  exact h4 j c hj
theorem Ar.set:∀ {xs:List α} {vs:List Value} {k:Nat} {y:α} {cs:List Value},Ar h xs vs→k<xs.length→rep h y cs →
  Ar h (xs.set k y) (vs.take (k*Rep.sz α)++cs++vs.drop (k*Rep.sz α+cs.length))
 | [],_,k,_,_,_,hk,_=>by simp at hk
 | x::r,_,0,y,cs,⟨c1,c2,e,h1,h2⟩,_,hy=>by
  subst e
  have hl1:=Rep.len h1
  have hl:=Rep.len hy
  refine⟨cs,c2,?_,hy,h2⟩
  simp only [Nat.zero_mul,Zar,List.take_zero,Za6]
  congr 1
  rw [hl,← hl1,List.drop_left]
 | x::r,_,k+1,y,cs,⟨c1,c2,e,h1,h2⟩,hk,hy=>by
  subst e
  have hl:=Rep.len h1
  refine⟨c1,_,?_,h1,Ar.set h2 (k:=k) (by simpa using hk) hy⟩
  have h1:(k+1)*Rep.sz α=c1.length+k*Rep.sz α:=by rw [hl,Zbc]; omega
  rw [h1,List.take_append,List.drop_append,Zbk]
  rw [Zbl (by omega),List.drop_of_length_le (l:=c1) (by omega)]
  simp [ZaC]
theorem Ar.replicate {x:α} {cs:List Value} (hx:rep h x cs):∀ n,Ar h (List.replicate n x) (List.replicate n cs).flatten
 | 0=>rfl
 | n+1=>by rw [Zbx,Zbx,List.flatten_cons]; exact⟨cs,_,rfl,hx,Ar.replicate hx n⟩
def F0 (h:Ad) (a:Option Addr) (c:Nat) (xs:List α):Prop:=∃ vs,Ar h xs vs∧Iw h a vs∧xs.length≤c
theorem F0.mono {a:Option Addr} {c:Nat} {xs:List α} (hle:Ad.le h h'):F0 h a c xs→F0 h' a c xs:=fun⟨vs,h1,h2,h3⟩=>⟨vs,h1.mono hle,h2.mono hle,h3⟩
theorem F0.nil:F0 h none 0 ([]:List α):=⟨[],rfl,fun o x hx=>by simp at hx,Zal _⟩
theorem F0.get {a:Option Addr} {c:Nat} {xs:List α} (hr:F0 h a c xs) (hpos:0<Rep.sz α) {k:Nat} {x:α} (hx:xs[k]? = some x) :
  ∃ b ofs cs,a=some ⟨b,ofs,none⟩∧rep h x cs∧∀ j c,cs[j]? = some c→h b (ofs+k*Rep.sz α+j)=some c:=by
 obtain⟨vs,h1,h2,_⟩:=hr
 obtain⟨cs,h3,h4⟩:=Ar.get (fun _=>trivial) h1 hx
 have hl:=Rep.len h3
 have h0:cs[0]? = some (cs[0]'(by omega)):=Zao _
 obtain⟨ad,e1,e2,_⟩:=h2 _ _ (h4 0 _ h0)
 refine⟨ad.block,ad.off,cs,by rw [e1]; cases ad; simp at e2; subst e2; rfl,h3,fun j c hj=>?_⟩
 obtain⟨ad',e3,_,e5⟩:=h2 _ _ (h4 j c hj)
 rw [e1] at e3; cases e3
 rw [Zbk]
 exact e5
end
instance {α:Type} [Rep α]:Rep (List α) :=
 ⟨1,fun h xs cs=>∃ a c,cs=[.slice a xs.length c]∧F0 h a c xs,fun hle ⟨a,c,e,hr⟩=>⟨a,c,e,hr.mono hle⟩,fun⟨a,c,e,_⟩=>by subst e; rfl,fun⟨a,c,e,_⟩ v hv=>by subst e; simp at hv; subst hv; rfl⟩
def A4 {α:Type} (xs:List α) (i:Int):Option α:=match i with
 | .ofNat n=>xs[n]?
 | .negSucc _=>none
theorem P8 {α:Type} {xs:List α} {i:Int} {x:α} (h:A4 xs i=some x):0≤i∧i<xs.length∧xs[i.toNat]? = some x:=by
 unfold A4 at h
 split at h
 · rename_i n
   refine⟨by simp,?_,by simpa using h⟩
   rcases Za2 n xs.length with h' | h'
   · simpa using h'
   · rw [Za0 h'] at h; cases h
 · cases h
def app {α:Type} (xs ys:List α):Option (List α):=if (xs++ys).length≤1000000000 then some (xs++ys) else none
theorem UY {α:Type} {xs ys zs:List α} (h:app xs ys=some zs):zs=xs++ys∧(xs++ys).length≤1000000000:=by
 unfold app at h
 split at h
 · rename_i h1; simp at h; exact⟨h.symm,h1⟩
 · cases h
def mk {α:Type} (n:Int) (x:α):Option (List α):=if 0≤n∧n≤1000000000 then some (List.replicate n.toNat x) else none
theorem AcF {α:Type} {n:Int} {x:α} {zs:List α} (h:mk n x=some zs):0≤n∧n≤1000000000∧zs=List.replicate n.toNat x:=by
 unfold mk at h
 split at h
 · rename_i hc; simp at h; exact⟨hc.1,hc.2,h.symm⟩
 · cases h
inductive Ex (ρ σ:Type) where
 | ret (r:ρ)
 | go (s:σ)
section
variable {P:Program} {Q:Exit→Act→World→Prop} {K:Act→World→Prop} {a:Act} {w:World}
theorem Sb {c:Code} (I:Nat→Act→World→Prop) (n:Nat) (h0:I n a w)
  (round:∀ n a w,I n a w→c.wp P (Exit.then (fun a' w'=>∃ m,m<n∧I m a' w') Q) a w):(Code.loop c).wp P Q a w:=by
 intro b k cs
 have key:∀ n a w,I n a w →
   ∃ e a' w',Q e a' w'∧Arrives P (lone (b.at a (.code c::.inLoop c::k)) cs w) b k cs e a' w':=by
  intro n
  induction n using Nat.strongRecOn with
  | _ n ih =>
   intro a w hI
   obtain⟨e,a₁,w₁,hq,harr⟩:=round n a w hI b (.inLoop c::k) cs
   cases e with
   | normal =>
    obtain⟨m,hlt,hI₁⟩:=hq
    obtain⟨e₂,a₂,w₂,hq₂,harr₂⟩:=ih m hlt a₁ w₁ hI₁
    exact⟨e₂,a₂,w₂,hq₂,.of_steps (Steps.trans harr (.one step_inLoop)) harr₂⟩
   | exit id=>exact⟨_,a₁,w₁,hq,.pass (x:=.inLoop c) rfl (fun _ _=>.inl (by simp)) harr⟩
   | goto l=>exact⟨_,a₁,w₁,hq,.pass (x:=.inLoop c) rfl (fun _ _=>.inl (by simp)) harr⟩
   | ret=>exact⟨_,a₁,w₁,hq,.pass (x:=.inLoop c) rfl (fun _ _=>.inl (by simp)) harr⟩
   | panic ch=>exact⟨_,a₁,w₁,hq,.pass (x:=.inLoop c) rfl (fun _ _=>.inl (by simp)) harr⟩
   | outgrown=>exact⟨_,a₁,w₁,hq,.pass (x:=.inLoop c) rfl (fun _ _=>.inl (by simp)) harr⟩
 obtain⟨e,a',w',hq,harr⟩:=key n a w h0
 exact⟨e,a',w',hq,.of_steps (.one step_loop) harr⟩
end
def Ex.bind {ρ σ β:Type} (o:Ex ρ σ) (f:ρ→Option β) (g:σ→Option β):Option β:=match o with
 | .ret r=>f r
 | .go s=>g s
section
variable {P:Program} {N:Nat} {F:Fr} {h:Ad} {e e':HO} {pl pl':List WR} {rw:List Tb} {m:TM} {t:Array Value} {w:World} {Q:Exit→Act→World→Prop} {ops:Array Oper} {X:List Nat}
theorem Iw.cell {a:Option Addr} {vs:List Value} (hs:Iw h a vs) (hh:Ack h w) (h1:∀ v∈vs,v.oneCell' = true):∀ j u,vs[j]? = some u→∃ ad,a=some ad∧ad.spot=none∧w.cell? ⟨ad.block,ad.off+j,none⟩=some u:=fun j u hu=>by
 obtain⟨ad,e1,h2,h3⟩:=hs j u hu
 exact⟨ad,e1,h2,Ki (hh _ _ _ h3).2 (Dt (h1 _ (Za4 hu)))⟩
section
variable {a:Act} {done:List Nat}
end
end
end Go.Proofs.YtkpgggfibljflaaGreatDoor
