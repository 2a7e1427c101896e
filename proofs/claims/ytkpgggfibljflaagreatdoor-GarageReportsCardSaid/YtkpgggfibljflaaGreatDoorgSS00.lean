/- What a proof leans on: a machine that steps through code, and what functions compute. -/
import Derived.WalkKit
import Derived.OrdersHeld
import Derived.Below
import Derived.Deep.AppendLies
import Derived.KernelRfl
import Derived.Laws.StructEq
set_option linter.all false
namespace Go.Proofs.YtkpgggfibljflaaGreatDoor
open Go Go.RowKit
theorem Zaa {A B:Type _} (a:A) (f:A→Option B):(some a).bind f=f a:=rfl
theorem Zab {A:Sort _} (a b:A):cond true a b=a:=rfl
abbrev Zac:=@Nat.eq_of_beq_eq_true
theorem Zad {A:Sort _} (a b:A):cond false a b=b:=rfl
abbrev Zae:=@decide_eq_false
abbrev Zaf:=@decide_eq_true
abbrev Zag:=@Option.bind_eq_some_iff
abbrev Zah:=@Nat.le_of_ble_eq_true
abbrev Zai:=@List.drop_eq_getElem_cons
abbrev Zaj:=@List.length_append
abbrev Zak:=@Array.getElem?_eq_some_iff
abbrev Zal:=@Nat.not_lt_zero
abbrev Zam:=@List.mem_cons
abbrev Zan:=@Bool.and_eq_true
abbrev Zao:=@List.mem_append
abbrev Zap:=@List.getElem?_eq_getElem
abbrev Zaq:=@Nat.lt_of_lt_of_le
abbrev Zar:=@List.drop_zero
abbrev Zas:=@Nat.le_refl
abbrev Zat:=@List.mem_singleton
abbrev Zau:=@List.length_cons
abbrev Zav:=@List.getElem_mem
abbrev Zaw:=@Nat.zero_add
abbrev Zax:=@List.nil_append
abbrev Zay:=@List.getElem?_append_left
abbrev Zaz:=@List.getElem?_eq_some_iff
abbrev Za0:=@Option.map_eq_some_iff
abbrev Za1:=@Array.getElem?_toList
abbrev Za2:=@Nat.ble_eq_true_of_le
theorem Za3 {A B C:Type _} (f:A→C) (g:B→C) (a:A):Sum.elim f g (.inl a)=f a:=rfl
abbrev Za4:=@Bool.false_eq_true
abbrev Za5:=@List.getElem?_eq_none
abbrev Za6:=@List.append_assoc
theorem Za7 :(!false)=true:=rfl
abbrev Za8:=@Nat.lt_or_ge
abbrev Za9:=@List.all_eq_true
abbrev ZaA:=@List.eq_nil_of_length_eq_zero
abbrev ZaB:=@List.mem_of_getElem?
theorem ZaC :(!true)=false:=rfl
abbrev ZaD:=@List.take_succ_eq_append_getElem
abbrev ZaE:=@List.prefix_refl
abbrev ZaF:=@Bool.true_and
abbrev ZaG:=@List.pairwise_cons
abbrev ZaH:=@Array.getD_eq_getD_getElem?
abbrev ZaI:=@List.getElem?_map
abbrev ZaJ:=@Array.getElem?_eq_getElem
abbrev ZaK:=@List.length_take
abbrev ZaL:=@List.mem_append_left
abbrev ZaM:=@Nat.le_trans
abbrev ZaN:=@Array.length_toList
abbrev ZaO:=@List.length_map
abbrev ZaP:=@List.all_cons
abbrev ZaQ:=@List.cons_append
abbrev ZaR:=@List.mem_cons_of_mem
abbrev ZaS:=@Bool.or_eq_true
abbrev ZaT:=@List.getD_eq_getElem?_getD
abbrev ZaU:=@List.filter_cons_of_neg
abbrev ZaV:=@List.length_nil
abbrev ZaW:=@List.any_eq_true
abbrev ZaX:=@Array.getElem?_setIfInBounds_ne
abbrev ZaY:=@List.mem_map
abbrev ZaZ:=@List.filter_cons_of_pos
abbrev Zba:=@List.drop_append_of_le_length
abbrev Zbb:=@List.take_of_length_le
abbrev Zbc:=@List.length_drop
abbrev Zbd:=@List.not_mem_nil
abbrev Zbe:=@List.take_append_drop
abbrev Zbf:=@List.length_filter_le
abbrev Zbg:=@List.getElem?_append_right
abbrev Zbh:=@List.append_nil
abbrev Zbi:=@Nat.eq_zero_or_pos
abbrev Zbj:=@Array.toArray_toList
abbrev Zbk:=@List.take_append_of_le_length
abbrev Zbl:=@Array.getElem?_push
abbrev Zbm:=@Bool.and_false
abbrev Zbn:=@Array.getElem?_modify
abbrev Zbo:=@Nat.add_mul
abbrev Zbp:=@List.mem_filter
abbrev Zbq:=@Bool.or_eq_false_iff
abbrev Zbr:=@Nat.lt_succ_self
abbrev Zbs:=@Bool.false_or
abbrev Zbt:=@List.size_toArray
abbrev Zbu:=@List.nodup_cons
abbrev Zbv:=@Int.zero_add
abbrev Zbw:=@Nat.add_assoc
abbrev Zbx:=@List.any_cons
abbrev Zby:=@List.length_eq_zero_iff
abbrev Zbz:=@List.append_eq_nil_iff
abbrev Zb0:=@Bool.and_self
abbrev Zb1:=@Bool.and_true
abbrev Zb2:=@Array.getElem?_append_left
abbrev Zb3:=@List.getElem?_toArray
abbrev Zb4:=@List.nodup_nil
abbrev Zb5:=@List.mem_range
abbrev Zb6:=@List.prefix_append
abbrev Zb7:=@Nat.pow_succ
abbrev Zb8:=@Nat.pow_le_pow_right
abbrev Zb9:=@List.any_eq_false
abbrev ZbA:=@List.nodup_append
abbrev ZbB:=@List.map_cons
abbrev ZbC:=@List.drop_succ_cons
abbrev ZbD:=@List.map_eq_nil_iff
inductive SC where
 | int (k:IntKind) (n:Int)
 | bool (b:Bool)
 | str (s:ByteArray)
 | ptr (i off:Nat)
 | nilptr
 | slice (a:Option Addr) (n c:Nat)
 | map (r:Option Nat)
 | func (f:Fn) (first cap:Array Value)
 | nilfunc
inductive SA where
 | c (x:SC)
 | agg (xs:List SC)
inductive SV where
 | one (x:SA)
 | tup (xs:List SA)
 | undef
abbrev JC:=List (Nat×Nat)
def JC.blk:JC→Nat→Nat×Nat
 | [],_=>(0,0)
 | x::_,0=>x
 | _::r,i+1=>JC.blk r i
def SC.den (e:JC):SC→Value
 | .int k n=>.int k n
 | .bool b=>.bool b
 | .str s=>.string s
 | .ptr i off=>.pointer (some ⟨(e.blk i).1,(e.blk i).2+off,none⟩)
 | .nilptr=>.pointer none
 | .slice a n c=>.slice a n c
 | .map r=>.map r
 | .func f first cap=>.func f first cap
 | .nilfunc=>.nilFunc
def SA.den (e:JC):SA→Value
 | .c x=>x.den e
 | .agg xs=>.agg (xs.map (SC.den e)).toArray
def SV.den (e:JC):SV→Value
 | .one x=>x.den e
 | .tup xs=>.tuple (xs.map (SA.den e)).toArray
 | .undef=>Go.undef
def SA.cells:SA→List SC
 | .c x=>[x]
 | .agg xs=>xs
theorem SC.den_cells (e:JC) (x:SC):(x.den e).cells=#[x.den e]:=by cases x <;> rfl
theorem SA.den_cells (e:JC) (x:SA):(x.den e).cells=(x.cells.map (SC.den e)).toArray:=by
 cases x with
 | c x=>simp [SA.den,SA.cells,SC.den_cells]
 | agg xs=>rfl
abbrev TM:=List (Nat×SV)
def TM.get:TM→Nat→Option SV
 | [],_=>none
 | (j,v)::r,k=>bif Nat.beq j k then some v else TM.get r k
def TM.put (m:TM) (k:Nat) (v:SV):TM:=(k,v)::m
structure Kn (N:Nat) (e:JC) (m:TM) (t:Array Value):Prop where
 size:t.size=N
 get:∀ k v,m.get k=some v→t[k]? = some (v.den e)
theorem Kn.put {N:Nat} {e:JC} {m:TM} {t:Array Value} (h:Kn N e m t) {k:Nat} (hk:k<N) (v:SV):Kn N e (m.put k v) (t.setIfInBounds k (v.den e)):=by
 refine⟨by simp [h.size],fun j u hj=>?_⟩
 unfold TM.put TM.get at hj
 by_cases hjk:k=j
 · subst hjk
   have:Nat.beq k k=true:=by simp
   rw [this] at hj
   simp at hj
   subst hj
   simp [h.size,hk]
 · have h1:Nat.beq k j=false:=by
    cases hb:Nat.beq k j with
    | false=>rfl
    | true=>exact absurd (Zac hb) hjk
   rw [h1] at hj
   simp only [Zad] at hj
   rw [ZaX hjk]
   exact h.get j u hj
def TM.sub (m m':TM):Prop:=∀ k v,m'.get k=some v→m.get k=some v
theorem Kn.sub {N:Nat} {e:JC} {m m':TM} {t:Array Value} (h:Kn N e m t) (hs:TM.sub m m'):Kn N e m' t:=⟨h.size,fun k v hk=>h.get k v (hs k v hk)⟩
def Qa (m:TM):List Nat→TM
 | []=>[]
 | k::r=>match m.get k with | some v=>(k,v)::Qa m r | none=>Qa m r
theorem N7 (m:TM):∀ l,TM.sub m (Qa m l)
 | [],_,_,h=>by simp [Qa,TM.get] at h
 | j::r,k,v,h=>by
  unfold Qa at h
  split at h
  · rename_i u hu
    unfold TM.get at h
    cases hb:Nat.beq j k with
    | true =>
     rw [hb] at h
     have:j=k:=by simpa using hb
     subst this
     simp at h
     subst h
     exact hu
    | false =>
     rw [hb] at h
     exact N7 m r k v h
  · exact N7 m r k v h
def Acm:Value→Option SC
 | .int k n=>some (.int k n)
 | .bool b=>some (.bool b)
 | .string s=>some (.str s)
 | .pointer none=>some .nilptr
 | .slice none n c=>some (.slice none n c)
 | .map none=>some (.map none)
 | .nilFunc=>some .nilfunc
 | _=>none
def YN:List Value→Option (List SC)
 | []=>some []
 | v::r=>match Acm v,YN r with
  | some x,some xs=>some (x::xs)
  | _,_=>none
def Ah1:Value→Option SV
 | .agg cs=>(YN cs.toList).map fun xs=>.one (.agg xs)
 | v=>(Acm v).map fun x=>.one (.c x)
def ev (m:TM):Operand→Option SV
 | .tmp k=>m.get k
 | .const v=>Ah1 v
 | .global _=>none
 | .func f=>some (.one (.c (.func (.func f) #[] #[])))
structure Abh where
 cells:List SC
 own:Option TypeId
def SQ (P:Program) (T:TypeId):Option Bool:=(P.underlying T).map fun | .struct _ | .array _ _=>true | _=>false
def IV (P:Program) (T:TypeId):Option Nat:=(P.info? T).map (·.size)
theorem Ev {P:Program} {T:TypeId} {b:Bool} (w:World) (h:SQ P T=some b):(isAgg T).run P w=.ok b w:=by
 unfold SQ at h
 obtain⟨d,hd,rfl⟩:=Za0.1 h
 simp only [isAgg,Sem.run_bind,run_underlying hd,Result.andThen_ok]
 cases d <;> rfl
theorem Bl {P:Program} {T:TypeId} {n:Nat} (w:World) (h:IV P T=some n):(sizeOf T).run P w=.ok n w:=by
 unfold IV at h
 obtain⟨d,hd,rfl⟩:=Za0.1 h
 simp [sizeOf,typeInfo,hd]
theorem LA {P:Program} {T:TypeId} (a b:Bool) (w:World) (h:P.underlying T=some .bool):(Op.equal T (.bool a) (.bool b)).run P w=.ok (a == b) w:=by
 unfold Op.equal
 rw [show Op.maxDepth=9999+1 from rfl,Op.equalIn]
 simp only [Sem.run_bind,run_underlying h,Result.andThen_ok]
 rfl
def QR (P:Program) (T:TypeId) (cs:List SC) (off:Nat):Option SA :=
 match SQ P T,IV P T with
 | some true,some n=>some (.agg ((cs.drop off).take n))
 | some false,_=>(cs[off]?).map .c
 | _,_=>none
theorem OH {α:Type} (xs:List α) (a n:Nat):xs.toArray.extract a (a+n)=((xs.drop a).take n).toArray:=by
 apply Array.ext'
 simp [List.take_drop]
theorem Gv {P:Program} {T:TypeId} {cs:List SC} {off:Nat} {v:SA} (e:JC) (w:World) (h:QR P T cs off=some v) :
  (part T (cs.map (SC.den e)).toArray off).run P w=.ok (v.den e) w:=by
 unfold QR at h
 split at h
 · rename_i n ha hn
   simp only [Option.some.injEq] at h; subst h
   simp only [part,Sem.run_bind,Ev w ha,Result.andThen_ok,if_true,Bl w hn,Sem.run_pure,SA.den]
   rw [OH]; simp
 · rename_i ha
   obtain⟨c,hc,rfl⟩:=Za0.1 h
   simp only [part,Sem.run_bind,Ev w ha,Result.andThen_ok,Za4,if_false]
   simp [hc,SA.den]
 · simp at h
def SR (P:Program):List Field→Option (List (Nat×Nat))
 | []=>some []
 | f::r=>match IV P f.type,SR P r with
  | some n,some ps=>some ((f.offset,n)::ps)
  | _,_=>none
theorem OI {P:Program} (w:World):∀ {fs:List Field} {ps:List (Nat×Nat)},SR P fs=some ps →
  (fs.mapM fun f=>(do pure (f.offset,← sizeOf f.type):Sem (Nat×Nat))).run P w=.ok ps w
 | [],ps,h=>by simp [SR] at h; subst h; rfl
 | f::r,ps,h=>by
  unfold SR at h
  split at h
  · rename_i n qs hn hqs
    simp at h; subst h
    have:=OI w hqs
    rw [List.mapM_cons]
    simp only [Sem.run_bind,Bl w hn,Result.andThen_ok,Sem.run_pure,this]
  · simp at h
theorem Ix {α:Type} {a:Array α} {l:List α} (h:a.toList=l):a=l.toArray:=by rw [← h]
theorem RO {a:Act} {d:List Deferred} (h:a.defers=d):a=Act.mk a.tmps d:=by cases a; subst h; rfl
section
variable {P:Program} {ops:Array Oper} {N:Nat} {e:JC} {m m':TM} {t:Array Value} {d:List Deferred} {pl:List Abh} {w:World} {Q:Exit→Act→World→Prop}
def Hr (P:Program) (ops:Array Oper) (Q:Exit→Act→World→Prop) (i:Nat) (a:Act) (w:World):Prop:=wpOps P ops Q (List.range' i (ops.size-i)) a w
theorem SS {id:Nat} {a:Act} (h:Hr P ops Q 0 a w):(Code.region id ops false).wp P Q a w:=by
 refine wp_region ?_
 unfold Hr at h
 rw [List.range_eq_range']
 simpa using h
theorem Abi {i:Nat} {a:Act} (hi:ops.size≤i) (h:Q .normal a w):Hr P ops Q i a w:=by
 unfold Hr
 rw [show ops.size-i=0 by omega]
 exact h
theorem Ad4 {i:Nat} {a:Act} (hi:i<ops.size) (h:wpOp P ops Q i (Hr P ops Q (i+1)) a w):Hr P ops Q i a w:=by
 unfold Hr
 rw [show ops.size-i=(ops.size-(i+1))+1 by omega,List.range'_succ,wpOps_cons]
 exact h
end
section
variable {P:Program} {ops:Array Oper} {X:List Nat} {Q:Exit→Act→World→Prop} {S:World→Prop}
def AiL (ops:Array Oper) (listed:Array Bool):Prop:=∀ (a:Nat)(o:Oper),ops[a]? = some o→listed.getD a false=true→∀ e∈o.after,Region.binds .any e=true→listed.getD e.on false=true
theorem AiL.add {ops:Array Oper} {listed:Array Bool} (hs:AiL ops listed) {j:Nat} (hj:j∈Region.ready .any ops listed):AiL ops (listed.setIfInBounds j true):=fun a o ho hl e he hb=>by
 by_cases haj:j=a
 · subst haj
   obtain⟨_,o',ho',hall⟩:=mem_ready.1 hj
   rw [ho] at ho'
   cases ho'
   exact getD_set_true (hall e he hb)
 · rw [getD_set_ne false haj] at hl
   exact getD_set_true (hs a o ho hl e he hb)
def LC (n:Nat):List Nat→Array Bool
 | []=>Array.replicate n false
 | i::r=>(LC n r).setIfInBounds i true
def AiM (P:Program) (ops:Array Oper) (Q:Exit→Act→World→Prop) (done:List Nat) (a:Act) (w:World):Prop :=
 wpAny P .any ops Q (ops.size-done.length) (LC ops.size done) a w
theorem QS {id:Nat} {a:Act} {w:World} (hm:P.follows .mixedOrders=true) (h:AiM P ops Q [] a w.drew):(Code.region id ops true).wp P Q a w :=
 wp_region_any hm (by unfold AiM at h; simpa [LC] using h)
end
end Go.Proofs.YtkpgggfibljflaaGreatDoor
