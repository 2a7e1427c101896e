/- What a proof leans on: a machine that steps through code, and what functions compute. -/
import Derived.WalkKit
import Derived.OrdersHeld
import Derived.Below
import Derived.Deep.AppendLies
import Derived.KernelRfl
import Derived.Laws.StructEq
set_option linter.all false
namespace Go.Proofs.YtkpgggfibljflaaGreatDoor
open Go Go.RowKit
theorem Zaa {A B:Type _} (a:A) (f:A→Option B):(some a).bind f=f a:=rfl
theorem Zab {A:Sort _} (a b:A):cond true a b=a:=rfl
abbrev Zac:=@Nat.eq_of_beq_eq_true
theorem Zad {A:Sort _} (a b:A):cond false a b=b:=rfl
abbrev Zae:=@decide_eq_false
abbrev Zaf:=@decide_eq_true
abbrev Zag:=@Option.bind_eq_some_iff
abbrev Zah:=@Nat.le_of_ble_eq_true
abbrev Zai:=@Array.getElem?_eq_some_iff
abbrev Zaj:=@List.drop_eq_getElem_cons
abbrev Zak:=@List.mem_cons
abbrev Zal:=@List.mem_append
abbrev Zam:=@Nat.not_lt_zero
abbrev Zan:=@List.getElem?_eq_getElem
abbrev Zao:=@Nat.lt_of_lt_of_le
abbrev Zap:=@Nat.le_refl
abbrev Zaq:=@Bool.and_eq_true
abbrev Zar:=@List.drop_zero
abbrev Zas:=@Nat.zero_add
abbrev Zat:=@List.length_append
abbrev Zau:=@List.getElem?_append_left
abbrev Zav:=@List.nil_append
abbrev Zaw:=@List.getElem?_eq_some_iff
abbrev Zax:=@Option.map_eq_some_iff
abbrev Zay:=@Array.getElem?_toList
abbrev Zaz:=@List.mem_singleton
abbrev Za0:=@Bool.false_eq_true
abbrev Za1:=@List.getElem_mem
abbrev Za2:=@List.getElem?_eq_none
theorem Za3 {A B C:Type _} (f:A→C) (g:B→C) (a:A):Sum.elim f g (.inl a)=f a:=rfl
theorem Za4 :(!false)=true:=rfl
abbrev Za5:=@Nat.lt_or_ge
abbrev Za6:=@List.length_cons
abbrev Za7:=@Nat.ble_eq_true_of_le
abbrev Za8:=@List.append_assoc
abbrev Za9:=@List.prefix_refl
abbrev ZaA:=@List.mem_of_getElem?
theorem ZaB :(!true)=false:=rfl
abbrev ZaC:=@List.eq_nil_of_length_eq_zero
abbrev ZaD:=@List.all_eq_true
abbrev ZaE:=@List.length_take
abbrev ZaF:=@Array.getD_eq_getD_getElem?
abbrev ZaG:=@List.length_drop
abbrev ZaH:=@List.length_map
abbrev ZaI:=@Array.getElem?_eq_getElem
abbrev ZaJ:=@Bool.true_and
abbrev ZaK:=@List.take_succ_eq_append_getElem
abbrev ZaL:=@List.take_of_length_le
abbrev ZaM:=@List.mem_append_left
abbrev ZaN:=@Array.length_toList
abbrev ZaO:=@Nat.le_trans
abbrev ZaP:=@List.take_append_of_le_length
abbrev ZaQ:=@List.getElem?_map
abbrev ZaR:=@List.mem_map
abbrev ZaS:=@List.mem_cons_of_mem
abbrev ZaT:=@Bool.or_eq_true
abbrev ZaU:=@List.all_cons
abbrev ZaV:=@List.getD_eq_getElem?_getD
abbrev ZaW:=@List.drop_append_of_le_length
abbrev ZaX:=@List.any_eq_true
abbrev ZaY:=@Array.getElem?_setIfInBounds_ne
abbrev ZaZ:=@List.cons_append
abbrev Zba:=@List.pairwise_cons
abbrev Zbb:=@List.take_append_drop
abbrev Zbc:=@List.getElem?_append_right
abbrev Zbd:=@Array.toArray_toList
abbrev Zbe:=@Array.getElem?_push
abbrev Zbf:=@Nat.add_assoc
abbrev Zbg:=@List.drop_drop
abbrev Zbh:=@Nat.add_mul
abbrev Zbi:=@List.append_nil
abbrev Zbj:=@Nat.eq_zero_or_pos
abbrev Zbk:=@Nat.pow_le_pow_right
abbrev Zbl:=@Bool.or_eq_false_iff
abbrev Zbm:=@List.size_toArray
abbrev Zbn:=@List.nodup_cons
abbrev Zbo:=@Nat.add_zero
abbrev Zbp:=@List.length_nil
abbrev Zbq:=@Nat.pow_succ
abbrev Zbr:=@Nat.sub_zero
abbrev Zbs:=@List.append_eq_nil_iff
abbrev Zbt:=@List.map_cons
abbrev Zbu:=@Array.getElem?_append_left
abbrev Zbv:=@List.nodup_nil
abbrev Zbw:=@List.mem_range
abbrev Zbx:=@List.prefix_append
abbrev Zby:=@List.mem_filter
abbrev Zbz:=@List.any_eq_false
abbrev Zb0:=@Bool.and_self
abbrev Zb1:=@List.any_cons
abbrev Zb2:=@List.length_eq_zero_iff
abbrev Zb3:=@List.drop_succ_cons
abbrev Zb4:=@List.map_eq_nil_iff
inductive SC where
 | int (k:IntKind) (n:Int)
 | bool (b:Bool)
 | str (s:ByteArray)
 | ptr (i off:Nat)
 | nilptr
 | slice (a:Option Addr) (n c:Nat)
 | map (r:Option Nat)
 | func (f:Fn) (first cap:Array Value)
 | nilfunc
inductive SA where
 | c (x:SC)
 | agg (xs:List SC)
inductive SV where
 | one (x:SA)
 | tup (xs:List SA)
 | undef
abbrev RR:=List (Nat×Nat)
def RR.blk:RR→Nat→Nat×Nat
 | [],_=>(0,0)
 | x::_,0=>x
 | _::r,i+1=>RR.blk r i
def SC.den (e:RR):SC→Value
 | .int k n=>.int k n
 | .bool b=>.bool b
 | .str s=>.string s
 | .ptr i off=>.pointer (some ⟨(e.blk i).1,(e.blk i).2+off,none⟩)
 | .nilptr=>.pointer none
 | .slice a n c=>.slice a n c
 | .map r=>.map r
 | .func f first cap=>.func f first cap
 | .nilfunc=>.nilFunc
def SA.den (e:RR):SA→Value
 | .c x=>x.den e
 | .agg xs=>.agg (xs.map (SC.den e)).toArray
def SV.den (e:RR):SV→Value
 | .one x=>x.den e
 | .tup xs=>.tuple (xs.map (SA.den e)).toArray
 | .undef=>Go.undef
def SA.cells:SA→List SC
 | .c x=>[x]
 | .agg xs=>xs
theorem SC.den_cells (e:RR) (x:SC):(x.den e).cells=#[x.den e]:=by cases x <;> rfl
theorem SA.den_cells (e:RR) (x:SA):(x.den e).cells=(x.cells.map (SC.den e)).toArray:=by
 cases x with
 | c x=>simp [SA.den,SA.cells,SC.den_cells]
 | agg xs=>rfl
abbrev TM:=List (Nat×SV)
def TM.get:TM→Nat→Option SV
 | [],_=>none
 | (j,v)::r,k=>bif Nat.beq j k then some v else TM.get r k
def TM.put (m:TM) (k:Nat) (v:SV):TM:=(k,v)::m
structure Kn (N:Nat) (e:RR) (m:TM) (t:Array Value):Prop where
 size:t.size=N
 get:∀ k v,m.get k=some v→t[k]? = some (v.den e)
theorem Kn.put {N:Nat} {e:RR} {m:TM} {t:Array Value} (h:Kn N e m t) {k:Nat} (hk:k<N) (v:SV):Kn N e (m.put k v) (t.setIfInBounds k (v.den e)):=by
 refine⟨by simp [h.size],fun j u hj=>?_⟩
 unfold TM.put TM.get at hj
 by_cases hjk:k=j
 · subst hjk
   have:Nat.beq k k=true:=by simp
   rw [this] at hj
   simp at hj
   subst hj
   simp [h.size,hk]
 · have h1:Nat.beq k j=false:=by
    cases hb:Nat.beq k j with
    | false=>rfl
    | true=>exact absurd (Zac hb) hjk
   rw [h1] at hj
   simp only [Zad] at hj
   rw [ZaY hjk]
   exact h.get j u hj
def TM.sub (m m':TM):Prop:=∀ k v,m'.get k=some v→m.get k=some v
theorem Kn.sub {N:Nat} {e:RR} {m m':TM} {t:Array Value} (h:Kn N e m t) (hs:TM.sub m m'):Kn N e m' t:=⟨h.size,fun k v hk=>h.get k v (hs k v hk)⟩
def ApP:Value→Option SC
 | .int k n=>some (.int k n)
 | .bool b=>some (.bool b)
 | .string s=>some (.str s)
 | .pointer none=>some .nilptr
 | .slice none n c=>some (.slice none n c)
 | .map none=>some (.map none)
 | .nilFunc=>some .nilfunc
 | _=>none
def Am2:List Value→Option (List SC)
 | []=>some []
 | v::r=>match ApP v,Am2 r with
  | some x,some xs=>some (x::xs)
  | _,_=>none
def Avc:Value→Option SV
 | .agg cs=>(Am2 cs.toList).map fun xs=>.one (.agg xs)
 | v=>(ApP v).map fun x=>.one (.c x)
def ev (m:TM):Operand→Option SV
 | .tmp k=>m.get k
 | .const v=>Avc v
 | .global _=>none
 | .func f=>some (.one (.c (.func (.func f) #[] #[])))
structure Ao8 where
 cells:List SC
 own:Option TypeId
def Ag2 (P:Program) (T:TypeId):Option Bool:=(P.underlying T).map fun | .struct _ | .array _ _=>true | _=>false
def Qc (P:Program) (T:TypeId):Option Nat:=(P.info? T).map (·.size)
theorem Gv {P:Program} {T:TypeId} {b:Bool} (w:World) (h:Ag2 P T=some b):(isAgg T).run P w=.ok b w:=by
 unfold Ag2 at h
 obtain⟨d,hd,rfl⟩:=Zax.1 h
 simp only [isAgg,Sem.run_bind,run_underlying hd,Result.andThen_ok]
 cases d <;> rfl
theorem Br {P:Program} {T:TypeId} {n:Nat} (w:World) (h:Qc P T=some n):(sizeOf T).run P w=.ok n w:=by
 unfold Qc at h
 obtain⟨d,hd,rfl⟩:=Zax.1 h
 simp [sizeOf,typeInfo,hd]
theorem Vs {P:Program} {T:TypeId} (a b:Bool) (w:World) (h:P.underlying T=some .bool):(Op.equal T (.bool a) (.bool b)).run P w=.ok (a == b) w:=by
 unfold Op.equal
 rw [show Op.maxDepth=9999+1 from rfl,Op.equalIn]
 simp only [Sem.run_bind,run_underlying h,Result.andThen_ok]
 rfl
def AdS (P:Program) (T:TypeId) (cs:List SC) (off:Nat):Option SA :=
 match Ag2 P T,Qc P T with
 | some true,some n=>some (.agg ((cs.drop off).take n))
 | some false,_=>(cs[off]?).map .c
 | _,_=>none
theorem AaC {α:Type} (xs:List α) (a n:Nat):xs.toArray.extract a (a+n)=((xs.drop a).take n).toArray:=by
 apply Array.ext'
 simp [List.take_drop]
theorem K2 {P:Program} {T:TypeId} {cs:List SC} {off:Nat} {v:SA} (e:RR) (w:World) (h:AdS P T cs off=some v) :
  (part T (cs.map (SC.den e)).toArray off).run P w=.ok (v.den e) w:=by
 unfold AdS at h
 split at h
 · rename_i n ha hn
   simp only [Option.some.injEq] at h; subst h
   simp only [part,Sem.run_bind,Gv w ha,Result.andThen_ok,if_true,Br w hn,Sem.run_pure,SA.den]
   rw [AaC]; simp
 · rename_i ha
   obtain⟨c,hc,rfl⟩:=Zax.1 h
   simp only [part,Sem.run_bind,Gv w ha,Result.andThen_ok,Za0,if_false]
   simp [hc,SA.den]
 · simp at h
def Ag3 (P:Program):List Field→Option (List (Nat×Nat))
 | []=>some []
 | f::r=>match Qc P f.type,Ag3 P r with
  | some n,some ps=>some ((f.offset,n)::ps)
  | _,_=>none
theorem AaD {P:Program} (w:World):∀ {fs:List Field} {ps:List (Nat×Nat)},Ag3 P fs=some ps →
  (fs.mapM fun f=>(do pure (f.offset,← sizeOf f.type):Sem (Nat×Nat))).run P w=.ok ps w
 | [],ps,h=>by simp [Ag3] at h; subst h; rfl
 | f::r,ps,h=>by
  unfold Ag3 at h
  split at h
  · rename_i n qs hn hqs
    simp at h; subst h
    have:=AaD w hqs
    rw [List.mapM_cons]
    simp only [Sem.run_bind,Br w hn,Result.andThen_ok,Sem.run_pure,this]
  · simp at h
theorem ON {α:Type} {a:Array α} {l:List α} (h:a.toList=l):a=l.toArray:=by rw [← h]
theorem AfD {a:Act} {d:List Deferred} (h:a.defers=d):a=Act.mk a.tmps d:=by cases a; subst h; rfl
section
variable {P:Program} {ops:Array Oper} {N:Nat} {e:RR} {m m':TM} {t:Array Value} {d:List Deferred} {pl:List Ao8} {w:World} {Q:Exit→Act→World→Prop}
def ME (P:Program) (ops:Array Oper) (Q:Exit→Act→World→Prop) (i:Nat) (a:Act) (w:World):Prop:=wpOps P ops Q (List.range' i (ops.size-i)) a w
theorem Ag4 {id:Nat} {a:Act} (h:ME P ops Q 0 a w):(Code.region id ops false).wp P Q a w:=by
 refine wp_region ?_
 unfold ME at h
 rw [List.range_eq_range']
 simpa using h
theorem Ao9 {i:Nat} {a:Act} (hi:ops.size≤i) (h:Q .normal a w):ME P ops Q i a w:=by
 unfold ME
 rw [show ops.size-i=0 by omega]
 exact h
theorem Ark {i:Nat} {a:Act} (hi:i<ops.size) (h:wpOp P ops Q i (ME P ops Q (i+1)) a w):ME P ops Q i a w:=by
 unfold ME
 rw [show ops.size-i=(ops.size-(i+1))+1 by omega,List.range'_succ,wpOps_cons]
 exact h
end
section
variable {P:Program} {ops:Array Oper} {X:List Nat} {Q:Exit→Act→World→Prop} {S:World→Prop}
def Awq (ops:Array Oper) (listed:Array Bool):Prop:=∀ (a:Nat)(o:Oper),ops[a]? = some o→listed.getD a false=true→∀ e∈o.after,Region.binds .any e=true→listed.getD e.on false=true
theorem Awq.add {ops:Array Oper} {listed:Array Bool} (hs:Awq ops listed) {j:Nat} (hj:j∈Region.ready .any ops listed):Awq ops (listed.setIfInBounds j true):=fun a o ho hl e he hb=>by
 by_cases haj:j=a
 · subst haj
   obtain⟨_,o',ho',hall⟩:=mem_ready.1 hj
   rw [ho] at ho'
   cases ho'
   exact getD_set_true (hall e he hb)
 · rw [getD_set_ne false haj] at hl
   exact getD_set_true (hs a o ho hl e he hb)
def Vt (n:Nat):List Nat→Array Bool
 | []=>Array.replicate n false
 | i::r=>(Vt n r).setIfInBounds i true
def Awr (P:Program) (ops:Array Oper) (Q:Exit→Act→World→Prop) (done:List Nat) (a:Act) (w:World):Prop :=
 wpAny P .any ops Q (ops.size-done.length) (Vt ops.size done) a w
theorem AdT {id:Nat} {a:Act} {w:World} (hm:P.follows .mixedOrders=true) (h:Awr P ops Q [] a w.drew):(Code.region id ops true).wp P Q a w :=
 wp_region_any hm (by unfold Awr at h; simpa [Vt] using h)
end
end Go.Proofs.YtkpgggfibljflaaGreatDoor
