/- What a proof leans on: a machine that steps through code, and what functions compute. -/
import Derived.WalkKit
import Derived.OrdersHeld
import Derived.Below
import Derived.Deep.AppendLies
import Derived.KernelRfl
import Derived.Laws.StructEq
set_option linter.all false
namespace Go.Proofs.YtkpgggfibljflaaGreatDoor
open Go Go.RowKit
theorem Zaa {A B:Type _} (a:A) (f:A→Option B):(some a).bind f=f a:=rfl
abbrev Zab:=@Nat.eq_of_beq_eq_true
theorem Zac {A:Sort _} (a b:A):cond true a b=a:=rfl
theorem Zad {A:Sort _} (a b:A):cond false a b=b:=rfl
abbrev Zae:=@Option.bind_eq_some_iff
abbrev Zaf:=@Nat.le_of_ble_eq_true
abbrev Zag:=@Array.getElem?_eq_some_iff
abbrev Zah:=@decide_eq_false
abbrev Zai:=@Nat.lt_of_lt_of_le
abbrev Zaj:=@List.drop_eq_getElem_cons
abbrev Zak:=@decide_eq_true
abbrev Zal:=@Nat.le_refl
abbrev Zam:=@List.mem_cons
abbrev Zan:=@List.length_append
abbrev Zao:=@List.getElem?_eq_getElem
abbrev Zap:=@List.mem_append
abbrev Zaq:=@List.getElem?_eq_some_iff
abbrev Zar:=@Nat.zero_add
abbrev Zas:=@List.length_cons
abbrev Zat:=@Option.map_eq_some_iff
abbrev Zau:=@List.getElem?_append_left
abbrev Zav:=@Nat.not_lt_zero
abbrev Zaw:=@Array.getElem?_toList
abbrev Zax:=@Bool.and_eq_true
abbrev Zay:=@List.drop_zero
abbrev Zaz:=@Bool.false_eq_true
abbrev Za0:=@List.getElem?_eq_none
abbrev Za1:=@Nat.ble_eq_true_of_le
abbrev Za2:=@Nat.lt_or_ge
abbrev Za3:=@List.eq_nil_of_length_eq_zero
abbrev Za4:=@List.mem_of_getElem?
abbrev Za5:=@List.prefix_refl
abbrev Za6:=@List.nil_append
abbrev Za7:=@List.mem_singleton
theorem Za8 {A B C:Type _} (f:A→C) (g:B→C) (a:A):Sum.elim f g (.inl a)=f a:=rfl
abbrev Za9:=@List.getElem_mem
abbrev ZaA:=@Array.getD_eq_getD_getElem?
abbrev ZaB:=@Array.getElem?_eq_getElem
abbrev ZaC:=@List.append_assoc
abbrev ZaD:=@List.getElem?_map
abbrev ZaE:=@List.all_eq_true
abbrev ZaF:=@Nat.le_trans
abbrev ZaG:=@Array.length_toList
abbrev ZaH:=@List.length_map
theorem ZaI :(!false)=true:=rfl
abbrev ZaJ:=@List.getD_eq_getElem?_getD
abbrev ZaK:=@List.pairwise_cons
abbrev ZaL:=@Bool.or_eq_true
theorem ZaM :(!true)=false:=rfl
abbrev ZaN:=@Array.getElem?_setIfInBounds_ne
abbrev ZaO:=@List.getElem?_append_right
abbrev ZaP:=@List.cons_append
abbrev ZaQ:=@List.drop_append_of_le_length
abbrev ZaR:=@List.mem_append_left
abbrev ZaS:=@Bool.true_and
abbrev ZaT:=@List.all_cons
abbrev ZaU:=@List.length_take
abbrev ZaV:=@List.mem_map
abbrev ZaW:=@Nat.eq_zero_or_pos
abbrev ZaX:=@Array.toArray_toList
abbrev ZaY:=@List.take_append_of_le_length
abbrev ZaZ:=@Array.getElem?_push
abbrev Zba:=@List.take_append_drop
abbrev Zbb:=@Array.getElem?_modify
abbrev Zbc:=@Nat.add_mul
abbrev Zbd:=@List.append_nil
abbrev Zbe:=@List.mem_cons_of_mem
abbrev Zbf:=@Nat.lt_succ_self
abbrev Zbg:=@List.size_toArray
abbrev Zbh:=@List.length_nil
abbrev Zbi:=@List.nodup_cons
abbrev Zbj:=@List.not_mem_nil
abbrev Zbk:=@Nat.add_assoc
abbrev Zbl:=@List.take_of_length_le
abbrev Zbm:=@List.map_cons
abbrev Zbn:=@Array.getElem?_append_left
abbrev Zbo:=@List.length_drop
abbrev Zbp:=@List.any_eq_true
abbrev Zbq:=@List.length_replicate
abbrev Zbr:=@List.length_filter_le
abbrev Zbs:=@List.getElem?_toArray
abbrev Zbt:=@List.nodup_nil
abbrev Zbu:=@List.mem_range
abbrev Zbv:=@List.prefix_append
abbrev Zbw:=@List.mem_filter
abbrev Zbx:=@List.replicate_succ
inductive SC where
 | int (k:IntKind) (n:Int)
 | bool (b:Bool)
 | str (s:ByteArray)
 | ptr (i off:Nat)
 | nilptr
 | slice (a:Option Addr) (n c:Nat)
 | map (r:Option Nat)
 | func (f:Fn) (first cap:Array Value)
 | nilfunc
inductive SA where
 | c (x:SC)
 | agg (xs:List SC)
inductive SV where
 | one (x:SA)
 | tup (xs:List SA)
 | undef
abbrev HO:=List (Nat×Nat)
def HO.blk:HO→Nat→Nat×Nat
 | [],_=>(0,0)
 | x::_,0=>x
 | _::r,i+1=>HO.blk r i
def SC.den (e:HO):SC→Value
 | .int k n=>.int k n
 | .bool b=>.bool b
 | .str s=>.string s
 | .ptr i off=>.pointer (some ⟨(e.blk i).1,(e.blk i).2+off,none⟩)
 | .nilptr=>.pointer none
 | .slice a n c=>.slice a n c
 | .map r=>.map r
 | .func f first cap=>.func f first cap
 | .nilfunc=>.nilFunc
def SA.den (e:HO):SA→Value
 | .c x=>x.den e
 | .agg xs=>.agg (xs.map (SC.den e)).toArray
def SV.den (e:HO):SV→Value
 | .one x=>x.den e
 | .tup xs=>.tuple (xs.map (SA.den e)).toArray
 | .undef=>Go.undef
def SA.cells:SA→List SC
 | .c x=>[x]
 | .agg xs=>xs
theorem SC.den_cells (e:HO) (x:SC):(x.den e).cells=#[x.den e]:=by cases x <;> rfl
theorem SA.den_cells (e:HO) (x:SA):(x.den e).cells=(x.cells.map (SC.den e)).toArray:=by
 cases x with
 | c x=>simp [SA.den,SA.cells,SC.den_cells]
 | agg xs=>rfl
abbrev TM:=List (Nat×SV)
def TM.get:TM→Nat→Option SV
 | [],_=>none
 | (j,v)::r,k=>bif Nat.beq j k then some v else TM.get r k
def TM.put (m:TM) (k:Nat) (v:SV):TM:=(k,v)::m
structure Kn (N:Nat) (e:HO) (m:TM) (t:Array Value):Prop where
 size:t.size=N
 get:∀ k v,m.get k=some v→t[k]? = some (v.den e)
theorem Kn.put {N:Nat} {e:HO} {m:TM} {t:Array Value} (h:Kn N e m t) {k:Nat} (hk:k<N) (v:SV):Kn N e (m.put k v) (t.setIfInBounds k (v.den e)):=by
 refine⟨by simp [h.size],fun j u hj=>?_⟩
 unfold TM.put TM.get at hj
 by_cases hjk:k=j
 · subst hjk
   have:Nat.beq k k=true:=by simp
   rw [this] at hj
   simp at hj
   subst hj
   simp [h.size,hk]
 · have h1:Nat.beq k j=false:=by
    cases hb:Nat.beq k j with
    | false=>rfl
    | true=>exact absurd (Zab hb) hjk
   rw [h1] at hj
   simp only [Zad] at hj
   rw [ZaN hjk]
   exact h.get j u hj
def TM.sub (m m':TM):Prop:=∀ k v,m'.get k=some v→m.get k=some v
theorem Kn.sub {N:Nat} {e:HO} {m m':TM} {t:Array Value} (h:Kn N e m t) (hs:TM.sub m m'):Kn N e m' t:=⟨h.size,fun k v hk=>h.get k v (hs k v hk)⟩
def XV:Value→Option SC
 | .int k n=>some (.int k n)
 | .bool b=>some (.bool b)
 | .string s=>some (.str s)
 | .pointer none=>some .nilptr
 | .slice none n c=>some (.slice none n c)
 | .map none=>some (.map none)
 | .nilFunc=>some .nilfunc
 | _=>none
def UQ:List Value→Option (List SC)
 | []=>some []
 | v::r=>match XV v,UQ r with
  | some x,some xs=>some (x::xs)
  | _,_=>none
def AcB:Value→Option SV
 | .agg cs=>(UQ cs.toList).map fun xs=>.one (.agg xs)
 | v=>(XV v).map fun x=>.one (.c x)
def ev (m:TM):Operand→Option SV
 | .tmp k=>m.get k
 | .const v=>AcB v
 | .global _=>none
 | .func f=>some (.one (.c (.func (.func f) #[] #[])))
structure WR where
 cells:List SC
 own:Option TypeId
def Pz (P:Program) (T:TypeId):Option Bool:=(P.underlying T).map fun | .struct _ | .array _ _=>true | _=>false
def Hg (P:Program) (T:TypeId):Option Nat:=(P.info? T).map (·.size)
theorem Dr {P:Program} {T:TypeId} {b:Bool} (w:World) (h:Pz P T=some b):(isAgg T).run P w=.ok b w:=by
 unfold Pz at h
 obtain⟨d,hd,rfl⟩:=Zat.1 h
 simp only [isAgg,Sem.run_bind,run_underlying hd,Result.andThen_ok]
 cases d <;> rfl
theorem AW {P:Program} {T:TypeId} {n:Nat} (w:World) (h:Hg P T=some n):(sizeOf T).run P w=.ok n w:=by
 unfold Hg at h
 obtain⟨d,hd,rfl⟩:=Zat.1 h
 simp [sizeOf,typeInfo,hd]
theorem Jx {P:Program} {T:TypeId} (a b:Bool) (w:World) (h:P.underlying T=some .bool):(Op.equal T (.bool a) (.bool b)).run P w=.ok (a == b) w:=by
 unfold Op.equal
 rw [show Op.maxDepth=9999+1 from rfl,Op.equalIn]
 simp only [Sem.run_bind,run_underlying h,Result.andThen_ok]
 rfl
def NN (P:Program) (T:TypeId) (cs:List SC) (off:Nat):Option SA :=
 match Pz P T,Hg P T with
 | some true,some n=>some (.agg ((cs.drop off).take n))
 | some false,_=>(cs[off]?).map .c
 | _,_=>none
theorem Mb {α:Type} (xs:List α) (a n:Nat):xs.toArray.extract a (a+n)=((xs.drop a).take n).toArray:=by
 apply Array.ext'
 simp [List.take_drop]
theorem EN {P:Program} {T:TypeId} {cs:List SC} {off:Nat} {v:SA} (e:HO) (w:World) (h:NN P T cs off=some v) :
  (part T (cs.map (SC.den e)).toArray off).run P w=.ok (v.den e) w:=by
 unfold NN at h
 split at h
 · rename_i n ha hn
   simp only [Option.some.injEq] at h; subst h
   simp only [part,Sem.run_bind,Dr w ha,Result.andThen_ok,if_true,AW w hn,Sem.run_pure,SA.den]
   rw [Mb]; simp
 · rename_i ha
   obtain⟨c,hc,rfl⟩:=Zat.1 h
   simp only [part,Sem.run_bind,Dr w ha,Result.andThen_ok,Zaz,if_false]
   simp [hc,SA.den]
 · simp at h
def P0 (P:Program):List Field→Option (List (Nat×Nat))
 | []=>some []
 | f::r=>match Hg P f.type,P0 P r with
  | some n,some ps=>some ((f.offset,n)::ps)
  | _,_=>none
theorem Mc {P:Program} (w:World):∀ {fs:List Field} {ps:List (Nat×Nat)},P0 P fs=some ps →
  (fs.mapM fun f=>(do pure (f.offset,← sizeOf f.type):Sem (Nat×Nat))).run P w=.ok ps w
 | [],ps,h=>by simp [P0] at h; subst h; rfl
 | f::r,ps,h=>by
  unfold P0 at h
  split at h
  · rename_i n qs hn hqs
    simp at h; subst h
    have:=Mc w hqs
    rw [List.mapM_cons]
    simp only [Sem.run_bind,AW w hn,Result.andThen_ok,Sem.run_pure,this]
  · simp at h
theorem G5 {α:Type} {a:Array α} {l:List α} (h:a.toList=l):a=l.toArray:=by rw [← h]
theorem OJ {a:Act} {d:List Deferred} (h:a.defers=d):a=Act.mk a.tmps d:=by cases a; subst h; rfl
section
variable {P:Program} {ops:Array Oper} {N:Nat} {e:HO} {m m':TM} {t:Array Value} {d:List Deferred} {pl:List WR} {w:World} {Q:Exit→Act→World→Prop}
def FF (P:Program) (ops:Array Oper) (Q:Exit→Act→World→Prop) (i:Nat) (a:Act) (w:World):Prop:=wpOps P ops Q (List.range' i (ops.size-i)) a w
theorem P1 {id:Nat} {a:Act} (h:FF P ops Q 0 a w):(Code.region id ops false).wp P Q a w:=by
 refine wp_region ?_
 unfold FF at h
 rw [List.range_eq_range']
 simpa using h
theorem WS {i:Nat} {a:Act} (hi:ops.size≤i) (h:Q .normal a w):FF P ops Q i a w:=by
 unfold FF
 rw [show ops.size-i=0 by omega]
 exact h
theorem Zg {i:Nat} {a:Act} (hi:i<ops.size) (h:wpOp P ops Q i (FF P ops Q (i+1)) a w):FF P ops Q i a w:=by
 unfold FF
 rw [show ops.size-i=(ops.size-(i+1))+1 by omega,List.range'_succ,wpOps_cons]
 exact h
end
section
variable {P:Program} {ops:Array Oper} {X:List Nat} {Q:Exit→Act→World→Prop} {S:World→Prop}
def AdS (ops:Array Oper) (listed:Array Bool):Prop:=∀ (a:Nat)(o:Oper),ops[a]? = some o→listed.getD a false=true→∀ e∈o.after,Region.binds .any e=true→listed.getD e.on false=true
theorem AdS.add {ops:Array Oper} {listed:Array Bool} (hs:AdS ops listed) {j:Nat} (hj:j∈Region.ready .any ops listed):AdS ops (listed.setIfInBounds j true):=fun a o ho hl e he hb=>by
 by_cases haj:j=a
 · subst haj
   obtain⟨_,o',ho',hall⟩:=mem_ready.1 hj
   rw [ho] at ho'
   cases ho'
   exact getD_set_true (hall e he hb)
 · rw [getD_set_ne false haj] at hl
   exact getD_set_true (hs a o ho hl e he hb)
def Jy (n:Nat):List Nat→Array Bool
 | []=>Array.replicate n false
 | i::r=>(Jy n r).setIfInBounds i true
def AdT (P:Program) (ops:Array Oper) (Q:Exit→Act→World→Prop) (done:List Nat) (a:Act) (w:World):Prop :=
 wpAny P .any ops Q (ops.size-done.length) (Jy ops.size done) a w
theorem NO {id:Nat} {a:Act} {w:World} (hm:P.follows .mixedOrders=true) (h:AdT P ops Q [] a w.drew):(Code.region id ops true).wp P Q a w :=
 wp_region_any hm (by unfold AdT at h; simpa [Jy] using h)
end
end Go.Proofs.YtkpgggfibljflaaGreatDoor
