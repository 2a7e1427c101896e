/- What a proof leans on: a machine that steps through code, and what functions compute. -/
import Derived.WalkKit
import Derived.OrdersHeld
import Derived.Below
import Derived.Deep.AppendLies
import Derived.KernelRfl
import Derived.Laws.StructEq
set_option linter.all false
namespace Go.Proofs.YtkpgggfibljflaaGreatDoor
open Go Go.RowKit
inductive SC where
  | int (k : IntKind) (n : Int)
  | bool (b : Bool)
  | str (s : ByteArray)
  | ptr (i off : Nat)
  | nilptr
  | slice (a : Option Addr) (n c : Nat)
  | map (r : Option Nat)
  | func (f : Fn) (first cap : Array Value)
  | nilfunc
inductive SA where
  | c (x : SC)
  | agg (xs : List SC)
inductive SV where
  | one (x : SA)
  | tup (xs : List SA)
  | undef
abbrev Env := List (Nat × Nat)
def Env.blk : Env → Nat → Nat × Nat
  | [], _ => (0, 0)
  | x :: _, 0 => x
  | _ :: r, i + 1 => Env.blk r i
def SC.den (e : Env) : SC → Value
  | .int k n => .int k n
  | .bool b => .bool b
  | .str s => .string s
  | .ptr i off => .pointer (some ⟨(e.blk i).1, (e.blk i).2 + off, none⟩)
  | .nilptr => .pointer none
  | .slice a n c => .slice a n c
  | .map r => .map r
  | .func f first cap => .func f first cap
  | .nilfunc => .nilFunc
def SA.den (e : Env) : SA → Value
  | .c x => x.den e
  | .agg xs => .agg (xs.map (SC.den e)).toArray
def SV.den (e : Env) : SV → Value
  | .one x => x.den e
  | .tup xs => .tuple (xs.map (SA.den e)).toArray
  | .undef => Go.undef
def SA.cells : SA → List SC
  | .c x => [x]
  | .agg xs => xs
theorem SC.den_cells (e : Env) (x : SC) : (x.den e).cells = #[x.den e] := by cases x <;> rfl
theorem SA.den_cells (e : Env) (x : SA) : (x.den e).cells = (x.cells.map (SC.den e)).toArray := by
  cases x with
  | c x => simp [SA.den, SA.cells, SC.den_cells]
  | agg xs => rfl
abbrev TM := List (Nat × SV)
def TM.get : TM → Nat → Option SV
  | [], _ => none
  | (j, v) :: r, k => bif Nat.beq j k then some v else TM.get r k
def TM.put (m : TM) (k : Nat) (v : SV) : TM := (k, v) :: m
structure Kn (N : Nat) (e : Env) (m : TM) (t : Array Value) : Prop where
  size : t.size = N
  get : ∀ k v, m.get k = some v → t[k]? = some (v.den e)
theorem Kn.put {N : Nat} {e : Env} {m : TM} {t : Array Value} (h : Kn N e m t) {k : Nat} (hk : k < N) (v : SV) : Kn N e (m.put k v) (t.setIfInBounds k (v.den e)) := by
  refine ⟨by simp [h.size], fun j u hj => ?_⟩
  unfold TM.put TM.get at hj
  by_cases hjk : k = j
  · subst hjk
    have : Nat.beq k k = true := by simp
    rw [this] at hj
    simp at hj
    subst hj
    simp [h.size, hk]
  · have h1 : Nat.beq k j = false := by
      cases hb : Nat.beq k j with
      | false => rfl
      | true => exact absurd (Nat.eq_of_beq_eq_true hb) hjk
    rw [h1] at hj
    simp only [cond_false] at hj
    rw [Array.getElem?_setIfInBounds_ne hjk]
    exact h.get j u hj
def TM.sub (m m' : TM) : Prop := ∀ k v, m'.get k = some v → m.get k = some v
theorem Kn.sub {N : Nat} {e : Env} {m m' : TM} {t : Array Value} (h : Kn N e m t) (hs : TM.sub m m') : Kn N e m' t := ⟨h.size, fun k v hk => h.get k v (hs k v hk)⟩
def constSC : Value → Option SC
  | .int k n => some (.int k n)
  | .bool b => some (.bool b)
  | .string s => some (.str s)
  | .pointer none => some .nilptr
  | .slice none n c => some (.slice none n c)
  | .map none => some (.map none)
  | .nilFunc => some .nilfunc
  | _ => none
def constSCs : List Value → Option (List SC)
  | [] => some []
  | v :: r => match constSC v, constSCs r with
    | some x, some xs => some (x :: xs)
    | _, _ => none
def constSV : Value → Option SV
  | .agg cs => (constSCs cs.toList).map fun xs => .one (.agg xs)
  | v => (constSC v).map fun x => .one (.c x)
def ev (m : TM) : Operand → Option SV
  | .tmp k => m.get k
  | .const v => constSV v
  | .global _ => none
  | .func f => some (.one (.c (.func (.func f) #[] #[])))
structure Plc where
  cells : List SC
  own : Option TypeId
def tyAgg (P : Program) (T : TypeId) : Option Bool := (P.underlying T).map fun | .struct _ | .array _ _ => true | _ => false
def tySz (P : Program) (T : TypeId) : Option Nat := (P.info? T).map (·.size)
theorem run_isAgg' {P : Program} {T : TypeId} {b : Bool} (w : World) (h : tyAgg P T = some b) : (isAgg T).run P w = .ok b w := by
  unfold tyAgg at h
  obtain ⟨d, hd, rfl⟩ := Option.map_eq_some_iff.1 h
  simp only [isAgg, Sem.run_bind, run_underlying hd, Result.andThen_ok]
  cases d <;> rfl
theorem run_sizeOf' {P : Program} {T : TypeId} {n : Nat} (w : World) (h : tySz P T = some n) : (sizeOf T).run P w = .ok n w := by
  unfold tySz at h
  obtain ⟨d, hd, rfl⟩ := Option.map_eq_some_iff.1 h
  simp [sizeOf, typeInfo, hd]
theorem run_equal_bool {P : Program} {T : TypeId} (a b : Bool) (w : World) (h : P.underlying T = some .bool) : (Op.equal T (.bool a) (.bool b)).run P w = .ok (a == b) w := by
  unfold Op.equal
  rw [show Op.maxDepth = 9999 + 1 from rfl, Op.equalIn]
  simp only [Sem.run_bind, run_underlying h, Result.andThen_ok]
  rfl
end Go.Proofs.YtkpgggfibljflaaGreatDoor
namespace Go.Proofs.YtkpgggfibljflaaGreatDoor
open Go Go.RowKit
def part' (P : Program) (T : TypeId) (cs : List SC) (off : Nat) : Option SA :=
  match tyAgg P T, tySz P T with
  | some true, some n => some (.agg ((cs.drop off).take n))
  | some false, _ => (cs[off]?).map .c
  | _, _ => none
theorem extract_take {α : Type} (xs : List α) (a n : Nat) : xs.toArray.extract a (a + n) = ((xs.drop a).take n).toArray := by
  apply Array.ext'
  simp [List.take_drop]
theorem part'_sound {P : Program} {T : TypeId} {cs : List SC} {off : Nat} {v : SA} (e : Env) (w : World) (h : part' P T cs off = some v) :
    (part T (cs.map (SC.den e)).toArray off).run P w = .ok (v.den e) w := by
  unfold part' at h
  split at h
  · rename_i n ha hn
    simp only [Option.some.injEq] at h; subst h
    simp only [part, Sem.run_bind, run_isAgg' w ha, Result.andThen_ok, if_true, run_sizeOf' w hn, Sem.run_pure, SA.den]
    rw [extract_take]; simp
  · rename_i ha
    obtain ⟨c, hc, rfl⟩ := Option.map_eq_some_iff.1 h
    simp only [part, Sem.run_bind, run_isAgg' w ha, Result.andThen_ok, Bool.false_eq_true, if_false]
    simp [hc, SA.den]
  · simp at h
def places (P : Program) : List Field → Option (List (Nat × Nat))
  | [] => some []
  | f :: r => match tySz P f.type, places P r with
    | some n, some ps => some ((f.offset, n) :: ps)
    | _, _ => none
theorem places_sound {P : Program} (w : World) : ∀ {fs : List Field} {ps : List (Nat × Nat)}, places P fs = some ps →
    (fs.mapM fun f => (do pure (f.offset, ← sizeOf f.type) : Sem (Nat × Nat))).run P w = .ok ps w
  | [], ps, h => by simp [places] at h; subst h; rfl
  | f :: r, ps, h => by
    unfold places at h
    split at h
    · rename_i n qs hn hqs
      simp at h; subst h
      have := places_sound w hqs
      rw [List.mapM_cons]
      simp only [Sem.run_bind, run_sizeOf' w hn, Result.andThen_ok, Sem.run_pure, this]
    · simp at h
theorem toList_eq {α : Type} {a : Array α} {l : List α} (h : a.toList = l) : a = l.toArray := by rw [← h]
end Go.Proofs.YtkpgggfibljflaaGreatDoor
namespace Go.Proofs.YtkpgggfibljflaaGreatDoor
open Go Go.RowKit
theorem act_eta {a : Act} {d : List Deferred} (h : a.defers = d) : a = Act.mk a.tmps d := by cases a; subst h; rfl
section
variable {P : Program} {ops : Array Oper} {N : Nat} {e : Env} {m m' : TM} {t : Array Value} {d : List Deferred} {pl : List Plc} {w : World} {Q : Exit → Act → World → Prop}
def wpFrom (P : Program) (ops : Array Oper) (Q : Exit → Act → World → Prop) (i : Nat) (a : Act) (w : World) : Prop := wpOps P ops Q (List.range' i (ops.size - i)) a w
theorem wp_region_from {id : Nat} {a : Act} (h : wpFrom P ops Q 0 a w) : (Code.region id ops false).wp P Q a w := by
  refine wp_region ?_
  unfold wpFrom at h
  rw [List.range_eq_range']
  simpa using h
theorem wpFrom_end {i : Nat} {a : Act} (hi : ops.size ≤ i) (h : Q .normal a w) : wpFrom P ops Q i a w := by
  unfold wpFrom
  rw [show ops.size - i = 0 by omega]
  exact h
theorem wpFrom_op {i : Nat} {a : Act} (hi : i < ops.size) (h : wpOp P ops Q i (wpFrom P ops Q (i + 1)) a w) : wpFrom P ops Q i a w := by
  unfold wpFrom
  rw [show ops.size - i = (ops.size - (i + 1)) + 1 by omega, List.range'_succ, wpOps_cons]
  exact h
end
section
variable {P : Program} {ops : Array Oper} {X : List Nat} {Q : Exit → Act → World → Prop} {S : World → Prop}
def Shut (ops : Array Oper) (listed : Array Bool) : Prop := ∀ (a : Nat) (o : Oper), ops[a]? = some o → listed.getD a false = true → ∀ e ∈ o.after, Region.binds .any e = true → listed.getD e.on false = true
theorem Shut.add {ops : Array Oper} {listed : Array Bool} (hs : Shut ops listed) {j : Nat} (hj : j ∈ Region.ready .any ops listed) : Shut ops (listed.setIfInBounds j true) := fun a o ho hl e he hb => by
  by_cases haj : j = a
  · subst haj
    obtain ⟨_, o', ho', hall⟩ := mem_ready.1 hj
    rw [ho] at ho'
    cases ho'
    exact getD_set_true (hall e he hb)
  · rw [getD_set_ne false haj] at hl
    exact getD_set_true (hs a o ho hl e he hb)
def listedOf (n : Nat) : List Nat → Array Bool
  | [] => Array.replicate n false
  | i :: r => (listedOf n r).setIfInBounds i true
def wpG (P : Program) (ops : Array Oper) (Q : Exit → Act → World → Prop) (done : List Nat) (a : Act) (w : World) : Prop :=
  wpAny P .any ops Q (ops.size - done.length) (listedOf ops.size done) a w
theorem wp_region_G {id : Nat} {a : Act} {w : World} (hm : P.follows .mixedOrders = true) (h : wpG P ops Q [] a w.drew) : (Code.region id ops true).wp P Q a w :=
  wp_region_any hm (by unfold wpG at h; simpa [listedOf] using h)
end
end Go.Proofs.YtkpgggfibljflaaGreatDoor
