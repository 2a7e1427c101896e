/- Symbolic values: what is known of the temporaries and of the memory is a list; what a quiet operation yields is computed from these lists. -/
import Derived.WalkKit
import Derived.OrdersHeld
import Derived.Below
import Derived.Deep.AppendLies
import Derived.KernelRfl
import Derived.Laws.StructEq
set_option linter.all false
namespace Go.Proofs.Ytokchpjijlebiaa
open Go Go.RowKit

/-- A value of one cell. -/
inductive SC where
  | int (k : IntKind) (n : Int)
  | bool (b : Bool)
  | str (s : ByteArray)
  | ptr (i off : Nat)
  | nilptr
  | slice (a : Option Addr) (n c : Nat)
  | map (r : Option Nat)
  | func (f : Fn) (first cap : Array Value)
  | nilfunc
inductive SA where
  | c (x : SC)
  | agg (xs : List SC)
inductive SV where
  | one (x : SA)
  | tup (xs : List SA)
  | undef

abbrev Env := List (Nat × Nat)
def Env.blk : Env → Nat → Nat × Nat
  | [], _ => (0, 0)
  | x :: _, 0 => x
  | _ :: r, i + 1 => Env.blk r i
def SC.den (e : Env) : SC → Value
  | .int k n => .int k n
  | .bool b => .bool b
  | .str s => .string s
  | .ptr i off => .pointer (some ⟨(e.blk i).1, (e.blk i).2 + off, none⟩)
  | .nilptr => .pointer none
  | .slice a n c => .slice a n c
  | .map r => .map r
  | .func f first cap => .func f first cap
  | .nilfunc => .nilFunc
def SA.den (e : Env) : SA → Value
  | .c x => x.den e
  | .agg xs => .agg (xs.map (SC.den e)).toArray
def SV.den (e : Env) : SV → Value
  | .one x => x.den e
  | .tup xs => .tuple (xs.map (SA.den e)).toArray
  | .undef => Go.undef
def SA.cells : SA → List SC
  | .c x => [x]
  | .agg xs => xs
theorem SC.den_one (e : Env) (x : SC) : (x.den e).oneCell' = true := by cases x <;> rfl
theorem SC.den_cells (e : Env) (x : SC) : (x.den e).cells = #[x.den e] := by cases x <;> rfl
theorem SA.den_cells (e : Env) (x : SA) : (x.den e).cells = (x.cells.map (SC.den e)).toArray := by
  cases x with
  | c x => simp [SA.den, SA.cells, SC.den_cells]
  | agg xs => rfl

abbrev TM := List (Nat × SV)
def TM.get : TM → Nat → Option SV
  | [], _ => none
  | (j, v) :: r, k => bif Nat.beq j k then some v else TM.get r k
def TM.put (m : TM) (k : Nat) (v : SV) : TM := (k, v) :: m

/-- What is known of the temporaries. -/
structure Kn (N : Nat) (e : Env) (m : TM) (t : Array Value) : Prop where
  size : t.size = N
  get : ∀ k v, m.get k = some v → t[k]? = some (v.den e)

theorem Kn.put {N : Nat} {e : Env} {m : TM} {t : Array Value} (h : Kn N e m t) {k : Nat} (hk : k < N) (v : SV) : Kn N e (m.put k v) (t.setIfInBounds k (v.den e)) := by
  refine ⟨by simp [h.size], fun j u hj => ?_⟩
  unfold TM.put TM.get at hj
  by_cases hjk : k = j
  · subst hjk
    have : Nat.beq k k = true := by simp
    rw [this] at hj
    simp at hj
    subst hj
    simp [h.size, hk]
  · have h1 : Nat.beq k j = false := by
      cases hb : Nat.beq k j with
      | false => rfl
      | true => exact absurd (Nat.eq_of_beq_eq_true hb) hjk
    rw [h1] at hj
    simp only [cond_false] at hj
    rw [Array.getElem?_setIfInBounds_ne hjk]
    exact h.get j u hj

/-- What is known may be forgotten. -/
def TM.sub (m m' : TM) : Prop := ∀ k v, m'.get k = some v → m.get k = some v
theorem Kn.sub {N : Nat} {e : Env} {m m' : TM} {t : Array Value} (h : Kn N e m t) (hs : TM.sub m m') : Kn N e m' t := ⟨h.size, fun k v hk => h.get k v (hs k v hk)⟩
def keepTM (m : TM) : List Nat → TM
  | [] => []
  | k :: r => match m.get k with | some v => (k, v) :: keepTM m r | none => keepTM m r
theorem keepTM_sub (m : TM) : ∀ l, TM.sub m (keepTM m l)
  | [], _, _, h => by simp [keepTM, TM.get] at h
  | j :: r, k, v, h => by
    unfold keepTM at h
    split at h
    · rename_i u hu
      unfold TM.get at h
      cases hb : Nat.beq j k with
      | true =>
        rw [hb] at h
        have : j = k := by simpa using hb
        subst this
        simp at h
        subst h
        exact hu
      | false =>
        rw [hb] at h
        exact keepTM_sub m r k v h
    · exact keepTM_sub m r k v h

def constSC : Value → Option SC
  | .int k n => some (.int k n)
  | .bool b => some (.bool b)
  | .string s => some (.str s)
  | .pointer none => some .nilptr
  | .slice none n c => some (.slice none n c)
  | .map none => some (.map none)
  | .nilFunc => some .nilfunc
  | _ => none
def constSCs : List Value → Option (List SC)
  | [] => some []
  | v :: r => match constSC v, constSCs r with
    | some x, some xs => some (x :: xs)
    | _, _ => none
def constSV : Value → Option SV
  | .agg cs => (constSCs cs.toList).map fun xs => .one (.agg xs)
  | v => (constSC v).map fun x => .one (.c x)
theorem constSC_den {v : Value} {x : SC} (e : Env) (h : constSC v = some x) : x.den e = v := by
  unfold constSC at h
  split at h <;> simp at h <;> subst h <;> rfl
theorem constSCs_den (e : Env) : ∀ {vs : List Value} {xs : List SC}, constSCs vs = some xs → xs.map (SC.den e) = vs
  | [], xs, h => by simp [constSCs] at h; subst h; rfl
  | v :: r, xs, h => by
    unfold constSCs at h
    split at h
    · rename_i x ys hx hys
      simp at h; subst h
      simp [constSC_den e hx, constSCs_den e hys]
    · simp at h
theorem constSV_den {v : Value} {x : SV} (e : Env) (h : constSV v = some x) : x.den e = v := by
  unfold constSV at h
  split at h
  · simp at h
    obtain ⟨xs, h1, rfl⟩ := h
    simp [SV.den, SA.den, constSCs_den e h1]
  · simp at h
    obtain ⟨xs, h1, rfl⟩ := h
    simp [SV.den, SA.den, constSC_den e h1]
def ev (m : TM) : Operand → Option SV
  | .tmp k => m.get k
  | .const v => constSV v
  | .global _ => none
  | .func f => some (.one (.c (.func (.func f) #[] #[])))
theorem ev_sound {N : Nat} {e : Env} {m : TM} {t : Array Value} {d : List Deferred} {x : Operand} {v : SV} (hk : Kn N e m t) (h : ev m x = some v) : (Act.mk t d).eval x = v.den e := by
  cases x with
  | tmp k =>
    have := hk.get k v h
    show t.getD k Go.undef = _
    rw [Array.getD_eq_getD_getElem?, this]; rfl
  | const c => exact (constSV_den e h).symm
  | global g => simp [ev] at h
  | func f => simp [ev] at h; subst h; rfl

/-- A place in memory. -/
structure Plc where
  cells : List SC
  own : Option TypeId
def PlOk (e : Env) (pl : List Plc) (w : World) : Prop :=
  ∀ i p, pl[i]? = some p → ∀ j c, p.cells[j]? = some c → w.cell? ⟨(e.blk i).1, (e.blk i).2 + j, none⟩ = some (c.den e)

def tyAgg (P : Program) (T : TypeId) : Option Bool := (P.underlying T).map fun | .struct _ | .array _ _ => true | _ => false
def tySz (P : Program) (T : TypeId) : Option Nat := (P.info? T).map (·.size)

theorem run_isAgg' {P : Program} {T : TypeId} {b : Bool} (w : World) (h : tyAgg P T = some b) : (isAgg T).run P w = .ok b w := by
  unfold tyAgg at h
  obtain ⟨d, hd, rfl⟩ := Option.map_eq_some_iff.1 h
  simp only [isAgg, Sem.run_bind, run_underlying hd, Result.andThen_ok]
  cases d <;> rfl
theorem run_sizeOf' {P : Program} {T : TypeId} {n : Nat} (w : World) (h : tySz P T = some n) : (sizeOf T).run P w = .ok n w := by
  unfold tySz at h
  obtain ⟨d, hd, rfl⟩ := Option.map_eq_some_iff.1 h
  simp [sizeOf, typeInfo, hd]

def qbin (P : Program) (op : BinOp) (T : TypeId) (x y : SC) : Option SC :=
  match x, y with
  | .int k a, .int k' b =>
    if k = k' then
      match op with
      | .add => some (.int k (k.wrap (a + b)))
      | .sub => some (.int k (k.wrap (a - b)))
      | .mul => some (.int k (k.wrap (a * b)))
      | .eql => some (.bool (a == b))
      | .neq => some (.bool (a != b))
      | .lss => some (.bool (decide (a < b)))
      | .leq => some (.bool (decide (a ≤ b)))
      | .gtr => some (.bool (decide (a > b)))
      | .geq => some (.bool (decide (a ≥ b)))
      | .quo => match b with | .ofNat (n + 1) => some (.int k (k.wrap (a.tdiv (.ofNat (n + 1))))) | _ => none
      | .rem => match b with | .ofNat (n + 1) => some (.int k (a.tmod (.ofNat (n + 1)))) | _ => none
      | _ => none
    else none
  | .bool a, .bool b =>
    match P.underlying T with
    | some .bool => match op with
      | .eql => some (.bool (a == b))
      | .neq => some (.bool (!(a == b)))
      | _ => none
    | _ => none
  | .slice a _ _, .slice none _ _ =>
    match P.underlying T with
    | some (.slice _) => match op with
      | .eql => some (.bool a.isNone)
      | .neq => some (.bool (!a.isNone))
      | _ => none
    | _ => none
  | _, _ => none
theorem run_equal_nil {P : Program} {T E : TypeId} (a : Option Addr) (n c n' c' : Nat) (w : World) (h : P.underlying T = some (.slice E)) : (Op.equal T (.slice a n c) (.slice none n' c')).run P w = .ok a.isNone w := by
  unfold Op.equal
  rw [show Op.maxDepth = 9999 + 1 from rfl, Op.equalIn]
  simp only [Sem.run_bind, run_underlying h, Result.andThen_ok]
  cases a <;> rfl
theorem run_equal_bool {P : Program} {T : TypeId} (a b : Bool) (w : World) (h : P.underlying T = some .bool) : (Op.equal T (.bool a) (.bool b)).run P w = .ok (a == b) w := by
  unfold Op.equal
  rw [show Op.maxDepth = 9999 + 1 from rfl, Op.equalIn]
  simp only [Sem.run_bind, run_underlying h, Result.andThen_ok]
  rfl
theorem qbin_sound {P : Program} {op : BinOp} {T : TypeId} {x y v : SC} (e : Env) (w : World) (ox oy : Operand) (h : qbin P op T x y = some v) :
    (do eqGuard op T ox oy (x.den e) (y.den e); binOp op T (x.den e) (y.den e) : Sem Value).run P w = .ok (v.den e) w := by
  unfold qbin at h
  split at h
  · rename_i k a k' b
    split at h
    · rename_i hkk
      subst hkk
      have hg : (eqGuard op T ox oy (SC.den e (.int k a)) (SC.den e (.int k b))).run P w = .ok () w := by
        unfold eqGuard
        split <;> rfl
      simp only [Sem.run_bind, hg, Result.andThen_ok]
      split at h
      all_goals first
        | (simp at h; subst h; simp [SC.den, binOp, Op.intArith, Op.intCmp, Go.gt_iff_lt]; done)
        | (simp at h; subst h; simp [SC.den, binOp, Op.intArith, Op.intCmp]; done)
        | (simp at h; done)
        | (split at h
           · simp at h; subst h
             have hne : ¬ (Int.ofNat (‹Nat› + 1) = 0) := by simp; omega
             simp [SC.den, binOp, Op.intDiv]
             try omega
           · simp at h)
    · simp at h
  · rename_i a b
    split at h
    · rename_i hu
      have hg : (eqGuard op T ox oy (SC.den e (.bool a)) (SC.den e (.bool b))).run P w = .ok () w := by
        unfold eqGuard
        split <;> rfl
      simp only [Sem.run_bind, hg, Result.andThen_ok]
      split at h
      · simp only [Option.some.injEq] at h; subst h
        show ((do pure (.bool (← Op.equal T (.bool a) (.bool b))) : Sem Value).run P w) = _
        simp only [Sem.run_bind, run_equal_bool a b w hu, Result.andThen_ok]
        rfl
      · simp only [Option.some.injEq] at h; subst h
        show ((do pure (.bool (!(← Op.equal T (.bool a) (.bool b)))) : Sem Value).run P w) = _
        simp only [Sem.run_bind, run_equal_bool a b w hu, Result.andThen_ok]
        rfl
      · simp at h
    · simp at h
  · rename_i a n1 c1 n2 c2
    split at h
    · rename_i E hu
      have hg : (eqGuard op T ox oy (SC.den e (.slice a n1 c1)) (SC.den e (.slice none n2 c2))).run P w = .ok () w := by
        unfold eqGuard
        split <;> rfl
      simp only [Sem.run_bind, hg, Result.andThen_ok]
      split at h
      · simp only [Option.some.injEq] at h; subst h
        show ((do pure (.bool (← Op.equal T (.slice a n1 c1) (.slice none n2 c2))) : Sem Value).run P w) = _
        simp only [Sem.run_bind, run_equal_nil a n1 c1 n2 c2 w hu, Result.andThen_ok]
        rfl
      · simp only [Option.some.injEq] at h; subst h
        show ((do pure (.bool (!(← Op.equal T (.slice a n1 c1) (.slice none n2 c2)))) : Sem Value).run P w) = _
        simp only [Sem.run_bind, run_equal_nil a n1 c1 n2 c2 w hu, Result.andThen_ok]
        rfl
      · simp at h
    · simp at h
  · simp at h
end Go.Proofs.Ytokchpjijlebiaa
