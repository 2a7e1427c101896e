/- What a printed proof leans on: memory that is read, and steps through a region. -/
import Derived.WalkKit
import Derived.OrdersHeld
import Derived.Below
import Derived.Deep.AppendLies
import Derived.KernelRfl
import Derived.Laws.StructEq
set_option linter.all false
namespace Go.Proofs.Ythcbemnflgjadaa
open Go Go.RowKit
inductive SC where
  | int (k : IntKind) (n : Int)
  | bool (b : Bool)
  | str (s : ByteArray)
  | ptr (i off : Nat)
  | nilptr
  | slice (a : Option Addr) (n c : Nat)
  | map (r : Option Nat)
  | func (f : Fn) (first cap : Array Value)
  | nilfunc
inductive SA where
  | c (x : SC)
  | agg (xs : List SC)
inductive SV where
  | one (x : SA)
  | tup (xs : List SA)
  | undef
abbrev Env := List (Nat × Nat)
def Env.blk : Env → Nat → Nat × Nat
  | [], _ => (0, 0)
  | x :: _, 0 => x
  | _ :: r, i + 1 => Env.blk r i
def SC.den (e : Env) : SC → Value
  | .int k n => .int k n
  | .bool b => .bool b
  | .str s => .string s
  | .ptr i off => .pointer (some ⟨(e.blk i).1, (e.blk i).2 + off, none⟩)
  | .nilptr => .pointer none
  | .slice a n c => .slice a n c
  | .map r => .map r
  | .func f first cap => .func f first cap
  | .nilfunc => .nilFunc
def SA.den (e : Env) : SA → Value
  | .c x => x.den e
  | .agg xs => .agg (xs.map (SC.den e)).toArray
def SV.den (e : Env) : SV → Value
  | .one x => x.den e
  | .tup xs => .tuple (xs.map (SA.den e)).toArray
  | .undef => Go.undef
def SA.cells : SA → List SC
  | .c x => [x]
  | .agg xs => xs
theorem SC.den_one (e : Env) (x : SC) : (x.den e).oneCell' = true := by cases x <;> rfl
theorem SC.den_cells (e : Env) (x : SC) : (x.den e).cells = #[x.den e] := by cases x <;> rfl
theorem SA.den_cells (e : Env) (x : SA) : (x.den e).cells = (x.cells.map (SC.den e)).toArray := by
  cases x with
  | c x => simp [SA.den, SA.cells, SC.den_cells]
  | agg xs => rfl
abbrev TM := List (Nat × SV)
def TM.get : TM → Nat → Option SV
  | [], _ => none
  | (j, v) :: r, k => bif Nat.beq j k then some v else TM.get r k
def TM.put (m : TM) (k : Nat) (v : SV) : TM := (k, v) :: m
structure Kn (N : Nat) (e : Env) (m : TM) (t : Array Value) : Prop where
  size : t.size = N
  get : ∀ k v, m.get k = some v → t[k]? = some (v.den e)
theorem Kn.put {N : Nat} {e : Env} {m : TM} {t : Array Value} (h : Kn N e m t) {k : Nat} (hk : k < N) (v : SV) : Kn N e (m.put k v) (t.setIfInBounds k (v.den e)) := by
  refine ⟨by simp [h.size], fun j u hj => ?_⟩
  unfold TM.put TM.get at hj
  by_cases hjk : k = j
  · subst hjk
    have : Nat.beq k k = true := by simp
    rw [this] at hj
    simp at hj
    subst hj
    simp [h.size, hk]
  · have h1 : Nat.beq k j = false := by
      cases hb : Nat.beq k j with
      | false => rfl
      | true => exact absurd (Nat.eq_of_beq_eq_true hb) hjk
    rw [h1] at hj
    simp only [cond_false] at hj
    rw [Array.getElem?_setIfInBounds_ne hjk]
    exact h.get j u hj
def TM.sub (m m' : TM) : Prop := ∀ k v, m'.get k = some v → m.get k = some v
theorem Kn.sub {N : Nat} {e : Env} {m m' : TM} {t : Array Value} (h : Kn N e m t) (hs : TM.sub m m') : Kn N e m' t := ⟨h.size, fun k v hk => h.get k v (hs k v hk)⟩
def keepTM (m : TM) : List Nat → TM
  | [] => []
  | k :: r => match m.get k with | some v => (k, v) :: keepTM m r | none => keepTM m r
theorem keepTM_sub (m : TM) : ∀ l, TM.sub m (keepTM m l)
  | [], _, _, h => by simp [keepTM, TM.get] at h
  | j :: r, k, v, h => by
    unfold keepTM at h
    split at h
    · rename_i u hu
      unfold TM.get at h
      cases hb : Nat.beq j k with
      | true =>
        rw [hb] at h
        have : j = k := by simpa using hb
        subst this
        simp at h
        subst h
        exact hu
      | false =>
        rw [hb] at h
        exact keepTM_sub m r k v h
    · exact keepTM_sub m r k v h
def constSC : Value → Option SC
  | .int k n => some (.int k n)
  | .bool b => some (.bool b)
  | .string s => some (.str s)
  | .pointer none => some .nilptr
  | .slice none n c => some (.slice none n c)
  | .map none => some (.map none)
  | .nilFunc => some .nilfunc
  | _ => none
def constSCs : List Value → Option (List SC)
  | [] => some []
  | v :: r => match constSC v, constSCs r with
    | some x, some xs => some (x :: xs)
    | _, _ => none
def constSV : Value → Option SV
  | .agg cs => (constSCs cs.toList).map fun xs => .one (.agg xs)
  | v => (constSC v).map fun x => .one (.c x)
theorem constSC_den {v : Value} {x : SC} (e : Env) (h : constSC v = some x) : x.den e = v := by
  unfold constSC at h
  split at h <;> simp at h <;> subst h <;> rfl
theorem constSCs_den (e : Env) : ∀ {vs : List Value} {xs : List SC}, constSCs vs = some xs → xs.map (SC.den e) = vs
  | [], xs, h => by simp [constSCs] at h; subst h; rfl
  | v :: r, xs, h => by
    unfold constSCs at h
    split at h
    · rename_i x ys hx hys
      simp at h; subst h
      simp [constSC_den e hx, constSCs_den e hys]
    · simp at h
theorem constSV_den {v : Value} {x : SV} (e : Env) (h : constSV v = some x) : x.den e = v := by
  unfold constSV at h
  split at h
  · simp at h
    obtain ⟨xs, h1, rfl⟩ := h
    simp [SV.den, SA.den, constSCs_den e h1]
  · simp at h
    obtain ⟨xs, h1, rfl⟩ := h
    simp [SV.den, SA.den, constSC_den e h1]
def ev (m : TM) : Operand → Option SV
  | .tmp k => m.get k
  | .const v => constSV v
  | .global _ => none
  | .func f => some (.one (.c (.func (.func f) #[] #[])))
theorem ev_sound {N : Nat} {e : Env} {m : TM} {t : Array Value} {d : List Deferred} {x : Operand} {v : SV} (hk : Kn N e m t) (h : ev m x = some v) : (Act.mk t d).eval x = v.den e := by
  cases x with
  | tmp k =>
    have := hk.get k v h
    show t.getD k Go.undef = _
    rw [Array.getD_eq_getD_getElem?, this]; rfl
  | const c => exact (constSV_den e h).symm
  | global g => simp [ev] at h
  | func f => simp [ev] at h; subst h; rfl
structure Plc where
  cells : List SC
  own : Option TypeId
def PlOk (e : Env) (pl : List Plc) (w : World) : Prop :=
  ∀ i p, pl[i]? = some p → ∀ j c, p.cells[j]? = some c → w.cell? ⟨(e.blk i).1, (e.blk i).2 + j, none⟩ = some (c.den e)
def tyAgg (P : Program) (T : TypeId) : Option Bool := (P.underlying T).map fun | .struct _ | .array _ _ => true | _ => false
def tySz (P : Program) (T : TypeId) : Option Nat := (P.info? T).map (·.size)
theorem run_isAgg' {P : Program} {T : TypeId} {b : Bool} (w : World) (h : tyAgg P T = some b) : (isAgg T).run P w = .ok b w := by
  unfold tyAgg at h
  obtain ⟨d, hd, rfl⟩ := Option.map_eq_some_iff.1 h
  simp only [isAgg, Sem.run_bind, run_underlying hd, Result.andThen_ok]
  cases d <;> rfl
theorem run_sizeOf' {P : Program} {T : TypeId} {n : Nat} (w : World) (h : tySz P T = some n) : (sizeOf T).run P w = .ok n w := by
  unfold tySz at h
  obtain ⟨d, hd, rfl⟩ := Option.map_eq_some_iff.1 h
  simp [sizeOf, typeInfo, hd]
def qbin (P : Program) (op : BinOp) (T : TypeId) (x y : SC) : Option SC :=
  match x, y with
  | .int k a, .int k' b =>
    if k = k' then
      match op with
      | .add => some (.int k (k.wrap (a + b)))
      | .sub => some (.int k (k.wrap (a - b)))
      | .mul => some (.int k (k.wrap (a * b)))
      | .eql => some (.bool (a == b))
      | .neq => some (.bool (a != b))
      | .lss => some (.bool (decide (a < b)))
      | .leq => some (.bool (decide (a ≤ b)))
      | .gtr => some (.bool (decide (a > b)))
      | .geq => some (.bool (decide (a ≥ b)))
      | .quo => match b with | .ofNat (n + 1) => some (.int k (k.wrap (a.tdiv (.ofNat (n + 1))))) | _ => none
      | .rem => match b with | .ofNat (n + 1) => some (.int k (a.tmod (.ofNat (n + 1)))) | _ => none
      | _ => none
    else none
  | .bool a, .bool b =>
    match P.underlying T with
    | some .bool => match op with
      | .eql => some (.bool (a == b))
      | .neq => some (.bool (!(a == b)))
      | _ => none
    | _ => none
  | .slice a _ _, .slice none _ _ =>
    match P.underlying T with
    | some (.slice _) => match op with
      | .eql => some (.bool a.isNone)
      | .neq => some (.bool (!a.isNone))
      | _ => none
    | _ => none
  | _, _ => none
theorem run_equal_nil {P : Program} {T E : TypeId} (a : Option Addr) (n c n' c' : Nat) (w : World) (h : P.underlying T = some (.slice E)) : (Op.equal T (.slice a n c) (.slice none n' c')).run P w = .ok a.isNone w := by
  unfold Op.equal
  rw [show Op.maxDepth = 9999 + 1 from rfl, Op.equalIn]
  simp only [Sem.run_bind, run_underlying h, Result.andThen_ok]
  cases a <;> rfl
theorem run_equal_bool {P : Program} {T : TypeId} (a b : Bool) (w : World) (h : P.underlying T = some .bool) : (Op.equal T (.bool a) (.bool b)).run P w = .ok (a == b) w := by
  unfold Op.equal
  rw [show Op.maxDepth = 9999 + 1 from rfl, Op.equalIn]
  simp only [Sem.run_bind, run_underlying h, Result.andThen_ok]
  rfl
theorem qbin_sound {P : Program} {op : BinOp} {T : TypeId} {x y v : SC} (e : Env) (w : World) (ox oy : Operand) (h : qbin P op T x y = some v) :
    (do eqGuard op T ox oy (x.den e) (y.den e); binOp op T (x.den e) (y.den e) : Sem Value).run P w = .ok (v.den e) w := by
  unfold qbin at h
  split at h
  · rename_i k a k' b
    split at h
    · rename_i hkk
      subst hkk
      have hg : (eqGuard op T ox oy (SC.den e (.int k a)) (SC.den e (.int k b))).run P w = .ok () w := by
        unfold eqGuard
        split <;> rfl
      simp only [Sem.run_bind, hg, Result.andThen_ok]
      split at h
      all_goals first
        | (simp at h; subst h; simp [SC.den, binOp, Op.intArith, Op.intCmp, Go.gt_iff_lt]; done)
        | (simp at h; subst h; simp [SC.den, binOp, Op.intArith, Op.intCmp]; done)
        | (simp at h; done)
        | (split at h
           · simp at h; subst h
             have hne : ¬ (Int.ofNat (‹Nat› + 1) = 0) := by simp; omega
             simp [SC.den, binOp, Op.intDiv]
             try omega
           · simp at h)
    · simp at h
  · rename_i a b
    split at h
    · rename_i hu
      have hg : (eqGuard op T ox oy (SC.den e (.bool a)) (SC.den e (.bool b))).run P w = .ok () w := by
        unfold eqGuard
        split <;> rfl
      simp only [Sem.run_bind, hg, Result.andThen_ok]
      split at h
      · simp only [Option.some.injEq] at h; subst h
        show ((do pure (.bool (← Op.equal T (.bool a) (.bool b))) : Sem Value).run P w) = _
        simp only [Sem.run_bind, run_equal_bool a b w hu, Result.andThen_ok]
        rfl
      · simp only [Option.some.injEq] at h; subst h
        show ((do pure (.bool (!(← Op.equal T (.bool a) (.bool b)))) : Sem Value).run P w) = _
        simp only [Sem.run_bind, run_equal_bool a b w hu, Result.andThen_ok]
        rfl
      · simp at h
    · simp at h
  · rename_i a n1 c1 n2 c2
    split at h
    · rename_i E hu
      have hg : (eqGuard op T ox oy (SC.den e (.slice a n1 c1)) (SC.den e (.slice none n2 c2))).run P w = .ok () w := by
        unfold eqGuard
        split <;> rfl
      simp only [Sem.run_bind, hg, Result.andThen_ok]
      split at h
      · simp only [Option.some.injEq] at h; subst h
        show ((do pure (.bool (← Op.equal T (.slice a n1 c1) (.slice none n2 c2))) : Sem Value).run P w) = _
        simp only [Sem.run_bind, run_equal_nil a n1 c1 n2 c2 w hu, Result.andThen_ok]
        rfl
      · simp only [Option.some.injEq] at h; subst h
        show ((do pure (.bool (!(← Op.equal T (.slice a n1 c1) (.slice none n2 c2)))) : Sem Value).run P w) = _
        simp only [Sem.run_bind, run_equal_nil a n1 c1 n2 c2 w hu, Result.andThen_ok]
        rfl
      · simp at h
    · simp at h
  · simp at h
end Go.Proofs.Ythcbemnflgjadaa
namespace Go.Proofs.Ythcbemnflgjadaa
open Go Go.RowKit
def part' (P : Program) (T : TypeId) (cs : List SC) (off : Nat) : Option SA :=
  match tyAgg P T, tySz P T with
  | some true, some n => some (.agg ((cs.drop off).take n))
  | some false, _ => (cs[off]?).map .c
  | _, _ => none
theorem extract_take {α : Type} (xs : List α) (a n : Nat) : xs.toArray.extract a (a + n) = ((xs.drop a).take n).toArray := by
  apply Array.ext'
  simp [List.take_drop]
theorem part'_sound {P : Program} {T : TypeId} {cs : List SC} {off : Nat} {v : SA} (e : Env) (w : World) (h : part' P T cs off = some v) :
    (part T (cs.map (SC.den e)).toArray off).run P w = .ok (v.den e) w := by
  unfold part' at h
  split at h
  · rename_i n ha hn
    simp only [Option.some.injEq] at h; subst h
    simp only [part, Sem.run_bind, run_isAgg' w ha, Result.andThen_ok, if_true, run_sizeOf' w hn, Sem.run_pure, SA.den]
    rw [extract_take]; simp
  · rename_i ha
    obtain ⟨c, hc, rfl⟩ := Option.map_eq_some_iff.1 h
    simp only [part, Sem.run_bind, run_isAgg' w ha, Result.andThen_ok, Bool.false_eq_true, if_false]
    simp [hc, SA.den]
  · simp at h
def fillC (place : Nat → Option (Nat × Nat)) (cells : List SC) : List (Nat × SA) → Option (List SC)
  | [] => some cells
  | (i, v) :: rest =>
    match place i with
    | none => none
    | some (off, size) =>
      if v.cells.length ≠ size || off + v.cells.length > cells.length then none
      else fillC place (v.cells.zipIdx.foldl (fun cs (c, j) => cs.set (off + j) c) cells) rest
theorem foldl_set_den (e : Env) (off : Nat) : ∀ (l : List (SC × Nat)) (cs : List SC),
    (l.map fun x => (x.1.den e, x.2)).foldl (fun (cs : Array Value) (x : Value × Nat) => cs.setIfInBounds (off + x.2) x.1) (cs.map (SC.den e)).toArray = ((l.foldl (fun cs (x : SC × Nat) => cs.set (off + x.2) x.1) cs).map (SC.den e)).toArray
  | [], _ => rfl
  | x :: l, cs => by
    simp only [List.map_cons, List.foldl_cons]
    rw [← foldl_set_den e off l (cs.set (off + x.2) x.1)]
    congr 1
    simp [List.map_set]
theorem fillC_sound (e : Env) (place : Nat → Option (Nat × Nat)) : ∀ (ps : List (Nat × SA)) (cells out : List SC), fillC place cells ps = some out →
    Instr.fill place (cells.map (SC.den e)).toArray (ps.map fun x => (x.1, x.2.den e)) = some (out.map (SC.den e)).toArray
  | [], cells, out, h => by simp [fillC] at h; subst h; rfl
  | (i, v) :: rest, cells, out, h => by
    unfold fillC at h
    simp only [List.map_cons, Instr.fill]
    split at h
    · simp at h
    · rename_i off size hp
      simp only [hp]
      split at h
      · simp at h
      · rename_i hc
        simp only [Bool.or_eq_true, decide_eq_true_eq, not_or, ne_eq, Decidable.not_not] at hc
        have hsz : (v.den e).cells.size = v.cells.length := by rw [SA.den_cells]; simp
        have hif : ¬ ((decide ((v.den e).cells.size ≠ size) || decide (off + (v.den e).cells.size > (cells.map (SC.den e)).toArray.size)) = true) := by
          rw [hsz]; simp; exact ⟨by simpa using hc.1, by simpa using hc.2⟩
        rw [if_neg hif]
        rw [← fillC_sound e place rest _ out h]
        congr 1
        rw [SA.den_cells]
        rw [show (List.map (SC.den e) v.cells).toArray.zipIdx = ((v.cells.zipIdx.map fun x => (x.1.den e, x.2))).toArray from by
          simp [List.zipIdx_map]]
        simp only [List.foldl_toArray']
        exact foldl_set_den e off _ _
def evA (m : TM) (x : Operand) : Option SA := match ev m x with | some (.one v) => some v | _ => none
theorem evA_sound {N : Nat} {e : Env} {m : TM} {t : Array Value} {d : List Deferred} {x : Operand} {v : SA} (hk : Kn N e m t) (h : evA m x = some v) : (Act.mk t d).eval x = v.den e := by
  unfold evA at h
  split at h
  · rename_i u hu
    simp at h; subst h
    exact ev_sound hk hu
  · simp at h
def evParts (m : TM) : List (Nat × Operand) → Option (List (Nat × SA))
  | [] => some []
  | (i, x) :: r => match evA m x, evParts m r with
    | some v, some vs => some ((i, v) :: vs)
    | _, _ => none
theorem evParts_sound {N : Nat} {e : Env} {m : TM} {t : Array Value} {d : List Deferred} (hk : Kn N e m t) : ∀ {l : List (Nat × Operand)} {vs : List (Nat × SA)}, evParts m l = some vs →
    (l.map fun (i, x) => (i, (Act.mk t d).eval x)) = vs.map fun x => (x.1, x.2.den e)
  | [], vs, h => by simp [evParts] at h; subst h; rfl
  | (i, x) :: r, vs, h => by
    unfold evParts at h
    split at h
    · rename_i v us hv hus
      simp at h; subst h
      have := evParts_sound (d := d) hk hus
      simp only [List.map_cons, evA_sound hk hv]
      rw [this]
    · simp at h
def places (P : Program) : List Field → Option (List (Nat × Nat))
  | [] => some []
  | f :: r => match tySz P f.type, places P r with
    | some n, some ps => some ((f.offset, n) :: ps)
    | _, _ => none
theorem places_sound {P : Program} (w : World) : ∀ {fs : List Field} {ps : List (Nat × Nat)}, places P fs = some ps →
    (fs.mapM fun f => (do pure (f.offset, ← sizeOf f.type) : Sem (Nat × Nat))).run P w = .ok ps w
  | [], ps, h => by simp [places] at h; subst h; rfl
  | f :: r, ps, h => by
    unfold places at h
    split at h
    · rename_i n qs hn hqs
      simp at h; subst h
      have := places_sound w hqs
      rw [List.mapM_cons]
      simp only [Sem.run_bind, run_sizeOf' w hn, Result.andThen_ok, Sem.run_pure, this]
    · simp at h
def zeroSC (P : Program) (T : TypeId) : Option (List SC) := match P.info? T with
  | some i => match i.zero with
    | some v => constSCs v.cells.toList
    | none => none
  | none => none
theorem zeroSC_sound {P : Program} {T : TypeId} {cs : List SC} (e : Env) (w : World) (h : zeroSC P T = some cs) : ∃ z, (zeroValue T).run P w = .ok z w ∧ z.cells = (cs.map (SC.den e)).toArray := by
  unfold zeroSC at h
  split at h
  · rename_i i hi
    split at h
    · rename_i v hv
      refine ⟨v, by simp [zeroValue, typeInfo, hi, hv], ?_⟩
      rw [constSCs_den e h]
    · simp at h
  · simp at h
def qcall (P : Program) (m : TM) (c : Call) : Option SV :=
  match c.callee, c.args.toList with
  | .builtin .len, [x] => match c.argTypes.toList with
    | [T] => match P.underlying T, evA m x with
      | some (.slice _), some (.c (.slice _ n _)) => some (.one (.c (.int .i64 (n : Int))))
      | some .string, some (.c (.str s)) => some (.one (.c (.int .i64 (s.size : Int))))
      | _, _ => none
    | _ => none
  | .builtin .max, [x, y] => match evA m x, evA m y with
    | some (.c (.int k a)), some (.c (.int _ b)) => some (.one (.c (.int k (if b > a then b else a))))
    | _, _ => none
  | .builtin .min, [x, y] => match evA m x, evA m y with
    | some (.c (.int k a)), some (.c (.int _ b)) => some (.one (.c (.int k (if b < a then b else a))))
    | _, _ => none
  | _, _ => none
theorem toList_eq {α : Type} {a : Array α} {l : List α} (h : a.toList = l) : a = l.toArray := by rw [← h]
theorem qcall_sound {P : Program} {N : Nat} {e : Env} {m : TM} {t : Array Value} {d : List Deferred} {w : World} {c : Call} {T : TypeId} {v : SV} (hk : Kn N e m t)
    (h : qcall P m c = some v) : (do let dd ← resolve (Act.mk t d).eval c T; invoke dd.target dd.args : Sem Next).run P w = .ok (.value (v.den e)) w := by
  obtain ⟨callee, args, argTypes⟩ := c
  unfold qcall at h
  simp only at h
  split at h
  · rename_i x hargs
    have hargs := toList_eq hargs
    subst hargs
    split at h
    · rename_i U hT
      have hT := toList_eq hT
      subst hT
      split at h
      · rename_i hT hx
        simp only [Option.some.injEq] at h; subst h
        simp [resolve, invoke, builtin, Builtin.len_, evA_sound hk hx, run_underlying hT, SA.den, SC.den, SV.den, goInt]
      · rename_i hT hx
        simp only [Option.some.injEq] at h; subst h
        simp [resolve, invoke, builtin, Builtin.len_, evA_sound hk hx, run_underlying hT, SA.den, SC.den, SV.den, goInt]
      · simp at h
    · simp at h
  · rename_i x y hargs
    have hargs := toList_eq hargs
    subst hargs
    split at h
    · rename_i hx hy
      simp only [Option.some.injEq] at h; subst h
      simp [resolve, invoke, builtin, Builtin.max_, Builtin.max2, evA_sound hk hx, evA_sound hk hy, SA.den, SC.den, SV.den]
    · simp at h
  · rename_i x y hargs
    have hargs := toList_eq hargs
    subst hargs
    split at h
    · rename_i hx hy
      simp only [Option.some.injEq] at h; subst h
      simp [resolve, invoke, builtin, Builtin.min_, Builtin.min2, evA_sound hk hx, evA_sound hk hy, SA.den, SC.den, SV.den]
    · simp at h
  · simp at h
def qscal (P : Program) (T : TypeId) (x y : SC) : Option Bool := match x, y with
  | .int k a, .int k' b => match P.underlying T with
    | some (.int _) => if k = k' then some (a == b) else none
    | _ => none
  | .bool a, .bool b => match P.underlying T with
    | some .bool => some (a == b)
    | _ => none
  | _, _ => none
theorem qscal_sound {P : Program} {T : TypeId} {x y : SC} {b : Bool} (e : Env) (w : World) (d : Nat) (h : qscal P T x y = some b) : (Op.equalIn (d + 1) T (x.den e) (y.den e)).run P w = .ok b w := by
  unfold qscal at h
  split at h
  · split at h
    · rename_i hu
      split at h
      · rename_i hk
        subst hk
        cases h
        exact run_equalIn_int w d T _ _ _ _ hu
      · cases h
    · cases h
  · split at h
    · rename_i hu
      cases h
      exact run_equalIn_bool' w d T _ _ hu
    · cases h
  · cases h
def qeqf (P : Program) (xs ys : List SC) : List Field → Option Bool
  | [] => some true
  | f :: fs => if f.name = "_" then none else match tyAgg P f.type, xs[f.offset]?, ys[f.offset]? with
    | some false, some a, some b => match qscal P f.type a b, qeqf P xs ys fs with
      | some p, some q => some (p && q)
      | _, _ => none
    | _, _, _ => none
theorem qeqf_sound {P : Program} {xs ys : List SC} (e : Env) (w : World) (d : Nat) : ∀ {fs : List Field} {b : Bool}, qeqf P xs ys fs = some b → (Op.eqFields (d + 1) (xs.map (SC.den e)).toArray (ys.map (SC.den e)).toArray fs).run P w = .ok b w
  | [], b, h => by cases h; rfl
  | f :: fs, b, h => by
    unfold qeqf at h
    split at h
    · cases h
    · rename_i hn
      split at h
      · rename_i a c ha hx hy
        split at h
        · rename_i p q hp hq
          cases h
          unfold Op.eqFields
          have h1 : (part f.type (xs.map (SC.den e)).toArray f.offset).run P w = .ok (a.den e) w := by
            unfold part
            simp only [Sem.run_bind, run_isAgg' w ha, Result.andThen_ok, Bool.false_eq_true, if_false]
            have : (xs.map (SC.den e)).toArray[f.offset]? = some (a.den e) := by simp [hx]
            rw [this]; rfl
          have h2 : (part f.type (ys.map (SC.den e)).toArray f.offset).run P w = .ok (c.den e) w := by
            unfold part
            simp only [Sem.run_bind, run_isAgg' w ha, Result.andThen_ok, Bool.false_eq_true, if_false]
            have : (ys.map (SC.den e)).toArray[f.offset]? = some (c.den e) := by simp [hy]
            rw [this]; rfl
          rw [if_pos hn]
          simp only [Sem.run_bind, h1, h2, Result.andThen_ok, qscal_sound e w d hp]
          cases p
          · rfl
          · simp only [Bool.not_true, Bool.false_eq_true, if_false, Bool.true_and]
            exact qeqf_sound e w d hq
        · cases h
      · cases h
def qagg (P : Program) (op : BinOp) (T : TypeId) (xs ys : List SC) : Option SC := match P.underlying T with
  | some (.struct fs) => if P.stoodInHeld T = false ∧ P.eqGuardType P.depth T = false then match op, qeqf P xs ys fs.toList with
      | .eql, some b => some (.bool b)
      | .neq, some b => some (.bool !b)
      | _, _ => none
    else none
  | _ => none
theorem qagg_sound {P : Program} {op : BinOp} {T : TypeId} {xs ys : List SC} {c : SC} (e : Env) (w : World) (ox oy : Operand) (h : qagg P op T xs ys = some c) :
    (do eqGuard op T ox oy (.agg (xs.map (SC.den e)).toArray) (.agg (ys.map (SC.den e)).toArray); binOp op T (.agg (xs.map (SC.den e)).toArray) (.agg (ys.map (SC.den e)).toArray) : Sem Value).run P w = .ok (c.den e) w := by
  unfold qagg at h
  split at h
  · rename_i fs hT
    split at h
    · rename_i hg
      obtain ⟨h1, h2⟩ := hg
      have hF : P.fieldsOf T = fs := by unfold Program.fieldsOf; rw [hT]
      have hrun : ∀ b, qeqf P xs ys fs.toList = some b → (Op.equalIn 10000 T (.agg (xs.map (SC.den e)).toArray) (.agg (ys.map (SC.den e)).toArray)).run P w = .ok b w := fun b hb => by
        rw [show (10000 : Nat) = 9999 + 1 from rfl, run_equalIn_struct w 9999 T _ _ (by rw [hF]; exact hT) h1, hF]
        exact qeqf_sound e w 9998 hb
      simp only [Sem.run_bind, run_eqGuard_agg w op T ox oy _ _ h2, Result.andThen_ok]
      split at h
      · rename_i b hb
        cases h
        rw [run_eql_struct, hrun b hb]; rfl
      · rename_i b hb
        cases h
        rw [run_neq_struct, hrun b hb]; rfl
      · cases h
    · cases h
  · cases h
def qop (P : Program) (m : TM) (pl : List Plc) : Op → Option SV
  | .move x | .assign x => ev m x
  | .pick c a b => match ev m c with
    | some (.one (.c (.bool true))) => ev m a
    | some (.one (.c (.bool false))) => ev m b
    | _ => none
  | .load T x => match ev m x with
    | some (.one (.c (.ptr i off))) => match pl[i]? with
      | some p => match tyAgg P T, tySz P T with
        | some true, some n => if ((p.cells.drop off).take n).length = n then some (.one (.agg ((p.cells.drop off).take n))) else none
        | some false, _ => (p.cells[off]?).map fun c => .one (.c c)
        | _, _ => none
      | none => none
    | _ => none
  | .binOp op T x y _ => match evA m x, evA m y with
    | some (.c a), some (.c b) => (qbin P op T a b).map fun c => .one (.c c)
    | some (.agg a), some (.agg b) => (qagg P op T a b).map fun c => .one (.c c)
    | _, _ => none
  | .unOp op _ x => match op, evA m x with
    | .not, some (.c (.bool b)) => some (.one (.c (.bool !b)))
    | .neg, some (.c (.int k n)) => some (.one (.c (.int k (k.wrap (0 - n)))))
    | _, _ => none
  | .convert src dst x => match P.underlying src, P.underlying dst, evA m x with
    | some (.int _), some (.int k), some (.c (.int _ n)) => some (.one (.c (.int k (k.wrap n))))
    | _, _, _ => none
  | .fieldAddr s x f => match P.underlying s, evA m x with
    | some (.struct fs), some (.c (.ptr i off)) => match fs[f]? with
      | some fl => match tySz P fl.type with
        | some (_ + 1) => some (.one (.c (.ptr i (off + fl.offset))))
        | _ => none
      | none => none
    | _, _ => none
  | .field T x f => match P.underlying T, evA m x with
    | some (.struct fs), some (.agg cs) => match fs[f]? with
      | some fl => (part' P fl.type cs fl.offset).map .one
      | none => none
    | _, _ => none
  | .build T ps => match zeroSC P T, P.underlying T, evParts m ps.toList with
    | some z, some (.struct fs), some vs => match places P fs.toList with
      | some pc => (fillC (fun i => pc.toArray[i]?) z vs).map fun cs => .one (.agg cs)
      | none => none
    | some z, some (.array _ E), some vs => match tySz P E with
      | some sz => (fillC (fun i => some (i * sz, sz)) z vs).map fun cs => .one (.agg cs)
      | none => none
    | _, _, _ => none
  | .extract x ix => match ev m x with
    | some (.tup vs) => (vs[ix]?).map .one
    | _ => none
  | .call c => qcall P m c
  | .nilCheck x => match evA m x with
    | some (.c (.ptr i off)) => some (.one (.c (.ptr i off)))
    | _ => none
  | _ => none
theorem qop_sound {P : Program} {N : Nat} {e : Env} {m : TM} {t : Array Value} {d : List Deferred} {pl : List Plc} {w : World} {o : Oper} {v : SV} (hk : Kn N e m t) (hp : PlOk e pl w)
    (h : qop P m pl o.op = some v) : (execOp (Act.mk t d).eval o).run P w = .ok (.value (v.den e)) w := by
  unfold execOp
  generalize o.op = op at h
  cases op <;> simp only [qop] at h <;> try contradiction
  case move x => simp only [ev_sound hk h]; rfl
  case nilCheck x =>
    split at h
    · rename_i i off hx
      simp only [Option.some.injEq] at h; subst h
      simp only [evA_sound hk hx]
      rfl
    · simp at h
  case assign x => simp only [ev_sound hk h]; rfl
  case pick c a b =>
    split at h
    · rename_i hc
      simp only [ev_sound hk hc, ev_sound hk h]
      rfl
    · rename_i hc
      simp only [ev_sound hk hc, ev_sound hk h]
      rfl
    · simp at h
  case load T x =>
    split at h
    · rename_i i off hx
      split at h
      · rename_i p hpi
        have hcell := hp i p hpi
        simp only [ev_sound hk hx]
        split at h
        · rename_i n ha hn
          split at h
          · rename_i hlen
            simp only [Option.some.injEq] at h; subst h
            have hl : (loadCells ⟨(e.blk i).1, (e.blk i).2 + off, none⟩ n).run P w = .ok (((p.cells.drop off).take n).map (SC.den e)).toArray w := by
              have := run_loadCells_list (P := P) w ⟨(e.blk i).1, (e.blk i).2 + off, none⟩ (((p.cells.drop off).take n).map (SC.den e)) (fun j v hj => by
                rw [List.getElem?_map] at hj
                obtain ⟨c, hc, rfl⟩ := Option.map_eq_some_iff.1 hj
                rw [List.getElem?_take] at hc
                split at hc
                · rw [List.getElem?_drop] at hc
                  have := hcell (off + j) c hc
                  unfold Addr.add
                  split
                  · subst_vars; simpa using this
                  · simpa [Nat.add_assoc] using this
                · simp at hc)
              rw [List.length_map, hlen] at this
              exact this
            simp only [Instr.loadAt, Instr.sureAddr, SV.den, SA.den, SC.den, Sem.run_bind, Sem.run_pure, Result.andThen_ok, loadVar, run_isAgg' w ha, if_true, run_sizeOf' w hn, hl]
          · simp at h
        · rename_i ha
          obtain ⟨c, hc, rfl⟩ := Option.map_eq_some_iff.1 h
          have := hcell off c hc
          simp only [Instr.loadAt, Instr.sureAddr, SV.den, SA.den, SC.den, Sem.run_bind, Sem.run_pure, Result.andThen_ok, loadVar, run_isAgg' w ha, Bool.false_eq_true, if_false, run_load, this]
        · simp at h
      · simp at h
    · simp at h
  case binOp op T x y yT =>
    split at h
    · rename_i a b ha hb
      obtain ⟨c, hc, rfl⟩ := Option.map_eq_some_iff.1 h
      have := qbin_sound e w x y hc
      simp only [evA_sound hk ha, evA_sound hk hb, Sem.run_bind, SA.den] at this ⊢
      rw [this]; rfl
    · rename_i a b ha hb
      obtain ⟨c, hc, rfl⟩ := Option.map_eq_some_iff.1 h
      have := qagg_sound e w x y hc
      simp only [evA_sound hk ha, evA_sound hk hb, Sem.run_bind, SA.den] at this ⊢
      rw [this]; rfl
    · simp at h
  case unOp op T x =>
    split at h
    · rename_i b hx
      simp only [Option.some.injEq] at h; subst h
      simp [evA_sound hk hx, SA.den, SC.den, Op.unary, SV.den]
    · rename_i k n hx
      simp only [Option.some.injEq] at h; subst h
      simp [evA_sound hk hx, SA.den, SC.den, Op.unary, Op.intArith, SV.den]
    · simp at h
  case convert src dst x =>
    split at h
    · rename_i k n hs hd hx
      simp only [Option.some.injEq] at h; subst h
      simp only [evA_sound hk hx, SA.den, SC.den, SV.den, convert, Sem.run_bind, run_underlying hs, run_underlying hd, Result.andThen_ok, Conv.intToInt]
      rfl
    · simp at h
  case fieldAddr s x f =>
    split at h
    · rename_i fs i off hs hx
      split at h
      · rename_i fl hf
        split at h
        · rename_i n hn
          simp only [Option.some.injEq] at h; subst h
          simp only [evA_sound hk hx, SA.den, SC.den, SV.den, Instr.fieldAt, Instr.sureAddr, Sem.run_bind, run_underlying hs, Result.andThen_ok, hf, Sem.run_pure, fieldPlace, run_sizeOf' w hn]
          simp [Addr.add]
          split
          · simp_all
          · simp [Nat.add_assoc]
        · simp at h
      · simp at h
    · simp at h
  case field T x f =>
    split at h
    · rename_i fs cs hs hx
      split at h
      · rename_i fl hf
        obtain ⟨c, hc, rfl⟩ := Option.map_eq_some_iff.1 h
        have := part'_sound e w hc
        simp only [evA_sound hk hx, SA.den, Instr.field, asAgg, Sem.run_bind, run_underlying hs, Result.andThen_ok, hf, Sem.run_pure, this, SV.den]
      · simp at h
    · simp at h
  case build T ps =>
    split at h
    · rename_i z fs vs hz hs hps
      split at h
      · rename_i pc hpc
        obtain ⟨c, hc, rfl⟩ := Option.map_eq_some_iff.1 h
        obtain ⟨zv, hzv, hzc⟩ := zeroSC_sound e w hz
        have h1 := fillC_sound e _ _ _ _ hc
        have h2 := places_sound w hpc
        have h3 : (Array.mapM (fun f => (do pure (f.offset, ← sizeOf f.type) : Sem (Nat × Nat))) fs).run P w = .ok pc.toArray w := by
          rw [← Array.toArray_toList (xs := fs), List.mapM_toArray]
          simp only [Sem.run_map, h2, Result.andThen_ok]
        have h4 := evParts_sound (d := d) hk hps
        simp only [Instr.build, Sem.run_bind, hzv, Result.andThen_ok, run_underlying hs, h3, hzc]
        have h5 : (Array.map (fun x => (x.1, (Act.mk t d).eval x.2)) ps).toList = vs.map fun x => (x.1, x.2.den e) := by
          rw [← h4]; simp
        simp only [h5, h1]
        rfl
      · simp at h
    · rename_i z q E vs hz hs hps
      split at h
      · rename_i sz hsz
        obtain ⟨c, hc, rfl⟩ := Option.map_eq_some_iff.1 h
        obtain ⟨zv, hzv, hzc⟩ := zeroSC_sound e w hz
        have h1 := fillC_sound e _ _ _ _ hc
        have h4 := evParts_sound (d := d) hk hps
        simp only [Instr.build, Sem.run_bind, hzv, Result.andThen_ok, run_underlying hs, run_sizeOf' w hsz, hzc]
        have h5 : (Array.map (fun x => (x.1, (Act.mk t d).eval x.2)) ps).toList = vs.map fun x => (x.1, x.2.den e) := by
          rw [← h4]; simp
        simp only [h5, h1]
        rfl
      · simp at h
    · simp at h
  case extract x ix =>
    split at h
    · rename_i vs hx
      obtain ⟨c, hc, rfl⟩ := Option.map_eq_some_iff.1 h
      simp [ev_sound hk hx, SV.den, Instr.extract, hc]
    · simp at h
  case call c => exact qcall_sound hk h
end Go.Proofs.Ythcbemnflgjadaa
namespace Go.Proofs.Ythcbemnflgjadaa
open Go Go.RowKit
def wantedS (ops : Array Oper) (m : TM) (o : Oper) : Option Bool :=
  match o.guard with
  | none => some true
  | some (j, want) => match (ops[j]?).bind (·.dst) with
    | some d => match m.get d with
      | some (.one (.c (.bool b))) => some (b == want)
      | some .undef => some false
      | _ => none
    | none => none
theorem wantedS_sound {N : Nat} {e : Env} {m : TM} {t : Array Value} {ops : Array Oper} {o : Oper} {b : Bool} (hk : Kn N e m t) (h : wantedS ops m o = some b) :
    Region.wanted o (yielded ops t) = b := by
  unfold wantedS at h
  unfold Region.wanted
  split at h
  · rename_i hg; simp at h; subst h; simp [hg]
  · rename_i j want hg
    simp only [hg]
    split at h
    · rename_i d hd
      split at h
      · rename_i c hm
        have := hk.get _ _ hm
        simp only [Option.some.injEq] at h; subst h
        unfold yielded
        rw [hd]
        simp [this, SV.den, SA.den, SC.den]
      · rename_i hm
        have := hk.get _ _ hm
        simp only [Option.some.injEq] at h; subst h
        unfold yielded
        rw [hd]
        simp [this, SV.den, Go.undef]
      · simp at h
    · simp at h
def qstep (P : Program) (ops : Array Oper) (N : Nat) (pl : List Plc) (m : TM) (i : Nat) : Option TM :=
  match ops[i]? with
  | some o => match wantedS ops m o with
    | some true => match qop P m pl o.op, o.dst with
      | some v, some d => if d < N then some (m.put d v) else none
      | _, _ => none
    | some false => match o.dst with
      | some d => if d < N then some (m.put d .undef) else none
      | none => some m
    | none => none
  | none => none
def memFree (o : Oper) : Bool := match o.op with | .load .. => false | _ => true
theorem qop_free {P : Program} {m : TM} {pl : List Plc} {o : Oper} {v : SV} (hf : memFree o = true) (h : qop P m pl o.op = some v) : qop P m [] o.op = some v := by
  unfold memFree at hf
  generalize o.op = op at h hf
  cases op <;> first | exact h | cases hf
theorem act_eta {a : Act} {d : List Deferred} (h : a.defers = d) : a = Act.mk a.tmps d := by cases a; subst h; rfl
section
variable {P : Program} {ops : Array Oper} {N : Nat} {e : Env} {m m' : TM} {t : Array Value} {d : List Deferred} {pl : List Plc} {w : World} {Q : Exit → Act → World → Prop}
theorem qstep_sound {i : Nat} (hk : Kn N e m t) (h : qstep P ops N pl m i = some m') :
    ∃ o v, ops[i]? = some o ∧ Kn N e m' ((Act.mk t d).put o.dst v).tmps ∧ ((Act.mk t d).put o.dst v).defers = d ∧
      ((Region.wanted o (yielded ops t) = true ∧ ∀ w, PlOk e pl w → (execOp (Act.mk t d).eval o).run P w = .ok (.value v) w) ∨ (Region.wanted o (yielded ops t) = false ∧ v = undef)) ∧ (memFree o = true → Yields P ops o v ⟨t, d⟩) := by
  unfold qstep at h
  split at h
  · rename_i o ho
    split at h
    · rename_i hw
      split at h
      · rename_i v dd hv hd
        split at h
        · rename_i hlt
          simp only [Option.some.injEq] at h; subst h
          refine ⟨o, v.den e, ho, ?_, ?_, .inl ⟨wantedS_sound hk hw, fun w hp => qop_sound hk hp hv⟩, fun hf => .inl ⟨wantedS_sound hk hw, fun w => qop_sound hk (pl := []) (fun i p hp => by simp at hp) (qop_free hf hv)⟩⟩
          · simp only [hd, Act.put]; exact hk.put hlt v
          · simp only [hd, Act.put]
        · simp at h
      · simp at h
    · rename_i hw
      split at h
      · rename_i dd hd
        split at h
        · rename_i hlt
          simp only [Option.some.injEq] at h; subst h
          refine ⟨o, undef, ho, ?_, ?_, .inr ⟨wantedS_sound hk hw, rfl⟩, fun _ => .inr ⟨wantedS_sound hk hw, rfl⟩⟩
          · simp only [hd, Act.put]; exact hk.put hlt .undef
          · simp only [hd, Act.put]
        · simp at h
      · rename_i hd
        simp only [Option.some.injEq] at h; subst h
        refine ⟨o, undef, ho, ?_, ?_, .inr ⟨wantedS_sound hk hw, rfl⟩, fun _ => .inr ⟨wantedS_sound hk hw, rfl⟩⟩
        · simp only [hd, Act.put]; exact hk
        · simp only [hd, Act.put]
    · simp at h
  · simp at h
def wpFrom (P : Program) (ops : Array Oper) (Q : Exit → Act → World → Prop) (i : Nat) (a : Act) (w : World) : Prop := wpOps P ops Q (List.range' i (ops.size - i)) a w
theorem wp_region_from {id : Nat} {a : Act} (h : wpFrom P ops Q 0 a w) : (Code.region id ops false).wp P Q a w := by
  refine wp_region ?_
  unfold wpFrom at h
  rw [List.range_eq_range']
  simpa using h
theorem wpFrom_end {i : Nat} {a : Act} (hi : ops.size ≤ i) (h : Q .normal a w) : wpFrom P ops Q i a w := by
  unfold wpFrom
  rw [show ops.size - i = 0 by omega]
  exact h
theorem wpFrom_op {i : Nat} {a : Act} (hi : i < ops.size) (h : wpOp P ops Q i (wpFrom P ops Q (i + 1)) a w) : wpFrom P ops Q i a w := by
  unfold wpFrom
  rw [show ops.size - i = (ops.size - (i + 1)) + 1 by omega, List.range'_succ, wpOps_cons]
  exact h
theorem wpFrom_loud {i : Nat} {a : Act} (o : Oper) (hi : ops[i]? = some o) (hw : Region.wanted o (yielded ops a.tmps) = true)
    (h : ∀ K : Act → World → Prop, (∀ a' w', wpFrom P ops Q (i + 1) a' w' → K a' w') → o.wp P a w K Q) : wpFrom P ops Q i a w := by
  have hlt : i < ops.size := by
    rcases Nat.lt_or_ge i ops.size with h' | h'
    · exact h'
    · rw [Array.getElem?_eq_none h'] at hi; cases hi
  refine wpFrom_op hlt ?_
  unfold wpOp
  simp only [hi, hw, if_true]
  exact .inl (h _ fun _ _ h => h)
def qrun (P : Program) (ops : Array Oper) (N : Nat) (pl : List Plc) : Nat → Nat → TM → Option TM
  | _, 0, m => some m
  | i, n + 1, m => match qstep P ops N pl m i with
    | some m' => qrun P ops N pl (i + 1) n m'
    | none => none
theorem wpFrom_run (hp : PlOk e pl w) : ∀ (n i : Nat) (m m' : TM) (t : Array Value), Kn N e m t → qrun P ops N pl i n m = some m' →
    (∀ t', Kn N e m' t' → wpFrom P ops Q (i + n) ⟨t', d⟩ w) → wpFrom P ops Q i ⟨t, d⟩ w
  | 0, i, m, m', t, hk, h, H => by
    simp [qrun] at h; subst h
    exact H t hk
  | n + 1, i, m, m', t, hk, h, H => by
    unfold qrun at h
    split at h
    · rename_i m1 h1
      obtain ⟨o, v, ho, hk', hd, hv, _⟩ := qstep_sound (d := d) hk h1
      have hlt : i < ops.size := by
        rcases Nat.lt_or_ge i ops.size with h' | h'
        · exact h'
        · rw [Array.getElem?_eq_none h'] at ho; cases ho
      refine wpFrom_op hlt ?_
      have hrest : wpFrom P ops Q (i + 1) ((Act.mk t d).put o.dst v) w := by
        have := wpFrom_run hp n (i + 1) m1 m' _ hk' h (fun t' hk'' => by rw [show i + 1 + n = i + (n + 1) by omega]; exact H t' hk'')
        have e : (Act.mk t d).put o.dst v = Act.mk ((Act.mk t d).put o.dst v).tmps d := act_eta hd
        rw [e]; exact this
      unfold wpOp
      simp only [ho]
      rcases hv with ⟨hw, hv⟩ | ⟨hw, rfl⟩
      · simp only [hw, if_true]
        refine .inl ?_
        unfold Oper.wp Oper.upon
        rw [hv w hp]
        exact hrest
      · simp only [hw, Bool.false_eq_true, if_false]
        exact hrest
    · simp at h
theorem R_runk (i n : Nat) (ks : List Nat) (m' : TM) (hk : Kn N e m t) (hp : PlOk e pl w) (h : (qrun P ops N pl i n m).map (fun x => keepTM x ks) = some m')
    (H : ∀ t', Kn N e m' t' → wpFrom P ops Q (i + n) ⟨t', d⟩ w) : wpFrom P ops Q i ⟨t, d⟩ w := by
  obtain ⟨m1, h1, rfl⟩ := Option.map_eq_some_iff.1 h
  exact wpFrom_run hp n i m m1 t hk h1 fun t' hk' => H t' (hk'.sub (keepTM_sub _ _))
end
section
variable {P : Program} {ops : Array Oper} {X : List Nat} {Q : Exit → Act → World → Prop} {S : World → Prop}
def reachB (ops : Array Oper) : Nat → Nat → Nat → Bool
  | 0, _, _ => false
  | n + 1, a, b => match ops[a]? with
    | some o => o.after.any fun e => Region.binds .any e && (e.on == b || reachB ops n e.on b)
    | none => false
def orderedB (ops : Array Oper) (X : List Nat) (j : Nat) : Bool :=
  match ops[j]? with
  | some _ => (List.range ops.size).all fun k => k == j || reachB ops ops.size j k ||
      (match ops[k]? with | some ok => memFree ok || X.contains k || reachB ops ops.size k j | none => true)
  | none => false
def Shut (ops : Array Oper) (listed : Array Bool) : Prop := ∀ (a : Nat) (o : Oper), ops[a]? = some o → listed.getD a false = true → ∀ e ∈ o.after, Region.binds .any e = true → listed.getD e.on false = true
theorem reach_listed {ops : Array Oper} {listed : Array Bool} (hs : Shut ops listed) : ∀ (n a b : Nat) (o : Oper), ops[a]? = some o → (∀ e ∈ o.after, Region.binds .any e = true → listed.getD e.on false = true) → reachB ops n a b = true → listed.getD b false = true
  | 0, _, _, _, _, _, h => by simp [reachB] at h
  | n + 1, a, b, o, ho, hp, h => by
    unfold reachB at h
    rw [ho] at h
    simp only [Array.any_eq_true', Bool.and_eq_true, Bool.or_eq_true, beq_iff_eq] at h
    obtain ⟨e, he, hb, heq | hr⟩ := h
    · rw [← heq]; exact hp e he hb
    · cases ho2 : ops[e.on]? with
      | none =>
        cases n with
        | zero => simp [reachB] at hr
        | succ n => unfold reachB at hr; rw [ho2] at hr; cases hr
      | some o2 => exact reach_listed hs n e.on b o2 ho2 (fun e2 he2 hb2 => hs e.on o2 ho2 (hp e he hb) e2 he2 hb2) hr
theorem Shut.add {ops : Array Oper} {listed : Array Bool} (hs : Shut ops listed) {j : Nat} (hj : j ∈ Region.ready .any ops listed) : Shut ops (listed.setIfInBounds j true) := fun a o ho hl e he hb => by
  by_cases haj : j = a
  · subst haj
    obtain ⟨_, o', ho', hall⟩ := mem_ready.1 hj
    rw [ho] at ho'
    cases ho'
    exact getD_set_true (hall e he hb)
  · rw [getD_set_ne false haj] at hl
    exact getD_set_true (hs a o ho hl e he hb)
theorem not_both {b : Bool} {listed : Array Bool} {i : Nat} (h0 : listed.getD i true = false) (h1 : listed.getD i false = true) : b = true := by
  rcases Nat.lt_or_ge i listed.size with h' | h'
  · simp [h'] at h0 h1; rw [h0] at h1; cases h1
  · simp [Array.getElem?_eq_none h'] at h1
def wpAnyD (P : Program) (ops : Array Oper) (X : List Nat) (Q : Exit → Act → World → Prop) (S : World → Prop) : Nat → Array Bool → Act → World → Prop
  | 0, listed, a, w => Region.ready .any ops listed = [] ∧ Q .normal a w
  | fuel + 1, listed, a, w =>
    (Region.ready .any ops listed = [] → Q .normal a w) ∧
    ∀ i ∈ Region.ready .any ops listed, wpOp P ops Q i (fun a' w' => (orderedB ops X i = true ∧ wpAny P .any ops Q fuel (listed.setIfInBounds i true) a' w') ∨ (S w' ∧ wpAnyD P ops X Q S fuel (listed.setIfInBounds i true) a' w')) a w
theorem wpAny_of_D : ∀ (fuel : Nat) (listed : Array Bool) (a : Act) (w : World), wpAnyD P ops X Q S fuel listed a w → wpAny P .any ops Q fuel listed a w
  | 0, _, _, _, h => h
  | fuel + 1, _, _, _, h => ⟨h.1, fun i hi => wpOp_mono (fun a' w' h' => h'.elim (·.2) fun h' => wpAny_of_D fuel _ a' w' h'.2) (h.2 i hi)⟩
theorem wpAnyD_mono {S' : World → Prop} (hS : ∀ w, S' w → S w) : ∀ (fuel : Nat) (listed : Array Bool) (a : Act) (w : World), wpAnyD P ops X Q S' fuel listed a w → wpAnyD P ops X Q S fuel listed a w
  | 0, _, _, _, h => h
  | fuel + 1, _, _, _, h => ⟨h.1, fun i hi => wpOp_mono (fun a' w' h' => h'.imp id fun h' => ⟨hS _ h'.1, wpAnyD_mono hS fuel _ a' w' h'.2⟩) (h.2 i hi)⟩
theorem wpAnyD_firstF {i : Nat} {oi : Oper} {v : Value} (hi : ops[i]? = some oi) (hs : Region.noSelect ops = true)
    (hQ : ∀ c a w, Q (.panic c) (a.put oi.dst v) w → Q (.panic c) a w) :
    ∀ (fuel : Nat) (listed : Array Bool) (a : Act) (w : World),
      (∀ j oj, ops[j]? = some oj → j ≠ i → listed.getD j true = false → (∀ e ∈ oj.after, Region.binds .any e = true → e.on ≠ i) → oi.apart ops oj = true) →
      i ∈ Region.ready .any ops listed → Yields P ops oi v a → S w →
      wpAnyD P ops X Q S fuel (listed.setIfInBounds i true) (a.put oi.dst v) w → wpAnyD P ops X Q S (fuel + 1) listed a w := by
  intro fuel
  induction fuel with
  | zero =>
    intro listed a w _ hr hy hS H
    refine ⟨fun h => (by rw [h] at hr; cases hr), fun j hj => ?_⟩
    by_cases hji : j = i
    · subst hji; exact hy.wpOp hi (.inr ⟨hS, H⟩)
    · have := ready_mono hj hji
      rw [H.1] at this
      cases this
  | succ fuel ih =>
    intro listed a w hfree hr hy hS H
    refine ⟨fun h => (by rw [h] at hr; cases hr), fun j hj => ?_⟩
    by_cases hji : j = i
    · subst hji; exact hy.wpOp hi (.inr ⟨hS, H⟩)
    · have h1 := H.2 j (ready_mono hj hji)
      obtain ⟨hjun, oj, hoj, hall⟩ := mem_ready.1 hj
      have hnot : ∀ e ∈ oj.after, Region.binds .any e = true → e.on ≠ i := fun e he hb heq => by
        have h1 := hall e he hb
        have h0 := (mem_ready.1 hr).1
        rw [heq] at h1
        rcases Nat.lt_or_ge i listed.size with h' | h'
        · simp [h'] at h0 h1; rw [h0] at h1; cases h1
        · simp [Array.getElem?_eq_none h'] at h1
      have hnot2 : ∀ e ∈ oi.after, Region.binds .any e = true → e.on ≠ j := fun e he hb heq => by
        obtain ⟨_, oi', hoi', hall'⟩ := mem_ready.1 hr
        rw [hi] at hoi'
        cases hoi'
        have h1 := hall' e he hb
        rw [heq] at h1
        rcases Nat.lt_or_ge j listed.size with h' | h'
        · simp [h'] at hjun h1; rw [hjun] at h1; cases h1
        · simp [Array.getElem?_eq_none h'] at h1
      have h2 := wpOp_put hoj (hfree j oj hoj hji hjun hnot) (fun cs b => Region.noSelect_spec hs i oi cs b hi) (fun cs b => Region.noSelect_spec hs j oj cs b hoj) hQ hy h1
      have hfree' : ∀ k ok, ops[k]? = some ok → k ≠ i → (listed.setIfInBounds j true).getD k true = false →
          (∀ e ∈ ok.after, Region.binds .any e = true → e.on ≠ i) → oi.apart ops ok = true := fun k ok hk hki hun hno => by
        refine hfree k ok hk hki ?_ hno
        by_cases hjk : j = k
        · subst hjk; exact hjun
        · rw [getD_set_ne true hjk] at hun; exact hun
      refine wpOp_mono (fun a' w' h3 => ?_) h2
      rcases h3.2 with h4 | h4
      · refine .inl ⟨h4.1, ?_⟩
        have := wpAny_first (md := .any) hi (Region.noSelect_spec hs) hQ fuel (listed.setIfInBounds j true) a' w' hfree' (ready_mono hr (Ne.symm hji)) h3.1
        refine this ?_
        rw [Array.setIfInBounds_comm _ _ hji]
        exact h4.2
      · refine .inr ⟨h4.1, ih (listed.setIfInBounds j true) a' w' hfree' (ready_mono hr (Ne.symm hji)) h3.1 h4.1 ?_⟩
        rw [Array.setIfInBounds_comm _ _ hji]
        exact h4.2
theorem wpAnyD_first {i : Nat} {oi : Oper} {v : Value} (hi : ops[i]? = some oi) (hs : Region.noSelect ops = true) (hmf : memFree oi = false) (hX : X.contains i = false)
    (hQ : ∀ c a w, Q (.panic c) (a.put oi.dst v) w → Q (.panic c) a w) :
    ∀ (fuel : Nat) (listed : Array Bool) (a : Act) (w : World),
      (∀ j oj, ops[j]? = some oj → j ≠ i → listed.getD j true = false → (∀ e ∈ oj.after, Region.binds .any e = true → e.on ≠ i) → oi.apart ops oj = true) →
      Shut ops listed → i ∈ Region.ready .any ops listed → YieldsIf P ops S oi v a → S w →
      wpAnyD P ops X Q S fuel (listed.setIfInBounds i true) (a.put oi.dst v) w → wpAnyD P ops X Q S (fuel + 1) listed a w := by
  intro fuel
  induction fuel with
  | zero =>
    intro listed a w _ _ hr hy hS H
    refine ⟨fun h => (by rw [h] at hr; cases hr), fun j hj => ?_⟩
    by_cases hji : j = i
    · subst hji; exact hy.wpOp hi hS (.inr ⟨hS, H⟩)
    · have := ready_mono hj hji
      rw [H.1] at this
      cases this
  | succ fuel ih =>
    intro listed a w hfree hsh hr hy hS H
    refine ⟨fun h => (by rw [h] at hr; cases hr), fun j hj => ?_⟩
    by_cases hji : j = i
    · subst hji; exact hy.wpOp hi hS (.inr ⟨hS, H⟩)
    · have h1 := H.2 j (ready_mono hj hji)
      obtain ⟨hjun, oj, hoj, hall⟩ := mem_ready.1 hj
      have hnot : ∀ e ∈ oj.after, Region.binds .any e = true → e.on ≠ i := fun e he hb heq => by
        have h1 := hall e he hb
        have h0 := (mem_ready.1 hr).1
        rw [heq] at h1
        rcases Nat.lt_or_ge i listed.size with h' | h'
        · simp [h'] at h0 h1; rw [h0] at h1; cases h1
        · simp [Array.getElem?_eq_none h'] at h1
      have hnot2 : ∀ e ∈ oi.after, Region.binds .any e = true → e.on ≠ j := fun e he hb heq => by
        obtain ⟨_, oi', hoi', hall'⟩ := mem_ready.1 hr
        rw [hi] at hoi'
        cases hoi'
        have h1 := hall' e he hb
        rw [heq] at h1
        rcases Nat.lt_or_ge j listed.size with h' | h'
        · simp [h'] at hjun h1; rw [hjun] at h1; cases h1
        · simp [Array.getElem?_eq_none h'] at h1
      have h2 := wpOp_putIf hoj (hfree j oj hoj hji hjun hnot) (fun cs b => Region.noSelect_spec hs i oi cs b hi) (fun cs b => Region.noSelect_spec hs j oj cs b hoj) hQ hy h1
      have hfree' : ∀ k ok, ops[k]? = some ok → k ≠ i → (listed.setIfInBounds j true).getD k true = false →
          (∀ e ∈ ok.after, Region.binds .any e = true → e.on ≠ i) → oi.apart ops ok = true := fun k ok hk hki hun hno => by
        refine hfree k ok hk hki ?_ hno
        by_cases hjk : j = k
        · subst hjk; exact hjun
        · rw [getD_set_ne true hjk] at hun; exact hun
      have hlast : orderedB ops X j = false := by
        cases hl : orderedB ops X j with
        | false => rfl
        | true =>
          unfold orderedB at hl
          rw [hoj] at hl
          have hsz : i < ops.size := by
            rcases Nat.lt_or_ge i ops.size with h' | h'
            · exact h'
            · rw [Array.getElem?_eq_none h'] at hi; cases hi
          have h3 := List.all_eq_true.1 hl i (by simpa using hsz)
          rw [hi] at h3
          simp only [hmf, hX, Bool.false_or, Bool.or_eq_true, beq_iff_eq] at h3
          obtain ⟨hiun, oi', hoi', halli⟩ := mem_ready.1 hr
          rw [hi] at hoi'
          cases hoi'
          rcases h3 with (h3 | h3) | h3
          · exact absurd h3 (Ne.symm hji)
          · exact absurd (not_both (b := false) hiun (reach_listed hsh _ j i oj hoj hall h3)) (by simp)
          · exact absurd (not_both (b := false) hjun (reach_listed hsh _ i j oi hi halli h3)) (by simp)
      refine wpOp_mono (fun a' w' h3 => .inr ?_) h2
      have h4 := h3.2.resolve_left (fun h => by rw [hlast] at h; cases h.1)
      refine ⟨h4.1, ih (listed.setIfInBounds j true) a' w' hfree' (hsh.add hj) (ready_mono hr (Ne.symm hji)) h3.1 h4.1 ?_⟩
      rw [Array.setIfInBounds_comm _ _ hji]
      exact h4.2
def listedOf (n : Nat) : List Nat → Array Bool
  | [] => Array.replicate n false
  | i :: r => (listedOf n r).setIfInBounds i true
def wpD (P : Program) (ops : Array Oper) (X : List Nat) (Q : Exit → Act → World → Prop) (e : Env) (pl : List Plc) (done : List Nat) (a : Act) (w : World) : Prop :=
  wpAnyD P ops X Q (PlOk e pl) (ops.size - done.length) (listedOf ops.size done) a w
def wpG (P : Program) (ops : Array Oper) (Q : Exit → Act → World → Prop) (done : List Nat) (a : Act) (w : World) : Prop :=
  wpAny P .any ops Q (ops.size - done.length) (listedOf ops.size done) a w
theorem wp_region_G {id : Nat} {a : Act} {w : World} (hm : P.follows .mixedOrders = true) (h : wpG P ops Q [] a w.drew) : (Code.region id ops true).wp P Q a w :=
  wp_region_any hm (by unfold wpG at h; simpa [listedOf] using h)
theorem wpG_of_D (X : List Nat) (e : Env) (pl : List Plc) {done : List Nat} {a : Act} {w : World} (h : wpD P ops X Q e pl done a w) : wpG P ops Q done a w := wpAny_of_D _ _ _ _ h
theorem wpG_end {done : List Nat} {a : Act} {w : World} (hr : Region.ready .any ops (listedOf ops.size done) = []) (h : Q .normal a w) : wpG P ops Q done a w := by
  unfold wpG
  generalize ops.size - done.length = f
  cases f with
  | zero => exact ⟨hr, h⟩
  | succ f => exact ⟨fun _ => h, by rw [hr]; simp⟩
theorem wpD_end {e : Env} {pl : List Plc} {done : List Nat} {a : Act} {w : World} (hr : Region.ready .any ops (listedOf ops.size done) = []) (h : Q .normal a w) : wpD P ops X Q e pl done a w := by
  unfold wpD
  generalize ops.size - done.length = f
  cases f with
  | zero => exact ⟨hr, h⟩
  | succ f => exact ⟨fun _ => h, by rw [hr]; simp⟩
def shutB (ops : Array Oper) (done : List Nat) : Bool := done.all fun a => match ops[a]? with
  | some o => o.after.all fun e => !Region.binds .any e || (listedOf ops.size done).getD e.on false
  | none => true
theorem listedOf_mem {n : Nat} : ∀ {done : List Nat} {a : Nat}, (listedOf n done).getD a false = true → a ∈ done
  | [], a, h => by
    unfold listedOf at h
    rcases Nat.lt_or_ge a n with h' | h'
    · simp [h'] at h
    · simp [Nat.not_lt.2 h'] at h
  | i :: r, a, h => by
    unfold listedOf at h
    by_cases hia : i = a
    · subst hia; exact List.mem_cons_self
    · rw [getD_set_ne false hia] at h
      exact List.mem_cons_of_mem _ (listedOf_mem h)
theorem shutB_sound {ops : Array Oper} {done : List Nat} (h : shutB ops done = true) : Shut ops (listedOf ops.size done) := fun a o ho hl e he hb => by
  have h1 := List.all_eq_true.1 h a (listedOf_mem hl)
  rw [ho] at h1
  have h2 := Array.all_eq_true'.1 h1 e he
  rw [hb] at h2
  simpa using h2
def firstC (ops : Array Oper) (X : List Nat) (done : List Nat) (i : Nat) : Bool :=
  (match ops[i]? with | some o => memFree o || !X.contains i | none => false) && decide (done.length < ops.size) && Region.free .any ops (listedOf ops.size done) i && (Region.ready .any ops (listedOf ops.size done)).contains i
def firstB (ops : Array Oper) (X : List Nat) (done : List Nat) (i : Nat) : Bool := firstC ops X done i && shutB ops done
theorem wpD_takeC {e : Env} {pl : List Plc} {done : List Nat} {a : Act} {w : World} {i : Nat} {oi : Oper} {v : Value} (hi : ops[i]? = some oi) (hs : Region.noSelect ops = true) (hf : firstC ops X done i = true) (hsh : Shut ops (listedOf ops.size done))
    (hQ : ∀ c a w, Q (.panic c) (a.put oi.dst v) w → Q (.panic c) a w) (hS : PlOk e pl w) (hy : YieldsIf P ops (PlOk e pl) oi v a) (hyf : memFree oi = true → Yields P ops oi v a)
    (h : wpD P ops X Q e pl (i :: done) (a.put oi.dst v) w) : wpD P ops X Q e pl done a w := by
  unfold firstC at hf
  rw [hi] at hf
  simp only [Bool.and_eq_true, decide_eq_true_eq] at hf
  obtain ⟨⟨⟨hx, hl⟩, hf⟩, hr⟩ := hf
  unfold wpD at *
  rw [show ops.size - done.length = (ops.size - (i :: done).length) + 1 by simp; omega]
  cases hmf : memFree oi with
  | false => exact wpAnyD_first hi hs hmf (by simpa [hmf] using hx) hQ _ _ a w (Region.free_spec hi hf) hsh (by simpa using hr) hy hS h
  | true => exact wpAnyD_firstF hi hs hQ _ _ a w (Region.free_spec hi hf) (by simpa using hr) (hyf hmf) hS h
theorem wpD_take {e : Env} {pl : List Plc} {done : List Nat} {a : Act} {w : World} {i : Nat} {oi : Oper} {v : Value} (hi : ops[i]? = some oi) (hs : Region.noSelect ops = true) (hf : firstB ops X done i = true)
    (hQ : ∀ c a w, Q (.panic c) (a.put oi.dst v) w → Q (.panic c) a w) (hS : PlOk e pl w) (hy : YieldsIf P ops (PlOk e pl) oi v a) (hyf : memFree oi = true → Yields P ops oi v a)
    (h : wpD P ops X Q e pl (i :: done) (a.put oi.dst v) w) : wpD P ops X Q e pl done a w := by
  unfold firstB at hf
  rw [Bool.and_eq_true] at hf
  exact wpD_takeC hi hs hf.1 (shutB_sound hf.2) hQ hS hy hyf h
theorem firstC_shut {ops : Array Oper} {X done : List Nat} {i : Nat} (hf : firstC ops X done i = true) (hsh : Shut ops (listedOf ops.size done)) : Shut ops (listedOf ops.size (i :: done)) := by
  unfold firstC at hf
  simp only [Bool.and_eq_true] at hf
  exact hsh.add (by simpa using hf.2)
def qrunC (P : Program) (ops : Array Oper) (X : List Nat) (N : Nat) (pl : List Plc) : List Nat → List Nat → TM → Option TM
  | [], _, m => some m
  | i :: r, done, m => if firstC ops X done i then (match qstep P ops N pl m i with
    | some m' => qrunC P ops X N pl r (i :: done) m'
    | none => none) else none
def qrunD (P : Program) (ops : Array Oper) (X : List Nat) (N : Nat) (pl : List Plc) (is done : List Nat) (m : TM) : Option TM := if shutB ops done then qrunC P ops X N pl is done m else none
def Deaf (Q : Exit → Act → World → Prop) : Prop := ∀ c t t' d w, Q (.panic c) ⟨t, d⟩ w → Q (.panic c) ⟨t', d⟩ w
theorem wpD_runs {N : Nat} {e : Env} {pl : List Plc} {w : World} {d : List Deferred} (hs : Region.noSelect ops = true) (hQ : Deaf Q) (hp : PlOk e pl w) : ∀ (is done : List Nat) (m m' : TM) (t : Array Value), Shut ops (listedOf ops.size done) → Kn N e m t →
    qrunC P ops X N pl is done m = some m' → (∀ t', Kn N e m' t' → wpD P ops X Q e pl (is.reverseAux done) ⟨t', d⟩ w) → wpD P ops X Q e pl done ⟨t, d⟩ w
  | [], done, m, m', t, _, hk, h, H => by
    simp [qrunC] at h; subst h
    exact H t hk
  | i :: r, done, m, m', t, hsh, hk, h, H => by
    unfold qrunC at h
    split at h
    · rename_i hf
      split at h
      · rename_i m1 h1
        obtain ⟨o, v, ho, hk', hd, hv, hvf⟩ := qstep_sound (d := d) hk h1
        have e1 : (Act.mk t d).put o.dst v = Act.mk ((Act.mk t d).put o.dst v).tmps d := act_eta hd
        refine wpD_takeC ho hs hf hsh (v := v) ?_ hp ?_ hvf ?_
        · intro c a w hq
          cases hdst : o.dst with
          | none => rw [hdst] at hq; exact hq
          | some x => rw [hdst] at hq; exact hQ c _ _ _ _ hq
        · rcases hv with ⟨hw, hv⟩ | ⟨hw, rfl⟩
          · exact .inl ⟨hw, hv⟩
          · exact .inr ⟨hw, rfl⟩
        · rw [e1]
          exact wpD_runs hs hQ hp r (i :: done) m1 m' _ (firstC_shut hf hsh) hk' h H
      · simp at h
    · simp at h
theorem D_run {N : Nat} {e : Env} {pl : List Plc} {w : World} {d : List Deferred} {m : TM} {t : Array Value} {done : List Nat} (is done' ks : List Nat) (m' : TM) (hQ : Deaf Q) (hk : Kn N e m t) (hp : PlOk e pl w)
    (hs : Region.noSelect ops = true) (hd : is.reverseAux done = done') (h : (qrunD P ops X N pl is done m).map (fun x => keepTM x ks) = some m') (H : ∀ t', Kn N e m' t' → wpD P ops X Q e pl done' ⟨t', d⟩ w) : wpD P ops X Q e pl done ⟨t, d⟩ w := by
  obtain ⟨m1, h1, rfl⟩ := Option.map_eq_some_iff.1 h
  subst hd
  unfold qrunD at h1
  split at h1
  · rename_i hsh
    exact wpD_runs hs hQ hp is done m m1 t (shutB_sound hsh) hk h1 fun t' hk' => H t' (hk'.sub (keepTM_sub _ _))
  · cases h1
theorem D_one {N : Nat} {e e' : Env} {pl pl' : List Plc} {w : World} {d : List Deferred} {m' : TM} {t : Array Value} {done : List Nat} (i : Nat) {oi : Oper} {dd : Nat} (v : SV) (hQ : Deaf Q)
    (hi : ops[i]? = some oi) (hs : Region.noSelect ops = true) (hf : firstB ops X done i = true) (hg : Region.wanted oi (yielded ops t) = true) (hdst : oi.dst = some dd) (hS : PlOk e pl w)
    (hsub : ∀ w, PlOk e' pl' w → PlOk e pl w)
    (hv : ∀ w, (execOp (Act.mk t d).eval oi).run P w = .ok (.value (v.den e')) w)
    (hk' : Kn N e' m' (t.setIfInBounds dd (v.den e')))
    (H : ∀ t', Kn N e' m' t' → wpD P ops X Q e' pl' (i :: done) ⟨t', d⟩ w) : wpD P ops X Q e pl done ⟨t, d⟩ w := by
  refine wpD_take hi hs hf (v := v.den e') ?_ hS (.inl ⟨hg, fun w _ => hv w⟩) (fun _ => .inl ⟨hg, hv⟩) ?_
  · intro c a w hq
    rw [hdst] at hq
    exact hQ c _ _ _ _ hq
  · have := wpAnyD_mono (P := P) (ops := ops) (X := X) (Q := Q) hsub _ _ _ _ (H _ hk')
    rw [hdst]
    exact this
theorem D_loud {e : Env} {pl : List Plc} {w : World} {a : Act} {done : List Nat} (i : Nat) {oi : Oper} (hi : ops[i]? = some oi) (hr : Region.ready .any ops (listedOf ops.size done) = [i]) (hl : done.length < ops.size)
    (hw : Region.wanted oi (yielded ops a.tmps) = true)
    (h : ∀ K : Act → World → Prop, (∀ a' w', PlOk e pl w' → wpD P ops X Q e pl (i :: done) a' w' → K a' w') → oi.wp P a w K Q) : wpD P ops X Q e pl done a w := by
  unfold wpD at *
  rw [show ops.size - done.length = (ops.size - (i :: done).length) + 1 by simp; omega]
  refine ⟨fun h0 => by rw [hr] at h0; simp at h0, ?_⟩
  rw [hr]
  intro j hj
  obtain rfl : j = i := by simpa using hj
  unfold wpOp
  simp only [hi, hw, if_true]
  exact .inl (h _ fun a' w' h1 h2 => .inr ⟨h1, h2⟩)
theorem D_sync {e : Env} {pl : List Plc} {w : World} {a : Act} {done : List Nat} (i : Nat) {oi : Oper} (hi : ops[i]? = some oi) (hr : Region.ready .any ops (listedOf ops.size done) = [i]) (hl : done.length < ops.size)
    (hw : Region.wanted oi (yielded ops a.tmps) = true) (ho : orderedB ops X i = true)
    (h : ∀ K : Act → World → Prop, (∀ a' w', wpG P ops Q (i :: done) a' w' → K a' w') → oi.wp P a w K Q) : wpD P ops X Q e pl done a w := by
  unfold wpD wpG at *
  rw [show ops.size - done.length = (ops.size - (i :: done).length) + 1 by simp; omega]
  refine ⟨fun h0 => by rw [hr] at h0; simp at h0, ?_⟩
  rw [hr]
  intro j hj
  obtain rfl : j = i := by simpa using hj
  unfold wpOp
  simp only [hi, hw, if_true]
  exact .inl (h _ fun a' w' h1 => .inl ⟨ho, h1⟩)
theorem D_two {e : Env} {pl : List Plc} {w : World} {a : Act} {done : List Nat} (i j : Nat) {oi oj : Oper} (hi : ops[i]? = some oi) (hj : ops[j]? = some oj) (hr : Region.ready .any ops (listedOf ops.size done) = [i, j]) (hl : done.length < ops.size)
    (hwi : Region.wanted oi (yielded ops a.tmps) = true) (hwj : Region.wanted oj (yielded ops a.tmps) = true)
    (h1 : ∀ K : Act → World → Prop, (∀ a' w', PlOk e pl w' → wpD P ops X Q e pl (i :: done) a' w' → K a' w') → oi.wp P a w K Q)
    (h2 : ∀ K : Act → World → Prop, (∀ a' w', PlOk e pl w' → wpD P ops X Q e pl (j :: done) a' w' → K a' w') → oj.wp P a w K Q) : wpD P ops X Q e pl done a w := by
  unfold wpD at *
  rw [show ops.size - done.length = (ops.size - (i :: done).length) + 1 by simp; omega]
  refine ⟨fun h0 => by rw [hr] at h0; simp at h0, ?_⟩
  rw [hr]
  intro k hk
  simp only [List.mem_cons, List.not_mem_nil, or_false] at hk
  unfold wpOp
  rcases hk with rfl | rfl
  · simp only [hi, hwi, if_true]
    exact .inl (h1 _ fun a' w' h1 h2 => .inr ⟨h1, h2⟩)
  · simp only [hj, hwj, if_true]
    exact .inl (h2 _ fun a' w' h1 h2 => .inr ⟨h1, h2⟩)
end
end Go.Proofs.Ythcbemnflgjadaa
