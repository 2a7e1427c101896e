/- Runs of quiet operations, in a plain region and in one that draws its order; one loud operation at a time. -/
import Derived.Test.YtokchpjijlebiaaSymB
set_option linter.all false
namespace Go.Proofs.Ytokchpjijlebiaa
open Go Go.RowKit

/-- Is an operation wanted, by what is known? -/
def wantedS (ops : Array Oper) (m : TM) (o : Oper) : Option Bool :=
  match o.guard with
  | none => some true
  | some (j, want) => match (ops[j]?).bind (·.dst) with
    | some d => match m.get d with
      | some (.one (.c (.bool b))) => some (b == want)
      | some .undef => some false
      | _ => none
    | none => none
theorem wantedS_sound {N : Nat} {e : Env} {m : TM} {t : Array Value} {ops : Array Oper} {o : Oper} {b : Bool} (hk : Kn N e m t) (h : wantedS ops m o = some b) :
    Region.wanted o (yielded ops t) = b := by
  unfold wantedS at h
  unfold Region.wanted
  split at h
  · rename_i hg; simp at h; subst h; simp [hg]
  · rename_i j want hg
    simp only [hg]
    split at h
    · rename_i d hd
      split at h
      · rename_i c hm
        have := hk.get _ _ hm
        simp only [Option.some.injEq] at h; subst h
        unfold yielded
        rw [hd]
        simp [this, SV.den, SA.den, SC.den]
      · rename_i hm
        have := hk.get _ _ hm
        simp only [Option.some.injEq] at h; subst h
        unfold yielded
        rw [hd]
        simp [this, SV.den, Go.undef]
      · simp at h
    · simp at h

def qstep (P : Program) (ops : Array Oper) (N : Nat) (pl : List Plc) (m : TM) (i : Nat) : Option TM :=
  match ops[i]? with
  | some o => match wantedS ops m o with
    | some true => match qop P m pl o.op, o.dst with
      | some v, some d => if d < N then some (m.put d v) else none
      | _, _ => none
    | some false => match o.dst with
      | some d => if d < N then some (m.put d .undef) else none
      | none => some m
    | none => none
  | none => none

/-- Does it look at no memory? -/
def memFree (o : Oper) : Bool := match o.op with | .load .. => false | _ => true
theorem qop_free {P : Program} {m : TM} {pl : List Plc} {o : Oper} {v : SV} (hf : memFree o = true) (h : qop P m pl o.op = some v) : qop P m [] o.op = some v := by
  unfold memFree at hf
  generalize o.op = op at h hf
  cases op <;> first | exact h | cases hf
theorem act_eta {a : Act} {d : List Deferred} (h : a.defers = d) : a = Act.mk a.tmps d := by cases a; subst h; rfl
section
variable {P : Program} {ops : Array Oper} {N : Nat} {e : Env} {m m' : TM} {t : Array Value} {d : List Deferred} {pl : List Plc} {w : World} {Q : Exit → Act → World → Prop}

/-- What a quiet step does. -/
theorem qstep_sound {i : Nat} (hk : Kn N e m t) (h : qstep P ops N pl m i = some m') :
    ∃ o v, ops[i]? = some o ∧ Kn N e m' ((Act.mk t d).put o.dst v).tmps ∧ ((Act.mk t d).put o.dst v).defers = d ∧
      ((Region.wanted o (yielded ops t) = true ∧ ∀ w, PlOk e pl w → (execOp (Act.mk t d).eval o).run P w = .ok (.value v) w) ∨ (Region.wanted o (yielded ops t) = false ∧ v = undef)) ∧ (memFree o = true → Yields P ops o v ⟨t, d⟩) := by
  unfold qstep at h
  split at h
  · rename_i o ho
    split at h
    · rename_i hw
      split at h
      · rename_i v dd hv hd
        split at h
        · rename_i hlt
          simp only [Option.some.injEq] at h; subst h
          refine ⟨o, v.den e, ho, ?_, ?_, .inl ⟨wantedS_sound hk hw, fun w hp => qop_sound hk hp hv⟩, fun hf => .inl ⟨wantedS_sound hk hw, fun w => qop_sound hk (pl := []) (fun i p hp => by simp at hp) (qop_free hf hv)⟩⟩
          · simp only [hd, Act.put]; exact hk.put hlt v
          · simp only [hd, Act.put]
        · simp at h
      · simp at h
    · rename_i hw
      split at h
      · rename_i dd hd
        split at h
        · rename_i hlt
          simp only [Option.some.injEq] at h; subst h
          refine ⟨o, undef, ho, ?_, ?_, .inr ⟨wantedS_sound hk hw, rfl⟩, fun _ => .inr ⟨wantedS_sound hk hw, rfl⟩⟩
          · simp only [hd, Act.put]; exact hk.put hlt .undef
          · simp only [hd, Act.put]
        · simp at h
      · rename_i hd
        simp only [Option.some.injEq] at h; subst h
        refine ⟨o, undef, ho, ?_, ?_, .inr ⟨wantedS_sound hk hw, rfl⟩, fun _ => .inr ⟨wantedS_sound hk hw, rfl⟩⟩
        · simp only [hd, Act.put]; exact hk
        · simp only [hd, Act.put]
    · simp at h
  · simp at h

/- a plain region -/
/-- From operation i on. -/
def wpFrom (P : Program) (ops : Array Oper) (Q : Exit → Act → World → Prop) (i : Nat) (a : Act) (w : World) : Prop := wpOps P ops Q (List.range' i (ops.size - i)) a w
theorem wp_region_from {id : Nat} {a : Act} (h : wpFrom P ops Q 0 a w) : (Code.region id ops false).wp P Q a w := by
  refine wp_region ?_
  unfold wpFrom at h
  rw [List.range_eq_range']
  simpa using h
theorem wpFrom_end {i : Nat} {a : Act} (hi : ops.size ≤ i) (h : Q .normal a w) : wpFrom P ops Q i a w := by
  unfold wpFrom
  rw [show ops.size - i = 0 by omega]
  exact h
theorem wpFrom_op {i : Nat} {a : Act} (hi : i < ops.size) (h : wpOp P ops Q i (wpFrom P ops Q (i + 1)) a w) : wpFrom P ops Q i a w := by
  unfold wpFrom
  rw [show ops.size - i = (ops.size - (i + 1)) + 1 by omega, List.range'_succ, wpOps_cons]
  exact h
theorem wpFrom_loud {i : Nat} {a : Act} (o : Oper) (hi : ops[i]? = some o) (hw : Region.wanted o (yielded ops a.tmps) = true)
    (h : ∀ K : Act → World → Prop, (∀ a' w', wpFrom P ops Q (i + 1) a' w' → K a' w') → o.wp P a w K Q) : wpFrom P ops Q i a w := by
  have hlt : i < ops.size := by
    rcases Nat.lt_or_ge i ops.size with h' | h'
    · exact h'
    · rw [Array.getElem?_eq_none h'] at hi; cases hi
  refine wpFrom_op hlt ?_
  unfold wpOp
  simp only [hi, hw, if_true]
  exact .inl (h _ fun _ _ h => h)
def qrun (P : Program) (ops : Array Oper) (N : Nat) (pl : List Plc) : Nat → Nat → TM → Option TM
  | _, 0, m => some m
  | i, n + 1, m => match qstep P ops N pl m i with
    | some m' => qrun P ops N pl (i + 1) n m'
    | none => none
theorem wpFrom_run (hp : PlOk e pl w) : ∀ (n i : Nat) (m m' : TM) (t : Array Value), Kn N e m t → qrun P ops N pl i n m = some m' →
    (∀ t', Kn N e m' t' → wpFrom P ops Q (i + n) ⟨t', d⟩ w) → wpFrom P ops Q i ⟨t, d⟩ w
  | 0, i, m, m', t, hk, h, H => by
    simp [qrun] at h; subst h
    exact H t hk
  | n + 1, i, m, m', t, hk, h, H => by
    unfold qrun at h
    split at h
    · rename_i m1 h1
      obtain ⟨o, v, ho, hk', hd, hv, _⟩ := qstep_sound (d := d) hk h1
      have hlt : i < ops.size := by
        rcases Nat.lt_or_ge i ops.size with h' | h'
        · exact h'
        · rw [Array.getElem?_eq_none h'] at ho; cases ho
      refine wpFrom_op hlt ?_
      have hrest : wpFrom P ops Q (i + 1) ((Act.mk t d).put o.dst v) w := by
        have := wpFrom_run hp n (i + 1) m1 m' _ hk' h (fun t' hk'' => by rw [show i + 1 + n = i + (n + 1) by omega]; exact H t' hk'')
        have e : (Act.mk t d).put o.dst v = Act.mk ((Act.mk t d).put o.dst v).tmps d := act_eta hd
        rw [e]; exact this
      unfold wpOp
      simp only [ho]
      rcases hv with ⟨hw, hv⟩ | ⟨hw, rfl⟩
      · simp only [hw, if_true]
        refine .inl ?_
        unfold Oper.wp Oper.upon
        rw [hv w hp]
        exact hrest
      · simp only [hw, Bool.false_eq_true, if_false]
        exact hrest
    · simp at h
/-- A run of n quiet operations from i on. -/
theorem R_run (i n : Nat) (m' : TM) (hk : Kn N e m t) (hp : PlOk e pl w) (h : qrun P ops N pl i n m = some m')
    (H : ∀ t', Kn N e m' t' → wpFrom P ops Q (i + n) ⟨t', d⟩ w) : wpFrom P ops Q i ⟨t, d⟩ w := wpFrom_run hp n i m m' t hk h H
/-- The same, with less known behind it. -/
theorem R_runk (i n : Nat) (ks : List Nat) (m' : TM) (hk : Kn N e m t) (hp : PlOk e pl w) (h : (qrun P ops N pl i n m).map (fun x => keepTM x ks) = some m')
    (H : ∀ t', Kn N e m' t' → wpFrom P ops Q (i + n) ⟨t', d⟩ w) : wpFrom P ops Q i ⟨t, d⟩ w := by
  obtain ⟨m1, h1, rfl⟩ := Option.map_eq_some_iff.1 h
  exact wpFrom_run hp n i m m1 t hk h1 fun t' hk' => H t' (hk'.sub (keepTM_sub _ _))
end

/- a region that draws -/
section
variable {P : Program} {ops : Array Oper} {X : List Nat} {Q : Exit → Act → World → Prop} {S : World → Prop}

/-- Does an operation stand in order to all others that look at memory, but those of X? -/
def orderedB (ops : Array Oper) (X : List Nat) (j : Nat) : Bool :=
  match ops[j]? with
  | some o => (List.range ops.size).all fun k => k == j || o.after.any (fun e => Region.binds .any e && e.on == k) ||
      (match ops[k]? with | some ok => memFree ok || X.contains k || ok.after.any fun e => Region.binds .any e && e.on == j | none => true)
  | none => false

/-- Whatever order comes; S holds behind each operation that does not stand in order to all others. -/
def wpAnyD (P : Program) (ops : Array Oper) (X : List Nat) (Q : Exit → Act → World → Prop) (S : World → Prop) : Nat → Array Bool → Act → World → Prop
  | 0, listed, a, w => Region.ready .any ops listed = [] ∧ Q .normal a w
  | fuel + 1, listed, a, w =>
    (Region.ready .any ops listed = [] → Q .normal a w) ∧
    ∀ i ∈ Region.ready .any ops listed, wpOp P ops Q i (fun a' w' => (orderedB ops X i = true ∧ wpAny P .any ops Q fuel (listed.setIfInBounds i true) a' w') ∨ (S w' ∧ wpAnyD P ops X Q S fuel (listed.setIfInBounds i true) a' w')) a w

theorem wpAny_of_D : ∀ (fuel : Nat) (listed : Array Bool) (a : Act) (w : World), wpAnyD P ops X Q S fuel listed a w → wpAny P .any ops Q fuel listed a w
  | 0, _, _, _, h => h
  | fuel + 1, _, _, _, h => ⟨h.1, fun i hi => wpOp_mono (fun a' w' h' => h'.elim (·.2) fun h' => wpAny_of_D fuel _ a' w' h'.2) (h.2 i hi)⟩
theorem wpAnyD_mono {S' : World → Prop} (hS : ∀ w, S' w → S w) : ∀ (fuel : Nat) (listed : Array Bool) (a : Act) (w : World), wpAnyD P ops X Q S' fuel listed a w → wpAnyD P ops X Q S fuel listed a w
  | 0, _, _, _, h => h
  | fuel + 1, _, _, _, h => ⟨h.1, fun i hi => wpOp_mono (fun a' w' h' => h'.imp id fun h' => ⟨hS _ h'.1, wpAnyD_mono hS fuel _ a' w' h'.2⟩) (h.2 i hi)⟩

theorem wpAnyD_firstF {i : Nat} {oi : Oper} {v : Value} (hi : ops[i]? = some oi) (hs : Region.noSelect ops = true)
    (hQ : ∀ c a w, Q (.panic c) (a.put oi.dst v) w → Q (.panic c) a w) :
    ∀ (fuel : Nat) (listed : Array Bool) (a : Act) (w : World),
      (∀ j oj, ops[j]? = some oj → j ≠ i → listed.getD j true = false → (∀ e ∈ oj.after, Region.binds .any e = true → e.on ≠ i) → oi.apart ops oj = true) →
      i ∈ Region.ready .any ops listed → Yields P ops oi v a → S w →
      wpAnyD P ops X Q S fuel (listed.setIfInBounds i true) (a.put oi.dst v) w → wpAnyD P ops X Q S (fuel + 1) listed a w := by
  intro fuel
  induction fuel with
  | zero =>
    intro listed a w _ hr hy hS H
    refine ⟨fun h => (by rw [h] at hr; cases hr), fun j hj => ?_⟩
    by_cases hji : j = i
    · subst hji; exact hy.wpOp hi (.inr ⟨hS, H⟩)
    · have := ready_mono hj hji
      rw [H.1] at this
      cases this
  | succ fuel ih =>
    intro listed a w hfree hr hy hS H
    refine ⟨fun h => (by rw [h] at hr; cases hr), fun j hj => ?_⟩
    by_cases hji : j = i
    · subst hji; exact hy.wpOp hi (.inr ⟨hS, H⟩)
    · have h1 := H.2 j (ready_mono hj hji)
      obtain ⟨hjun, oj, hoj, hall⟩ := mem_ready.1 hj
      have hnot : ∀ e ∈ oj.after, Region.binds .any e = true → e.on ≠ i := fun e he hb heq => by
        have h1 := hall e he hb
        have h0 := (mem_ready.1 hr).1
        rw [heq] at h1
        rcases Nat.lt_or_ge i listed.size with h' | h'
        · simp [h'] at h0 h1; rw [h0] at h1; cases h1
        · simp [Array.getElem?_eq_none h'] at h1
      have hnot2 : ∀ e ∈ oi.after, Region.binds .any e = true → e.on ≠ j := fun e he hb heq => by
        obtain ⟨_, oi', hoi', hall'⟩ := mem_ready.1 hr
        rw [hi] at hoi'
        cases hoi'
        have h1 := hall' e he hb
        rw [heq] at h1
        rcases Nat.lt_or_ge j listed.size with h' | h'
        · simp [h'] at hjun h1; rw [hjun] at h1; cases h1
        · simp [Array.getElem?_eq_none h'] at h1
      have h2 := wpOp_put hoj (hfree j oj hoj hji hjun hnot) (fun cs b => Region.noSelect_spec hs i oi cs b hi) (fun cs b => Region.noSelect_spec hs j oj cs b hoj) hQ hy h1
      have hfree' : ∀ k ok, ops[k]? = some ok → k ≠ i → (listed.setIfInBounds j true).getD k true = false →
          (∀ e ∈ ok.after, Region.binds .any e = true → e.on ≠ i) → oi.apart ops ok = true := fun k ok hk hki hun hno => by
        refine hfree k ok hk hki ?_ hno
        by_cases hjk : j = k
        · subst hjk; exact hjun
        · rw [getD_set_ne true hjk] at hun; exact hun
      refine wpOp_mono (fun a' w' h3 => ?_) h2
      rcases h3.2 with h4 | h4
      · refine .inl ⟨h4.1, ?_⟩
        have := wpAny_first (md := .any) hi (Region.noSelect_spec hs) hQ fuel (listed.setIfInBounds j true) a' w' hfree' (ready_mono hr (Ne.symm hji)) h3.1
        refine this ?_
        rw [Array.setIfInBounds_comm _ _ hji]
        exact h4.2
      · refine .inr ⟨h4.1, ih (listed.setIfInBounds j true) a' w' hfree' (ready_mono hr (Ne.symm hji)) h3.1 h4.1 ?_⟩
        rw [Array.setIfInBounds_comm _ _ hji]
        exact h4.2

theorem wpAnyD_first {i : Nat} {oi : Oper} {v : Value} (hi : ops[i]? = some oi) (hs : Region.noSelect ops = true) (hmf : memFree oi = false) (hX : X.contains i = false)
    (hQ : ∀ c a w, Q (.panic c) (a.put oi.dst v) w → Q (.panic c) a w) :
    ∀ (fuel : Nat) (listed : Array Bool) (a : Act) (w : World),
      (∀ j oj, ops[j]? = some oj → j ≠ i → listed.getD j true = false → (∀ e ∈ oj.after, Region.binds .any e = true → e.on ≠ i) → oi.apart ops oj = true) →
      i ∈ Region.ready .any ops listed → YieldsIf P ops S oi v a → S w →
      wpAnyD P ops X Q S fuel (listed.setIfInBounds i true) (a.put oi.dst v) w → wpAnyD P ops X Q S (fuel + 1) listed a w := by
  intro fuel
  induction fuel with
  | zero =>
    intro listed a w _ hr hy hS H
    refine ⟨fun h => (by rw [h] at hr; cases hr), fun j hj => ?_⟩
    by_cases hji : j = i
    · subst hji; exact hy.wpOp hi hS (.inr ⟨hS, H⟩)
    · have := ready_mono hj hji
      rw [H.1] at this
      cases this
  | succ fuel ih =>
    intro listed a w hfree hr hy hS H
    refine ⟨fun h => (by rw [h] at hr; cases hr), fun j hj => ?_⟩
    by_cases hji : j = i
    · subst hji; exact hy.wpOp hi hS (.inr ⟨hS, H⟩)
    · have h1 := H.2 j (ready_mono hj hji)
      obtain ⟨hjun, oj, hoj, hall⟩ := mem_ready.1 hj
      have hnot : ∀ e ∈ oj.after, Region.binds .any e = true → e.on ≠ i := fun e he hb heq => by
        have h1 := hall e he hb
        have h0 := (mem_ready.1 hr).1
        rw [heq] at h1
        rcases Nat.lt_or_ge i listed.size with h' | h'
        · simp [h'] at h0 h1; rw [h0] at h1; cases h1
        · simp [Array.getElem?_eq_none h'] at h1
      have hnot2 : ∀ e ∈ oi.after, Region.binds .any e = true → e.on ≠ j := fun e he hb heq => by
        obtain ⟨_, oi', hoi', hall'⟩ := mem_ready.1 hr
        rw [hi] at hoi'
        cases hoi'
        have h1 := hall' e he hb
        rw [heq] at h1
        rcases Nat.lt_or_ge j listed.size with h' | h'
        · simp [h'] at hjun h1; rw [hjun] at h1; cases h1
        · simp [Array.getElem?_eq_none h'] at h1
      have h2 := wpOp_putIf hoj (hfree j oj hoj hji hjun hnot) (fun cs b => Region.noSelect_spec hs i oi cs b hi) (fun cs b => Region.noSelect_spec hs j oj cs b hoj) hQ hy h1
      have hfree' : ∀ k ok, ops[k]? = some ok → k ≠ i → (listed.setIfInBounds j true).getD k true = false →
          (∀ e ∈ ok.after, Region.binds .any e = true → e.on ≠ i) → oi.apart ops ok = true := fun k ok hk hki hun hno => by
        refine hfree k ok hk hki ?_ hno
        by_cases hjk : j = k
        · subst hjk; exact hjun
        · rw [getD_set_ne true hjk] at hun; exact hun
      have hlast : orderedB ops X j = false := by
        cases hl : orderedB ops X j with
        | false => rfl
        | true =>
          unfold orderedB at hl
          rw [hoj] at hl
          have hsz : i < ops.size := by
            rcases Nat.lt_or_ge i ops.size with h' | h'
            · exact h'
            · rw [Array.getElem?_eq_none h'] at hi; cases hi
          have h3 := List.all_eq_true.1 hl i (by simpa using hsz)
          rw [hi] at h3
          simp only [hmf, hX, Bool.false_or, Bool.or_eq_true, beq_iff_eq, Array.any_eq_true', Bool.and_eq_true] at h3
          rcases h3 with (h3 | ⟨e, he, hb, heq⟩) | ⟨e, he, hb, heq⟩
          · exact absurd h3 (Ne.symm hji)
          · exact absurd heq (hnot e he hb)
          · exact absurd heq (hnot2 e he hb)
      refine wpOp_mono (fun a' w' h3 => .inr ?_) h2
      have h4 := h3.2.resolve_left (fun h => by rw [hlast] at h; cases h.1)
      refine ⟨h4.1, ih (listed.setIfInBounds j true) a' w' hfree' (ready_mono hr (Ne.symm hji)) h3.1 h4.1 ?_⟩
      rw [Array.setIfInBounds_comm _ _ hji]
      exact h4.2

def listedOf (n : Nat) : List Nat → Array Bool
  | [] => Array.replicate n false
  | i :: r => (listedOf n r).setIfInBounds i true
/-- Those of 'done' have come up; what the places hold is as they say behind each operation to come. -/
def wpD (P : Program) (ops : Array Oper) (X : List Nat) (Q : Exit → Act → World → Prop) (e : Env) (pl : List Plc) (done : List Nat) (a : Act) (w : World) : Prop :=
  wpAnyD P ops X Q (PlOk e pl) (ops.size - done.length) (listedOf ops.size done) a w
/-- Those of 'done' have come up. -/
def wpG (P : Program) (ops : Array Oper) (Q : Exit → Act → World → Prop) (done : List Nat) (a : Act) (w : World) : Prop :=
  wpAny P .any ops Q (ops.size - done.length) (listedOf ops.size done) a w
theorem wp_region_G {id : Nat} {a : Act} {w : World} (hm : P.follows .mixedOrders = true) (h : wpG P ops Q [] a w.drew) : (Code.region id ops true).wp P Q a w :=
  wp_region_any hm (by unfold wpG at h; simpa [listedOf] using h)
theorem wpG_of_D (X : List Nat) (e : Env) (pl : List Plc) {done : List Nat} {a : Act} {w : World} (h : wpD P ops X Q e pl done a w) : wpG P ops Q done a w := wpAny_of_D _ _ _ _ h
theorem wpG_end {done : List Nat} {a : Act} {w : World} (hr : Region.ready .any ops (listedOf ops.size done) = []) (h : Q .normal a w) : wpG P ops Q done a w := by
  unfold wpG
  generalize ops.size - done.length = f
  cases f with
  | zero => exact ⟨hr, h⟩
  | succ f => exact ⟨fun _ => h, by rw [hr]; simp⟩
theorem wpD_end {e : Env} {pl : List Plc} {done : List Nat} {a : Act} {w : World} (hr : Region.ready .any ops (listedOf ops.size done) = []) (h : Q .normal a w) : wpD P ops X Q e pl done a w := by
  unfold wpD
  generalize ops.size - done.length = f
  cases f with
  | zero => exact ⟨hr, h⟩
  | succ f => exact ⟨fun _ => h, by rw [hr]; simp⟩
/-- i may be taken first. -/
def firstB (ops : Array Oper) (X : List Nat) (done : List Nat) (i : Nat) : Bool :=
  (match ops[i]? with | some o => memFree o || !X.contains i | none => false) && decide (done.length < ops.size) && Region.free .any ops (listedOf ops.size done) i && (Region.ready .any ops (listedOf ops.size done)).contains i

theorem wpD_take {e : Env} {pl : List Plc} {done : List Nat} {a : Act} {w : World} {i : Nat} {oi : Oper} {v : Value} (hi : ops[i]? = some oi) (hs : Region.noSelect ops = true) (hf : firstB ops X done i = true)
    (hQ : ∀ c a w, Q (.panic c) (a.put oi.dst v) w → Q (.panic c) a w) (hS : PlOk e pl w) (hy : YieldsIf P ops (PlOk e pl) oi v a) (hyf : memFree oi = true → Yields P ops oi v a)
    (h : wpD P ops X Q e pl (i :: done) (a.put oi.dst v) w) : wpD P ops X Q e pl done a w := by
  unfold firstB at hf
  rw [hi] at hf
  simp only [Bool.and_eq_true, decide_eq_true_eq] at hf
  obtain ⟨⟨⟨hx, hl⟩, hf⟩, hr⟩ := hf
  unfold wpD at *
  rw [show ops.size - done.length = (ops.size - (i :: done).length) + 1 by simp; omega]
  cases hmf : memFree oi with
  | false => exact wpAnyD_first hi hs hmf (by simpa [hmf] using hx) hQ _ _ a w (Region.free_spec hi hf) (by simpa using hr) hy hS h
  | true => exact wpAnyD_firstF hi hs hQ _ _ a w (Region.free_spec hi hf) (by simpa using hr) (hyf hmf) hS h

def qrunD (P : Program) (ops : Array Oper) (X : List Nat) (N : Nat) (pl : List Plc) : List Nat → List Nat → TM → Option TM
  | [], _, m => some m
  | i :: r, done, m => if firstB ops X done i then (match qstep P ops N pl m i with
    | some m' => qrunD P ops X N pl r (i :: done) m'
    | none => none) else none
/-- a panic's post looks at nothing that a region writes -/
def Deaf (Q : Exit → Act → World → Prop) : Prop := ∀ c t t' d w, Q (.panic c) ⟨t, d⟩ w → Q (.panic c) ⟨t', d⟩ w
theorem wpD_runs {N : Nat} {e : Env} {pl : List Plc} {w : World} {d : List Deferred} (hs : Region.noSelect ops = true) (hQ : Deaf Q) (hp : PlOk e pl w) : ∀ (is done : List Nat) (m m' : TM) (t : Array Value), Kn N e m t →
    qrunD P ops X N pl is done m = some m' → (∀ t', Kn N e m' t' → wpD P ops X Q e pl (is.reverseAux done) ⟨t', d⟩ w) → wpD P ops X Q e pl done ⟨t, d⟩ w
  | [], done, m, m', t, hk, h, H => by
    simp [qrunD] at h; subst h
    exact H t hk
  | i :: r, done, m, m', t, hk, h, H => by
    unfold qrunD at h
    split at h
    · rename_i hf
      split at h
      · rename_i m1 h1
        obtain ⟨o, v, ho, hk', hd, hv, hvf⟩ := qstep_sound (d := d) hk h1
        have e1 : (Act.mk t d).put o.dst v = Act.mk ((Act.mk t d).put o.dst v).tmps d := act_eta hd
        refine wpD_take ho hs hf (v := v) ?_ hp ?_ hvf ?_
        · intro c a w hq
          cases hdst : o.dst with
          | none => rw [hdst] at hq; exact hq
          | some x => rw [hdst] at hq; exact hQ c _ _ _ _ hq
        · rcases hv with ⟨hw, hv⟩ | ⟨hw, rfl⟩
          · exact .inl ⟨hw, hv⟩
          · exact .inr ⟨hw, rfl⟩
        · rw [e1]
          exact wpD_runs hs hQ hp r (i :: done) m1 m' _ hk' h H
      · simp at h
    · simp at h
/-- A run of quiet operations that may come first. -/
theorem D_run {N : Nat} {e : Env} {pl : List Plc} {w : World} {d : List Deferred} {m : TM} {t : Array Value} {done : List Nat} (is done' ks : List Nat) (m' : TM) (hQ : Deaf Q) (hk : Kn N e m t) (hp : PlOk e pl w)
    (hs : Region.noSelect ops = true) (hd : is.reverseAux done = done') (h : (qrunD P ops X N pl is done m).map (fun x => keepTM x ks) = some m') (H : ∀ t', Kn N e m' t' → wpD P ops X Q e pl done' ⟨t', d⟩ w) : wpD P ops X Q e pl done ⟨t, d⟩ w := by
  obtain ⟨m1, h1, rfl⟩ := Option.map_eq_some_iff.1 h
  subst hd
  exact wpD_runs hs hQ hp is done m m1 t hk h1 fun t' hk' => H t' (hk'.sub (keepTM_sub _ _))

/-- One quiet operation whose value is shown by hand. -/
theorem D_one {N : Nat} {e e' : Env} {pl pl' : List Plc} {w : World} {d : List Deferred} {m' : TM} {t : Array Value} {done : List Nat} (i : Nat) {oi : Oper} {dd : Nat} (v : SV) (hQ : Deaf Q)
    (hi : ops[i]? = some oi) (hs : Region.noSelect ops = true) (hf : firstB ops X done i = true) (hg : Region.wanted oi (yielded ops t) = true) (hdst : oi.dst = some dd) (hS : PlOk e pl w)
    (hsub : ∀ w, PlOk e' pl' w → PlOk e pl w)
    (hv : ∀ w, (execOp (Act.mk t d).eval oi).run P w = .ok (.value (v.den e')) w)
    (hk' : Kn N e' m' (t.setIfInBounds dd (v.den e')))
    (H : ∀ t', Kn N e' m' t' → wpD P ops X Q e' pl' (i :: done) ⟨t', d⟩ w) : wpD P ops X Q e pl done ⟨t, d⟩ w := by
  refine wpD_take hi hs hf (v := v.den e') ?_ hS (.inl ⟨hg, fun w _ => hv w⟩) (fun _ => .inl ⟨hg, hv⟩) ?_
  · intro c a w hq
    rw [hdst] at hq
    exact hQ c _ _ _ _ hq
  · have := wpAnyD_mono (P := P) (ops := ops) (X := X) (Q := Q) hsub _ _ _ _ (H _ hk')
    rw [hdst]
    exact this

/-- Number i alone may come now. -/
theorem D_loud {e : Env} {pl : List Plc} {w : World} {a : Act} {done : List Nat} (i : Nat) {oi : Oper} (hi : ops[i]? = some oi) (hr : Region.ready .any ops (listedOf ops.size done) = [i]) (hl : done.length < ops.size)
    (hw : Region.wanted oi (yielded ops a.tmps) = true)
    (h : ∀ K : Act → World → Prop, (∀ a' w', PlOk e pl w' → wpD P ops X Q e pl (i :: done) a' w' → K a' w') → oi.wp P a w K Q) : wpD P ops X Q e pl done a w := by
  unfold wpD at *
  rw [show ops.size - done.length = (ops.size - (i :: done).length) + 1 by simp; omega]
  refine ⟨fun h0 => by rw [hr] at h0; simp at h0, ?_⟩
  rw [hr]
  intro j hj
  obtain rfl : j = i := by simpa using hj
  unfold wpOp
  simp only [hi, hw, if_true]
  exact .inl (h _ fun a' w' h1 h2 => .inr ⟨h1, h2⟩)
/-- Number i alone may come now, and it stands in order to all others: what the places hold may change. -/
theorem D_sync {e : Env} {pl : List Plc} {w : World} {a : Act} {done : List Nat} (i : Nat) {oi : Oper} (hi : ops[i]? = some oi) (hr : Region.ready .any ops (listedOf ops.size done) = [i]) (hl : done.length < ops.size)
    (hw : Region.wanted oi (yielded ops a.tmps) = true) (ho : orderedB ops X i = true)
    (h : ∀ K : Act → World → Prop, (∀ a' w', wpG P ops Q (i :: done) a' w' → K a' w') → oi.wp P a w K Q) : wpD P ops X Q e pl done a w := by
  unfold wpD wpG at *
  rw [show ops.size - done.length = (ops.size - (i :: done).length) + 1 by simp; omega]
  refine ⟨fun h0 => by rw [hr] at h0; simp at h0, ?_⟩
  rw [hr]
  intro j hj
  obtain rfl : j = i := by simpa using hj
  unfold wpOp
  simp only [hi, hw, if_true]
  exact .inl (h _ fun a' w' h1 => .inl ⟨ho, h1⟩)
/-- Number i or j may come now. -/
theorem D_two {e : Env} {pl : List Plc} {w : World} {a : Act} {done : List Nat} (i j : Nat) {oi oj : Oper} (hi : ops[i]? = some oi) (hj : ops[j]? = some oj) (hr : Region.ready .any ops (listedOf ops.size done) = [i, j]) (hl : done.length < ops.size)
    (hwi : Region.wanted oi (yielded ops a.tmps) = true) (hwj : Region.wanted oj (yielded ops a.tmps) = true)
    (h1 : ∀ K : Act → World → Prop, (∀ a' w', PlOk e pl w' → wpD P ops X Q e pl (i :: done) a' w' → K a' w') → oi.wp P a w K Q)
    (h2 : ∀ K : Act → World → Prop, (∀ a' w', PlOk e pl w' → wpD P ops X Q e pl (j :: done) a' w' → K a' w') → oj.wp P a w K Q) : wpD P ops X Q e pl done a w := by
  unfold wpD at *
  rw [show ops.size - done.length = (ops.size - (i :: done).length) + 1 by simp; omega]
  refine ⟨fun h0 => by rw [hr] at h0; simp at h0, ?_⟩
  rw [hr]
  intro k hk
  simp only [List.mem_cons, List.not_mem_nil, or_false] at hk
  unfold wpOp
  rcases hk with rfl | rfl
  · simp only [hi, hwi, if_true]
    exact .inl (h1 _ fun a' w' h1 h2 => .inr ⟨h1, h2⟩)
  · simp only [hj, hwj, if_true]
    exact .inl (h2 _ fun a' w' h1 h2 => .inr ⟨h1, h2⟩)
end
end Go.Proofs.Ytokchpjijlebiaa
