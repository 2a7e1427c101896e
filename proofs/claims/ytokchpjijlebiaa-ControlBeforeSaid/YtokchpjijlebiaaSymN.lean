/- Iterators: functions that are handed 'yield'. -/
import Derived.Test.YtokchpjijlebiaaSymM
set_option linter.all false
namespace Go.Proofs.Ytokchpjijlebiaa
open Go Go.RowKit
open Rep (rep)
open KRep (kv)
open VRep (rv)
/-- yield, called with these values, comes back so. -/
def Yields (P : Program) (l : Nat) (args : Array Value) (w : World) (R : Bool → World → Prop) : Prop :=
  ∃ r : Loop, w.heap[l]? = some (.loop r) ∧ args.size = r.params.size ∧
    RoundIn Fence.wide 0 P l r.fn ((r.params.zip args).foldl (fun tmps (t, a) => tmps.setIfInBounds t a) r.tmps) r.assign r.body w (fun e w' => ∃ b, e = .returned (.bool b) ∧ R b w')
section
variable {P : Program} {ops : Array Oper} {X : List Nat} {Q : Exit → Act → World → Prop} {N : Nat} {F : Fr} {h : Heap} {e : Env} {pl : List Plc} {rw : List Row} {w w' : World} {m : TM} {t : Array Value} {d : List Deferred}
/-- From operation i on, in a region with a yield. -/
def wpFromI (P : Program) (ops : Array Oper) (Q : Exit → Act → World → Prop) (i : Nat) (a : Act) (w : World) : Prop := wpOpsIn Fence.wide 0 P ops Q (List.range' i (ops.size - i)) a w
theorem wp_region_fromI {id : Nat} {a : Act} (h : wpFromI P ops Q 0 a w) : (Code.region id ops false).wp P Q a w := by
  refine wpIn_wide.1 (wpIn_region (n := 0) ?_)
  unfold wpFromI at h
  rw [List.range_eq_range']
  simpa using h
theorem wpFromI_end {i : Nat} {a : Act} (hi : ops.size ≤ i) (h : Q .normal a w) : wpFromI P ops Q i a w := by
  unfold wpFromI
  rw [show ops.size - i = 0 by omega]
  exact h
theorem wpFromI_op {i : Nat} {a : Act} {o : Oper} (ho : ops[i]? = some o)
    (h : if Region.wanted o (yielded ops a.tmps) then o.wpIn Fence.wide 0 P a w (wpFromI P ops Q (i + 1)) Q else wpFromI P ops Q (i + 1) (a.put o.dst undef) w) : wpFromI P ops Q i a w := by
  have hi : i < ops.size := (Array.getElem?_eq_some_iff.1 ho).1
  unfold wpFromI
  rw [show ops.size - i = (ops.size - (i + 1)) + 1 by omega, List.range'_succ]
  unfold wpOpsIn
  simp only [ho]
  split
  · rename_i hw; rw [if_pos hw] at h; exact h
  · rename_i hw; rw [if_neg hw] at h; exact ⟨fun _ _ => trivial, h⟩
theorem opW {o : Oper} {a : Act} {w : World} {K : Act → World → Prop} (h : o.wp P a w K Q) : o.wpIn Fence.wide 0 P a w K Q := by
  refine ⟨fun _ _ => trivial, ?_⟩
  rw [show Fence.wide.round = none from rfl, Oper.semAt_none]
  unfold Oper.wp at h
  generalize (execOp a.eval o).run P w = r at h
  cases r with
  | ok x w' =>
    cases x with
    | value v => exact h
    | skip => exact h
    | defer d => exact h
    | enter f args => exact ⟨fun hh => by simp [Fence.wide] at hh, callsIn_wide.2 h⟩
    | row row args => exact ⟨fun hh => by simp [Fence.wide] at hh, fun c cs _ => let ⟨v, w', r, s⟩ := h c cs; ⟨v, w', r, stepsIn_wide.2 s⟩⟩
    | _ => exact h.elim
  | halt x w' =>
    cases x with
    | panic v => exact h
    | _ => exact h.elim
theorem wpFromI_loud {i : Nat} {a : Act} (o : Oper) (hi : ops[i]? = some o) (hw : Region.wanted o (yielded ops a.tmps) = true)
    (h : ∀ K : Act → World → Prop, (∀ a' w', wpFromI P ops Q (i + 1) a' w' → K a' w') → o.wp P a w K Q) : wpFromI P ops Q i a w :=
  wpFromI_op hi (by rw [if_pos hw]; exact opW (h _ fun _ _ h => h))
theorem wpFromI_run (hp : PlOk e pl w) : ∀ (n i : Nat) (m m' : TM) (t : Array Value), Kn N e m t → qrun P ops N pl i n m = some m' →
    (∀ t', Kn N e m' t' → wpFromI P ops Q (i + n) ⟨t', d⟩ w) → wpFromI P ops Q i ⟨t, d⟩ w
  | 0, i, m, m', t, hk, h, H => by
    simp [qrun] at h; subst h
    exact H t hk
  | n + 1, i, m, m', t, hk, h, H => by
    unfold qrun at h
    split at h
    · rename_i m1 h1
      obtain ⟨o, v, ho, hk', hd, hv, _⟩ := qstep_sound (d := d) hk h1
      have hrest : wpFromI P ops Q (i + 1) ((Act.mk t d).put o.dst v) w := by
        have := wpFromI_run hp n (i + 1) m1 m' _ hk' h (fun t' hk'' => by rw [show i + 1 + n = i + (n + 1) by omega]; exact H t' hk'')
        have e : (Act.mk t d).put o.dst v = Act.mk ((Act.mk t d).put o.dst v).tmps d := act_eta hd
        rw [e]; exact this
      refine wpFromI_op ho ?_
      rcases hv with ⟨hw, hv⟩ | ⟨hw, rfl⟩
      · rw [if_pos hw]
        refine opW ?_
        unfold Oper.wp Oper.upon
        rw [hv w hp]
        exact hrest
      · rw [if_neg (by rw [hw]; simp)]
        exact hrest
    · simp at h
theorem RI_runk (i n : Nat) (ks : List Nat) (m' : TM) (hk : Kn N e m t) (hp : PlOk e pl w) (h : (qrun P ops N pl i n m).map (fun x => keepTM x ks) = some m')
    (H : ∀ t', Kn N e m' t' → wpFromI P ops Q (i + n) ⟨t', d⟩ w) : wpFromI P ops Q i ⟨t, d⟩ w := by
  obtain ⟨m1, h1, rfl⟩ := Option.map_eq_some_iff.1 h
  exact wpFromI_run hp n i m m1 t hk h1 fun t' hk' => H t' (hk'.sub (keepTM_sub _ _))
/-- a yield -/
theorem RI_yield {x : Operand} {args : Array Operand} {tys : Array TypeId} {l : Nat} {R : Bool → World → Prop} (i : Nat) {o : Oper} {dd : Nat} (vs : List SA) (vals : Array Value) (hk : Kn N e m t) (hi : ops[i]? = some o) (hop : o.op = .call ⟨.value x, args, tys⟩)
    (hg : Region.wanted o (yielded ops t) = true) (hdst : o.dst = some dd) (hlt : dd < N) (hx : evA m x = some (.c (.func (.yield l) #[] #[]))) (hargs : evAs m args.toList = some vs) (hvals : (vs.map (SA.den e)).toArray = vals)
    (hy : Yields P l vals w R) (H : ∀ b w', R b w' → ∀ t', Kn N e (m.put dd (.one (.c (.bool b)))) t' → wpFromI P ops Q (i + 1) ⟨t', d⟩ w') : wpFromI P ops Q i ⟨t, d⟩ w := by
  subst hvals
  have h1 : args.map (Act.mk t d).eval = (vs.map (SA.den e)).toArray := by
    rw [← evAs_sound (dd := d) hk hargs]
    apply Array.ext'
    rw [Array.toList_map]
  have hxe := evA_sound (d := d) hk hx
  simp only [SA.den, SC.den] at hxe
  obtain ⟨r, hl, hs, hr⟩ := hy
  refine wpFromI_op hi ?_
  rw [if_pos hg]
  refine ⟨fun _ _ => trivial, ?_⟩
  rw [show Fence.wide.round = none from rfl, Oper.semAt_none]
  unfold execOp
  simp only [hop, resolve, h1, hxe]
  simp only [Deferred.ofValue, Sem.run_bind, Sem.run_pure, Result.andThen_ok, invoke, Array.empty_append, Array.append_empty, run_yield hl hs]
  refine ⟨fun hh => by simp [Fence.wide] at hh, RoundIn.mono hr ?_⟩
  rintro en w' ⟨b, rfl, hR⟩
  show wpFromI P ops Q (i + 1) _ w'
  rw [put_eq t d hdst]
  exact H b w' hR _ (hk.put hlt (.one (.c (.bool b))))
/-- the end of an iterator -/
theorem it_end {fn : Func} {J : World → Prop} (hr : fn.results = #[]) (hJ : J w) : bodyPost P fn (fun en w' => en = .returned (.tuple #[]) ∧ J w') .normal ⟨t, []⟩ w := by
  refine ⟨rfl, .tuple #[], ?_, rfl, hJ⟩
  simp [results, hr]
theorem it_ret {fn : Func} {J : World → Prop} (hr : fn.results = #[]) (hJ : J w) : bodyPost P fn (fun en w' => en = .returned (.tuple #[]) ∧ J w') .ret ⟨t, []⟩ w := by
  refine ⟨rfl, .tuple #[], ?_, rfl, hJ⟩
  simp [results, hr]
end
end Go.Proofs.Ytokchpjijlebiaa
