/- The statement 'for .. := range f', and its rounds. -/
import Derived.Test.YtokchpjijlebiaaSymN
set_option linter.all false
namespace Go.Proofs.Ytokchpjijlebiaa
open Go Go.RowKit
open Rep (rep)
open KRep (kv)
open VRep (rv)
section
variable {P : Program} {Q : Exit → Act → World → Prop} {w : World} {t : Array Value} {d : List Deferred}
/-- what is asked at a round's end -/
def roundEnd (l : Nat) (r : Loop) (R : Bool → World → Prop) : Exit → Act → World → Prop
  | .normal, _, w => w.heap[l]? = some (.loop { r with state := .busy }) ∧ R true (w.putObj l (.loop { r with state := .ready, pending := none }))
  | _, _, _ => False
theorem yields_of {l : Nat} {r : Loop} {args : Array Value} {R : Bool → World → Prop} (hl : w.heap[l]? = some (.loop r)) (hs : args.size = r.params.size)
    (H : r.assign.wpIn (inR l) 0 P (Exit.then (fun a w => w.heap[l]? = some (.loop r) ∧ r.state = .ready ∧ r.body.wpIn (inR l) 0 P (roundEnd l r R) a (w.putObj l (.loop { r with state := .busy }))) (fun _ _ _ => False))
      ⟨(r.params.zip args).foldl (fun tmps (t, a) => tmps.setIfInBounds t a) r.tmps, []⟩ w) : Yields P l args w R := by
  refine ⟨r, hl, hs, roundIn_of_wpIn trivial (wpIn_mono H ?_)⟩
  intro e a w1 h
  cases e with
  | normal =>
    obtain ⟨h1, h2, h3⟩ := h
    refine ⟨_, run_beginRound h1 h2, wpIn_mono h3 ?_⟩
    intro e a w2 h
    cases e with
    | normal =>
      obtain ⟨q1, q2⟩ := h
      refine ⟨_, _, run_endRound none q1, true, rfl, ?_⟩
      simpa using q2
    | _ => exact h.elim
  | _ => exact h.elim
/-- the world in which the function is called -/
def loopWorld (w : World) (r : Loop) : World := (w.alloc (.deferred (some []))).alloc (.loop r)
theorem wp_range {g : Operand} {ps : Array Tmp} {assign body : Code} {f : FuncId} {first cap : Array Value} (hg : (Act.mk t d).eval g = .func (.func f) first cap) (hent : ∀ as w, (callFunc f as).run P w = .ok (.enter f as) w)
    (H : ∀ fn : FuncId, Calls P f (first ++ #[.func (.yield (w.heap.size + 1)) #[] #[]] ++ cap) (loopWorld w ⟨.ready, none, fn, t, ps, assign, body, w.heap.size⟩)
      (fun en w' => en = .returned (.tuple #[]) ∧ ∃ r', w'.heap[w.heap.size + 1]? = some (.loop r') ∧ r'.state ≠ .busy ∧ r'.pending = none ∧
        Q .normal ⟨t, [{ target := .collected w.heap.size, args := #[] }] ++ d⟩ (w'.putObj (w.heap.size + 1) (.loop { r' with state := .exhausted })))) :
    (Code.rangeFunc g ps assign body).wp P Q ⟨t, d⟩ w := by
  refine wpIn_wide.1 (wpIn_rangeFunc (n := 0) fun fn _ => ?_)
  refine ⟨w.heap.size + 1, [{ target := .collected w.heap.size, args := #[] }], loopWorld w ⟨.ready, none, fn, t, ps, assign, body, w.heap.size⟩, { target := .fn (.func f) cap, args := first ++ #[.func (.yield (w.heap.size + 1)) #[] #[]] },
    loopWorld w ⟨.ready, none, fn, t, ps, assign, body, w.heap.size⟩, f, first ++ #[.func (.yield (w.heap.size + 1)) #[] #[]] ++ cap, loopWorld w ⟨.ready, none, fn, t, ps, assign, body, w.heap.size⟩, ?_, ?_, fun _ _ => trivial, ?_, fun hh => by simp [Fence.wide] at hh, ?_⟩
  · exact run_enterLoop_outer _ _ _ _ _
  · simp only [resolve, rangeCall, hg, Deferred.ofValue, List.map_toArray, List.map_cons, List.map_nil]
    simp only [Act.eval]
    rfl
  · simp only [invoke, hent]
  · refine callsIn_wide.2 (Calls.mono (H fn) ?_)
    rintro en w' ⟨rfl, r', h1, h2, h3, h4⟩
    refine ⟨_, _, run_endLoop h1 h2, ?_⟩
    split
    · exact h4
    · rename_i hc; rw [h3] at hc; cases hc
end
end Go.Proofs.Ytokchpjijlebiaa
