/- What is walked in a call's own frame is walked in a round's frame too. -/
import Derived.Test.YtokchpjijlebiaaSymL
import Derived.RangeFuncIn
import Derived.RangeFuncCalls
import Derived.RangeFuncLeaves
set_option linter.all false
namespace Go.Proofs.Ytokchpjijlebiaa
open Go Go.RowKit
open Rep (rep)
open KRep (kv)
open VRep (rv)

/-- the fence of a round: everything is let in -/
abbrev inR (l : Nat) : Fence := Fence.wide.inRound l
def noDefer (ops : Array Oper) : Bool := ops.toList.all fun o => match o.op with | .defer _ => false | _ => true
section
variable {P : Program} {ops : Array Oper} {Q : Exit → Act → World → Prop} {n : Nat}
theorem rowsIn_wide {l : Nat} {row : String} {args : Array Value} {w : World} {R : Value → World → Prop} (h : Rows P row args w R) : RowsIn (inR l) n P row args w R :=
  fun c cs _ => let ⟨v, w', r, s⟩ := h c cs; ⟨v, w', r, stepsIn_wide.2 s⟩
theorem opIn (l : Nat) {o : Oper} {a : Act} {w : World} {K K' : Act → World → Prop} (hQ : ¬ LetsOut Q) (ho : ∀ c, o.op ≠ .defer c) (hK : ∀ a w, K a w → K' a w) (h : o.wp P a w K Q) : o.wpIn (inR l) n P a w K' Q := by
  refine ⟨fun _ _ => trivial, ?_⟩
  rw [show (inR l).round = some l from rfl, Oper.semAt_eq _ _ _ ho]
  unfold Oper.wp at h
  generalize (execOp a.eval o).run P w = r at h
  cases r with
  | ok x w' =>
    cases x with
    | value v => exact hK _ _ h
    | skip => exact hK _ _ h
    | defer d => exact hK _ _ h
    | enter f args =>
      refine ⟨fun hh => by simp [Fence.wide] at hh, ?_⟩
      refine CallsIn.inRound l (callsIn_wide.2 ?_)
      refine Calls.mono h fun e w'' he => ?_
      cases e with
      | returned v => exact hK _ _ he
      | panicked chain => exact he
      | outgrown => exact he
    | row row args => exact ⟨fun hh => by simp [Fence.wide] at hh, rowsIn_wide (Rows.mono h fun v w'' hv => hK _ _ hv)⟩
    | _ => exact h.elim
  | halt x w' =>
    cases x with
    | panic v => exact h
    | _ => exact h.elim
theorem opsIn (l : Nat) (hQ : ¬ LetsOut Q) (hd : noDefer ops = true) : ∀ (is : List Nat) (a : Act) (w : World), wpOps P ops Q is a w → wpOpsIn (inR l) n P ops Q is a w
  | [], _, _, h => h
  | i :: is, a, w, h => by
    unfold wpOps at h
    unfold wpOpsIn
    cases ho : ops[i]? with
    | none => rw [ho] at h; exact opsIn l hQ hd is a w h
    | some o =>
      rw [ho] at h
      simp only at h ⊢
      split at h
      · rename_i hw
        rw [if_pos hw]
        have hnd : ∀ c, o.op ≠ .defer c := fun c hc => by
          have := List.all_eq_true.1 hd o (List.mem_of_getElem? (by rw [Array.getElem?_toList]; exact ho))
          rw [hc] at this
          cases this
        rcases h with h | ⟨_, h⟩
        · exact opIn l hQ hnd (opsIn l hQ hd is) h
        · exact absurd h hQ
      · rename_i hw
        rw [if_neg hw]
        exact ⟨fun _ _ => trivial, opsIn l hQ hd is _ w h⟩
/-- A region in a round. -/
theorem wpR_region {l id : Nat} {a : Act} {w : World} (hQ : ¬ LetsOut Q) (hd : noDefer ops = true) (h : wpFrom P ops Q 0 a w) : (Code.region id ops false).wpIn (inR l) n P Q a w := by
  refine wpIn_region (opsIn l hQ hd _ _ _ ?_)
  unfold wpFrom at h
  rw [List.range_eq_range']
  exact h
theorem wpR_region_G {l id : Nat} {a : Act} {w : World} (hQ : ¬ LetsOut Q) (hd : noDefer ops = true) (hm : P.follows .mixedOrders = true) (h : wpG P ops Q [] a w.drew) : (Code.region id ops true).wpIn (inR l) n P Q a w := by
  refine wpIn_region_draw fun t => opsIn l hQ hd _ _ _ ?_
  simp only [Region.schedule, hm, Bool.true_or, if_true]
  refine wpAny_sound ops.size t _ a _ ?_
  unfold wpG at h
  simpa [listedOf] using h
end
end Go.Proofs.Ytokchpjijlebiaa
