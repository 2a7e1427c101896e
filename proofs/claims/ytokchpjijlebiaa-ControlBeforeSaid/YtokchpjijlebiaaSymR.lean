/- The walk of a round's body. -/
import Derived.Test.YtokchpjijlebiaaSymQ
set_option linter.all false
namespace Go.Proofs.Ytokchpjijlebiaa
open Go Go.RowKit
open Rep (rep)
open KRep (kv)
open VRep (rv)
section
variable {P : Program} {Q : Exit → Act → World → Prop} {N : Nat} {e : Env} {w : World} {m : TM} {t : Array Value} {d : List Deferred} {F : Fence} {n : Nat}
theorem wpR_mid {c : Code} {a : Act} (M : Act → World → Prop) (h1 : c.wpIn F n P (Exit.then M Q) a w) (h2 : ∀ a w, M a w → Q .normal a w) : c.wpIn F n P Q a w :=
  wpIn_mono h1 fun e a w h => by cases e <;> first | exact h2 _ _ h | exact h
theorem wpR_cond {c : Operand} {x y : Code} (E : Bool) (hk : Kn N e m t) (hc : evA m c = some (.c (.bool E))) (ht : E = true → x.wpIn F n P Q ⟨t, d⟩ w) (hf : E = false → y.wpIn F n P Q ⟨t, d⟩ w) : (Code.cond c x y).wpIn F n P Q ⟨t, d⟩ w := by
  have h := evA_sound (d := d) hk hc
  exact wpIn_cond_split (t := E) h ht hf
end
end Go.Proofs.Ytokchpjijlebiaa
