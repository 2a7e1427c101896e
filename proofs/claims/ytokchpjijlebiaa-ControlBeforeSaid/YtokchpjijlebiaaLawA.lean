/- Control, the plain law: what the loops over lists compute. -/
import Derived.Test.YtokchpjijlebiaaPure
set_option linter.all false
namespace Go.Proofs.Ytokchpjijlebiaa
open Go Go.RowKit
theorem wid {x : Int} (h0 : -9223372036854775808 ≤ x) (h1 : x ≤ 9223372036854775807) : IntKind.i64.wrap x = x := by
  simp [IntKind.wrap, IntKind.bits, IntKind.signed]; omega
theorem wnat (i : Nat) (h : i < 1000000000000) : IntKind.i64.wrap ((i : Int) + 1) = ((i + 1 : Nat) : Int) := by
  rw [wid (by omega) (by omega)]; omega
theorem idxN {α : Type} (xs : List α) (i : Nat) : idx xs (i : Int) = xs[i]? := rfl
theorem idxLt {α : Type} (xs : List α) (i : Nat) (h : i < xs.length) : idx xs (i : Int) = some xs[i] := by rw [idxN, List.getElem?_eq_getElem h]
theorem appOk {α : Type} (xs ys : List α) (h : xs.length + ys.length ≤ 1000000000) : app xs ys = some (xs ++ ys) := by
  unfold app; rw [if_pos (by simpa using h)]
theorem updN {α : Type} (xs : List α) (i : Nat) (y : α) (h : i < xs.length) : upd xs (i : Int) y = some (xs.set i y) := by
  show (if i < xs.length then some (xs.set i y) else none) = _
  rw [if_pos h]
theorem mkN {α : Type} (n : Nat) (x : α) (h : n ≤ 1000000000) : mk (n : Int) x = some (List.replicate n x) := by
  unfold mk; rw [if_pos (by omega)]; rfl
theorem drop_get {α : Type} {xs : List α} {i : Nat} (h : i < xs.length) : xs.drop i = xs[i] :: xs.drop (i + 1) := List.drop_eq_getElem_cons h
theorem lt_len {α : Type} (xs : List α) (i : Nat) : decide ((i : Int) < ((xs.length : Nat) : Int)) = decide (i < xs.length) := by
  by_cases h : i < xs.length <;> simp [h]
/- the copies -/
theorem law_list_eq (n : Nat) (l : List Int) (h : l.length ≤ 1000) : law_list n l = some l := by
  unfold law_list
  simp [appOk [] l (by simp; omega)]
theorem law_Route_l1_eq (r : Route) (hb : r.legs.length ≤ 1000) : ∀ (n i : Nat) (acc : List Rg), r.legs.length < n + i → i ≤ r.legs.length → acc.length = i → law_Route_l1 n r acc (i : Int) = some (acc ++ r.legs.drop i)
  | 0, i, acc, h, hi, _ => by omega
  | n + 1, i, acc, h, hi, ha => by
    rw [law_Route_l1, lt_len]
    by_cases hx : i < r.legs.length
    · simp only [hx, decide_true, cond_true, idxLt _ _ hx, Option.bind_some, law_to]
      rw [appOk _ _ (by simp; omega)]
      simp only [Option.bind_some]
      rw [wnat i (by omega), law_Route_l1_eq r hb n (i + 1) _ (by omega) (by omega) (by simp; omega), drop_get hx, List.append_assoc]
      rfl
    · have : i = r.legs.length := by omega
      simp [this]
theorem law_Route_l2_eq (r : Route) (hb : r.buses.length ≤ 1000) : ∀ (n i : Nat) (acc : List Bus), r.buses.length < n + i → i ≤ r.buses.length → acc.length = i → law_Route_l2 n r acc (i : Int) = some (acc ++ r.buses.drop i)
  | 0, i, acc, h, hi, _ => by omega
  | n + 1, i, acc, h, hi, ha => by
    rw [law_Route_l2, lt_len]
    by_cases hx : i < r.buses.length
    · simp only [hx, decide_true, cond_true, idxLt _ _ hx, Option.bind_some, law_to]
      rw [appOk _ _ (by simp; omega)]
      simp only [Option.bind_some]
      rw [wnat i (by omega), law_Route_l2_eq r hb n (i + 1) _ (by omega) (by omega) (by simp; omega), drop_get hx, List.append_assoc]
      rfl
    · have : i = r.buses.length := by omega
      simp [this]
theorem law_Route_l3_eq (r : Route) (hb : r.spares.length ≤ 1000) : ∀ (n i : Nat) (acc : List Spare), r.spares.length < n + i → i ≤ r.spares.length → acc.length = i → law_Route_l3 n r acc (i : Int) = some (acc ++ r.spares.drop i)
  | 0, i, acc, h, hi, _ => by omega
  | n + 1, i, acc, h, hi, ha => by
    rw [law_Route_l3, lt_len]
    by_cases hx : i < r.spares.length
    · simp only [hx, decide_true, cond_true, idxLt _ _ hx, Option.bind_some]
      rw [appOk _ _ (by simp; omega)]
      simp only [Option.bind_some]
      rw [wnat i (by omega), law_Route_l3_eq r hb n (i + 1) _ (by omega) (by omega) (by simp; omega), drop_get hx, List.append_assoc]
      rfl
    · have : i = r.spares.length := by omega
      simp [this]
theorem law_Route_eq (n : Nat) (r : Route) (hn : 50 ≤ n) (h1 : r.legs.length ≤ 20) (h2 : r.buses.length ≤ 20) (h3 : r.spares.length ≤ 20) : law_Route n r = some r := by
  unfold law_Route
  have e1 := law_Route_l1_eq r (by omega) n 0 [] (by omega) (by omega) rfl
  have e2 := law_Route_l2_eq r (by omega) n 0 [] (by omega) (by omega) rfl
  have e3 := law_Route_l3_eq r (by omega) n 0 [] (by omega) (by omega) rfl
  simp only [Int.natCast_zero, List.nil_append, List.drop_zero] at e1 e2 e3
  simp [law_to, e1, e2, e3]
theorem law_Acts_eq (n : Nat) (a : Acts) (h1 : a.holds.length ≤ 20) (h2 : a.turns.length ≤ 20) (h3 : a.spares.length ≤ 20) : law_Acts n a = some a := by
  unfold law_Acts
  simp [law_list_eq n _ (show a.holds.length ≤ 1000 by omega), law_list_eq n _ (show a.turns.length ≤ 1000 by omega), appOk [] a.spares (by simp; omega)]
end Go.Proofs.Ytokchpjijlebiaa
