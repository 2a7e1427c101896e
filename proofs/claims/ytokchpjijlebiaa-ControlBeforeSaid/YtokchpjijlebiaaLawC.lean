/- Control, the plain law: the trips of a truth; the truths in which all is early, or late. -/
import Derived.Test.YtokchpjijlebiaaLawB
set_option linter.all false
namespace Go.Proofs.Ytokchpjijlebiaa
open Go Go.RowKit
/-- The truth in which all is at an end. -/
def endsOf (r : Route) (f : Rg → Int) : Truth := ⟨r.buses.map fun b => f b.tm, r.buses.map fun _ => f r.turn, List.replicate (r.buses.length + r.spares.length) (r.legs.map f)⟩
theorem ends_l1_eq (r : Route) (f : Rg → Int) (F : Rg → Option Int) (hF : ∀ x, F x = some (f x)) (hb : r.legs.length ≤ 20) : ∀ (n i : Nat) (acc : List Int), r.legs.length < n + i → i ≤ r.legs.length → acc.length = i → control_Route_ends_l1 n r (End.mk F) acc (i : Int) = some (acc ++ (r.legs.drop i).map f)
  | 0, i, acc, h, hi, _ => by omega
  | n + 1, i, acc, h, hi, ha => by
    rw [control_Route_ends_l1, lt_len]
    by_cases hx : i < r.legs.length
    · simp only [hx, decide_true, cond_true, idxLt _ _ hx, Option.bind_some, hF]
      rw [appOk _ _ (by simp; omega)]
      simp only [Option.bind_some]
      rw [wnat i (by omega), ends_l1_eq r f F hF hb n (i + 1) _ (by omega) (by omega) (by simp; omega), drop_get hx, List.append_assoc]
      rfl
    · have : i = r.legs.length := by omega
      simp [this]
theorem clone_eq (n : Nat) (l : List Int) (h : l.length ≤ 1000) : slices_Clone_int_int n l = some l := by
  unfold slices_Clone_int_int
  simp [appOk [] l (by simp; omega)]
theorem cloneB_eq (n : Nat) (l : List Bool) (h : l.length ≤ 1000) : slices_Clone_bool_bool n l = some l := by
  unfold slices_Clone_bool_bool
  simp [appOk [] l (by simp; omega)]
theorem ends_l2_eq (r : Route) (f : Rg → Int) (F : Rg → Option Int) (hF : ∀ x, F x = some (f x)) (hb : r.buses.length ≤ 20) (L : List Int) (hL : L.length ≤ 20) : ∀ (n i : Nat) (x y : List Int) (z : List (List Int)), r.buses.length < n + i → i ≤ r.buses.length → x.length = i → y.length = i → z.length = i →
    control_Route_ends_l2 n r (End.mk F) L x y z (i : Int) = some (L, x ++ (r.buses.drop i).map (fun b => f b.tm), y ++ (r.buses.drop i).map (fun _ => f r.turn), z ++ (r.buses.drop i).map (fun _ => L))
  | 0, i, x, y, z, h, hi, _, _, _ => by omega
  | n + 1, i, x, y, z, h, hi, h1, h2, h3 => by
    rw [control_Route_ends_l2, lt_len]
    by_cases hx : i < r.buses.length
    · simp only [hx, decide_true, cond_true, idxLt _ _ hx, Option.bind_some, hF, clone_eq n L (by omega)]
      rw [appOk _ _ (by simp; omega), appOk _ _ (by simp; omega), appOk _ _ (by simp; omega)]
      simp only [Option.bind_some]
      rw [wnat i (by omega), ends_l2_eq r f F hF hb L hL n (i + 1) _ _ _ (by omega) (by omega) (by simp; omega) (by simp; omega) (by simp; omega), drop_get hx, List.append_assoc, List.append_assoc, List.append_assoc]
      rfl
    · have : i = r.buses.length := by omega
      simp [this]
theorem ends_l3_eq (r : Route) (hb : r.spares.length ≤ 20) (L : List Int) (hL : L.length ≤ 20) : ∀ (n i : Nat) (z : List (List Int)), r.spares.length < n + i → i ≤ r.spares.length → z.length ≤ 100 + i →
    control_Route_ends_l3 n r L z (i : Int) = some (L, z ++ List.replicate (r.spares.length - i) L)
  | 0, i, z, h, hi, _ => by omega
  | n + 1, i, z, h, hi, h3 => by
    rw [control_Route_ends_l3, lt_len]
    by_cases hx : i < r.spares.length
    · simp only [hx, decide_true, cond_true, Option.bind_some, clone_eq n L (by omega)]
      rw [appOk _ _ (by simp; omega)]
      simp only [Option.bind_some]
      rw [wnat i (by omega), ends_l3_eq r hb L hL n (i + 1) _ (by omega) (by omega) (by simp; omega), List.append_assoc]
      rw [show r.spares.length - i = (r.spares.length - (i + 1)) + 1 by omega, List.replicate_succ]
      rfl
    · have : i = r.spares.length := by omega
      simp [this]
theorem ends_eq (n : Nat) (r : Route) (f : Rg → Int) (F : Rg → Option Int) (hF : ∀ x, F x = some (f x)) (hn : 50 ≤ n) (h1 : r.legs.length ≤ 20) (h2 : r.buses.length ≤ 20) (h3 : r.spares.length ≤ 20) : control_Route_ends n r (End.mk F) = some (endsOf r f) := by
  unfold control_Route_ends
  have e1 := ends_l1_eq r f F hF h1 n 0 [] (by omega) (by omega) rfl
  have e2 := ends_l2_eq r f F hF h2 (r.legs.map f) (by simp; omega) n 0 [] [] [] (by omega) (by omega) rfl rfl rfl
  have e3 := ends_l3_eq r h3 (r.legs.map f) (by simp; omega) n 0 (r.buses.map fun _ => r.legs.map f) (by omega) (by omega) (by simp; omega)
  simp only [Int.natCast_zero, List.nil_append, List.drop_zero, Nat.sub_zero] at e1 e2 e3
  simp only [e1, Option.bind_some, e2, e3, endsOf, Option.some.injEq, Truth.mk.injEq, true_and]
  rw [List.map_const', List.replicate_append_replicate]
/-- The trips of a truth. -/
def busTrip (r : Route) (a : Acts) (t : Truth) (i : Nat) : Trip × Times := (⟨(r.buses[i]!).stop, t.tm[i]! + a.holds[i]! * r.unit, a.turns[i]!⟩, ⟨t.legs[i]!, t.turns[i]!⟩)
def spTrip (r : Route) (a : Acts) (t : Truth) (j : Nat) : Option (Trip × Times) := if a.spares[j]! then some (⟨(r.spares[j]!).stop, (r.spares[j]!).tm, -1⟩, ⟨t.legs[r.buses.length + j]!, 0⟩) else none
def trips (r : Route) (a : Acts) (t : Truth) : List (Trip × Times) := (List.range r.buses.length).map (busTrip r a t) ++ (List.range r.spares.length).filterMap (spTrip r a t)
structure Sized (r : Route) (a : Acts) (t : Truth) : Prop where
  nb : r.buses.length ≤ 6
  ns : r.spares.length ≤ 4
  holds : a.holds.length = r.buses.length
  turns : a.turns.length = r.buses.length
  spares : a.spares.length = r.spares.length
  tm : t.tm.length = r.buses.length
  tt : t.turns.length = r.buses.length
  legs : t.legs.length = r.buses.length + r.spares.length
  hold : ∀ x ∈ a.holds, 0 ≤ x ∧ x ≤ 2
  unit : 1 ≤ r.unit ∧ r.unit ≤ 30
  tms : ∀ x ∈ t.tm, 0 ≤ x ∧ x ≤ 10000
theorem bang {α : Type} [Inhabited α] (l : List α) (i : Nat) (h : i < l.length) : l[i]! = l[i] := getElem!_pos l i h
theorem mul_small {x u : Int} (h0 : 0 ≤ x) (h1 : x ≤ 2) (h2 : 1 ≤ u) (h3 : u ≤ 30) : 0 ≤ x * u ∧ x * u ≤ 60 := by
  have : x = 0 ∨ x = 1 ∨ x = 2 := by omega
  rcases this with rfl | rfl | rfl <;> omega
theorem trips_l1_eq (r : Route) (a : Acts) (t : Truth) (S : Sized r a t) : ∀ (n i : Nat) (x : List Trip) (y : List Times), r.buses.length < n + i → i ≤ r.buses.length → x.length = i → y.length = i →
    control_worked_trips_l1 n ⟨r, a⟩ t x y (i : Int) = some (x ++ ((List.range r.buses.length).drop i).map (fun i => (busTrip r a t i).1), y ++ ((List.range r.buses.length).drop i).map (fun i => (busTrip r a t i).2))
  | 0, i, x, y, h, hi, _, _ => by omega
  | n + 1, i, x, y, h, hi, h1, h2 => by
    rw [control_worked_trips_l1]
    simp only []
    rw [lt_len]
    have := S.nb
    by_cases hx : i < r.buses.length
    · have q1 : i < a.holds.length := by rw [S.holds]; exact hx
      have q2 : i < a.turns.length := by rw [S.turns]; exact hx
      have q3 : i < t.tm.length := by rw [S.tm]; exact hx
      have q4 : i < t.turns.length := by rw [S.tt]; exact hx
      have q5 : i < t.legs.length := by rw [S.legs]; omega
      have q6 : i < (List.range r.buses.length).length := by simpa using hx
      obtain ⟨b1, b2⟩ := mul_small (S.hold _ (List.getElem_mem q1)).1 (S.hold _ (List.getElem_mem q1)).2 S.unit.1 S.unit.2
      have b3 := S.tms _ (List.getElem_mem q3)
      simp only [hx, decide_true, cond_true, idxLt _ _ hx, idxLt _ _ q1, idxLt _ _ q2, idxLt _ _ q3, idxLt _ _ q4, idxLt _ _ q5, Option.bind_some]
      rw [appOk _ _ (by simp; omega), appOk _ _ (by simp; omega)]
      simp only [Option.bind_some]
      rw [wnat i (by omega), trips_l1_eq r a t S n (i + 1) _ _ (by omega) (by omega) (by simp; omega) (by simp; omega), drop_get q6, List.append_assoc, List.append_assoc]
      rw [wid (x := a.holds[i] * r.unit) (by omega) (by omega), wid (by omega) (by omega)]
      simp only [List.getElem_range, List.map_cons, busTrip, bang _ _ hx, bang _ _ q1, bang _ _ q2, bang _ _ q3, bang _ _ q4, bang _ _ q5]
      rfl
    · have : i = r.buses.length := by omega
      simp [this]
theorem trips_l2_eq (r : Route) (a : Acts) (t : Truth) (S : Sized r a t) : ∀ (n i : Nat) (x : List Trip) (y : List Times), r.spares.length < n + i → i ≤ r.spares.length → x.length ≤ 100 + i → y.length ≤ 100 + i →
    control_worked_trips_l2 n ⟨r, a⟩ t x y (i : Int) = some (x ++ (((List.range r.spares.length).drop i).filterMap (spTrip r a t)).map Prod.fst, y ++ (((List.range r.spares.length).drop i).filterMap (spTrip r a t)).map Prod.snd)
  | 0, i, x, y, h, hi, _, _ => by omega
  | n + 1, i, x, y, h, hi, h1, h2 => by
    rw [control_worked_trips_l2]
    simp only []
    rw [lt_len]
    have := S.ns
    have := S.nb
    by_cases hx : i < r.spares.length
    · have q1 : i < a.spares.length := by rw [S.spares]; exact hx
      have q5 : r.buses.length + i < t.legs.length := by rw [S.legs]; omega
      have q6 : i < (List.range r.spares.length).length := by simpa using hx
      simp only [hx, decide_true, cond_true, idxLt _ _ hx, idxLt _ _ q1, Option.bind_some]
      rw [drop_get q6]
      simp only [List.getElem_range, List.filterMap_cons, spTrip, bang _ _ hx, bang _ _ q1, bang _ _ q5]
      cases hs : a.spares[i] with
      | true =>
        simp only [cond_true, if_true]
        rw [appOk _ _ (by simp; omega)]
        simp only [Option.bind_some]
        rw [wid (x := ((r.buses.length : Nat) : Int) + (i : Int)) (by omega) (by omega), show ((r.buses.length : Nat) : Int) + (i : Int) = ((r.buses.length + i : Nat) : Int) by omega, idxLt _ _ q5]
        simp only [Option.bind_some]
        rw [appOk _ _ (by simp; omega)]
        simp only [Option.bind_some]
        rw [wnat i (by omega), trips_l2_eq r a t S n (i + 1) _ _ (by omega) (by omega) (by simp; omega) (by simp; omega), List.append_assoc, List.append_assoc]
        rfl
      | false =>
        simp only [cond_false]
        rw [wnat i (by omega), trips_l2_eq r a t S n (i + 1) _ _ (by omega) (by omega) (by omega) (by omega)]
        rfl
    · have : i = r.spares.length := by omega
      have hd : (List.range r.spares.length).drop r.spares.length = [] := List.drop_eq_nil_of_le (by simp)
      simp [this, hd]
theorem trips_eq (n : Nat) (r : Route) (a : Acts) (t : Truth) (S : Sized r a t) (hn : 50 ≤ n) : control_worked_trips n ⟨r, a⟩ t = some ((trips r a t).map Prod.fst, (trips r a t).map Prod.snd) := by
  have := S.nb
  have := S.ns
  have e1 := trips_l1_eq r a t S n 0 [] [] (by omega) (by omega) rfl rfl
  have e2 := trips_l2_eq r a t S n 0 ((List.range r.buses.length).map fun i => (busTrip r a t i).1) ((List.range r.buses.length).map fun i => (busTrip r a t i).2) (by omega) (by omega) (by simp; omega) (by simp; omega)
  simp only [Int.natCast_zero, List.nil_append, List.drop_zero] at e1 e2
  unfold control_worked_trips
  simp only [e1, Option.bind_some, e2, trips, List.map_append, List.map_map]
  rfl
end Go.Proofs.Ytokchpjijlebiaa
