/- Control, the plain law: what is valid. -/
import Derived.Test.YtokchpjijlebiaaLawD
set_option linter.all false
namespace Go.Proofs.Ytokchpjijlebiaa
open Go Go.RowKit
def okSpan (x : Rg) (m : Int) : Bool := decide (0 ≤ x.lo ∧ x.lo ≤ x.hi ∧ x.hi ≤ m)
def okBus (r : Route) (b : Bus) : Bool := decide (0 ≤ b.stop ∧ b.stop ≤ (r.legs.length : Int)) && okSpan b.tm 2000
def okSpare (r : Route) (s : Spare) : Bool := decide (0 ≤ s.stop ∧ s.stop ≤ (r.legs.length : Int)) && decide (0 ≤ s.tm ∧ s.tm ≤ 2000)
def validB (r : Route) : Bool := decide (r.legs.length % 2 = 1 ∧ r.legs.length ≤ 7) && okSpan r.turn 300 && decide (1 ≤ r.unit ∧ r.unit ≤ 30) && decide (0 ≤ r.gap ∧ r.gap ≤ 2000) && decide (0 ≤ r.fr ∧ r.fr ≤ r.to_ ∧ r.to_ ≤ 2000) && r.legs.all (fun x => okSpan x 300) && r.buses.all (okBus r) && r.spares.all (okSpare r)
def faultOf (r : Route) : Int := if r.buses.length > 4 ∨ r.spares.length > 2 then 3 else if validB r then 0 else 1
theorem ref_In_eq (n : Nat) (x a b : Int) : ref_In n x a b = some (decide (a ≤ x ∧ x ≤ b)) := by
  unfold ref_In
  by_cases h : a ≤ x <;> simp [h]
theorem within_eq (n : Nat) (x a b : Int) : control_within n x a b = some (decide (a ≤ x ∧ x ≤ b)) := by
  unfold control_within
  by_cases h : a ≤ x <;> simp [h]
theorem ref_span_eq (n : Nat) (x : Rg) (m : Int) : ref_span n x m = some (okSpan x m) := by
  unfold ref_span okSpan
  rw [ref_In_eq]
  by_cases h : 0 ≤ x.lo ∧ x.lo ≤ x.hi
  · simp [h]
  · simp only [h, decide_false, Option.bind_some, cond_false, Option.some.injEq]
    symm; rw [decide_eq_false_iff_not]; omega
theorem upto_eq (n : Nat) (x : Rg) (m : Int) : control_Range_upto n x m = some (okSpan x m) := by
  unfold control_Range_upto okSpan
  by_cases h : 0 ≤ x.lo <;> by_cases h2 : x.lo ≤ x.hi <;> simp [h, h2]
theorem takes_eq (n : Nat) (x : Rg) : control_Range_takes n x = some (okSpan x 300) := by
  unfold control_Range_takes; rw [upto_eq]; rfl
theorem minute_eq (n : Nat) (x : Int) : control_minute n x = some (decide (0 ≤ x ∧ x ≤ 2000)) := by
  unfold control_minute; rw [within_eq]; rfl
theorem ref_stops_eq (n : Nat) (r : Route) (h : r.legs.length ≤ 20) : ref_Stops n r = some ((r.legs.length : Int) + 1) := by
  unfold ref_Stops; rw [wid (by omega) (by omega)]
theorem fault_l1_eq (r : Route) (hb : r.legs.length ≤ 20) : ∀ (n i : Nat), r.legs.length < n + i → i ≤ r.legs.length → ref_Fault_l1 n r (i : Int) = some (if (r.legs.drop i).all (fun x => okSpan x 300) then Ex.go () else Ex.ret 1)
  | 0, i, h, hi => by omega
  | n + 1, i, h, hi => by
    rw [ref_Fault_l1, lt_len]
    by_cases hx : i < r.legs.length
    · simp only [hx, decide_true, cond_true, idxLt _ _ hx, Option.bind_some, ref_span_eq]
      rw [drop_get hx, List.all_cons]
      cases okSpan r.legs[i] 300 with
      | true => simp only [Bool.not_true, cond_false, Bool.true_and]; rw [wnat i (by omega), fault_l1_eq r hb n (i + 1) (by omega) (by omega)]
      | false => rfl
    · have : i = r.legs.length := by omega
      simp [this]
theorem fault_l2_eq (r : Route) (hl : r.legs.length ≤ 20) (hb : r.buses.length ≤ 20) : ∀ (n i : Nat), r.buses.length < n + i → i ≤ r.buses.length → ref_Fault_l2 n r (i : Int) = some (if (r.buses.drop i).all (okBus r) then Ex.go () else Ex.ret 1)
  | 0, i, h, hi => by omega
  | n + 1, i, h, hi => by
    rw [ref_Fault_l2, lt_len]
    by_cases hx : i < r.buses.length
    · simp only [hx, decide_true, cond_true, idxLt _ _ hx, Option.bind_some, ref_span_eq, ref_stops_eq n r hl, ref_In_eq]
      rw [drop_get hx, List.all_cons, wid (x := (r.legs.length : Int) + 1 - 1) (by omega) (by omega), show (r.legs.length : Int) + 1 - 1 = r.legs.length by omega]
      unfold okBus
      by_cases h1 : 0 ≤ (r.buses[i]).stop ∧ (r.buses[i]).stop ≤ (r.legs.length : Int)
      · simp only [h1, and_self, decide_true, Bool.not_true, cond_false, Bool.true_and]
        cases okSpan (r.buses[i]).tm 2000 with
        | true =>
          simp only [Bool.not_true, cond_false, Bool.true_and]; rw [wnat i (by omega), fault_l2_eq r hl hb n (i + 1) (by omega) (by omega)]
          rfl
        | false => rfl
      · simp only [h1, decide_false, Bool.not_false, cond_true, Bool.false_and]
        rfl
    · have : i = r.buses.length := by omega
      simp [this]
theorem fault_l3_eq (r : Route) (hl : r.legs.length ≤ 20) (hb : r.spares.length ≤ 20) : ∀ (n i : Nat), r.spares.length < n + i → i ≤ r.spares.length → ref_Fault_l3 n r (i : Int) = some (if (r.spares.drop i).all (okSpare r) then Ex.go () else Ex.ret 1)
  | 0, i, h, hi => by omega
  | n + 1, i, h, hi => by
    rw [ref_Fault_l3, lt_len]
    by_cases hx : i < r.spares.length
    · simp only [hx, decide_true, cond_true, idxLt _ _ hx, Option.bind_some, ref_stops_eq n r hl, ref_In_eq]
      rw [drop_get hx, List.all_cons, wid (x := (r.legs.length : Int) + 1 - 1) (by omega) (by omega), show (r.legs.length : Int) + 1 - 1 = r.legs.length by omega]
      unfold okSpare
      by_cases h1 : 0 ≤ (r.spares[i]).stop ∧ (r.spares[i]).stop ≤ (r.legs.length : Int)
      · simp only [h1, and_self, decide_true, Bool.not_true, cond_false, Bool.true_and]
        by_cases h2 : 0 ≤ (r.spares[i]).tm ∧ (r.spares[i]).tm ≤ 2000
        · simp only [h2, and_self, decide_true, Bool.not_true, cond_false, Bool.true_and]; rw [wnat i (by omega), fault_l3_eq r hl hb n (i + 1) (by omega) (by omega)]
          rfl
        · simp only [h2, decide_false, Bool.not_false, cond_true, Bool.false_and]
          rfl
      · simp only [h1, decide_false, Bool.not_false, cond_true, Bool.false_and]
        rfl
    · have : i = r.spares.length := by omega
      simp [this]
theorem tmod2 (k : Nat) (h : k ≤ 1000) : Int.tmod ((k : Nat) : Int) 2 = ((k % 2 : Nat) : Int) := rfl
theorem ref_Fault_eq (n : Nat) (r : Route) (hn : 50 ≤ n) (h1 : r.legs.length ≤ 20) (h2 : r.buses.length ≤ 20) (h3 : r.spares.length ≤ 20) : ref_Fault n r = some (faultOf r) := by
  unfold ref_Fault faultOf
  have e1 := fault_l1_eq r h1 n 0 (by omega) (by omega)
  have e2 := fault_l2_eq r h1 h2 n 0 (by omega) (by omega)
  have e3 := fault_l3_eq r h1 h3 n 0 (by omega) (by omega)
  simp only [Int.natCast_zero, List.drop_zero] at e1 e2 e3
  simp only [ref_span_eq, ref_In_eq, e1, e2, e3, Option.bind_some, tmod2 _ (show r.legs.length ≤ 1000 by omega)]
  by_cases a1 : r.buses.length > 4
  · have a1' : decide (((r.buses.length : Nat) : Int) > 4) = true := by simp; omega
    simp only [a1', a1, cond_true, Option.bind_some, true_or, if_true]
  have a1' : decide (((r.buses.length : Nat) : Int) > 4) = false := by simp; omega
  by_cases a2 : r.spares.length > 2
  · have a2' : decide (((r.spares.length : Nat) : Int) > 2) = true := by simp; omega
    simp only [a1', a2', a2, cond_true, cond_false, Option.bind_some, or_true, if_true]
  have a2' : decide (((r.spares.length : Nat) : Int) > 2) = false := by simp; omega
  simp only [a1', a2', cond_false, Option.bind_some, a1, a2, or_self, if_false]
  unfold validB
  by_cases b1 : ¬ (r.legs.length % 2 = 1)
  · have : r.legs.length % 2 = 0 := by omega
    simp [this]
  replace b1 := Decidable.not_not.1 b1
  have b1' : (((r.legs.length % 2 : Nat) : Int) == 0) = false := by rw [b1]; rfl
  by_cases b2 : ¬ (r.legs.length ≤ 7)
  · have b2' : decide (((r.legs.length : Nat) : Int) > 7) = true := by simp; omega
    simp only [b1', b2', b2, and_false, decide_false, Bool.false_and, cond_false, cond_true, Option.bind_some]
    rfl
  replace b2 := Decidable.not_not.1 b2
  have b2' : decide (((r.legs.length : Nat) : Int) > 7) = false := by simp; omega
  simp only [b1', b2', cond_false, b1, b2, and_self, decide_true, Bool.true_and]
  cases okSpan r.turn 300
  · simp
  simp only [Bool.not_true, cond_false, Bool.true_and]
  by_cases b3 : ¬ (1 ≤ r.unit ∧ r.unit ≤ 30)
  · simp [b3]
  replace b3 := Decidable.not_not.1 b3
  simp only [b3, and_self, decide_true, Bool.not_true, cond_false, Option.bind_some, Bool.true_and]
  by_cases b4 : ¬ (0 ≤ r.gap ∧ r.gap ≤ 2000)
  · simp [b4]
  replace b4 := Decidable.not_not.1 b4
  simp only [b4, and_self, decide_true, Bool.not_true, cond_false, Option.bind_some, Bool.true_and]
  by_cases b5 : ¬ (0 ≤ r.fr ∧ r.fr ≤ r.to_)
  · simp only [b5, decide_false, Bool.not_false, cond_true, Option.bind_some]
    have : ¬ (0 ≤ r.fr ∧ r.fr ≤ r.to_ ∧ r.to_ ≤ 2000) := fun h => b5 ⟨h.1, h.2.1⟩
    simp [this]
  replace b5 := Decidable.not_not.1 b5
  simp only [b5, and_self, decide_true, Bool.not_true, cond_false, Option.bind_some]
  by_cases b6 : ¬ (r.to_ ≤ 2000)
  · have : ¬ (0 ≤ r.fr ∧ r.fr ≤ r.to_ ∧ r.to_ ≤ 2000) := fun h => b6 h.2.2
    have b6' : decide (r.to_ > 2000) = true := by simp; omega
    simp only [b6, b6', and_false, decide_false, Bool.false_and, cond_true, Option.bind_some]
    rfl
  replace b6 := Decidable.not_not.1 b6
  have b6' : decide (r.to_ > 2000) = false := by simp; omega
  simp only [b6', b6, b5, and_self, decide_true, cond_false, Bool.true_and]
  cases r.legs.all (fun x => okSpan x 300)
  · rfl
  cases r.buses.all (okBus r)
  · rfl
  cases r.spares.all (okSpare r)
  · rfl
  rfl
theorem indexFunc_Rg_eq (l : List Rg) (F : Rg → Option Bool) (p : Rg → Bool) (hF : ∀ x, F x = some (p x)) (hb : l.length ≤ 20) : ∀ (n i : Nat), l.length < n + i → i ≤ l.length → ∃ e, slices_IndexFunc_control_Range_control_Range_l1 n l F (i : Int) = some e ∧ ((∃ k : Nat, e = Ex.ret (k : Int)) ∧ (l.drop i).any p = true ∨ e = Ex.go () ∧ (l.drop i).any p = false)
  | 0, i, h, hi => by omega
  | n + 1, i, h, hi => by
    rw [slices_IndexFunc_control_Range_control_Range_l1, lt_len]
    by_cases hx : i < l.length
    · simp only [hx, decide_true, cond_true, idxLt _ _ hx, Option.bind_some, hF]
      rw [drop_get hx, List.any_cons]
      cases p l[i] with
      | true => exact ⟨_, rfl, .inl ⟨⟨i, rfl⟩, rfl⟩⟩
      | false => simp only [cond_false, Bool.false_or]; rw [wnat i (by omega)]; exact indexFunc_Rg_eq l F p hF hb n (i + 1) (by omega) (by omega)
    · have : i = l.length := by omega
      exact ⟨Ex.go (), by simp [this], .inr ⟨rfl, by simp [this]⟩⟩
theorem all_Rg_eq (n : Nat) (hn : 50 ≤ n) (l : List Rg) (F : Rg → Option Bool) (p : Rg → Bool) (hF : ∀ x, F x = some (p x)) (hb : l.length ≤ 20) : control_all_control_Range n l F = some (l.all p) := by
  unfold control_all_control_Range slices_ContainsFunc_control_Range_control_Range slices_IndexFunc_control_Range_control_Range
  obtain ⟨e, he, h⟩ := indexFunc_Rg_eq l (fun y0 => control_all_control_Range_1 n y0 F) (fun x => !p x) (fun x => by simp [control_all_control_Range_1, hF]) hb n 0 (by omega) (by omega)
  simp only [Int.natCast_zero, List.drop_zero] at he h
  rw [he]
  have hall : l.all p = !(l.any fun x => !p x) := by rw [List.not_any_eq_all_not]; simp
  rcases h with ⟨⟨k, rfl⟩, h⟩ | ⟨rfl, h⟩
  · rw [hall, h]
    simp [Ex.bind]
  · rw [hall, h]
    simp [Ex.bind]
theorem indexFunc_Bus_eq (l : List Bus) (F : Bus → Option Bool) (p : Bus → Bool) (hF : ∀ x, F x = some (p x)) (hb : l.length ≤ 20) : ∀ (n i : Nat), l.length < n + i → i ≤ l.length → ∃ e, slices_IndexFunc_control_Bus_control_Bus_l1 n l F (i : Int) = some e ∧ ((∃ k : Nat, e = Ex.ret (k : Int)) ∧ (l.drop i).any p = true ∨ e = Ex.go () ∧ (l.drop i).any p = false)
  | 0, i, h, hi => by omega
  | n + 1, i, h, hi => by
    rw [slices_IndexFunc_control_Bus_control_Bus_l1, lt_len]
    by_cases hx : i < l.length
    · simp only [hx, decide_true, cond_true, idxLt _ _ hx, Option.bind_some, hF]
      rw [drop_get hx, List.any_cons]
      cases p l[i] with
      | true => exact ⟨_, rfl, .inl ⟨⟨i, rfl⟩, rfl⟩⟩
      | false => simp only [cond_false, Bool.false_or]; rw [wnat i (by omega)]; exact indexFunc_Bus_eq l F p hF hb n (i + 1) (by omega) (by omega)
    · have : i = l.length := by omega
      exact ⟨Ex.go (), by simp [this], .inr ⟨rfl, by simp [this]⟩⟩
theorem all_Bus_eq (n : Nat) (hn : 50 ≤ n) (l : List Bus) (F : Bus → Option Bool) (p : Bus → Bool) (hF : ∀ x, F x = some (p x)) (hb : l.length ≤ 20) : control_all_control_Bus n l F = some (l.all p) := by
  unfold control_all_control_Bus slices_ContainsFunc_control_Bus_control_Bus slices_IndexFunc_control_Bus_control_Bus
  obtain ⟨e, he, h⟩ := indexFunc_Bus_eq l (fun y0 => control_all_control_Bus_1 n y0 F) (fun x => !p x) (fun x => by simp [control_all_control_Bus_1, hF]) hb n 0 (by omega) (by omega)
  simp only [Int.natCast_zero, List.drop_zero] at he h
  rw [he]
  have hall : l.all p = !(l.any fun x => !p x) := by rw [List.not_any_eq_all_not]; simp
  rcases h with ⟨⟨k, rfl⟩, h⟩ | ⟨rfl, h⟩
  · rw [hall, h]
    simp [Ex.bind]
  · rw [hall, h]
    simp [Ex.bind]
theorem indexFunc_Spare_eq (l : List Spare) (F : Spare → Option Bool) (p : Spare → Bool) (hF : ∀ x, F x = some (p x)) (hb : l.length ≤ 20) : ∀ (n i : Nat), l.length < n + i → i ≤ l.length → ∃ e, slices_IndexFunc_control_Spare_control_Spare_l1 n l F (i : Int) = some e ∧ ((∃ k : Nat, e = Ex.ret (k : Int)) ∧ (l.drop i).any p = true ∨ e = Ex.go () ∧ (l.drop i).any p = false)
  | 0, i, h, hi => by omega
  | n + 1, i, h, hi => by
    rw [slices_IndexFunc_control_Spare_control_Spare_l1, lt_len]
    by_cases hx : i < l.length
    · simp only [hx, decide_true, cond_true, idxLt _ _ hx, Option.bind_some, hF]
      rw [drop_get hx, List.any_cons]
      cases p l[i] with
      | true => exact ⟨_, rfl, .inl ⟨⟨i, rfl⟩, rfl⟩⟩
      | false => simp only [cond_false, Bool.false_or]; rw [wnat i (by omega)]; exact indexFunc_Spare_eq l F p hF hb n (i + 1) (by omega) (by omega)
    · have : i = l.length := by omega
      exact ⟨Ex.go (), by simp [this], .inr ⟨rfl, by simp [this]⟩⟩
theorem all_Spare_eq (n : Nat) (hn : 50 ≤ n) (l : List Spare) (F : Spare → Option Bool) (p : Spare → Bool) (hF : ∀ x, F x = some (p x)) (hb : l.length ≤ 20) : control_all_control_Spare n l F = some (l.all p) := by
  unfold control_all_control_Spare slices_ContainsFunc_control_Spare_control_Spare slices_IndexFunc_control_Spare_control_Spare
  obtain ⟨e, he, h⟩ := indexFunc_Spare_eq l (fun y0 => control_all_control_Spare_1 n y0 F) (fun x => !p x) (fun x => by simp [control_all_control_Spare_1, hF]) hb n 0 (by omega) (by omega)
  simp only [Int.natCast_zero, List.drop_zero] at he h
  rw [he]
  have hall : l.all p = !(l.any fun x => !p x) := by rw [List.not_any_eq_all_not]; simp
  rcases h with ⟨⟨k, rfl⟩, h⟩ | ⟨rfl, h⟩
  · rw [hall, h]
    simp [Ex.bind]
  · rw [hall, h]
    simp [Ex.bind]
theorem check_1_eq (n : Nat) (b : Bus) (r : Route) (h : r.legs.length ≤ 20) : control_Route_check_1 n b r = some (okBus r b) := by
  unfold control_Route_check_1 okBus
  rw [control_stop_eq n r _ h, upto_eq]
  by_cases h1 : 0 ≤ b.stop ∧ b.stop ≤ (r.legs.length : Int)
  · have : 0 ≤ b.stop ∧ b.stop < (r.legs.length : Int) + 1 := ⟨h1.1, by omega⟩
    simp [h1, this]
  · have : ¬ (0 ≤ b.stop ∧ b.stop < (r.legs.length : Int) + 1) := fun h => h1 ⟨h.1, by omega⟩
    simp only [this, h1, decide_false, Option.bind_some, cond_false, Bool.false_and]
theorem check_2_eq (n : Nat) (b : Spare) (r : Route) (h : r.legs.length ≤ 20) : control_Route_check_2 n b r = some (okSpare r b) := by
  unfold control_Route_check_2 okSpare
  rw [control_stop_eq n r _ h, minute_eq]
  by_cases h1 : 0 ≤ b.stop ∧ b.stop ≤ (r.legs.length : Int)
  · have : 0 ≤ b.stop ∧ b.stop < (r.legs.length : Int) + 1 := ⟨h1.1, by omega⟩
    simp [h1, this]
  · have : ¬ (0 ≤ b.stop ∧ b.stop < (r.legs.length : Int) + 1) := fun h => h1 ⟨h.1, by omega⟩
    simp only [this, h1, decide_false, Option.bind_some, cond_false, Bool.false_and]
theorem places_eq (n : Nat) (r : Route) (h : r.legs.length ≤ 20) : control_Route_places n r = some ((((r.legs.length + 1) / 2 : Nat) : Int)) := by
  unfold control_Route_places
  rw [control_stops_eq n r h]
  simp only [Option.bind_some, Option.some.injEq]
  rw [show ((r.legs.length : Int) + 1) = ((r.legs.length + 1 : Nat) : Int) by omega, show Int.tdiv ((r.legs.length + 1 : Nat) : Int) 2 = (((r.legs.length + 1) / 2 : Nat) : Int) from rfl, wid (by omega) (by omega)]
theorem check_eq (n : Nat) (r : Route) (hn : 50 ≤ n) (h1 : r.legs.length ≤ 20) (h2 : r.buses.length ≤ 20) (h3 : r.spares.length ≤ 20) : control_Route_check n r = some (faultOf r) := by
  unfold control_Route_check faultOf
  rw [all_Rg_eq n hn r.legs _ (fun x => okSpan x 300) (fun x => takes_eq n x) h1, all_Bus_eq n hn r.buses _ (okBus r) (fun x => check_1_eq n x r h1) h2, all_Spare_eq n hn r.spares _ (okSpare r) (fun x => check_2_eq n x r h1) h3]
  simp only [takes_eq, within_eq, minute_eq, places_eq n r h1, Option.bind_some, tmod2 _ (show r.legs.length ≤ 1000 by omega)]
  by_cases a1 : r.buses.length > 4
  · have a1' : decide (((r.buses.length : Nat) : Int) > 4) = true := by simp; omega
    simp only [a1', a1, cond_true, Option.bind_some, true_or, if_true]
  have a1' : decide (((r.buses.length : Nat) : Int) > 4) = false := by simp; omega
  by_cases a2 : r.spares.length > 2
  · have a2' : decide (((r.spares.length : Nat) : Int) > 2) = true := by simp; omega
    simp only [a1', a2', a2, cond_true, cond_false, Option.bind_some, or_true, if_true]
  have a2' : decide (((r.spares.length : Nat) : Int) > 2) = false := by simp; omega
  simp only [a1', a2', cond_false, Option.bind_some, a1, a2, or_self, if_false]
  unfold validB
  by_cases b1 : ¬ (r.legs.length % 2 = 1)
  · have : r.legs.length % 2 = 0 := by omega
    simp [this]
  replace b1 := Decidable.not_not.1 b1
  have b1' : (((r.legs.length % 2 : Nat) : Int) == 0) = false := by rw [b1]; rfl
  by_cases b2 : ¬ (r.legs.length ≤ 7)
  · have b2' : decide ((((r.legs.length + 1) / 2 : Nat) : Int) > 4) = true := by simp; omega
    simp only [b1', b2', b2, and_false, decide_false, Bool.false_and, cond_false, cond_true, Option.bind_some]
    rfl
  replace b2 := Decidable.not_not.1 b2
  have b2' : decide ((((r.legs.length + 1) / 2 : Nat) : Int) > 4) = false := by simp; omega
  simp only [b1', b2', cond_false, b1, b2, and_self, decide_true, Bool.true_and]
  cases r.legs.all (fun x => okSpan x 300)
  · simp
  cases okSpan r.turn 300
  · simp
  cases r.buses.all (okBus r)
  · simp
  cases r.spares.all (okSpare r)
  · simp
  simp only [Bool.not_true, cond_false, Bool.true_and, Bool.and_true, Option.bind_some]
  by_cases b3 : ¬ (1 ≤ r.unit ∧ r.unit ≤ 30)
  · simp [b3]
  replace b3 := Decidable.not_not.1 b3
  by_cases b4 : ¬ (0 ≤ r.gap ∧ r.gap ≤ 2000)
  · simp [b3, b4]
  replace b4 := Decidable.not_not.1 b4
  simp only [b3, b4, and_self, decide_true, Bool.not_true, cond_false, Option.bind_some, Bool.true_and]
  by_cases b5 : ¬ (0 ≤ r.fr ∧ r.fr ≤ 2000)
  · have : ¬ (0 ≤ r.fr ∧ r.fr ≤ r.to_ ∧ r.to_ ≤ 2000) := fun h => b5 ⟨h.1, by omega⟩
    simp [b5, this]
  replace b5 := Decidable.not_not.1 b5
  by_cases b6 : ¬ (0 ≤ r.to_ ∧ r.to_ ≤ 2000)
  · have : ¬ (0 ≤ r.fr ∧ r.fr ≤ r.to_ ∧ r.to_ ≤ 2000) := fun h => b6 ⟨by omega, h.2.2⟩
    simp [b5, b6]; omega
  replace b6 := Decidable.not_not.1 b6
  simp only [b5, b6, and_self, decide_true, Bool.not_true, cond_false, Option.bind_some]
  by_cases b7 : r.fr > r.to_
  · have : ¬ (0 ≤ r.fr ∧ r.fr ≤ r.to_ ∧ r.to_ ≤ 2000) := fun h => by omega
    have b7' : decide (r.fr > r.to_) = true := by simp; omega
    simp only [b7', cond_true]
    simp; omega
  · have b7' : decide (r.fr > r.to_) = false := by simp; omega
    simp only [b7', cond_false]
    simp; omega
structure Valid (r : Route) : Prop where
  nb : r.buses.length ≤ 4
  ns : r.spares.length ≤ 2
  odd : r.legs.length % 2 = 1
  nl : r.legs.length ≤ 7
  turn : 0 ≤ r.turn.lo ∧ r.turn.lo ≤ r.turn.hi ∧ r.turn.hi ≤ 300
  unit : 1 ≤ r.unit ∧ r.unit ≤ 30
  gap : 0 ≤ r.gap ∧ r.gap ≤ 2000
  looked : 0 ≤ r.fr ∧ r.fr ≤ r.to_ ∧ r.to_ ≤ 2000
  legs : ∀ x ∈ r.legs, 0 ≤ x.lo ∧ x.lo ≤ x.hi ∧ x.hi ≤ 300
  buses : ∀ b ∈ r.buses, 0 ≤ b.stop ∧ b.stop ≤ (r.legs.length : Int) ∧ 0 ≤ b.tm.lo ∧ b.tm.lo ≤ b.tm.hi ∧ b.tm.hi ≤ 2000
  spares : ∀ s ∈ r.spares, 0 ≤ s.stop ∧ s.stop ≤ (r.legs.length : Int) ∧ 0 ≤ s.tm ∧ s.tm ≤ 2000
theorem valid_of {r : Route} (h : faultOf r = 0) : Valid r := by
  unfold faultOf at h
  split at h
  · cases h
  rename_i h1
  split at h
  · rename_i h2
    simp only [validB, okSpan, Bool.and_eq_true, decide_eq_true_eq, List.all_eq_true] at h2
    obtain ⟨⟨⟨⟨⟨⟨⟨q1, q2⟩, q3⟩, q4⟩, q5⟩, q6⟩, q7⟩, q8⟩ := h2
    refine ⟨by omega, by omega, q1.1, q1.2, q2, q3, q4, q5, q6, fun b hb => ?_, fun s hs => ?_⟩
    · have := q7 b hb
      simp only [okBus, okSpan, Bool.and_eq_true, decide_eq_true_eq] at this
      exact ⟨this.1.1, this.1.2, this.2⟩
    · have := q8 s hs
      simp only [okSpare, Bool.and_eq_true, decide_eq_true_eq] at this
      exact ⟨this.1.1, this.1.2, this.2⟩
  · cases h
end Go.Proofs.Ytokchpjijlebiaa
