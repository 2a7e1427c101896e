/- Control, the plain law of ControlBefore: Holds of a bus change nothing at stops before its own. -/
import Derived.Test.YtokchpjijlebiaaLawG
set_option linter.all false
namespace Go.Proofs.Ytokchpjijlebiaa
open Go Go.RowKit
theorem ready_eq (n : Nat) (r : Route) (a : Acts) (hn : 60 ≤ n) : ∃ b, law_ready n r a = some b ∧ (b = true → r.legs.length ≤ 10 ∧ r.buses.length ≤ 6 ∧ r.spares.length ≤ 4 ∧ a.holds.length ≤ 8 ∧ a.turns.length ≤ 8 ∧ a.spares.length ≤ 8 ∧ faultOf r = 0 ∧ actsB r a = true) := by
  unfold law_ready law_Thin
  by_cases h1 : ¬ (((r.legs.length : Nat) : Int) ≤ 10)
  · exact ⟨false, by simp only [h1, decide_false, cond_false, Option.bind_some], by simp⟩
  replace h1 := Decidable.not_not.1 h1
  by_cases h2 : ¬ (((r.buses.length : Nat) : Int) ≤ 6)
  · exact ⟨false, by simp only [h1, h2, decide_true, decide_false, cond_true, cond_false, Option.bind_some], by simp⟩
  replace h2 := Decidable.not_not.1 h2
  by_cases h3 : ¬ (((r.spares.length : Nat) : Int) ≤ 4)
  · exact ⟨false, by simp only [h1, h2, h3, decide_true, decide_false, cond_true, cond_false, Option.bind_some], by simp⟩
  replace h3 := Decidable.not_not.1 h3
  simp only [h1, h2, h3, decide_true, cond_true, Option.bind_some]
  obtain ⟨m, rfl⟩ : ∃ m, n = m + 1 := ⟨n - 1, by omega⟩
  have e1 : law_short_l1 (m + 1) (Truth.mk [] [] []) 0 = some (Ex.go ()) := rfl
  unfold law_short
  rw [e1]
  simp only [Option.bind_some, Ex.bind]
  by_cases q1 : ¬ (((a.holds.length : Nat) : Int) ≤ 8)
  · exact ⟨false, by simp only [q1, decide_false, cond_false, Option.bind_some], by simp⟩
  replace q1 := Decidable.not_not.1 q1
  by_cases q2 : ¬ (((a.turns.length : Nat) : Int) ≤ 8)
  · exact ⟨false, by simp only [q1, q2, decide_true, cond_true, decide_false, cond_false, Option.bind_some], by simp⟩
  replace q2 := Decidable.not_not.1 q2
  by_cases q3 : ¬ (((a.spares.length : Nat) : Int) ≤ 8)
  · exact ⟨false, by simp only [q1, q2, q3, decide_true, cond_true, decide_false, cond_false, Option.bind_some], by simp⟩
  replace q3 := Decidable.not_not.1 q3
  simp only [q1, q2, q3, decide_true, cond_true]
  have z : decide ((((([] : List Int).length) : Nat) : Int) ≤ 8) = true := by decide
  have z2 : decide ((((([] : List (List Int)).length) : Nat) : Int) ≤ 8) = true := by decide
  simp only [z, z2, cond_true, Option.bind_some]
  unfold law_fault
  rw [ref_Fault_eq (m + 1) r (by omega) (by omega) (by omega) (by omega), ref_AreActs_eq (m + 1) r a (by omega) (by omega) (by omega)]
  simp only [Option.bind_some]
  by_cases f0 : faultOf r = 0
  · rw [f0]
    simp only [bne_self_eq_false, cond_false]
    cases hb : actsB r a with
    | true => exact ⟨_, rfl, fun _ => ⟨by omega, by omega, by omega, by omega, by omega, by omega, by simp, by simp⟩⟩
    | false => exact ⟨_, rfl, fun h => by simp at h⟩
  · have : (faultOf r != 0) = true := by simpa using f0
    simp only [this, cond_true, Option.bind_some]
    exact ⟨_, rfl, fun h => absurd (by simpa using h) f0⟩
theorem look?_low {st turned turn : Int} {legs : List Int} (ht : 2 * turned + 1 < st) (n : Nat) (tm s k : Int) (h : k < s) : look? (passL st turned turn legs n tm s) k = none :=
  look?_none fun p hp hpk => by have := (passL_ge ht n tm s p hp).1; omega
theorem ranges_hold {r : Route} {a : Acts} (V : Valid r) (A : ActsOk r a) (k : Nat) (x : Int) (B : ActsOk r ⟨a.holds.set k x, a.turns, a.spares⟩) (hk : k < r.buses.length) (s : Nat) (hs : (s : Int) < (r.buses[k]).stop) : rangesAt r ⟨a.holds.set k x, a.turns, a.spares⟩ s = rangesAt r a s := by
  unfold rangesAt pairs
  rw [List.filterMap_append, List.filterMap_append, List.filterMap_map, List.filterMap_map]
  congr 1
  refine filterMap_congr' fun i hi => ?_
  have hi : i < r.buses.length := by simpa using hi
  simp only [Function.comp]
  by_cases hik : i = k
  · subst hik
    have o1 := busE_ok AtEnd.low V A i hi
    have o2 := busE_ok AtEnd.low V B i hi
    unfold spanAt
    simp only []
    rw [look?_low o1.t _ _ _ _ (by simp only [busE, bang _ _ hi]; exact hs), look?_low o2.t _ _ _ _ (by simp only [busE, bang _ _ hi]; exact hs)]
  · have : (a.holds.set k x)[i]! = a.holds[i]! := by
      rw [bang _ _ (by rw [List.length_set, A.holds]; exact hi), bang _ _ (by rw [A.holds]; exact hi), List.getElem_set_ne (by omega)]
    unfold busE
    simp only [this]
theorem before_l1_eq (r : Route) (at_ : IK .u8) (k : Nat) (hk : k < r.buses.length) (hka : Int.tmod (IntKind.i64.wrap at_.n) ((r.buses.length : Nat) : Int) = (k : Int)) (x y : List Int) (hx : ∀ s : Nat, (s : Int) < (r.buses[k]).stop → x[s]? = y[s]?) (hl : (r.buses[k]).stop ≤ (x.length : Int)) (hb : x.length ≤ 20) : ∀ (n i : Nat), x.length < n + i → (i : Int) ≤ max 0 (r.buses[k]).stop → law_ControlBefore_l1 n r at_ (x, 0) (y, 0) (i : Int) = some (Ex.go ())
  | 0, i, h, hi => by omega
  | n + 1, i, h, hi => by
    rw [law_ControlBefore_l1, hka, idxLt _ _ hk]
    simp only [Option.bind_some]
    by_cases hs : (i : Int) < (r.buses[k]).stop
    · have hlt : i < x.length := by omega
      have e := hx i hs
      simp only [hs, decide_true, cond_true]
      rw [idxLt _ _ hlt, idxN, ← e, List.getElem?_eq_getElem hlt]
      simp only [Option.bind_some, bne_self_eq_false, cond_false]
      rw [wnat i (by omega)]
      exact before_l1_eq r at_ k hk hka x y hx hl hb n (i + 1) (by omega) (by omega)
    · simp only [hs, decide_false, cond_false]
theorem controlBefore_law (n : Nat) (hn : 100 ≤ n) (hn2 : n ≤ 900) (hw : law_awake n = some true) (r : Route) (a : Acts) (at_ hold : IK .u8) (ha0 : 0 ≤ at_.n) (ha1 : at_.n ≤ 255) (hh0 : 0 ≤ hold.n) (hh1 : hold.n ≤ 255) : law_ControlBefore n r a at_ hold = some true := by
  unfold law_ControlBefore
  obtain ⟨b, hb, hb2⟩ := ready_eq n r a (by omega)
  rw [hb, Option.bind_some]
  cases b with
  | false => simp only [Bool.not_false, cond_true, Option.bind_some, hw]
  | true =>
    obtain ⟨h1, h2, h3, h4, h5, h6, hF, hA⟩ := hb2 rfl
    have V := valid_of hF
    have A := actsOk_of hA
    by_cases h0 : r.buses.length = 0
    · simp only [h0, Bool.not_true, cond_false, Option.bind_some, hw]
      rfl
    have h0' : (((r.buses.length : Nat) : Int) == 0) = false := beq_eq_false_iff_ne.2 (by omega)
    simp only [Bool.not_true, cond_false, Option.bind_some, h0']
    have hnz : nz ((r.buses.length : Nat) : Int) = some () := by unfold nz; rw [if_neg (by omega)]
    obtain ⟨c, hc⟩ : ∃ c : Nat, at_.n = (c : Int) := ⟨at_.n.toNat, by omega⟩
    obtain ⟨d, hd⟩ : ∃ d : Nat, hold.n = (d : Int) := ⟨hold.n.toNat, by omega⟩
    have hka : Int.tmod (IntKind.i64.wrap at_.n) ((r.buses.length : Nat) : Int) = ((c % r.buses.length : Nat) : Int) := by
      rw [hc, wid (by omega) (by omega)]; rfl
    have hho : Int.tmod (IntKind.i64.wrap hold.n) 3 = ((d % 3 : Nat) : Int) := by
      rw [hd, wid (by omega) (by omega)]; rfl
    have hk : c % r.buses.length < r.buses.length := Nat.mod_lt _ (by omega)
    have hkh : c % r.buses.length < a.holds.length := by rw [A.holds]; exact hk
    generalize hkk : c % r.buses.length = k at hka hk hkh
    have hB : actsB r ⟨a.holds.set k ((d % 3 : Nat) : Int), a.turns, a.spares⟩ = true := by
      simp only [actsB, Bool.and_eq_true, decide_eq_true_eq, List.all_eq_true, List.mem_range] at hA ⊢
      refine ⟨⟨by rw [List.length_set]; exact hA.1.1, hA.1.2.1, hA.1.2.2⟩, fun i hi => ?_⟩
      have := hA.2 i hi
      simp only [okAct, Bool.and_eq_true, decide_eq_true_eq] at this ⊢
      refine ⟨?_, this.2⟩
      rw [bang _ _ (by rw [List.length_set, A.holds]; exact hi), List.getElem_set]
      split
      · omega
      · rw [← bang _ _ (by rw [A.holds]; exact hi)]; exact this.1
    have B := actsOk_of hB
    have hlen : a.holds.length ≤ 20 := by omega
    rw [hnz, Option.bind_some, law_list_eq n a.holds (by omega), Option.bind_some, hka, hho, idxLt _ _ hkh, Option.bind_some, updN _ _ _ hkh, Option.bind_some]
    rw [law_Route_eq n r (by omega) (by omega) (by omega) (by omega), Option.bind_some, law_Acts_eq n a (by omega) (by omega) (by omega), Option.bind_some, worst_eq n r a hF hA (by omega) hn2, Option.bind_some, Option.bind_some]
    rw [law_Acts_eq n ⟨a.holds.set k ((d % 3 : Nat) : Int), a.turns, a.spares⟩ (by simp; omega) (by simp only; omega) (by simp only; omega), Option.bind_some, worst_eq n r _ hF hB (by omega) hn2, Option.bind_some, ref_stops_eq n r (by omega)]
    have l1 : (worstsOf r a).length = r.legs.length + 1 := by simp [worstsOf]
    have l2 : (worstsOf r ⟨a.holds.set k ((d % 3 : Nat) : Int), a.turns, a.spares⟩).length = r.legs.length + 1 := by simp [worstsOf]
    simp only [l1, l2, bne_self_eq_false, cond_false, Option.bind_some]
    rw [show (((r.legs.length + 1 : Nat) : Int) != (r.legs.length : Int) + 1) = false by simp]
    simp only [cond_false]
    have hb := V.buses _ (List.getElem_mem hk)
    have e := before_l1_eq r at_ k hk hka (worstsOf r a) (worstsOf r ⟨a.holds.set k ((d % 3 : Nat) : Int), a.turns, a.spares⟩) (fun s hs => by
      unfold worstsOf
      rw [List.getElem?_map, List.getElem?_map]
      by_cases hsl : s < r.legs.length + 1
      · rw [List.getElem?_range hsl]
        simp only [Option.map_some]
        rw [ranges_hold V A k _ B hk s hs]
      · rw [List.getElem?_eq_none (by simp; omega)]; rfl) (by omega) (by omega) n 0 (by omega) (by omega)
    simp only [Int.natCast_zero] at e
    rw [e]
    simp only [Option.bind_some, Ex.bind, hw]
end Go.Proofs.Ytokchpjijlebiaa
