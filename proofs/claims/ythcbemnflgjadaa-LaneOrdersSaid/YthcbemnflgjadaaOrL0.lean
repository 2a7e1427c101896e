/- The plain law. -/
import Derived.Test.YthcbemnflgjadaaOrP0
import Derived.KernelRfl
set_option linter.all false
namespace Go.Proofs.Ythcbemnflgjadaa
open Go Go.RowKit
theorem wid {x : Int} (h0 : -9223372036854775808 ≤ x) (h1 : x ≤ 9223372036854775807) : IntKind.i64.wrap x = x := by
  simp [IntKind.wrap, IntKind.bits, IntKind.signed]; omega
theorem wnat (i : Nat) (h : i < 1000000000000) : IntKind.i64.wrap ((i : Int) + 1) = ((i + 1 : Nat) : Int) := by
  rw [wid (by omega) (by omega)]; omega
theorem idxN {α : Type} (xs : List α) (i : Nat) : idx xs (i : Int) = xs[i]? := rfl
theorem idxLt {α : Type} (xs : List α) (i : Nat) (h : i < xs.length) : idx xs (i : Int) = some xs[i] := by rw [idxN, List.getElem?_eq_getElem h]
theorem appOk {α : Type} (xs ys : List α) (h : xs.length + ys.length ≤ 1000000000) : app xs ys = some (xs ++ ys) := by
  unfold app; rw [if_pos (by simpa using h)]
theorem drop_get {α : Type} {xs : List α} {i : Nat} (h : i < xs.length) : xs.drop i = xs[i] :: xs.drop (i + 1) := List.drop_eq_getElem_cons h
theorem lt_len {α : Type} (xs : List α) (i : Nat) : decide ((i : Int) < ((xs.length : Nat) : Int)) = decide (i < xs.length) := by
  by_cases h : i < xs.length <;> simp [h]
theorem look?_put {K α : Type} [DecidableEq K] (k j : K) (x : α) : ∀ l : List (K × α), look? (put? l k x) j = if k = j then some x else look? l j
  | [] => by simp [put?, look?]
  | p :: r => by
    unfold put?
    by_cases h : p.1 = k
    · rw [if_pos h]
      simp only [look?]
      by_cases hj : k = j
      · simp [hj]
      · simp [hj, h]
    · rw [if_neg h, look?, look?, look?_put k j x r]
      by_cases hj : p.1 = j
      · have : k ≠ j := fun e => h (by rw [hj, e])
        simp [hj, this]
      · simp [hj]
theorem bindV {α β : Type} {x : Option α} {v : α} {f : α → Option β} (h : x = some v) : x.bind f = f v := by rw [h]; rfl
theorem sortI_sorted (l : List Int) : (sortI l).Pairwise (· ≤ ·) := by
  have := List.pairwise_mergeSort (le := fun x y : Int => decide (x ≤ y)) (fun a b c h1 h2 => by simp at *; omega) (fun a b => by simp; omega) l
  exact this.imp fun h => by simpa using h
theorem sortI_is {l l' : List Int} (hp : l.Perm l') (hs : l'.Pairwise (· ≤ ·)) : sortI l = l' :=
  List.Perm.eq_of_pairwise (le := (· ≤ ·)) (fun _ _ _ _ h1 h2 => Int.le_antisymm h1 h2) (sortI_sorted l) hs ((List.mergeSort_perm l _).trans hp)
theorem sortO_is {l l' : List Int} (hp : l.Perm l') (hs : l'.Pairwise (· ≤ ·)) (hl : l.length ≤ 1000000) : sortO l = some l' := by
  unfold sortO
  rw [if_pos (by omega), sortI_is hp hs]
def nightY : Yard := ⟨[2, 2], [⟨100, 120, 40⟩, ⟨110, 130, 20⟩, ⟨125, 140, 30⟩, ⟨150, 160, 10⟩], 0⟩
def nightN : Night := ⟨nightY, [0, 0, 1, 1], ⟨0, 1, 2, 3, 0, 0, 0, 0⟩, ⟨false, false, false, false, false, false, false, false⟩⟩
theorem awakeS : lane_Shunts 200 nightY [0, 0, 1, 1] [0, 1, 2, 3] [] = some ([0, 2], 0) := by
  unfold lane_Shunts
  refine (bindV (v := (nightN, 0)) (by kernel_rfl)).trans ?_
  show ((lane_night_morning 200 nightN).bind fun x25 => (slices_Concat_int_int 200 x25).bind fun x26 => (sortO x26).bind fun u_80 => some (u_80, 0)) = _
  refine (bindV (v := [[2], [0], [], []]) (by kernel_rfl)).trans ?_
  refine (bindV (v := [2, 0]) (by kernel_rfl)).trans ?_
  exact bindV (sortO_is (by decide) (by decide) (by decide))
theorem awake_true : law_awake 200 = some true := by
  unfold law_awake
  refine (bindV (v := nightY) rfl).trans ?_
  refine (bindV awakeS).trans ?_
  kernel_rfl
theorem law_list_eq (n : Nat) (l : List Int) (h : l.length ≤ 1000) : law_list n l = some l := by
  unfold law_list
  simp [appOk [] l (by simp; omega)]
theorem law_Yard_l1_eq (y : Yard) (hb : y.buses.length ≤ 1000) : ∀ (n i : Nat) (acc : List Bus), y.buses.length < n + i → i ≤ y.buses.length → acc.length = i → law_Yard_l1 n y acc (i : Int) = some (acc ++ y.buses.drop i)
  | 0, i, acc, h, hi, _ => by omega
  | n + 1, i, acc, h, hi, ha => by
    rw [law_Yard_l1, lt_len]
    by_cases hx : i < y.buses.length
    · simp only [hx, decide_true, cond_true, idxLt _ _ hx, Option.bind_some]
      rw [appOk _ _ (by simp; omega)]
      simp only [Option.bind_some]
      rw [wnat i (by omega), law_Yard_l1_eq y hb n (i + 1) _ (by omega) (by omega) (by simp; omega), drop_get hx, List.append_assoc]
      rfl
    · have : i = y.buses.length := by omega
      simp [this]
theorem law_Yard_eq (n : Nat) (y : Yard) (hr : y.room.length ≤ 1000) (hb : y.buses.length ≤ 1000) (hn : y.buses.length < n) : law_Yard n y = some y := by
  unfold law_Yard
  have e1 := law_Yard_l1_eq y hb n 0 [] (by omega) (by omega) rfl
  rw [show ((0 : Nat) : Int) = 0 from rfl] at e1
  rw [law_list_eq n _ hr, Option.bind_some, e1]
  simp
def btw (x lo hi : Int) : Bool := decide (lo ≤ x) && decide (x ≤ hi)
theorem btw_true {x lo hi : Int} : btw x lo hi = true ↔ lo ≤ x ∧ x ≤ hi := by simp [btw]
theorem ref_In_eq (n : Nat) (x lo hi : Int) : ref_In n x lo hi = some (btw x lo hi) := by
  unfold ref_In btw
  rw [show decide (x ≥ lo) = decide (lo ≤ x) from rfl]
  cases decide (lo ≤ x) <;> rfl
theorem within_eq (n : Nat) (x lo hi : Int) : lane_within n x lo hi = some (btw x lo hi) := by
  unfold lane_within btw
  cases decide (lo ≤ x) <;> rfl
def okBus (b : Bus) : Bool := btw b.lo 0 b.hi && (decide (b.hi ≤ 2000) && btw b.turn 0 2000)
theorem valid_eq (n : Nat) (b : Bus) : lane_Bus_valid n b = some (okBus b) := by
  unfold lane_Bus_valid okBus
  simp only [within_eq, Option.bind_some]
  cases btw b.lo 0 b.hi <;> cases decide (b.hi ≤ 2000) <;> rfl
theorem indexInt_eq (s : List Int) (f : Int → Option Bool) (g : Int → Bool) (hf : ∀ c ∈ s, f c = some (g c)) (hs : s.length ≤ 1000000) : ∀ (n i : Nat), s.length < n + i → i ≤ s.length →
    ∃ r, slices_IndexFunc_int_int_l1 n s f (i : Int) = some r ∧ (if (s.drop i).any g then ∃ k : Int, 0 ≤ k ∧ r = Ex.ret k else r = Ex.go ())
  | 0, i, h, hi => by omega
  | n + 1, i, h, hi => by
    rw [slices_IndexFunc_int_int_l1, lt_len]
    by_cases hx : i < s.length
    · simp only [hx, decide_true, cond_true, idxLt _ _ hx, Option.bind_some, hf _ (List.getElem_mem hx)]
      rw [wnat i (by omega), drop_get hx, List.any_cons]
      cases hv : g s[i] with
      | true => exact ⟨Ex.ret (i : Int), rfl, ⟨i, by omega, rfl⟩⟩
      | false =>
        obtain ⟨r, h1, h2⟩ := indexInt_eq s f g hf hs n (i + 1) (by omega) (by omega)
        exact ⟨r, h1, by rw [Bool.false_or]; exact h2⟩
    · have : i = s.length := by omega
      subst this
      exact ⟨Ex.go (), by simp, by simp⟩
theorem all_int_eq (n : Nat) (l : List Int) (f : Int → Option Bool) (g : Int → Bool) (hf : ∀ c ∈ l, f c = some (g c)) (h : l.length < n) (hs : l.length ≤ 1000000) : lane_all_int n l f = some (l.all g) := by
  unfold lane_all_int slices_ContainsFunc_int_int slices_IndexFunc_int_int
  obtain ⟨r, h1, h2⟩ := indexInt_eq l (fun y0 => lane_all_int_1 n y0 f) (fun c => !g c) (fun c hc => by unfold lane_all_int_1; rw [hf c hc]; rfl) hs n 0 (by omega) (by omega)
  rw [show ((0 : Nat) : Int) = 0 from rfl] at h1
  rw [h1]
  simp only [List.drop_zero] at h2
  have hn : l.all g = !l.any fun c => !g c := by
    rw [List.not_any_eq_all_not]; simp
  rw [hn]
  split at h2
  · rename_i hm
    obtain ⟨k, hk, rfl⟩ := h2
    simp [Ex.bind, hm, hk]
  · rename_i hm
    subst h2
    simp [Ex.bind, hm]
theorem indexBus_eq (s : List Bus) (f : Bus → Option Bool) (g : Bus → Bool) (hf : ∀ c ∈ s, f c = some (g c)) (hs : s.length ≤ 1000000) : ∀ (n i : Nat), s.length < n + i → i ≤ s.length →
    ∃ r, slices_IndexFunc_lane_Bus_lane_Bus_l1 n s f (i : Int) = some r ∧ (if (s.drop i).any g then ∃ k : Int, 0 ≤ k ∧ r = Ex.ret k else r = Ex.go ())
  | 0, i, h, hi => by omega
  | n + 1, i, h, hi => by
    rw [slices_IndexFunc_lane_Bus_lane_Bus_l1, lt_len]
    by_cases hx : i < s.length
    · simp only [hx, decide_true, cond_true, idxLt _ _ hx, Option.bind_some, hf _ (List.getElem_mem hx)]
      rw [wnat i (by omega), drop_get hx, List.any_cons]
      cases hv : g s[i] with
      | true => exact ⟨Ex.ret (i : Int), rfl, ⟨i, by omega, rfl⟩⟩
      | false =>
        obtain ⟨r, h1, h2⟩ := indexBus_eq s f g hf hs n (i + 1) (by omega) (by omega)
        exact ⟨r, h1, by rw [Bool.false_or]; exact h2⟩
    · have : i = s.length := by omega
      subst this
      exact ⟨Ex.go (), by simp, by simp⟩
theorem all_Bus_eq (n : Nat) (l : List Bus) (f : Bus → Option Bool) (g : Bus → Bool) (hf : ∀ c ∈ l, f c = some (g c)) (h : l.length < n) (hs : l.length ≤ 1000000) : lane_all_lane_Bus n l f = some (l.all g) := by
  unfold lane_all_lane_Bus slices_ContainsFunc_lane_Bus_lane_Bus slices_IndexFunc_lane_Bus_lane_Bus
  obtain ⟨r, h1, h2⟩ := indexBus_eq l (fun y0 => lane_all_lane_Bus_1 n y0 f) (fun c => !g c) (fun c hc => by unfold lane_all_lane_Bus_1; rw [hf c hc]; rfl) hs n 0 (by omega) (by omega)
  rw [show ((0 : Nat) : Int) = 0 from rfl] at h1
  rw [h1]
  simp only [List.drop_zero] at h2
  have hn : l.all g = !l.any fun c => !g c := by
    rw [List.not_any_eq_all_not]; simp
  rw [hn]
  split at h2
  · rename_i hm
    obtain ⟨k, hk, rfl⟩ := h2
    simp [Ex.bind, hm, hk]
  · rename_i hm
    subst h2
    simp [Ex.bind, hm]
def dupT : List Int → List Int → Bool
  | _, [] => false
  | s, t :: r => s.contains t || dupT (s ++ [t]) r
theorem check_l1_eq (y : Yard) (hb : y.buses.length ≤ 1000) : ∀ (n i : Nat) (m : List (Int × Bool)) (s : List Int), y.buses.length < n + i → i ≤ y.buses.length → (∀ t, (lookD m t false).1 = s.contains t) →
    ∃ r, lane_Yard_check_l1 n y (i : Int) m = some r ∧ (if dupT s ((y.buses.drop i).map (·.turn)) then r = Ex.ret 1 else ∃ m', r = Ex.go m')
  | 0, i, m, s, h, hi, _ => by omega
  | n + 1, i, m, s, h, hi, hm => by
    rw [lane_Yard_check_l1, lt_len]
    by_cases hx : i < y.buses.length
    · simp only [hx, decide_true, cond_true, idxLt _ _ hx, Option.bind_some, hm]
      rw [wnat i (by omega), drop_get hx, List.map_cons, dupT]
      cases hv : s.contains y.buses[i].turn with
      | true => exact ⟨_, rfl, rfl⟩
      | false =>
        simp only [cond_false, Bool.false_or]
        refine check_l1_eq y hb n (i + 1) _ (s ++ [y.buses[i].turn]) (by omega) (by omega) fun t => ?_
        have := hm t
        unfold lookD at this ⊢
        rw [look?_put]
        by_cases ht : y.buses[i].turn = t
        · simp [ht]
        · rw [if_neg ht, this]
          simp [Ne.symm ht]
    · have : i = y.buses.length := by omega
      subst this
      exact ⟨Ex.go m, by simp, by simp [dupT]⟩
def faultOf (y : Yard) : Int :=
  if 3 < y.room.length ∨ 8 < y.buses.length then 3
  else if y.room.length = 0 ∨ btw y.broken 0 2 = false ∨ (y.room.all fun r => btw r 0 8) = false ∨ y.buses.all okBus = false ∨ dupT [] (y.buses.map (·.turn)) = true then 1 else 0
theorem check_eq (n : Nat) (y : Yard) (hr : y.room.length ≤ 1000) (hb : y.buses.length ≤ 1000) (h1 : y.room.length < n) (h2 : y.buses.length < n) : lane_Yard_check n y = some (faultOf y) := by
  unfold lane_Yard_check faultOf
  have e1 : lane_all_int n y.room (fun y0 => lane_Yard_check_1 n y0) = some (y.room.all fun r => btw r 0 8) := all_int_eq n _ _ _ (fun c _ => by unfold lane_Yard_check_1; rw [within_eq]; rfl) h1 (by omega)
  have e2 : lane_all_lane_Bus n y.buses (fun y0 => lane_Bus_valid n y0) = some (y.buses.all okBus) := all_Bus_eq n _ _ _ (fun c _ => valid_eq n c) h2 (by omega)
  obtain ⟨r, e3, e4⟩ := check_l1_eq y hb n 0 [] [] (by omega) (by omega) (fun t => by simp [lookD, look?])
  rw [show ((0 : Nat) : Int) = 0 from rfl] at e3
  rw [List.drop_zero] at e4
  have c1 : decide (((y.room.length : Nat) : Int) > 3) = decide (3 < y.room.length) := by by_cases h : 3 < y.room.length <;> simp [h] <;> omega
  have c2 : decide (((y.buses.length : Nat) : Int) > 8) = decide (8 < y.buses.length) := by by_cases h : 8 < y.buses.length <;> simp [h] <;> omega
  have c3 : (((y.room.length : Nat) : Int) == 0) = decide (y.room.length = 0) := by by_cases h : y.room.length = 0 <;> simp [h]
  rw [c1, c2, c3]
  by_cases a1 : 3 < y.room.length
  · simp [a1]
  by_cases a2 : 8 < y.buses.length
  · simp [a1, a2]
  simp only [a1, a2, decide_false, cond_false, Option.bind_some, or_self, if_false]
  by_cases a3 : y.room.length = 0
  · simp [a3]
  simp only [a3, decide_false, cond_false, within_eq, Option.bind_some, false_or, e1, e2]
  cases a4 : btw y.broken 0 2 with
  | false => simp
  | true =>
  cases a5 : (y.room.all fun r => btw r 0 8) with
  | false => simp
  | true =>
  cases a6 : y.buses.all okBus with
  | false => simp
  | true =>
  simp only [Bool.not_true, cond_false, Option.bind_some, e3]
  cases a7 : dupT [] (y.buses.map (·.turn)) with
  | true =>
    rw [a7] at e4
    simp only [if_true] at e4
    subst e4
    simp [Ex.bind]
  | false =>
    rw [a7] at e4
    obtain ⟨m', rfl⟩ := e4
    simp [Ex.bind]
theorem Fault_l1_eq (y : Yard) (hb : y.room.length ≤ 1000) : ∀ (n i : Nat), y.room.length < n + i → i ≤ y.room.length →
    ref_Fault_l1 n y (i : Int) = some (if (y.room.drop i).all (fun r => btw r 0 8) then Ex.go () else Ex.ret 1)
  | 0, i, h, hi => by omega
  | n + 1, i, h, hi => by
    rw [ref_Fault_l1, lt_len]
    by_cases hx : i < y.room.length
    · simp only [hx, decide_true, cond_true, idxLt _ _ hx, Option.bind_some, ref_In_eq]
      rw [wnat i (by omega), drop_get hx, List.all_cons]
      cases hv : btw y.room[i] 0 8 with
      | false => simp
      | true => simpa using Fault_l1_eq y hb n (i + 1) (by omega) (by omega)
    · have : i = y.room.length := by omega
      subst this
      simp
theorem Fault_l3_eq (y : Yard) (hb : y.buses.length ≤ 1000) (k : Nat) (b : Bus) (hk : k ≤ y.buses.length) : ∀ (n i : Nat), k < n + i → i ≤ k →
    ref_Fault_l3 n y (k : Int) b (i : Int) = some (if (((y.buses.take k).drop i).map (·.turn)).contains b.turn then Ex.ret 1 else Ex.go ())
  | 0, i, h, hi => by omega
  | n + 1, i, h, hi => by
    rw [ref_Fault_l3]
    by_cases hx : i < k
    · have hx' : i < (y.buses.take k).length := by rw [List.length_take]; omega
      have hl : i < y.buses.length := by omega
      simp only [show decide ((i : Int) < (k : Int)) = true by simp; omega, cond_true, idxLt _ _ hl, Option.bind_some]
      rw [wnat i (by omega), drop_get hx', List.map_cons, List.contains_cons, List.getElem_take]
      cases hv : (y.buses[i].turn == b.turn) with
      | true =>
        have : (b.turn == y.buses[i].turn) = true := by rw [beq_iff_eq] at hv ⊢; exact hv.symm
        simp [this]
      | false =>
        have : (b.turn == y.buses[i].turn) = false := by
          cases hq : (b.turn == y.buses[i].turn) with
          | false => rfl
          | true => rw [beq_iff_eq] at hq; rw [hq] at hv; simp at hv
        rw [this, Bool.false_or]
        simpa using Fault_l3_eq y hb k b hk n (i + 1) (by omega) (by omega)
    · have : i = k := by omega
      subst this
      simp
theorem Fault_l2_eq (y : Yard) (hb : y.buses.length ≤ 500) : ∀ (n i : Nat), 2 * y.buses.length < n + i → i ≤ y.buses.length →
    ref_Fault_l2 n y (i : Int) = some (if (y.buses.drop i).all okBus = false ∨ dupT ((y.buses.take i).map (·.turn)) ((y.buses.drop i).map (·.turn)) = true then Ex.ret 1 else Ex.go ())
  | 0, i, h, hi => by omega
  | n + 1, i, h, hi => by
    rw [ref_Fault_l2, lt_len]
    by_cases hx : i < y.buses.length
    · simp only [hx, decide_true, cond_true, idxLt _ _ hx, Option.bind_some, ref_In_eq]
      have e1 := Fault_l3_eq y (by omega) i y.buses[i] (by omega) n 0 (by omega) (by omega)
      rw [show ((0 : Nat) : Int) = 0 from rfl] at e1
      have e2 := Fault_l2_eq y hb n (i + 1) (by omega) (by omega)
      rw [wnat i (by omega), e1, e2, drop_get hx, List.all_cons, List.map_cons, dupT, List.drop_zero]
      have e3 : (y.buses.take (i + 1)).map (·.turn) = (y.buses.take i).map (·.turn) ++ [y.buses[i].turn] := by
        rw [List.take_succ_eq_append_getElem hx, List.map_append]; rfl
      rw [e3]
      have e4 : decide (y.buses[i].hi > 2000) = !decide (y.buses[i].hi ≤ 2000) := by
        by_cases hq : y.buses[i].hi ≤ 2000
        · simp [hq, Int.not_lt.2 hq]
        · simp [hq]; omega
      rw [e4]
      unfold okBus
      cases btw y.buses[i].lo 0 y.buses[i].hi <;> cases decide (y.buses[i].hi ≤ 2000) <;> cases btw y.buses[i].turn 0 2000 <;> cases ((y.buses.take i).map (·.turn)).contains y.buses[i].turn <;> simp [Ex.bind, okBus]
    · have : i = y.buses.length := by omega
      subst this
      simp [dupT]
theorem Fault_eq (n : Nat) (y : Yard) (hr : y.room.length ≤ 100) (hb : y.buses.length ≤ 100) (h1 : y.room.length < n) (h2 : 2 * y.buses.length < n) : ref_Fault n y = some (faultOf y) := by
  unfold ref_Fault faultOf
  have e1 := Fault_l1_eq y (by omega) n 0 (by omega) (by omega)
  have e2 := Fault_l2_eq y (by omega) n 0 (by omega) (by omega)
  rw [show ((0 : Nat) : Int) = 0 from rfl] at e1 e2
  simp only [List.drop_zero, List.take_zero, List.map_nil] at e1 e2
  have c1 : decide (((y.room.length : Nat) : Int) > 3) = decide (3 < y.room.length) := by by_cases h : 3 < y.room.length <;> simp [h] <;> omega
  have c2 : decide (((y.buses.length : Nat) : Int) > 8) = decide (8 < y.buses.length) := by by_cases h : 8 < y.buses.length <;> simp [h] <;> omega
  have c3 : decide (((y.room.length : Nat) : Int) < 1) = decide (y.room.length = 0) := by by_cases h : y.room.length = 0 <;> simp [h] <;> omega
  rw [c1, c2, c3, e1, e2]
  by_cases a1 : 3 < y.room.length
  · simp [a1]
  by_cases a2 : 8 < y.buses.length
  · simp [a1, a2]
  simp only [a1, a2, decide_false, cond_false, Option.bind_some, or_self, if_false]
  by_cases a3 : y.room.length = 0
  · simp [a3]
  simp only [a3, decide_false, cond_false, ref_In_eq, Option.bind_some, false_or]
  cases a4 : btw y.broken 0 2 <;> cases a5 : (y.room.all fun r => btw r 0 8) <;> cases a6 : y.buses.all okBus <;> cases a7 : dupT [] (y.buses.map (·.turn)) <;> simp [Ex.bind]
theorem Thin_eq (n : Nat) (y : Yard) : law_Thin n y = some (decide (y.room.length ≤ 6) && decide (y.buses.length ≤ 12)) := by
  unfold law_Thin
  by_cases h1 : y.room.length ≤ 6 <;> by_cases h2 : y.buses.length ≤ 12
  all_goals
    have e1 : decide (((y.room.length : Nat) : Int) ≤ 6) = decide (y.room.length ≤ 6) := by simp; omega
    have e2 : decide (((y.buses.length : Nat) : Int) ≤ 12) = decide (y.buses.length ≤ 12) := by simp; omega
    rw [e1, e2]
    simp [h1, h2]
end Go.Proofs.Ythcbemnflgjadaa
namespace Go.Proofs.Ythcbemnflgjadaa
open Go Go.RowKit
def busAt (y : Yard) (b : Int) : Bus := y.buses.getD b.toNat default
theorem idx_bus (y : Yard) {b : Int} (h : btw b 0 ((y.buses.length : Int) - 1) = true) : idx y.buses b = some (busAt y b) := by
  rw [btw_true] at h
  obtain ⟨k, rfl⟩ := Int.eq_ofNat_of_zero_le h.1
  rw [idxLt _ _ (by omega)]
  unfold busAt
  simp [List.getD_eq_getElem?_getD, List.getElem?_eq_getElem (show k < y.buses.length by omega)]
theorem okBus_at {y : Yard} (hv : y.buses.all okBus = true) {b : Int} (h : btw b 0 ((y.buses.length : Int) - 1) = true) : 0 ≤ (busAt y b).lo ∧ (busAt y b).lo ≤ (busAt y b).hi ∧ (busAt y b).hi ≤ 2000 ∧ 0 ≤ (busAt y b).turn ∧ (busAt y b).turn ≤ 2000 := by
  rw [btw_true] at h
  have hl : b.toNat < y.buses.length := by omega
  have : okBus (busAt y b) = true := by
    unfold busAt
    rw [List.getD_eq_getElem?_getD, List.getElem?_eq_getElem hl]
    exact List.all_eq_true.1 hv _ (List.getElem_mem hl)
  unfold okBus at this
  simp only [Bool.and_eq_true, btw_true, decide_eq_true_eq] at this
  omega
theorem lane_bus_eq (n : Nat) (y : Yard) (b : Int) (h : y.buses.length ≤ 1000) : lane_Yard_bus n y b = some (btw b 0 ((y.buses.length : Int) - 1)) := by
  unfold lane_Yard_bus
  rw [wid (by omega) (by omega), within_eq]
  rfl
theorem latest2 (n : Nat) (a b : Int) : lane_latest (n + 2) [a, b] = some (max a b) := by
  have e1 : IntKind.i64.wrap 2 = 2 := by decide
  by_cases h : a < b
  · have : max a b = b := by omega
    simp [lane_latest, slices_Max_int_int, slices_Max_int_int_l1, idx, e1, h, this]
  · have : max a b = a := by omega
    simp [lane_latest, slices_Max_int_int, slices_Max_int_int_l1, idx, e1, h, this]
theorem rng8 {b : Int} (h0 : 0 ≤ b) (h8 : b < 8) : rng 8 b = some () := by
  unfold rng; rw [if_pos ⟨h0, h8⟩]
theorem eight {b : Int} (h0 : 0 ≤ b) (h8 : b < 8) : b = 0 ∨ b = 1 ∨ b = 2 ∨ b = 3 ∨ b = 4 ∨ b = 5 ∨ b = 6 ∨ b = 7 := by omega
def someOf (f : Int → Bool) : Some := ⟨f 0, f 1, f 2, f 3, f 4, f 5, f 6, f 7⟩
def plcOf (f : Int → Int) : Places := ⟨f 0, f 1, f 2, f 3, f 4, f 5, f 6, f 7⟩
theorem some_idx (f : Int → Bool) {b : Int} (h0 : 0 ≤ b) (h8 : b < 8) : idx (someOf f).toL b = some (f b) := by
  rcases eight h0 h8 with h | h | h | h | h | h | h | h <;> subst h <;> rfl
theorem some_set (f : Int → Bool) {b : Int} (h0 : 0 ≤ b) (h8 : b < 8) (v : Bool) : Some.setI (someOf f) b v = some (someOf fun x => if x = b then v else f x) := by
  rcases eight h0 h8 with h | h | h | h | h | h | h | h <;> subst h <;> rfl
theorem plc_set (f : Int → Int) {b : Int} (h0 : 0 ≤ b) (h8 : b < 8) (v : Int) : Places.setI (plcOf f) b v = some (plcOf fun x => if x = b then v else f x) := by
  rcases eight h0 h8 with h | h | h | h | h | h | h | h <;> subst h <;> rfl
theorem someOf_congr {f g : Int → Bool} (h : ∀ b, f b = g b) : someOf f = someOf g := by rw [funext h]
theorem plcOf_congr {f g : Int → Int} (h : ∀ b, f b = g b) : plcOf f = plcOf g := by rw [funext h]
def isIn (l : List Int) (b : Int) : Bool := l.contains b
def posn (l : List Int) (b : Int) : Int := if l.contains b then (l.idxOf b : Int) else 0
theorem isIn_snoc (l : List Int) (c b : Int) : isIn (l ++ [c]) b = if b = c then true else isIn l b := by
  unfold isIn
  by_cases h : b = c
  · subst h; simp
  · simp [h]
theorem posn_snoc (l : List Int) (c : Int) (hc : l.contains c = false) (b : Int) : posn (l ++ [c]) b = if b = c then (l.length : Int) else posn l b := by
  unfold posn
  by_cases h : b = c
  · subst h
    have hm : b ∉ l := by simpa using hc
    simp [List.idxOf_append, hm]
  · by_cases hb : b ∈ l
    · simp [h, hb, List.idxOf_append]
    · simp [h, hb]
def maxLo (y : Yard) (l : List Int) : Int := l.foldl (fun m b => max m (busAt y b).lo) 0
theorem maxLo_snoc (y : Yard) (l : List Int) (b : Int) : maxLo y (l ++ [b]) = max (maxLo y l) (busAt y b).lo := by
  unfold maxLo; rw [List.foldl_append]; rfl
theorem lt_maxLo (y : Yard) (x : Int) (hx : 0 ≤ x) (l : List Int) : decide (x < maxLo y l) = l.any fun k => decide (x < (busAt y k).lo) := by
  have key : ∀ (l : List Int) (m : Int), decide (x < l.foldl (fun m b => max m (busAt y b).lo) m) = (decide (x < m) || l.any fun k => decide (x < (busAt y k).lo)) := by
    intro l
    induction l with
    | nil => intro m; exact (Bool.or_false _).symm
    | cons a r ih =>
      intro m
      rw [List.foldl_cons, ih, List.any_cons, ← Bool.or_assoc]
      congr 1
      by_cases h1 : x < m <;> by_cases h2 : x < (busAt y a).lo <;> simp [h1, h2] <;> omega
  unfold maxLo
  rw [key]
  simp [Int.not_lt.2 hx]
def stepP (y : Yard) (pre : List Int) (b : Int) : Bool := btw b 0 ((y.buses.length : Int) - 1) && !(pre.contains b || pre.any fun k => decide ((busAt y b).hi < (busAt y k).lo))
def possR (y : Yard) : List Int → List Int → Bool
  | _, [] => true
  | pre, b :: r => stepP y pre b && possR y (pre ++ [b]) r
def possB (y : Yard) (order : List Int) : Bool := decide (order.length = y.buses.length) && possR y [] order
theorem possible_l1_eq (y : Yard) (hb : y.buses.length ≤ 8) (hv : y.buses.all okBus = true) (order : List Int) (ho : order.length ≤ 1000) : ∀ (n i : Nat), order.length + 2 < n + i → i ≤ order.length →
    ∃ r, lane_Yard_possible_l1 n y order (i : Int) (maxLo y (order.take i)) (plcOf (posn (order.take i))) (someOf (isIn (order.take i))) = some r ∧
      (if possR y (order.take i) (order.drop i) then r = Ex.go (plcOf (posn order), someOf (isIn order)) else ∃ x, r = Ex.ret (x, false))
  | 0, i, h, hi => by omega
  | n + 1, i, h, hi => by
    rw [lane_Yard_possible_l1, lt_len]
    by_cases hx : i < order.length
    · obtain ⟨n, rfl⟩ : ∃ m, n = m + 2 := ⟨n - 2, by omega⟩
      simp only [hx, decide_true, cond_true, idxLt _ _ hx, Option.bind_some, lane_bus_eq _ y _ (by omega)]
      rw [drop_get hx, possR]
      unfold stepP
      cases h1 : btw order[i] 0 ((y.buses.length : Int) - 1) with
      | false => exact ⟨_, rfl, by simp⟩
      | true =>
        have h1' := btw_true.1 h1
        have h8 : order[i] < 8 := by omega
        simp only [Bool.not_true, cond_false, rng8 h1'.1 h8, Option.bind_some, some_idx _ h1'.1 h8, idx_bus y h1]
        cases h2 : isIn (order.take i) order[i] with
        | true =>
          have h2' : (order.take i).contains order[i] = true := h2
          exact ⟨_, rfl, by rw [h2']; simp⟩
        | false =>
          have h2' : (order.take i).contains order[i] = false := h2
          simp only [cond_false, Option.bind_some, lt_maxLo y _ (show 0 ≤ (busAt y order[i]).hi by have := okBus_at hv h1; omega)]
          cases h3 : (order.take i).any fun k => decide ((busAt y order[i]).hi < (busAt y k).lo) with
          | true => exact ⟨_, rfl, by rw [h2']; simp⟩
          | false =>
            simp only [cond_false, some_set _ h1'.1 h8, Option.bind_some, latest2, plc_set _ h1'.1 h8]
            rw [wnat i (by omega), ← maxLo_snoc]
            have e1 : order.take i ++ [order[i]] = order.take (i + 1) := (List.take_succ_eq_append_getElem hx).symm
            have e2 : (someOf fun x => if x = order[i] then true else isIn (order.take i) x) = someOf (isIn (order.take (i + 1))) := someOf_congr fun b => by rw [← e1, isIn_snoc]
            have e3 : (plcOf fun x => if x = order[i] then (i : Int) else posn (order.take i) x) = plcOf (posn (order.take (i + 1))) := plcOf_congr fun b => by
              rw [← e1, posn_snoc _ _ h2', List.length_take, Nat.min_eq_left (Nat.le_of_lt hx)]
            rw [e1, e2, e3, h2']
            simp only [Bool.or_self, Bool.not_false, Bool.and_self, Bool.true_and]
            exact possible_l1_eq y hb hv order ho (n + 2) (i + 1) (by omega) (by omega)
    · have : i = order.length := by omega
      subst this
      simp [possR]
theorem zeroP : (Places.mk 0 0 0 0 0 0 0 0) = plcOf (posn []) := rfl
theorem zeroS : (Some.mk false false false false false false false false) = someOf (isIn []) := rfl
theorem possible_eq (n : Nat) (y : Yard) (hb : y.buses.length ≤ 8) (hv : y.buses.all okBus = true) (order : List Int) (ho : order.length ≤ 1000) (hn : order.length + 2 < n) :
    ∃ x, lane_Yard_possible n y order = some (x, possB y order) ∧ (possB y order = true → x = plcOf (posn order)) := by
  unfold lane_Yard_possible possB
  by_cases hl : order.length = y.buses.length
  · obtain ⟨r, h1, h2⟩ := possible_l1_eq y hb hv order ho n 0 (by omega) (by omega)
    rw [show ((0 : Nat) : Int) = 0 from rfl] at h1
    simp only [List.take_zero, List.drop_zero] at h1 h2
    have e0 : maxLo y [] = 0 := rfl
    rw [e0] at h1
    rw [zeroP, zeroS, h1]
    rw [show ((order.length : Int) != (y.buses.length : Int)) = false by simp [hl]]
    simp only [cond_false, Option.bind_some, hl, decide_true, Bool.true_and]
    split at h2
    · rename_i hp
      subst h2
      exact ⟨_, by rw [hp]; rfl, fun _ => rfl⟩
    · rename_i hp
      obtain ⟨x, rfl⟩ := h2
      exact ⟨x, by simp [Ex.bind, hp], fun h => absurd h hp⟩
  · rw [show ((order.length : Int) != (y.buses.length : Int)) = true by simp; omega]
    simp only [cond_true]
    exact ⟨plcOf (posn []), by rw [zeroP]; simp [hl], fun h => by simp [hl] at h⟩
theorem has_l1_eq (l : List Int) (x : Int) (hl : l.length ≤ 1000) : ∀ (n i : Nat), l.length < n + i → i ≤ l.length → ref_has_l1 n l x (i : Int) = some (if (l.drop i).contains x then Ex.ret true else Ex.go ())
  | 0, i, h, hi => by omega
  | n + 1, i, h, hi => by
    rw [ref_has_l1, lt_len]
    by_cases hx : i < l.length
    · simp only [hx, decide_true, cond_true, idxLt _ _ hx, Option.bind_some]
      rw [wnat i (by omega), drop_get hx, List.contains_cons, has_l1_eq l x hl n (i + 1) (by omega) (by omega)]
      cases hv : (l[i] == x) with
      | true =>
        have : (x == l[i]) = true := by rw [beq_iff_eq] at hv ⊢; exact hv.symm
        simp [this]
      | false =>
        have : (x == l[i]) = false := by
          cases hq : (x == l[i]) with
          | false => rfl
          | true => rw [beq_iff_eq] at hq; rw [hq] at hv; simp at hv
        simp [this]
    · have : i = l.length := by omega
      subst this
      simp
theorem has_eq (n : Nat) (l : List Int) (x : Int) (hl : l.length ≤ 1000) (hn : l.length < n) : ref_has n l x = some (l.contains x) := by
  unfold ref_has
  have e1 := has_l1_eq l x hl n 0 (by omega) (by omega)
  rw [show ((0 : Nat) : Int) = 0 from rfl, List.drop_zero] at e1
  rw [e1]
  cases l.contains x <;> rfl
theorem Possible_l2_eq (y : Yard) (order : List Int) (i : Nat) (hi : i < order.length) (ho : order.length ≤ 1000) (hr : ∀ k, k ≤ i → btw (order.getD k 0) 0 ((y.buses.length : Int) - 1) = true) : ∀ (n k : Nat), i < n + k → k ≤ i →
    ref_Possible_l2 n y order (i : Int) (k : Int) = some (if ((order.take i).drop k).any (fun j => decide ((busAt y order[i]).hi < (busAt y j).lo)) then Ex.ret false else Ex.go ())
  | 0, k, h, hk => by omega
  | n + 1, k, h, hk => by
    rw [ref_Possible_l2]
    by_cases hx : k < i
    · have hx' : k < (order.take i).length := by rw [List.length_take]; omega
      have hko : k < order.length := by omega
      have b1 : btw order[k] 0 ((y.buses.length : Int) - 1) = true := by
        have := hr k (by omega)
        rwa [List.getD_eq_getElem?_getD, List.getElem?_eq_getElem hko] at this
      have b2 : btw order[i] 0 ((y.buses.length : Int) - 1) = true := by
        have := hr i (by omega)
        rwa [List.getD_eq_getElem?_getD, List.getElem?_eq_getElem hi] at this
      simp only [show decide ((k : Int) < (i : Int)) = true by simp; omega, cond_true, idxLt _ _ hko, idxLt _ _ hi, Option.bind_some, idx_bus y b1, idx_bus y b2]
      rw [wnat k (by omega), Possible_l2_eq y order i hi ho hr n (k + 1) (by omega) (by omega), drop_get hx', List.any_cons, List.getElem_take]
      rw [show decide ((busAt y order[k]).lo > (busAt y order[i]).hi) = decide ((busAt y order[i]).hi < (busAt y order[k]).lo) from rfl]
      cases decide ((busAt y order[i]).hi < (busAt y order[k]).lo) <;> simp
    · have : k = i := by omega
      subst this
      simp
theorem subToN {α : Type} (xs : List α) (i : Nat) (h : i ≤ xs.length) : subTo xs (i : Int) = some (xs.take i) := by
  unfold subTo
  simp [h]
theorem Possible_l1_eq (y : Yard) (hb : y.buses.length ≤ 1000) (order : List Int) (ho : order.length ≤ 400) : ∀ (n i : Nat), 2 * order.length + 2 < n + i → i ≤ order.length → (∀ k, k < i → btw (order.getD k 0) 0 ((y.buses.length : Int) - 1) = true) →
    ref_Possible_l1 n y order (i : Int) = some (if possR y (order.take i) (order.drop i) then Ex.go () else Ex.ret false)
  | 0, i, h, hi, _ => by omega
  | n + 1, i, h, hi, hp => by
    rw [ref_Possible_l1, lt_len]
    by_cases hx : i < order.length
    · simp only [hx, decide_true, cond_true, idxLt _ _ hx, Option.bind_some, ref_In_eq]
      rw [wid (x := (y.buses.length : Int) - 1) (by omega) (by omega), drop_get hx, possR]
      unfold stepP
      cases h1 : btw order[i] 0 ((y.buses.length : Int) - 1) with
      | false => simp
      | true =>
        have hr : ∀ k, k ≤ i → btw (order.getD k 0) 0 ((y.buses.length : Int) - 1) = true := fun k hk => by
          rcases Nat.lt_or_ge k i with h' | h'
          · exact hp k h'
          · obtain rfl : k = i := by omega
            rw [List.getD_eq_getElem?_getD, List.getElem?_eq_getElem hx]
            exact h1
        simp only [Bool.not_true, cond_false, subToN _ _ (Nat.le_of_lt hx), Option.bind_some, has_eq n (order.take i) _ (by simp; omega) (by simp; omega)]
        have e1 := Possible_l2_eq y order i hx (by omega) hr n 0 (by omega) (by omega)
        rw [show ((0 : Nat) : Int) = 0 from rfl, List.drop_zero] at e1
        rw [e1]
        cases h2 : (order.take i).contains order[i] with
        | true => simp
        | false =>
          cases h3 : (order.take i).any fun j => decide ((busAt y order[i]).hi < (busAt y j).lo) with
          | true => simp [Ex.bind]
          | false =>
            have e2 : order.take i ++ [order[i]] = order.take (i + 1) := (List.take_succ_eq_append_getElem hx).symm
            simp only [cond_false, Option.bind_some, Bool.false_eq_true, if_false, Ex.bind, Bool.or_self, Bool.not_false, Bool.and_self, Bool.true_and]
            rw [wnat i (by omega), e2]
            exact Possible_l1_eq y hb order ho n (i + 1) (by omega) (by omega) fun k hk => hr k (by omega)
    · have : i = order.length := by omega
      subst this
      simp [possR]
theorem Possible_eq (n : Nat) (y : Yard) (hb : y.buses.length ≤ 1000) (order : List Int) (ho : order.length ≤ 400) (hn : 2 * order.length + 2 < n) : ref_Possible n y order = some (possB y order) := by
  unfold ref_Possible possB
  by_cases hl : order.length = y.buses.length
  · have e1 := Possible_l1_eq y hb order ho n 0 (by omega) (by omega) (fun k hk => absurd hk (Nat.not_lt_zero _))
    rw [show ((0 : Nat) : Int) = 0 from rfl, List.take_zero, List.drop_zero] at e1
    rw [e1, show ((order.length : Int) != (y.buses.length : Int)) = false by simp [hl]]
    cases possR y [] order <;> simp [Ex.bind, hl]
  · rw [show ((order.length : Int) != (y.buses.length : Int)) = true by simp; omega]
    simp [hl]
theorem valid_of {y : Yard} (h : faultOf y = 0) : y.room.length ≤ 3 ∧ 0 < y.room.length ∧ y.buses.length ≤ 8 ∧ btw y.broken 0 2 = true ∧ (y.room.all fun r => btw r 0 8) = true ∧ y.buses.all okBus = true ∧ dupT [] (y.buses.map (·.turn)) = false := by
  unfold faultOf at h
  split at h
  · omega
  · split at h
    · omega
    · rename_i h1 h2
      simp only [not_or] at h2
      simp only [Bool.not_eq_false, Bool.not_eq_true] at h2
      exact ⟨by omega, by omega, by omega, h2.2.1, h2.2.2.1, h2.2.2.2.1, h2.2.2.2.2⟩
theorem laneOrders_law (y : Yard) (order : List Int) : law_LaneOrders 200 y order = some true := by
  unfold law_LaneOrders
  rw [Thin_eq]
  simp only [Option.bind_some, awake_true]
  by_cases h1 : y.room.length ≤ 6
  · by_cases h2 : y.buses.length ≤ 12
    · by_cases h3 : order.length ≤ 15
      · have e3 : decide ((order.length : Int) > 15) = false := by simp; omega
        simp only [h1, h2, decide_true, Bool.and_self, Bool.not_true, cond_false, e3, Option.bind_some]
        unfold law_fault lane_CheckYard lane_ProveOrder
        rw [Fault_eq 200 y (by omega) (by omega) (by omega) (by omega)]
        simp only [Option.bind_some]
        rw [law_Yard_eq 200 y (by omega) (by omega) (by omega), law_list_eq 200 order (by omega)]
        simp only [Option.bind_some]
        rw [check_eq 200 y (by omega) (by omega) (by omega) (by omega)]
        simp only [Option.bind_some, beq_self_eq_true, cond_true]
        by_cases hf : faultOf y = 0
        · obtain ⟨v1, v0, v2, v3, v4, v5, v6⟩ := valid_of hf
          obtain ⟨x, p1, p2⟩ := possible_eq 200 y v2 v5 order (by omega) (by omega)
          rw [hf, p1, Possible_eq 200 y (by omega) order (by omega) (by omega)]
          simp
        · have hn : (faultOf y != 0) = true := by simp [hf]
          have hn2 : (faultOf y == 0) = false := by simp [hf]
          simp [hn, hn2]
      · have e3 : decide ((order.length : Int) > 15) = true := by simp; omega
        simp [h1, h2, e3]
    · simp [h2]
  · simp [h1]
end Go.Proofs.Ythcbemnflgjadaa
