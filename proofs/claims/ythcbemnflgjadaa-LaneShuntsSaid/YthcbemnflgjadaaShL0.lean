/- The plain law. -/
import Derived.Test.YthcbemnflgjadaaShP0
import Derived.KernelRfl
set_option linter.all false
namespace Go.Proofs.Ythcbemnflgjadaa
open Go Go.RowKit
theorem wid {x : Int} (h0 : -9223372036854775808 ≤ x) (h1 : x ≤ 9223372036854775807) : IntKind.i64.wrap x = x := by
  simp [IntKind.wrap, IntKind.bits, IntKind.signed]; omega
theorem wnat (i : Nat) (h : i < 1000000000000) : IntKind.i64.wrap ((i : Int) + 1) = ((i + 1 : Nat) : Int) := by
  rw [wid (by omega) (by omega)]; omega
theorem idxN {α : Type} (xs : List α) (i : Nat) : idx xs (i : Int) = xs[i]? := rfl
theorem idxLt {α : Type} (xs : List α) (i : Nat) (h : i < xs.length) : idx xs (i : Int) = some xs[i] := by rw [idxN, List.getElem?_eq_getElem h]
theorem appOk {α : Type} (xs ys : List α) (h : xs.length + ys.length ≤ 1000000000) : app xs ys = some (xs ++ ys) := by
  unfold app; rw [if_pos (by simpa using h)]
theorem updN {α : Type} (xs : List α) (i : Nat) (y : α) (h : i < xs.length) : upd xs (i : Int) y = some (xs.set i y) := by
  show (if i < xs.length then some (xs.set i y) else none) = _
  rw [if_pos h]
theorem mkN {α : Type} (n : Nat) (x : α) (h : n ≤ 1000000000) : mk (n : Int) x = some (List.replicate n x) := by
  unfold mk; rw [if_pos (by omega)]; rfl
theorem drop_get {α : Type} {xs : List α} {i : Nat} (h : i < xs.length) : xs.drop i = xs[i] :: xs.drop (i + 1) := List.drop_eq_getElem_cons h
theorem lt_len {α : Type} (xs : List α) (i : Nat) : decide ((i : Int) < ((xs.length : Nat) : Int)) = decide (i < xs.length) := by
  by_cases h : i < xs.length <;> simp [h]
theorem look?_put {K α : Type} [DecidableEq K] (k j : K) (x : α) : ∀ l : List (K × α), look? (put? l k x) j = if k = j then some x else look? l j
  | [] => by simp [put?, look?]
  | p :: r => by
    unfold put?
    by_cases h : p.1 = k
    · rw [if_pos h]
      simp only [look?]
      by_cases hj : k = j
      · simp [hj]
      · simp [hj, h]
    · rw [if_neg h, look?, look?, look?_put k j x r]
      by_cases hj : p.1 = j
      · have : k ≠ j := fun e => h (by rw [hj, e])
        simp [hj, this]
      · simp [hj]
theorem bindV {α β : Type} {x : Option α} {v : α} {f : α → Option β} (h : x = some v) : x.bind f = f v := by rw [h]; rfl
theorem sortI_sorted (l : List Int) : (sortI l).Pairwise (· ≤ ·) := by
  have := List.pairwise_mergeSort (le := fun x y : Int => decide (x ≤ y)) (fun a b c h1 h2 => by simp at *; omega) (fun a b => by simp; omega) l
  exact this.imp fun h => by simpa using h
theorem sortI_is {l l' : List Int} (hp : l.Perm l') (hs : l'.Pairwise (· ≤ ·)) : sortI l = l' :=
  List.Perm.eq_of_pairwise (le := (· ≤ ·)) (fun _ _ _ _ h1 h2 => Int.le_antisymm h1 h2) (sortI_sorted l) hs ((List.mergeSort_perm l _).trans hp)
theorem sortO_is {l l' : List Int} (hp : l.Perm l') (hs : l'.Pairwise (· ≤ ·)) (hl : l.length ≤ 1000000) : sortO l = some l' := by
  unfold sortO
  rw [if_pos (by omega), sortI_is hp hs]
def nightY : Yard := ⟨[2, 2], [⟨100, 120, 40⟩, ⟨110, 130, 20⟩, ⟨125, 140, 30⟩, ⟨150, 160, 10⟩], 0⟩
def nightN : Night := ⟨nightY, [0, 0, 1, 1], ⟨0, 1, 2, 3, 0, 0, 0, 0⟩, ⟨false, false, false, false, false, false, false, false⟩⟩
theorem awakeS : lane_Shunts 700 nightY [0, 0, 1, 1] [0, 1, 2, 3] [] = some ([0, 2], 0) := by
  unfold lane_Shunts
  refine (bindV (v := (nightN, 0)) (by kernel_rfl)).trans ?_
  show ((lane_night_morning 700 nightN).bind fun x25 => (slices_Concat_int_int 700 x25).bind fun x26 => (sortO x26).bind fun u_80 => some (u_80, 0)) = _
  refine (bindV (v := [[2], [0], [], []]) (by kernel_rfl)).trans ?_
  refine (bindV (v := [2, 0]) (by kernel_rfl)).trans ?_
  exact bindV (sortO_is (by decide) (by decide) (by decide))
theorem awake_true : law_awake 700 = some true := by
  unfold law_awake
  refine (bindV (v := nightY) rfl).trans ?_
  refine (bindV awakeS).trans ?_
  kernel_rfl
theorem law_list_eq (n : Nat) (l : List Int) (h : l.length ≤ 1000) : law_list n l = some l := by
  unfold law_list
  simp [appOk [] l (by simp; omega)]
theorem clone_eq (n : Nat) (l : List Int) (h : l.length ≤ 1000) : slices_Clone_int_int n l = some l := by
  unfold slices_Clone_int_int
  simp [appOk [] l (by simp; omega)]
theorem law_Yard_l1_eq (y : Yard) (hb : y.buses.length ≤ 1000) : ∀ (n i : Nat) (acc : List Bus), y.buses.length < n + i → i ≤ y.buses.length → acc.length = i → law_Yard_l1 n y acc (i : Int) = some (acc ++ y.buses.drop i)
  | 0, i, acc, h, hi, _ => by omega
  | n + 1, i, acc, h, hi, ha => by
    rw [law_Yard_l1, lt_len]
    by_cases hx : i < y.buses.length
    · simp only [hx, decide_true, cond_true, idxLt _ _ hx, Option.bind_some]
      rw [appOk _ _ (by simp; omega)]
      simp only [Option.bind_some]
      rw [wnat i (by omega), law_Yard_l1_eq y hb n (i + 1) _ (by omega) (by omega) (by simp; omega), drop_get hx, List.append_assoc]
      rfl
    · have : i = y.buses.length := by omega
      simp [this]
theorem law_Yard_eq (n : Nat) (y : Yard) (hr : y.room.length ≤ 1000) (hb : y.buses.length ≤ 1000) (hn : y.buses.length < n) : law_Yard n y = some y := by
  unfold law_Yard
  have e1 := law_Yard_l1_eq y hb n 0 [] (by omega) (by omega) rfl
  rw [show ((0 : Nat) : Int) = 0 from rfl] at e1
  rw [law_list_eq n _ hr, Option.bind_some, e1]
  simp
def btw (x lo hi : Int) : Bool := decide (lo ≤ x) && decide (x ≤ hi)
theorem btw_true {x lo hi : Int} : btw x lo hi = true ↔ lo ≤ x ∧ x ≤ hi := by simp [btw]
theorem ref_In_eq (n : Nat) (x lo hi : Int) : ref_In n x lo hi = some (btw x lo hi) := by
  unfold ref_In btw
  rw [show decide (x ≥ lo) = decide (lo ≤ x) from rfl]
  cases decide (lo ≤ x) <;> rfl
theorem within_eq (n : Nat) (x lo hi : Int) : lane_within n x lo hi = some (btw x lo hi) := by
  unfold lane_within btw
  cases decide (lo ≤ x) <;> rfl
def okBus (b : Bus) : Bool := btw b.lo 0 b.hi && (decide (b.hi ≤ 2000) && btw b.turn 0 2000)
theorem valid_eq (n : Nat) (b : Bus) : lane_Bus_valid n b = some (okBus b) := by
  unfold lane_Bus_valid okBus
  simp only [within_eq, Option.bind_some]
  cases btw b.lo 0 b.hi <;> cases decide (b.hi ≤ 2000) <;> rfl
theorem indexInt_eq (s : List Int) (f : Int → Option Bool) (g : Int → Bool) (hf : ∀ c ∈ s, f c = some (g c)) (hs : s.length ≤ 1000000) : ∀ (n i : Nat), s.length < n + i → i ≤ s.length →
    ∃ r, slices_IndexFunc_int_int_l1 n s f (i : Int) = some r ∧ (if (s.drop i).any g then ∃ k : Int, 0 ≤ k ∧ r = Ex.ret k else r = Ex.go ())
  | 0, i, h, hi => by omega
  | n + 1, i, h, hi => by
    rw [slices_IndexFunc_int_int_l1, lt_len]
    by_cases hx : i < s.length
    · simp only [hx, decide_true, cond_true, idxLt _ _ hx, Option.bind_some, hf _ (List.getElem_mem hx)]
      rw [wnat i (by omega), drop_get hx, List.any_cons]
      cases hv : g s[i] with
      | true => exact ⟨Ex.ret (i : Int), rfl, ⟨i, by omega, rfl⟩⟩
      | false =>
        obtain ⟨r, h1, h2⟩ := indexInt_eq s f g hf hs n (i + 1) (by omega) (by omega)
        exact ⟨r, h1, by rw [Bool.false_or]; exact h2⟩
    · have : i = s.length := by omega
      subst this
      exact ⟨Ex.go (), by simp, by simp⟩
theorem all_int_eq (n : Nat) (l : List Int) (f : Int → Option Bool) (g : Int → Bool) (hf : ∀ c ∈ l, f c = some (g c)) (h : l.length < n) (hs : l.length ≤ 1000000) : lane_all_int n l f = some (l.all g) := by
  unfold lane_all_int slices_ContainsFunc_int_int slices_IndexFunc_int_int
  obtain ⟨r, h1, h2⟩ := indexInt_eq l (fun y0 => lane_all_int_1 n y0 f) (fun c => !g c) (fun c hc => by unfold lane_all_int_1; rw [hf c hc]; rfl) hs n 0 (by omega) (by omega)
  rw [show ((0 : Nat) : Int) = 0 from rfl] at h1
  rw [h1]
  simp only [List.drop_zero] at h2
  have hn : l.all g = !l.any fun c => !g c := by
    rw [List.not_any_eq_all_not]; simp
  rw [hn]
  split at h2
  · rename_i hm
    obtain ⟨k, hk, rfl⟩ := h2
    simp [Ex.bind, hm, hk]
  · rename_i hm
    subst h2
    simp [Ex.bind, hm]
theorem indexBus_eq (s : List Bus) (f : Bus → Option Bool) (g : Bus → Bool) (hf : ∀ c ∈ s, f c = some (g c)) (hs : s.length ≤ 1000000) : ∀ (n i : Nat), s.length < n + i → i ≤ s.length →
    ∃ r, slices_IndexFunc_lane_Bus_lane_Bus_l1 n s f (i : Int) = some r ∧ (if (s.drop i).any g then ∃ k : Int, 0 ≤ k ∧ r = Ex.ret k else r = Ex.go ())
  | 0, i, h, hi => by omega
  | n + 1, i, h, hi => by
    rw [slices_IndexFunc_lane_Bus_lane_Bus_l1, lt_len]
    by_cases hx : i < s.length
    · simp only [hx, decide_true, cond_true, idxLt _ _ hx, Option.bind_some, hf _ (List.getElem_mem hx)]
      rw [wnat i (by omega), drop_get hx, List.any_cons]
      cases hv : g s[i] with
      | true => exact ⟨Ex.ret (i : Int), rfl, ⟨i, by omega, rfl⟩⟩
      | false =>
        obtain ⟨r, h1, h2⟩ := indexBus_eq s f g hf hs n (i + 1) (by omega) (by omega)
        exact ⟨r, h1, by rw [Bool.false_or]; exact h2⟩
    · have : i = s.length := by omega
      subst this
      exact ⟨Ex.go (), by simp, by simp⟩
theorem all_Bus_eq (n : Nat) (l : List Bus) (f : Bus → Option Bool) (g : Bus → Bool) (hf : ∀ c ∈ l, f c = some (g c)) (h : l.length < n) (hs : l.length ≤ 1000000) : lane_all_lane_Bus n l f = some (l.all g) := by
  unfold lane_all_lane_Bus slices_ContainsFunc_lane_Bus_lane_Bus slices_IndexFunc_lane_Bus_lane_Bus
  obtain ⟨r, h1, h2⟩ := indexBus_eq l (fun y0 => lane_all_lane_Bus_1 n y0 f) (fun c => !g c) (fun c hc => by unfold lane_all_lane_Bus_1; rw [hf c hc]; rfl) hs n 0 (by omega) (by omega)
  rw [show ((0 : Nat) : Int) = 0 from rfl] at h1
  rw [h1]
  simp only [List.drop_zero] at h2
  have hn : l.all g = !l.any fun c => !g c := by
    rw [List.not_any_eq_all_not]; simp
  rw [hn]
  split at h2
  · rename_i hm
    obtain ⟨k, hk, rfl⟩ := h2
    simp [Ex.bind, hm, hk]
  · rename_i hm
    subst h2
    simp [Ex.bind, hm]
def dupT : List Int → List Int → Bool
  | _, [] => false
  | s, t :: r => s.contains t || dupT (s ++ [t]) r
theorem check_l1_eq (y : Yard) (hb : y.buses.length ≤ 1000) : ∀ (n i : Nat) (m : List (Int × Bool)) (s : List Int), y.buses.length < n + i → i ≤ y.buses.length → (∀ t, (lookD m t false).1 = s.contains t) →
    ∃ r, lane_Yard_check_l1 n y (i : Int) m = some r ∧ (if dupT s ((y.buses.drop i).map (·.turn)) then r = Ex.ret 1 else ∃ m', r = Ex.go m')
  | 0, i, m, s, h, hi, _ => by omega
  | n + 1, i, m, s, h, hi, hm => by
    rw [lane_Yard_check_l1, lt_len]
    by_cases hx : i < y.buses.length
    · simp only [hx, decide_true, cond_true, idxLt _ _ hx, Option.bind_some, hm]
      rw [wnat i (by omega), drop_get hx, List.map_cons, dupT]
      cases hv : s.contains y.buses[i].turn with
      | true => exact ⟨_, rfl, rfl⟩
      | false =>
        simp only [cond_false, Bool.false_or]
        refine check_l1_eq y hb n (i + 1) _ (s ++ [y.buses[i].turn]) (by omega) (by omega) fun t => ?_
        have := hm t
        unfold lookD at this ⊢
        rw [look?_put]
        by_cases ht : y.buses[i].turn = t
        · simp [ht]
        · rw [if_neg ht, this]
          simp [Ne.symm ht]
    · have : i = y.buses.length := by omega
      subst this
      exact ⟨Ex.go m, by simp, by simp [dupT]⟩
def faultOf (y : Yard) : Int :=
  if 3 < y.room.length ∨ 8 < y.buses.length then 3
  else if y.room.length = 0 ∨ btw y.broken 0 2 = false ∨ (y.room.all fun r => btw r 0 8) = false ∨ y.buses.all okBus = false ∨ dupT [] (y.buses.map (·.turn)) = true then 1 else 0
theorem check_eq (n : Nat) (y : Yard) (hr : y.room.length ≤ 1000) (hb : y.buses.length ≤ 1000) (h1 : y.room.length < n) (h2 : y.buses.length < n) : lane_Yard_check n y = some (faultOf y) := by
  unfold lane_Yard_check faultOf
  have e1 : lane_all_int n y.room (fun y0 => lane_Yard_check_1 n y0) = some (y.room.all fun r => btw r 0 8) := all_int_eq n _ _ _ (fun c _ => by unfold lane_Yard_check_1; rw [within_eq]; rfl) h1 (by omega)
  have e2 : lane_all_lane_Bus n y.buses (fun y0 => lane_Bus_valid n y0) = some (y.buses.all okBus) := all_Bus_eq n _ _ _ (fun c _ => valid_eq n c) h2 (by omega)
  obtain ⟨r, e3, e4⟩ := check_l1_eq y hb n 0 [] [] (by omega) (by omega) (fun t => by simp [lookD, look?])
  rw [show ((0 : Nat) : Int) = 0 from rfl] at e3
  rw [List.drop_zero] at e4
  have c1 : decide (((y.room.length : Nat) : Int) > 3) = decide (3 < y.room.length) := by by_cases h : 3 < y.room.length <;> simp [h] <;> omega
  have c2 : decide (((y.buses.length : Nat) : Int) > 8) = decide (8 < y.buses.length) := by by_cases h : 8 < y.buses.length <;> simp [h] <;> omega
  have c3 : (((y.room.length : Nat) : Int) == 0) = decide (y.room.length = 0) := by by_cases h : y.room.length = 0 <;> simp [h]
  rw [c1, c2, c3]
  by_cases a1 : 3 < y.room.length
  · simp [a1]
  by_cases a2 : 8 < y.buses.length
  · simp [a1, a2]
  simp only [a1, a2, decide_false, cond_false, Option.bind_some, or_self, if_false]
  by_cases a3 : y.room.length = 0
  · simp [a3]
  simp only [a3, decide_false, cond_false, within_eq, Option.bind_some, false_or, e1, e2]
  cases a4 : btw y.broken 0 2 with
  | false => simp
  | true =>
  cases a5 : (y.room.all fun r => btw r 0 8) with
  | false => simp
  | true =>
  cases a6 : y.buses.all okBus with
  | false => simp
  | true =>
  simp only [Bool.not_true, cond_false, Option.bind_some, e3]
  cases a7 : dupT [] (y.buses.map (·.turn)) with
  | true =>
    rw [a7] at e4
    simp only [if_true] at e4
    subst e4
    simp [Ex.bind]
  | false =>
    rw [a7] at e4
    obtain ⟨m', rfl⟩ := e4
    simp [Ex.bind]
theorem Fault_l1_eq (y : Yard) (hb : y.room.length ≤ 1000) : ∀ (n i : Nat), y.room.length < n + i → i ≤ y.room.length →
    ref_Fault_l1 n y (i : Int) = some (if (y.room.drop i).all (fun r => btw r 0 8) then Ex.go () else Ex.ret 1)
  | 0, i, h, hi => by omega
  | n + 1, i, h, hi => by
    rw [ref_Fault_l1, lt_len]
    by_cases hx : i < y.room.length
    · simp only [hx, decide_true, cond_true, idxLt _ _ hx, Option.bind_some, ref_In_eq]
      rw [wnat i (by omega), drop_get hx, List.all_cons]
      cases hv : btw y.room[i] 0 8 with
      | false => simp
      | true => simpa using Fault_l1_eq y hb n (i + 1) (by omega) (by omega)
    · have : i = y.room.length := by omega
      subst this
      simp
theorem Fault_l3_eq (y : Yard) (hb : y.buses.length ≤ 1000) (k : Nat) (b : Bus) (hk : k ≤ y.buses.length) : ∀ (n i : Nat), k < n + i → i ≤ k →
    ref_Fault_l3 n y (k : Int) b (i : Int) = some (if (((y.buses.take k).drop i).map (·.turn)).contains b.turn then Ex.ret 1 else Ex.go ())
  | 0, i, h, hi => by omega
  | n + 1, i, h, hi => by
    rw [ref_Fault_l3]
    by_cases hx : i < k
    · have hx' : i < (y.buses.take k).length := by rw [List.length_take]; omega
      have hl : i < y.buses.length := by omega
      simp only [show decide ((i : Int) < (k : Int)) = true by simp; omega, cond_true, idxLt _ _ hl, Option.bind_some]
      rw [wnat i (by omega), drop_get hx', List.map_cons, List.contains_cons, List.getElem_take]
      cases hv : (y.buses[i].turn == b.turn) with
      | true =>
        have : (b.turn == y.buses[i].turn) = true := by rw [beq_iff_eq] at hv ⊢; exact hv.symm
        simp [this]
      | false =>
        have : (b.turn == y.buses[i].turn) = false := by
          cases hq : (b.turn == y.buses[i].turn) with
          | false => rfl
          | true => rw [beq_iff_eq] at hq; rw [hq] at hv; simp at hv
        rw [this, Bool.false_or]
        simpa using Fault_l3_eq y hb k b hk n (i + 1) (by omega) (by omega)
    · have : i = k := by omega
      subst this
      simp
theorem Fault_l2_eq (y : Yard) (hb : y.buses.length ≤ 500) : ∀ (n i : Nat), 2 * y.buses.length < n + i → i ≤ y.buses.length →
    ref_Fault_l2 n y (i : Int) = some (if (y.buses.drop i).all okBus = false ∨ dupT ((y.buses.take i).map (·.turn)) ((y.buses.drop i).map (·.turn)) = true then Ex.ret 1 else Ex.go ())
  | 0, i, h, hi => by omega
  | n + 1, i, h, hi => by
    rw [ref_Fault_l2, lt_len]
    by_cases hx : i < y.buses.length
    · simp only [hx, decide_true, cond_true, idxLt _ _ hx, Option.bind_some, ref_In_eq]
      have e1 := Fault_l3_eq y (by omega) i y.buses[i] (by omega) n 0 (by omega) (by omega)
      rw [show ((0 : Nat) : Int) = 0 from rfl] at e1
      have e2 := Fault_l2_eq y hb n (i + 1) (by omega) (by omega)
      rw [wnat i (by omega), e1, e2, drop_get hx, List.all_cons, List.map_cons, dupT, List.drop_zero]
      have e3 : (y.buses.take (i + 1)).map (·.turn) = (y.buses.take i).map (·.turn) ++ [y.buses[i].turn] := by
        rw [List.take_succ_eq_append_getElem hx, List.map_append]; rfl
      rw [e3]
      have e4 : decide (y.buses[i].hi > 2000) = !decide (y.buses[i].hi ≤ 2000) := by
        by_cases hq : y.buses[i].hi ≤ 2000
        · simp [hq, Int.not_lt.2 hq]
        · simp [hq]; omega
      rw [e4]
      unfold okBus
      cases btw y.buses[i].lo 0 y.buses[i].hi <;> cases decide (y.buses[i].hi ≤ 2000) <;> cases btw y.buses[i].turn 0 2000 <;> cases ((y.buses.take i).map (·.turn)).contains y.buses[i].turn <;> simp [Ex.bind, okBus]
    · have : i = y.buses.length := by omega
      subst this
      simp [dupT]
theorem Fault_eq (n : Nat) (y : Yard) (hr : y.room.length ≤ 100) (hb : y.buses.length ≤ 100) (h1 : y.room.length < n) (h2 : 2 * y.buses.length < n) : ref_Fault n y = some (faultOf y) := by
  unfold ref_Fault faultOf
  have e1 := Fault_l1_eq y (by omega) n 0 (by omega) (by omega)
  have e2 := Fault_l2_eq y (by omega) n 0 (by omega) (by omega)
  rw [show ((0 : Nat) : Int) = 0 from rfl] at e1 e2
  simp only [List.drop_zero, List.take_zero, List.map_nil] at e1 e2
  have c1 : decide (((y.room.length : Nat) : Int) > 3) = decide (3 < y.room.length) := by by_cases h : 3 < y.room.length <;> simp [h] <;> omega
  have c2 : decide (((y.buses.length : Nat) : Int) > 8) = decide (8 < y.buses.length) := by by_cases h : 8 < y.buses.length <;> simp [h] <;> omega
  have c3 : decide (((y.room.length : Nat) : Int) < 1) = decide (y.room.length = 0) := by by_cases h : y.room.length = 0 <;> simp [h] <;> omega
  rw [c1, c2, c3, e1, e2]
  by_cases a1 : 3 < y.room.length
  · simp [a1]
  by_cases a2 : 8 < y.buses.length
  · simp [a1, a2]
  simp only [a1, a2, decide_false, cond_false, Option.bind_some, or_self, if_false]
  by_cases a3 : y.room.length = 0
  · simp [a3]
  simp only [a3, decide_false, cond_false, ref_In_eq, Option.bind_some, false_or]
  cases a4 : btw y.broken 0 2 <;> cases a5 : (y.room.all fun r => btw r 0 8) <;> cases a6 : y.buses.all okBus <;> cases a7 : dupT [] (y.buses.map (·.turn)) <;> simp [Ex.bind]
theorem Thin_eq (n : Nat) (y : Yard) : law_Thin n y = some (decide (y.room.length ≤ 6) && decide (y.buses.length ≤ 12)) := by
  unfold law_Thin
  by_cases h1 : y.room.length ≤ 6 <;> by_cases h2 : y.buses.length ≤ 12
  all_goals
    have e1 : decide (((y.room.length : Nat) : Int) ≤ 6) = decide (y.room.length ≤ 6) := by simp; omega
    have e2 : decide (((y.buses.length : Nat) : Int) ≤ 12) = decide (y.buses.length ≤ 12) := by simp; omega
    rw [e1, e2]
    simp [h1, h2]
end Go.Proofs.Ythcbemnflgjadaa
namespace Go.Proofs.Ythcbemnflgjadaa
open Go Go.RowKit
def busAt (y : Yard) (b : Int) : Bus := y.buses.getD b.toNat default
theorem idx_bus (y : Yard) {b : Int} (h : btw b 0 ((y.buses.length : Int) - 1) = true) : idx y.buses b = some (busAt y b) := by
  rw [btw_true] at h
  obtain ⟨k, rfl⟩ := Int.eq_ofNat_of_zero_le h.1
  rw [idxLt _ _ (by omega)]
  unfold busAt
  simp [List.getD_eq_getElem?_getD, List.getElem?_eq_getElem (show k < y.buses.length by omega)]
theorem okBus_at {y : Yard} (hv : y.buses.all okBus = true) {b : Int} (h : btw b 0 ((y.buses.length : Int) - 1) = true) : 0 ≤ (busAt y b).lo ∧ (busAt y b).lo ≤ (busAt y b).hi ∧ (busAt y b).hi ≤ 2000 ∧ 0 ≤ (busAt y b).turn ∧ (busAt y b).turn ≤ 2000 := by
  rw [btw_true] at h
  have hl : b.toNat < y.buses.length := by omega
  have : okBus (busAt y b) = true := by
    unfold busAt
    rw [List.getD_eq_getElem?_getD, List.getElem?_eq_getElem hl]
    exact List.all_eq_true.1 hv _ (List.getElem_mem hl)
  unfold okBus at this
  simp only [Bool.and_eq_true, btw_true, decide_eq_true_eq] at this
  omega
theorem lane_bus_eq (n : Nat) (y : Yard) (b : Int) (h : y.buses.length ≤ 1000) : lane_Yard_bus n y b = some (btw b 0 ((y.buses.length : Int) - 1)) := by
  unfold lane_Yard_bus
  rw [wid (by omega) (by omega), within_eq]
  rfl
theorem latest2 (n : Nat) (a b : Int) : lane_latest (n + 2) [a, b] = some (max a b) := by
  have e1 : IntKind.i64.wrap 2 = 2 := by decide
  by_cases h : a < b
  · have : max a b = b := by omega
    simp [lane_latest, slices_Max_int_int, slices_Max_int_int_l1, idx, e1, h, this]
  · have : max a b = a := by omega
    simp [lane_latest, slices_Max_int_int, slices_Max_int_int_l1, idx, e1, h, this]
theorem rng8 {b : Int} (h0 : 0 ≤ b) (h8 : b < 8) : rng 8 b = some () := by
  unfold rng; rw [if_pos ⟨h0, h8⟩]
theorem eight {b : Int} (h0 : 0 ≤ b) (h8 : b < 8) : b = 0 ∨ b = 1 ∨ b = 2 ∨ b = 3 ∨ b = 4 ∨ b = 5 ∨ b = 6 ∨ b = 7 := by omega
def someOf (f : Int → Bool) : Some := ⟨f 0, f 1, f 2, f 3, f 4, f 5, f 6, f 7⟩
def plcOf (f : Int → Int) : Places := ⟨f 0, f 1, f 2, f 3, f 4, f 5, f 6, f 7⟩
theorem some_idx (f : Int → Bool) {b : Int} (h0 : 0 ≤ b) (h8 : b < 8) : idx (someOf f).toL b = some (f b) := by
  rcases eight h0 h8 with h | h | h | h | h | h | h | h <;> subst h <;> rfl
theorem plc_idx (f : Int → Int) {b : Int} (h0 : 0 ≤ b) (h8 : b < 8) : idx (plcOf f).toL b = some (f b) := by
  rcases eight h0 h8 with h | h | h | h | h | h | h | h <;> subst h <;> rfl
theorem some_set (f : Int → Bool) {b : Int} (h0 : 0 ≤ b) (h8 : b < 8) (v : Bool) : Some.setI (someOf f) b v = some (someOf fun x => if x = b then v else f x) := by
  rcases eight h0 h8 with h | h | h | h | h | h | h | h <;> subst h <;> rfl
theorem plc_set (f : Int → Int) {b : Int} (h0 : 0 ≤ b) (h8 : b < 8) (v : Int) : Places.setI (plcOf f) b v = some (plcOf fun x => if x = b then v else f x) := by
  rcases eight h0 h8 with h | h | h | h | h | h | h | h <;> subst h <;> rfl
theorem someOf_congr {f g : Int → Bool} (h : ∀ b, f b = g b) : someOf f = someOf g := by rw [funext h]
theorem plcOf_congr {f g : Int → Int} (h : ∀ b, f b = g b) : plcOf f = plcOf g := by rw [funext h]
def isIn (l : List Int) (b : Int) : Bool := l.contains b
def posn (l : List Int) (b : Int) : Int := if l.contains b then (l.idxOf b : Int) else 0
theorem isIn_snoc (l : List Int) (c b : Int) : isIn (l ++ [c]) b = if b = c then true else isIn l b := by
  unfold isIn
  by_cases h : b = c
  · subst h; simp
  · simp [h]
theorem posn_snoc (l : List Int) (c : Int) (hc : l.contains c = false) (b : Int) : posn (l ++ [c]) b = if b = c then (l.length : Int) else posn l b := by
  unfold posn
  by_cases h : b = c
  · subst h
    have hm : b ∉ l := by simpa using hc
    simp [List.idxOf_append, hm]
  · by_cases hb : b ∈ l
    · simp [h, hb, List.idxOf_append]
    · simp [h, hb]
def maxLo (y : Yard) (l : List Int) : Int := l.foldl (fun m b => max m (busAt y b).lo) 0
theorem maxLo_snoc (y : Yard) (l : List Int) (b : Int) : maxLo y (l ++ [b]) = max (maxLo y l) (busAt y b).lo := by
  unfold maxLo; rw [List.foldl_append]; rfl
theorem lt_maxLo (y : Yard) (x : Int) (hx : 0 ≤ x) (l : List Int) : decide (x < maxLo y l) = l.any fun k => decide (x < (busAt y k).lo) := by
  have key : ∀ (l : List Int) (m : Int), decide (x < l.foldl (fun m b => max m (busAt y b).lo) m) = (decide (x < m) || l.any fun k => decide (x < (busAt y k).lo)) := by
    intro l
    induction l with
    | nil => intro m; exact (Bool.or_false _).symm
    | cons a r ih =>
      intro m
      rw [List.foldl_cons, ih, List.any_cons, ← Bool.or_assoc]
      congr 1
      by_cases h1 : x < m <;> by_cases h2 : x < (busAt y a).lo <;> simp [h1, h2] <;> omega
  unfold maxLo
  rw [key]
  simp [Int.not_lt.2 hx]
def stepP (y : Yard) (pre : List Int) (b : Int) : Bool := btw b 0 ((y.buses.length : Int) - 1) && !(pre.contains b || pre.any fun k => decide ((busAt y b).hi < (busAt y k).lo))
def possR (y : Yard) : List Int → List Int → Bool
  | _, [] => true
  | pre, b :: r => stepP y pre b && possR y (pre ++ [b]) r
def possB (y : Yard) (order : List Int) : Bool := decide (order.length = y.buses.length) && possR y [] order
theorem possible_l1_eq (y : Yard) (hb : y.buses.length ≤ 8) (hv : y.buses.all okBus = true) (order : List Int) (ho : order.length ≤ 1000) : ∀ (n i : Nat), order.length + 2 < n + i → i ≤ order.length →
    ∃ r, lane_Yard_possible_l1 n y order (i : Int) (maxLo y (order.take i)) (plcOf (posn (order.take i))) (someOf (isIn (order.take i))) = some r ∧
      (if possR y (order.take i) (order.drop i) then r = Ex.go (plcOf (posn order), someOf (isIn order)) else ∃ x, r = Ex.ret (x, false))
  | 0, i, h, hi => by omega
  | n + 1, i, h, hi => by
    rw [lane_Yard_possible_l1, lt_len]
    by_cases hx : i < order.length
    · obtain ⟨n, rfl⟩ : ∃ m, n = m + 2 := ⟨n - 2, by omega⟩
      simp only [hx, decide_true, cond_true, idxLt _ _ hx, Option.bind_some, lane_bus_eq _ y _ (by omega)]
      rw [drop_get hx, possR]
      unfold stepP
      cases h1 : btw order[i] 0 ((y.buses.length : Int) - 1) with
      | false => exact ⟨_, rfl, by simp⟩
      | true =>
        have h1' := btw_true.1 h1
        have h8 : order[i] < 8 := by omega
        simp only [Bool.not_true, cond_false, rng8 h1'.1 h8, Option.bind_some, some_idx _ h1'.1 h8, idx_bus y h1]
        cases h2 : isIn (order.take i) order[i] with
        | true =>
          have h2' : (order.take i).contains order[i] = true := h2
          exact ⟨_, rfl, by rw [h2']; simp⟩
        | false =>
          have h2' : (order.take i).contains order[i] = false := h2
          simp only [cond_false, Option.bind_some, lt_maxLo y _ (show 0 ≤ (busAt y order[i]).hi by have := okBus_at hv h1; omega)]
          cases h3 : (order.take i).any fun k => decide ((busAt y order[i]).hi < (busAt y k).lo) with
          | true => exact ⟨_, rfl, by rw [h2']; simp⟩
          | false =>
            simp only [cond_false, some_set _ h1'.1 h8, Option.bind_some, latest2, plc_set _ h1'.1 h8]
            rw [wnat i (by omega), ← maxLo_snoc]
            have e1 : order.take i ++ [order[i]] = order.take (i + 1) := (List.take_succ_eq_append_getElem hx).symm
            have e2 : (someOf fun x => if x = order[i] then true else isIn (order.take i) x) = someOf (isIn (order.take (i + 1))) := someOf_congr fun b => by rw [← e1, isIn_snoc]
            have e3 : (plcOf fun x => if x = order[i] then (i : Int) else posn (order.take i) x) = plcOf (posn (order.take (i + 1))) := plcOf_congr fun b => by
              rw [← e1, posn_snoc _ _ h2', List.length_take, Nat.min_eq_left (Nat.le_of_lt hx)]
            rw [e1, e2, e3, h2']
            simp only [Bool.or_self, Bool.not_false, Bool.and_self, Bool.true_and]
            exact possible_l1_eq y hb hv order ho (n + 2) (i + 1) (by omega) (by omega)
    · have : i = order.length := by omega
      subst this
      simp [possR]
theorem zeroP : (Places.mk 0 0 0 0 0 0 0 0) = plcOf (posn []) := rfl
theorem zeroS : (Some.mk false false false false false false false false) = someOf (isIn []) := rfl
theorem possible_eq (n : Nat) (y : Yard) (hb : y.buses.length ≤ 8) (hv : y.buses.all okBus = true) (order : List Int) (ho : order.length ≤ 1000) (hn : order.length + 2 < n) :
    ∃ x, lane_Yard_possible n y order = some (x, possB y order) ∧ (possB y order = true → x = plcOf (posn order)) := by
  unfold lane_Yard_possible possB
  by_cases hl : order.length = y.buses.length
  · obtain ⟨r, h1, h2⟩ := possible_l1_eq y hb hv order ho n 0 (by omega) (by omega)
    rw [show ((0 : Nat) : Int) = 0 from rfl] at h1
    simp only [List.take_zero, List.drop_zero] at h1 h2
    have e0 : maxLo y [] = 0 := rfl
    rw [e0] at h1
    rw [zeroP, zeroS, h1]
    rw [show ((order.length : Int) != (y.buses.length : Int)) = false by simp [hl]]
    simp only [cond_false, Option.bind_some, hl, decide_true, Bool.true_and]
    split at h2
    · rename_i hp
      subst h2
      exact ⟨_, by rw [hp]; rfl, fun _ => rfl⟩
    · rename_i hp
      obtain ⟨x, rfl⟩ := h2
      exact ⟨x, by simp [Ex.bind, hp], fun h => absurd h hp⟩
  · rw [show ((order.length : Int) != (y.buses.length : Int)) = true by simp; omega]
    simp only [cond_true]
    exact ⟨plcOf (posn []), by rw [zeroP]; simp [hl], fun h => by simp [hl] at h⟩
theorem has_l1_eq (l : List Int) (x : Int) (hl : l.length ≤ 1000) : ∀ (n i : Nat), l.length < n + i → i ≤ l.length → ref_has_l1 n l x (i : Int) = some (if (l.drop i).contains x then Ex.ret true else Ex.go ())
  | 0, i, h, hi => by omega
  | n + 1, i, h, hi => by
    rw [ref_has_l1, lt_len]
    by_cases hx : i < l.length
    · simp only [hx, decide_true, cond_true, idxLt _ _ hx, Option.bind_some]
      rw [wnat i (by omega), drop_get hx, List.contains_cons, has_l1_eq l x hl n (i + 1) (by omega) (by omega)]
      cases hv : (l[i] == x) with
      | true =>
        have : (x == l[i]) = true := by rw [beq_iff_eq] at hv ⊢; exact hv.symm
        simp [this]
      | false =>
        have : (x == l[i]) = false := by
          cases hq : (x == l[i]) with
          | false => rfl
          | true => rw [beq_iff_eq] at hq; rw [hq] at hv; simp at hv
        simp [this]
    · have : i = l.length := by omega
      subst this
      simp
theorem has_eq (n : Nat) (l : List Int) (x : Int) (hl : l.length ≤ 1000) (hn : l.length < n) : ref_has n l x = some (l.contains x) := by
  unfold ref_has
  have e1 := has_l1_eq l x hl n 0 (by omega) (by omega)
  rw [show ((0 : Nat) : Int) = 0 from rfl, List.drop_zero] at e1
  rw [e1]
  cases l.contains x <;> rfl
theorem Possible_l2_eq (y : Yard) (order : List Int) (i : Nat) (hi : i < order.length) (ho : order.length ≤ 1000) (hr : ∀ k, k ≤ i → btw (order.getD k 0) 0 ((y.buses.length : Int) - 1) = true) : ∀ (n k : Nat), i < n + k → k ≤ i →
    ref_Possible_l2 n y order (i : Int) (k : Int) = some (if ((order.take i).drop k).any (fun j => decide ((busAt y order[i]).hi < (busAt y j).lo)) then Ex.ret false else Ex.go ())
  | 0, k, h, hk => by omega
  | n + 1, k, h, hk => by
    rw [ref_Possible_l2]
    by_cases hx : k < i
    · have hx' : k < (order.take i).length := by rw [List.length_take]; omega
      have hko : k < order.length := by omega
      have b1 : btw order[k] 0 ((y.buses.length : Int) - 1) = true := by
        have := hr k (by omega)
        rwa [List.getD_eq_getElem?_getD, List.getElem?_eq_getElem hko] at this
      have b2 : btw order[i] 0 ((y.buses.length : Int) - 1) = true := by
        have := hr i (by omega)
        rwa [List.getD_eq_getElem?_getD, List.getElem?_eq_getElem hi] at this
      simp only [show decide ((k : Int) < (i : Int)) = true by simp; omega, cond_true, idxLt _ _ hko, idxLt _ _ hi, Option.bind_some, idx_bus y b1, idx_bus y b2]
      rw [wnat k (by omega), Possible_l2_eq y order i hi ho hr n (k + 1) (by omega) (by omega), drop_get hx', List.any_cons, List.getElem_take]
      rw [show decide ((busAt y order[k]).lo > (busAt y order[i]).hi) = decide ((busAt y order[i]).hi < (busAt y order[k]).lo) from rfl]
      cases decide ((busAt y order[i]).hi < (busAt y order[k]).lo) <;> simp
    · have : k = i := by omega
      subst this
      simp
theorem subToN {α : Type} (xs : List α) (i : Nat) (h : i ≤ xs.length) : subTo xs (i : Int) = some (xs.take i) := by
  unfold subTo
  simp [h]
theorem Possible_l1_eq (y : Yard) (hb : y.buses.length ≤ 1000) (order : List Int) (ho : order.length ≤ 400) : ∀ (n i : Nat), 2 * order.length + 2 < n + i → i ≤ order.length → (∀ k, k < i → btw (order.getD k 0) 0 ((y.buses.length : Int) - 1) = true) →
    ref_Possible_l1 n y order (i : Int) = some (if possR y (order.take i) (order.drop i) then Ex.go () else Ex.ret false)
  | 0, i, h, hi, _ => by omega
  | n + 1, i, h, hi, hp => by
    rw [ref_Possible_l1, lt_len]
    by_cases hx : i < order.length
    · simp only [hx, decide_true, cond_true, idxLt _ _ hx, Option.bind_some, ref_In_eq]
      rw [wid (x := (y.buses.length : Int) - 1) (by omega) (by omega), drop_get hx, possR]
      unfold stepP
      cases h1 : btw order[i] 0 ((y.buses.length : Int) - 1) with
      | false => simp
      | true =>
        have hr : ∀ k, k ≤ i → btw (order.getD k 0) 0 ((y.buses.length : Int) - 1) = true := fun k hk => by
          rcases Nat.lt_or_ge k i with h' | h'
          · exact hp k h'
          · obtain rfl : k = i := by omega
            rw [List.getD_eq_getElem?_getD, List.getElem?_eq_getElem hx]
            exact h1
        simp only [Bool.not_true, cond_false, subToN _ _ (Nat.le_of_lt hx), Option.bind_some, has_eq n (order.take i) _ (by simp; omega) (by simp; omega)]
        have e1 := Possible_l2_eq y order i hx (by omega) hr n 0 (by omega) (by omega)
        rw [show ((0 : Nat) : Int) = 0 from rfl, List.drop_zero] at e1
        rw [e1]
        cases h2 : (order.take i).contains order[i] with
        | true => simp
        | false =>
          cases h3 : (order.take i).any fun j => decide ((busAt y order[i]).hi < (busAt y j).lo) with
          | true => simp [Ex.bind]
          | false =>
            have e2 : order.take i ++ [order[i]] = order.take (i + 1) := (List.take_succ_eq_append_getElem hx).symm
            simp only [cond_false, Option.bind_some, Bool.false_eq_true, if_false, Ex.bind, Bool.or_self, Bool.not_false, Bool.and_self, Bool.true_and]
            rw [wnat i (by omega), e2]
            exact Possible_l1_eq y hb order ho n (i + 1) (by omega) (by omega) fun k hk => hr k (by omega)
    · have : i = order.length := by omega
      subst this
      simp [possR]
theorem Possible_eq (n : Nat) (y : Yard) (hb : y.buses.length ≤ 1000) (order : List Int) (ho : order.length ≤ 400) (hn : 2 * order.length + 2 < n) : ref_Possible n y order = some (possB y order) := by
  unfold ref_Possible possB
  by_cases hl : order.length = y.buses.length
  · have e1 := Possible_l1_eq y hb order ho n 0 (by omega) (by omega) (fun k hk => absurd hk (Nat.not_lt_zero _))
    rw [show ((0 : Nat) : Int) = 0 from rfl, List.take_zero, List.drop_zero] at e1
    rw [e1, show ((order.length : Int) != (y.buses.length : Int)) = false by simp [hl]]
    cases possR y [] order <;> simp [Ex.bind, hl]
  · rw [show ((order.length : Int) != (y.buses.length : Int)) = true by simp; omega]
    simp [hl]
theorem valid_of {y : Yard} (h : faultOf y = 0) : y.room.length ≤ 3 ∧ 0 < y.room.length ∧ y.buses.length ≤ 8 ∧ btw y.broken 0 2 = true ∧ (y.room.all fun r => btw r 0 8) = true ∧ y.buses.all okBus = true ∧ dupT [] (y.buses.map (·.turn)) = false := by
  unfold faultOf at h
  split at h
  · omega
  · split at h
    · omega
    · rename_i h1 h2
      simp only [not_or] at h2
      simp only [Bool.not_eq_false, Bool.not_eq_true] at h2
      exact ⟨by omega, by omega, by omega, h2.2.1, h2.2.2.1, h2.2.2.2.1, h2.2.2.2.2⟩
end Go.Proofs.Ythcbemnflgjadaa
namespace Go.Proofs.Ythcbemnflgjadaa
open Go Go.RowKit
theorem get_mid {α : Type} (p : List α) (x : α) (r : List α) : (p ++ x :: r)[p.length]? = some x := by simp
theorem set_mid {α : Type} (p : List α) (x z : α) (r : List α) : (p ++ x :: r).set p.length z = p ++ z :: r := by
  rw [List.set_append_right _ _ (Nat.le_refl _), Nat.sub_self]; rfl
theorem idx_mid {α : Type} (p : List α) (x : α) (r : List α) {k : Nat} (hk : k = p.length) : idx (p ++ x :: r) (k : Int) = some x := by subst hk; rw [idxN, get_mid]
theorem upd_mid {α : Type} (p : List α) (x z : α) (r : List α) {k : Nat} (hk : k = p.length) : upd (p ++ x :: r) (k : Int) z = some (p ++ z :: r) := by
  subst hk; rw [updN _ _ _ (by simp), set_mid]
def insR (lt : Int → Int → Bool) (x : Int) : List Int → List Int
  | [] => [x]
  | y :: r => if lt x y then y :: insR lt x r else x :: y :: r
def insE (lt : Int → Int → Bool) (l : List Int) (x : Int) : List Int := (insR lt x l.reverse).reverse
def insS (lt : Int → Int → Bool) (l : List Int) : List Int := l.foldl (insE lt) []
theorem insR_perm (lt : Int → Int → Bool) (x : Int) : ∀ l, (insR lt x l).Perm (x :: l)
  | [] => .refl _
  | y :: r => by
    unfold insR
    split
    · exact ((insR_perm lt x r).cons y).trans (.swap x y r)
    · exact .refl _
theorem insE_perm (lt : Int → Int → Bool) (l : List Int) (x : Int) : (insE lt l x).Perm (l ++ [x]) := by
  unfold insE
  refine (List.reverse_perm _).trans ((insR_perm lt x _).trans ?_)
  refine ((List.reverse_perm l).cons x).trans ?_
  exact (List.perm_append_singleton x l).symm
theorem foldl_insE_perm (lt : Int → Int → Bool) : ∀ (l acc : List Int), (l.foldl (insE lt) acc).Perm (acc ++ l)
  | [], acc => by simp
  | x :: r, acc => by
    rw [List.foldl_cons]
    refine (foldl_insE_perm lt r _).trans ?_
    refine ((insE_perm lt acc x).append_right r).trans ?_
    simp
theorem insS_perm (lt : Int → Int → Bool) (l : List Int) : (insS lt l).Perm l := by simpa [insS] using foldl_insE_perm lt l []
theorem insS_length (lt : Int → Int → Bool) (l : List Int) : (insS lt l).length = l.length := (insS_perm lt l).length_eq
theorem insS_snoc (lt : Int → Int → Bool) (l : List Int) (x : Int) : insS lt (l ++ [x]) = insE lt (insS lt l) x := by simp [insS, List.foldl_append]
theorem insR_sorted {lt : Int → Int → Bool} {le : Int → Int → Prop} (h1 : ∀ a b, lt a b = true → le a b) (h2 : ∀ a b, lt a b = false → le b a) (ht : ∀ a b c, le a b → le b c → le a c) (x : Int) :
    ∀ l : List Int, l.Pairwise (fun a b => le b a) → (insR lt x l).Pairwise (fun a b => le b a)
  | [], _ => by simp [insR]
  | y :: r, h => by
    rw [List.pairwise_cons] at h
    unfold insR
    split
    · rename_i hx
      rw [List.pairwise_cons]
      refine ⟨fun z hz => ?_, insR_sorted h1 h2 ht x r h.2⟩
      rcases List.mem_cons.1 ((insR_perm lt x r).mem_iff.1 hz) with rfl | hz
      · exact h1 _ _ hx
      · exact h.1 z hz
    · rename_i hx
      have hyx := h2 x y (by simpa using hx)
      rw [List.pairwise_cons, List.pairwise_cons]
      refine ⟨fun z hz => ?_, h⟩
      rcases List.mem_cons.1 hz with rfl | hz
      · exact hyx
      · exact ht _ _ _ (h.1 z hz) hyx
theorem insS_sorted {lt : Int → Int → Bool} {le : Int → Int → Prop} (h1 : ∀ a b, lt a b = true → le a b) (h2 : ∀ a b, lt a b = false → le b a) (ht : ∀ a b c, le a b → le b c → le a c) (l : List Int) : (insS lt l).Pairwise le := by
  have key : ∀ (l acc : List Int), acc.Pairwise le → (l.foldl (insE lt) acc).Pairwise le := by
    intro l
    induction l with
    | nil => intro acc h; exact h
    | cons x r ih =>
      intro acc h
      rw [List.foldl_cons]
      refine ih _ ?_
      unfold insE
      rw [List.pairwise_reverse]
      exact insR_sorted h1 h2 ht x _ (List.pairwise_reverse.2 h)
  exact key l [] List.Pairwise.nil
theorem sort_l2_eq (cmp : Int → Int → Option Int) (lt : Int → Int → Bool) (x : Int) : ∀ (A B : List Int) (n : Nat), A.length < n → A.length ≤ 1000000 → (∀ y ∈ A, ∃ d, cmp x y = some d ∧ decide (d < 0) = lt x y) →
    slices_insertionSortCmpFunc_int_l2 n 0 cmp (A.reverse ++ x :: B) (A.length : Int) = some ((insR lt x A).reverse ++ B)
  | _, _, 0, h, _, _ => by omega
  | [], B, n + 1, _, _, _ => by
    rw [slices_insertionSortCmpFunc_int_l2]
    simp [insR]
  | y :: A, B, n + 1, h, hl, hc => by
    obtain ⟨d, hd, hlt⟩ := hc y (by simp)
    have hl' : A.length + 1 ≤ 1000000 := by simpa using hl
    have e0 : (y :: A).reverse ++ x :: B = A.reverse ++ y :: x :: B := by simp
    have e1 : (y :: A).reverse ++ x :: B = (A.reverse ++ [y]) ++ x :: B := by simp
    have hk : (A.reverse ++ [y]).length = A.length + 1 := by simp
    have i1 : idx ((y :: A).reverse ++ x :: B) ((A.length + 1 : Nat) : Int) = some x := by rw [e1, idx_mid _ _ _ hk.symm]
    have i2 : idx ((y :: A).reverse ++ x :: B) (A.length : Int) = some y := by rw [e0, idx_mid _ _ _ (by simp)]
    have u1 : upd ((y :: A).reverse ++ x :: B) ((A.length + 1 : Nat) : Int) y = some (A.reverse ++ y :: y :: B) := by rw [e1, upd_mid _ _ _ _ hk.symm]; simp
    have i3 : idx (A.reverse ++ y :: y :: B) (A.length : Int) = some y := idx_mid _ _ _ (by simp)
    have u2 : upd (A.reverse ++ y :: y :: B) (A.length : Int) x = some (A.reverse ++ x :: y :: B) := upd_mid _ _ _ _ (by simp)
    have w1 : IntKind.i64.wrap (((A.length + 1 : Nat) : Int) - 1) = (A.length : Int) := by rw [wid (by omega) (by omega)]; omega
    have g1 : decide (((A.length + 1 : Nat) : Int) > 0) = true := decide_eq_true (by omega)
    rw [slices_insertionSortCmpFunc_int_l2, List.length_cons]
    simp only [g1, cond_true, i1, i2, w1, Option.bind_some, hd, hlt]
    unfold insR
    cases hx : lt x y with
    | false => simp
    | true =>
      simp only [cond_true, u1, i3, u2, Option.bind_some, if_true]
      rw [sort_l2_eq cmp lt x A (y :: B) n (by simp at h; omega) (by omega) fun z hz => hc z (by simp [hz])]
      simp
theorem sort_l1_eq (cmp : Int → Int → Option Int) (lt : Int → Int → Bool) (l : List Int) (hl : l.length ≤ 1000) (hc : ∀ x ∈ l, ∀ y ∈ l, ∃ d, cmp x y = some d ∧ decide (d < 0) = lt x y) : ∀ (n i : Nat), 2 * l.length + 2 ≤ n + i → i ≤ l.length →
    slices_insertionSortCmpFunc_int_l1 n 0 (l.length : Int) cmp (insS lt (l.take i) ++ l.drop i) (i : Int) = some (insS lt l)
  | 0, i, h, hi => by omega
  | n + 1, i, h, hi => by
    rw [slices_insertionSortCmpFunc_int_l1]
    by_cases hx : i < l.length
    · have h1 := sort_l2_eq cmp lt l[i] (insS lt (l.take i)).reverse (l.drop (i + 1)) n (by simp [insS_length]; omega) (by simp [insS_length]; omega) (fun y hy => hc _ (List.getElem_mem hx) y (by
        have := (insS_perm lt (l.take i)).mem_iff.1 (List.mem_reverse.1 hy)
        exact List.mem_of_mem_take this))
      rw [List.reverse_reverse, List.length_reverse, insS_length, List.length_take, Nat.min_eq_left (Nat.le_of_lt hx), ← drop_get hx] at h1
      have e1 : (insR lt l[i] (insS lt (l.take i)).reverse).reverse = insS lt (l.take (i + 1)) := by
        rw [List.take_succ_eq_append_getElem hx, insS_snoc]; rfl
      rw [show decide ((i : Int) < (l.length : Int)) = true by simp; omega, cond_true, h1, Option.bind_some, wnat i (by omega), e1]
      exact sort_l1_eq cmp lt l hl hc n (i + 1) (by omega) (by omega)
    · have : i = l.length := by omega
      subst this
      simp
theorem insertion_eq (n : Nat) (cmp : Int → Int → Option Int) (lt : Int → Int → Bool) (l : List Int) (hl : l.length ≤ 1000) (hc : ∀ x ∈ l, ∀ y ∈ l, ∃ d, cmp x y = some d ∧ decide (d < 0) = lt x y) (hn : 2 * l.length + 2 ≤ n) :
    slices_insertionSortCmpFunc_int n l 0 (l.length : Int) cmp = some (insS lt l) := by
  unfold slices_insertionSortCmpFunc_int
  have e1 : IntKind.i64.wrap (0 + 1) = ((1 : Nat) : Int) := by decide
  rw [e1]
  cases l with
  | nil =>
    obtain ⟨m, rfl⟩ : ∃ m, n = m + 1 := ⟨n - 1, by simp at hn; omega⟩
    rw [slices_insertionSortCmpFunc_int_l1]
    simp [insS]
  | cons x r =>
    have h1 := sort_l1_eq cmp lt (x :: r) hl hc n 1 (by omega) (by simp)
    have e2 : insS lt ((x :: r).take 1) ++ (x :: r).drop 1 = x :: r := by simp [insS, insE, insR]
    rw [e2] at h1
    rw [h1]
    rfl
theorem SortFunc_eq (n : Nat) (cmp : Int → Int → Option Int) (lt : Int → Int → Bool) (l : List Int) (hl : l.length ≤ 12) (hc : ∀ x ∈ l, ∀ y ∈ l, ∃ d, cmp x y = some d ∧ decide (d < 0) = lt x y) (hn : 2 * l.length + 4 ≤ n) :
    slices_SortFunc_int_int n l cmp = some (insS lt l) := by
  unfold slices_SortFunc_int_int math_bits_Len
  have w1 : IntKind.u64.wrap (l.length : Int) = (l.length : Int) := by
    simp [IntKind.wrap, IntKind.bits, IntKind.signed]; omega
  rw [w1, if_pos ⟨by simp, by simp; omega⟩]
  obtain ⟨m, rfl⟩ : ∃ m, n = m + 2 := ⟨n - 2, by omega⟩
  simp only [Option.bind_some]
  rw [slices_pdqsortCmpFunc_int, slices_pdqsortCmpFunc_int_l1]
  have w2 : IntKind.i64.wrap ((l.length : Int) - 0) = (l.length : Int) := by rw [wid (by omega) (by omega)]; omega
  have c1 : decide ((l.length : Int) ≤ 12) = true := by simp; omega
  rw [w2, c1, cond_true, insertion_eq m cmp lt l (by omega) hc (by omega)]
  rfl
theorem sorted_same {key : Int → Int} {l l' : List Int} (hk : ∀ a ∈ l, ∀ b ∈ l, key a = key b → a = b) (h1 : l.Pairwise fun a b => key a ≤ key b) (h2 : l'.Pairwise fun a b => key a ≤ key b) (hp : l.Perm l') : l = l' :=
  List.Perm.eq_of_pairwise (le := fun a b => key a ≤ key b) (fun a b ha hb hab hba => hk a ha b (hp.mem_iff.2 hb) (Int.le_antisymm hab hba)) h1 h2 hp
def byKey (key : Int → Int) (a b : Int) : Bool := decide (key a < key b)
theorem insS_byKey (key : Int → Int) (l : List Int) : (insS (byKey key) l).Pairwise fun a b => key a ≤ key b :=
  insS_sorted (le := fun a b => key a ≤ key b) (fun a b h => by simp [byKey] at h; omega) (fun a b h => by simp [byKey] at h; omega) (fun a b c h1 h2 => Int.le_trans h1 h2) l
end Go.Proofs.Ythcbemnflgjadaa
namespace Go.Proofs.Ythcbemnflgjadaa
open Go Go.RowKit
def rangeI (n : Nat) : List Int := (List.range n).map fun (k : Nat) => (k : Int)
theorem rangeI_succ (n : Nat) : rangeI (n + 1) = rangeI n ++ [(n : Int)] := by simp [rangeI, List.range_succ]
theorem rangeI_len (n : Nat) : (rangeI n).length = n := by simp [rangeI]
theorem mem_rangeI {n : Nat} {b : Int} : b ∈ rangeI n ↔ 0 ≤ b ∧ b < n := by
  unfold rangeI
  rw [List.mem_map]
  constructor
  · rintro ⟨k, hk, rfl⟩
    rw [List.mem_range] at hk
    omega
  · intro h
    exact ⟨b.toNat, by rw [List.mem_range]; omega, by omega⟩
theorem btw_range {y : Yard} {b : Int} : btw b 0 ((y.buses.length : Int) - 1) = true ↔ b ∈ rangeI y.buses.length := by
  rw [btw_true, mem_rangeI]; omega
theorem rangeI_nodup : ∀ n, (rangeI n).Nodup
  | 0 => by simp [rangeI]
  | n + 1 => by
    rw [rangeI_succ, List.nodup_append]
    refine ⟨rangeI_nodup n, by simp, fun a ha b hb => ?_⟩
    rw [mem_rangeI] at ha
    simp at hb
    omega
def turnOf (y : Yard) (b : Int) : Int := (busAt y b).turn
def offL (y : Yard) (f : Int → Bool) : List Int := (rangeI y.buses.length).filter fun b => !f b
def turnsL (y : Yard) (f : Int → Bool) : List Int := insS (byKey (turnOf y)) (offL y f)
theorem offL_mem {y : Yard} {f : Int → Bool} {b : Int} : b ∈ offL y f ↔ b ∈ rangeI y.buses.length ∧ f b = false := by
  unfold offL
  rw [List.mem_filter]
  simp
theorem turnsL_mem {y : Yard} {f : Int → Bool} {b : Int} : b ∈ turnsL y f ↔ b ∈ rangeI y.buses.length ∧ f b = false := by
  unfold turnsL
  rw [(insS_perm _ _).mem_iff, offL_mem]
theorem offL_len (y : Yard) (f : Int → Bool) : (offL y f).length ≤ y.buses.length := by
  unfold offL
  exact Nat.le_trans (List.length_filter_le _ _) (by rw [rangeI_len]; exact Nat.le_refl _)
theorem turnsL_len (y : Yard) (f : Int → Bool) : (turnsL y f).length ≤ y.buses.length := by
  unfold turnsL
  rw [insS_length]
  exact offL_len y f
theorem turns_l1_eq (y : Yard) (f : Int → Bool) (hb : y.buses.length ≤ 8) : ∀ (n i : Nat), y.buses.length < n + i → i ≤ y.buses.length →
    lane_Yard_turns_l1 n y (someOf f) ((rangeI i).filter fun b => !f b) (i : Int) = some (offL y f)
  | 0, i, h, hi => by omega
  | n + 1, i, h, hi => by
    rw [lane_Yard_turns_l1, lt_len]
    by_cases hx : i < y.buses.length
    · have h0 : (0 : Int) ≤ (i : Int) := by omega
      have h8 : (i : Int) < 8 := by omega
      simp only [hx, decide_true, cond_true, rng8 h0 h8, some_idx _ h0 h8, Option.bind_some]
      have ih := turns_l1_eq y f hb n (i + 1) (by omega) (by omega)
      rw [rangeI_succ, List.filter_append] at ih
      rw [wnat i (by omega)]
      have hlen := List.length_filter_le (fun b => !f b) (rangeI i)
      rw [rangeI_len] at hlen
      cases hf : f (i : Int) with
      | true =>
        simp only [Bool.not_true, cond_false]
        rw [← ih]
        simp [hf]
      | false =>
        simp only [Bool.not_false, cond_true]
        rw [appOk _ _ (by simp; omega), Option.bind_some, ← ih]
        simp [hf]
    · have : i = y.buses.length := by omega
      subst this
      simp [offL]
theorem turns_cmp (n : Nat) {y : Yard} (hv : y.buses.all okBus = true) {a b : Int} (ha : a ∈ rangeI y.buses.length) (hb : b ∈ rangeI y.buses.length) :
    ∃ d, lane_Yard_turns_1 n a b y = some d ∧ decide (d < 0) = byKey (turnOf y) a b := by
  rw [← btw_range] at ha hb
  have h1 := okBus_at hv ha
  have h2 := okBus_at hv hb
  unfold lane_Yard_turns_1
  rw [idx_bus y ha, idx_bus y hb]
  refine ⟨_, rfl, ?_⟩
  rw [wid (by omega) (by omega)]
  unfold byKey turnOf
  by_cases h : (busAt y a).turn < (busAt y b).turn
  · rw [decide_eq_true h, decide_eq_true (by omega)]
  · rw [decide_eq_false h, decide_eq_false (by omega)]
theorem turns_eq (n : Nat) (y : Yard) (f : Int → Bool) (hb : y.buses.length ≤ 8) (hv : y.buses.all okBus = true) (hn : 20 ≤ n) : lane_Yard_turns n y (someOf f) = some (turnsL y f) := by
  unfold lane_Yard_turns
  have e1 := turns_l1_eq y f hb n 0 (by omega) (by omega)
  rw [show ((0 : Nat) : Int) = 0 from rfl] at e1
  have hl := offL_len y f
  have e2 := SortFunc_eq n (fun y0 y1 => lane_Yard_turns_1 n y0 y1 y) (byKey (turnOf y)) (offL y f) (by omega) (fun a ha b hb => turns_cmp n hv (offL_mem.1 ha).1 (offL_mem.1 hb).1) (by omega)
  rw [show (rangeI 0).filter (fun b => !f b) = ([] : List Int) from rfl] at e1
  rw [e1, Option.bind_some, e2]
  rfl
theorem ref_Turns_l2_eq (y : Yard) (hv : y.buses.length ≤ 1000) (x : Int) (hx : x ∈ rangeI y.buses.length) : ∀ (A B : List Int) (n : Nat), A.length < n → A.length ≤ 1000000 → (∀ z ∈ A, z ∈ rangeI y.buses.length) →
    ref_Turns_l2 n y (A.reverse ++ x :: B) (A.length : Int) = some ((insR (byKey (turnOf y)) x A).reverse ++ B)
  | _, _, 0, h, _, _ => by omega
  | [], B, n + 1, _, _, _ => by
    rw [ref_Turns_l2]
    simp [insR]
  | z :: A, B, n + 1, h, hl, hc => by
    have hl' : A.length + 1 ≤ 1000000 := by simpa using hl
    have e0 : (z :: A).reverse ++ x :: B = A.reverse ++ z :: x :: B := by simp
    have e1 : (z :: A).reverse ++ x :: B = (A.reverse ++ [z]) ++ x :: B := by simp
    have hk : (A.reverse ++ [z]).length = A.length + 1 := by simp
    have i1 : idx ((z :: A).reverse ++ x :: B) ((A.length + 1 : Nat) : Int) = some x := by rw [e1, idx_mid _ _ _ hk.symm]
    have i2 : idx ((z :: A).reverse ++ x :: B) (A.length : Int) = some z := by rw [e0, idx_mid _ _ _ (by simp)]
    have u1 : upd ((z :: A).reverse ++ x :: B) ((A.length + 1 : Nat) : Int) z = some (A.reverse ++ z :: z :: B) := by rw [e1, upd_mid _ _ _ _ hk.symm]; simp
    have i3 : idx (A.reverse ++ z :: z :: B) (A.length : Int) = some z := idx_mid _ _ _ (by simp)
    have u2 : upd (A.reverse ++ z :: z :: B) (A.length : Int) x = some (A.reverse ++ x :: z :: B) := upd_mid _ _ _ _ (by simp)
    have w1 : IntKind.i64.wrap (((A.length + 1 : Nat) : Int) - 1) = (A.length : Int) := by rw [wid (by omega) (by omega)]; omega
    have g1 : decide (((A.length + 1 : Nat) : Int) > 0) = true := decide_eq_true (by omega)
    rw [ref_Turns_l2, List.length_cons]
    simp only [g1, cond_true, i1, i2, w1, Option.bind_some, idx_bus y (btw_range.2 hx), idx_bus y (btw_range.2 (hc z (by simp)))]
    rw [show decide ((busAt y x).turn < (busAt y z).turn) = byKey (turnOf y) x z from rfl]
    unfold insR
    cases hq : byKey (turnOf y) x z with
    | false => simp
    | true =>
      simp only [cond_true, u1, i3, u2, Option.bind_some, if_true]
      rw [ref_Turns_l2_eq y hv x hx A (z :: B) n (by simp at h; omega) (by omega) fun q hq => hc q (by simp [hq])]
      simp
theorem ref_Turns_l1_eq (y : Yard) (broken : List Int) (hb : y.buses.length ≤ 20) (hbr : broken.length ≤ 20) : ∀ (n i : Nat), 60 ≤ n + i → i ≤ y.buses.length →
    ref_Turns_l1 n y broken (insS (byKey (turnOf y)) ((rangeI i).filter fun b => !isIn broken b)) (i : Int) = some (turnsL y (isIn broken))
  | 0, i, h, hi => by omega
  | n + 1, i, h, hi => by
    rw [ref_Turns_l1, lt_len]
    by_cases hx : i < y.buses.length
    · simp only [hx, decide_true, cond_true, has_eq n broken _ (by omega) (by omega), Option.bind_some]
      have ih := ref_Turns_l1_eq y broken hb hbr n (i + 1) (by omega) (by omega)
      rw [rangeI_succ, List.filter_append] at ih
      rw [wnat i (by omega)]
      have hlen := List.length_filter_le (fun b => !isIn broken b) (rangeI i)
      rw [rangeI_len] at hlen
      rw [show broken.contains (i : Int) = isIn broken (i : Int) from rfl]
      cases hf : isIn broken (i : Int) with
      | true =>
        simp only [cond_true]
        rw [← ih]
        simp [hf]
      | false =>
        simp only [cond_false]
        have hq : (insS (byKey (turnOf y)) ((rangeI i).filter fun b => !isIn broken b)).length ≤ i := by rw [insS_length]; exact hlen
        rw [appOk _ _ (by simp; omega), Option.bind_some]
        have e1 := ref_Turns_l2_eq y (by omega) (i : Int) (by rw [mem_rangeI]; omega) (insS (byKey (turnOf y)) ((rangeI i).filter fun b => !isIn broken b)).reverse [] n (by rw [List.length_reverse]; omega) (by rw [List.length_reverse]; omega) (fun z hz => by
          have := (insS_perm _ _).mem_iff.1 (List.mem_reverse.1 hz)
          have := (List.mem_filter.1 this).1
          rw [mem_rangeI] at this ⊢
          omega)
        rw [List.reverse_reverse, List.length_reverse, List.append_nil] at e1
        have w1 : IntKind.i64.wrap ((((insS (byKey (turnOf y)) ((rangeI i).filter fun b => !isIn broken b) ++ [(i : Int)]).length : Nat) : Int) - 1) = ((insS (byKey (turnOf y)) ((rangeI i).filter fun b => !isIn broken b)).length : Int) := by
          rw [List.length_append, List.length_singleton, wid (by omega) (by omega)]; omega
        rw [w1, e1, Option.bind_some, ← ih]
        simp only [hf, List.filter_cons, List.filter_nil, Bool.not_false, if_true, insS_snoc]
        rfl
    · have : i = y.buses.length := by omega
      subst this
      simp [turnsL, offL]
theorem ref_Turns_eq (n : Nat) (y : Yard) (broken : List Int) (hb : y.buses.length ≤ 20) (hbr : broken.length ≤ 20) (hn : 60 ≤ n) : ref_Turns n y broken = some (turnsL y (isIn broken)) := by
  unfold ref_Turns
  have e1 := ref_Turns_l1_eq y broken hb hbr n 0 (by omega) (by omega)
  rw [show ((0 : Nat) : Int) = 0 from rfl, show insS (byKey (turnOf y)) ((rangeI 0).filter fun b => !isIn broken b) = [] from rfl] at e1
  rw [e1]
  rfl
def tabOf (m : Nat) (g : Int → Int) : List Int := (rangeI m).map g
theorem tab_len (m : Nat) (g : Int → Int) : (tabOf m g).length = m := by simp [tabOf, rangeI_len]
theorem tab_get {m : Nat} {g : Int → Int} {k : Nat} (h : k < m) : (tabOf m g)[k]? = some (g (k : Int)) := by
  unfold tabOf rangeI
  rw [List.getElem?_map, List.getElem?_map, List.getElem?_range h]
  rfl
theorem tab_idx {m : Nat} {g : Int → Int} {b : Int} (h : btw b 0 ((m : Int) - 1) = true) : idx (tabOf m g) b = some (g b) := by
  rw [btw_true] at h
  obtain ⟨k, rfl⟩ := Int.eq_ofNat_of_zero_le h.1
  rw [idxN, tab_get (by omega)]
theorem tab_ext {m : Nat} {g : Int → Int} {l : List Int} (hl : l.length = m) (h : ∀ k, k < m → l[k]? = some (g (k : Int))) : l = tabOf m g := by
  apply List.ext_getElem?
  intro k
  rcases Nat.lt_or_ge k m with hk | hk
  · rw [h k hk, tab_get hk]
  · rw [List.getElem?_eq_none (by omega), List.getElem?_eq_none (by rw [tab_len]; omega)]
theorem tab_upd {m : Nat} {g : Int → Int} {b v : Int} (h : btw b 0 ((m : Int) - 1) = true) : upd (tabOf m g) b v = some (tabOf m fun x => if x = b then v else g x) := by
  rw [btw_true] at h
  obtain ⟨k, rfl⟩ := Int.eq_ofNat_of_zero_le h.1
  rw [updN _ _ _ (by rw [tab_len]; omega)]
  congr 1
  refine tab_ext (by rw [List.length_set, tab_len]) fun j hj => ?_
  by_cases hjk : j = k
  · subst hjk
    rw [List.getElem?_set_self (by rw [tab_len]; omega)]
    simp
  · rw [List.getElem?_set_ne (Ne.symm hjk), tab_get hj, if_neg (by omega)]
theorem tab_self (l : List Int) : l = tabOf l.length fun k => l.getD k.toNat 0 := tab_ext rfl fun k hk => by
  rw [List.getElem?_eq_getElem hk]
  simp [List.getD_eq_getElem?_getD, List.getElem?_eq_getElem hk]
theorem tab_zero (m : Nat) : List.replicate m (0 : Int) = tabOf m fun _ => 0 := tab_ext (by simp) fun k hk => by
  rw [List.getElem?_replicate, if_pos hk]
def roomAt (room : List Int) (k : Int) : Int := room.getD k.toNat 0
def lanesR (room : List Int) : List Int → List Int → Bool
  | _, [] => true
  | pre, n :: r => btw n 0 ((room.length : Int) - 1) && (decide ((pre.count n : Int) < roomAt room n) && lanesR room (pre ++ [n]) r)
def lanesB (y : Yard) (l : List Int) : Bool := decide (l.length = y.buses.length) && lanesR y.room [] l
theorem roomAt_ok {room : List Int} (h : (room.all fun r => btw r 0 8) = true) {k : Int} (hk : btw k 0 ((room.length : Int) - 1) = true) : 0 ≤ roomAt room k ∧ roomAt room k ≤ 8 := by
  rw [btw_true] at hk
  have hl : k.toNat < room.length := by omega
  unfold roomAt
  rw [List.getD_eq_getElem?_getD, List.getElem?_eq_getElem hl]
  exact btw_true.1 (List.all_eq_true.1 h _ (List.getElem_mem hl))
theorem count_snoc (pre : List Int) (n k : Int) : ((pre ++ [n]).count k : Int) = (pre.count k : Int) + (if k = n then 1 else 0) := by
  rw [List.count_append, List.count_singleton]
  by_cases h : k = n
  · subst h; simp
  · have : (n == k) = false := by
      cases hq : (n == k) with
      | false => rfl
      | true => rw [beq_iff_eq] at hq; exact absurd hq.symm h
    simp [h, this]
theorem lanes_l1_eq (room : List Int) (hr : (room.all fun r => btw r 0 8) = true) (hm : room.length ≤ 1000) (l : List Int) (hl : l.length ≤ 1000) : ∀ (n i : Nat), l.length < n + i → i ≤ l.length → (∀ k, btw k 0 ((room.length : Int) - 1) = true → ((l.take i).count k : Int) ≤ roomAt room k) →
    ∃ r, lane_Yard_lanes_l1 n l (tabOf room.length fun k => roomAt room k - ((l.take i).count k : Int)) (i : Int) = some r ∧ (if lanesR room (l.take i) (l.drop i) then ∃ x, r = Ex.go x else r = Ex.ret false)
  | 0, i, h, hi, _ => by omega
  | n + 1, i, h, hi, hc => by
    rw [lane_Yard_lanes_l1, lt_len]
    by_cases hx : i < l.length
    · simp only [hx, decide_true, cond_true, idxLt _ _ hx, Option.bind_some, within_eq, tab_len]
      rw [wid (x := (room.length : Int) - 1) (by omega) (by omega), drop_get hx, lanesR]
      cases h1 : btw l[i] 0 ((room.length : Int) - 1) with
      | false => exact ⟨_, rfl, by simp⟩
      | true =>
        have hk := hc _ h1
        have hR := roomAt_ok hr h1
        simp only [Bool.not_true, cond_false, tab_idx h1, Option.bind_some]
        by_cases h2 : ((l.take i).count l[i] : Int) < roomAt room l[i]
        · have e0 : (roomAt room l[i] - ((l.take i).count l[i] : Int) == 0) = false := by
            cases hq : (roomAt room l[i] - ((l.take i).count l[i] : Int) == 0) with
            | false => rfl
            | true => rw [beq_iff_eq] at hq; omega
          rw [e0]
          simp only [cond_false, tab_upd h1, Option.bind_some]
          rw [wnat i (by omega), wid (by omega) (by omega), decide_eq_true h2]
          have e1 : l.take i ++ [l[i]] = l.take (i + 1) := (List.take_succ_eq_append_getElem hx).symm
          have e2 : (tabOf room.length fun x => if x = l[i] then roomAt room l[i] - ((l.take i).count l[i] : Int) - 1 else roomAt room x - ((l.take i).count x : Int)) = tabOf room.length fun k => roomAt room k - ((l.take (i + 1)).count k : Int) := by
            congr 1
            funext x
            rw [← e1, count_snoc]
            by_cases hxe : x = l[i]
            · rw [if_pos hxe, if_pos hxe, hxe]; omega
            · rw [if_neg hxe, if_neg hxe]; omega
          rw [e1, e2]
          simp only [Bool.true_and]
          refine lanes_l1_eq room hr hm l hl n (i + 1) (by omega) (by omega) fun k hkk => ?_
          rw [← e1, count_snoc]
          have := hc k hkk
          split
          · rename_i hke; rw [hke]; omega
          · omega
        · have e0 : (roomAt room l[i] - ((l.take i).count l[i] : Int) == 0) = true := by rw [beq_iff_eq]; omega
          rw [e0, decide_eq_false h2]
          exact ⟨_, rfl, by simp⟩
    · have : i = l.length := by omega
      subst this
      exact ⟨Ex.go _, by simp; rfl, by simp [lanesR]⟩
theorem lanes_eq (n : Nat) (y : Yard) (hr : (y.room.all fun r => btw r 0 8) = true) (hm : y.room.length ≤ 1000) (l : List Int) (hl : l.length ≤ 1000) (hn : l.length < n) : lane_Yard_lanes n y l = some (lanesB y l) := by
  unfold lane_Yard_lanes lanesB
  by_cases he : l.length = y.buses.length
  · rw [show ((l.length : Int) != (y.buses.length : Int)) = false by simp [he], cond_false, clone_eq n _ hm, Option.bind_some]
    obtain ⟨r, h1, h2⟩ := lanes_l1_eq y.room hr hm l hl n 0 (by omega) (by omega) (fun k hk => by simp; exact (roomAt_ok hr hk).1)
    have e1 : (tabOf y.room.length fun k => roomAt y.room k - (((l.take 0).count k : Nat) : Int)) = y.room := by
      refine Eq.trans ?_ (tab_self y.room).symm
      congr 1
      funext k
      simp [roomAt]
    rw [e1, show ((0 : Nat) : Int) = 0 from rfl] at h1
    rw [h1]
    simp only [List.take_zero, List.drop_zero] at h2
    split at h2
    · rename_i hq
      obtain ⟨x, rfl⟩ := h2
      simp [Ex.bind, he, hq]
    · rename_i hq
      subst h2
      simp [Ex.bind, he, hq]
  · rw [show ((l.length : Int) != (y.buses.length : Int)) = true by simp; omega]
    simp [he]
theorem IsLanes_l1_eq (y : Yard) (hr : (y.room.all fun r => btw r 0 8) = true) (hm : y.room.length ≤ 1000) (l : List Int) (hl : l.length ≤ 1000) : ∀ (n i : Nat), l.length < n + i → i ≤ l.length →
    ∃ r, ref_IsLanes_l1 n y l (tabOf y.room.length fun k => ((l.take i).count k : Int)) (i : Int) = some r ∧ (if lanesR y.room (l.take i) (l.drop i) then ∃ x, r = Ex.go x else r = Ex.ret false)
  | 0, i, h, hi => by omega
  | n + 1, i, h, hi => by
    rw [ref_IsLanes_l1, lt_len]
    by_cases hx : i < l.length
    · simp only [hx, decide_true, cond_true, idxLt _ _ hx, Option.bind_some, ref_In_eq]
      rw [wid (x := (y.room.length : Int) - 1) (by omega) (by omega), drop_get hx, lanesR]
      cases h1 : btw l[i] 0 ((y.room.length : Int) - 1) with
      | false => exact ⟨_, rfl, by simp⟩
      | true =>
        have hR := roomAt_ok hr h1
        have hcl : (l.take i).count l[i] ≤ 1000 := Nat.le_trans List.count_le_length (by rw [List.length_take]; omega)
        have er : idx y.room l[i] = some (roomAt y.room l[i]) := by
          have := tab_idx (g := fun k => y.room.getD k.toNat 0) h1
          rwa [← tab_self y.room] at this
        simp only [Bool.not_true, cond_false, tab_idx h1, tab_upd h1, Option.bind_some, er, if_true]
        rw [wnat i (by omega), wid (by omega) (by omega)]
        have e1 : l.take i ++ [l[i]] = l.take (i + 1) := (List.take_succ_eq_append_getElem hx).symm
        have e2 : (tabOf y.room.length fun x => if x = l[i] then ((l.take i).count l[i] : Int) + 1 else ((l.take i).count x : Int)) = tabOf y.room.length fun k => ((l.take (i + 1)).count k : Int) := by
          congr 1
          funext x
          rw [← e1, count_snoc]
          by_cases hxe : x = l[i]
          · rw [if_pos hxe, if_pos hxe, hxe]
          · rw [if_neg hxe, if_neg hxe]; omega
        rw [e1, e2]
        by_cases h2 : ((l.take i).count l[i] : Int) < roomAt y.room l[i]
        · rw [decide_eq_true h2, decide_eq_false (show ¬ ((l.take i).count l[i] : Int) + 1 > roomAt y.room l[i] by omega)]
          simp only [cond_false, Bool.true_and]
          exact IsLanes_l1_eq y hr hm l hl n (i + 1) (by omega) (by omega)
        · rw [decide_eq_false h2, decide_eq_true (show ((l.take i).count l[i] : Int) + 1 > roomAt y.room l[i] by omega)]
          exact ⟨_, rfl, by simp⟩
    · have : i = l.length := by omega
      subst this
      exact ⟨Ex.go _, by simp; rfl, by simp [lanesR]⟩
theorem IsLanes_eq (n : Nat) (y : Yard) (hr : (y.room.all fun r => btw r 0 8) = true) (hm : y.room.length ≤ 1000) (l : List Int) (hl : l.length ≤ 1000) (hn : l.length < n) : ref_IsLanes n y l = some (lanesB y l) := by
  unfold ref_IsLanes lanesB
  by_cases he : l.length = y.buses.length
  · rw [show ((l.length : Int) != (y.buses.length : Int)) = false by simp [he], cond_false, mkN _ _ (by omega), Option.bind_some]
    obtain ⟨r, h1, h2⟩ := IsLanes_l1_eq y hr hm l hl n 0 (by omega) (by omega)
    have e1 : (tabOf y.room.length fun k => (((l.take 0).count k : Nat) : Int)) = List.replicate y.room.length 0 := by
      rw [tab_zero]
      congr 1
    rw [e1, show ((0 : Nat) : Int) = 0 from rfl] at h1
    rw [h1]
    simp only [List.take_zero, List.drop_zero] at h2
    split at h2
    · rename_i hq
      obtain ⟨x, rfl⟩ := h2
      simp [Ex.bind, he, hq]
    · rename_i hq
      subst h2
      simp [Ex.bind, he, hq]
  · rw [show ((l.length : Int) != (y.buses.length : Int)) = true by simp; omega]
    simp [he]
end Go.Proofs.Ythcbemnflgjadaa
namespace Go.Proofs.Ythcbemnflgjadaa
open Go Go.RowKit
def brokR (y : Yard) : Int → List Int → Bool
  | _, [] => true
  | last, b :: r => btw b 0 ((y.buses.length : Int) - 1) && (decide (last < b) && brokR y b r)
def brokB (y : Yard) (l : List Int) : Bool := brokR y (-1) l && decide ((l.length : Int) ≤ y.broken)
theorem down_l1_eq (y : Yard) (hb : y.buses.length ≤ 8) (l : List Int) (hl : l.length ≤ 1000) : ∀ (n i : Nat) (last : Int), l.length < n + i → i ≤ l.length →
    ∃ r, lane_Yard_down_l1 n y l (i : Int) last (someOf (isIn (l.take i))) = some r ∧ (if brokR y last (l.drop i) then r = Ex.go (someOf (isIn l)) else ∃ x, r = Ex.ret (x, false))
  | 0, i, last, h, hi => by omega
  | n + 1, i, last, h, hi => by
    rw [lane_Yard_down_l1, lt_len]
    by_cases hx : i < l.length
    · simp only [hx, decide_true, cond_true, idxLt _ _ hx, Option.bind_some, lane_bus_eq _ y _ (by omega)]
      rw [drop_get hx, brokR]
      cases h1 : btw l[i] 0 ((y.buses.length : Int) - 1) with
      | false => exact ⟨_, rfl, by simp⟩
      | true =>
        have h1' := btw_true.1 h1
        have h8 : l[i] < 8 := by omega
        by_cases h2 : last < l[i]
        · simp only [Bool.not_true, cond_false, decide_eq_false (show ¬ l[i] ≤ last by omega), decide_eq_true h2, rng8 h1'.1 h8, some_set _ h1'.1 h8, Option.bind_some, Bool.true_and]
          rw [wnat i (by omega)]
          have e1 : l.take i ++ [l[i]] = l.take (i + 1) := (List.take_succ_eq_append_getElem hx).symm
          have e2 : (someOf fun x => if x = l[i] then true else isIn (l.take i) x) = someOf (isIn (l.take (i + 1))) := someOf_congr fun b => by rw [← e1, isIn_snoc]
          rw [e2]
          exact down_l1_eq y hb l hl n (i + 1) l[i] (by omega) (by omega)
        · rw [decide_eq_false h2]
          simp only [Bool.not_true, cond_false, decide_eq_true (show l[i] ≤ last by omega), Option.bind_some, cond_true]
          exact ⟨_, rfl, by simp⟩
    · have : i = l.length := by omega
      subst this
      exact ⟨Ex.go _, by simp; rfl, by simp [brokR]⟩
theorem down_eq (n : Nat) (y : Yard) (hb : y.buses.length ≤ 8) (l : List Int) (hl : l.length ≤ 1000) (hn : l.length < n) :
    ∃ x, lane_Yard_down n y l = some (x, brokB y l) ∧ (brokB y l = true → x = someOf (isIn l)) := by
  unfold lane_Yard_down brokB
  obtain ⟨r, h1, h2⟩ := down_l1_eq y hb l hl n 0 (-1) (by omega) (by omega)
  rw [show ((0 : Nat) : Int) = 0 from rfl, List.take_zero] at h1
  rw [List.drop_zero] at h2
  rw [zeroS, h1, Option.bind_some]
  split at h2
  · rename_i hq
    subst h2
    exact ⟨_, by rw [hq]; rfl, fun _ => rfl⟩
  · rename_i hq
    obtain ⟨x, rfl⟩ := h2
    exact ⟨x, by simp [Ex.bind, hq], fun h => by simp [hq] at h⟩
def lastAt (l : List Int) (i : Nat) : Int := if i = 0 then -1 else l.getD (i - 1) 0
theorem IsBroken_l1_eq (y : Yard) (hb : y.buses.length ≤ 1000) (l : List Int) (hl : l.length ≤ 1000) : ∀ (n i : Nat), l.length < n + i → i ≤ l.length →
    ref_IsBroken_l1 n y l (i : Int) = some (if brokR y (lastAt l i) (l.drop i) then Ex.go () else Ex.ret false)
  | 0, i, h, hi => by omega
  | n + 1, i, h, hi => by
    rw [ref_IsBroken_l1, lt_len]
    by_cases hx : i < l.length
    · simp only [hx, decide_true, cond_true, idxLt _ _ hx, Option.bind_some, ref_In_eq]
      rw [wid (x := (y.buses.length : Int) - 1) (by omega) (by omega), drop_get hx, brokR, wnat i (by omega)]
      cases h1 : btw l[i] 0 ((y.buses.length : Int) - 1) with
      | false => simp
      | true =>
        have h1' := btw_true.1 h1
        have ih := IsBroken_l1_eq y hb l hl n (i + 1) (by omega) (by omega)
        have hla : lastAt l (i + 1) = l[i] := by
          unfold lastAt
          rw [if_neg (by omega), Nat.add_sub_cancel, List.getD_eq_getElem?_getD, List.getElem?_eq_getElem hx]
          rfl
        rw [hla] at ih
        simp only [Bool.not_true, cond_false]
        cases i with
        | zero =>
          have : lastAt l 0 < l[0] := by
            show (-1 : Int) < _
            omega
          rw [decide_eq_true this]
          simpa using ih
        | succ j =>
          have hj : j < l.length := by omega
          have hlj : lastAt l (j + 1) = l[j] := by
            unfold lastAt
            rw [if_neg (by omega), Nat.add_sub_cancel, List.getD_eq_getElem?_getD, List.getElem?_eq_getElem hj]
            rfl
          have w1 : IntKind.i64.wrap (((j + 1 : Nat) : Int) - 1) = (j : Int) := by rw [wid (by omega) (by omega)]; omega
          rw [decide_eq_true (show ((j + 1 : Nat) : Int) > 0 by omega), w1, idxLt _ _ hj, hlj]
          simp only [cond_true, Option.bind_some, ih]
          by_cases h2 : l[j] < l[j + 1]
          · rw [decide_eq_true h2, decide_eq_false (show ¬ l[j + 1] ≤ l[j] by omega)]
            simp
          · rw [decide_eq_false h2, decide_eq_true (show l[j + 1] ≤ l[j] by omega)]
            simp
    · have : i = l.length := by omega
      subst this
      simp [brokR]
theorem IsBroken_eq (n : Nat) (y : Yard) (hb : y.buses.length ≤ 1000) (l : List Int) (hl : l.length ≤ 1000) (hn : l.length < n) : ref_IsBroken n y l = some (brokB y l) := by
  unfold ref_IsBroken brokB
  have e1 := IsBroken_l1_eq y hb l hl n 0 (by omega) (by omega)
  rw [show ((0 : Nat) : Int) = 0 from rfl, List.drop_zero, show lastAt l 0 = -1 from rfl] at e1
  rw [e1, Option.bind_some]
  cases brokR y (-1) l <;> simp [Ex.bind]
def okNight (y : Yard) (lanes order broken : List Int) : Bool := lanesB y lanes && (possB y order && brokB y broken)
def askedOf (y : Yard) (lanes order broken : List Int) : Int := if faultOf y = 0 then (if okNight y lanes order broken then 0 else 2) else faultOf y
def nightOf (y : Yard) (lanes order broken : List Int) : Night := ⟨y, lanes, plcOf (posn order), someOf (isIn broken)⟩
theorem night_eq (n : Nat) (y : Yard) (lanes order broken : List Int) (hr : y.room.length ≤ 100) (hb : y.buses.length ≤ 100) (h1 : lanes.length ≤ 100) (h2 : order.length ≤ 100) (h3 : broken.length ≤ 100) (hn : 200 ≤ n) :
    ∃ x, lane_Yard_night n y lanes order broken = some (x, askedOf y lanes order broken) ∧ (askedOf y lanes order broken = 0 → x = nightOf y lanes order broken) := by
  unfold lane_Yard_night askedOf
  rw [check_eq n y (by omega) (by omega) (by omega) (by omega), Option.bind_some]
  by_cases hf : faultOf y = 0
  · obtain ⟨v1, v0, v2, v3, v4, v5, v6⟩ := valid_of hf
    obtain ⟨x1, p1, p2⟩ := possible_eq n y v2 v5 order (by omega) (by omega)
    obtain ⟨x2, q1, q2⟩ := down_eq n y v2 broken (by omega) (by omega)
    rw [hf, p1, q1, lanes_eq n y v4 (by omega) lanes (by omega) (by omega)]
    simp only [Option.bind_some, bne_self_eq_false, cond_false, if_true]
    unfold okNight
    cases a1 : possB y order with
    | false => exact ⟨_, by simp; rfl, fun h => by simp at h⟩
    | true =>
      cases a2 : brokB y broken with
      | false => exact ⟨_, by simp; rfl, fun h => by simp at h⟩
      | true =>
        cases a3 : lanesB y lanes with
        | false => exact ⟨_, by simp; rfl, fun h => by simp at h⟩
        | true => exact ⟨_, by simp; rfl, fun _ => by rw [p2 a1, q2 a2]; rfl⟩
  · have hn : (faultOf y != 0) = true := by simp [hf]
    rw [hn, if_neg hf]
    exact ⟨_, rfl, fun h => absurd h hf⟩
theorem asked_eq (n : Nat) (y : Yard) (lanes order broken : List Int) (hr : y.room.length ≤ 50) (hb : y.buses.length ≤ 50) (h1 : lanes.length ≤ 50) (h2 : order.length ≤ 50) (h3 : broken.length ≤ 50) (hn : 200 ≤ n) :
    law_asked n y lanes order broken = some (askedOf y lanes order broken) := by
  unfold law_asked law_fault askedOf
  rw [Fault_eq n y (by omega) (by omega) (by omega) (by omega), Option.bind_some, Option.bind_some]
  by_cases hf : faultOf y = 0
  · obtain ⟨v1, v0, v2, v3, v4, v5, v6⟩ := valid_of hf
    rw [hf, IsLanes_eq n y v4 (by omega) lanes (by omega) (by omega), Possible_eq n y (by omega) order (by omega) (by omega), IsBroken_eq n y (by omega) broken (by omega) (by omega)]
    unfold okNight
    cases lanesB y lanes <;> cases possB y order <;> cases brokB y broken <;> simp
  · have hn : (faultOf y != 0) = true := by simp [hf]
    rw [hn, if_neg hf]
    rfl
theorem values_l1_eq {σ : Type} (step : σ → Int → Option σ) (q : List Int) (hq : q.length ≤ 1000) : ∀ (n i : Nat) (s : σ), q.length < n + i → i ≤ q.length →
    slices_Values_int_int_1_l1 n (fun s x => (step s x).bind fun s1 => some (s1, true)) q (i : Int) s = ((q.drop i).foldlM step s).map Ex.go
  | 0, i, s, h, hi => by omega
  | n + 1, i, s, h, hi => by
    rw [slices_Values_int_int_1_l1, lt_len]
    by_cases hx : i < q.length
    · simp only [hx, decide_true, cond_true, idxLt _ _ hx, Option.bind_some]
      rw [wnat i (by omega), drop_get hx, List.foldlM_cons]
      cases hs : step s q[i] with
      | none => rfl
      | some s' =>
        simp only [Option.bind_some, Bool.not_true, cond_false]
        rw [values_l1_eq step q hq n (i + 1) s' (by omega) (by omega)]
        rfl
    · have : i = q.length := by omega
      subst this
      simp
theorem values_eq {σ : Type} (n : Nat) (step : σ → Int → Option σ) (s : σ) (q : List Int) (hq : q.length ≤ 1000) (hn : q.length < n) :
    slices_Values_int_int_1 n (fun s x => (step s x).bind fun s1 => some (s1, true)) s q = q.foldlM step s := by
  unfold slices_Values_int_int_1
  have e1 := values_l1_eq step q hq n 0 s (by omega) (by omega)
  rw [show ((0 : Nat) : Int) = 0 from rfl, List.drop_zero] at e1
  rw [e1]
  cases q.foldlM step s <;> rfl
def laneAt (lanes : List Int) (b : Int) : Int := lanes.getD b.toNat 0
theorem idx_lane (lanes : List Int) {b : Int} (h0 : 0 ≤ b) (h : b < lanes.length) : idx lanes b = some (laneAt lanes b) := by
  obtain ⟨k, rfl⟩ := Int.eq_ofNat_of_zero_le h0
  rw [idxLt _ _ (by omega)]
  unfold laneAt
  simp [List.getD_eq_getElem?_getD, List.getElem?_eq_getElem (show k < lanes.length by omega)]
def bef (lanes order : List Int) (c b : Int) : Bool := laneAt lanes c == laneAt lanes b && decide (posn order c < posn order b)
theorem before_eq (n : Nat) (y : Yard) (lanes order broken : List Int) (hl : lanes.length = y.buses.length) (hb : y.buses.length ≤ 8) {c b : Int} (hc : c ∈ rangeI y.buses.length) (hbb : b ∈ rangeI y.buses.length) :
    lane_night_before n (nightOf y lanes order broken) c b = some (bef lanes order c b) := by
  rw [mem_rangeI] at hc hbb
  unfold lane_night_before nightOf bef
  rw [idx_lane lanes hc.1 (by omega), idx_lane lanes hbb.1 (by omega)]
  simp only [Option.bind_some, rng8 hc.1 (by omega), rng8 hbb.1 (by omega), plc_idx _ hc.1 (show c < 8 by omega), plc_idx _ hbb.1 (show b < 8 by omega)]
  cases laneAt lanes c == laneAt lanes b <;> simp
theorem posn_range (l : List Int) (b : Int) : 0 ≤ posn l b ∧ posn l b ≤ l.length := by
  unfold posn
  split
  · have := List.idxOf_le_length (a := b) (l := l)
    omega
  · omega
def pickL (y : Yard) (lanes order : List Int) (g : Int → Bool) (b : Int) (k : Nat) : List Int := (rangeI k).filter fun c => !g c && bef lanes order c b
theorem morning_l1_eq (y : Yard) (lanes order broken : List Int) (hl : lanes.length = y.buses.length) (hb : y.buses.length ≤ 8) (g : Int → Bool) (b : Int) (hbb : b ∈ rangeI y.buses.length) : ∀ (n i : Nat), y.buses.length < n + i → i ≤ y.buses.length →
    lane_night_morning_l1 n (nightOf y lanes order broken) b (pickL y lanes order g b i) (i : Int) (someOf fun x => g x || isIn (pickL y lanes order g b i) x) = some (pickL y lanes order g b y.buses.length, someOf fun x => g x || isIn (pickL y lanes order g b y.buses.length) x)
  | 0, i, h, hi => by omega
  | n + 1, i, h, hi => by
    rw [lane_night_morning_l1]
    rw [show (nightOf y lanes order broken).yard = y from rfl, lt_len]
    by_cases hx : i < y.buses.length
    · have h0 : (0 : Int) ≤ (i : Int) := by omega
      have h8 : (i : Int) < 8 := by omega
      have hni : isIn (pickL y lanes order g b i) (i : Int) = false := by
        cases hq : isIn (pickL y lanes order g b i) (i : Int) with
        | false => rfl
        | true =>
          have hm : (i : Int) ∈ pickL y lanes order g b i := by simpa [isIn] using hq
          have := (List.mem_filter.1 hm).1
          rw [mem_rangeI] at this
          omega
      have ih := morning_l1_eq y lanes order broken hl hb g b hbb n (i + 1) (by omega) (by omega)
      have hs : pickL y lanes order g b (i + 1) = if !g (i : Int) && bef lanes order (i : Int) b then pickL y lanes order g b i ++ [(i : Int)] else pickL y lanes order g b i := by
        unfold pickL
        rw [rangeI_succ, List.filter_append]
        cases hq : (!g (i : Int) && bef lanes order (i : Int) b) <;> simp [hq]
      simp only [hx, decide_true, cond_true, rng8 h0 h8, some_idx _ h0 h8, Option.bind_some, hni, Bool.or_false]
      rw [wnat i (by omega)]
      have hlen : (pickL y lanes order g b i).length ≤ i := by
        unfold pickL
        exact Nat.le_trans (List.length_filter_le _ _) (by rw [rangeI_len]; exact Nat.le_refl _)
      have hbf := before_eq n y lanes order broken hl hb (c := (i : Int)) (b := b) (by rw [mem_rangeI]; omega) hbb
      cases hg : g (i : Int) with
      | true =>
        rw [hg] at hs
        simp only [Bool.not_true, Bool.false_and, Bool.false_eq_true, if_false] at hs
        rw [hs] at ih
        simpa using ih
      | false =>
        rw [hg] at hs
        simp only [Bool.not_false, Bool.true_and] at hs
        simp only [Bool.not_false, cond_true, hbf, Option.bind_some]
        cases hq : bef lanes order (i : Int) b with
        | false =>
          rw [hq] at hs
          simp only [Bool.false_eq_true, if_false] at hs
          rw [hs] at ih
          simpa using ih
        | true =>
          rw [hq] at hs
          simp only [if_true] at hs
          simp only [cond_true]
          rw [appOk _ _ (by simp; omega)]
          simp only [Option.bind_some, some_set _ h0 h8]
          have e2 : (someOf fun x => if x = (i : Int) then true else (g x || isIn (pickL y lanes order g b i) x)) = someOf fun x => g x || isIn (pickL y lanes order g b (i + 1)) x := someOf_congr fun x => by
            rw [hs, isIn_snoc]
            split <;> simp
          rw [e2, ← hs]
          exact ih
    · have : i = y.buses.length := by omega
      subst this
      simp
def shuntL (y : Yard) (lanes order : List Int) (g : Int → Bool) (b : Int) : List Int := insS (byKey (posn order)) (pickL y lanes order g b y.buses.length)
theorem isIn_perm {l l' : List Int} (h : l.Perm l') (x : Int) : isIn l x = isIn l' x := by
  unfold isIn
  rw [Bool.eq_iff_iff]
  simp [h.mem_iff]
def goneN (y : Yard) (lanes order : List Int) (g : Int → Bool) (b : Int) : Int → Bool := fun x => if x = b then true else (g x || isIn (shuntL y lanes order g b) x)
def morningR (y : Yard) (lanes order : List Int) : (Int → Bool) → List Int → List (List Int)
  | _, [] => []
  | g, b :: r => shuntL y lanes order g b :: morningR y lanes order (goneN y lanes order g b) r
theorem morningR_len (y : Yard) (lanes order : List Int) : ∀ (ts : List Int) (g : Int → Bool), (morningR y lanes order g ts).length = ts.length
  | [], _ => rfl
  | b :: r, g => by rw [morningR, List.length_cons, List.length_cons, morningR_len]
theorem morning_cmp (n : Nat) (y : Yard) (lanes order broken : List Int) (hb : y.buses.length ≤ 8) (ho : order.length ≤ 1000) {c d : Int} (hc : c ∈ rangeI y.buses.length) (hd : d ∈ rangeI y.buses.length) :
    ∃ e, lane_night_morning_1 n c d (nightOf y lanes order broken) = some e ∧ decide (e < 0) = byKey (posn order) c d := by
  rw [mem_rangeI] at hc hd
  unfold lane_night_morning_1 nightOf
  simp only [rng8 hc.1 (show c < 8 by omega), rng8 hd.1 (show d < 8 by omega), plc_idx _ hc.1 (show c < 8 by omega), plc_idx _ hd.1 (show d < 8 by omega), Option.bind_some]
  refine ⟨_, rfl, ?_⟩
  have h1 := posn_range order c
  have h2 := posn_range order d
  rw [wid (by omega) (by omega)]
  unfold byKey
  by_cases h : posn order c < posn order d
  · rw [decide_eq_true h, decide_eq_true (by omega)]
  · rw [decide_eq_false h, decide_eq_false (by omega)]
theorem pickL_mem {y : Yard} {lanes order : List Int} {g : Int → Bool} {b : Int} {k : Nat} {c : Int} : c ∈ pickL y lanes order g b k ↔ c ∈ rangeI k ∧ g c = false ∧ bef lanes order c b = true := by
  unfold pickL
  rw [List.mem_filter]
  simp
theorem shuntL_mem {y : Yard} {lanes order : List Int} {g : Int → Bool} {b : Int} {c : Int} : c ∈ shuntL y lanes order g b ↔ c ∈ rangeI y.buses.length ∧ g c = false ∧ bef lanes order c b = true := by
  unfold shuntL
  rw [(insS_perm _ _).mem_iff, pickL_mem]
theorem pickL_len (y : Yard) (lanes order : List Int) (g : Int → Bool) (b : Int) (k : Nat) : (pickL y lanes order g b k).length ≤ k := by
  unfold pickL
  exact Nat.le_trans (List.length_filter_le _ _) (by rw [rangeI_len]; exact Nat.le_refl _)
theorem morning_fold (n : Nat) (y : Yard) (lanes order broken : List Int) (hl : lanes.length = y.buses.length) (hb : y.buses.length ≤ 8) (ho : order.length ≤ 1000) (hn : 30 ≤ n)
    (step : (List (List Int)) × Some → Int → Option ((List (List Int)) × Some))
    (hstep : step = fun s x15 => ((lane_night_morning_l1 n (nightOf y lanes order broken) x15 ([] : List Int) 0 s.2).bind fun o_104 =>
      ((slices_SortFunc_int_int n o_104.1 (fun (y0 : Int) (y1 : Int) => lane_night_morning_1 n y0 y1 (nightOf y lanes order broken))).bind fun x42 =>
      ((rng 8 x15).bind fun x44 => ((Some.setI o_104.2 x15 true).bind fun u_233 => ((app s.1 ([x42] : List (List Int))).bind fun x48 => some (x48, u_233)))))) ) :
    ∀ (ts : List Int) (out : List (List Int)) (g : Int → Bool), (∀ b ∈ ts, b ∈ rangeI y.buses.length) → out.length + ts.length ≤ 1000 → ∃ u, ts.foldlM step (out, someOf g) = some (out ++ morningR y lanes order g ts, u)
  | [], out, g, _, _ => ⟨someOf g, by simp [morningR]⟩
  | b :: r, out, g, h, hle => by
    have hbb := h b (by simp)
    have hbr := mem_rangeI.1 hbb
    have e1 := morning_l1_eq y lanes order broken hl hb g b hbb n 0 (by omega) (by omega)
    rw [show ((0 : Nat) : Int) = 0 from rfl, show pickL y lanes order g b 0 = [] from rfl, show (someOf fun x => g x || isIn [] x) = someOf g from someOf_congr fun x => by simp [isIn]] at e1
    have hlen := pickL_len y lanes order g b y.buses.length
    have e2 := SortFunc_eq n (fun y0 y1 => lane_night_morning_1 n y0 y1 (nightOf y lanes order broken)) (byKey (posn order)) (pickL y lanes order g b y.buses.length) (by omega)
      (fun c hc d hd => morning_cmp n y lanes order broken hb ho (pickL_mem.1 hc).1 (pickL_mem.1 hd).1) (by omega)
    have e3 : (someOf fun x => if x = b then true else (g x || isIn (pickL y lanes order g b y.buses.length) x)) = someOf (goneN y lanes order g b) := someOf_congr fun x => by
      unfold goneN shuntL
      rw [isIn_perm (insS_perm _ _)]
    have hs : step (out, someOf g) b = some (out ++ [shuntL y lanes order g b], someOf (goneN y lanes order g b)) := by
      rw [hstep]
      simp only [e1, Option.bind_some, e2, rng8 hbr.1 (show b < 8 by omega), some_set _ hbr.1 (show b < 8 by omega), e3]
      rw [appOk _ _ (by simp at hle ⊢; omega)]
      rfl
    obtain ⟨u, ih⟩ := morning_fold n y lanes order broken hl hb ho hn step hstep r (out ++ [shuntL y lanes order g b]) (goneN y lanes order g b) (fun z hz => h z (by simp [hz])) (by simp at hle ⊢; omega)
    refine ⟨u, ?_⟩
    rw [List.foldlM_cons, hs]
    show (r.foldlM step (out ++ [shuntL y lanes order g b], someOf (goneN y lanes order g b))) = _
    rw [ih, morningR, List.append_assoc]
    rfl
theorem morning_eq (n : Nat) (y : Yard) (lanes order broken : List Int) (hl : lanes.length = y.buses.length) (hb : y.buses.length ≤ 8) (hv : y.buses.all okBus = true) (ho : order.length ≤ 1000) (hn : 30 ≤ n) :
    lane_night_morning n (nightOf y lanes order broken) = some (morningR y lanes order (fun _ => false) (turnsL y (isIn broken))) := by
  unfold lane_night_morning
  rw [show (nightOf y lanes order broken).yard = y from rfl, show (nightOf y lanes order broken).broken = someOf (isIn broken) from rfl, turns_eq n y _ hb hv (by omega), Option.bind_some]
  have hlen := turnsL_len y (isIn broken)
  obtain ⟨u, h1⟩ := morning_fold n y lanes order broken hl hb ho hn _ rfl (turnsL y (isIn broken)) [] (fun _ => false) (fun b hbm => (turnsL_mem.1 hbm).1) (by simp; omega)
  have h2 := values_eq n _ (([] : List (List Int)), someOf fun _ => false) (turnsL y (isIn broken)) (by omega) (by omega) |>.trans h1
  rw [show (Some.mk false false false false false false false false) = someOf (fun _ => false) from rfl]
  rw [h2]
  rfl
end Go.Proofs.Ythcbemnflgjadaa
namespace Go.Proofs.Ythcbemnflgjadaa
open Go Go.RowKit
theorem possR_spec (y : Yard) : ∀ (l pre : List Int), pre.Nodup → possR y pre l = true → (pre ++ l).Nodup ∧ ∀ b ∈ l, b ∈ rangeI y.buses.length
  | [], pre, hp, _ => by simpa using hp
  | b :: r, pre, hp, h => by
    unfold possR stepP at h
    simp only [Bool.and_eq_true, Bool.not_eq_true', Bool.or_eq_false_iff] at h
    obtain ⟨⟨h1, h2, _⟩, h4⟩ := h
    have hb : b ∉ pre := by simpa using h2
    have hp' : (pre ++ [b]).Nodup := by
      rw [List.nodup_append]
      refine ⟨hp, by simp, fun a ha c hc => ?_⟩
      simp at hc
      rintro rfl
      exact hb (hc ▸ ha)
    obtain ⟨q1, q2⟩ := possR_spec y r (pre ++ [b]) hp' h4
    refine ⟨by simpa using q1, fun c hc => ?_⟩
    rcases List.mem_cons.1 hc with rfl | hc
    · exact btw_range.1 h1
    · exact q2 c hc
theorem pigeon : ∀ (l m : List Int), l.Nodup → (∀ x ∈ l, x ∈ m) → m.length ≤ l.length → ∀ x ∈ m, x ∈ l
  | [], m, _, _, hl, x, hx => by
    have : m = [] := List.eq_nil_of_length_eq_zero (by simpa using hl)
    rw [this] at hx
    simp at hx
  | a :: l, m, hn, hs, hl, x, hx => by
    rw [List.nodup_cons] at hn
    by_cases hxa : x = a
    · simp [hxa]
    · have ha : a ∈ m := hs a (by simp)
      refine List.mem_cons_of_mem _ (pigeon l (m.erase a) hn.2 (fun z hz => ?_) ?_ x ((List.mem_erase_of_ne hxa).2 hx))
      · have hza : z ≠ a := fun h => hn.1 (h ▸ hz)
        exact (List.mem_erase_of_ne hza).2 (hs z (by simp [hz]))
      · rw [List.length_erase_of_mem ha]
        simp at hl
        omega
structure IsOrder (y : Yard) (order : List Int) : Prop where
  nd : order.Nodup
  len : order.length = y.buses.length
  mem : ∀ b, b ∈ order ↔ b ∈ rangeI y.buses.length
theorem isOrder_of {y : Yard} {order : List Int} (h : possB y order = true) : IsOrder y order := by
  unfold possB at h
  simp only [Bool.and_eq_true, decide_eq_true_eq] at h
  obtain ⟨h1, h2⟩ := possR_spec y order [] List.nodup_nil h.2
  rw [List.nil_append] at h1
  exact ⟨h1, h.1, fun b => ⟨h2 b, pigeon order (rangeI y.buses.length) h1 h2 (by rw [rangeI_len, h.1]; exact Nat.le_refl _) b⟩⟩
theorem posn_split {a : List Int} {b : Int} {r : List Int} (hn : (a ++ b :: r).Nodup) : posn (a ++ b :: r) b = a.length ∧ (∀ c ∈ a, posn (a ++ b :: r) c < a.length) ∧ (∀ c ∈ r, (a.length : Int) < posn (a ++ b :: r) c) := by
  rw [List.nodup_append] at hn
  obtain ⟨h1, h2, h3⟩ := hn
  rw [List.nodup_cons] at h2
  have hba : b ∉ a := fun h => h3 b h b (by simp) rfl
  refine ⟨?_, fun c hc => ?_, fun c hc => ?_⟩
  · unfold posn
    simp [List.idxOf_append, hba]
  · unfold posn
    have hl := List.idxOf_lt_length_iff.2 hc
    simp [List.idxOf_append, hc]
    omega
  · have hca : c ∉ a := fun h => h3 c h c (by simp [hc]) rfl
    have hcb : c ≠ b := fun h => h2.1 (h ▸ hc)
    unfold posn
    have hbc : (b == c) = false := by
      cases hq : (b == c) with
      | false => rfl
      | true => rw [beq_iff_eq] at hq; exact absurd hq.symm hcb
    simp [List.idxOf_append, hca, hc, List.idxOf_cons, hbc]
    omega
theorem order_sorted : ∀ (r a : List Int), (a ++ r).Nodup → r.Pairwise fun c d => posn (a ++ r) c ≤ posn (a ++ r) d
  | [], _, _ => List.Pairwise.nil
  | b :: r, a, hn => by
    obtain ⟨h1, h2, h3⟩ := posn_split hn
    rw [List.pairwise_cons]
    refine ⟨fun c hc => by rw [h1]; exact Int.le_of_lt (h3 c hc), ?_⟩
    have := order_sorted r (a ++ [b]) (by simpa using hn)
    simpa using this
theorem posn_inj {l : List Int} {a b : Int} (ha : a ∈ l) (hb : b ∈ l) (h : posn l a = posn l b) : a = b := by
  unfold posn at h
  simp only [List.contains_iff_mem, ha, hb, if_true] at h
  have h' : l.idxOf a = l.idxOf b := by omega
  have q1 := List.idxOf_lt_length_iff.2 ha
  have q2 := List.idxOf_lt_length_iff.2 hb
  have e1 := List.getElem_idxOf q1
  have e2 := List.getElem_idxOf q2
  rw [← e1, ← e2]
  congr 1
def refL (lanes : List Int) (gone : List Int) (b : Int) (rest : List Int) : List Int := (rest.takeWhile fun c => c != b).filter fun c => laneAt lanes c == laneAt lanes b && !gone.contains c
theorem ref_Morning_l2_eq (lanes order : List Int) (hl : lanes.length ≤ 100) (ho : order.length ≤ 100) (hr : ∀ c ∈ order, 0 ≤ c ∧ c < lanes.length) (b : Int) (hb : 0 ≤ b ∧ b < lanes.length) (hn : order.Nodup) (i : Nat) : ∀ (n k : Nat) (out : List (List Int)) (cur : List Int) (gone : List Int), 300 ≤ n + k → k ≤ order.length → out[i]? = some cur → cur.length + order.length ≤ 200 + k → gone.length + order.length ≤ 200 + k →
    ref_Morning_l2 n lanes order (i : Int) b out gone (k : Int) = some (out.set i (cur ++ refL lanes gone b (order.drop k)), gone ++ refL lanes gone b (order.drop k))
  | 0, k, out, cur, gone, h, hk, _, _, _ => by omega
  | n + 1, k, out, cur, gone, h, hk, hi, hc1, hc2 => by
    have hil : i < out.length := (List.getElem?_eq_some_iff.1 hi).1
    rw [ref_Morning_l2, lt_len]
    by_cases hx : k < order.length
    · simp only [hx, decide_true, cond_true, idxLt _ _ hx, Option.bind_some]
      have hck := hr order[k] (List.getElem_mem hx)
      rw [wnat k (by omega)]
      cases hq : (order[k] != b) with
      | false =>
        have : refL lanes gone b (order.drop k) = [] := by
          unfold refL
          rw [drop_get hx, List.takeWhile_cons, hq]
          rfl
        rw [this]
        simp only [cond_false, List.append_nil]
        have : out.set i cur = out := by
          apply List.ext_getElem?
          intro j
          by_cases hj : j = i
          · subst hj; rw [List.getElem?_set_self hil, hi]
          · rw [List.getElem?_set_ne (Ne.symm hj)]
        rw [this]
      | true =>
        simp only [cond_true, idx_lane lanes hck.1 hck.2, idx_lane lanes hb.1 hb.2, Option.bind_some]
        have hd : refL lanes gone b (order.drop k) = (if laneAt lanes order[k] == laneAt lanes b && !gone.contains order[k] then [order[k]] else []) ++ refL lanes gone b (order.drop (k + 1)) := by
          unfold refL
          rw [drop_get hx, List.takeWhile_cons, hq, if_pos rfl, List.filter_cons]
          split <;> rfl
        rw [hd]
        cases h1 : (laneAt lanes order[k] == laneAt lanes b) with
        | false =>
          simp only [cond_false, Option.bind_some, Bool.false_and, Bool.false_eq_true, if_false, List.nil_append]
          exact ref_Morning_l2_eq lanes order hl ho hr b hb hn i n (k + 1) out cur gone (by omega) (by omega) hi (by omega) (by omega)
        | true =>
          simp only [cond_true, has_eq n gone _ (by omega) (by omega), Option.bind_some]
          cases h2 : gone.contains order[k] with
          | true =>
            simp only [Bool.not_true, cond_false, Bool.and_false, Bool.false_eq_true, if_false, List.nil_append]
            exact ref_Morning_l2_eq lanes order hl ho hr b hb hn i n (k + 1) out cur gone (by omega) (by omega) hi (by omega) (by omega)
          | false =>
            have hset : idx out (i : Int) = some cur := by rw [idxN, hi]
            simp only [Bool.not_false, cond_true, Bool.and_true, if_true, hset, Option.bind_some]
            rw [appOk _ _ (by simp; omega)]
            simp only [Option.bind_some]
            rw [updN _ _ _ hil]
            simp only [Option.bind_some]
            rw [appOk _ _ (by simp; omega)]
            simp only [Option.bind_some]
            rw [ref_Morning_l2_eq lanes order hl ho hr b hb hn i n (k + 1) (out.set i (cur ++ [order[k]])) (cur ++ [order[k]]) (gone ++ [order[k]]) (by omega) (by omega) (List.getElem?_set_self hil) (by simp; omega) (by simp; omega)]
            have hsame : refL lanes (gone ++ [order[k]]) b (order.drop (k + 1)) = refL lanes gone b (order.drop (k + 1)) := by
              unfold refL
              apply List.filter_congr
              intro c hcm
              have hcd : c ∈ order.drop (k + 1) := (List.takeWhile_sublist _).mem hcm
              have hne : c ≠ order[k] := by
                have hn2 : (order.drop k).Nodup := List.Pairwise.sublist (List.drop_sublist k order) hn
                rw [drop_get hx, List.nodup_cons] at hn2
                exact fun he => hn2.1 (he ▸ hcd)
              have : (gone ++ [order[k]]).contains c = gone.contains c := by
                rw [Bool.eq_iff_iff]
                simp [hne]
              rw [this]
            rw [hsame, List.set_set, List.append_assoc, List.append_assoc]
    · have : k = order.length := by omega
      subst this
      have h0 : refL lanes gone b (order.drop order.length) = [] := by simp [refL]
      rw [h0]
      simp only [Nat.lt_irrefl, decide_false, cond_false, Option.bind_some, List.append_nil]
      have : out.set i cur = out := by
        apply List.ext_getElem?
        intro j
        by_cases hj : j = i
        · subst hj; rw [List.getElem?_set_self hil, hi]
        · rw [List.getElem?_set_ne (Ne.symm hj)]
      rw [this]
theorem takeWhile_split {a r : List Int} {b : Int} (h : b ∉ a) : (a ++ b :: r).takeWhile (fun c => c != b) = a := by
  rw [List.takeWhile_append_of_pos (fun c hc => by
    have : c ≠ b := fun he => h (he ▸ hc)
    simp [this]), List.takeWhile_cons]
  simp
theorem shunt_same {y : Yard} {lanes order : List Int} (hO : IsOrder y order) {g : Int → Bool} {gone : List Int} (hg : ∀ x, g x = gone.contains x) {b : Int} (hb : b ∈ rangeI y.buses.length) : shuntL y lanes order g b = refL lanes gone b order := by
  obtain ⟨a, r, rfl⟩ := List.append_of_mem ((hO.mem b).2 hb)
  obtain ⟨p1, p2, p3⟩ := posn_split hO.nd
  have hba : b ∉ a := by
    have := hO.nd
    rw [List.nodup_append] at this
    exact fun h => this.2.2 b h b (by simp) rfl
  have hna : a.Nodup := by have := hO.nd; rw [List.nodup_append] at this; exact this.1
  have key : ∀ c, c ∈ shuntL y lanes (a ++ b :: r) g b ↔ c ∈ refL lanes gone b (a ++ b :: r) := fun c => by
    rw [shuntL_mem]
    unfold refL bef
    rw [takeWhile_split hba, List.mem_filter, ← hO.mem c]
    simp only [Bool.and_eq_true, beq_iff_eq, decide_eq_true_eq, Bool.not_eq_true', p1, hg]
    constructor
    · rintro ⟨h1, h2, h3, h4⟩
      refine ⟨?_, h3, h2⟩
      rcases List.mem_append.1 h1 with h1 | h1
      · exact h1
      · rcases List.mem_cons.1 h1 with rfl | h1
        · rw [p1] at h4; omega
        · have := p3 c h1; omega
    · rintro ⟨h1, h2, h3⟩
      exact ⟨by simp [h1], h3, h2, p2 c h1⟩
  have hsorted : (refL lanes gone b (a ++ b :: r)).Pairwise fun c d => posn (a ++ b :: r) c ≤ posn (a ++ b :: r) d := by
    unfold refL
    rw [takeWhile_split hba]
    refine List.Pairwise.filter _ ?_
    exact List.Pairwise.sublist (List.sublist_append_left a (b :: r)) (order_sorted (a ++ b :: r) [] (by simpa using hO.nd))
  have hnd1 : (shuntL y lanes (a ++ b :: r) g b).Nodup := by
    unfold shuntL
    rw [(insS_perm _ _).nodup_iff]
    exact List.Pairwise.filter _ (rangeI_nodup _)
  have hnd2 : (refL lanes gone b (a ++ b :: r)).Nodup := by
    unfold refL
    rw [takeWhile_split hba]
    exact List.Pairwise.filter _ hna
  exact sorted_same (fun c hc d hd h => posn_inj ((hO.mem c).2 (shuntL_mem.1 hc).1) ((hO.mem d).2 (shuntL_mem.1 hd).1) h) (insS_byKey _ _) hsorted ((List.perm_ext_iff_of_nodup hnd1 hnd2).2 key)
theorem ref_Morning_l1_eq {y : Yard} {lanes order : List Int} (hO : IsOrder y order) (hl : lanes.length = y.buses.length) (hy : y.buses.length ≤ 8) (ts : List Int) (hts : ∀ b ∈ ts, b ∈ rangeI y.buses.length) (htl : ts.length ≤ 8) : ∀ (n i : Nat) (done : List (List Int)) (gone : List Int) (g : Int → Bool), 600 ≤ n + i → i ≤ ts.length → done.length = i → (∀ x, g x = gone.contains x) → gone.length ≤ 9 * i →
    ∃ u, ref_Morning_l1 n lanes order ts (done ++ List.replicate (ts.length - i) []) gone (i : Int) = some (done ++ morningR y lanes order g (ts.drop i), u)
  | 0, i, done, gone, g, h, hi, _, _, _ => by omega
  | n + 1, i, done, gone, g, h, hi, hd, hg, hgl => by
    rw [ref_Morning_l1, lt_len]
    by_cases hx : i < ts.length
    · simp only [hx, decide_true, cond_true, idxLt _ _ hx, Option.bind_some]
      have hbm := hts ts[i] (List.getElem_mem hx)
      have hbr := mem_rangeI.1 hbm
      have h1 := ref_Morning_l2_eq lanes order (by omega) (by rw [hO.len]; omega) (fun c hc => by have := mem_rangeI.1 ((hO.mem c).1 hc); omega) ts[i] (by omega) hO.nd i n 0 (done ++ List.replicate (ts.length - i) []) [] gone (by omega) (by omega)
        (by rw [List.getElem?_append_right (by omega), hd, Nat.sub_self, List.getElem?_replicate, if_pos (by omega)]) (by rw [hO.len]; simp; omega) (by rw [hO.len]; omega)
      rw [show ((0 : Nat) : Int) = 0 from rfl, List.drop_zero, List.nil_append] at h1
      have hsh := shunt_same (lanes := lanes) hO hg hbm
      rw [h1, Option.bind_some, ← hsh]
      have hsl : (shuntL y lanes order g ts[i]).length ≤ 8 := by
        unfold shuntL
        rw [insS_length]
        exact Nat.le_trans (pickL_len y lanes order g ts[i] _) hy
      rw [appOk _ _ (by simp; omega), Option.bind_some, wnat i (by omega), drop_get hx, morningR]
      have e1 : (done ++ List.replicate (ts.length - i) ([] : List Int)).set i (shuntL y lanes order g ts[i]) = (done ++ [shuntL y lanes order g ts[i]]) ++ List.replicate (ts.length - (i + 1)) [] := by
        rw [List.set_append_right _ _ (by omega), hd, Nat.sub_self, show ts.length - i = (ts.length - (i + 1)) + 1 by omega, List.replicate_succ]
        simp
      rw [e1]
      obtain ⟨u, ih⟩ := ref_Morning_l1_eq hO hl hy ts hts htl n (i + 1) (done ++ [shuntL y lanes order g ts[i]]) (gone ++ shuntL y lanes order g ts[i] ++ [ts[i]]) (goneN y lanes order g ts[i]) (by omega) (by omega) (by simp [hd]) (fun x => by
        unfold goneN
        rw [hg x, Bool.eq_iff_iff]
        by_cases hxe : x = ts[i]
        · simp [hxe]
        · simp [hxe, isIn]) (by simp; omega)
      exact ⟨u, by rw [ih, List.append_assoc]; rfl⟩
    · have : i = ts.length := by omega
      subst this
      exact ⟨gone, by simp [morningR]⟩
theorem ref_Morning_eq (n : Nat) {y : Yard} {lanes order broken : List Int} (hO : IsOrder y order) (hl : lanes.length = y.buses.length) (hy : y.buses.length ≤ 8) (hbr : broken.length ≤ 20) (hn : 600 ≤ n) :
    ref_Morning n y lanes order broken = some (morningR y lanes order (fun _ => false) (turnsL y (isIn broken))) := by
  unfold ref_Morning
  have hlen := turnsL_len y (isIn broken)
  rw [ref_Turns_eq n y broken (by omega) hbr (by omega), Option.bind_some, mkN _ _ (by omega), Option.bind_some]
  obtain ⟨u, h1⟩ := ref_Morning_l1_eq hO hl hy (turnsL y (isIn broken)) (fun b hb => (turnsL_mem.1 hb).1) (by omega) n 0 [] [] (fun _ => false) (by omega) (by omega) rfl (fun x => by simp) (by simp)
  rw [show ((0 : Nat) : Int) = 0 from rfl, List.drop_zero, List.nil_append, List.nil_append, Nat.sub_zero] at h1
  rw [h1]
  rfl
end Go.Proofs.Ythcbemnflgjadaa
namespace Go.Proofs.Ythcbemnflgjadaa
open Go Go.RowKit
theorem Concat_l1_eq (m : List (List Int)) (hm : m.length ≤ 1000) (hs : m.flatten.length ≤ 1000000) : ∀ (n i : Nat), m.length < n + i → i ≤ m.length →
    slices_Concat_int_int_l1 n m (i : Int) ((m.take i).flatten.length : Int) = some (m.flatten.length : Int)
  | 0, i, h, hi => by omega
  | n + 1, i, h, hi => by
    rw [slices_Concat_int_int_l1, lt_len]
    by_cases hx : i < m.length
    · have e1 : (m.take (i + 1)).flatten.length = (m.take i).flatten.length + m[i].length := by
        rw [List.take_succ_eq_append_getElem hx, List.flatten_append, List.length_append]
        simp
      have hle : (m.take (i + 1)).flatten.length ≤ m.flatten.length := by
        have := List.take_append_drop (i + 1) m
        have h2 := congrArg List.flatten this
        rw [List.flatten_append] at h2
        rw [← h2, List.length_append]
        omega
      simp only [hx, decide_true, cond_true, idxLt _ _ hx, Option.bind_some]
      rw [wnat i (by omega), wid (by omega) (by omega), show ((m.take i).flatten.length : Int) + (m[i].length : Int) = ((m.take (i + 1)).flatten.length : Int) by omega]
      rw [show decide (((m.take (i + 1)).flatten.length : Int) < 0) = false from decide_eq_false (by omega), cond_false]
      exact Concat_l1_eq m hm hs n (i + 1) (by omega) (by omega)
    · have : i = m.length := by omega
      subst this
      simp
theorem Concat_l2_eq (m : List (List Int)) (hm : m.length ≤ 1000) (hs : m.flatten.length ≤ 1000000) : ∀ (n i : Nat), m.length < n + i → i ≤ m.length →
    slices_Concat_int_int_l2 n m (m.take i).flatten (i : Int) = some m.flatten
  | 0, i, h, hi => by omega
  | n + 1, i, h, hi => by
    rw [slices_Concat_int_int_l2, lt_len]
    by_cases hx : i < m.length
    · have e1 : (m.take (i + 1)).flatten = (m.take i).flatten ++ m[i] := by
        rw [List.take_succ_eq_append_getElem hx, List.flatten_append]
        simp
      have hle : (m.take (i + 1)).flatten.length ≤ m.flatten.length := by
        have := List.take_append_drop (i + 1) m
        have h2 := congrArg List.flatten this
        rw [List.flatten_append] at h2
        rw [← h2, List.length_append]
        omega
      simp only [hx, decide_true, cond_true, idxLt _ _ hx, Option.bind_some]
      rw [appOk _ _ (by rw [e1, List.length_append] at hle; omega), Option.bind_some, wnat i (by omega), ← e1]
      exact Concat_l2_eq m hm hs n (i + 1) (by omega) (by omega)
    · have : i = m.length := by omega
      subst this
      simp
theorem Concat_eq (n : Nat) (m : List (List Int)) (hm : m.length ≤ 1000) (hs : m.flatten.length ≤ 1000000) (hn : m.length < n) : slices_Concat_int_int n m = some m.flatten := by
  unfold slices_Concat_int_int
  have e1 := Concat_l1_eq m hm hs n 0 (by omega) (by omega)
  have e2 := Concat_l2_eq m hm hs n 0 (by omega) (by omega)
  simp only [List.take_zero, List.flatten_nil, List.length_nil] at e1 e2
  rw [show ((0 : Nat) : Int) = 0 from rfl] at e1 e2
  rw [e1, Option.bind_some]
  unfold growO
  rw [if_pos ⟨by omega, by omega⟩, Option.bind_some, e2]
  rfl
theorem ints_l1_self (a : List Int) (ha : a.length ≤ 1000) : ∀ (n i : Nat), a.length < n + i → i ≤ a.length → law_ints_l1 n a a (i : Int) = some (Ex.go ())
  | 0, i, h, hi => by omega
  | n + 1, i, h, hi => by
    rw [law_ints_l1, lt_len]
    by_cases hx : i < a.length
    · simp only [hx, decide_true, cond_true, idxLt _ _ hx, Option.bind_some, bne_self_eq_false, cond_false]
      rw [wnat i (by omega)]
      exact ints_l1_self a ha n (i + 1) (by omega) (by omega)
    · have : i = a.length := by omega
      subst this
      simp
theorem ints_self (n : Nat) (a : List Int) (ha : a.length ≤ 1000) (hn : a.length < n) : law_ints n a a = some true := by
  unfold law_ints
  have e1 := ints_l1_self a ha n 0 (by omega) (by omega)
  rw [show ((0 : Nat) : Int) = 0 from rfl] at e1
  rw [bne_self_eq_false, cond_false, e1]
  rfl
theorem morningR_spec (y : Yard) (lanes order : List Int) : ∀ (ts : List Int) (g : Int → Bool), (morningR y lanes order g ts).flatten.Nodup ∧ ∀ c ∈ (morningR y lanes order g ts).flatten, g c = false ∧ c ∈ rangeI y.buses.length
  | [], g => by simp [morningR]
  | b :: r, g => by
    obtain ⟨h1, h2⟩ := morningR_spec y lanes order r (goneN y lanes order g b)
    rw [morningR, List.flatten_cons]
    have hg : ∀ c ∈ (morningR y lanes order (goneN y lanes order g b) r).flatten, c ∉ shuntL y lanes order g b ∧ g c = false ∧ c ∈ rangeI y.buses.length := fun c hc => by
      obtain ⟨q1, q2⟩ := h2 c hc
      unfold goneN at q1
      split at q1
      · cases q1
      · simp only [Bool.or_eq_false_iff] at q1
        exact ⟨by simpa [isIn] using q1.2, q1.1, q2⟩
    refine ⟨?_, fun c hc => ?_⟩
    · rw [List.nodup_append]
      refine ⟨?_, h1, fun c hc d hd => ?_⟩
      · unfold shuntL
        rw [(insS_perm _ _).nodup_iff]
        exact List.Pairwise.filter _ (rangeI_nodup _)
      · rintro rfl
        exact (hg c hd).1 hc
    · rcases List.mem_append.1 hc with hc | hc
      · have := shuntL_mem.1 hc
        exact ⟨this.2.1, this.1⟩
      · exact (hg c hc).2
def morningOf (y : Yard) (lanes order broken : List Int) : List (List Int) := morningR y lanes order (fun _ => false) (turnsL y (isIn broken))
def shuntsOf (y : Yard) (lanes order broken : List Int) : List Int := (rangeI y.buses.length).filter (isIn (morningOf y lanes order broken).flatten)
theorem rangeI_sorted : ∀ n, (rangeI n).Pairwise (· ≤ ·)
  | 0 => by simp [rangeI]
  | n + 1 => by
    rw [rangeI_succ, List.pairwise_append]
    refine ⟨rangeI_sorted n, by simp, fun a ha b hb => ?_⟩
    rw [mem_rangeI] at ha
    simp at hb
    omega
theorem flat_len {y : Yard} {m : List Int} (hn : m.Nodup) (hm : ∀ c ∈ m, c ∈ rangeI y.buses.length) : m.length ≤ y.buses.length := by
  rcases Nat.lt_or_ge y.buses.length m.length with h | h
  · exfalso
    have h2 := pigeon (m.take y.buses.length) (rangeI y.buses.length) (List.Pairwise.sublist (List.take_sublist _ _) hn) (fun x hx => hm x (List.mem_of_mem_take hx)) (by rw [rangeI_len, List.length_take]; omega)
    have h3 := hm _ (List.getElem_mem h)
    have h4 := h2 _ h3
    have h5 : (m.take y.buses.length ++ m.drop y.buses.length).Nodup := by rw [List.take_append_drop]; exact hn
    rw [List.nodup_append] at h5
    exact h5.2.2 _ h4 m[y.buses.length] (by rw [drop_get h]; exact List.mem_cons_self) rfl
  · exact h
theorem shunts_sort {y : Yard} {m : List Int} (hn : m.Nodup) (hm : ∀ c ∈ m, c ∈ rangeI y.buses.length) (hb : y.buses.length ≤ 1000) : sortO m = some ((rangeI y.buses.length).filter (isIn m)) := by
  refine sortO_is ?_ ?_ ?_
  · refine (List.perm_ext_iff_of_nodup hn (List.Pairwise.filter _ (rangeI_nodup _))).2 fun c => ?_
    rw [List.mem_filter]
    constructor
    · exact fun hc => ⟨hm c hc, by simpa [isIn] using hc⟩
    · exact fun hc => by simpa [isIn] using hc.2
  · exact List.Pairwise.filter _ (rangeI_sorted _)
  · have := flat_len hn hm
    omega
theorem Shunts_eq (n : Nat) (y : Yard) (lanes order broken : List Int) (hr : y.room.length ≤ 100) (hb : y.buses.length ≤ 100) (h1 : lanes.length ≤ 100) (h2 : order.length ≤ 100) (h3 : broken.length ≤ 100) (hn : 200 ≤ n) :
    lane_Shunts n y lanes order broken = some (if askedOf y lanes order broken = 0 then shuntsOf y lanes order broken else [], askedOf y lanes order broken) := by
  unfold lane_Shunts
  obtain ⟨x, e1, e2⟩ := night_eq n y lanes order broken hr hb h1 h2 h3 hn
  rw [e1, Option.bind_some]
  by_cases ha : askedOf y lanes order broken = 0
  · have hf : faultOf y = 0 := by
      unfold askedOf at ha
      split at ha
      · assumption
      · exact ha
    obtain ⟨v1, v0, v2, v3, v4, v5, v6⟩ := valid_of hf
    have hok : okNight y lanes order broken = true := by
      unfold askedOf at ha
      rw [if_pos hf] at ha
      split at ha
      · assumption
      · omega
    unfold okNight at hok
    simp only [Bool.and_eq_true] at hok
    have hll : lanes.length = y.buses.length := by have := hok.1; unfold lanesB at this; simp at this; exact this.1
    rw [e2 ha, ha, bne_self_eq_false, cond_false, morning_eq n y lanes order broken hll v2 v5 (by omega) (by omega), Option.bind_some]
    obtain ⟨s1, s2⟩ := morningR_spec y lanes order (turnsL y (isIn broken)) fun _ => false
    have hfl := flat_len s1 (fun c hc => (s2 c hc).2)
    have htl := turnsL_len y (isIn broken)
    rw [Concat_eq n _ (by rw [morningR_len]; omega) (by omega) (by rw [morningR_len]; omega), Option.bind_some, shunts_sort s1 (fun c hc => (s2 c hc).2) (by omega)]
    rfl
  · have hne : (askedOf y lanes order broken != 0) = true := by simp [ha]
    rw [hne, cond_true, if_neg ha]
theorem ref_Shunts_l1_eq (m : List (List Int)) (hm : m.length ≤ 1000) (hs : m.flatten.length ≤ 1000000) : ∀ (n i : Nat), m.length < n + i → i ≤ m.length → ref_Shunts_l1 n m (m.take i).flatten (i : Int) = some m.flatten
  | 0, i, h, hi => by omega
  | n + 1, i, h, hi => by
    rw [ref_Shunts_l1, lt_len]
    by_cases hx : i < m.length
    · have e1 : (m.take (i + 1)).flatten = (m.take i).flatten ++ m[i] := by
        rw [List.take_succ_eq_append_getElem hx, List.flatten_append]
        simp
      have hle : (m.take (i + 1)).flatten.length ≤ m.flatten.length := by
        have := List.take_append_drop (i + 1) m
        have h2 := congrArg List.flatten this
        rw [List.flatten_append] at h2
        rw [← h2, List.length_append]
        omega
      simp only [hx, decide_true, cond_true, idxLt _ _ hx, Option.bind_some]
      rw [appOk _ _ (by rw [e1, List.length_append] at hle; omega), Option.bind_some, wnat i (by omega), ← e1]
      exact ref_Shunts_l1_eq m hm hs n (i + 1) (by omega) (by omega)
    · have : i = m.length := by omega
      subst this
      simp
theorem ref_Shunts_l2_eq (y : Yard) (m : List Int) (hb : y.buses.length ≤ 100) (hm : m.length ≤ 100) : ∀ (n i : Nat), 300 ≤ n + i → i ≤ y.buses.length → ref_Shunts_l2 n y m ((rangeI i).filter (isIn m)) (i : Int) = some (m, (rangeI y.buses.length).filter (isIn m))
  | 0, i, h, hi => by omega
  | n + 1, i, h, hi => by
    rw [ref_Shunts_l2, lt_len]
    by_cases hx : i < y.buses.length
    · simp only [hx, decide_true, cond_true, has_eq n m _ (by omega) (by omega), Option.bind_some]
      have ih := ref_Shunts_l2_eq y m hb hm n (i + 1) (by omega) (by omega)
      rw [rangeI_succ, List.filter_append] at ih
      rw [wnat i (by omega), show m.contains (i : Int) = isIn m (i : Int) from rfl]
      have hlen := List.length_filter_le (isIn m) (rangeI i)
      rw [rangeI_len] at hlen
      cases hq : isIn m (i : Int) with
      | true =>
        simp only [cond_true]
        rw [appOk _ _ (by simp; omega), Option.bind_some, ← ih]
        simp [hq]
      | false =>
        simp only [cond_false]
        rw [← ih]
        simp [hq]
    · have : i = y.buses.length := by omega
      subst this
      simp
theorem okNight_of {y : Yard} {lanes order broken : List Int} (ha : askedOf y lanes order broken = 0) : faultOf y = 0 ∧ lanesB y lanes = true ∧ lanes.length = y.buses.length ∧ IsOrder y order ∧ brokB y broken = true ∧ possB y order = true := by
  have hf : faultOf y = 0 := by
    unfold askedOf at ha
    split at ha
    · assumption
    · exact ha
  have hok : okNight y lanes order broken = true := by
    unfold askedOf at ha
    rw [if_pos hf] at ha
    split at ha
    · assumption
    · omega
  unfold okNight at hok
  simp only [Bool.and_eq_true] at hok
  exact ⟨hf, hok.1, by have := hok.1; unfold lanesB at this; simp at this; exact this.1, isOrder_of hok.2.1, hok.2.2, hok.2.1⟩
theorem ref_Shunts_eq (n : Nat) {y : Yard} {lanes order broken : List Int} (ha : askedOf y lanes order broken = 0) (hbr : broken.length ≤ 20) (hn : 600 ≤ n) : ref_Shunts n y lanes order broken = some (shuntsOf y lanes order broken) := by
  obtain ⟨hf, hl, hll, hO, _, _⟩ := okNight_of ha
  obtain ⟨v1, v0, v2, v3, v4, v5, v6⟩ := valid_of hf
  unfold ref_Shunts
  rw [ref_Morning_eq n hO hll v2 hbr hn, Option.bind_some]
  obtain ⟨s1, s2⟩ := morningR_spec y lanes order (turnsL y (isIn broken)) fun _ => false
  have hfl := flat_len s1 (fun c hc => (s2 c hc).2)
  have htl := turnsL_len y (isIn broken)
  have e1 := ref_Shunts_l1_eq (morningR y lanes order (fun _ => false) (turnsL y (isIn broken))) (by rw [morningR_len]; omega) (by omega) n 0 (by rw [morningR_len]; omega) (by omega)
  have e2 := ref_Shunts_l2_eq y (morningR y lanes order (fun _ => false) (turnsL y (isIn broken))).flatten (by omega) (by omega) n 0 (by omega) (by omega)
  rw [show ((0 : Nat) : Int) = 0 from rfl, List.take_zero, List.flatten_nil] at e1
  rw [show ((0 : Nat) : Int) = 0 from rfl, show (rangeI 0).filter (isIn (morningR y lanes order (fun _ => false) (turnsL y (isIn broken))).flatten) = [] from rfl] at e2
  rw [e1, Option.bind_some, e2]
  rfl
theorem shuntsOf_len (y : Yard) (lanes order broken : List Int) : (shuntsOf y lanes order broken).length ≤ y.buses.length := by
  unfold shuntsOf
  exact Nat.le_trans (List.length_filter_le _ _) (by rw [rangeI_len]; exact Nat.le_refl _)
theorem gt15 (l : List Int) (h : l.length ≤ 15) : decide ((l.length : Int) > 15) = false := decide_eq_false (by omega)
theorem gt15' (l : List Int) (h : ¬ l.length ≤ 15) : decide ((l.length : Int) > 15) = true := decide_eq_true (by omega)
theorem laneShunts_law (y : Yard) (lanes order broken : List Int) : law_LaneShunts 700 y lanes order broken = some true := by
  unfold law_LaneShunts
  rw [Thin_eq]
  simp only [Option.bind_some, awake_true]
  by_cases h1 : y.room.length ≤ 6
  rotate_left
  · simp [h1]
  by_cases h2 : y.buses.length ≤ 12
  rotate_left
  · simp [h2]
  by_cases h3 : lanes.length ≤ 15
  rotate_left
  · simp [h1, h2, gt15' lanes h3]
  by_cases h4 : order.length ≤ 15
  rotate_left
  · simp [h1, h2, gt15 lanes h3, gt15' order h4]
  by_cases h5 : broken.length ≤ 15
  rotate_left
  · simp [h1, h2, gt15 lanes h3, gt15 order h4, gt15' broken h5]
  simp only [h1, h2, decide_true, Bool.and_self, Bool.not_true, cond_false, gt15 lanes h3, gt15 order h4, gt15 broken h5, Option.bind_some]
  rw [law_Yard_eq 700 y (by omega) (by omega) (by omega), law_list_eq 700 lanes (by omega), law_list_eq 700 order (by omega), law_list_eq 700 broken (by omega)]
  simp only [Option.bind_some]
  rw [Shunts_eq 700 y lanes order broken (by omega) (by omega) (by omega) (by omega) (by omega) (by omega), asked_eq 700 y lanes order broken (by omega) (by omega) (by omega) (by omega) (by omega) (by omega)]
  simp only [Option.bind_some]
  by_cases ha : askedOf y lanes order broken = 0
  · have hsl := shuntsOf_len y lanes order broken
    rw [ha, ref_Shunts_eq 700 ha (by omega) (by omega), if_pos rfl, Option.bind_some, ints_self 700 _ (by omega) (by omega)]
    simp
  · have hne : (askedOf y lanes order broken != 0) = true := by simp [ha]
    rw [hne, if_neg ha]
    simp
end Go.Proofs.Ythcbemnflgjadaa
