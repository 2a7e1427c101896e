/- Control, the plain law: acts; the worst gaps of all stops. -/
import Derived.Test.YtokchpjijlebiaaLawE
set_option linter.all false
namespace Go.Proofs.Ytokchpjijlebiaa
open Go Go.RowKit
def okAct (r : Route) (a : Acts) (i : Nat) : Bool := decide (0 ≤ a.holds[i]! ∧ a.holds[i]! ≤ 2) && (decide (a.turns[i]! = -1) || decide ((r.buses[i]!).stop ≤ a.turns[i]! ∧ a.turns[i]! ≤ (((r.legs.length + 1) / 2 : Nat) : Int) - 2))
def actsB (r : Route) (a : Acts) : Bool := decide (a.holds.length = r.buses.length ∧ a.turns.length = r.buses.length ∧ a.spares.length = r.spares.length) && (List.range r.buses.length).all (okAct r a)
theorem ref_places_eq (n : Nat) (r : Route) (h : r.legs.length ≤ 20) : ref_Places n r = some ((((r.legs.length + 1) / 2 : Nat) : Int)) := by
  unfold ref_Places
  rw [wid (x := (r.legs.length : Int) + 1) (by omega) (by omega), show ((r.legs.length : Int) + 1) = ((r.legs.length + 1 : Nat) : Int) by omega, show Int.tdiv ((r.legs.length + 1 : Nat) : Int) 2 = (((r.legs.length + 1) / 2 : Nat) : Int) from rfl, wid (by omega) (by omega)]
theorem turns_eq (n : Nat) (r : Route) (b : Bus) (t : Int) (h : r.legs.length ≤ 20) : control_Route_turns n r b t = some (decide (t = -1) || decide (b.stop ≤ t ∧ t ≤ (((r.legs.length + 1) / 2 : Nat) : Int) - 2)) := by
  unfold control_Route_turns
  rw [places_eq n r h]
  simp only [Option.bind_some, within_eq]
  rw [wid (by omega) (by omega)]
  by_cases ht : t = -1
  · simp [ht]
  · rw [beq_eq_false_iff_ne.2 ht]
    simp [ht]
theorem areActs_l1_eq (r : Route) (a : Acts) (hl : r.legs.length ≤ 20) (hb : r.buses.length ≤ 20) (h1 : a.holds.length = r.buses.length) (h2 : a.turns.length = r.buses.length) : ∀ (n i : Nat), r.buses.length < n + i → i ≤ r.buses.length → ref_AreActs_l1 n r a (i : Int) = some (if ((List.range r.buses.length).drop i).all (okAct r a) then Ex.go () else Ex.ret false)
  | 0, i, h, hi => by omega
  | n + 1, i, h, hi => by
    rw [ref_AreActs_l1, lt_len]
    by_cases hx : i < r.buses.length
    · have q1 : i < a.holds.length := by omega
      have q2 : i < a.turns.length := by omega
      have q6 : i < (List.range r.buses.length).length := by simpa using hx
      simp only [hx, decide_true, cond_true, idxLt _ _ hx, idxLt _ _ q1, idxLt _ _ q2, Option.bind_some, ref_In_eq, ref_places_eq n r hl]
      rw [drop_get q6, List.all_cons, List.getElem_range]
      have IH := areActs_l1_eq r a hl hb h1 h2 n (i + 1) (by omega) (by omega)
      rw [wid (x := (((r.legs.length + 1) / 2 : Nat) : Int) - 2) (by omega) (by omega), wnat i (by omega), IH]
      unfold okAct
      rw [bang _ _ hx, bang _ _ q1, bang _ _ q2]
      by_cases b1 : 0 ≤ a.holds[i] ∧ a.holds[i] ≤ 2
      · simp only [b1, and_self, decide_true, Bool.not_true, cond_false, Bool.true_and]
        by_cases b2 : a.turns[i] = -1
        · simp [b2]
        · have : (a.turns[i] != -1) = true := by simpa using b2
          simp only [this, cond_true, b2, decide_false, Bool.false_or]
          by_cases b3 : (r.buses[i]).stop ≤ a.turns[i] ∧ a.turns[i] ≤ (((r.legs.length + 1) / 2 : Nat) : Int) - 2
          · simp only [b3, and_self, decide_true, Bool.not_true, cond_false, Bool.true_and]
          · simp only [b3, decide_false, Bool.not_false, cond_true, Bool.false_and]
            rfl
      · simp only [b1, decide_false, Bool.not_false, cond_true, Bool.false_and]
        rfl
    · have : i = r.buses.length := by omega
      have hd : (List.range r.buses.length).drop r.buses.length = [] := List.drop_eq_nil_of_le (by simp)
      simp [this, hd]
theorem acts_l1_eq (r : Route) (a : Acts) (hl : r.legs.length ≤ 20) (hb : r.buses.length ≤ 20) (h1 : a.holds.length = r.buses.length) (h2 : a.turns.length = r.buses.length) : ∀ (n i : Nat), r.buses.length < n + i → i ≤ r.buses.length → control_Route_acts_l1 n r a (i : Int) = some (if ((List.range r.buses.length).drop i).all (okAct r a) then Ex.go () else Ex.ret 2)
  | 0, i, h, hi => by omega
  | n + 1, i, h, hi => by
    rw [control_Route_acts_l1, lt_len]
    by_cases hx : i < r.buses.length
    · have q1 : i < a.holds.length := by omega
      have q2 : i < a.turns.length := by omega
      have q6 : i < (List.range r.buses.length).length := by simpa using hx
      simp only [hx, decide_true, cond_true, idxLt _ _ hx, idxLt _ _ q1, idxLt _ _ q2, Option.bind_some, within_eq, turns_eq n r _ _ hl]
      rw [drop_get q6, List.all_cons, List.getElem_range]
      have IH := acts_l1_eq r a hl hb h1 h2 n (i + 1) (by omega) (by omega)
      rw [wnat i (by omega), IH]
      unfold okAct
      rw [bang _ _ hx, bang _ _ q1, bang _ _ q2]
      cases decide (0 ≤ a.holds[i] ∧ a.holds[i] ≤ 2) with
      | false => rfl
      | true =>
        simp only [Bool.not_true, cond_false, Bool.true_and]
        cases (decide (a.turns[i] = -1) || decide ((r.buses[i]).stop ≤ a.turns[i] ∧ a.turns[i] ≤ (((r.legs.length + 1) / 2 : Nat) : Int) - 2)) with
        | false => rfl
        | true => rfl
    · have : i = r.buses.length := by omega
      have hd : (List.range r.buses.length).drop r.buses.length = [] := List.drop_eq_nil_of_le (by simp)
      simp [this, hd]
theorem ref_AreActs_eq (n : Nat) (r : Route) (a : Acts) (hn : 50 ≤ n) (hl : r.legs.length ≤ 20) (hb : r.buses.length ≤ 20) : ref_AreActs n r a = some (actsB r a) := by
  unfold ref_AreActs actsB
  by_cases h1 : a.holds.length = r.buses.length
  · by_cases h2 : a.turns.length = r.buses.length
    · by_cases h3 : a.spares.length = r.spares.length
      · have e1 := areActs_l1_eq r a hl hb h1 h2 n 0 (by omega) (by omega)
        simp only [Int.natCast_zero, List.drop_zero] at e1
        simp only [h1, h2, h3, bne_self_eq_false, cond_false, Option.bind_some, e1, and_self, decide_true, Bool.true_and]
        cases (List.range r.buses.length).all (okAct r a) <;> rfl
      · have : (((a.spares.length : Nat) : Int) != ((r.spares.length : Nat) : Int)) = true := by simp; omega
        simp only [h1, h2, h3, this, bne_self_eq_false, cond_false, cond_true, Option.bind_some, and_false, decide_false, Bool.false_and]
    · have : (((a.turns.length : Nat) : Int) != ((r.buses.length : Nat) : Int)) = true := by simp; omega
      simp only [h1, h2, this, bne_self_eq_false, cond_false, cond_true, Option.bind_some, false_and, and_false, decide_false, Bool.false_and]
  · have : (((a.holds.length : Nat) : Int) != ((r.buses.length : Nat) : Int)) = true := by simp; omega
    simp only [h1, this, cond_true, Option.bind_some, false_and, decide_false, Bool.false_and]
theorem acts_eq (n : Nat) (r : Route) (a : Acts) (hn : 50 ≤ n) (hl : r.legs.length ≤ 20) (hb : r.buses.length ≤ 20) (hs : r.spares.length ≤ 20) : control_Route_acts n r a = some (if faultOf r ≠ 0 then faultOf r else if actsB r a then 0 else 2) := by
  unfold control_Route_acts actsB
  rw [check_eq n r hn hl hb hs]
  by_cases h0 : ¬ (faultOf r = 0)
  · have : (faultOf r != 0) = true := by simpa using h0
    simp [this, h0]
  replace h0 := Decidable.not_not.1 h0
  simp only [h0, bne_self_eq_false, cond_false, Option.bind_some, ne_eq, not_true_eq_false, if_false]
  by_cases h1 : a.holds.length = r.buses.length
  · by_cases h2 : a.turns.length = r.buses.length
    · by_cases h3 : a.spares.length = r.spares.length
      · have e1 := acts_l1_eq r a hl hb h1 h2 n 0 (by omega) (by omega)
        simp only [Int.natCast_zero, List.drop_zero] at e1
        simp only [h1, h2, h3, bne_self_eq_false, cond_false, Option.bind_some, e1, and_self, decide_true, Bool.true_and]
        cases (List.range r.buses.length).all (okAct r a) <;> rfl
      · have : (((a.spares.length : Nat) : Int) != ((r.spares.length : Nat) : Int)) = true := by simp; omega
        simp only [h1, h2, h3, this, bne_self_eq_false, cond_false, cond_true, Option.bind_some, and_false, decide_false, Bool.false_and]
        rfl
    · have : (((a.turns.length : Nat) : Int) != ((r.buses.length : Nat) : Int)) = true := by simp; omega
      simp only [h1, h2, this, bne_self_eq_false, cond_false, cond_true, Option.bind_some, false_and, and_false, decide_false, Bool.false_and]
      rfl
  · have : (((a.holds.length : Nat) : Int) != ((r.buses.length : Nat) : Int)) = true := by simp; omega
    simp only [h1, this, cond_true, Option.bind_some, false_and, decide_false, Bool.false_and]
    rfl
/-- the worst gap of a stop that trips pass in some ranges -/
def soonest (m to_ : Int) (l : List Rg) : Int := l.foldl (fun e p => if p.lo > m then min e p.hi else e) to_
def marksOf (fr to_ : Int) (l : List Rg) : List Int := fr :: (l.filter fun p => decide (fr ≤ p.lo) && decide (p.lo ≤ to_)).map Rg.lo
def WR (fr to_ : Int) (l : List Rg) : Int := (marksOf fr to_ l).foldl (fun b m => max b (soonest m to_ l - m)) 0
theorem soonest_bnd (m : Int) : ∀ (l : List Rg) (to_ : Int), (∀ p ∈ l, p.lo ≤ p.hi) → m ≤ to_ → m ≤ soonest m to_ l ∧ soonest m to_ l ≤ to_
  | [], to_, _, h => ⟨h, Int.le_refl _⟩
  | p :: r, to_, hp, h => by
    have h1 := hp p (by simp)
    show m ≤ soonest m (if p.lo > m then min to_ p.hi else to_) r ∧ soonest m (if p.lo > m then min to_ p.hi else to_) r ≤ to_
    split
    · have := soonest_bnd m r (min to_ p.hi) (fun q hq => hp q (List.mem_cons_of_mem _ hq)) (by omega)
      omega
    · exact soonest_bnd m r to_ (fun q hq => hp q (List.mem_cons_of_mem _ hq)) h
theorem worstE_snd (m : Int) : ∀ (l : List (Int × Rg)) (to_ : Int), control_Route_worstE m to_ l = soonest m to_ (l.map Prod.snd)
  | [], _ => rfl
  | p :: r, to_ => worstE_snd m r _
theorem foldl_congr {α β : Type} {f g : β → α → β} : ∀ (l : List α) (b : β), (∀ b x, x ∈ l → f b x = g b x) → l.foldl f b = l.foldl g b
  | [], _, _ => rfl
  | x :: r, b, h => by
    rw [List.foldl_cons, List.foldl_cons, h b x (by simp)]
    exact foldl_congr r _ fun b y hy => h b y (List.mem_cons_of_mem _ hy)
theorem marksOf_bnd {fr to_ m : Int} {l : List Rg} (h : fr ≤ to_) (hm : m ∈ marksOf fr to_ l) : fr ≤ m ∧ m ≤ to_ := by
  rcases List.mem_cons.1 hm with rfl | hm
  · exact ⟨Int.le_refl _, h⟩
  · obtain ⟨p, hp, rfl⟩ := List.mem_map.1 hm
    have := (List.mem_filter.1 hp).2
    simpa using this
theorem worstL_eq (n : Nat) (r : Route) (l : List (Int × Rg)) (hn : 60 ≤ n) (hl : l.length ≤ 20) (hp : ∀ p ∈ l.map Prod.snd, p.lo ≤ p.hi) (h0 : 0 ≤ r.fr) (h1 : r.fr ≤ r.to_) (h2 : r.to_ ≤ 2000) : control_Route_worstL n r (IMap.mk l) = some (WR r.fr r.to_ (l.map Prod.snd)) := by
  unfold control_Route_worstL WR
  rw [if_pos ⟨by simp only; omega, by simp only; omega⟩]
  have hM : control_Route_worstM r l = marksOf r.fr r.to_ (l.map Prod.snd) := by
    unfold control_Route_worstM marksOf
    rw [List.filter_map, List.map_map]
    rfl
  simp only []
  rw [hM]
  congr 1
  refine foldl_congr _ _ fun b m hm => ?_
  have q := marksOf_bnd h1 hm
  have := soonest_bnd m (l.map Prod.snd) r.to_ hp q.2
  rw [worstE_snd, wid (by omega) (by omega)]
theorem waits_l1_eq (w : Worked) (sp : List (List (Int × Rg))) (hs : sp.length ≤ 50) (hl : ∀ l ∈ sp, l.length ≤ 20 ∧ ∀ p ∈ l.map Prod.snd, p.lo ≤ p.hi) (h0 : 0 ≤ w.route.fr) (h1 : w.route.fr ≤ w.route.to_) (h2 : w.route.to_ ≤ 2000) : ∀ (n i : Nat) (acc : List Int), sp.length + 60 < n + i → i ≤ sp.length → acc.length = i →
    control_worked_waits_l1 n w (sp.map IMap.mk) acc (i : Int) = some (acc ++ (sp.drop i).map fun l => WR w.route.fr w.route.to_ (l.map Prod.snd))
  | 0, i, acc, h, hi, _ => by omega
  | n + 1, i, acc, h, hi, ha => by
    rw [control_worked_waits_l1, lt_len, List.length_map]
    by_cases hx : i < sp.length
    · simp only [hx, decide_true, cond_true]
      rw [idxLt _ i (by simpa using hx)]
      simp only [Option.bind_some, List.getElem_map]
      have := hl _ (List.getElem_mem hx)
      rw [worstL_eq n w.route _ (by omega) this.1 this.2 h0 h1 h2]
      simp only [Option.bind_some]
      rw [appOk _ _ (by simp; omega)]
      simp only [Option.bind_some]
      rw [wnat i (by omega), waits_l1_eq w sp hs hl h0 h1 h2 n (i + 1) _ (by omega) (by omega) (by simp; omega), drop_get hx, List.append_assoc]
      rfl
    · have : i = sp.length := by omega
      simp [this]
end Go.Proofs.Ytokchpjijlebiaa
