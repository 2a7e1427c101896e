/- Control, the plain law: the spans of the stops. -/
import Derived.Test.YtokchpjijlebiaaLawC
set_option linter.all false
namespace Go.Proofs.Ytokchpjijlebiaa
open Go Go.RowKit
/-- one pass of a trip over the maps of the stops -/
def stepL (ms : List (List (Int × Rg))) (f : Int → List (Int × Rg) → List (Int × Rg)) (pl : List (Int × Int)) : List (List (Int × Rg)) := pl.foldl (fun ms p => ms.modify p.1.toNat (f p.2)) ms
theorem stepL_length (f : Int → List (Int × Rg) → List (Int × Rg)) : ∀ (pl : List (Int × Int)) (ms : List (List (Int × Rg))), (stepL ms f pl).length = ms.length
  | [], _ => rfl
  | p :: r, ms => by
    show (stepL (ms.modify p.1.toNat (f p.2)) f r).length = _
    rw [stepL_length f r]; simp
theorem stepL_get (f : Int → List (Int × Rg) → List (Int × Rg)) : ∀ (pl : List (Int × Int)) (ms : List (List (Int × Rg))) (k : Nat), (pl.map Prod.fst).Nodup → (∀ p ∈ pl, 0 ≤ p.1) →
    (stepL ms f pl)[k]? = (ms[k]?).map fun m => match look? pl (k : Int) with | some t => f t m | none => m
  | [], ms, k, _, _ => by simp [stepL, look?]
  | p :: r, ms, k, hn, h0 => by
    show (stepL (ms.modify p.1.toNat (f p.2)) f r)[k]? = _
    rw [List.map_cons, List.nodup_cons] at hn
    rw [stepL_get f r _ k hn.2 (fun q hq => h0 q (List.mem_cons_of_mem _ hq)), List.getElem?_modify, look?]
    have hp := h0 p (by simp)
    by_cases hk : p.1 = (k : Int)
    · have hr : look? r (k : Int) = none := look?_none fun q hq hqk => hn.1 (by rw [hk, ← hqk]; exact List.mem_map_of_mem hq)
      have : p.1.toNat = k := by omega
      simp only [this, if_true, if_pos hk, hr]
      cases ms[k]? <;> rfl
    · have : p.1.toNat ≠ k := by omega
      simp only [this, hk, if_false]
      cases ms[k]? <;> rfl
theorem fold_step (g : List (Option (List (Int × Rg))) → Int → Int → Option (List (Option (List (Int × Rg))))) (f : Int → List (Int × Rg) → List (Int × Rg)) (st : Nat)
    (hg : ∀ (ms : List (List (Int × Rg))) (s : Nat) (t : Int), ms.length = st → s < st → g (ms.map some) (s : Int) t = some ((ms.modify s (f t)).map some)) : ∀ (pl : List (Int × Int)) (ms : List (List (Int × Rg))), ms.length = st → (∀ p ∈ pl, 0 ≤ p.1 ∧ p.1 < (st : Int)) →
    pl.foldlM (fun x p => g x p.1 p.2) (ms.map some) = some ((stepL ms f pl).map some)
  | [], ms, _, _ => rfl
  | p :: r, ms, hm, hp => by
    have h1 := hp p (by simp)
    rw [List.foldlM_cons]
    have : g (ms.map some) p.1 p.2 = some ((ms.modify p.1.toNat (f p.2)).map some) := by
      have := hg ms p.1.toNat p.2 hm (by omega)
      rwa [show ((p.1.toNat : Nat) : Int) = p.1 by omega] at this
    rw [this]
    exact fold_step g f st hg r _ (by simpa using hm) fun q hq => hp q (List.mem_cons_of_mem _ hq)
theorem map_modify_some {α : Type} (f : α → α) : ∀ (ms : List α) (s : Nat), (h : s < ms.length) → (ms.map some).set s (some (f ms[s])) = (ms.modify s f).map some := by
  intro ms s h
  apply List.ext_getElem?
  intro k
  rw [List.getElem?_map, List.getElem?_modify, List.getElem?_set]
  by_cases hk : s = k
  · subst hk; simp [h]
  · simp [hk]
/-- a stop's range of a trip -/
def spanAt (st : Int) (n : Nat) (p : (Trip × Times) × (Trip × Times)) (k : Int) : Option Rg := match look? (passL st p.1.1.turned p.1.2.turn p.1.2.legs n p.1.1.tm p.1.1.stop) k, look? (passL st p.2.1.turned p.2.2.turn p.2.2.legs n p.2.1.tm p.2.1.stop) k with
  | some a, some b => some ⟨a, b⟩
  | _, _ => none
/-- a trip's stops are the same, early and late -/
def Alike (st : Int) (n : Nat) (p : (Trip × Times) × (Trip × Times)) : Prop := ∀ k, look? (passL st p.1.1.turned p.1.2.turn p.1.2.legs n p.1.1.tm p.1.1.stop) k = none ↔ look? (passL st p.2.1.turned p.2.2.turn p.2.2.legs n p.2.1.tm p.2.1.stop) k = none
structure TripOk (r : Route) (p : Trip × Times) : Prop where
  q : Small p.2.turn p.2.legs
  len : p.2.legs.length = r.legs.length
  t : 2 * p.1.turned + 1 < (r.legs.length : Int) + 1
  tm0 : 0 ≤ p.1.tm
  tm1 : p.1.tm ≤ 100000
  s0 : 0 ≤ p.1.stop
  s1 : p.1.stop ≤ (r.legs.length : Int) + 1
theorem put?_new {K α : Type} [DecidableEq K] : ∀ {l : List (K × α)} {k : K} (x : α), (∀ p ∈ l, p.1 ≠ k) → put? l k x = l ++ [(k, x)]
  | [], _, _, _ => rfl
  | p :: r, k, x, h => by
    rw [put?, if_neg (h p (by simp)), put?_new x fun q hq => h q (List.mem_cons_of_mem _ hq)]
    rfl
theorem put?_old {K α : Type} [DecidableEq K] : ∀ {l : List (K × α)} {k : K} (x y : α), (∀ p ∈ l, p.1 ≠ k) → put? (l ++ [(k, x)]) k y = l ++ [(k, y)]
  | [], k, x, y, _ => by simp [put?]
  | p :: r, k, x, y, h => by
    rw [List.cons_append, put?, if_neg (h p (by simp)), put?_old x y fun q hq => h q (List.mem_cons_of_mem _ hq)]
    rfl
theorem look?_last {K α : Type} [DecidableEq K] : ∀ {l : List (K × α)} {k : K} (x : α), (∀ p ∈ l, p.1 ≠ k) → look? (l ++ [(k, x)]) k = some x
  | [], k, x, _ => by simp [look?]
  | p :: r, k, x, h => by
    rw [List.cons_append, look?, if_neg (h p (by simp)), look?_last x fun q hq => h q (List.mem_cons_of_mem _ hq)]
def g1 (i : Int) (s : List (Option (List (Int × Rg)))) (a b : Int) : Option (List (Option (List (Int × Rg)))) := (idx s a).bind fun x66 => x66.bind fun m => (upd s a (some (put? m i (Rg.mk b b)))).bind fun u => some u
def g2 (i : Int) (s : List (Option (List (Int × Rg)))) (a b : Int) : Option (List (Option (List (Int × Rg)))) := (idx s a).bind fun x87 => (idx s a).bind fun x92 => x92.bind fun m_514 => x87.bind fun m_527 => (upd s a (some (put? m_527 i (Rg.mk (lookD m_514 i ((Rg.mk 0 0) : Rg)).1.lo b)))).bind fun u => some u
theorem g1_eq (i : Int) (st : Nat) (ms : List (List (Int × Rg))) (s : Nat) (t : Int) (h1 : ms.length = st) (h2 : s < st) : g1 i (ms.map some) (s : Int) t = some ((ms.modify s (fun m => put? m i (Rg.mk t t))).map some) := by
  have hs : s < ms.length := by omega
  unfold g1
  rw [idxLt _ s (by simpa using hs)]
  simp only [Option.bind_some, List.getElem_map]
  rw [updN _ s _ (by simpa using hs)]
  simp only [Option.bind_some]
  rw [map_modify_some (fun m => put? m i (Rg.mk t t)) ms s hs]
theorem g2_eq (i : Int) (st : Nat) (ms : List (List (Int × Rg))) (s : Nat) (t : Int) (h1 : ms.length = st) (h2 : s < st) : g2 i (ms.map some) (s : Int) t = some ((ms.modify s (fun m => put? m i (Rg.mk (lookD m i ((Rg.mk 0 0) : Rg)).1.lo t))).map some) := by
  have hs : s < ms.length := by omega
  unfold g2
  rw [idxLt _ s (by simpa using hs)]
  simp only [Option.bind_some, List.getElem_map]
  rw [updN _ s _ (by simpa using hs)]
  simp only [Option.bind_some]
  rw [map_modify_some (fun m => put? m i (Rg.mk (lookD m i ((Rg.mk 0 0) : Rg)).1.lo t)) ms s hs]
theorem bind_map_true {α : Type} (x : Option α) : (x.bind fun s1 => some (s1, true)) = x.map fun s' => (s', true) := by cases x <;> rfl
/-- the spans of a stop, of the trips from some number on -/
def spansFrom (st : Int) (n : Nat) (k : Int) : Nat → List ((Trip × Times) × (Trip × Times)) → List (Int × Rg)
  | _, [] => []
  | i, p :: r => match spanAt st n p k with
    | some x => ((i : Int), x) :: spansFrom st n k (i + 1) r
    | none => spansFrom st n k (i + 1) r
theorem spans_l2_eq (w : Worked) (lo hi : List (Trip × Times)) (hl : w.route.legs.length ≤ 20) (hlen : lo.length = hi.length) (h1 : ∀ p ∈ lo, TripOk w.route p) (h2 : ∀ p ∈ hi, TripOk w.route p) (N : Nat) (hN : 60 ≤ N) (hN2 : N ≤ 1000) (h20 : lo.length ≤ 20)
    (hA : ∀ n, 30 ≤ n → n ≤ 1000 → ∀ p ∈ lo.zip hi, Alike ((w.route.legs.length : Int) + 1) n p ∧ ∀ k, spanAt ((w.route.legs.length : Int) + 1) n p k = spanAt ((w.route.legs.length : Int) + 1) 40 p k) : ∀ (n i : Nat) (ms : List (List (Int × Rg))), lo.length + 30 < n + i → n ≤ 1000 → i ≤ lo.length → ms.length = w.route.legs.length + 1 → (∀ m ∈ ms, ∀ p ∈ m, p.1 < (i : Int)) →
    control_worked_spans_l2 n w (lo.map Prod.fst, lo.map Prod.snd) (hi.map Prod.fst, hi.map Prod.snd) (ms.map some) (i : Int) = some (((List.range (w.route.legs.length + 1)).map fun (k : Nat) => (ms[k]?.getD []) ++ spansFrom ((w.route.legs.length : Int) + 1) 40 k i ((lo.zip hi).drop i)).map some)
  | 0, i, ms, h, _, hi', _, _ => by omega
  | n + 1, i, ms, h, hn, hi', hm, hkeys => by
    rw [control_worked_spans_l2]
    simp only []
    rw [lt_len, List.length_map]
    by_cases hx : i < lo.length
    · have hxh : i < hi.length := by omega
      have hz : i < (lo.zip hi).length := by simp; omega
      have o1 := h1 _ (List.getElem_mem hx)
      have o2 := h2 _ (List.getElem_mem hxh)
      have hmem : (lo[i], hi[i]) ∈ lo.zip hi := by
        have := List.getElem_mem hz
        rwa [List.getElem_zip] at this
      obtain ⟨hAl, hSp⟩ := hA n (by omega) (by omega) _ hmem
      simp only [hx, decide_true, cond_true]
      rw [idxLt _ i (by simpa using hx), idxLt _ i (by simpa using hx), idxLt _ i (by simpa using hxh), idxLt _ i (by simpa using hxh)]
      simp only [Option.bind_some, List.getElem_map, control_Route_passes]
      show ((control_Route_passes_1 n (fun s a b => (g1 i s a b).bind fun s1 => some (s1, true)) _ _ _ _).bind _) = _
      rw [passes_eq n _ (g1 i) (fun s a b => bind_map_true (g1 i s a b)) _ _ _ _ hl o1.q o1.len o1.t o1.tm0 o1.tm1 (by omega) (by omega) o1.s0 o1.s1]
      rw [fold_step (g1 i) _ (w.route.legs.length + 1) (g1_eq i _) _ _ hm (fun p hp => by
          have := passL_ge o1.t n _ _ p hp
          constructor <;> omega)]
      simp only [Option.bind_some]
      show ((control_Route_passes_1 n (fun s a b => (g2 i s a b).bind fun s1 => some (s1, true)) _ _ _ _).bind _) = _
      rw [passes_eq n _ (g2 i) (fun s a b => bind_map_true (g2 i s a b)) _ _ _ _ hl o2.q o2.len o2.t o2.tm0 o2.tm1 (by omega) (by omega) o2.s0 o2.s1]
      rw [fold_step (g2 i) _ (w.route.legs.length + 1) (g2_eq i _) _ _ (by rw [stepL_length]; exact hm) (fun p hp => by
          have := passL_ge o2.t n _ _ p hp
          constructor <;> omega)]
      simp only [Option.bind_some]
      rw [wnat i (by omega)]
      -- each stop's map
      have hget : ∀ k : Nat, (stepL (stepL ms (fun t m => put? m (i : Int) (Rg.mk t t)) (passL ((w.route.legs.length : Int) + 1) lo[i].1.turned lo[i].2.turn lo[i].2.legs n lo[i].1.tm lo[i].1.stop)) (fun t m => put? m (i : Int) (Rg.mk (lookD m (i : Int) ((Rg.mk 0 0) : Rg)).1.lo t)) (passL ((w.route.legs.length : Int) + 1) hi[i].1.turned hi[i].2.turn hi[i].2.legs n hi[i].1.tm hi[i].1.stop))[k]? = (ms[k]?).map fun m => m ++ (match spanAt ((w.route.legs.length : Int) + 1) 40 (lo[i], hi[i]) k with | some x => [((i : Int), x)] | none => []) := fun k => by
        rw [stepL_get _ _ _ k (passL_nodup o2.t n _ _) (fun p hp => (passL_ge o2.t n _ _ p hp).2.1), stepL_get _ _ _ k (passL_nodup o1.t n _ _) (fun p hp => (passL_ge o1.t n _ _ p hp).2.1), ← hSp]
        cases hmk : ms[k]? with
        | none => rfl
        | some m =>
          have hk : ∀ p ∈ m, p.1 ≠ (i : Int) := fun p hp => by
            have := hkeys m (List.mem_of_getElem? hmk) p hp
            omega
          have hal := hAl k
          simp only [] at hal
          simp only [Option.map_some, spanAt]
          cases hlo : look? (passL ((w.route.legs.length : Int) + 1) lo[i].1.turned lo[i].2.turn lo[i].2.legs n lo[i].1.tm lo[i].1.stop) (k : Int) with
          | none =>
            rw [hal.1 hlo]
            simp
          | some a =>
            cases hhi : look? (passL ((w.route.legs.length : Int) + 1) hi[i].1.turned hi[i].2.turn hi[i].2.legs n hi[i].1.tm hi[i].1.stop) (k : Int) with
            | none => rw [hal.2 hhi] at hlo; cases hlo
            | some b =>
              simp only [put?_new _ hk, put?_old _ _ hk, lookD, look?_last _ hk]
      rw [spans_l2_eq w lo hi hl hlen h1 h2 N hN hN2 h20 hA n (i + 1) _ (by omega) (by omega) (by omega) (by rw [stepL_length, stepL_length]; exact hm) (fun m hm' p hp => by
        obtain ⟨k, hk⟩ := List.mem_iff_getElem?.1 hm'
        rw [hget k] at hk
        obtain ⟨m0, h3, rfl⟩ := Option.map_eq_some_iff.1 hk
        rcases List.mem_append.1 hp with hp | hp
        · have := hkeys m0 (List.mem_of_getElem? h3) p hp
          omega
        · split at hp
          · simp at hp; subst hp; simp only; omega
          · simp at hp)]
      congr 2
      apply List.map_congr_left
      intro k hk
      rw [List.mem_range] at hk
      rw [hget k, drop_get hz, List.getElem_zip]
      have hkm : k < ms.length := by omega
      rw [List.getElem?_eq_getElem hkm]
      simp only [Option.map_some, Option.getD_some, spansFrom]
      cases spanAt ((w.route.legs.length : Int) + 1) 40 (lo[i], hi[i]) (k : Int) with
      | none => simp
      | some x => simp
    · have hxe : i = lo.length := by omega
      have hd : (lo.zip hi).drop i = [] := List.drop_eq_nil_of_le (by simp; omega)
      simp only [hx, decide_false, cond_false, hd, spansFrom, List.append_nil, Option.some.injEq]
      congr 1
      apply List.ext_getElem?
      intro k
      rw [List.getElem?_map]
      by_cases hk : k < w.route.legs.length + 1
      · rw [List.getElem?_range hk, List.getElem?_eq_getElem (by omega)]
        simp
        rw [List.getElem?_eq_getElem (by omega)]
        rfl
      · rw [List.getElem?_eq_none (by omega), List.getElem?_eq_none (by simp; omega)]
        rfl
end Go.Proofs.Ytokchpjijlebiaa
