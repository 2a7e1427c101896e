/- Control, the plain law: Worst, of a valid route and acts. -/
import Derived.Test.YtokchpjijlebiaaLawF
set_option linter.all false
namespace Go.Proofs.Ytokchpjijlebiaa
open Go Go.RowKit
structure ActsOk (r : Route) (a : Acts) : Prop where
  holds : a.holds.length = r.buses.length
  turns : a.turns.length = r.buses.length
  spares : a.spares.length = r.spares.length
  hold : ∀ i, i < r.buses.length → 0 ≤ a.holds[i]! ∧ a.holds[i]! ≤ 2
  turn : ∀ i, i < r.buses.length → a.turns[i]! = -1 ∨ (r.buses[i]!).stop ≤ a.turns[i]! ∧ a.turns[i]! ≤ (((r.legs.length + 1) / 2 : Nat) : Int) - 2
theorem actsOk_of {r : Route} {a : Acts} (h : actsB r a = true) : ActsOk r a := by
  simp only [actsB, Bool.and_eq_true, decide_eq_true_eq, List.all_eq_true, List.mem_range] at h
  obtain ⟨⟨h1, h2, h3⟩, h4⟩ := h
  refine ⟨h1, h2, h3, fun i hi => ?_, fun i hi => ?_⟩ <;>
  · have := h4 i hi
    simp only [okAct, Bool.and_eq_true, Bool.or_eq_true, decide_eq_true_eq] at this
    first | exact this.1 | exact this.2
/-- an end of each range -/
structure AtEnd (f : Rg → Int) : Prop where
  le : ∀ x : Rg, x.lo ≤ x.hi → x.lo ≤ f x ∧ f x ≤ x.hi
theorem AtEnd.low : AtEnd Rg.lo := ⟨fun _ h => ⟨Int.le_refl _, h⟩⟩
theorem AtEnd.high : AtEnd Rg.hi := ⟨fun _ h => ⟨h, Int.le_refl _⟩⟩
def busE (r : Route) (a : Acts) (f : Rg → Int) (i : Nat) : Trip × Times := (⟨(r.buses[i]!).stop, f (r.buses[i]!).tm + a.holds[i]! * r.unit, a.turns[i]!⟩, ⟨r.legs.map f, f r.turn⟩)
def spE (r : Route) (f : Rg → Int) (j : Nat) : Trip × Times := (⟨(r.spares[j]!).stop, (r.spares[j]!).tm, -1⟩, ⟨r.legs.map f, 0⟩)
theorem bang_map {α β : Type} [Inhabited α] [Inhabited β] (g : α → β) (l : List α) (i : Nat) (h : i < l.length) : (l.map g)[i]! = g l[i]! := by
  rw [bang _ _ (by simpa using h), bang _ _ h, List.getElem_map]
theorem bang_rep {β : Type} [Inhabited β] (x : β) (n i : Nat) (h : i < n) : (List.replicate n x)[i]! = x := by
  rw [bang _ _ (by simpa using h), List.getElem_replicate]
theorem filterMap_congr' {α β : Type} {f g : α → Option β} : ∀ {l : List α}, (∀ x ∈ l, f x = g x) → l.filterMap f = l.filterMap g
  | [], _ => rfl
  | x :: r, h => by
    rw [List.filterMap_cons, List.filterMap_cons, h x (by simp), filterMap_congr' fun y hy => h y (List.mem_cons_of_mem _ hy)]
theorem trips_ends (r : Route) (a : Acts) (f : Rg → Int) : trips r a (endsOf r f) = (List.range r.buses.length).map (busE r a f) ++ (List.range r.spares.length).filterMap fun j => if a.spares[j]! then some (spE r f j) else none := by
  unfold trips
  congr 1
  · refine List.map_congr_left fun i hi => ?_
    rw [List.mem_range] at hi
    unfold busTrip busE endsOf
    simp only []
    rw [bang_map _ _ _ hi, bang_map _ _ _ hi, bang_rep _ _ _ (by omega)]
  · refine filterMap_congr' fun j hj => ?_
    rw [List.mem_range] at hj
    unfold spTrip spE endsOf
    simp only []
    rw [bang_rep _ _ _ (by omega)]
theorem sized_ends {r : Route} {a : Acts} {f : Rg → Int} (hf : AtEnd f) (V : Valid r) (A : ActsOk r a) : Sized r a (endsOf r f) := by
  refine ⟨by have := V.nb; omega, by have := V.ns; omega, A.holds, A.turns, A.spares, by simp [endsOf], by simp [endsOf], by simp [endsOf], fun x hx => ?_, V.unit, fun x hx => ?_⟩
  · obtain ⟨i, hi, rfl⟩ := List.mem_iff_getElem.1 hx
    have := A.hold i (by rw [← A.holds]; exact hi)
    rwa [bang _ _ hi] at this
  · simp only [endsOf] at hx
    obtain ⟨b, hb, rfl⟩ := List.mem_map.1 hx
    have := V.buses b hb
    have := hf.le b.tm (by omega)
    omega
theorem small_ends {r : Route} {f : Rg → Int} (hf : AtEnd f) (V : Valid r) : (∀ d ∈ r.legs.map f, 0 ≤ d ∧ d ≤ 300) ∧ 0 ≤ f r.turn ∧ f r.turn ≤ 300 := by
  refine ⟨fun d hd => ?_, ?_⟩
  · obtain ⟨x, hx, rfl⟩ := List.mem_map.1 hd
    have := V.legs x hx
    have := hf.le x (by omega)
    omega
  · have := V.turn
    have := hf.le r.turn (by omega)
    omega
theorem busE_ok {r : Route} {a : Acts} {f : Rg → Int} (hf : AtEnd f) (V : Valid r) (A : ActsOk r a) (i : Nat) (hi : i < r.buses.length) : TripOk r (busE r a f i) := by
  have hb := V.buses _ (List.getElem_mem hi)
  have h1 := A.hold i hi
  have h2 := A.turn i hi
  have h3 := mul_small h1.1 h1.2 V.unit.1 V.unit.2
  obtain ⟨s1, s2, s3⟩ := small_ends hf V
  have := V.nl
  rw [bang _ _ hi] at h2
  have h4 := hf.le (r.buses[i]).tm (by omega)
  refine ⟨⟨s2, s3, by simp [busE]; omega, s1⟩, by simp [busE], ?_, ?_, ?_, ?_, ?_⟩ <;> simp only [busE, bang _ _ hi] <;> omega
theorem spE_ok {r : Route} {f : Rg → Int} (hf : AtEnd f) (V : Valid r) (j : Nat) (hj : j < r.spares.length) : TripOk r (spE r f j) := by
  have hb := V.spares _ (List.getElem_mem hj)
  obtain ⟨s1, _, _⟩ := small_ends hf V
  have := V.nl
  refine ⟨⟨Int.le_refl _, by simp [spE], by simp [spE]; omega, s1⟩, by simp [spE], ?_, ?_, ?_, ?_, ?_⟩ <;> simp only [spE, bang _ _ hj] <;> omega
theorem trips_ok {r : Route} {a : Acts} {f : Rg → Int} (hf : AtEnd f) (V : Valid r) (A : ActsOk r a) : ∀ p ∈ trips r a (endsOf r f), TripOk r p := by
  rw [trips_ends]
  intro p hp
  rcases List.mem_append.1 hp with hp | hp
  · obtain ⟨i, hi, rfl⟩ := List.mem_map.1 hp
    exact busE_ok hf V A i (by simpa using hi)
  · obtain ⟨j, hj, h⟩ := List.mem_filterMap.1 hp
    split at h
    · cases h; exact spE_ok hf V j (by simpa using hj)
    · cases h
/-- the trips, early and late -/
def pairs (r : Route) (a : Acts) : List ((Trip × Times) × (Trip × Times)) := (List.range r.buses.length).map (fun i => (busE r a Rg.lo i, busE r a Rg.hi i)) ++ (List.range r.spares.length).filterMap fun j => if a.spares[j]! then some (spE r Rg.lo j, spE r Rg.hi j) else none
theorem zip_filterMap {α β γ : Type} (c : α → Bool) (f : α → β) (g : α → γ) : ∀ l : List α, (l.filterMap fun j => if c j then some (f j) else none).zip (l.filterMap fun j => if c j then some (g j) else none) = l.filterMap fun j => if c j then some (f j, g j) else none
  | [] => rfl
  | x :: r => by
    simp only [List.filterMap_cons]
    cases c x with
    | true => simp only [if_true, List.zip_cons_cons, zip_filterMap c f g r]
    | false => simp only [Bool.false_eq_true, if_false, zip_filterMap c f g r]
theorem len_filterMap {α β γ : Type} (c : α → Bool) (f : α → β) (g : α → γ) : ∀ l : List α, (l.filterMap fun j => if c j then some (f j) else none).length = (l.filterMap fun j => if c j then some (g j) else none).length
  | [] => rfl
  | x :: r => by
    simp only [List.filterMap_cons]
    cases c x with
    | true => simp only [if_true, List.length_cons, len_filterMap c f g r]
    | false => simp only [Bool.false_eq_true, if_false, len_filterMap c f g r]
theorem zip_trips (r : Route) (a : Acts) : (trips r a (endsOf r Rg.lo)).zip (trips r a (endsOf r Rg.hi)) = pairs r a := by
  rw [trips_ends, trips_ends, List.zip_append (by simp), pairs, zip_filterMap, List.zip_map']
theorem len_trips (r : Route) (a : Acts) : (trips r a (endsOf r Rg.lo)).length = (trips r a (endsOf r Rg.hi)).length := by
  rw [trips_ends, trips_ends, List.length_append, List.length_append, len_filterMap _ (spE r Rg.lo) (spE r Rg.hi)]
  simp
theorem len_trips_le (r : Route) (a : Acts) (f : Rg → Int) : (trips r a (endsOf r f)).length ≤ r.buses.length + r.spares.length := by
  rw [trips_ends, List.length_append, List.length_map, List.length_range]
  have := List.length_filterMap_le (fun j => if a.spares[j]! then some (spE r f j) else none) (List.range r.spares.length)
  rw [List.length_range] at this
  omega
theorem passL_fuel {st turned turn : Int} {legs : List Int} (ht : 2 * turned + 1 < st) : ∀ (n m : Nat) (tm s : Int), st - s < n → st - s < m → passL st turned turn legs n tm s = passL st turned turn legs m tm s
  | 0, m, tm, s, h1, h2 => by
    cases m with
    | zero => rfl
    | succ m => rw [passL, passL, if_neg (by omega)]
  | n + 1, 0, tm, s, h1, h2 => by rw [passL, passL, if_neg (by omega)]
  | n + 1, m + 1, tm, s, h1, h2 => by
    rw [passL, passL]
    by_cases hc : 0 ≤ s ∧ s < st
    · simp only [hc, and_self, if_true]
      congr 1
      by_cases hs : s = turned
      · simp only [hs, if_true]
        exact passL_fuel ht n m _ _ (by omega) (by omega)
      · simp only [hs, if_false]
        cases legs[s.toNat]? with
        | none => rfl
        | some d => exact passL_fuel ht n m _ _ (by omega) (by omega)
    · simp only [hc, if_false]
theorem spanAt_fuel {r : Route} {p : (Trip × Times) × (Trip × Times)} (hl : r.legs.length ≤ 20) (h1 : TripOk r p.1) (h2 : TripOk r p.2) {n : Nat} (hn : 30 ≤ n) (k : Int) : spanAt ((r.legs.length : Int) + 1) n p k = spanAt ((r.legs.length : Int) + 1) 40 p k := by
  have a1 := h1.s0
  have a2 := h2.s0
  unfold spanAt
  rw [passL_fuel h1.t n 40 _ _ (by omega) (by omega), passL_fuel h2.t n 40 _ _ (by omega) (by omega)]
/-- early and late, a trip passes the same stops, in this order of time -/
theorem pair_mono {r : Route} {a : Acts} (V : Valid r) {p : (Trip × Times) × (Trip × Times)} (hp : p ∈ pairs r a) (n : Nat) (k : Int) (A : ActsOk r a) :
    (look? (passL ((r.legs.length : Int) + 1) p.1.1.turned p.1.2.turn p.1.2.legs n p.1.1.tm p.1.1.stop) k = none ∧ look? (passL ((r.legs.length : Int) + 1) p.2.1.turned p.2.2.turn p.2.2.legs n p.2.1.tm p.2.1.stop) k = none) ∨
    ∃ x y, look? (passL ((r.legs.length : Int) + 1) p.1.1.turned p.1.2.turn p.1.2.legs n p.1.1.tm p.1.1.stop) k = some x ∧ look? (passL ((r.legs.length : Int) + 1) p.2.1.turned p.2.2.turn p.2.2.legs n p.2.1.tm p.2.1.stop) k = some y ∧ x ≤ y := by
  have hle : ∀ (k : Nat) (d d' : Int), (r.legs.map Rg.lo)[k]? = some d → (r.legs.map Rg.hi)[k]? = some d' → d ≤ d' := fun k d d' h1 h2 => by
    rw [List.getElem?_map] at h1 h2
    obtain ⟨x, hx, rfl⟩ := Option.map_eq_some_iff.1 h1
    rw [hx] at h2
    cases h2
    have := V.legs x (List.mem_of_getElem? hx)
    omega
  unfold pairs at hp
  rcases List.mem_append.1 hp with hp | hp
  · obtain ⟨i, hi, rfl⟩ := List.mem_map.1 hp
    have hi : i < r.buses.length := by simpa using hi
    have ok := busE_ok AtEnd.low V A i hi
    have hb := V.buses _ (List.getElem_mem hi)
    have := V.turn
    exact pass_mono (turn := r.turn.lo) (turn' := r.turn.hi) ok.t (by simp) hle (by omega) n _ _ _ k (by simp only [busE, bang _ _ hi]; omega)
  · obtain ⟨j, hj, h⟩ := List.mem_filterMap.1 hp
    split at h
    · cases h
      have ok := spE_ok AtEnd.low V j (by simpa using hj)
      exact pass_mono ok.t (by simp) hle (Int.le_refl _) n _ _ _ k (Int.le_refl _)
    · cases h
/-- the ranges in which trips pass a stop -/
def rangesAt (r : Route) (a : Acts) (k : Nat) : List Rg := (pairs r a).filterMap fun p => spanAt ((r.legs.length : Int) + 1) 40 p k
theorem spansFrom_snd (st : Int) (n : Nat) (k : Int) : ∀ (i : Nat) (l : List ((Trip × Times) × (Trip × Times))), (spansFrom st n k i l).map Prod.snd = l.filterMap fun p => spanAt st n p k
  | _, [] => rfl
  | i, p :: r => by
    rw [spansFrom, List.filterMap_cons]
    cases spanAt st n p k with
    | none => exact spansFrom_snd st n k (i + 1) r
    | some x => simp only [List.map_cons, spansFrom_snd st n k (i + 1) r]
theorem ranges_le {r : Route} {a : Acts} (V : Valid r) (A : ActsOk r a) (k : Nat) : ∀ x ∈ rangesAt r a k, x.lo ≤ x.hi := fun x hx => by
  obtain ⟨p, hp, h⟩ := List.mem_filterMap.1 hx
  unfold spanAt at h
  rcases pair_mono V hp 40 k A with ⟨h1, h2⟩ | ⟨u, v, h1, h2, h3⟩
  · rw [h1, h2] at h; cases h
  · rw [h1, h2] at h; cases h; exact h3
theorem mapM_id_some {α : Type} : ∀ l : List α, List.mapM id (l.map some) = some l
  | [] => rfl
  | x :: r => by rw [List.map_cons, List.mapM_cons, mapM_id_some r]; rfl
theorem spans_l1_eq (st : Nat) (x18 : List (Option (List (Int × Rg)))) (h18 : x18.length = st) (hb : st ≤ 50) : ∀ (n i : Nat) (x : List (Option (List (Int × Rg)))), st < n + i → i ≤ st → x.length = st → (∀ k, k < i → x[k]? = some (some [])) → control_worked_spans_l1 n x18 x (i : Int) = some (List.replicate st (some []))
  | 0, i, x, h, hi, _, _ => by omega
  | n + 1, i, x, h, hi, hx, hk => by
    rw [control_worked_spans_l1, lt_len, h18]
    by_cases hi' : i < st
    · simp only [hi', decide_true, cond_true]
      rw [idxLt _ i (by omega)]
      simp only [Option.bind_some]
      rw [updN _ i _ (by omega)]
      simp only [Option.bind_some]
      rw [wnat i (by omega), spans_l1_eq st x18 h18 hb n (i + 1) _ (by omega) (by omega) (by simpa using hx) fun k hk' => ?_]
      rw [List.getElem?_set]
      by_cases hik : i = k
      · subst hik; simp; omega
      · simp only [hik, if_false]; exact hk k (by omega)
    · simp only [hi', decide_false, cond_false, Option.some.injEq]
      apply List.ext_getElem?
      intro k
      by_cases hks : k < st
      · rw [hk k (by omega), List.getElem?_replicate]; simp [hks]
      · rw [List.getElem?_eq_none (by omega), List.getElem?_eq_none (by simp; omega)]
theorem spans_eq (n : Nat) (r : Route) (a : Acts) (V : Valid r) (A : ActsOk r a) (hn : 80 ≤ n) (hn2 : n ≤ 900) : control_worked_spans n ⟨r, a⟩ = some ((List.range (r.legs.length + 1)).map fun (k : Nat) => IMap.mk (spansFrom ((r.legs.length : Int) + 1) 40 k 0 (pairs r a))) := by
  have := V.nl
  have := V.nb
  have := V.ns
  unfold control_worked_spans
  simp only []
  rw [control_stops_eq n r (by omega), Option.bind_some]
  have eM : mk ((r.legs.length : Int) + 1) (none : Option (List (Int × Rg))) = some (List.replicate (r.legs.length + 1) none) := by
    rw [show ((r.legs.length : Int) + 1) = ((r.legs.length + 1 : Nat) : Int) by omega]; exact mkN _ _ (by omega)
  rw [eM, Option.bind_some]
  have e0 := spans_l1_eq (r.legs.length + 1) (List.replicate (r.legs.length + 1) (none : Option (List (Int × Rg)))) (by simp) (by omega) n 0 (List.replicate (r.legs.length + 1) none) (by omega) (by omega) (by simp) (fun k hk => by omega)
  simp only [Int.natCast_zero] at e0
  rw [e0, ends_eq n r Rg.lo (fun y0 => control_Range_low n y0) (fun x => rfl) (by omega) (by omega) (by omega) (by omega), ends_eq n r Rg.hi (fun y0 => control_Range_high n y0) (fun x => rfl) (by omega) (by omega) (by omega) (by omega), Option.bind_some, Option.bind_some]
  rw [trips_eq n r a _ (sized_ends AtEnd.low V A) (by omega), Option.bind_some, Option.bind_some, trips_eq n r a _ (sized_ends AtEnd.high V A) (by omega), Option.bind_some]
  have e2 := spans_l2_eq ⟨r, a⟩ (trips r a (endsOf r Rg.lo)) (trips r a (endsOf r Rg.hi)) (by simp only; omega) (len_trips r a) (trips_ok AtEnd.low V A) (trips_ok AtEnd.high V A) 60 (by omega) (by omega) (by have := len_trips_le r a Rg.lo; omega)
    (fun m hm1 hm2 p hp => by
      have hz := hp
      rw [zip_trips] at hz
      have hp1 : p.1 ∈ trips r a (endsOf r Rg.lo) := (List.of_mem_zip (show (p.1, p.2) ∈ _ from hp)).1
      have hp2 : p.2 ∈ trips r a (endsOf r Rg.hi) := (List.of_mem_zip (show (p.1, p.2) ∈ _ from hp)).2
      refine ⟨fun k => ?_, fun k => spanAt_fuel (by omega) (trips_ok AtEnd.low V A _ hp1) (trips_ok AtEnd.high V A _ hp2) hm1 k⟩
      rcases pair_mono V hz m k A with ⟨h1, h2⟩ | ⟨x, y, h1, h2, _⟩
      · simp only; rw [h1, h2]
      · simp only; rw [h1, h2]; simp) n 0 (List.replicate (r.legs.length + 1) []) (by have := len_trips_le r a Rg.lo; omega) (by omega) (by omega) (by simp) (fun m hm p hp => by
        rw [(List.mem_replicate.1 hm).2] at hp; cases hp)
  simp only [Int.natCast_zero, List.map_replicate, List.drop_zero] at e2
  rw [e2, Option.bind_some, mapM_id_some, Option.bind_some, List.map_map, Option.some.injEq]
  refine List.map_congr_left fun k hk => ?_
  rw [List.mem_range] at hk
  simp only [Function.comp, zip_trips, List.getElem?_replicate, hk, if_true, Option.getD_some, List.nil_append]
/-- The worst gaps of all stops. -/
def worstsOf (r : Route) (a : Acts) : List Int := (List.range (r.legs.length + 1)).map fun k => WR r.fr r.to_ (rangesAt r a k)
theorem waits_eq (n : Nat) (r : Route) (a : Acts) (V : Valid r) (A : ActsOk r a) (hn : 100 ≤ n) (hn2 : n ≤ 900) : control_worked_waits n ⟨r, a⟩ = some (worstsOf r a) := by
  have := V.nl
  have := V.nb
  have := V.ns
  have := V.looked
  unfold control_worked_waits
  rw [spans_eq n r a V A (by omega) hn2]
  simp only [Option.bind_some]
  have e := waits_l1_eq ⟨r, a⟩ ((List.range (r.legs.length + 1)).map fun (k : Nat) => spansFrom ((r.legs.length : Int) + 1) 40 k 0 (pairs r a)) (by simp; omega) (fun l hl => by
    obtain ⟨k, _, rfl⟩ := List.mem_map.1 hl
    refine ⟨?_, by rw [spansFrom_snd]; exact ranges_le V A k⟩
    have h1 : (spansFrom ((r.legs.length : Int) + 1) 40 k 0 (pairs r a)).length = ((spansFrom ((r.legs.length : Int) + 1) 40 k 0 (pairs r a)).map Prod.snd).length := by simp
    rw [h1, spansFrom_snd]
    refine Nat.le_trans (List.length_filterMap_le _ _) ?_
    rw [← zip_trips, List.length_zip]
    have := len_trips_le r a Rg.lo
    omega) (by simp only; omega) (by simp only; omega) (by simp only; omega) n 0 [] (by simp; omega) (by omega) rfl
  simp only [Int.natCast_zero, List.nil_append, List.drop_zero, List.map_map] at e
  simp only [Function.comp_def] at e
  rw [e]
  simp only [Option.bind_some, worstsOf, rangesAt, spansFrom_snd]
theorem worst_eq (n : Nat) (r : Route) (a : Acts) (hF : faultOf r = 0) (hA : actsB r a = true) (hn : 100 ≤ n) (hn2 : n ≤ 900) : control_Worst n r a = some (worstsOf r a, 0) := by
  have V := valid_of hF
  have := V.nl
  have := V.nb
  have := V.ns
  unfold control_Worst
  rw [acts_eq n r a (by omega) (by omega) (by omega) (by omega), waits_eq n r a V (actsOk_of hA) hn hn2]
  simp [hF, hA]
end Go.Proofs.Ytokchpjijlebiaa
