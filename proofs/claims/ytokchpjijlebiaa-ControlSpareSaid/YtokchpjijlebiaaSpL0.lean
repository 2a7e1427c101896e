/- The plain law. -/
import Derived.Test.YtokchpjijlebiaaSpP0
set_option linter.all false
namespace Go.Proofs.Ytokchpjijlebiaa
open Go Go.RowKit
theorem wid {x : Int} (h0 : -9223372036854775808 ≤ x) (h1 : x ≤ 9223372036854775807) : IntKind.i64.wrap x = x := by
  simp [IntKind.wrap, IntKind.bits, IntKind.signed]; omega
theorem wnat (i : Nat) (h : i < 1000000000000) : IntKind.i64.wrap ((i : Int) + 1) = ((i + 1 : Nat) : Int) := by
  rw [wid (by omega) (by omega)]; omega
theorem idxN {α : Type} (xs : List α) (i : Nat) : idx xs (i : Int) = xs[i]? := rfl
theorem idxLt {α : Type} (xs : List α) (i : Nat) (h : i < xs.length) : idx xs (i : Int) = some xs[i] := by rw [idxN, List.getElem?_eq_getElem h]
theorem appOk {α : Type} (xs ys : List α) (h : xs.length + ys.length ≤ 1000000000) : app xs ys = some (xs ++ ys) := by
  unfold app; rw [if_pos (by simpa using h)]
theorem updN {α : Type} (xs : List α) (i : Nat) (y : α) (h : i < xs.length) : upd xs (i : Int) y = some (xs.set i y) := by
  show (if i < xs.length then some (xs.set i y) else none) = _
  rw [if_pos h]
theorem mkN {α : Type} (n : Nat) (x : α) (h : n ≤ 1000000000) : mk (n : Int) x = some (List.replicate n x) := by
  unfold mk; rw [if_pos (by omega)]; rfl
theorem drop_get {α : Type} {xs : List α} {i : Nat} (h : i < xs.length) : xs.drop i = xs[i] :: xs.drop (i + 1) := List.drop_eq_getElem_cons h
theorem lt_len {α : Type} (xs : List α) (i : Nat) : decide ((i : Int) < ((xs.length : Nat) : Int)) = decide (i < xs.length) := by
  by_cases h : i < xs.length <;> simp [h]
theorem law_list_eq (n : Nat) (l : List Int) (h : l.length ≤ 1000) : law_list n l = some l := by
  unfold law_list
  simp [appOk [] l (by simp; omega)]
theorem law_Route_l1_eq (r : Route) (hb : r.legs.length ≤ 1000) : ∀ (n i : Nat) (acc : List Rg), r.legs.length < n + i → i ≤ r.legs.length → acc.length = i → law_Route_l1 n r acc (i : Int) = some (acc ++ r.legs.drop i)
  | 0, i, acc, h, hi, _ => by omega
  | n + 1, i, acc, h, hi, ha => by
    rw [law_Route_l1, lt_len]
    by_cases hx : i < r.legs.length
    · simp only [hx, decide_true, cond_true, idxLt _ _ hx, Option.bind_some, law_to]
      rw [appOk _ _ (by simp; omega)]
      simp only [Option.bind_some]
      rw [wnat i (by omega), law_Route_l1_eq r hb n (i + 1) _ (by omega) (by omega) (by simp; omega), drop_get hx, List.append_assoc]
      rfl
    · have : i = r.legs.length := by omega
      simp [this]
theorem law_Route_l2_eq (r : Route) (hb : r.buses.length ≤ 1000) : ∀ (n i : Nat) (acc : List Bus), r.buses.length < n + i → i ≤ r.buses.length → acc.length = i → law_Route_l2 n r acc (i : Int) = some (acc ++ r.buses.drop i)
  | 0, i, acc, h, hi, _ => by omega
  | n + 1, i, acc, h, hi, ha => by
    rw [law_Route_l2, lt_len]
    by_cases hx : i < r.buses.length
    · simp only [hx, decide_true, cond_true, idxLt _ _ hx, Option.bind_some, law_to]
      rw [appOk _ _ (by simp; omega)]
      simp only [Option.bind_some]
      rw [wnat i (by omega), law_Route_l2_eq r hb n (i + 1) _ (by omega) (by omega) (by simp; omega), drop_get hx, List.append_assoc]
      rfl
    · have : i = r.buses.length := by omega
      simp [this]
theorem law_Route_l3_eq (r : Route) (hb : r.spares.length ≤ 1000) : ∀ (n i : Nat) (acc : List Spare), r.spares.length < n + i → i ≤ r.spares.length → acc.length = i → law_Route_l3 n r acc (i : Int) = some (acc ++ r.spares.drop i)
  | 0, i, acc, h, hi, _ => by omega
  | n + 1, i, acc, h, hi, ha => by
    rw [law_Route_l3, lt_len]
    by_cases hx : i < r.spares.length
    · simp only [hx, decide_true, cond_true, idxLt _ _ hx, Option.bind_some]
      rw [appOk _ _ (by simp; omega)]
      simp only [Option.bind_some]
      rw [wnat i (by omega), law_Route_l3_eq r hb n (i + 1) _ (by omega) (by omega) (by simp; omega), drop_get hx, List.append_assoc]
      rfl
    · have : i = r.spares.length := by omega
      simp [this]
theorem law_Route_eq (n : Nat) (r : Route) (hn : 50 ≤ n) (h1 : r.legs.length ≤ 20) (h2 : r.buses.length ≤ 20) (h3 : r.spares.length ≤ 20) : law_Route n r = some r := by
  unfold law_Route
  have e1 := law_Route_l1_eq r (by omega) n 0 [] (by omega) (by omega) rfl
  have e2 := law_Route_l2_eq r (by omega) n 0 [] (by omega) (by omega) rfl
  have e3 := law_Route_l3_eq r (by omega) n 0 [] (by omega) (by omega) rfl
  simp only [Int.natCast_zero, List.nil_append, List.drop_zero] at e1 e2 e3
  simp [law_to, e1, e2, e3]
theorem law_Acts_eq (n : Nat) (a : Acts) (h1 : a.holds.length ≤ 20) (h2 : a.turns.length ≤ 20) (h3 : a.spares.length ≤ 20) : law_Acts n a = some a := by
  unfold law_Acts
  simp [law_list_eq n _ (show a.holds.length ≤ 1000 by omega), law_list_eq n _ (show a.turns.length ≤ 1000 by omega), appOk [] a.spares (by simp; omega)]
end Go.Proofs.Ytokchpjijlebiaa
namespace Go.Proofs.Ytokchpjijlebiaa
open Go Go.RowKit
def passL (st turned turn : Int) (legs : List Int) : Nat → Int → Int → List (Int × Int)
  | 0, _, _ => []
  | n + 1, tm, s => if 0 ≤ s ∧ s < st then (s, tm) :: (if s = turned then passL st turned turn legs n (tm + turn) (st - 1 - s) else match legs[s.toNat]? with
    | some d => passL st turned turn legs n (tm + d) (s + 1)
    | none => []) else []
def Small (turn : Int) (legs : List Int) : Prop := 0 ≤ turn ∧ turn ≤ 300 ∧ legs.length ≤ 20 ∧ ∀ d ∈ legs, 0 ≤ d ∧ d ≤ 300
theorem control_stops_eq (n : Nat) (r : Route) (h : r.legs.length ≤ 20) : control_Route_stops n r = some ((r.legs.length : Int) + 1) := by
  simp only [control_Route_stops]; rw [wid (by omega) (by omega)]
theorem control_stop_eq (n : Nat) (r : Route) (s : Int) (h : r.legs.length ≤ 20) : control_Route_stop n r s = some (decide (0 ≤ s ∧ s < (r.legs.length : Int) + 1)) := by
  simp only [control_Route_stop, control_stops_eq n r h, control_within, Option.bind_some]
  rw [wid (by omega) (by omega)]
  by_cases h1 : 0 ≤ s
  · simp [h1]; omega
  · simp [h1]
theorem passes_l1_eq {σ : Type} (yield_ : σ → Int → Int → Option (σ × Bool)) (g : σ → Int → Int → Option σ) (hy : ∀ s a b, yield_ s a b = (g s a b).map fun s' => (s', true)) (q0 : Trip) (q1 : Route) (q2 : Times) (hl : q1.legs.length ≤ 20) (hq : Small q2.turn q2.legs) (hql : q2.legs.length = q1.legs.length)
    (ht : 2 * q0.turned + 1 < (q1.legs.length : Int) + 1) : ∀ (n : Nat) (tm s : Int) (x : σ), 0 ≤ tm → tm + 300 * n ≤ 1000000000 → 0 ≤ s → s ≤ (q1.legs.length : Int) + 1 → (q1.legs.length : Int) + 1 - s < n →
    (control_Route_passes_1_l1 n yield_ q0 q1 q2 tm s x).bind (fun o => Ex.bind o (fun r => some r) fun s => some s) = (passL ((q1.legs.length : Int) + 1) q0.turned q2.turn q2.legs n tm s).foldlM (fun x p => g x p.1 p.2) x
  | 0, tm, s, x, _, _, _, h1, h2 => by omega
  | n + 1, tm, s, x, h0, hb, hs, h1, h2 => by
    have IH := passes_l1_eq yield_ g hy q0 q1 q2 hl hq hql ht n
    obtain ⟨t0, t1, hq1, hq2⟩ := hq
    rw [control_Route_passes_1_l1, passL, control_stop_eq n q1 s hl]
    by_cases hc : 0 ≤ s ∧ s < (q1.legs.length : Int) + 1
    · simp only [hc, and_self, decide_true, Option.bind_some, cond_true, if_true, hy, List.foldlM_cons]
      cases hg : g x s tm with
      | none => simp
      | some x' =>
        simp only [Option.map_some, Option.bind_some, cond_true, Option.bind_eq_bind, control_stops_eq n q1 hl]
        by_cases hst : s = q0.turned
        · simp only [hst, beq_self_eq_true, cond_true, if_true]
          subst hst
          rw [wid (x := tm + q2.turn) (by omega) (by omega), wid (x := (q1.legs.length : Int) + 1 - 1) (by omega) (by omega), wid (x := (q1.legs.length : Int) + 1 - 1 - q0.turned) (by omega) (by omega)]
          exact IH _ _ _ (by omega) (by omega) (by omega) (by omega) (by omega)
        · simp only [beq_eq_false_iff_ne.2 hst, cond_false, hst, if_false]
          by_cases hsl : s < (q2.legs.length : Int)
          · simp only [hsl, decide_true, cond_true]
            obtain ⟨k, rfl⟩ : ∃ k : Nat, s = k := ⟨s.toNat, by omega⟩
            have hk : k < q2.legs.length := by omega
            have hd := hq2 _ (List.getElem_mem hk)
            rw [idxLt _ _ hk]
            simp only [Option.bind_some, Int.toNat_natCast, List.getElem?_eq_getElem hk]
            rw [wid (x := tm + q2.legs[k]) (by omega) (by omega), wid (x := (k : Int) + 1) (by omega) (by omega)]
            exact IH _ _ _ (by omega) (by omega) (by omega) (by omega) (by omega)
          · simp only [hsl, decide_false, cond_false, Option.bind_some, Ex.bind]
            rw [List.getElem?_eq_none (by omega)]
            simp
    · simp only [hc, decide_false, Option.bind_some, cond_false, Ex.bind, if_false]
      simp
theorem passes_eq {σ : Type} (n : Nat) (yield_ : σ → Int → Int → Option (σ × Bool)) (g : σ → Int → Int → Option σ) (hy : ∀ s a b, yield_ s a b = (g s a b).map fun s' => (s', true)) (q0 : Trip) (q1 : Route) (q2 : Times) (x : σ) (hl : q1.legs.length ≤ 20) (hq : Small q2.turn q2.legs) (hql : q2.legs.length = q1.legs.length)
    (ht : 2 * q0.turned + 1 < (q1.legs.length : Int) + 1) (h0 : 0 ≤ q0.tm) (h1 : q0.tm ≤ 100000) (hn : 30 ≤ n) (hn2 : n ≤ 1000) (hs : 0 ≤ q0.stop) (hs2 : q0.stop ≤ (q1.legs.length : Int) + 1) :
    control_Route_passes_1 n yield_ x q0 q1 q2 = (passL ((q1.legs.length : Int) + 1) q0.turned q2.turn q2.legs n q0.tm q0.stop).foldlM (fun x p => g x p.1 p.2) x :=
  passes_l1_eq yield_ g hy q0 q1 q2 hl hq hql ht n q0.tm q0.stop x h0 (by omega) hs hs2 (by omega)
theorem passL_ge {st turned turn : Int} {legs : List Int} (ht : 2 * turned + 1 < st) : ∀ (n : Nat) (tm s : Int) (p : Int × Int), p ∈ passL st turned turn legs n tm s → s ≤ p.1 ∧ 0 ≤ p.1 ∧ p.1 < st
  | 0, _, _, _, h => by simp [passL] at h
  | n + 1, tm, s, p, h => by
    rw [passL] at h
    split at h
    · rename_i hc
      rcases List.mem_cons.1 h with rfl | h
      · exact ⟨Int.le_refl _, hc.1, hc.2⟩
      · split at h
        · have := passL_ge ht n _ _ p h
          omega
        · split at h
          · have := passL_ge ht n _ _ p h
            omega
          · simp at h
    · simp at h
theorem passL_nodup {st turned turn : Int} {legs : List Int} (ht : 2 * turned + 1 < st) : ∀ (n : Nat) (tm s : Int), ((passL st turned turn legs n tm s).map Prod.fst).Nodup
  | 0, _, _ => by simp [passL]
  | n + 1, tm, s => by
    rw [passL]
    split
    · rename_i hc
      rw [List.map_cons, List.nodup_cons]
      split
      · rename_i hs
        refine ⟨fun h => ?_, passL_nodup ht n _ _⟩
        obtain ⟨p, hp, hp2⟩ := List.mem_map.1 h
        have := passL_ge ht n _ _ p hp
        simp only at hp2
        omega
      · split
        · refine ⟨fun h => ?_, passL_nodup ht n _ _⟩
          obtain ⟨p, hp, hp2⟩ := List.mem_map.1 h
          have := passL_ge ht n _ _ p hp
          simp only at hp2
          omega
        · simp
    · simp
def passAt (st turned turn : Int) (legs : List Int) (n : Nat) (tm s k : Int) : Option Int := look? (passL st turned turn legs n tm s) k
theorem pass_mono {st turned : Int} {turn turn' : Int} {legs legs' : List Int} (ht : 2 * turned + 1 < st) (hl : legs.length = legs'.length) (hle : ∀ (k : Nat) (d d' : Int), legs[k]? = some d → legs'[k]? = some d' → d ≤ d') (h1 : turn ≤ turn') : ∀ (n : Nat) (tm tm' s k : Int), tm ≤ tm' →
    (passAt st turned turn legs n tm s k = none ∧ passAt st turned turn' legs' n tm' s k = none) ∨ ∃ a b, passAt st turned turn legs n tm s k = some a ∧ passAt st turned turn' legs' n tm' s k = some b ∧ a ≤ b
  | 0, _, _, _, _, _ => .inl ⟨rfl, rfl⟩
  | n + 1, tm, tm', s, k, h => by
    unfold passAt
    rw [passL, passL]
    by_cases hc : 0 ≤ s ∧ s < st
    · simp only [hc, and_self, if_true, look?]
      by_cases hk : s = k
      · simp only [hk, if_true]; exact .inr ⟨_, _, rfl, rfl, h⟩
      · simp only [hk, if_false]
        by_cases hs : s = turned
        · simp only [hs, if_true]
          exact pass_mono ht hl hle h1 n _ _ _ k (by omega)
        · simp only [hs, if_false]
          cases hg : legs[s.toNat]? with
          | none =>
            have : legs'[s.toNat]? = none := by rw [List.getElem?_eq_none_iff] at hg ⊢; omega
            simp [this, look?]
          | some d =>
            have hlt : s.toNat < legs.length := by
              rcases Nat.lt_or_ge s.toNat legs.length with h' | h'
              · exact h'
              · rw [List.getElem?_eq_none h'] at hg; cases hg
            obtain ⟨d', hd'⟩ : ∃ d', legs'[s.toNat]? = some d' := ⟨_, List.getElem?_eq_getElem (by omega)⟩
            simp only [hd']
            have := hle _ _ _ hg hd'
            exact pass_mono ht hl hle h1 n _ _ _ k (by omega)
    · simp only [hc, if_false]; exact .inl ⟨rfl, rfl⟩
end Go.Proofs.Ytokchpjijlebiaa
namespace Go.Proofs.Ytokchpjijlebiaa
open Go Go.RowKit
def endsOf (r : Route) (f : Rg → Int) : Truth := ⟨r.buses.map fun b => f b.tm, r.buses.map fun _ => f r.turn, List.replicate (r.buses.length + r.spares.length) (r.legs.map f)⟩
theorem ends_l1_eq (r : Route) (f : Rg → Int) (F : Rg → Option Int) (hF : ∀ x, F x = some (f x)) (hb : r.legs.length ≤ 20) : ∀ (n i : Nat) (acc : List Int), r.legs.length < n + i → i ≤ r.legs.length → acc.length = i → control_Route_ends_l1 n r (End.mk F) acc (i : Int) = some (acc ++ (r.legs.drop i).map f)
  | 0, i, acc, h, hi, _ => by omega
  | n + 1, i, acc, h, hi, ha => by
    rw [control_Route_ends_l1, lt_len]
    by_cases hx : i < r.legs.length
    · simp only [hx, decide_true, cond_true, idxLt _ _ hx, Option.bind_some, hF]
      rw [appOk _ _ (by simp; omega)]
      simp only [Option.bind_some]
      rw [wnat i (by omega), ends_l1_eq r f F hF hb n (i + 1) _ (by omega) (by omega) (by simp; omega), drop_get hx, List.append_assoc]
      rfl
    · have : i = r.legs.length := by omega
      simp [this]
theorem clone_eq (n : Nat) (l : List Int) (h : l.length ≤ 1000) : slices_Clone_int_int n l = some l := by
  unfold slices_Clone_int_int
  simp [appOk [] l (by simp; omega)]
theorem ends_l2_eq (r : Route) (f : Rg → Int) (F : Rg → Option Int) (hF : ∀ x, F x = some (f x)) (hb : r.buses.length ≤ 20) (L : List Int) (hL : L.length ≤ 20) : ∀ (n i : Nat) (x y : List Int) (z : List (List Int)), r.buses.length < n + i → i ≤ r.buses.length → x.length = i → y.length = i → z.length = i →
    control_Route_ends_l2 n r (End.mk F) L x y z (i : Int) = some (L, x ++ (r.buses.drop i).map (fun b => f b.tm), y ++ (r.buses.drop i).map (fun _ => f r.turn), z ++ (r.buses.drop i).map (fun _ => L))
  | 0, i, x, y, z, h, hi, _, _, _ => by omega
  | n + 1, i, x, y, z, h, hi, h1, h2, h3 => by
    rw [control_Route_ends_l2, lt_len]
    by_cases hx : i < r.buses.length
    · simp only [hx, decide_true, cond_true, idxLt _ _ hx, Option.bind_some, hF, clone_eq n L (by omega)]
      rw [appOk _ _ (by simp; omega), appOk _ _ (by simp; omega), appOk _ _ (by simp; omega)]
      simp only [Option.bind_some]
      rw [wnat i (by omega), ends_l2_eq r f F hF hb L hL n (i + 1) _ _ _ (by omega) (by omega) (by simp; omega) (by simp; omega) (by simp; omega), drop_get hx, List.append_assoc, List.append_assoc, List.append_assoc]
      rfl
    · have : i = r.buses.length := by omega
      simp [this]
theorem ends_l3_eq (r : Route) (hb : r.spares.length ≤ 20) (L : List Int) (hL : L.length ≤ 20) : ∀ (n i : Nat) (z : List (List Int)), r.spares.length < n + i → i ≤ r.spares.length → z.length ≤ 100 + i →
    control_Route_ends_l3 n r L z (i : Int) = some (L, z ++ List.replicate (r.spares.length - i) L)
  | 0, i, z, h, hi, _ => by omega
  | n + 1, i, z, h, hi, h3 => by
    rw [control_Route_ends_l3, lt_len]
    by_cases hx : i < r.spares.length
    · simp only [hx, decide_true, cond_true, Option.bind_some, clone_eq n L (by omega)]
      rw [appOk _ _ (by simp; omega)]
      simp only [Option.bind_some]
      rw [wnat i (by omega), ends_l3_eq r hb L hL n (i + 1) _ (by omega) (by omega) (by simp; omega), List.append_assoc]
      rw [show r.spares.length - i = (r.spares.length - (i + 1)) + 1 by omega, List.replicate_succ]
      rfl
    · have : i = r.spares.length := by omega
      simp [this]
theorem ends_eq (n : Nat) (r : Route) (f : Rg → Int) (F : Rg → Option Int) (hF : ∀ x, F x = some (f x)) (hn : 50 ≤ n) (h1 : r.legs.length ≤ 20) (h2 : r.buses.length ≤ 20) (h3 : r.spares.length ≤ 20) : control_Route_ends n r (End.mk F) = some (endsOf r f) := by
  unfold control_Route_ends
  have e1 := ends_l1_eq r f F hF h1 n 0 [] (by omega) (by omega) rfl
  have e2 := ends_l2_eq r f F hF h2 (r.legs.map f) (by simp; omega) n 0 [] [] [] (by omega) (by omega) rfl rfl rfl
  have e3 := ends_l3_eq r h3 (r.legs.map f) (by simp; omega) n 0 (r.buses.map fun _ => r.legs.map f) (by omega) (by omega) (by simp; omega)
  simp only [Int.natCast_zero, List.nil_append, List.drop_zero, Nat.sub_zero] at e1 e2 e3
  simp only [e1, Option.bind_some, e2, e3, endsOf, Option.some.injEq, Truth.mk.injEq, true_and]
  rw [List.map_const', List.replicate_append_replicate]
def busTrip (r : Route) (a : Acts) (t : Truth) (i : Nat) : Trip × Times := (⟨(r.buses[i]!).stop, t.tm[i]! + a.holds[i]! * r.unit, a.turns[i]!⟩, ⟨t.legs[i]!, t.turns[i]!⟩)
def spTrip (r : Route) (a : Acts) (t : Truth) (j : Nat) : Option (Trip × Times) := if a.spares[j]! then some (⟨(r.spares[j]!).stop, (r.spares[j]!).tm, -1⟩, ⟨t.legs[r.buses.length + j]!, 0⟩) else none
def trips (r : Route) (a : Acts) (t : Truth) : List (Trip × Times) := (List.range r.buses.length).map (busTrip r a t) ++ (List.range r.spares.length).filterMap (spTrip r a t)
structure Sized (r : Route) (a : Acts) (t : Truth) : Prop where
  nb : r.buses.length ≤ 6
  ns : r.spares.length ≤ 4
  holds : a.holds.length = r.buses.length
  turns : a.turns.length = r.buses.length
  spares : a.spares.length = r.spares.length
  tm : t.tm.length = r.buses.length
  tt : t.turns.length = r.buses.length
  legs : t.legs.length = r.buses.length + r.spares.length
  hold : ∀ x ∈ a.holds, 0 ≤ x ∧ x ≤ 2
  unit : 1 ≤ r.unit ∧ r.unit ≤ 30
  tms : ∀ x ∈ t.tm, 0 ≤ x ∧ x ≤ 10000
theorem bang {α : Type} [Inhabited α] (l : List α) (i : Nat) (h : i < l.length) : l[i]! = l[i] := getElem!_pos l i h
theorem mul_small {x u : Int} (h0 : 0 ≤ x) (h1 : x ≤ 2) (h2 : 1 ≤ u) (h3 : u ≤ 30) : 0 ≤ x * u ∧ x * u ≤ 60 := by
  have : x = 0 ∨ x = 1 ∨ x = 2 := by omega
  rcases this with rfl | rfl | rfl <;> omega
theorem trips_l1_eq (r : Route) (a : Acts) (t : Truth) (S : Sized r a t) : ∀ (n i : Nat) (x : List Trip) (y : List Times), r.buses.length < n + i → i ≤ r.buses.length → x.length = i → y.length = i →
    control_worked_trips_l1 n ⟨r, a⟩ t x y (i : Int) = some (x ++ ((List.range r.buses.length).drop i).map (fun i => (busTrip r a t i).1), y ++ ((List.range r.buses.length).drop i).map (fun i => (busTrip r a t i).2))
  | 0, i, x, y, h, hi, _, _ => by omega
  | n + 1, i, x, y, h, hi, h1, h2 => by
    rw [control_worked_trips_l1]
    simp only []
    rw [lt_len]
    have := S.nb
    by_cases hx : i < r.buses.length
    · have q1 : i < a.holds.length := by rw [S.holds]; exact hx
      have q2 : i < a.turns.length := by rw [S.turns]; exact hx
      have q3 : i < t.tm.length := by rw [S.tm]; exact hx
      have q4 : i < t.turns.length := by rw [S.tt]; exact hx
      have q5 : i < t.legs.length := by rw [S.legs]; omega
      have q6 : i < (List.range r.buses.length).length := by simpa using hx
      obtain ⟨b1, b2⟩ := mul_small (S.hold _ (List.getElem_mem q1)).1 (S.hold _ (List.getElem_mem q1)).2 S.unit.1 S.unit.2
      have b3 := S.tms _ (List.getElem_mem q3)
      simp only [hx, decide_true, cond_true, idxLt _ _ hx, idxLt _ _ q1, idxLt _ _ q2, idxLt _ _ q3, idxLt _ _ q4, idxLt _ _ q5, Option.bind_some]
      rw [appOk _ _ (by simp; omega), appOk _ _ (by simp; omega)]
      simp only [Option.bind_some]
      rw [wnat i (by omega), trips_l1_eq r a t S n (i + 1) _ _ (by omega) (by omega) (by simp; omega) (by simp; omega), drop_get q6, List.append_assoc, List.append_assoc]
      rw [wid (x := a.holds[i] * r.unit) (by omega) (by omega), wid (by omega) (by omega)]
      simp only [List.getElem_range, List.map_cons, busTrip, bang _ _ hx, bang _ _ q1, bang _ _ q2, bang _ _ q3, bang _ _ q4, bang _ _ q5]
      rfl
    · have : i = r.buses.length := by omega
      simp [this]
theorem trips_l2_eq (r : Route) (a : Acts) (t : Truth) (S : Sized r a t) : ∀ (n i : Nat) (x : List Trip) (y : List Times), r.spares.length < n + i → i ≤ r.spares.length → x.length ≤ 100 + i → y.length ≤ 100 + i →
    control_worked_trips_l2 n ⟨r, a⟩ t x y (i : Int) = some (x ++ (((List.range r.spares.length).drop i).filterMap (spTrip r a t)).map Prod.fst, y ++ (((List.range r.spares.length).drop i).filterMap (spTrip r a t)).map Prod.snd)
  | 0, i, x, y, h, hi, _, _ => by omega
  | n + 1, i, x, y, h, hi, h1, h2 => by
    rw [control_worked_trips_l2]
    simp only []
    rw [lt_len]
    have := S.ns
    have := S.nb
    by_cases hx : i < r.spares.length
    · have q1 : i < a.spares.length := by rw [S.spares]; exact hx
      have q5 : r.buses.length + i < t.legs.length := by rw [S.legs]; omega
      have q6 : i < (List.range r.spares.length).length := by simpa using hx
      simp only [hx, decide_true, cond_true, idxLt _ _ hx, idxLt _ _ q1, Option.bind_some]
      rw [drop_get q6]
      simp only [List.getElem_range, List.filterMap_cons, spTrip, bang _ _ hx, bang _ _ q1, bang _ _ q5]
      cases hs : a.spares[i] with
      | true =>
        simp only [cond_true, if_true]
        rw [appOk _ _ (by simp; omega)]
        simp only [Option.bind_some]
        rw [wid (x := ((r.buses.length : Nat) : Int) + (i : Int)) (by omega) (by omega), show ((r.buses.length : Nat) : Int) + (i : Int) = ((r.buses.length + i : Nat) : Int) by omega, idxLt _ _ q5]
        simp only [Option.bind_some]
        rw [appOk _ _ (by simp; omega)]
        simp only [Option.bind_some]
        rw [wnat i (by omega), trips_l2_eq r a t S n (i + 1) _ _ (by omega) (by omega) (by simp; omega) (by simp; omega), List.append_assoc, List.append_assoc]
        rfl
      | false =>
        simp only [cond_false]
        rw [wnat i (by omega), trips_l2_eq r a t S n (i + 1) _ _ (by omega) (by omega) (by omega) (by omega)]
        rfl
    · have : i = r.spares.length := by omega
      have hd : (List.range r.spares.length).drop r.spares.length = [] := List.drop_eq_nil_of_le (by simp)
      simp [this, hd]
theorem trips_eq (n : Nat) (r : Route) (a : Acts) (t : Truth) (S : Sized r a t) (hn : 50 ≤ n) : control_worked_trips n ⟨r, a⟩ t = some ((trips r a t).map Prod.fst, (trips r a t).map Prod.snd) := by
  have := S.nb
  have := S.ns
  have e1 := trips_l1_eq r a t S n 0 [] [] (by omega) (by omega) rfl rfl
  have e2 := trips_l2_eq r a t S n 0 ((List.range r.buses.length).map fun i => (busTrip r a t i).1) ((List.range r.buses.length).map fun i => (busTrip r a t i).2) (by omega) (by omega) (by simp; omega) (by simp; omega)
  simp only [Int.natCast_zero, List.nil_append, List.drop_zero] at e1 e2
  unfold control_worked_trips
  simp only [e1, Option.bind_some, e2, trips, List.map_append, List.map_map]
  rfl
end Go.Proofs.Ytokchpjijlebiaa
namespace Go.Proofs.Ytokchpjijlebiaa
open Go Go.RowKit
def stepL (ms : List (List (Int × Rg))) (f : Int → List (Int × Rg) → List (Int × Rg)) (pl : List (Int × Int)) : List (List (Int × Rg)) := pl.foldl (fun ms p => ms.modify p.1.toNat (f p.2)) ms
theorem stepL_length (f : Int → List (Int × Rg) → List (Int × Rg)) : ∀ (pl : List (Int × Int)) (ms : List (List (Int × Rg))), (stepL ms f pl).length = ms.length
  | [], _ => rfl
  | p :: r, ms => by
    show (stepL (ms.modify p.1.toNat (f p.2)) f r).length = _
    rw [stepL_length f r]; simp
theorem stepL_get (f : Int → List (Int × Rg) → List (Int × Rg)) : ∀ (pl : List (Int × Int)) (ms : List (List (Int × Rg))) (k : Nat), (pl.map Prod.fst).Nodup → (∀ p ∈ pl, 0 ≤ p.1) →
    (stepL ms f pl)[k]? = (ms[k]?).map fun m => match look? pl (k : Int) with | some t => f t m | none => m
  | [], ms, k, _, _ => by simp [stepL, look?]
  | p :: r, ms, k, hn, h0 => by
    show (stepL (ms.modify p.1.toNat (f p.2)) f r)[k]? = _
    rw [List.map_cons, List.nodup_cons] at hn
    rw [stepL_get f r _ k hn.2 (fun q hq => h0 q (List.mem_cons_of_mem _ hq)), List.getElem?_modify, look?]
    have hp := h0 p (by simp)
    by_cases hk : p.1 = (k : Int)
    · have hr : look? r (k : Int) = none := look?_none fun q hq hqk => hn.1 (by rw [hk, ← hqk]; exact List.mem_map_of_mem hq)
      have : p.1.toNat = k := by omega
      simp only [this, if_true, if_pos hk, hr]
      cases ms[k]? <;> rfl
    · have : p.1.toNat ≠ k := by omega
      simp only [this, hk, if_false]
      cases ms[k]? <;> rfl
theorem fold_step (g : List (Option (List (Int × Rg))) → Int → Int → Option (List (Option (List (Int × Rg))))) (f : Int → List (Int × Rg) → List (Int × Rg)) (st : Nat)
    (hg : ∀ (ms : List (List (Int × Rg))) (s : Nat) (t : Int), ms.length = st → s < st → g (ms.map some) (s : Int) t = some ((ms.modify s (f t)).map some)) : ∀ (pl : List (Int × Int)) (ms : List (List (Int × Rg))), ms.length = st → (∀ p ∈ pl, 0 ≤ p.1 ∧ p.1 < (st : Int)) →
    pl.foldlM (fun x p => g x p.1 p.2) (ms.map some) = some ((stepL ms f pl).map some)
  | [], ms, _, _ => rfl
  | p :: r, ms, hm, hp => by
    have h1 := hp p (by simp)
    rw [List.foldlM_cons]
    have : g (ms.map some) p.1 p.2 = some ((ms.modify p.1.toNat (f p.2)).map some) := by
      have := hg ms p.1.toNat p.2 hm (by omega)
      rwa [show ((p.1.toNat : Nat) : Int) = p.1 by omega] at this
    rw [this]
    exact fold_step g f st hg r _ (by simpa using hm) fun q hq => hp q (List.mem_cons_of_mem _ hq)
theorem map_modify_some {α : Type} (f : α → α) : ∀ (ms : List α) (s : Nat), (h : s < ms.length) → (ms.map some).set s (some (f ms[s])) = (ms.modify s f).map some := by
  intro ms s h
  apply List.ext_getElem?
  intro k
  rw [List.getElem?_map, List.getElem?_modify, List.getElem?_set]
  by_cases hk : s = k
  · subst hk; simp [h]
  · simp [hk]
def spanAt (st : Int) (n : Nat) (p : (Trip × Times) × (Trip × Times)) (k : Int) : Option Rg := match look? (passL st p.1.1.turned p.1.2.turn p.1.2.legs n p.1.1.tm p.1.1.stop) k, look? (passL st p.2.1.turned p.2.2.turn p.2.2.legs n p.2.1.tm p.2.1.stop) k with
  | some a, some b => some ⟨a, b⟩
  | _, _ => none
def Alike (st : Int) (n : Nat) (p : (Trip × Times) × (Trip × Times)) : Prop := ∀ k, look? (passL st p.1.1.turned p.1.2.turn p.1.2.legs n p.1.1.tm p.1.1.stop) k = none ↔ look? (passL st p.2.1.turned p.2.2.turn p.2.2.legs n p.2.1.tm p.2.1.stop) k = none
structure TripOk (r : Route) (p : Trip × Times) : Prop where
  q : Small p.2.turn p.2.legs
  len : p.2.legs.length = r.legs.length
  t : 2 * p.1.turned + 1 < (r.legs.length : Int) + 1
  tm0 : 0 ≤ p.1.tm
  tm1 : p.1.tm ≤ 100000
  s0 : 0 ≤ p.1.stop
  s1 : p.1.stop ≤ (r.legs.length : Int) + 1
theorem put?_new {K α : Type} [DecidableEq K] : ∀ {l : List (K × α)} {k : K} (x : α), (∀ p ∈ l, p.1 ≠ k) → put? l k x = l ++ [(k, x)]
  | [], _, _, _ => rfl
  | p :: r, k, x, h => by
    rw [put?, if_neg (h p (by simp)), put?_new x fun q hq => h q (List.mem_cons_of_mem _ hq)]
    rfl
theorem put?_old {K α : Type} [DecidableEq K] : ∀ {l : List (K × α)} {k : K} (x y : α), (∀ p ∈ l, p.1 ≠ k) → put? (l ++ [(k, x)]) k y = l ++ [(k, y)]
  | [], k, x, y, _ => by simp [put?]
  | p :: r, k, x, y, h => by
    rw [List.cons_append, put?, if_neg (h p (by simp)), put?_old x y fun q hq => h q (List.mem_cons_of_mem _ hq)]
    rfl
theorem look?_last {K α : Type} [DecidableEq K] : ∀ {l : List (K × α)} {k : K} (x : α), (∀ p ∈ l, p.1 ≠ k) → look? (l ++ [(k, x)]) k = some x
  | [], k, x, _ => by simp [look?]
  | p :: r, k, x, h => by
    rw [List.cons_append, look?, if_neg (h p (by simp)), look?_last x fun q hq => h q (List.mem_cons_of_mem _ hq)]
def g1 (i : Int) (s : List (Option (List (Int × Rg)))) (a b : Int) : Option (List (Option (List (Int × Rg)))) := (idx s a).bind fun x66 => x66.bind fun m => (upd s a (some (put? m i (Rg.mk b b)))).bind fun u => some u
def g2 (i : Int) (s : List (Option (List (Int × Rg)))) (a b : Int) : Option (List (Option (List (Int × Rg)))) := (idx s a).bind fun x87 => (idx s a).bind fun x92 => x92.bind fun m_514 => x87.bind fun m_527 => (upd s a (some (put? m_527 i (Rg.mk (lookD m_514 i ((Rg.mk 0 0) : Rg)).1.lo b)))).bind fun u => some u
theorem g1_eq (i : Int) (st : Nat) (ms : List (List (Int × Rg))) (s : Nat) (t : Int) (h1 : ms.length = st) (h2 : s < st) : g1 i (ms.map some) (s : Int) t = some ((ms.modify s (fun m => put? m i (Rg.mk t t))).map some) := by
  have hs : s < ms.length := by omega
  unfold g1
  rw [idxLt _ s (by simpa using hs)]
  simp only [Option.bind_some, List.getElem_map]
  rw [updN _ s _ (by simpa using hs)]
  simp only [Option.bind_some]
  rw [map_modify_some (fun m => put? m i (Rg.mk t t)) ms s hs]
theorem g2_eq (i : Int) (st : Nat) (ms : List (List (Int × Rg))) (s : Nat) (t : Int) (h1 : ms.length = st) (h2 : s < st) : g2 i (ms.map some) (s : Int) t = some ((ms.modify s (fun m => put? m i (Rg.mk (lookD m i ((Rg.mk 0 0) : Rg)).1.lo t))).map some) := by
  have hs : s < ms.length := by omega
  unfold g2
  rw [idxLt _ s (by simpa using hs)]
  simp only [Option.bind_some, List.getElem_map]
  rw [updN _ s _ (by simpa using hs)]
  simp only [Option.bind_some]
  rw [map_modify_some (fun m => put? m i (Rg.mk (lookD m i ((Rg.mk 0 0) : Rg)).1.lo t)) ms s hs]
theorem bind_map_true {α : Type} (x : Option α) : (x.bind fun s1 => some (s1, true)) = x.map fun s' => (s', true) := by cases x <;> rfl
def spansFrom (st : Int) (n : Nat) (k : Int) : Nat → List ((Trip × Times) × (Trip × Times)) → List (Int × Rg)
  | _, [] => []
  | i, p :: r => match spanAt st n p k with
    | some x => ((i : Int), x) :: spansFrom st n k (i + 1) r
    | none => spansFrom st n k (i + 1) r
theorem spans_l2_eq (w : Worked) (lo hi : List (Trip × Times)) (hl : w.route.legs.length ≤ 20) (hlen : lo.length = hi.length) (h1 : ∀ p ∈ lo, TripOk w.route p) (h2 : ∀ p ∈ hi, TripOk w.route p) (N : Nat) (hN : 60 ≤ N) (hN2 : N ≤ 1000) (h20 : lo.length ≤ 20)
    (hA : ∀ n, 30 ≤ n → n ≤ 1000 → ∀ p ∈ lo.zip hi, Alike ((w.route.legs.length : Int) + 1) n p ∧ ∀ k, spanAt ((w.route.legs.length : Int) + 1) n p k = spanAt ((w.route.legs.length : Int) + 1) 40 p k) : ∀ (n i : Nat) (ms : List (List (Int × Rg))), lo.length + 30 < n + i → n ≤ 1000 → i ≤ lo.length → ms.length = w.route.legs.length + 1 → (∀ m ∈ ms, ∀ p ∈ m, p.1 < (i : Int)) →
    control_worked_spans_l2 n w (lo.map Prod.fst, lo.map Prod.snd) (hi.map Prod.fst, hi.map Prod.snd) (ms.map some) (i : Int) = some (((List.range (w.route.legs.length + 1)).map fun (k : Nat) => (ms[k]?.getD []) ++ spansFrom ((w.route.legs.length : Int) + 1) 40 k i ((lo.zip hi).drop i)).map some)
  | 0, i, ms, h, _, hi', _, _ => by omega
  | n + 1, i, ms, h, hn, hi', hm, hkeys => by
    rw [control_worked_spans_l2]
    simp only []
    rw [lt_len, List.length_map]
    by_cases hx : i < lo.length
    · have hxh : i < hi.length := by omega
      have hz : i < (lo.zip hi).length := by simp; omega
      have o1 := h1 _ (List.getElem_mem hx)
      have o2 := h2 _ (List.getElem_mem hxh)
      have hmem : (lo[i], hi[i]) ∈ lo.zip hi := by
        have := List.getElem_mem hz
        rwa [List.getElem_zip] at this
      obtain ⟨hAl, hSp⟩ := hA n (by omega) (by omega) _ hmem
      simp only [hx, decide_true, cond_true]
      rw [idxLt _ i (by simpa using hx), idxLt _ i (by simpa using hx), idxLt _ i (by simpa using hxh), idxLt _ i (by simpa using hxh)]
      simp only [Option.bind_some, List.getElem_map, control_Route_passes]
      show ((control_Route_passes_1 n (fun s a b => (g1 i s a b).bind fun s1 => some (s1, true)) _ _ _ _).bind _) = _
      rw [passes_eq n _ (g1 i) (fun s a b => bind_map_true (g1 i s a b)) _ _ _ _ hl o1.q o1.len o1.t o1.tm0 o1.tm1 (by omega) (by omega) o1.s0 o1.s1]
      rw [fold_step (g1 i) _ (w.route.legs.length + 1) (g1_eq i _) _ _ hm (fun p hp => by
          have := passL_ge o1.t n _ _ p hp
          constructor <;> omega)]
      simp only [Option.bind_some]
      show ((control_Route_passes_1 n (fun s a b => (g2 i s a b).bind fun s1 => some (s1, true)) _ _ _ _).bind _) = _
      rw [passes_eq n _ (g2 i) (fun s a b => bind_map_true (g2 i s a b)) _ _ _ _ hl o2.q o2.len o2.t o2.tm0 o2.tm1 (by omega) (by omega) o2.s0 o2.s1]
      rw [fold_step (g2 i) _ (w.route.legs.length + 1) (g2_eq i _) _ _ (by rw [stepL_length]; exact hm) (fun p hp => by
          have := passL_ge o2.t n _ _ p hp
          constructor <;> omega)]
      simp only [Option.bind_some]
      rw [wnat i (by omega)]
      -- each stop's map
      have hget : ∀ k : Nat, (stepL (stepL ms (fun t m => put? m (i : Int) (Rg.mk t t)) (passL ((w.route.legs.length : Int) + 1) lo[i].1.turned lo[i].2.turn lo[i].2.legs n lo[i].1.tm lo[i].1.stop)) (fun t m => put? m (i : Int) (Rg.mk (lookD m (i : Int) ((Rg.mk 0 0) : Rg)).1.lo t)) (passL ((w.route.legs.length : Int) + 1) hi[i].1.turned hi[i].2.turn hi[i].2.legs n hi[i].1.tm hi[i].1.stop))[k]? = (ms[k]?).map fun m => m ++ (match spanAt ((w.route.legs.length : Int) + 1) 40 (lo[i], hi[i]) k with | some x => [((i : Int), x)] | none => []) := fun k => by
        rw [stepL_get _ _ _ k (passL_nodup o2.t n _ _) (fun p hp => (passL_ge o2.t n _ _ p hp).2.1), stepL_get _ _ _ k (passL_nodup o1.t n _ _) (fun p hp => (passL_ge o1.t n _ _ p hp).2.1), ← hSp]
        cases hmk : ms[k]? with
        | none => rfl
        | some m =>
          have hk : ∀ p ∈ m, p.1 ≠ (i : Int) := fun p hp => by
            have := hkeys m (List.mem_of_getElem? hmk) p hp
            omega
          have hal := hAl k
          simp only [] at hal
          simp only [Option.map_some, spanAt]
          cases hlo : look? (passL ((w.route.legs.length : Int) + 1) lo[i].1.turned lo[i].2.turn lo[i].2.legs n lo[i].1.tm lo[i].1.stop) (k : Int) with
          | none =>
            rw [hal.1 hlo]
            simp
          | some a =>
            cases hhi : look? (passL ((w.route.legs.length : Int) + 1) hi[i].1.turned hi[i].2.turn hi[i].2.legs n hi[i].1.tm hi[i].1.stop) (k : Int) with
            | none => rw [hal.2 hhi] at hlo; cases hlo
            | some b =>
              simp only [put?_new _ hk, put?_old _ _ hk, lookD, look?_last _ hk]
      rw [spans_l2_eq w lo hi hl hlen h1 h2 N hN hN2 h20 hA n (i + 1) _ (by omega) (by omega) (by omega) (by rw [stepL_length, stepL_length]; exact hm) (fun m hm' p hp => by
        obtain ⟨k, hk⟩ := List.mem_iff_getElem?.1 hm'
        rw [hget k] at hk
        obtain ⟨m0, h3, rfl⟩ := Option.map_eq_some_iff.1 hk
        rcases List.mem_append.1 hp with hp | hp
        · have := hkeys m0 (List.mem_of_getElem? h3) p hp
          omega
        · split at hp
          · simp at hp; subst hp; simp only; omega
          · simp at hp)]
      congr 2
      apply List.map_congr_left
      intro k hk
      rw [List.mem_range] at hk
      rw [hget k, drop_get hz, List.getElem_zip]
      have hkm : k < ms.length := by omega
      rw [List.getElem?_eq_getElem hkm]
      simp only [Option.map_some, Option.getD_some, spansFrom]
      cases spanAt ((w.route.legs.length : Int) + 1) 40 (lo[i], hi[i]) (k : Int) with
      | none => simp
      | some x => simp
    · have hxe : i = lo.length := by omega
      have hd : (lo.zip hi).drop i = [] := List.drop_eq_nil_of_le (by simp; omega)
      simp only [hx, decide_false, cond_false, hd, spansFrom, List.append_nil, Option.some.injEq]
      congr 1
      apply List.ext_getElem?
      intro k
      rw [List.getElem?_map]
      by_cases hk : k < w.route.legs.length + 1
      · rw [List.getElem?_range hk, List.getElem?_eq_getElem (by omega)]
        simp
        rw [List.getElem?_eq_getElem (by omega)]
        rfl
      · rw [List.getElem?_eq_none (by omega), List.getElem?_eq_none (by simp; omega)]
        rfl
end Go.Proofs.Ytokchpjijlebiaa
namespace Go.Proofs.Ytokchpjijlebiaa
open Go Go.RowKit
def okSpan (x : Rg) (m : Int) : Bool := decide (0 ≤ x.lo ∧ x.lo ≤ x.hi ∧ x.hi ≤ m)
def okBus (r : Route) (b : Bus) : Bool := decide (0 ≤ b.stop ∧ b.stop ≤ (r.legs.length : Int)) && okSpan b.tm 2000
def okSpare (r : Route) (s : Spare) : Bool := decide (0 ≤ s.stop ∧ s.stop ≤ (r.legs.length : Int)) && decide (0 ≤ s.tm ∧ s.tm ≤ 2000)
def validB (r : Route) : Bool := decide (r.legs.length % 2 = 1 ∧ r.legs.length ≤ 7) && okSpan r.turn 300 && decide (1 ≤ r.unit ∧ r.unit ≤ 30) && decide (0 ≤ r.gap ∧ r.gap ≤ 2000) && decide (0 ≤ r.fr ∧ r.fr ≤ r.to_ ∧ r.to_ ≤ 2000) && r.legs.all (fun x => okSpan x 300) && r.buses.all (okBus r) && r.spares.all (okSpare r)
def faultOf (r : Route) : Int := if r.buses.length > 4 ∨ r.spares.length > 2 then 3 else if validB r then 0 else 1
theorem ref_In_eq (n : Nat) (x a b : Int) : ref_In n x a b = some (decide (a ≤ x ∧ x ≤ b)) := by
  unfold ref_In
  by_cases h : a ≤ x <;> simp [h]
theorem within_eq (n : Nat) (x a b : Int) : control_within n x a b = some (decide (a ≤ x ∧ x ≤ b)) := by
  unfold control_within
  by_cases h : a ≤ x <;> simp [h]
theorem ref_span_eq (n : Nat) (x : Rg) (m : Int) : ref_span n x m = some (okSpan x m) := by
  unfold ref_span okSpan
  rw [ref_In_eq]
  by_cases h : 0 ≤ x.lo ∧ x.lo ≤ x.hi
  · simp [h]
  · simp only [h, decide_false, Option.bind_some, cond_false, Option.some.injEq]
    symm; rw [decide_eq_false_iff_not]; omega
theorem upto_eq (n : Nat) (x : Rg) (m : Int) : control_Range_upto n x m = some (okSpan x m) := by
  unfold control_Range_upto okSpan
  by_cases h : 0 ≤ x.lo <;> by_cases h2 : x.lo ≤ x.hi <;> simp [h, h2]
theorem takes_eq (n : Nat) (x : Rg) : control_Range_takes n x = some (okSpan x 300) := by
  unfold control_Range_takes; rw [upto_eq]; rfl
theorem minute_eq (n : Nat) (x : Int) : control_minute n x = some (decide (0 ≤ x ∧ x ≤ 2000)) := by
  unfold control_minute; rw [within_eq]; rfl
theorem ref_stops_eq (n : Nat) (r : Route) (h : r.legs.length ≤ 20) : ref_Stops n r = some ((r.legs.length : Int) + 1) := by
  unfold ref_Stops; rw [wid (by omega) (by omega)]
theorem fault_l1_eq (r : Route) (hb : r.legs.length ≤ 20) : ∀ (n i : Nat), r.legs.length < n + i → i ≤ r.legs.length → ref_Fault_l1 n r (i : Int) = some (if (r.legs.drop i).all (fun x => okSpan x 300) then Ex.go () else Ex.ret 1)
  | 0, i, h, hi => by omega
  | n + 1, i, h, hi => by
    rw [ref_Fault_l1, lt_len]
    by_cases hx : i < r.legs.length
    · simp only [hx, decide_true, cond_true, idxLt _ _ hx, Option.bind_some, ref_span_eq]
      rw [drop_get hx, List.all_cons]
      cases okSpan r.legs[i] 300 with
      | true => simp only [Bool.not_true, cond_false, Bool.true_and]; rw [wnat i (by omega), fault_l1_eq r hb n (i + 1) (by omega) (by omega)]
      | false => rfl
    · have : i = r.legs.length := by omega
      simp [this]
theorem fault_l2_eq (r : Route) (hl : r.legs.length ≤ 20) (hb : r.buses.length ≤ 20) : ∀ (n i : Nat), r.buses.length < n + i → i ≤ r.buses.length → ref_Fault_l2 n r (i : Int) = some (if (r.buses.drop i).all (okBus r) then Ex.go () else Ex.ret 1)
  | 0, i, h, hi => by omega
  | n + 1, i, h, hi => by
    rw [ref_Fault_l2, lt_len]
    by_cases hx : i < r.buses.length
    · simp only [hx, decide_true, cond_true, idxLt _ _ hx, Option.bind_some, ref_span_eq, ref_stops_eq n r hl, ref_In_eq]
      rw [drop_get hx, List.all_cons, wid (x := (r.legs.length : Int) + 1 - 1) (by omega) (by omega), show (r.legs.length : Int) + 1 - 1 = r.legs.length by omega]
      unfold okBus
      by_cases h1 : 0 ≤ (r.buses[i]).stop ∧ (r.buses[i]).stop ≤ (r.legs.length : Int)
      · simp only [h1, and_self, decide_true, Bool.not_true, cond_false, Bool.true_and]
        cases okSpan (r.buses[i]).tm 2000 with
        | true =>
          simp only [Bool.not_true, cond_false, Bool.true_and]; rw [wnat i (by omega), fault_l2_eq r hl hb n (i + 1) (by omega) (by omega)]
          rfl
        | false => rfl
      · simp only [h1, decide_false, Bool.not_false, cond_true, Bool.false_and]
        rfl
    · have : i = r.buses.length := by omega
      simp [this]
theorem fault_l3_eq (r : Route) (hl : r.legs.length ≤ 20) (hb : r.spares.length ≤ 20) : ∀ (n i : Nat), r.spares.length < n + i → i ≤ r.spares.length → ref_Fault_l3 n r (i : Int) = some (if (r.spares.drop i).all (okSpare r) then Ex.go () else Ex.ret 1)
  | 0, i, h, hi => by omega
  | n + 1, i, h, hi => by
    rw [ref_Fault_l3, lt_len]
    by_cases hx : i < r.spares.length
    · simp only [hx, decide_true, cond_true, idxLt _ _ hx, Option.bind_some, ref_stops_eq n r hl, ref_In_eq]
      rw [drop_get hx, List.all_cons, wid (x := (r.legs.length : Int) + 1 - 1) (by omega) (by omega), show (r.legs.length : Int) + 1 - 1 = r.legs.length by omega]
      unfold okSpare
      by_cases h1 : 0 ≤ (r.spares[i]).stop ∧ (r.spares[i]).stop ≤ (r.legs.length : Int)
      · simp only [h1, and_self, decide_true, Bool.not_true, cond_false, Bool.true_and]
        by_cases h2 : 0 ≤ (r.spares[i]).tm ∧ (r.spares[i]).tm ≤ 2000
        · simp only [h2, and_self, decide_true, Bool.not_true, cond_false, Bool.true_and]; rw [wnat i (by omega), fault_l3_eq r hl hb n (i + 1) (by omega) (by omega)]
          rfl
        · simp only [h2, decide_false, Bool.not_false, cond_true, Bool.false_and]
          rfl
      · simp only [h1, decide_false, Bool.not_false, cond_true, Bool.false_and]
        rfl
    · have : i = r.spares.length := by omega
      simp [this]
theorem tmod2 (k : Nat) (h : k ≤ 1000) : Int.tmod ((k : Nat) : Int) 2 = ((k % 2 : Nat) : Int) := rfl
theorem ref_Fault_eq (n : Nat) (r : Route) (hn : 50 ≤ n) (h1 : r.legs.length ≤ 20) (h2 : r.buses.length ≤ 20) (h3 : r.spares.length ≤ 20) : ref_Fault n r = some (faultOf r) := by
  unfold ref_Fault faultOf
  have e1 := fault_l1_eq r h1 n 0 (by omega) (by omega)
  have e2 := fault_l2_eq r h1 h2 n 0 (by omega) (by omega)
  have e3 := fault_l3_eq r h1 h3 n 0 (by omega) (by omega)
  simp only [Int.natCast_zero, List.drop_zero] at e1 e2 e3
  simp only [ref_span_eq, ref_In_eq, e1, e2, e3, Option.bind_some, tmod2 _ (show r.legs.length ≤ 1000 by omega)]
  by_cases a1 : r.buses.length > 4
  · have a1' : decide (((r.buses.length : Nat) : Int) > 4) = true := by simp; omega
    simp only [a1', a1, cond_true, Option.bind_some, true_or, if_true]
  have a1' : decide (((r.buses.length : Nat) : Int) > 4) = false := by simp; omega
  by_cases a2 : r.spares.length > 2
  · have a2' : decide (((r.spares.length : Nat) : Int) > 2) = true := by simp; omega
    simp only [a1', a2', a2, cond_true, cond_false, Option.bind_some, or_true, if_true]
  have a2' : decide (((r.spares.length : Nat) : Int) > 2) = false := by simp; omega
  simp only [a1', a2', cond_false, Option.bind_some, a1, a2, or_self, if_false]
  unfold validB
  by_cases b1 : ¬ (r.legs.length % 2 = 1)
  · have : r.legs.length % 2 = 0 := by omega
    simp [this]
  replace b1 := Decidable.not_not.1 b1
  have b1' : (((r.legs.length % 2 : Nat) : Int) == 0) = false := by rw [b1]; rfl
  by_cases b2 : ¬ (r.legs.length ≤ 7)
  · have b2' : decide (((r.legs.length : Nat) : Int) > 7) = true := by simp; omega
    simp only [b1', b2', b2, and_false, decide_false, Bool.false_and, cond_false, cond_true, Option.bind_some]
    rfl
  replace b2 := Decidable.not_not.1 b2
  have b2' : decide (((r.legs.length : Nat) : Int) > 7) = false := by simp; omega
  simp only [b1', b2', cond_false, b1, b2, and_self, decide_true, Bool.true_and]
  cases okSpan r.turn 300
  · simp
  simp only [Bool.not_true, cond_false, Bool.true_and]
  by_cases b3 : ¬ (1 ≤ r.unit ∧ r.unit ≤ 30)
  · simp [b3]
  replace b3 := Decidable.not_not.1 b3
  simp only [b3, and_self, decide_true, Bool.not_true, cond_false, Option.bind_some, Bool.true_and]
  by_cases b4 : ¬ (0 ≤ r.gap ∧ r.gap ≤ 2000)
  · simp [b4]
  replace b4 := Decidable.not_not.1 b4
  simp only [b4, and_self, decide_true, Bool.not_true, cond_false, Option.bind_some, Bool.true_and]
  by_cases b5 : ¬ (0 ≤ r.fr ∧ r.fr ≤ r.to_)
  · simp only [b5, decide_false, Bool.not_false, cond_true, Option.bind_some]
    have : ¬ (0 ≤ r.fr ∧ r.fr ≤ r.to_ ∧ r.to_ ≤ 2000) := fun h => b5 ⟨h.1, h.2.1⟩
    simp [this]
  replace b5 := Decidable.not_not.1 b5
  simp only [b5, and_self, decide_true, Bool.not_true, cond_false, Option.bind_some]
  by_cases b6 : ¬ (r.to_ ≤ 2000)
  · have : ¬ (0 ≤ r.fr ∧ r.fr ≤ r.to_ ∧ r.to_ ≤ 2000) := fun h => b6 h.2.2
    have b6' : decide (r.to_ > 2000) = true := by simp; omega
    simp only [b6, b6', and_false, decide_false, Bool.false_and, cond_true, Option.bind_some]
    rfl
  replace b6 := Decidable.not_not.1 b6
  have b6' : decide (r.to_ > 2000) = false := by simp; omega
  simp only [b6', b6, b5, and_self, decide_true, cond_false, Bool.true_and]
  cases r.legs.all (fun x => okSpan x 300)
  · rfl
  cases r.buses.all (okBus r)
  · rfl
  cases r.spares.all (okSpare r)
  · rfl
  rfl
theorem indexFunc_Rg_eq (l : List Rg) (F : Rg → Option Bool) (p : Rg → Bool) (hF : ∀ x, F x = some (p x)) (hb : l.length ≤ 20) : ∀ (n i : Nat), l.length < n + i → i ≤ l.length → ∃ e, slices_IndexFunc_control_Range_control_Range_l1 n l F (i : Int) = some e ∧ ((∃ k : Nat, e = Ex.ret (k : Int)) ∧ (l.drop i).any p = true ∨ e = Ex.go () ∧ (l.drop i).any p = false)
  | 0, i, h, hi => by omega
  | n + 1, i, h, hi => by
    rw [slices_IndexFunc_control_Range_control_Range_l1, lt_len]
    by_cases hx : i < l.length
    · simp only [hx, decide_true, cond_true, idxLt _ _ hx, Option.bind_some, hF]
      rw [drop_get hx, List.any_cons]
      cases p l[i] with
      | true => exact ⟨_, rfl, .inl ⟨⟨i, rfl⟩, rfl⟩⟩
      | false => simp only [cond_false, Bool.false_or]; rw [wnat i (by omega)]; exact indexFunc_Rg_eq l F p hF hb n (i + 1) (by omega) (by omega)
    · have : i = l.length := by omega
      exact ⟨Ex.go (), by simp [this], .inr ⟨rfl, by simp [this]⟩⟩
theorem all_Rg_eq (n : Nat) (hn : 50 ≤ n) (l : List Rg) (F : Rg → Option Bool) (p : Rg → Bool) (hF : ∀ x, F x = some (p x)) (hb : l.length ≤ 20) : control_all_control_Range n l F = some (l.all p) := by
  unfold control_all_control_Range slices_ContainsFunc_control_Range_control_Range slices_IndexFunc_control_Range_control_Range
  obtain ⟨e, he, h⟩ := indexFunc_Rg_eq l (fun y0 => control_all_control_Range_1 n y0 F) (fun x => !p x) (fun x => by simp [control_all_control_Range_1, hF]) hb n 0 (by omega) (by omega)
  simp only [Int.natCast_zero, List.drop_zero] at he h
  rw [he]
  have hall : l.all p = !(l.any fun x => !p x) := by rw [List.not_any_eq_all_not]; simp
  rcases h with ⟨⟨k, rfl⟩, h⟩ | ⟨rfl, h⟩
  · rw [hall, h]
    simp [Ex.bind]
  · rw [hall, h]
    simp [Ex.bind]
theorem indexFunc_Bus_eq (l : List Bus) (F : Bus → Option Bool) (p : Bus → Bool) (hF : ∀ x, F x = some (p x)) (hb : l.length ≤ 20) : ∀ (n i : Nat), l.length < n + i → i ≤ l.length → ∃ e, slices_IndexFunc_control_Bus_control_Bus_l1 n l F (i : Int) = some e ∧ ((∃ k : Nat, e = Ex.ret (k : Int)) ∧ (l.drop i).any p = true ∨ e = Ex.go () ∧ (l.drop i).any p = false)
  | 0, i, h, hi => by omega
  | n + 1, i, h, hi => by
    rw [slices_IndexFunc_control_Bus_control_Bus_l1, lt_len]
    by_cases hx : i < l.length
    · simp only [hx, decide_true, cond_true, idxLt _ _ hx, Option.bind_some, hF]
      rw [drop_get hx, List.any_cons]
      cases p l[i] with
      | true => exact ⟨_, rfl, .inl ⟨⟨i, rfl⟩, rfl⟩⟩
      | false => simp only [cond_false, Bool.false_or]; rw [wnat i (by omega)]; exact indexFunc_Bus_eq l F p hF hb n (i + 1) (by omega) (by omega)
    · have : i = l.length := by omega
      exact ⟨Ex.go (), by simp [this], .inr ⟨rfl, by simp [this]⟩⟩
theorem all_Bus_eq (n : Nat) (hn : 50 ≤ n) (l : List Bus) (F : Bus → Option Bool) (p : Bus → Bool) (hF : ∀ x, F x = some (p x)) (hb : l.length ≤ 20) : control_all_control_Bus n l F = some (l.all p) := by
  unfold control_all_control_Bus slices_ContainsFunc_control_Bus_control_Bus slices_IndexFunc_control_Bus_control_Bus
  obtain ⟨e, he, h⟩ := indexFunc_Bus_eq l (fun y0 => control_all_control_Bus_1 n y0 F) (fun x => !p x) (fun x => by simp [control_all_control_Bus_1, hF]) hb n 0 (by omega) (by omega)
  simp only [Int.natCast_zero, List.drop_zero] at he h
  rw [he]
  have hall : l.all p = !(l.any fun x => !p x) := by rw [List.not_any_eq_all_not]; simp
  rcases h with ⟨⟨k, rfl⟩, h⟩ | ⟨rfl, h⟩
  · rw [hall, h]
    simp [Ex.bind]
  · rw [hall, h]
    simp [Ex.bind]
theorem indexFunc_Spare_eq (l : List Spare) (F : Spare → Option Bool) (p : Spare → Bool) (hF : ∀ x, F x = some (p x)) (hb : l.length ≤ 20) : ∀ (n i : Nat), l.length < n + i → i ≤ l.length → ∃ e, slices_IndexFunc_control_Spare_control_Spare_l1 n l F (i : Int) = some e ∧ ((∃ k : Nat, e = Ex.ret (k : Int)) ∧ (l.drop i).any p = true ∨ e = Ex.go () ∧ (l.drop i).any p = false)
  | 0, i, h, hi => by omega
  | n + 1, i, h, hi => by
    rw [slices_IndexFunc_control_Spare_control_Spare_l1, lt_len]
    by_cases hx : i < l.length
    · simp only [hx, decide_true, cond_true, idxLt _ _ hx, Option.bind_some, hF]
      rw [drop_get hx, List.any_cons]
      cases p l[i] with
      | true => exact ⟨_, rfl, .inl ⟨⟨i, rfl⟩, rfl⟩⟩
      | false => simp only [cond_false, Bool.false_or]; rw [wnat i (by omega)]; exact indexFunc_Spare_eq l F p hF hb n (i + 1) (by omega) (by omega)
    · have : i = l.length := by omega
      exact ⟨Ex.go (), by simp [this], .inr ⟨rfl, by simp [this]⟩⟩
theorem all_Spare_eq (n : Nat) (hn : 50 ≤ n) (l : List Spare) (F : Spare → Option Bool) (p : Spare → Bool) (hF : ∀ x, F x = some (p x)) (hb : l.length ≤ 20) : control_all_control_Spare n l F = some (l.all p) := by
  unfold control_all_control_Spare slices_ContainsFunc_control_Spare_control_Spare slices_IndexFunc_control_Spare_control_Spare
  obtain ⟨e, he, h⟩ := indexFunc_Spare_eq l (fun y0 => control_all_control_Spare_1 n y0 F) (fun x => !p x) (fun x => by simp [control_all_control_Spare_1, hF]) hb n 0 (by omega) (by omega)
  simp only [Int.natCast_zero, List.drop_zero] at he h
  rw [he]
  have hall : l.all p = !(l.any fun x => !p x) := by rw [List.not_any_eq_all_not]; simp
  rcases h with ⟨⟨k, rfl⟩, h⟩ | ⟨rfl, h⟩
  · rw [hall, h]
    simp [Ex.bind]
  · rw [hall, h]
    simp [Ex.bind]
theorem check_1_eq (n : Nat) (b : Bus) (r : Route) (h : r.legs.length ≤ 20) : control_Route_check_1 n b r = some (okBus r b) := by
  unfold control_Route_check_1 okBus
  rw [control_stop_eq n r _ h, upto_eq]
  by_cases h1 : 0 ≤ b.stop ∧ b.stop ≤ (r.legs.length : Int)
  · have : 0 ≤ b.stop ∧ b.stop < (r.legs.length : Int) + 1 := ⟨h1.1, by omega⟩
    simp [h1, this]
  · have : ¬ (0 ≤ b.stop ∧ b.stop < (r.legs.length : Int) + 1) := fun h => h1 ⟨h.1, by omega⟩
    simp only [this, h1, decide_false, Option.bind_some, cond_false, Bool.false_and]
theorem check_2_eq (n : Nat) (b : Spare) (r : Route) (h : r.legs.length ≤ 20) : control_Route_check_2 n b r = some (okSpare r b) := by
  unfold control_Route_check_2 okSpare
  rw [control_stop_eq n r _ h, minute_eq]
  by_cases h1 : 0 ≤ b.stop ∧ b.stop ≤ (r.legs.length : Int)
  · have : 0 ≤ b.stop ∧ b.stop < (r.legs.length : Int) + 1 := ⟨h1.1, by omega⟩
    simp [h1, this]
  · have : ¬ (0 ≤ b.stop ∧ b.stop < (r.legs.length : Int) + 1) := fun h => h1 ⟨h.1, by omega⟩
    simp only [this, h1, decide_false, Option.bind_some, cond_false, Bool.false_and]
theorem places_eq (n : Nat) (r : Route) (h : r.legs.length ≤ 20) : control_Route_places n r = some ((((r.legs.length + 1) / 2 : Nat) : Int)) := by
  unfold control_Route_places
  rw [control_stops_eq n r h]
  simp only [Option.bind_some, Option.some.injEq]
  rw [show ((r.legs.length : Int) + 1) = ((r.legs.length + 1 : Nat) : Int) by omega, show Int.tdiv ((r.legs.length + 1 : Nat) : Int) 2 = (((r.legs.length + 1) / 2 : Nat) : Int) from rfl, wid (by omega) (by omega)]
theorem check_eq (n : Nat) (r : Route) (hn : 50 ≤ n) (h1 : r.legs.length ≤ 20) (h2 : r.buses.length ≤ 20) (h3 : r.spares.length ≤ 20) : control_Route_check n r = some (faultOf r) := by
  unfold control_Route_check faultOf
  rw [all_Rg_eq n hn r.legs _ (fun x => okSpan x 300) (fun x => takes_eq n x) h1, all_Bus_eq n hn r.buses _ (okBus r) (fun x => check_1_eq n x r h1) h2, all_Spare_eq n hn r.spares _ (okSpare r) (fun x => check_2_eq n x r h1) h3]
  simp only [takes_eq, within_eq, minute_eq, places_eq n r h1, Option.bind_some, tmod2 _ (show r.legs.length ≤ 1000 by omega)]
  by_cases a1 : r.buses.length > 4
  · have a1' : decide (((r.buses.length : Nat) : Int) > 4) = true := by simp; omega
    simp only [a1', a1, cond_true, Option.bind_some, true_or, if_true]
  have a1' : decide (((r.buses.length : Nat) : Int) > 4) = false := by simp; omega
  by_cases a2 : r.spares.length > 2
  · have a2' : decide (((r.spares.length : Nat) : Int) > 2) = true := by simp; omega
    simp only [a1', a2', a2, cond_true, cond_false, Option.bind_some, or_true, if_true]
  have a2' : decide (((r.spares.length : Nat) : Int) > 2) = false := by simp; omega
  simp only [a1', a2', cond_false, Option.bind_some, a1, a2, or_self, if_false]
  unfold validB
  by_cases b1 : ¬ (r.legs.length % 2 = 1)
  · have : r.legs.length % 2 = 0 := by omega
    simp [this]
  replace b1 := Decidable.not_not.1 b1
  have b1' : (((r.legs.length % 2 : Nat) : Int) == 0) = false := by rw [b1]; rfl
  by_cases b2 : ¬ (r.legs.length ≤ 7)
  · have b2' : decide ((((r.legs.length + 1) / 2 : Nat) : Int) > 4) = true := by simp; omega
    simp only [b1', b2', b2, and_false, decide_false, Bool.false_and, cond_false, cond_true, Option.bind_some]
    rfl
  replace b2 := Decidable.not_not.1 b2
  have b2' : decide ((((r.legs.length + 1) / 2 : Nat) : Int) > 4) = false := by simp; omega
  simp only [b1', b2', cond_false, b1, b2, and_self, decide_true, Bool.true_and]
  cases r.legs.all (fun x => okSpan x 300)
  · simp
  cases okSpan r.turn 300
  · simp
  cases r.buses.all (okBus r)
  · simp
  cases r.spares.all (okSpare r)
  · simp
  simp only [Bool.not_true, cond_false, Bool.true_and, Bool.and_true, Option.bind_some]
  by_cases b3 : ¬ (1 ≤ r.unit ∧ r.unit ≤ 30)
  · simp [b3]
  replace b3 := Decidable.not_not.1 b3
  by_cases b4 : ¬ (0 ≤ r.gap ∧ r.gap ≤ 2000)
  · simp [b3, b4]
  replace b4 := Decidable.not_not.1 b4
  simp only [b3, b4, and_self, decide_true, Bool.not_true, cond_false, Option.bind_some, Bool.true_and]
  by_cases b5 : ¬ (0 ≤ r.fr ∧ r.fr ≤ 2000)
  · have : ¬ (0 ≤ r.fr ∧ r.fr ≤ r.to_ ∧ r.to_ ≤ 2000) := fun h => b5 ⟨h.1, by omega⟩
    simp [b5, this]
  replace b5 := Decidable.not_not.1 b5
  by_cases b6 : ¬ (0 ≤ r.to_ ∧ r.to_ ≤ 2000)
  · have : ¬ (0 ≤ r.fr ∧ r.fr ≤ r.to_ ∧ r.to_ ≤ 2000) := fun h => b6 ⟨by omega, h.2.2⟩
    simp [b5, b6]; omega
  replace b6 := Decidable.not_not.1 b6
  simp only [b5, b6, and_self, decide_true, Bool.not_true, cond_false, Option.bind_some]
  by_cases b7 : r.fr > r.to_
  · have : ¬ (0 ≤ r.fr ∧ r.fr ≤ r.to_ ∧ r.to_ ≤ 2000) := fun h => by omega
    have b7' : decide (r.fr > r.to_) = true := by simp; omega
    simp only [b7', cond_true]
    simp; omega
  · have b7' : decide (r.fr > r.to_) = false := by simp; omega
    simp only [b7', cond_false]
    simp; omega
structure Valid (r : Route) : Prop where
  nb : r.buses.length ≤ 4
  ns : r.spares.length ≤ 2
  odd : r.legs.length % 2 = 1
  nl : r.legs.length ≤ 7
  turn : 0 ≤ r.turn.lo ∧ r.turn.lo ≤ r.turn.hi ∧ r.turn.hi ≤ 300
  unit : 1 ≤ r.unit ∧ r.unit ≤ 30
  gap : 0 ≤ r.gap ∧ r.gap ≤ 2000
  looked : 0 ≤ r.fr ∧ r.fr ≤ r.to_ ∧ r.to_ ≤ 2000
  legs : ∀ x ∈ r.legs, 0 ≤ x.lo ∧ x.lo ≤ x.hi ∧ x.hi ≤ 300
  buses : ∀ b ∈ r.buses, 0 ≤ b.stop ∧ b.stop ≤ (r.legs.length : Int) ∧ 0 ≤ b.tm.lo ∧ b.tm.lo ≤ b.tm.hi ∧ b.tm.hi ≤ 2000
  spares : ∀ s ∈ r.spares, 0 ≤ s.stop ∧ s.stop ≤ (r.legs.length : Int) ∧ 0 ≤ s.tm ∧ s.tm ≤ 2000
theorem valid_of {r : Route} (h : faultOf r = 0) : Valid r := by
  unfold faultOf at h
  split at h
  · cases h
  rename_i h1
  split at h
  · rename_i h2
    simp only [validB, okSpan, Bool.and_eq_true, decide_eq_true_eq, List.all_eq_true] at h2
    obtain ⟨⟨⟨⟨⟨⟨⟨q1, q2⟩, q3⟩, q4⟩, q5⟩, q6⟩, q7⟩, q8⟩ := h2
    refine ⟨by omega, by omega, q1.1, q1.2, q2, q3, q4, q5, q6, fun b hb => ?_, fun s hs => ?_⟩
    · have := q7 b hb
      simp only [okBus, okSpan, Bool.and_eq_true, decide_eq_true_eq] at this
      exact ⟨this.1.1, this.1.2, this.2⟩
    · have := q8 s hs
      simp only [okSpare, Bool.and_eq_true, decide_eq_true_eq] at this
      exact ⟨this.1.1, this.1.2, this.2⟩
  · cases h
end Go.Proofs.Ytokchpjijlebiaa
namespace Go.Proofs.Ytokchpjijlebiaa
open Go Go.RowKit
def okAct (r : Route) (a : Acts) (i : Nat) : Bool := decide (0 ≤ a.holds[i]! ∧ a.holds[i]! ≤ 2) && (decide (a.turns[i]! = -1) || decide ((r.buses[i]!).stop ≤ a.turns[i]! ∧ a.turns[i]! ≤ (((r.legs.length + 1) / 2 : Nat) : Int) - 2))
def actsB (r : Route) (a : Acts) : Bool := decide (a.holds.length = r.buses.length ∧ a.turns.length = r.buses.length ∧ a.spares.length = r.spares.length) && (List.range r.buses.length).all (okAct r a)
theorem ref_places_eq (n : Nat) (r : Route) (h : r.legs.length ≤ 20) : ref_Places n r = some ((((r.legs.length + 1) / 2 : Nat) : Int)) := by
  unfold ref_Places
  rw [wid (x := (r.legs.length : Int) + 1) (by omega) (by omega), show ((r.legs.length : Int) + 1) = ((r.legs.length + 1 : Nat) : Int) by omega, show Int.tdiv ((r.legs.length + 1 : Nat) : Int) 2 = (((r.legs.length + 1) / 2 : Nat) : Int) from rfl, wid (by omega) (by omega)]
theorem turns_eq (n : Nat) (r : Route) (b : Bus) (t : Int) (h : r.legs.length ≤ 20) : control_Route_turns n r b t = some (decide (t = -1) || decide (b.stop ≤ t ∧ t ≤ (((r.legs.length + 1) / 2 : Nat) : Int) - 2)) := by
  unfold control_Route_turns
  rw [places_eq n r h]
  simp only [Option.bind_some, within_eq]
  rw [wid (by omega) (by omega)]
  by_cases ht : t = -1
  · simp [ht]
  · rw [beq_eq_false_iff_ne.2 ht]
    simp [ht]
theorem areActs_l1_eq (r : Route) (a : Acts) (hl : r.legs.length ≤ 20) (hb : r.buses.length ≤ 20) (h1 : a.holds.length = r.buses.length) (h2 : a.turns.length = r.buses.length) : ∀ (n i : Nat), r.buses.length < n + i → i ≤ r.buses.length → ref_AreActs_l1 n r a (i : Int) = some (if ((List.range r.buses.length).drop i).all (okAct r a) then Ex.go () else Ex.ret false)
  | 0, i, h, hi => by omega
  | n + 1, i, h, hi => by
    rw [ref_AreActs_l1, lt_len]
    by_cases hx : i < r.buses.length
    · have q1 : i < a.holds.length := by omega
      have q2 : i < a.turns.length := by omega
      have q6 : i < (List.range r.buses.length).length := by simpa using hx
      simp only [hx, decide_true, cond_true, idxLt _ _ hx, idxLt _ _ q1, idxLt _ _ q2, Option.bind_some, ref_In_eq, ref_places_eq n r hl]
      rw [drop_get q6, List.all_cons, List.getElem_range]
      have IH := areActs_l1_eq r a hl hb h1 h2 n (i + 1) (by omega) (by omega)
      rw [wid (x := (((r.legs.length + 1) / 2 : Nat) : Int) - 2) (by omega) (by omega), wnat i (by omega), IH]
      unfold okAct
      rw [bang _ _ hx, bang _ _ q1, bang _ _ q2]
      by_cases b1 : 0 ≤ a.holds[i] ∧ a.holds[i] ≤ 2
      · simp only [b1, and_self, decide_true, Bool.not_true, cond_false, Bool.true_and]
        by_cases b2 : a.turns[i] = -1
        · simp [b2]
        · have : (a.turns[i] != -1) = true := by simpa using b2
          simp only [this, cond_true, b2, decide_false, Bool.false_or]
          by_cases b3 : (r.buses[i]).stop ≤ a.turns[i] ∧ a.turns[i] ≤ (((r.legs.length + 1) / 2 : Nat) : Int) - 2
          · simp only [b3, and_self, decide_true, Bool.not_true, cond_false, Bool.true_and]
          · simp only [b3, decide_false, Bool.not_false, cond_true, Bool.false_and]
            rfl
      · simp only [b1, decide_false, Bool.not_false, cond_true, Bool.false_and]
        rfl
    · have : i = r.buses.length := by omega
      have hd : (List.range r.buses.length).drop r.buses.length = [] := List.drop_eq_nil_of_le (by simp)
      simp [this, hd]
theorem acts_l1_eq (r : Route) (a : Acts) (hl : r.legs.length ≤ 20) (hb : r.buses.length ≤ 20) (h1 : a.holds.length = r.buses.length) (h2 : a.turns.length = r.buses.length) : ∀ (n i : Nat), r.buses.length < n + i → i ≤ r.buses.length → control_Route_acts_l1 n r a (i : Int) = some (if ((List.range r.buses.length).drop i).all (okAct r a) then Ex.go () else Ex.ret 2)
  | 0, i, h, hi => by omega
  | n + 1, i, h, hi => by
    rw [control_Route_acts_l1, lt_len]
    by_cases hx : i < r.buses.length
    · have q1 : i < a.holds.length := by omega
      have q2 : i < a.turns.length := by omega
      have q6 : i < (List.range r.buses.length).length := by simpa using hx
      simp only [hx, decide_true, cond_true, idxLt _ _ hx, idxLt _ _ q1, idxLt _ _ q2, Option.bind_some, within_eq, turns_eq n r _ _ hl]
      rw [drop_get q6, List.all_cons, List.getElem_range]
      have IH := acts_l1_eq r a hl hb h1 h2 n (i + 1) (by omega) (by omega)
      rw [wnat i (by omega), IH]
      unfold okAct
      rw [bang _ _ hx, bang _ _ q1, bang _ _ q2]
      cases decide (0 ≤ a.holds[i] ∧ a.holds[i] ≤ 2) with
      | false => rfl
      | true =>
        simp only [Bool.not_true, cond_false, Bool.true_and]
        cases (decide (a.turns[i] = -1) || decide ((r.buses[i]).stop ≤ a.turns[i] ∧ a.turns[i] ≤ (((r.legs.length + 1) / 2 : Nat) : Int) - 2)) with
        | false => rfl
        | true => rfl
    · have : i = r.buses.length := by omega
      have hd : (List.range r.buses.length).drop r.buses.length = [] := List.drop_eq_nil_of_le (by simp)
      simp [this, hd]
theorem ref_AreActs_eq (n : Nat) (r : Route) (a : Acts) (hn : 50 ≤ n) (hl : r.legs.length ≤ 20) (hb : r.buses.length ≤ 20) : ref_AreActs n r a = some (actsB r a) := by
  unfold ref_AreActs actsB
  by_cases h1 : a.holds.length = r.buses.length
  · by_cases h2 : a.turns.length = r.buses.length
    · by_cases h3 : a.spares.length = r.spares.length
      · have e1 := areActs_l1_eq r a hl hb h1 h2 n 0 (by omega) (by omega)
        simp only [Int.natCast_zero, List.drop_zero] at e1
        simp only [h1, h2, h3, bne_self_eq_false, cond_false, Option.bind_some, e1, and_self, decide_true, Bool.true_and]
        cases (List.range r.buses.length).all (okAct r a) <;> rfl
      · have : (((a.spares.length : Nat) : Int) != ((r.spares.length : Nat) : Int)) = true := by simp; omega
        simp only [h1, h2, h3, this, bne_self_eq_false, cond_false, cond_true, Option.bind_some, and_false, decide_false, Bool.false_and]
    · have : (((a.turns.length : Nat) : Int) != ((r.buses.length : Nat) : Int)) = true := by simp; omega
      simp only [h1, h2, this, bne_self_eq_false, cond_false, cond_true, Option.bind_some, false_and, and_false, decide_false, Bool.false_and]
  · have : (((a.holds.length : Nat) : Int) != ((r.buses.length : Nat) : Int)) = true := by simp; omega
    simp only [h1, this, cond_true, Option.bind_some, false_and, decide_false, Bool.false_and]
theorem acts_eq (n : Nat) (r : Route) (a : Acts) (hn : 50 ≤ n) (hl : r.legs.length ≤ 20) (hb : r.buses.length ≤ 20) (hs : r.spares.length ≤ 20) : control_Route_acts n r a = some (if faultOf r ≠ 0 then faultOf r else if actsB r a then 0 else 2) := by
  unfold control_Route_acts actsB
  rw [check_eq n r hn hl hb hs]
  by_cases h0 : ¬ (faultOf r = 0)
  · have : (faultOf r != 0) = true := by simpa using h0
    simp [this, h0]
  replace h0 := Decidable.not_not.1 h0
  simp only [h0, bne_self_eq_false, cond_false, Option.bind_some, ne_eq, not_true_eq_false, if_false]
  by_cases h1 : a.holds.length = r.buses.length
  · by_cases h2 : a.turns.length = r.buses.length
    · by_cases h3 : a.spares.length = r.spares.length
      · have e1 := acts_l1_eq r a hl hb h1 h2 n 0 (by omega) (by omega)
        simp only [Int.natCast_zero, List.drop_zero] at e1
        simp only [h1, h2, h3, bne_self_eq_false, cond_false, Option.bind_some, e1, and_self, decide_true, Bool.true_and]
        cases (List.range r.buses.length).all (okAct r a) <;> rfl
      · have : (((a.spares.length : Nat) : Int) != ((r.spares.length : Nat) : Int)) = true := by simp; omega
        simp only [h1, h2, h3, this, bne_self_eq_false, cond_false, cond_true, Option.bind_some, and_false, decide_false, Bool.false_and]
        rfl
    · have : (((a.turns.length : Nat) : Int) != ((r.buses.length : Nat) : Int)) = true := by simp; omega
      simp only [h1, h2, this, bne_self_eq_false, cond_false, cond_true, Option.bind_some, false_and, and_false, decide_false, Bool.false_and]
      rfl
  · have : (((a.holds.length : Nat) : Int) != ((r.buses.length : Nat) : Int)) = true := by simp; omega
    simp only [h1, this, cond_true, Option.bind_some, false_and, decide_false, Bool.false_and]
    rfl
def soonest (m to_ : Int) (l : List Rg) : Int := l.foldl (fun e p => if p.lo > m then min e p.hi else e) to_
def marksOf (fr to_ : Int) (l : List Rg) : List Int := fr :: (l.filter fun p => decide (fr ≤ p.lo) && decide (p.lo ≤ to_)).map Rg.lo
def WR (fr to_ : Int) (l : List Rg) : Int := (marksOf fr to_ l).foldl (fun b m => max b (soonest m to_ l - m)) 0
theorem soonest_bnd (m : Int) : ∀ (l : List Rg) (to_ : Int), (∀ p ∈ l, p.lo ≤ p.hi) → m ≤ to_ → m ≤ soonest m to_ l ∧ soonest m to_ l ≤ to_
  | [], to_, _, h => ⟨h, Int.le_refl _⟩
  | p :: r, to_, hp, h => by
    have h1 := hp p (by simp)
    show m ≤ soonest m (if p.lo > m then min to_ p.hi else to_) r ∧ soonest m (if p.lo > m then min to_ p.hi else to_) r ≤ to_
    split
    · have := soonest_bnd m r (min to_ p.hi) (fun q hq => hp q (List.mem_cons_of_mem _ hq)) (by omega)
      omega
    · exact soonest_bnd m r to_ (fun q hq => hp q (List.mem_cons_of_mem _ hq)) h
theorem worstE_snd (m : Int) : ∀ (l : List (Int × Rg)) (to_ : Int), control_Route_worstE m to_ l = soonest m to_ (l.map Prod.snd)
  | [], _ => rfl
  | p :: r, to_ => worstE_snd m r _
theorem foldl_congr {α β : Type} {f g : β → α → β} : ∀ (l : List α) (b : β), (∀ b x, x ∈ l → f b x = g b x) → l.foldl f b = l.foldl g b
  | [], _, _ => rfl
  | x :: r, b, h => by
    rw [List.foldl_cons, List.foldl_cons, h b x (by simp)]
    exact foldl_congr r _ fun b y hy => h b y (List.mem_cons_of_mem _ hy)
theorem marksOf_bnd {fr to_ m : Int} {l : List Rg} (h : fr ≤ to_) (hm : m ∈ marksOf fr to_ l) : fr ≤ m ∧ m ≤ to_ := by
  rcases List.mem_cons.1 hm with rfl | hm
  · exact ⟨Int.le_refl _, h⟩
  · obtain ⟨p, hp, rfl⟩ := List.mem_map.1 hm
    have := (List.mem_filter.1 hp).2
    simpa using this
theorem worstL_eq (n : Nat) (r : Route) (l : List (Int × Rg)) (hn : 60 ≤ n) (hl : l.length ≤ 20) (hp : ∀ p ∈ l.map Prod.snd, p.lo ≤ p.hi) (h0 : 0 ≤ r.fr) (h1 : r.fr ≤ r.to_) (h2 : r.to_ ≤ 2000) : control_Route_worstL n r (IMap.mk l) = some (WR r.fr r.to_ (l.map Prod.snd)) := by
  unfold control_Route_worstL WR
  rw [if_pos ⟨by simp only; omega, by simp only; omega⟩]
  have hM : control_Route_worstM r l = marksOf r.fr r.to_ (l.map Prod.snd) := by
    unfold control_Route_worstM marksOf
    rw [List.filter_map, List.map_map]
    rfl
  simp only []
  rw [hM]
  congr 1
  refine foldl_congr _ _ fun b m hm => ?_
  have q := marksOf_bnd h1 hm
  have := soonest_bnd m (l.map Prod.snd) r.to_ hp q.2
  rw [worstE_snd, wid (by omega) (by omega)]
theorem waits_l1_eq (w : Worked) (sp : List (List (Int × Rg))) (hs : sp.length ≤ 50) (hl : ∀ l ∈ sp, l.length ≤ 20 ∧ ∀ p ∈ l.map Prod.snd, p.lo ≤ p.hi) (h0 : 0 ≤ w.route.fr) (h1 : w.route.fr ≤ w.route.to_) (h2 : w.route.to_ ≤ 2000) : ∀ (n i : Nat) (acc : List Int), sp.length + 60 < n + i → i ≤ sp.length → acc.length = i →
    control_worked_waits_l1 n w (sp.map IMap.mk) acc (i : Int) = some (acc ++ (sp.drop i).map fun l => WR w.route.fr w.route.to_ (l.map Prod.snd))
  | 0, i, acc, h, hi, _ => by omega
  | n + 1, i, acc, h, hi, ha => by
    rw [control_worked_waits_l1, lt_len, List.length_map]
    by_cases hx : i < sp.length
    · simp only [hx, decide_true, cond_true]
      rw [idxLt _ i (by simpa using hx)]
      simp only [Option.bind_some, List.getElem_map]
      have := hl _ (List.getElem_mem hx)
      rw [worstL_eq n w.route _ (by omega) this.1 this.2 h0 h1 h2]
      simp only [Option.bind_some]
      rw [appOk _ _ (by simp; omega)]
      simp only [Option.bind_some]
      rw [wnat i (by omega), waits_l1_eq w sp hs hl h0 h1 h2 n (i + 1) _ (by omega) (by omega) (by simp; omega), drop_get hx, List.append_assoc]
      rfl
    · have : i = sp.length := by omega
      simp [this]
end Go.Proofs.Ytokchpjijlebiaa
namespace Go.Proofs.Ytokchpjijlebiaa
open Go Go.RowKit
structure ActsOk (r : Route) (a : Acts) : Prop where
  holds : a.holds.length = r.buses.length
  turns : a.turns.length = r.buses.length
  spares : a.spares.length = r.spares.length
  hold : ∀ i, i < r.buses.length → 0 ≤ a.holds[i]! ∧ a.holds[i]! ≤ 2
  turn : ∀ i, i < r.buses.length → a.turns[i]! = -1 ∨ (r.buses[i]!).stop ≤ a.turns[i]! ∧ a.turns[i]! ≤ (((r.legs.length + 1) / 2 : Nat) : Int) - 2
theorem actsOk_of {r : Route} {a : Acts} (h : actsB r a = true) : ActsOk r a := by
  simp only [actsB, Bool.and_eq_true, decide_eq_true_eq, List.all_eq_true, List.mem_range] at h
  obtain ⟨⟨h1, h2, h3⟩, h4⟩ := h
  refine ⟨h1, h2, h3, fun i hi => ?_, fun i hi => ?_⟩ <;>
  · have := h4 i hi
    simp only [okAct, Bool.and_eq_true, Bool.or_eq_true, decide_eq_true_eq] at this
    first | exact this.1 | exact this.2
structure AtEnd (f : Rg → Int) : Prop where
  le : ∀ x : Rg, x.lo ≤ x.hi → x.lo ≤ f x ∧ f x ≤ x.hi
theorem AtEnd.low : AtEnd Rg.lo := ⟨fun _ h => ⟨Int.le_refl _, h⟩⟩
theorem AtEnd.high : AtEnd Rg.hi := ⟨fun _ h => ⟨h, Int.le_refl _⟩⟩
def busE (r : Route) (a : Acts) (f : Rg → Int) (i : Nat) : Trip × Times := (⟨(r.buses[i]!).stop, f (r.buses[i]!).tm + a.holds[i]! * r.unit, a.turns[i]!⟩, ⟨r.legs.map f, f r.turn⟩)
def spE (r : Route) (f : Rg → Int) (j : Nat) : Trip × Times := (⟨(r.spares[j]!).stop, (r.spares[j]!).tm, -1⟩, ⟨r.legs.map f, 0⟩)
theorem bang_map {α β : Type} [Inhabited α] [Inhabited β] (g : α → β) (l : List α) (i : Nat) (h : i < l.length) : (l.map g)[i]! = g l[i]! := by
  rw [bang _ _ (by simpa using h), bang _ _ h, List.getElem_map]
theorem bang_rep {β : Type} [Inhabited β] (x : β) (n i : Nat) (h : i < n) : (List.replicate n x)[i]! = x := by
  rw [bang _ _ (by simpa using h), List.getElem_replicate]
theorem filterMap_congr' {α β : Type} {f g : α → Option β} : ∀ {l : List α}, (∀ x ∈ l, f x = g x) → l.filterMap f = l.filterMap g
  | [], _ => rfl
  | x :: r, h => by
    rw [List.filterMap_cons, List.filterMap_cons, h x (by simp), filterMap_congr' fun y hy => h y (List.mem_cons_of_mem _ hy)]
theorem trips_ends (r : Route) (a : Acts) (f : Rg → Int) : trips r a (endsOf r f) = (List.range r.buses.length).map (busE r a f) ++ (List.range r.spares.length).filterMap fun j => if a.spares[j]! then some (spE r f j) else none := by
  unfold trips
  congr 1
  · refine List.map_congr_left fun i hi => ?_
    rw [List.mem_range] at hi
    unfold busTrip busE endsOf
    simp only []
    rw [bang_map _ _ _ hi, bang_map _ _ _ hi, bang_rep _ _ _ (by omega)]
  · refine filterMap_congr' fun j hj => ?_
    rw [List.mem_range] at hj
    unfold spTrip spE endsOf
    simp only []
    rw [bang_rep _ _ _ (by omega)]
theorem sized_ends {r : Route} {a : Acts} {f : Rg → Int} (hf : AtEnd f) (V : Valid r) (A : ActsOk r a) : Sized r a (endsOf r f) := by
  refine ⟨by have := V.nb; omega, by have := V.ns; omega, A.holds, A.turns, A.spares, by simp [endsOf], by simp [endsOf], by simp [endsOf], fun x hx => ?_, V.unit, fun x hx => ?_⟩
  · obtain ⟨i, hi, rfl⟩ := List.mem_iff_getElem.1 hx
    have := A.hold i (by rw [← A.holds]; exact hi)
    rwa [bang _ _ hi] at this
  · simp only [endsOf] at hx
    obtain ⟨b, hb, rfl⟩ := List.mem_map.1 hx
    have := V.buses b hb
    have := hf.le b.tm (by omega)
    omega
theorem small_ends {r : Route} {f : Rg → Int} (hf : AtEnd f) (V : Valid r) : (∀ d ∈ r.legs.map f, 0 ≤ d ∧ d ≤ 300) ∧ 0 ≤ f r.turn ∧ f r.turn ≤ 300 := by
  refine ⟨fun d hd => ?_, ?_⟩
  · obtain ⟨x, hx, rfl⟩ := List.mem_map.1 hd
    have := V.legs x hx
    have := hf.le x (by omega)
    omega
  · have := V.turn
    have := hf.le r.turn (by omega)
    omega
theorem busE_ok {r : Route} {a : Acts} {f : Rg → Int} (hf : AtEnd f) (V : Valid r) (A : ActsOk r a) (i : Nat) (hi : i < r.buses.length) : TripOk r (busE r a f i) := by
  have hb := V.buses _ (List.getElem_mem hi)
  have h1 := A.hold i hi
  have h2 := A.turn i hi
  have h3 := mul_small h1.1 h1.2 V.unit.1 V.unit.2
  obtain ⟨s1, s2, s3⟩ := small_ends hf V
  have := V.nl
  rw [bang _ _ hi] at h2
  have h4 := hf.le (r.buses[i]).tm (by omega)
  refine ⟨⟨s2, s3, by simp [busE]; omega, s1⟩, by simp [busE], ?_, ?_, ?_, ?_, ?_⟩ <;> simp only [busE, bang _ _ hi] <;> omega
theorem spE_ok {r : Route} {f : Rg → Int} (hf : AtEnd f) (V : Valid r) (j : Nat) (hj : j < r.spares.length) : TripOk r (spE r f j) := by
  have hb := V.spares _ (List.getElem_mem hj)
  obtain ⟨s1, _, _⟩ := small_ends hf V
  have := V.nl
  refine ⟨⟨Int.le_refl _, by simp [spE], by simp [spE]; omega, s1⟩, by simp [spE], ?_, ?_, ?_, ?_, ?_⟩ <;> simp only [spE, bang _ _ hj] <;> omega
theorem trips_ok {r : Route} {a : Acts} {f : Rg → Int} (hf : AtEnd f) (V : Valid r) (A : ActsOk r a) : ∀ p ∈ trips r a (endsOf r f), TripOk r p := by
  rw [trips_ends]
  intro p hp
  rcases List.mem_append.1 hp with hp | hp
  · obtain ⟨i, hi, rfl⟩ := List.mem_map.1 hp
    exact busE_ok hf V A i (by simpa using hi)
  · obtain ⟨j, hj, h⟩ := List.mem_filterMap.1 hp
    split at h
    · cases h; exact spE_ok hf V j (by simpa using hj)
    · cases h
def pairs (r : Route) (a : Acts) : List ((Trip × Times) × (Trip × Times)) := (List.range r.buses.length).map (fun i => (busE r a Rg.lo i, busE r a Rg.hi i)) ++ (List.range r.spares.length).filterMap fun j => if a.spares[j]! then some (spE r Rg.lo j, spE r Rg.hi j) else none
theorem zip_filterMap {α β γ : Type} (c : α → Bool) (f : α → β) (g : α → γ) : ∀ l : List α, (l.filterMap fun j => if c j then some (f j) else none).zip (l.filterMap fun j => if c j then some (g j) else none) = l.filterMap fun j => if c j then some (f j, g j) else none
  | [] => rfl
  | x :: r => by
    simp only [List.filterMap_cons]
    cases c x with
    | true => simp only [if_true, List.zip_cons_cons, zip_filterMap c f g r]
    | false => simp only [Bool.false_eq_true, if_false, zip_filterMap c f g r]
theorem len_filterMap {α β γ : Type} (c : α → Bool) (f : α → β) (g : α → γ) : ∀ l : List α, (l.filterMap fun j => if c j then some (f j) else none).length = (l.filterMap fun j => if c j then some (g j) else none).length
  | [] => rfl
  | x :: r => by
    simp only [List.filterMap_cons]
    cases c x with
    | true => simp only [if_true, List.length_cons, len_filterMap c f g r]
    | false => simp only [Bool.false_eq_true, if_false, len_filterMap c f g r]
theorem zip_trips (r : Route) (a : Acts) : (trips r a (endsOf r Rg.lo)).zip (trips r a (endsOf r Rg.hi)) = pairs r a := by
  rw [trips_ends, trips_ends, List.zip_append (by simp), pairs, zip_filterMap, List.zip_map']
theorem len_trips (r : Route) (a : Acts) : (trips r a (endsOf r Rg.lo)).length = (trips r a (endsOf r Rg.hi)).length := by
  rw [trips_ends, trips_ends, List.length_append, List.length_append, len_filterMap _ (spE r Rg.lo) (spE r Rg.hi)]
  simp
theorem len_trips_le (r : Route) (a : Acts) (f : Rg → Int) : (trips r a (endsOf r f)).length ≤ r.buses.length + r.spares.length := by
  rw [trips_ends, List.length_append, List.length_map, List.length_range]
  have := List.length_filterMap_le (fun j => if a.spares[j]! then some (spE r f j) else none) (List.range r.spares.length)
  rw [List.length_range] at this
  omega
theorem passL_fuel {st turned turn : Int} {legs : List Int} (ht : 2 * turned + 1 < st) : ∀ (n m : Nat) (tm s : Int), st - s < n → st - s < m → passL st turned turn legs n tm s = passL st turned turn legs m tm s
  | 0, m, tm, s, h1, h2 => by
    cases m with
    | zero => rfl
    | succ m => rw [passL, passL, if_neg (by omega)]
  | n + 1, 0, tm, s, h1, h2 => by rw [passL, passL, if_neg (by omega)]
  | n + 1, m + 1, tm, s, h1, h2 => by
    rw [passL, passL]
    by_cases hc : 0 ≤ s ∧ s < st
    · simp only [hc, and_self, if_true]
      congr 1
      by_cases hs : s = turned
      · simp only [hs, if_true]
        exact passL_fuel ht n m _ _ (by omega) (by omega)
      · simp only [hs, if_false]
        cases legs[s.toNat]? with
        | none => rfl
        | some d => exact passL_fuel ht n m _ _ (by omega) (by omega)
    · simp only [hc, if_false]
theorem spanAt_fuel {r : Route} {p : (Trip × Times) × (Trip × Times)} (hl : r.legs.length ≤ 20) (h1 : TripOk r p.1) (h2 : TripOk r p.2) {n : Nat} (hn : 30 ≤ n) (k : Int) : spanAt ((r.legs.length : Int) + 1) n p k = spanAt ((r.legs.length : Int) + 1) 40 p k := by
  have a1 := h1.s0
  have a2 := h2.s0
  unfold spanAt
  rw [passL_fuel h1.t n 40 _ _ (by omega) (by omega), passL_fuel h2.t n 40 _ _ (by omega) (by omega)]
theorem pair_mono {r : Route} {a : Acts} (V : Valid r) {p : (Trip × Times) × (Trip × Times)} (hp : p ∈ pairs r a) (n : Nat) (k : Int) (A : ActsOk r a) :
    (look? (passL ((r.legs.length : Int) + 1) p.1.1.turned p.1.2.turn p.1.2.legs n p.1.1.tm p.1.1.stop) k = none ∧ look? (passL ((r.legs.length : Int) + 1) p.2.1.turned p.2.2.turn p.2.2.legs n p.2.1.tm p.2.1.stop) k = none) ∨
    ∃ x y, look? (passL ((r.legs.length : Int) + 1) p.1.1.turned p.1.2.turn p.1.2.legs n p.1.1.tm p.1.1.stop) k = some x ∧ look? (passL ((r.legs.length : Int) + 1) p.2.1.turned p.2.2.turn p.2.2.legs n p.2.1.tm p.2.1.stop) k = some y ∧ x ≤ y := by
  have hle : ∀ (k : Nat) (d d' : Int), (r.legs.map Rg.lo)[k]? = some d → (r.legs.map Rg.hi)[k]? = some d' → d ≤ d' := fun k d d' h1 h2 => by
    rw [List.getElem?_map] at h1 h2
    obtain ⟨x, hx, rfl⟩ := Option.map_eq_some_iff.1 h1
    rw [hx] at h2
    cases h2
    have := V.legs x (List.mem_of_getElem? hx)
    omega
  unfold pairs at hp
  rcases List.mem_append.1 hp with hp | hp
  · obtain ⟨i, hi, rfl⟩ := List.mem_map.1 hp
    have hi : i < r.buses.length := by simpa using hi
    have ok := busE_ok AtEnd.low V A i hi
    have hb := V.buses _ (List.getElem_mem hi)
    have := V.turn
    exact pass_mono (turn := r.turn.lo) (turn' := r.turn.hi) ok.t (by simp) hle (by omega) n _ _ _ k (by simp only [busE, bang _ _ hi]; omega)
  · obtain ⟨j, hj, h⟩ := List.mem_filterMap.1 hp
    split at h
    · cases h
      have ok := spE_ok AtEnd.low V j (by simpa using hj)
      exact pass_mono ok.t (by simp) hle (Int.le_refl _) n _ _ _ k (Int.le_refl _)
    · cases h
def rangesAt (r : Route) (a : Acts) (k : Nat) : List Rg := (pairs r a).filterMap fun p => spanAt ((r.legs.length : Int) + 1) 40 p k
theorem spansFrom_snd (st : Int) (n : Nat) (k : Int) : ∀ (i : Nat) (l : List ((Trip × Times) × (Trip × Times))), (spansFrom st n k i l).map Prod.snd = l.filterMap fun p => spanAt st n p k
  | _, [] => rfl
  | i, p :: r => by
    rw [spansFrom, List.filterMap_cons]
    cases spanAt st n p k with
    | none => exact spansFrom_snd st n k (i + 1) r
    | some x => simp only [List.map_cons, spansFrom_snd st n k (i + 1) r]
theorem ranges_le {r : Route} {a : Acts} (V : Valid r) (A : ActsOk r a) (k : Nat) : ∀ x ∈ rangesAt r a k, x.lo ≤ x.hi := fun x hx => by
  obtain ⟨p, hp, h⟩ := List.mem_filterMap.1 hx
  unfold spanAt at h
  rcases pair_mono V hp 40 k A with ⟨h1, h2⟩ | ⟨u, v, h1, h2, h3⟩
  · rw [h1, h2] at h; cases h
  · rw [h1, h2] at h; cases h; exact h3
theorem mapM_id_some {α : Type} : ∀ l : List α, List.mapM id (l.map some) = some l
  | [] => rfl
  | x :: r => by rw [List.map_cons, List.mapM_cons, mapM_id_some r]; rfl
theorem spans_l1_eq (st : Nat) (x18 : List (Option (List (Int × Rg)))) (h18 : x18.length = st) (hb : st ≤ 50) : ∀ (n i : Nat) (x : List (Option (List (Int × Rg)))), st < n + i → i ≤ st → x.length = st → (∀ k, k < i → x[k]? = some (some [])) → control_worked_spans_l1 n x18 x (i : Int) = some (List.replicate st (some []))
  | 0, i, x, h, hi, _, _ => by omega
  | n + 1, i, x, h, hi, hx, hk => by
    rw [control_worked_spans_l1, lt_len, h18]
    by_cases hi' : i < st
    · simp only [hi', decide_true, cond_true]
      rw [idxLt _ i (by omega)]
      simp only [Option.bind_some]
      rw [updN _ i _ (by omega)]
      simp only [Option.bind_some]
      rw [wnat i (by omega), spans_l1_eq st x18 h18 hb n (i + 1) _ (by omega) (by omega) (by simpa using hx) fun k hk' => ?_]
      rw [List.getElem?_set]
      by_cases hik : i = k
      · subst hik; simp; omega
      · simp only [hik, if_false]; exact hk k (by omega)
    · simp only [hi', decide_false, cond_false, Option.some.injEq]
      apply List.ext_getElem?
      intro k
      by_cases hks : k < st
      · rw [hk k (by omega), List.getElem?_replicate]; simp [hks]
      · rw [List.getElem?_eq_none (by omega), List.getElem?_eq_none (by simp; omega)]
theorem spans_eq (n : Nat) (r : Route) (a : Acts) (V : Valid r) (A : ActsOk r a) (hn : 80 ≤ n) (hn2 : n ≤ 900) : control_worked_spans n ⟨r, a⟩ = some ((List.range (r.legs.length + 1)).map fun (k : Nat) => IMap.mk (spansFrom ((r.legs.length : Int) + 1) 40 k 0 (pairs r a))) := by
  have := V.nl
  have := V.nb
  have := V.ns
  unfold control_worked_spans
  simp only []
  rw [control_stops_eq n r (by omega), Option.bind_some]
  have eM : mk ((r.legs.length : Int) + 1) (none : Option (List (Int × Rg))) = some (List.replicate (r.legs.length + 1) none) := by
    rw [show ((r.legs.length : Int) + 1) = ((r.legs.length + 1 : Nat) : Int) by omega]; exact mkN _ _ (by omega)
  rw [eM, Option.bind_some]
  have e0 := spans_l1_eq (r.legs.length + 1) (List.replicate (r.legs.length + 1) (none : Option (List (Int × Rg)))) (by simp) (by omega) n 0 (List.replicate (r.legs.length + 1) none) (by omega) (by omega) (by simp) (fun k hk => by omega)
  simp only [Int.natCast_zero] at e0
  rw [e0, ends_eq n r Rg.lo (fun y0 => control_Range_low n y0) (fun x => rfl) (by omega) (by omega) (by omega) (by omega), ends_eq n r Rg.hi (fun y0 => control_Range_high n y0) (fun x => rfl) (by omega) (by omega) (by omega) (by omega), Option.bind_some, Option.bind_some]
  rw [trips_eq n r a _ (sized_ends AtEnd.low V A) (by omega), Option.bind_some, Option.bind_some, trips_eq n r a _ (sized_ends AtEnd.high V A) (by omega), Option.bind_some]
  have e2 := spans_l2_eq ⟨r, a⟩ (trips r a (endsOf r Rg.lo)) (trips r a (endsOf r Rg.hi)) (by simp only; omega) (len_trips r a) (trips_ok AtEnd.low V A) (trips_ok AtEnd.high V A) 60 (by omega) (by omega) (by have := len_trips_le r a Rg.lo; omega)
    (fun m hm1 hm2 p hp => by
      have hz := hp
      rw [zip_trips] at hz
      have hp1 : p.1 ∈ trips r a (endsOf r Rg.lo) := (List.of_mem_zip (show (p.1, p.2) ∈ _ from hp)).1
      have hp2 : p.2 ∈ trips r a (endsOf r Rg.hi) := (List.of_mem_zip (show (p.1, p.2) ∈ _ from hp)).2
      refine ⟨fun k => ?_, fun k => spanAt_fuel (by omega) (trips_ok AtEnd.low V A _ hp1) (trips_ok AtEnd.high V A _ hp2) hm1 k⟩
      rcases pair_mono V hz m k A with ⟨h1, h2⟩ | ⟨x, y, h1, h2, _⟩
      · simp only; rw [h1, h2]
      · simp only; rw [h1, h2]; simp) n 0 (List.replicate (r.legs.length + 1) []) (by have := len_trips_le r a Rg.lo; omega) (by omega) (by omega) (by simp) (fun m hm p hp => by
        rw [(List.mem_replicate.1 hm).2] at hp; cases hp)
  simp only [Int.natCast_zero, List.map_replicate, List.drop_zero] at e2
  rw [e2, Option.bind_some, mapM_id_some, Option.bind_some, List.map_map, Option.some.injEq]
  refine List.map_congr_left fun k hk => ?_
  rw [List.mem_range] at hk
  simp only [Function.comp, zip_trips, List.getElem?_replicate, hk, if_true, Option.getD_some, List.nil_append]
def worstsOf (r : Route) (a : Acts) : List Int := (List.range (r.legs.length + 1)).map fun k => WR r.fr r.to_ (rangesAt r a k)
theorem waits_eq (n : Nat) (r : Route) (a : Acts) (V : Valid r) (A : ActsOk r a) (hn : 100 ≤ n) (hn2 : n ≤ 900) : control_worked_waits n ⟨r, a⟩ = some (worstsOf r a) := by
  have := V.nl
  have := V.nb
  have := V.ns
  have := V.looked
  unfold control_worked_waits
  rw [spans_eq n r a V A (by omega) hn2]
  simp only [Option.bind_some]
  have e := waits_l1_eq ⟨r, a⟩ ((List.range (r.legs.length + 1)).map fun (k : Nat) => spansFrom ((r.legs.length : Int) + 1) 40 k 0 (pairs r a)) (by simp; omega) (fun l hl => by
    obtain ⟨k, _, rfl⟩ := List.mem_map.1 hl
    refine ⟨?_, by rw [spansFrom_snd]; exact ranges_le V A k⟩
    have h1 : (spansFrom ((r.legs.length : Int) + 1) 40 k 0 (pairs r a)).length = ((spansFrom ((r.legs.length : Int) + 1) 40 k 0 (pairs r a)).map Prod.snd).length := by simp
    rw [h1, spansFrom_snd]
    refine Nat.le_trans (List.length_filterMap_le _ _) ?_
    rw [← zip_trips, List.length_zip]
    have := len_trips_le r a Rg.lo
    omega) (by simp only; omega) (by simp only; omega) (by simp only; omega) n 0 [] (by simp; omega) (by omega) rfl
  simp only [Int.natCast_zero, List.nil_append, List.drop_zero, List.map_map] at e
  simp only [Function.comp_def] at e
  rw [e]
  simp only [Option.bind_some, worstsOf, rangesAt, spansFrom_snd]
theorem worst_eq (n : Nat) (r : Route) (a : Acts) (hF : faultOf r = 0) (hA : actsB r a = true) (hn : 100 ≤ n) (hn2 : n ≤ 900) : control_Worst n r a = some (worstsOf r a, 0) := by
  have V := valid_of hF
  have := V.nl
  have := V.nb
  have := V.ns
  unfold control_Worst
  rw [acts_eq n r a (by omega) (by omega) (by omega) (by omega), waits_eq n r a V (actsOk_of hA) hn hn2]
  simp [hF, hA]
end Go.Proofs.Ytokchpjijlebiaa
namespace Go.Proofs.Ytokchpjijlebiaa
open Go Go.RowKit
theorem ready_eq (n : Nat) (r : Route) (a : Acts) (hn : 60 ≤ n) : ∃ b, law_ready n r a = some b ∧ (b = true → r.legs.length ≤ 10 ∧ r.buses.length ≤ 6 ∧ r.spares.length ≤ 4 ∧ a.holds.length ≤ 8 ∧ a.turns.length ≤ 8 ∧ a.spares.length ≤ 8 ∧ faultOf r = 0 ∧ actsB r a = true) := by
  unfold law_ready law_Thin
  by_cases h1 : ¬ (((r.legs.length : Nat) : Int) ≤ 10)
  · exact ⟨false, by simp only [h1, decide_false, cond_false, Option.bind_some], by simp⟩
  replace h1 := Decidable.not_not.1 h1
  by_cases h2 : ¬ (((r.buses.length : Nat) : Int) ≤ 6)
  · exact ⟨false, by simp only [h1, h2, decide_true, decide_false, cond_true, cond_false, Option.bind_some], by simp⟩
  replace h2 := Decidable.not_not.1 h2
  by_cases h3 : ¬ (((r.spares.length : Nat) : Int) ≤ 4)
  · exact ⟨false, by simp only [h1, h2, h3, decide_true, decide_false, cond_true, cond_false, Option.bind_some], by simp⟩
  replace h3 := Decidable.not_not.1 h3
  simp only [h1, h2, h3, decide_true, cond_true, Option.bind_some]
  obtain ⟨m, rfl⟩ : ∃ m, n = m + 1 := ⟨n - 1, by omega⟩
  have e1 : law_short_l1 (m + 1) (Truth.mk [] [] []) 0 = some (Ex.go ()) := rfl
  unfold law_short
  rw [e1]
  simp only [Option.bind_some, Ex.bind]
  by_cases q1 : ¬ (((a.holds.length : Nat) : Int) ≤ 8)
  · exact ⟨false, by simp only [q1, decide_false, cond_false, Option.bind_some], by simp⟩
  replace q1 := Decidable.not_not.1 q1
  by_cases q2 : ¬ (((a.turns.length : Nat) : Int) ≤ 8)
  · exact ⟨false, by simp only [q1, q2, decide_true, cond_true, decide_false, cond_false, Option.bind_some], by simp⟩
  replace q2 := Decidable.not_not.1 q2
  by_cases q3 : ¬ (((a.spares.length : Nat) : Int) ≤ 8)
  · exact ⟨false, by simp only [q1, q2, q3, decide_true, cond_true, decide_false, cond_false, Option.bind_some], by simp⟩
  replace q3 := Decidable.not_not.1 q3
  simp only [q1, q2, q3, decide_true, cond_true]
  have z : decide ((((([] : List Int).length) : Nat) : Int) ≤ 8) = true := by decide
  have z2 : decide ((((([] : List (List Int)).length) : Nat) : Int) ≤ 8) = true := by decide
  simp only [z, z2, cond_true, Option.bind_some]
  unfold law_fault
  rw [ref_Fault_eq (m + 1) r (by omega) (by omega) (by omega) (by omega), ref_AreActs_eq (m + 1) r a (by omega) (by omega) (by omega)]
  simp only [Option.bind_some]
  by_cases f0 : faultOf r = 0
  · rw [f0]
    simp only [bne_self_eq_false, cond_false]
    cases hb : actsB r a with
    | true => exact ⟨_, rfl, fun _ => ⟨by omega, by omega, by omega, by omega, by omega, by omega, by simp, by simp⟩⟩
    | false => exact ⟨_, rfl, fun h => by simp at h⟩
  · have : (faultOf r != 0) = true := by simpa using f0
    simp only [this, cond_true, Option.bind_some]
    exact ⟨_, rfl, fun h => absurd (by simpa using h) f0⟩
theorem look?_low {st turned turn : Int} {legs : List Int} (ht : 2 * turned + 1 < st) (n : Nat) (tm s k : Int) (h : k < s) : look? (passL st turned turn legs n tm s) k = none :=
  look?_none fun p hp hpk => by have := (passL_ge ht n tm s p hp).1; omega
end Go.Proofs.Ytokchpjijlebiaa
namespace Go.Proofs.Ytokchpjijlebiaa
open Go Go.RowKit
def A4int.put (x : A4int) (k : Nat) (v : Int) : A4int := match k with
  | 0 => ⟨v, x.a1, x.a2, x.a3⟩
  | 1 => ⟨x.a0, v, x.a2, x.a3⟩
  | 2 => ⟨x.a0, x.a1, v, x.a3⟩
  | _ => ⟨x.a0, x.a1, x.a2, v⟩
def A2bool.put (x : A2bool) (k : Nat) (v : Bool) : A2bool := match k with
  | 0 => ⟨v, x.a1⟩
  | _ => ⟨x.a0, v⟩
theorem A4int.put_put (x : A4int) (u v : Int) : ∀ k : Nat, k < 4 → (x.put k u).put k v = x.put k v
  | 0, _ => rfl
  | 1, _ => rfl
  | 2, _ => rfl
  | 3, _ => rfl
  | k + 4, h => by omega
theorem A2bool.put_put (x : A2bool) (u v : Bool) : ∀ k : Nat, k < 2 → (x.put k u).put k v = x.put k v
  | 0, _ => rfl
  | 1, _ => rfl
  | k + 2, h => by omega
def stepD (nb k : Nat) (v : Int) (p : Deeds × Cost) : Deeds × Cost :=
  if k < nb then (⟨p.1.holds.put k v, p.1.turns, p.1.spares⟩, ⟨p.2.number + min v 1, p.2.sum + v⟩)
  else if k < 2 * nb then (⟨p.1.holds, p.1.turns.put (k - nb) v, p.1.spares⟩, ⟨p.2.number + min (v + 1) 1, p.2.sum⟩)
  else (⟨p.1.holds, p.1.turns, p.1.spares.put (k - 2 * nb) (v == 1)⟩, ⟨p.2.number + v, p.2.sum⟩)
section
variable {σ : Type} (see : σ → Deeds → Cost → Option σ)
structure CostOk (c : Cost) (k : Nat) : Prop where
  n0 : 0 ≤ c.number
  n1 : c.number ≤ k
  s0 : 0 ≤ c.sum
  s1 : c.sum ≤ 2 * k
theorem CostOk.step {nb k : Nat} {v : Int} {p : Deeds × Cost} (h : CostOk p.2 k) (h0 : k < nb → 0 ≤ v ∧ v ≤ 2) (h1 : ¬ k < nb → k < 2 * nb → -1 ≤ v) (h2 : ¬ k < 2 * nb → 0 ≤ v ∧ v ≤ 1) : CostOk (stepD nb k v p).2 (k + 1) := by
  obtain ⟨a, b, c, d⟩ := h
  unfold stepD
  by_cases c1 : k < nb
  · have := h0 c1
    simp only [c1, if_true]
    constructor <;> simp only <;> omega
  · by_cases c2 : k < 2 * nb
    · have := h1 c1 c2
      simp only [c1, c2, if_true, if_false]
      constructor <;> simp only <;> omega
    · have := h2 c2
      simp only [c1, c2, if_false]
      constructor <;> simp only <;> omega
end
end Go.Proofs.Ytokchpjijlebiaa
namespace Go.Proofs.Ytokchpjijlebiaa
open Go Go.RowKit
def b2i (b : Bool) : Int := if b then 1 else 0
def enc (a : Acts) : List Int := a.holds ++ a.turns ++ a.spares.map b2i
end Go.Proofs.Ytokchpjijlebiaa
namespace Go.Proofs.Ytokchpjijlebiaa
open Go Go.RowKit
theorem foldl_max_le {α : Type} (f : α → Int) : ∀ (l : List α) (b g : Int), l.foldl (fun b m => max b (f m)) b ≤ g ↔ b ≤ g ∧ ∀ m ∈ l, f m ≤ g
  | [], b, g => by simp
  | m :: l, b, g => by
    rw [List.foldl_cons, foldl_max_le f l]
    simp only [List.mem_cons, forall_eq_or_imp]
    constructor
    · rintro ⟨h1, h2⟩; exact ⟨by omega, by omega, h2⟩
    · rintro ⟨h1, h2, h3⟩; exact ⟨by omega, h3⟩
theorem le_soonest {m e : Int} : ∀ {l : List Rg} {to_ : Int}, e ≤ soonest m to_ l ↔ e ≤ to_ ∧ ∀ p ∈ l, p.lo > m → e ≤ p.hi
  | [], to_ => by simp [soonest]
  | p :: r, to_ => by
    show e ≤ soonest m (if p.lo > m then min to_ p.hi else to_) r ↔ _
    rw [le_soonest]
    simp only [List.mem_cons, forall_eq_or_imp]
    by_cases h : p.lo > m
    · simp only [h, if_true, true_implies]
      constructor
      · rintro ⟨h1, h2⟩; exact ⟨by omega, by omega, h2⟩
      · rintro ⟨h1, h2, h3⟩; exact ⟨by omega, h3⟩
    · simp only [h, if_false, false_implies, true_and]
theorem WR_le {fr to_ g : Int} {l : List Rg} : WR fr to_ l ≤ g ↔ 0 ≤ g ∧ ∀ m ∈ marksOf fr to_ l, soonest m to_ l - m ≤ g := foldl_max_le _ _ _ _
theorem WR_nonneg (fr to_ : Int) (l : List Rg) : 0 ≤ WR fr to_ l := (WR_le.1 (Int.le_refl _)).1
theorem soonest_le (m to_ : Int) (l : List Rg) : soonest m to_ l ≤ to_ := (le_soonest.1 (Int.le_refl _)).1
theorem mark_below {fr to_ m : Int} (h0 : fr ≤ m) (h1 : m ≤ to_) : ∀ l : List Rg, ∃ x ∈ marksOf fr to_ l, x ≤ m ∧ fr ≤ x ∧ ∀ p ∈ l, p.lo ≤ m → p.lo ≤ x
  | [] => ⟨fr, by simp [marksOf], h0, Int.le_refl _, by simp⟩
  | p :: r => by
    obtain ⟨x, hx, h2, h3, h4⟩ := mark_below h0 h1 r
    have sub : ∀ z ∈ marksOf fr to_ r, z ∈ marksOf fr to_ (p :: r) := fun z hz => by
      unfold marksOf at hz ⊢
      rcases List.mem_cons.1 hz with rfl | hz
      · simp
      · obtain ⟨q, hq, rfl⟩ := List.mem_map.1 hz
        rw [List.mem_filter] at hq
        exact List.mem_cons_of_mem _ (List.mem_map_of_mem (List.mem_filter.2 ⟨List.mem_cons_of_mem _ hq.1, hq.2⟩))
    by_cases hp : x < p.lo ∧ p.lo ≤ m
    · refine ⟨p.lo, ?_, hp.2, by omega, fun q hq hqm => ?_⟩
      · unfold marksOf
        refine List.mem_cons_of_mem _ (List.mem_map_of_mem (List.mem_filter.2 ⟨by simp, ?_⟩))
        rw [Bool.and_eq_true, decide_eq_true_eq, decide_eq_true_eq]
        omega
      · rcases List.mem_cons.1 hq with rfl | hq
        · exact Int.le_refl _
        · have := h4 q hq hqm; omega
    · refine ⟨x, sub x hx, h2, h3, fun q hq hqm => ?_⟩
      rcases List.mem_cons.1 hq with rfl | hq
      · omega
      · exact h4 q hq hqm
theorem WR_any {fr to_ m : Int} {l : List Rg} (h0 : fr ≤ m) (h1 : m ≤ to_) : soonest m to_ l - m ≤ WR fr to_ l := by
  obtain ⟨x, hx, h2, h3, h4⟩ := mark_below h0 h1 l
  have := (WR_le.1 (Int.le_refl (WR fr to_ l))).2 x hx
  have : soonest m to_ l ≤ soonest x to_ l := le_soonest.2 ⟨soonest_le _ _ _, fun p hp hpx => by
    rcases Int.lt_or_le m p.lo with h | h
    · exact (le_soonest.1 (Int.le_refl (soonest m to_ l))).2 p hp h
    · have := h4 p hp h; omega⟩
  omega
def Dom (l l' : List Rg) : Prop := ∀ p ∈ l, ∃ p' ∈ l', p.lo ≤ p'.lo ∧ p'.hi ≤ p.hi
theorem Dom.sub {l l' : List Rg} (h : ∀ p ∈ l, p ∈ l') : Dom l l' := fun p hp => ⟨p, h p hp, Int.le_refl _, Int.le_refl _⟩
theorem WR_dom {fr to_ fr' to' : Int} {l l' : List Rg} (h : Dom l l') (h0 : fr ≤ fr') (h1 : fr' ≤ to') (h2 : to' ≤ to_) : WR fr' to' l' ≤ WR fr to_ l := WR_le.2 ⟨WR_nonneg _ _ _, fun m hm => by
  have hb := marksOf_bnd h1 hm
  have := WR_any (fr := fr) (to_ := to_) (m := m) (l := l) (by omega) (by omega)
  have : soonest m to' l' ≤ soonest m to_ l := le_soonest.2 ⟨Int.le_trans (soonest_le _ _ _) h2, fun p hp hpm => by
    obtain ⟨p', hp', h3, h4⟩ := h p hp
    have := (le_soonest.1 (Int.le_refl (soonest m to' l'))).2 p' hp' (by omega)
    omega⟩
  omega⟩
end Go.Proofs.Ytokchpjijlebiaa
namespace Go.Proofs.Ytokchpjijlebiaa
open Go Go.RowKit
end Go.Proofs.Ytokchpjijlebiaa
namespace Go.Proofs.Ytokchpjijlebiaa
open Go Go.RowKit
structure TLe (p q : Trip × Times) : Prop where
  stop : p.1.stop = q.1.stop
  turned : p.1.turned = q.1.turned
  tm : p.1.tm ≤ q.1.tm
  turn : p.2.turn ≤ q.2.turn
  len : p.2.legs.length = q.2.legs.length
  legs : ∀ (k : Nat) (d d' : Int), p.2.legs[k]? = some d → q.2.legs[k]? = some d' → d ≤ d'
def atOf (st : Int) (p : Trip × Times) (k : Int) : Option Int := look? (passL st p.1.turned p.2.turn p.2.legs 40 p.1.tm p.1.stop) k
theorem TLe.at {p q : Trip × Times} (h : TLe p q) {st : Int} (ht : 2 * p.1.turned + 1 < st) (k : Int) : (atOf st p k = none ∧ atOf st q k = none) ∨ ∃ a b, atOf st p k = some a ∧ atOf st q k = some b ∧ a ≤ b := by
  unfold atOf
  rw [← h.stop, ← h.turned]
  exact pass_mono ht h.len h.legs h.turn 40 _ _ _ k h.tm
theorem spanAt_some {st : Int} {p : (Trip × Times) × (Trip × Times)} {k : Int} {x : Rg} : spanAt st 40 p k = some x ↔ atOf st p.1 k = some x.lo ∧ atOf st p.2 k = some x.hi := by
  unfold spanAt atOf
  cases look? (passL st p.1.1.turned p.1.2.turn p.1.2.legs 40 p.1.1.tm p.1.1.stop) k with
  | none => simp
  | some a =>
    cases look? (passL st p.2.1.turned p.2.2.turn p.2.2.legs 40 p.2.1.tm p.2.1.stop) k with
    | none => simp
    | some b =>
      simp only [Option.some.injEq]
      constructor
      · rintro rfl; exact ⟨rfl, rfl⟩
      · rintro ⟨h1, h2⟩; cases x; simp_all
theorem span_narrow {st : Int} {p p' : (Trip × Times) × (Trip × Times)} (h1 : TLe p.1 p'.1) (h2 : TLe p'.2 p.2) (t1 : 2 * p.1.1.turned + 1 < st) (t2 : 2 * p'.2.1.turned + 1 < st) {k : Int} {x : Rg} (h : spanAt st 40 p k = some x) : ∃ x', spanAt st 40 p' k = some x' ∧ x.lo ≤ x'.lo ∧ x'.hi ≤ x.hi := by
  obtain ⟨a1, a2⟩ := spanAt_some.1 h
  rcases h1.at t1 k with ⟨b1, _⟩ | ⟨a, b, b1, b2, b3⟩
  · rw [b1] at a1; cases a1
  · rcases h2.at t2 k with ⟨_, c1⟩ | ⟨c, d, c1, c2, c3⟩
    · rw [c1] at a2; cases a2
    · rw [b1] at a1; cases a1
      rw [c2] at a2; cases a2
      exact ⟨⟨b, c⟩, spanAt_some.2 ⟨b2, c1⟩, b3, c3⟩
structure Nar (r x : Route) : Prop where
  ll : x.legs.length = r.legs.length
  legs : ∀ (i : Nat) (a b : Rg), r.legs[i]? = some a → x.legs[i]? = some b → a.lo ≤ b.lo ∧ b.lo ≤ b.hi ∧ b.hi ≤ a.hi
  turn : r.turn.lo ≤ x.turn.lo ∧ x.turn.lo ≤ x.turn.hi ∧ x.turn.hi ≤ r.turn.hi
  lb : x.buses.length = r.buses.length
  buses : ∀ (i : Nat) (a b : Bus), r.buses[i]? = some a → x.buses[i]? = some b → a.stop = b.stop ∧ a.tm.lo ≤ b.tm.lo ∧ b.tm.lo ≤ b.tm.hi ∧ b.tm.hi ≤ a.tm.hi
  spares : x.spares = r.spares
  unit : x.unit = r.unit
  gap : x.gap = r.gap
  fr : x.fr = r.fr
  to_ : x.to_ = r.to_
theorem Nar.valid {r x : Route} (h : Nar r x) (V : Valid r) : Valid x := by
  refine ⟨by rw [h.lb]; exact V.nb, by rw [h.spares]; exact V.ns, by rw [h.ll]; exact V.odd, by rw [h.ll]; exact V.nl, ?_, by rw [h.unit]; exact V.unit, by rw [h.gap]; exact V.gap, by rw [h.fr, h.to_]; exact V.looked, fun b hb => ?_, fun b hb => ?_, ?_⟩
  · have := V.turn; have := h.turn; omega
  · obtain ⟨i, hi, rfl⟩ := List.mem_iff_getElem.1 hb
    have hi' : i < r.legs.length := by rw [← h.ll]; exact hi
    have := h.legs i _ _ (List.getElem?_eq_getElem hi') (List.getElem?_eq_getElem hi)
    have := V.legs _ (List.getElem_mem hi')
    omega
  · obtain ⟨i, hi, rfl⟩ := List.mem_iff_getElem.1 hb
    have hi' : i < r.buses.length := by rw [← h.lb]; exact hi
    have := h.buses i _ _ (List.getElem?_eq_getElem hi') (List.getElem?_eq_getElem hi)
    have := V.buses _ (List.getElem_mem hi')
    have := h.ll
    omega
  · rw [h.spares, h.ll]; exact V.spares
theorem Nar.acts {r x : Route} (h : Nar r x) (a : Acts) : actsB x a = actsB r a := by
  unfold actsB
  rw [h.lb, h.spares]
  congr 1
  rw [Bool.eq_iff_iff, List.all_eq_true, List.all_eq_true]
  have key : ∀ i, i < r.buses.length → okAct x a i = okAct r a i := fun i hi => by
    have hi' : i < x.buses.length := by rw [h.lb]; exact hi
    have := (h.buses i _ _ (List.getElem?_eq_getElem hi) (List.getElem?_eq_getElem hi')).1
    unfold okAct
    rw [bang _ _ hi, bang _ _ hi', this, h.ll]
  constructor
  · intro H i hi; rw [← key i (by simpa using hi)]; exact H i hi
  · intro H i hi; rw [key i (by simpa using hi)]; exact H i hi
theorem Nar.legsLo {r x : Route} (h : Nar r x) : ∀ (k : Nat) (d d' : Int), (r.legs.map Rg.lo)[k]? = some d → (x.legs.map Rg.lo)[k]? = some d' → d ≤ d' := fun k d d' h1 h2 => by
  rw [List.getElem?_map] at h1 h2
  obtain ⟨a, ha, rfl⟩ := Option.map_eq_some_iff.1 h1
  obtain ⟨b, hb, rfl⟩ := Option.map_eq_some_iff.1 h2
  exact (h.legs k a b ha hb).1
theorem Nar.legsHi {r x : Route} (h : Nar r x) : ∀ (k : Nat) (d d' : Int), (x.legs.map Rg.hi)[k]? = some d → (r.legs.map Rg.hi)[k]? = some d' → d ≤ d' := fun k d d' h1 h2 => by
  rw [List.getElem?_map] at h1 h2
  obtain ⟨a, ha, rfl⟩ := Option.map_eq_some_iff.1 h1
  obtain ⟨b, hb, rfl⟩ := Option.map_eq_some_iff.1 h2
  exact (h.legs k b a hb ha).2.2
theorem Nar.dom {r x : Route} (h : Nar r x) (V : Valid r) {a : Acts} (A : ActsOk r a) (k : Nat) : Dom (rangesAt r a k) (rangesAt x a k) := by
  intro p hp
  have hV := h.valid V
  unfold rangesAt at hp ⊢
  obtain ⟨P, hP, hs⟩ := List.mem_filterMap.1 hp
  rw [h.ll]
  unfold pairs at hP
  rcases List.mem_append.1 hP with hP | hP
  · obtain ⟨i, hi, rfl⟩ := List.mem_map.1 hP
    have hi : i < r.buses.length := by simpa using hi
    have hi' : i < x.buses.length := by rw [h.lb]; exact hi
    have hb := h.buses i _ _ (List.getElem?_eq_getElem hi) (List.getElem?_eq_getElem hi')
    have o1 := (busE_ok AtEnd.low V A i hi).t
    have ht := h.turn
    have L1 : TLe (busE r a Rg.lo i) (busE x a Rg.lo i) := by
      refine ⟨?_, rfl, ?_, ht.1, by simp [busE, h.ll], h.legsLo⟩
      · simp only [busE, bang _ _ hi, bang _ _ hi']; exact hb.1
      · simp only [busE, bang _ _ hi, bang _ _ hi', h.unit]; omega
    have L2 : TLe (busE x a Rg.hi i) (busE r a Rg.hi i) := by
      refine ⟨?_, rfl, ?_, ht.2.2, by simp [busE, h.ll], h.legsHi⟩
      · simp only [busE, bang _ _ hi, bang _ _ hi']; exact hb.1.symm
      · simp only [busE, bang _ _ hi, bang _ _ hi', h.unit]; omega
    obtain ⟨x', e1, e2, e3⟩ := span_narrow (p := (busE r a Rg.lo i, busE r a Rg.hi i)) (p' := (busE x a Rg.lo i, busE x a Rg.hi i)) L1 L2 o1 o1 hs
    refine ⟨x', List.mem_filterMap.2 ⟨_, List.mem_append_left _ (List.mem_map_of_mem (List.mem_range.2 hi')), e1⟩, e2, e3⟩
  · obtain ⟨j, hj, hc⟩ := List.mem_filterMap.1 hP
    split at hc
    · rename_i hsp
      cases hc
      have hj : j < r.spares.length := by simpa using hj
      have hj' : j < x.spares.length := by rw [h.spares]; exact hj
      have o1 := (spE_ok AtEnd.low V j hj).t
      have L1 : TLe (spE r Rg.lo j) (spE x Rg.lo j) := ⟨by simp [spE, h.spares], rfl, by simp [spE, h.spares], Int.le_refl _, by simp [spE, h.ll], h.legsLo⟩
      have L2 : TLe (spE x Rg.hi j) (spE r Rg.hi j) := ⟨by simp [spE, h.spares], rfl, by simp [spE, h.spares], Int.le_refl _, by simp [spE, h.ll], h.legsHi⟩
      obtain ⟨x', e1, e2, e3⟩ := span_narrow (p := (spE r Rg.lo j, spE r Rg.hi j)) (p' := (spE x Rg.lo j, spE x Rg.hi j)) L1 L2 o1 o1 hs
      refine ⟨x', List.mem_filterMap.2 ⟨_, List.mem_append_right _ (List.mem_filterMap.2 ⟨j, List.mem_range.2 hj', by rw [if_pos hsp]⟩), e1⟩, e2, e3⟩
    · cases hc
def AllLe (v w : List Int) : Prop := v.length = w.length ∧ ∀ (s : Nat) (x y : Int), v[s]? = some x → w[s]? = some y → x ≤ y
theorem worstsOf_le {r x : Route} {a b : Acts} (hl : x.legs.length = r.legs.length) (h : ∀ k < r.legs.length + 1, WR x.fr x.to_ (rangesAt x b k) ≤ WR r.fr r.to_ (rangesAt r a k)) : AllLe (worstsOf x b) (worstsOf r a) := by
  unfold worstsOf
  refine ⟨by simp [hl], fun s u v hu hv => ?_⟩
  rw [List.getElem?_map] at hu hv
  obtain ⟨i, hi, rfl⟩ := Option.map_eq_some_iff.1 hu
  obtain ⟨j, hj, rfl⟩ := Option.map_eq_some_iff.1 hv
  have hs : s < r.legs.length + 1 := by
    rcases Nat.lt_or_ge s (r.legs.length + 1) with h' | h'
    · exact h'
    · rw [List.getElem?_eq_none (by simpa using h')] at hj; cases hj
  rw [List.getElem?_range hs] at hj
  rw [hl, List.getElem?_range hs] at hi
  cases hi; cases hj
  exact h s hs
theorem modN (c : Nat) (l : Nat) (hc : c ≤ 255) : Int.tmod (IntKind.i64.wrap (c : Int)) (l : Int) = ((c % l : Nat) : Int) := by rw [wid (by omega) (by omega)]; rfl
end Go.Proofs.Ytokchpjijlebiaa
namespace Go.Proofs.Ytokchpjijlebiaa
open Go Go.RowKit
theorem bang_app {α : Type} [Inhabited α] (l m : List α) (i : Nat) (h : i < l.length) : (l ++ m)[i]! = l[i]! := by
  rw [bang _ _ (by rw [List.length_append]; omega), bang _ _ h, List.getElem_append_left h]
theorem spare_sub {r : Route} {a : Acts} (more : Spare) (A : ActsOk r a) (k : Nat) : ∀ p ∈ rangesAt r a k, p ∈ rangesAt (Route.mk r.legs r.turn r.buses (r.spares ++ [more]) r.unit r.gap r.fr r.to_) (Acts.mk a.holds a.turns (a.spares ++ [true])) k := by
  intro p hp
  unfold rangesAt at hp ⊢
  obtain ⟨P, hP, hs⟩ := List.mem_filterMap.1 hp
  refine List.mem_filterMap.2 ⟨P, ?_, hs⟩
  unfold pairs at hP ⊢
  rcases List.mem_append.1 hP with hP | hP
  · exact List.mem_append_left _ hP
  · obtain ⟨j, hj, hc⟩ := List.mem_filterMap.1 hP
    have hj : j < r.spares.length := by simpa using hj
    refine List.mem_append_right _ (List.mem_filterMap.2 ⟨j, List.mem_range.2 (by rw [List.length_append]; simp; omega), ?_⟩)
    have e1 : ∀ f : Rg → Int, spE (Route.mk r.legs r.turn r.buses (r.spares ++ [more]) r.unit r.gap r.fr r.to_) f j = spE r f j := fun f => by
      unfold spE
      simp only []
      rw [bang_app _ _ _ hj]
    simp only []
    rw [bang_app _ _ _ (by rw [A.spares]; exact hj), e1, e1]
    exact hc
theorem look?_turned {st turned turn : Int} {legs : List Int} (ht : 2 * turned + 1 < st) (k : Int) (h1 : turned < k) (h2 : k < st - 1 - turned) : ∀ (n : Nat) (tm s : Int), s ≤ turned → look? (passL st turned turn legs n tm s) k = none
  | 0, _, _, _ => rfl
  | n + 1, tm, s, hs => by
    rw [passL]
    split
    · rw [look?, if_neg (by simp only; omega)]
      split
      · exact look?_low ht n _ _ k (by omega)
      · rename_i hne
        split
        · exact look?_turned ht k h1 h2 n _ _ (by omega)
        · rfl
    · rfl
theorem turn_sub {r : Route} {a : Acts} (V : Valid r) (A : ActsOk r a) (k : Nat) (x : Int) (B : ActsOk r ⟨a.holds, a.turns.set k x, a.spares⟩) (hk : k < r.buses.length) (hx : (r.buses[k]).stop ≤ x) (s : Nat) (h1 : x < (s : Int)) (h2 : (s : Int) < (r.legs.length : Int) + 1 - 1 - x) :
    ∀ p ∈ rangesAt r ⟨a.holds, a.turns.set k x, a.spares⟩ s, p ∈ rangesAt r a s := by
  intro p hp
  unfold rangesAt at hp ⊢
  obtain ⟨P, hP, hs⟩ := List.mem_filterMap.1 hp
  refine List.mem_filterMap.2 ⟨P, ?_, hs⟩
  unfold pairs at hP ⊢
  rcases List.mem_append.1 hP with hP | hP
  · obtain ⟨i, hi, rfl⟩ := List.mem_map.1 hP
    have hi : i < r.buses.length := by simpa using hi
    by_cases hik : i = k
    · subst hik
      exfalso
      have o2 := (busE_ok AtEnd.low V B i hi).t
      have e : (a.turns.set i x)[i]! = x := by rw [bang _ _ (by rw [List.length_set, A.turns]; exact hi), List.getElem_set_self]
      obtain ⟨q1, _⟩ := spanAt_some.1 hs
      unfold atOf at q1
      simp only [busE, e] at q1 o2
      rw [look?_turned o2 s h1 (by omega) 40 _ _ (by rw [bang _ _ hi]; exact hx)] at q1
      cases q1
    · have e : ∀ f, busE r ⟨a.holds, a.turns.set k x, a.spares⟩ f i = busE r a f i := fun f => by
        have : (a.turns.set k x)[i]! = a.turns[i]! := by
          rw [bang _ _ (by rw [List.length_set, A.turns]; exact hi), bang _ _ (by rw [A.turns]; exact hi), List.getElem_set_ne (by omega)]
        unfold busE
        simp only [this]
      rw [e, e]
      exact List.mem_append_left _ (List.mem_map_of_mem (List.mem_range.2 hi))
  · exact List.mem_append_right _ hP
theorem spare_l1_eq (w v : List Int) (h : AllLe v w) (hb : w.length ≤ 20) : ∀ (n i : Nat), v.length < n + i → i ≤ v.length → law_ControlSpare_l1 n (w, 0) (v, 0) (i : Int) = some (Ex.go ())
  | 0, i, h, hi => by omega
  | n + 1, i, hn, hi => by
    rw [law_ControlSpare_l1]
    simp only []
    rw [lt_len]
    by_cases hx : i < v.length
    · have hy : i < w.length := by rw [← h.1]; exact hx
      have := h.2 i _ _ (List.getElem?_eq_getElem hx) (List.getElem?_eq_getElem hy)
      simp only [hx, decide_true, cond_true]
      rw [idxLt _ _ hx, idxLt _ _ hy, Option.bind_some, Option.bind_some, decide_eq_false (by omega), cond_false, wnat i (by omega), spare_l1_eq w v h hb n (i + 1) (by omega) (by omega)]
    · have : i = v.length := by omega
      simp [this]
theorem spare_l2_eq (r : Route) (b : Bus) (wh : IK .u8) (w v : List Int) (x : Int) (hl : r.legs.length ≤ 20) (hodd : r.legs.length % 2 = 1) (hw : w.length = r.legs.length + 1) (hv : v.length = r.legs.length + 1) (hx0 : 0 ≤ x) (hx1 : x ≤ 100)
    (hx : IntKind.i64.wrap (b.stop + (Int.tmod (IntKind.i64.wrap wh.n) 4)) = x) (hle : ∀ (s : Nat) (p q : Int), x < (s : Int) → (s : Int) < (r.legs.length : Int) - x → v[s]? = some p → w[s]? = some q → q ≤ p) : ∀ (n i : Nat), 110 < n + i → x < (i : Int) → i ≤ 110 →
    law_ControlSpare_l2 n r wh (w, 0) b (v, 0) (i : Int) = some (Ex.go ()) ∧ law_ControlSpare_l3 n r wh (w, 0) b (v, 0) (i : Int) = some (Ex.go ())
  | 0, i, h, hi, hi2 => by
    omega
  | n + 1, i, hn, hi, hi2 => by
    rw [law_ControlSpare_l2, law_ControlSpare_l3, ref_places_eq n r hl, Option.bind_some, Option.bind_some, hx]
    rw [wid (x := 2 * _) (by omega) (by omega), wid (x := 2 * (((r.legs.length + 1) / 2 : Nat) : Int) - 1) (by omega) (by omega), wid (x := 2 * (((r.legs.length + 1) / 2 : Nat) : Int) - 1 - x) (by omega) (by omega)]
    by_cases hc : (i : Int) < 2 * (((r.legs.length + 1) / 2 : Nat) : Int) - 1 - x
    · have h1 : i < v.length := by omega
      have h2 : i < w.length := by omega
      have := hle i _ _ hi (by omega) (List.getElem?_eq_getElem h1) (List.getElem?_eq_getElem h2)
      rw [decide_eq_true hc, cond_true, cond_true]
      simp only []
      rw [idxLt _ _ h1, idxLt _ _ h2, Option.bind_some, Option.bind_some, Option.bind_some, Option.bind_some, decide_eq_false (by omega), cond_false, cond_false, wnat i (by omega)]
      exact spare_l2_eq r b wh w v x hl hodd hw hv hx0 hx1 hx hle n (i + 1) (by omega) (by omega) (by omega)
    · rw [decide_eq_false hc]
      exact ⟨rfl, rfl⟩
theorem spare_tail (n : Nat) (hn : 120 ≤ n) (hn2 : n ≤ 900) (r : Route) (a : Acts) (wh : IK .u8) (hF : faultOf r = 0) (hA : actsB r a = true) (k : Nat) (hk : k < r.buses.length) (x : Int) (hx : IntKind.i64.wrap ((r.buses[k]).stop + (Int.tmod (IntKind.i64.wrap wh.n) 4)) = x) (hx0 : (r.buses[k]).stop ≤ x) (hx1 : x ≤ 100) (hB : actsB r ⟨a.holds, a.turns.set k x, a.spares⟩ = true) :
    law_ControlSpare_l2 n r wh (worstsOf r a, 0) r.buses[k] (worstsOf r ⟨a.holds, a.turns.set k x, a.spares⟩, 0) (IntKind.i64.wrap (x + 1)) = some (Ex.go ()) ∧ law_ControlSpare_l3 n r wh (worstsOf r a, 0) r.buses[k] (worstsOf r ⟨a.holds, a.turns.set k x, a.spares⟩, 0) (IntKind.i64.wrap (x + 1)) = some (Ex.go ()) := by
  have V := valid_of hF
  have A := actsOk_of hA
  have B := actsOk_of hB
  have := V.nl
  have hs := V.buses _ (List.getElem_mem hk)
  obtain ⟨c, rfl⟩ : ∃ c : Nat, x = (c : Int) := ⟨x.toNat, by omega⟩
  rw [wnat c (by omega)]
  refine spare_l2_eq r _ wh _ _ (c : Int) (by omega) V.odd (by simp [worstsOf]) (by simp [worstsOf]) (by omega) hx1 hx (fun s p q h1 h2 hp hq => ?_) n (c + 1) (by omega) (by omega) (by omega)
  unfold worstsOf at hp hq
  rw [List.getElem?_map, List.getElem?_range (by omega)] at hp hq
  cases hp; cases hq
  exact WR_dom (Dom.sub (turn_sub V A k c B hk hx0 s h1 (by omega))) (Int.le_refl _) V.looked.2.1 (Int.le_refl _)
def spareTail (n : Nat) (r_ : Route) (a : Acts) (at_ : IK .u8) (where_ : IK .u8) (L : Nat → Route → (IK .u8) → ((List Int) × Int) → Bus → ((List Int) × Int) → Int → Option (Ex Bool Unit)) (x34 : (List Int) × Int) : Option Bool :=
  (bif (((r_.buses.length : Nat) : Int) == 0) then
  ((law_awake n ).bind fun x102 =>
  some x102)
  else
  ((nz ((r_.buses.length : Nat) : Int)).bind fun x108 =>
  ((idx r_.buses (Int.tmod (IntKind.i64.wrap at_.n) ((r_.buses.length : Nat) : Int))).bind fun x112 =>
  ((law_list n a.turns).bind fun x122 =>
  ((idx x122 (Int.tmod (IntKind.i64.wrap at_.n) ((r_.buses.length : Nat) : Int))).bind fun x128 =>
  ((upd x122 (Int.tmod (IntKind.i64.wrap at_.n) ((r_.buses.length : Nat) : Int)) (IntKind.i64.wrap (x112.stop + (Int.tmod (IntKind.i64.wrap where_.n) 4)))).bind fun u_437 =>
  ((((idx a.turns (Int.tmod (IntKind.i64.wrap at_.n) ((r_.buses.length : Nat) : Int))).bind fun x132 =>
  (bif (x132 != (-1)) then
  some (u_437, true)
  else
  ((ref_AreActs n r_ (Acts.mk a.holds u_437 a.spares)).bind fun x138 =>
  some (u_437, (!x138))))) : Option ((List Int) × Bool)).bind fun o_449 =>
  (bif o_449.2 then
  ((law_awake n ).bind fun x141 =>
  some x141)
  else
  ((law_Acts n (Acts.mk a.holds o_449.1 a.spares)).bind fun x146 =>
  ((control_Worst n r_ x146).bind fun x147 =>
  (((bif (x147.2 != 0) then
  some true
  else
  some (((x147.1.length : Nat) : Int) != ((x34.1.length : Nat) : Int))) : Option Bool).bind fun o_564 =>
  (bif o_564 then
  some false
  else
  ((L n r_ where_ x34 x112 x147 (IntKind.i64.wrap ((IntKind.i64.wrap (x112.stop + (Int.tmod (IntKind.i64.wrap where_.n) 4))) + 1))).bind fun o_586 => Ex.bind o_586 (fun r => some r) fun s_587 =>
  ((law_awake n ).bind fun x180 =>
  some x180))))))))))))))
theorem spareTail_eq (n : Nat) (hn : 120 ≤ n) (hn2 : n ≤ 900) (hw : law_awake n = some true) (r : Route) (a : Acts) (at_ wh : IK .u8) (hat : 0 ≤ at_.n ∧ at_.n ≤ 255) (hwh : 0 ≤ wh.n ∧ wh.n ≤ 255) (hF : faultOf r = 0) (hA : actsB r a = true) (L : Nat → Route → (IK .u8) → ((List Int) × Int) → Bus → ((List Int) × Int) → Int → Option (Ex Bool Unit))
    (hL : ∀ (k : Nat) (hk : k < r.buses.length) (x : Int), IntKind.i64.wrap ((r.buses[k]).stop + (Int.tmod (IntKind.i64.wrap wh.n) 4)) = x → (r.buses[k]).stop ≤ x → x ≤ 100 → actsB r ⟨a.holds, a.turns.set k x, a.spares⟩ = true → L n r wh (worstsOf r a, 0) r.buses[k] (worstsOf r ⟨a.holds, a.turns.set k x, a.spares⟩, 0) (IntKind.i64.wrap (x + 1)) = some (Ex.go ())) :
    spareTail n r a at_ wh L (worstsOf r a, 0) = some true := by
  have V := valid_of hF
  have A := actsOk_of hA
  have := V.nl
  have := V.nb
  have := V.ns
  have l1 := A.holds
  have l2 := A.turns
  have l3 := A.spares
  unfold spareTail
  by_cases h0 : r.buses.length = 0
  · have e : (((r.buses.length : Nat) : Int) == 0) = true := beq_iff_eq.2 (by omega)
    rw [e, hw]
    rfl
  have e : (((r.buses.length : Nat) : Int) == 0) = false := beq_eq_false_iff_ne.2 (by omega)
  rw [e, cond_false]
  obtain ⟨c, hc⟩ : ∃ c : Nat, at_.n = (c : Int) := ⟨at_.n.toNat, by omega⟩
  obtain ⟨d, hd⟩ : ∃ d : Nat, wh.n = (d : Int) := ⟨wh.n.toNat, by omega⟩
  have hk : c % r.buses.length < r.buses.length := Nat.mod_lt _ (by omega)
  have hkt : c % r.buses.length < a.turns.length := by omega
  have hs := V.buses _ (List.getElem_mem hk)
  have h4 : Int.tmod (IntKind.i64.wrap wh.n) 4 = ((d % 4 : Nat) : Int) := by rw [hd, wid (by omega) (by omega)]; rfl
  have hd4 := Nat.mod_lt d (show 0 < 4 by decide)
  have hx : IntKind.i64.wrap ((r.buses[c % r.buses.length]).stop + (Int.tmod (IntKind.i64.wrap wh.n) 4)) = (r.buses[c % r.buses.length]).stop + ((d % 4 : Nat) : Int) := by rw [h4, wid (by omega) (by omega)]
  rw [hc, modN c _ (by omega), show nz ((r.buses.length : Nat) : Int) = some () by unfold nz; rw [if_neg (by omega)], Option.bind_some, idxLt _ _ hk, Option.bind_some, law_list_eq n _ (by omega), Option.bind_some, idxLt _ _ hkt, Option.bind_some, hx, updN _ _ _ hkt, Option.bind_some, Option.bind_some]
  generalize hX : (r.buses[c % r.buses.length]).stop + ((d % 4 : Nat) : Int) = x at hx
  by_cases ht : a.turns[c % r.buses.length] = -1
  · have ht' : (a.turns[c % r.buses.length] != -1) = false := by rw [ht]; rfl
    rw [ht', cond_false, ref_AreActs_eq n r _ (by omega) (by omega) (by omega), Option.bind_some, Option.bind_some]
    cases hB : actsB r ⟨a.holds, a.turns.set (c % r.buses.length) x, a.spares⟩ with
    | false =>
      rw [hw]
      rfl
    | true =>
      have t2 := hL _ hk x hx (by omega) (by omega) hB
      simp only [Bool.not_true, cond_false]
      rw [law_Acts_eq n _ (by simp only; omega) (by simp only [List.length_set]; omega) (by simp only; omega), Option.bind_some, worst_eq n r _ hF hB (by omega) hn2, Option.bind_some]
      have hl : (worstsOf r ⟨a.holds, a.turns.set (c % r.buses.length) x, a.spares⟩).length = (worstsOf r a).length := by simp [worstsOf]
      rw [hl]
      simp only [bne_self_eq_false, cond_false, Option.bind_some]
      rw [t2, hw]
      rfl
  · have ht' : (a.turns[c % r.buses.length] != -1) = true := by simpa using ht
    rw [ht', cond_true, Option.bind_some, hw]
    rfl
theorem controlSpare_law (n : Nat) (hn : 120 ≤ n) (hn2 : n ≤ 900) (hw : law_awake n = some true) (r : Route) (a : Acts) (more : Spare) (at_ wh : IK .u8) (hat : 0 ≤ at_.n ∧ at_.n ≤ 255) (hwh : 0 ≤ wh.n ∧ wh.n ≤ 255) : law_ControlSpare n r a more at_ wh = some true := by
  unfold law_ControlSpare
  obtain ⟨b, hb, hb2⟩ := ready_eq n r a (by omega)
  rw [hb, Option.bind_some]
  cases b with
  | false => simp only [Bool.not_false, cond_true, hw, Option.bind_some]
  | true =>
    obtain ⟨h1, h2, h3, h4, h5, h6, hF, hA⟩ := hb2 rfl
    have V := valid_of hF
    have A := actsOk_of hA
    have t2 := spareTail_eq n hn hn2 hw r a at_ wh hat hwh hF hA law_ControlSpare_l2 fun k hk x q1 q2 q3 q4 => (spare_tail n hn hn2 r a wh hF hA k hk x q1 q2 q3 q4).1
    have t3 := spareTail_eq n hn hn2 hw r a at_ wh hat hwh hF hA law_ControlSpare_l3 fun k hk x q1 q2 q3 q4 => (spare_tail n hn hn2 r a wh hF hA k hk x q1 q2 q3 q4).2
    simp only [Bool.not_true, cond_false]
    rw [law_Route_eq n r (by omega) (by omega) (by omega) (by omega), Option.bind_some, law_Acts_eq n a (by omega) (by omega) (by omega), Option.bind_some, worst_eq n r a hF hA (by omega) hn2, Option.bind_some, ref_stops_eq n r (by omega)]
    have l1 : (worstsOf r a).length = r.legs.length + 1 := by simp [worstsOf]
    have e1 : ((((worstsOf r a).length : Nat) : Int) != (r.legs.length : Int) + 1) = false := by rw [l1]; simp
    simp only [bne_self_eq_false, cond_false, Option.bind_some, e1]
    rw [appOk [] r.spares (by simp; omega), Option.bind_some, appOk _ [more] (by simp; omega), Option.bind_some, appOk [] a.spares (by simp; omega), Option.bind_some, appOk _ [true] (by simp; omega), Option.bind_some, List.nil_append, List.nil_append]
    obtain ⟨b', hb', hb2'⟩ := ready_eq n (Route.mk r.legs r.turn r.buses (r.spares ++ [more]) r.unit r.gap r.fr r.to_) (Acts.mk a.holds a.turns (a.spares ++ [true])) (by omega)
    rw [hb', Option.bind_some]
    cases b' with
    | false =>
      rw [cond_false]
      unfold spareTail at t3
      exact t3
    | true =>
      obtain ⟨g1, g2, g3, g4, g5, g6, gF, gA⟩ := hb2' rfl
      rw [cond_true, law_Route_eq n (Route.mk r.legs r.turn r.buses (r.spares ++ [more]) r.unit r.gap r.fr r.to_) (by omega) (by simp only; omega) (by simp only; omega) (by simp only at g3 ⊢; omega), Option.bind_some, law_Acts_eq n (Acts.mk a.holds a.turns (a.spares ++ [true])) (by simp only; omega) (by simp only; omega) (by simp only at g6 ⊢; omega), Option.bind_some, worst_eq n _ _ gF gA (by omega) hn2, Option.bind_some]
      have hle : AllLe (worstsOf (Route.mk r.legs r.turn r.buses (r.spares ++ [more]) r.unit r.gap r.fr r.to_) (Acts.mk a.holds a.turns (a.spares ++ [true]))) (worstsOf r a) :=
        worstsOf_le rfl fun k _ => WR_dom (Dom.sub (spare_sub more A k)) (Int.le_refl _) V.looked.2.1 (Int.le_refl _)
      have e := spare_l1_eq (worstsOf r a) _ hle (by omega) n 0 (by rw [hle.1]; omega) (by omega)
      rw [Int.natCast_zero] at e
      rw [hle.1]
      simp only [bne_self_eq_false, cond_false, Option.bind_some]
      rw [e, Option.bind_some]
      exact t2
end Go.Proofs.Ytokchpjijlebiaa
