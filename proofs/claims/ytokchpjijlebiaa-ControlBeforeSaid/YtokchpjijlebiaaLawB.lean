/- Control, the plain law: when a trip passes. -/
import Derived.Test.YtokchpjijlebiaaLawA
set_option linter.all false
namespace Go.Proofs.Ytokchpjijlebiaa
open Go Go.RowKit
/-- the stops that a trip passes, and when -/
def passL (st turned turn : Int) (legs : List Int) : Nat → Int → Int → List (Int × Int)
  | 0, _, _ => []
  | n + 1, tm, s => if 0 ≤ s ∧ s < st then (s, tm) :: (if s = turned then passL st turned turn legs n (tm + turn) (st - 1 - s) else match legs[s.toNat]? with
    | some d => passL st turned turn legs n (tm + d) (s + 1)
    | none => []) else []
def Small (turn : Int) (legs : List Int) : Prop := 0 ≤ turn ∧ turn ≤ 300 ∧ legs.length ≤ 20 ∧ ∀ d ∈ legs, 0 ≤ d ∧ d ≤ 300
theorem control_stops_eq (n : Nat) (r : Route) (h : r.legs.length ≤ 20) : control_Route_stops n r = some ((r.legs.length : Int) + 1) := by
  simp only [control_Route_stops]; rw [wid (by omega) (by omega)]
theorem control_stop_eq (n : Nat) (r : Route) (s : Int) (h : r.legs.length ≤ 20) : control_Route_stop n r s = some (decide (0 ≤ s ∧ s < (r.legs.length : Int) + 1)) := by
  simp only [control_Route_stop, control_stops_eq n r h, control_within, Option.bind_some]
  rw [wid (by omega) (by omega)]
  by_cases h1 : 0 ≤ s
  · simp [h1]; omega
  · simp [h1]
theorem passes_l1_eq {σ : Type} (yield_ : σ → Int → Int → Option (σ × Bool)) (g : σ → Int → Int → Option σ) (hy : ∀ s a b, yield_ s a b = (g s a b).map fun s' => (s', true)) (q0 : Trip) (q1 : Route) (q2 : Times) (hl : q1.legs.length ≤ 20) (hq : Small q2.turn q2.legs) (hql : q2.legs.length = q1.legs.length)
    (ht : 2 * q0.turned + 1 < (q1.legs.length : Int) + 1) : ∀ (n : Nat) (tm s : Int) (x : σ), 0 ≤ tm → tm + 300 * n ≤ 1000000000 → 0 ≤ s → s ≤ (q1.legs.length : Int) + 1 → (q1.legs.length : Int) + 1 - s < n →
    (control_Route_passes_1_l1 n yield_ q0 q1 q2 tm s x).bind (fun o => Ex.bind o (fun r => some r) fun s => some s) = (passL ((q1.legs.length : Int) + 1) q0.turned q2.turn q2.legs n tm s).foldlM (fun x p => g x p.1 p.2) x
  | 0, tm, s, x, _, _, _, h1, h2 => by omega
  | n + 1, tm, s, x, h0, hb, hs, h1, h2 => by
    have IH := passes_l1_eq yield_ g hy q0 q1 q2 hl hq hql ht n
    obtain ⟨t0, t1, hq1, hq2⟩ := hq
    rw [control_Route_passes_1_l1, passL, control_stop_eq n q1 s hl]
    by_cases hc : 0 ≤ s ∧ s < (q1.legs.length : Int) + 1
    · simp only [hc, and_self, decide_true, Option.bind_some, cond_true, if_true, hy, List.foldlM_cons]
      cases hg : g x s tm with
      | none => simp
      | some x' =>
        simp only [Option.map_some, Option.bind_some, cond_true, Option.bind_eq_bind, control_stops_eq n q1 hl]
        by_cases hst : s = q0.turned
        · simp only [hst, beq_self_eq_true, cond_true, if_true]
          subst hst
          rw [wid (x := tm + q2.turn) (by omega) (by omega), wid (x := (q1.legs.length : Int) + 1 - 1) (by omega) (by omega), wid (x := (q1.legs.length : Int) + 1 - 1 - q0.turned) (by omega) (by omega)]
          exact IH _ _ _ (by omega) (by omega) (by omega) (by omega) (by omega)
        · simp only [beq_eq_false_iff_ne.2 hst, cond_false, hst, if_false]
          by_cases hsl : s < (q2.legs.length : Int)
          · simp only [hsl, decide_true, cond_true]
            obtain ⟨k, rfl⟩ : ∃ k : Nat, s = k := ⟨s.toNat, by omega⟩
            have hk : k < q2.legs.length := by omega
            have hd := hq2 _ (List.getElem_mem hk)
            rw [idxLt _ _ hk]
            simp only [Option.bind_some, Int.toNat_natCast, List.getElem?_eq_getElem hk]
            rw [wid (x := tm + q2.legs[k]) (by omega) (by omega), wid (x := (k : Int) + 1) (by omega) (by omega)]
            exact IH _ _ _ (by omega) (by omega) (by omega) (by omega) (by omega)
          · simp only [hsl, decide_false, cond_false, Option.bind_some, Ex.bind]
            rw [List.getElem?_eq_none (by omega)]
            simp
    · simp only [hc, decide_false, Option.bind_some, cond_false, Ex.bind, if_false]
      simp
theorem passes_eq {σ : Type} (n : Nat) (yield_ : σ → Int → Int → Option (σ × Bool)) (g : σ → Int → Int → Option σ) (hy : ∀ s a b, yield_ s a b = (g s a b).map fun s' => (s', true)) (q0 : Trip) (q1 : Route) (q2 : Times) (x : σ) (hl : q1.legs.length ≤ 20) (hq : Small q2.turn q2.legs) (hql : q2.legs.length = q1.legs.length)
    (ht : 2 * q0.turned + 1 < (q1.legs.length : Int) + 1) (h0 : 0 ≤ q0.tm) (h1 : q0.tm ≤ 100000) (hn : 30 ≤ n) (hn2 : n ≤ 1000) (hs : 0 ≤ q0.stop) (hs2 : q0.stop ≤ (q1.legs.length : Int) + 1) :
    control_Route_passes_1 n yield_ x q0 q1 q2 = (passL ((q1.legs.length : Int) + 1) q0.turned q2.turn q2.legs n q0.tm q0.stop).foldlM (fun x p => g x p.1 p.2) x :=
  passes_l1_eq yield_ g hy q0 q1 q2 hl hq hql ht n q0.tm q0.stop x h0 (by omega) hs hs2 (by omega)
/-- the stops rise -/
theorem passL_ge {st turned turn : Int} {legs : List Int} (ht : 2 * turned + 1 < st) : ∀ (n : Nat) (tm s : Int) (p : Int × Int), p ∈ passL st turned turn legs n tm s → s ≤ p.1 ∧ 0 ≤ p.1 ∧ p.1 < st
  | 0, _, _, _, h => by simp [passL] at h
  | n + 1, tm, s, p, h => by
    rw [passL] at h
    split at h
    · rename_i hc
      rcases List.mem_cons.1 h with rfl | h
      · exact ⟨Int.le_refl _, hc.1, hc.2⟩
      · split at h
        · have := passL_ge ht n _ _ p h
          omega
        · split at h
          · have := passL_ge ht n _ _ p h
            omega
          · simp at h
    · simp at h
theorem passL_nodup {st turned turn : Int} {legs : List Int} (ht : 2 * turned + 1 < st) : ∀ (n : Nat) (tm s : Int), ((passL st turned turn legs n tm s).map Prod.fst).Nodup
  | 0, _, _ => by simp [passL]
  | n + 1, tm, s => by
    rw [passL]
    split
    · rename_i hc
      rw [List.map_cons, List.nodup_cons]
      split
      · rename_i hs
        refine ⟨fun h => ?_, passL_nodup ht n _ _⟩
        obtain ⟨p, hp, hp2⟩ := List.mem_map.1 h
        have := passL_ge ht n _ _ p hp
        simp only at hp2
        omega
      · split
        · refine ⟨fun h => ?_, passL_nodup ht n _ _⟩
          obtain ⟨p, hp, hp2⟩ := List.mem_map.1 h
          have := passL_ge ht n _ _ p hp
          simp only at hp2
          omega
        · simp
    · simp
/-- when a trip passes a stop -/
def passAt (st turned turn : Int) (legs : List Int) (n : Nat) (tm s k : Int) : Option Int := look? (passL st turned turn legs n tm s) k
theorem look?_mem {K α : Type} [DecidableEq K] : ∀ {l : List (K × α)} {k : K} {x : α}, look? l k = some x → (k, x) ∈ l
  | [], _, _, h => by simp [look?] at h
  | p :: r, k, x, h => by
    rw [look?] at h
    split at h
    · rename_i hp; cases h; subst hp; simp
    · exact List.mem_cons_of_mem _ (look?_mem h)
/-- A truth in which all is later, passes the same stops, later. -/
theorem pass_mono {st turned : Int} {turn turn' : Int} {legs legs' : List Int} (ht : 2 * turned + 1 < st) (hl : legs.length = legs'.length) (hle : ∀ (k : Nat) (d d' : Int), legs[k]? = some d → legs'[k]? = some d' → d ≤ d') (h1 : turn ≤ turn') : ∀ (n : Nat) (tm tm' s k : Int), tm ≤ tm' →
    (passAt st turned turn legs n tm s k = none ∧ passAt st turned turn' legs' n tm' s k = none) ∨ ∃ a b, passAt st turned turn legs n tm s k = some a ∧ passAt st turned turn' legs' n tm' s k = some b ∧ a ≤ b
  | 0, _, _, _, _, _ => .inl ⟨rfl, rfl⟩
  | n + 1, tm, tm', s, k, h => by
    unfold passAt
    rw [passL, passL]
    by_cases hc : 0 ≤ s ∧ s < st
    · simp only [hc, and_self, if_true, look?]
      by_cases hk : s = k
      · simp only [hk, if_true]; exact .inr ⟨_, _, rfl, rfl, h⟩
      · simp only [hk, if_false]
        by_cases hs : s = turned
        · simp only [hs, if_true]
          exact pass_mono ht hl hle h1 n _ _ _ k (by omega)
        · simp only [hs, if_false]
          cases hg : legs[s.toNat]? with
          | none =>
            have : legs'[s.toNat]? = none := by rw [List.getElem?_eq_none_iff] at hg ⊢; omega
            simp [this, look?]
          | some d =>
            have hlt : s.toNat < legs.length := by
              rcases Nat.lt_or_ge s.toNat legs.length with h' | h'
              · exact h'
              · rw [List.getElem?_eq_none h'] at hg; cases hg
            obtain ⟨d', hd'⟩ : ∃ d', legs'[s.toNat]? = some d' := ⟨_, List.getElem?_eq_getElem (by omega)⟩
            simp only [hd']
            have := hle _ _ _ hg hd'
            exact pass_mono ht hl hle h1 n _ _ _ k (by omega)
    · simp only [hc, if_false]; exact .inl ⟨rfl, rfl⟩
end Go.Proofs.Ytokchpjijlebiaa
