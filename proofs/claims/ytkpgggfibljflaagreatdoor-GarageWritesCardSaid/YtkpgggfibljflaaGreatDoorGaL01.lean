/- The plain law. -/
import Derived.Test.YtkpgggfibljflaaGreatDoorGaL00
import Derived.Lib.AtoiAll
set_option linter.all false
namespace Go.Proofs.YtkpgggfibljflaaGreatDoor
open Go
def dg : Nat → Nat → List UInt8
  | 0, _ => []
  | k + 1, n => dg k (n / 10) ++ [UInt8.ofNat (48 + n % 10)]
theorem dg_len : ∀ k n, (dg k n).length = k
  | 0, _ => rfl
  | k + 1, n => by simp [dg, dg_len k]
theorem ofNat_inj {a b : Nat} (ha : a < 256) (hb : b < 256) (h : UInt8.ofNat a = UInt8.ofNat b) : a = b := by
  have := congrArg UInt8.toNat h
  simpa [UInt8.toNat_ofNat', Nat.mod_eq_of_lt ha, Nat.mod_eq_of_lt hb] using this
theorem dg_inj : ∀ (k : Nat) {n m : Nat}, n < 10 ^ k → m < 10 ^ k → dg k n = dg k m → n = m
  | 0, n, m, hn, hm, _ => by simp at hn hm; omega
  | k + 1, n, m, hn, hm, h => by
    unfold dg at h
    obtain ⟨h1, h2⟩ := List.append_inj h (by simp [dg_len])
    have h3 := dg_inj k (n := n / 10) (m := m / 10) (by rw [Nat.pow_succ] at hn; omega) (by rw [Nat.pow_succ] at hm; omega) h1
    simp only [List.cons.injEq, and_true] at h2
    have h4 := ofNat_inj (a := 48 + n % 10) (b := 48 + m % 10) (by omega) (by omega) h2
    omega
def sumL : Nat → List UInt8 → Nat
  | _, [] => 0
  | j, c :: l => (j + 1) * (c.toNat + 1) + sumL (j + 1) l
def chk (l : List UInt8) (i : Nat) : Nat := (7 * (i + 1) + sumL 0 l) % 99991
theorem chk_lt (l : List UInt8) (i : Nat) : chk l i < 10 ^ 5 := by have := Nat.mod_lt (7 * (i + 1) + sumL 0 l) (show 0 < 99991 by decide); unfold chk; omega
def frm (l : List UInt8) (i : Nat) : List UInt8 := 91 :: (dg 3 l.length ++ 47 :: (dg 3 (999 - l.length) ++ 47 :: (dg 5 (chk l i) ++ 93 :: (l ++ [10]))))
theorem frm_len (l : List UInt8) (i : Nat) : (frm l i).length = 16 + l.length := by simp [frm, dg_len]; omega
theorem frm_A (l : List UInt8) (i : Nat) : ((frm l i).drop 1).take 3 = dg 3 l.length := by
  simp only [frm, List.drop_succ_cons, List.drop_zero]
  rw [List.take_append_of_le_length (by simp [dg_len]), List.take_of_length_le (by simp [dg_len])]
theorem drop_app {α : Type} {a b : List α} {k : Nat} (h : a.length = k) (m : Nat) : (a ++ b).drop (k + m) = b.drop m := by
  subst h
  rw [List.drop_append, List.drop_eq_nil_of_le (by omega), List.nil_append, Nat.add_sub_cancel_left]
theorem frm_C (l : List UInt8) (i : Nat) : ((frm l i).drop 5).take 3 = dg 3 (999 - l.length) := by
  have : (frm l i).drop 5 = dg 3 (999 - l.length) ++ 47 :: (dg 5 (chk l i) ++ 93 :: (l ++ [10])) := by
    show (dg 3 l.length ++ 47 :: (dg 3 (999 - l.length) ++ 47 :: (dg 5 (chk l i) ++ 93 :: (l ++ [10])))).drop (3 + 1) = _
    rw [drop_app (dg_len 3 _)]; rfl
  rw [this, List.take_append_of_le_length (by simp [dg_len]), List.take_of_length_le (by simp [dg_len])]
theorem frm_9 (l : List UInt8) (i : Nat) : (frm l i).drop 9 = dg 5 (chk l i) ++ 93 :: (l ++ [10]) := by
  show (dg 3 l.length ++ 47 :: (dg 3 (999 - l.length) ++ 47 :: (dg 5 (chk l i) ++ 93 :: (l ++ [10])))).drop (3 + 5) = _
  rw [drop_app (dg_len 3 _)]
  show (dg 3 (999 - l.length) ++ 47 :: (dg 5 (chk l i) ++ 93 :: (l ++ [10]))).drop (3 + 1) = _
  rw [drop_app (dg_len 3 _)]; rfl
theorem frm_K (l : List UInt8) (i : Nat) : ((frm l i).drop 9).take 5 = dg 5 (chk l i) := by
  rw [frm_9, List.take_append_of_le_length (by simp [dg_len]), List.take_of_length_le (by simp [dg_len])]
theorem frm_15 (l : List UInt8) (i : Nat) : (frm l i).drop 15 = l ++ [10] := by
  rw [show 15 = 9 + 6 from rfl, ← List.drop_drop, frm_9]
  show (dg 5 (chk l i) ++ 93 :: (l ++ [10])).drop (5 + 1) = _
  rw [drop_app (dg_len 5 _)]; rfl
theorem frm_L (l : List UInt8) (i : Nat) : ((frm l i).drop 15).take l.length = l := by
  rw [frm_15, List.take_append_of_le_length (Nat.le_refl _), List.take_length]
theorem pre_A {f b : List UInt8} (h : f <+: b) (h16 : 16 ≤ f.length) : (b.drop 1).take 3 = (f.drop 1).take 3 ∧ (b.drop 5).take 3 = (f.drop 5).take 3 := by
  obtain ⟨t, rfl⟩ := h
  constructor
  · rw [List.drop_append_of_le_length (by omega), List.take_append_of_le_length (by simp; omega)]
  · rw [List.drop_append_of_le_length (by omega), List.take_append_of_le_length (by simp; omega)]
theorem len_of_A {l l' : List UInt8} {i i' : Nat} (h : l.length ≤ 200) (h' : l'.length ≤ 200) (e : ((frm l i).drop 1).take 3 = ((frm l' i').drop 1).take 3) : l.length = l'.length := by
  rw [frm_A, frm_A] at e
  exact dg_inj 3 (by omega) (by omega) e
theorem len_of_C {l l' : List UInt8} {i i' : Nat} (h : l.length ≤ 200) (h' : l'.length ≤ 200) (e : ((frm l i).drop 5).take 3 = ((frm l' i').drop 5).take 3) : l.length = l'.length := by
  rw [frm_C, frm_C] at e
  have := dg_inj 3 (n := 999 - l.length) (m := 999 - l'.length) (by omega) (by omega) e
  omega
theorem frm_pre_inj {l l' b : List UInt8} {i i' : Nat} (h : l.length ≤ 200) (h' : l'.length ≤ 200) (p : frm l i <+: b) (p' : frm l' i' <+: b) : frm l i = frm l' i' := by
  have e := len_of_A h h' ((pre_A p (by rw [frm_len]; omega)).1.symm.trans (pre_A p' (by rw [frm_len]; omega)).1)
  obtain ⟨t, rfl⟩ := p
  obtain ⟨t', ht⟩ := p'
  exact (List.append_inj ht (by rw [frm_len, frm_len, e])).1.symm
theorem frm_line {l l' : List UInt8} {i i' : Nat} (h : l.length ≤ 200) (h' : l'.length ≤ 200) (e : frm l i = frm l' i') : l = l' := by
  have hl : l.length = l'.length := by
    have := congrArg List.length e
    rw [frm_len, frm_len] at this; omega
  have := frm_L l i
  rw [e, hl, frm_L] at this
  exact this.symm
theorem frm_idx {l : List UInt8} {i : Nat} (e : frm l i = frm l (i + 1)) : False := by
  have h := congrArg (fun b => (b.drop 9).take 5) e
  simp only [frm_K] at h
  have := dg_inj 5 (chk_lt _ _) (chk_lt _ _) h
  unfold chk at this
  omega
theorem sumL_set : ∀ (l : List UInt8) (j k : Nat) (x : UInt8) (hk : k < l.length), sumL j (l.set k x) + (j + k + 1) * (l[k].toNat + 1) = sumL j l + (j + k + 1) * (x.toNat + 1)
  | [], _, _, _, h => absurd h (Nat.not_lt_zero _)
  | c :: l, j, 0, x, _ => by simp [sumL]; omega
  | c :: l, j, k + 1, x, h => by
    have ih := sumL_set l (j + 1) k x (by simpa using h)
    rw [show j + 1 + k + 1 = j + (k + 1) + 1 by omega] at ih
    simp only [List.set_cons_succ, sumL, List.getElem_cons_succ]
    omega
theorem chk_set {l : List UInt8} {i k : Nat} {x : UInt8} (hk : k < l.length) (hl : l.length ≤ 200) (hx : x ≠ l[k]) : chk (l.set k x) i ≠ chk l i := by
  intro e
  have h := sumL_set l 0 k x hk
  unfold chk at e
  have hne : x.toNat ≠ l[k].toNat := fun h => hx (UInt8.toNat_inj.1 h)
  have b1 := x.toNat_lt
  have b2 := l[k].toNat_lt
  generalize sumL 0 (l.set k x) = a at *
  generalize sumL 0 l = b at *
  generalize x.toNat = u at *
  generalize l[k].toNat = v at *
  have hk2 : k + 1 ≤ 200 := by omega
  have hm : 0 + k + 1 = k + 1 := by omega
  rw [hm] at h
  generalize k + 1 = m at *
  have hm1 : 1 ≤ m := by
    rcases Nat.eq_zero_or_pos m with rfl | h
    · omega
    · exact h
  rcases Nat.lt_or_gt_of_ne hne with hh | hh
  · obtain ⟨d, rfl⟩ : ∃ d, v = u + d := ⟨v - u, by omega⟩
    have e2 : m * (u + d + 1) = m * (u + 1) + m * d := by rw [show u + d + 1 = u + 1 + d by omega, Nat.mul_add]
    have e3 : m * d ≤ 200 * 255 := Nat.mul_le_mul hk2 (by omega)
    have e4 : 1 * 1 ≤ m * d := Nat.mul_le_mul hm1 (by omega)
    generalize m * d = q at *
    generalize m * (u + 1) = q2 at *
    omega
  · obtain ⟨d, rfl⟩ : ∃ d, u = v + d := ⟨u - v, by omega⟩
    have e2 : m * (v + d + 1) = m * (v + 1) + m * d := by rw [show v + d + 1 = v + 1 + d by omega, Nat.mul_add]
    have e3 : m * d ≤ 200 * 255 := Nat.mul_le_mul hk2 (by omega)
    have e4 : 1 * 1 ≤ m * d := Nat.mul_le_mul hm1 (by omega)
    generalize m * d = q at *
    generalize m * (v + 1) = q2 at *
    omega
theorem set_drop_take {α : Type} (r : List α) (p a k : Nat) (x : α) (h : p < a ∨ a + k ≤ p) : ((r.set p x).drop a).take k = (r.drop a).take k := by
  rw [List.drop_set]
  rcases h with h | h
  · rw [if_pos h]
  · rw [if_neg (by omega), List.take_set, List.set_eq_of_length_le]
    simp; omega
theorem frm_bad {l l' rest : List UInt8} {i p : Nat} {x : UInt8} (h : l.length ≤ 200) (h' : l'.length ≤ 200) (hp : p < (frm l i).length) (hx : x ≠ (frm l i)[p]) (hpre : frm l' i <+: (frm l i).set p x ++ rest) : False := by
  have hL : (frm l i).length = 16 + l.length := frm_len l i
  have q := pre_A hpre (by rw [frm_len]; omega)
  have tk : ∀ a, a + 3 ≤ 16 → (((frm l i).set p x ++ rest).drop a).take 3 = (((frm l i).set p x).drop a).take 3 := fun a ha => by
    rw [List.drop_append_of_le_length (by simp [hL]; omega), List.take_append_of_le_length (by simp [hL]; omega)]
  rw [tk 1 (by omega), tk 5 (by omega)] at q
  have hll : l'.length = l.length := by
    by_cases c : p < 5
    · rw [set_drop_take _ _ 5 3 _ (.inl c)] at q
      exact (len_of_C h h' q.2).symm
    · rw [set_drop_take _ _ 1 3 _ (.inr (by omega))] at q
      exact (len_of_A h h' q.1).symm
  obtain ⟨t, ht⟩ := hpre
  have he : frm l' i = (frm l i).set p x := (List.append_inj ht (by simp [frm_len, hll])).1
  by_cases c : p < 15 ∨ 15 + l.length ≤ p
  · have hl := frm_L l' i
    rw [he, hll, set_drop_take _ _ 15 _ _ c, frm_L] at hl
    rw [← hl] at he
    have := congrArg (fun b => b[p]?) he
    simp only [List.getElem?_set_self hp, List.getElem?_eq_getElem hp, Option.some.injEq] at this
    exact hx this.symm
  · have c : 15 ≤ p ∧ p < 15 + l.length := by omega
    have hl := frm_L l' i
    obtain ⟨k, rfl⟩ : ∃ k, p = 15 + k := ⟨p - 15, by omega⟩
    have hk : k < l.length := by omega
    rw [he, hll, List.drop_set, if_neg (by omega), List.take_set, frm_L, show 15 + k - 15 = k by omega] at hl
    have hx2 : (frm l i)[15 + k] = l[k] := by
      have h1 : (frm l i)[15 + k]? = ((frm l i).drop 15)[k]? := by rw [List.getElem?_drop]
      rw [frm_15, List.getElem?_append_left hk, List.getElem?_eq_getElem hk, List.getElem?_eq_getElem hp] at h1
      simpa using h1
    rw [hx2] at hx
    have hK := congrArg (fun b => (b.drop 9).take 5) he
    simp only [set_drop_take _ _ 9 5 _ (.inr (by omega : 9 + 5 ≤ 15 + k)), frm_K] at hK
    rw [← hl] at hK
    exact chk_set hk h hx (dg_inj 5 (chk_lt _ _) (chk_lt _ _) hK)
def fileL : Nat → List (List UInt8) → List UInt8
  | _, [] => []
  | i, l :: r => frm l i ++ fileL (i + 1) r
theorem fileL_app : ∀ (a b : List (List UInt8)) (i : Nat), fileL i (a ++ b) = fileL i a ++ fileL (i + a.length) b
  | [], _, _ => rfl
  | l :: a, b, i => by simp [fileL, fileL_app a b (i + 1), Nat.add_comm, Nat.add_left_comm]
def Fits (i : Nat) (b l : List UInt8) : Prop := l.length ≤ 200 ∧ frm l i <+: b
theorem Fits.one {i : Nat} {b l l' : List UInt8} (h : Fits i b l) (h' : Fits i b l') : l = l' := frm_line h.1 h'.1 (frm_pre_inj h.1 h'.1 h.2 h'.2)
inductive Rd : Nat → Nat → List UInt8 → List (List UInt8) → Prop
  | full (i : Nat) (b : List UInt8) : Rd 0 i b []
  | stop {k i : Nat} {b : List UInt8} (h : ∀ l, ¬ Fits i b l) : Rd (k + 1) i b []
  | more {k i : Nat} {b l : List UInt8} {r : List (List UInt8)} (h : Fits i b l) (hr : Rd k (i + 1) (b.drop (16 + l.length)) r) : Rd (k + 1) i b (l :: r)
theorem Rd.one : ∀ {k i : Nat} {b : List UInt8} {r r' : List (List UInt8)}, Rd k i b r → Rd k i b r' → r = r'
  | _, _, _, _, _, .full _ _, .full _ _ => rfl
  | _, _, _, _, _, .stop _, .stop _ => rfl
  | _, _, _, _, _, .stop h, .more h' _ => absurd h' (h _)
  | _, _, _, _, _, .more h _, .stop h' => absurd h (h' _)
  | _, _, _, _, _, .more h hr, .more h' hr' => by
    have := h.one h'
    subst this
    rw [hr.one hr']
theorem Rd.app : ∀ (ls : List (List UInt8)) {k i : Nat} {b : List UInt8} {r : List (List UInt8)}, (∀ l ∈ ls, l.length ≤ 200) → Rd k (i + ls.length) b r → Rd (k + ls.length) i (fileL i ls ++ b) (ls ++ r)
  | [], _, _, _, _, _, h => h
  | l :: ls, k, i, b, r, hs, h => by
    refine .more (l := l) ⟨hs l (by simp), ?_⟩ ?_
    · exact ⟨fileL (i + 1) ls ++ b, by simp [fileL]⟩
    · have : (fileL i (l :: ls) ++ b).drop (16 + l.length) = fileL (i + 1) ls ++ b := by
        rw [← frm_len l i]; simp [fileL]
      rw [this]
      exact Rd.app ls (fun l hl => hs l (by simp [hl])) (by simpa [Nat.add_comm, Nat.add_left_comm] using h)
theorem not_fits_short {i c : Nat} {l b : List UInt8} (h : l.length ≤ 200) (hc : c < (frm l i).length) : ∀ l', ¬ Fits i ((frm l i ++ b).take c) l' := fun l' ⟨h1, h2⟩ => by
  have h3 : frm l' i <+: frm l i ++ b := h2.trans (List.take_prefix _ _)
  have h4 := frm_pre_inj h1 h h3 ⟨b, rfl⟩
  have := h2.length_le
  rw [h4] at this
  simp at this
  omega
theorem not_fits_idx {i : Nat} {l b : List UInt8} (h : l.length ≤ 200) : ∀ l', ¬ Fits i (frm l (i + 1) ++ b) l' := fun l' ⟨h1, h2⟩ => by
  have h4 := frm_pre_inj h1 h h2 ⟨b, rfl⟩
  have h5 := frm_line h1 h h4
  subst h5
  exact frm_idx h4
theorem not_fits_nil {i : Nat} : ∀ l', ¬ Fits i [] l' := fun l' ⟨_, h2⟩ => by
  have := h2.length_le
  rw [frm_len] at this
  simp at this
theorem Rd.cut {ls : List (List UInt8)} {n c k : Nat} (hs : ∀ l ∈ ls, l.length ≤ 200) (hk : ls.length ≤ k) (hn : n ≤ ls.length) (h1 : (fileL 0 (ls.take n)).length ≤ c) (h2 : ∀ hn : n < ls.length, c < (fileL 0 (ls.take (n + 1))).length) : Rd k 0 ((fileL 0 ls).take c) (ls.take n) := by
  have hsplit : fileL 0 ls = fileL 0 (ls.take n) ++ fileL n (ls.drop n) := by
    conv => lhs; rw [← List.take_append_drop n ls, fileL_app]
    rw [List.length_take, Nat.min_eq_left hn, Nat.zero_add]
  rw [hsplit, List.take_append, List.take_of_length_le h1]
  have hl : (ls.take n).length = n := by simp [hn]
  obtain ⟨k', rfl⟩ : ∃ k', k = k' + (ls.take n).length := ⟨k - n, by rw [hl]; omega⟩
  conv => rhs; rw [← List.append_nil (ls.take n)]
  refine Rd.app _ (fun l h => hs l (List.mem_of_mem_take h)) ?_
  rw [hl, Nat.zero_add]
  by_cases hlt : n < ls.length
  · cases k' with
    | zero => omega
    | succ k' =>
      refine .stop ?_
      have hd : ls.drop n = ls[n] :: ls.drop (n + 1) := List.drop_eq_getElem_cons hlt
      rw [hd]
      refine not_fits_short (hs _ (List.getElem_mem _)) ?_
      have := h2 hlt
      have e : (fileL 0 (ls.take (n + 1))).length = (fileL 0 (ls.take n)).length + (frm ls[n] n).length := by
        rw [List.take_succ_eq_append_getElem hlt, fileL_app]
        simp [fileL, hn, Nat.min_eq_left]
      omega
  · have : ls.drop n = [] := by simp; omega
    rw [this]
    cases k' with
    | zero => exact .full _ _
    | succ k' => exact .stop (by simpa [fileL] using not_fits_nil)
theorem Rd.bad {ls : List (List UInt8)} {n c k : Nat} {x : UInt8} (hs : ∀ l ∈ ls, l.length ≤ 200) (hk : ls.length ≤ k) (hn : n < ls.length) (h1 : (fileL 0 (ls.take n)).length ≤ c) (h2 : c < (fileL 0 (ls.take (n + 1))).length) (hc : c < (fileL 0 ls).length) (hx : x ≠ (fileL 0 ls)[c]) : Rd k 0 ((fileL 0 ls).set c x) (ls.take n) := by
  have hl : (ls.take n).length = n := by simp; omega
  have hd : ls.drop n = ls[n] :: ls.drop (n + 1) := List.drop_eq_getElem_cons hn
  have hsplit : fileL 0 ls = fileL 0 (ls.take n) ++ (frm ls[n] n ++ fileL (n + 1) (ls.drop (n + 1))) := by
    conv => lhs; rw [← List.take_append_drop n ls, fileL_app, hd]
    rw [hl, Nat.zero_add]; rfl
  have e : (fileL 0 (ls.take (n + 1))).length = (fileL 0 (ls.take n)).length + (frm ls[n] n).length := by
    rw [List.take_succ_eq_append_getElem hn, fileL_app]
    simp [fileL, Nat.min_eq_left (Nat.le_of_lt hn)]
  obtain ⟨p, rfl⟩ : ∃ p, c = (fileL 0 (ls.take n)).length + p := ⟨c - (fileL 0 (ls.take n)).length, by omega⟩
  have hp : p < (frm ls[n] n).length := by omega
  have hget : (fileL 0 ls)[(fileL 0 (ls.take n)).length + p] = (frm ls[n] n)[p] := by
    have : (fileL 0 ls)[(fileL 0 (ls.take n)).length + p]? = (frm ls[n] n)[p]? := by
      rw [hsplit, List.getElem?_append_right (by omega), Nat.add_sub_cancel_left, List.getElem?_append_left hp]
    rw [List.getElem?_eq_getElem hc, List.getElem?_eq_getElem hp] at this
    simpa using this
  rw [hget] at hx
  have hset : (fileL 0 ls).set ((fileL 0 (ls.take n)).length + p) x = fileL 0 (ls.take n) ++ ((frm ls[n] n).set p x ++ fileL (n + 1) (ls.drop (n + 1))) := by
    rw [hsplit, List.set_append_right _ _ (by omega), Nat.add_sub_cancel_left, List.set_append_left _ _ hp]
  rw [hset]
  obtain ⟨k', rfl⟩ : ∃ k', k = k' + 1 + (ls.take n).length := ⟨k - n - 1, by rw [hl]; omega⟩
  conv => rhs; rw [← List.append_nil (ls.take n)]
  refine Rd.app _ (fun l h => hs l (List.mem_of_mem_take h)) ?_
  rw [hl, Nat.zero_add]
  exact .stop fun l' ⟨q1, q2⟩ => frm_bad (hs _ (List.getElem_mem _)) q1 hp hx q2
theorem Rd.place {ls : List (List UInt8)} {k : Nat} {l b : List UInt8} (hs : ∀ l ∈ ls, l.length ≤ 200) (hk : ls.length < k) (hl : l.length ≤ 200) : Rd k 0 (fileL 0 ls ++ (frm l (ls.length + 1) ++ b)) ls := by
  obtain ⟨k', rfl⟩ : ∃ k', k = k' + 1 + ls.length := ⟨k - ls.length - 1, by omega⟩
  have h := Rd.app (i := 0) (k := k' + 1) (b := frm l (ls.length + 1) ++ b) (r := []) ls hs (by rw [Nat.zero_add]; exact .stop (not_fits_idx hl))
  rwa [List.append_nil] at h
theorem Rd.all {ls : List (List UInt8)} {k : Nat} (hs : ∀ l ∈ ls, l.length ≤ 200) (hk : ls.length ≤ k) : Rd k 0 (fileL 0 ls) ls := by
  have h := Rd.cut (n := ls.length) (c := (fileL 0 ls).length) hs hk (Nat.le_refl _) (by simp) (fun h => absurd h (Nat.lt_irrefl _))
  simpa using h
end Go.Proofs.YtkpgggfibljflaaGreatDoor
