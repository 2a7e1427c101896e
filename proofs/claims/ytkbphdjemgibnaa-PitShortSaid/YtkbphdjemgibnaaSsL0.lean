/- The plain law. -/
import Derived.Test.YtkbphdjemgibnaaSsP0
import Derived.KernelRfl
set_option linter.all false
namespace Go.Proofs.Ytkbphdjemgibnaa
open Go Go.RowKit
theorem pwid {x : Int} (h0 : -9223372036854775808 ≤ x) (h1 : x ≤ 9223372036854775807) : IntKind.i64.wrap x = x := by
  simp [IntKind.wrap, IntKind.bits, IntKind.signed]; omega
def btw (x lo hi : Int) : Bool := decide (lo ≤ x) && decide (x ≤ hi)
theorem btw_true {x lo hi : Int} : btw x lo hi = true ↔ lo ≤ x ∧ x ≤ hi := by simp [btw]
theorem btw_false {x lo hi : Int} : btw x lo hi = false ↔ ¬ (lo ≤ x ∧ x ≤ hi) := by rw [← btw_true]; simp
theorem ref_In_eq (n : Nat) (x lo hi : Int) : ref_In n x lo hi = some (btw x lo hi) := by
  unfold ref_In btw
  rw [show decide (x ≥ lo) = decide (lo ≤ x) from rfl]
  cases decide (lo ≤ x) <;> rfl
theorem pit_within_eq (n : Nat) (x lo hi : Int) : pit_within n x lo hi = some (btw x lo hi) := by
  unfold pit_within btw
  cases decide (lo ≤ x) <;> rfl
theorem pit_minute_eq' (n : Nat) (x : Int) : pit_minute n x = some (btw x 0 1000000) := pit_minute_eq n x
def rightK (c : Card) : Bool := bif decide (c.kind.n < 2) then btw c.part 0 15 && c.sg == 0 else (c.part == 0 && (c.kind.n == 2 && btw c.sg 1 999 || c.kind.n == 3 && c.sg == 0))
def rightC (c : Card) : Bool := btw c.bus 0 99 && (btw c.number 1 999 && (btw c.minute 0 1000000 && rightK c))
theorem pit_Card_valid_eq (n : Nat) (c : Card) (hk : 0 ≤ c.kind.n ∧ c.kind.n ≤ 255) : pit_Card_valid n c = some (rightC c) := by
  unfold pit_Card_valid rightC
  simp only [pit_within_eq, pit_minute_eq', Option.bind_some]
  cases btw c.bus 0 99 with
  | false => rfl
  | true =>
  cases btw c.number 1 999 with
  | false => rfl
  | true =>
  cases btw c.minute 0 1000000 with
  | false => rfl
  | true =>
  simp only [cond_true, Bool.true_and, pit_kinds, Option.bind_some, pwid (show (-9223372036854775808 : Int) ≤ c.kind.n by omega) (by omega), List.length_cons, List.length_nil]
  by_cases h4 : c.kind.n < 4
  · have h5 : decide (c.kind.n < ((0 + 1 + 1 + 1 + 1 : Nat) : Int)) = true := by simp; omega
    rw [h5]
    have : c.kind.n = 0 ∨ c.kind.n = 1 ∨ c.kind.n = 2 ∨ c.kind.n = 3 := by omega
    simp only [cond_true, rightK]
    rcases this with h | h | h | h <;> rw [h] <;> simp [idx, pit_Card_parted, pit_Card_signing, pit_Card_bare, pit_within_eq] <;> (first | (cases btw c.part 0 15 <;> simp) | (cases hq : (c.part == 0) <;> rfl) | (cases hq : (c.part == 0) <;> simp_all))
  · have h5 : decide (c.kind.n < ((0 + 1 + 1 + 1 + 1 : Nat) : Int)) = false := by simp; omega
    rw [h5]
    have h1 : decide (c.kind.n < 2) = false := by simp; omega
    have h2 : (c.kind.n == 2) = false := by simp; omega
    have h3 : (c.kind.n == 3) = false := by simp; omega
    simp [rightK, h1, h2, h3]
theorem slices_IndexFunc_pit_Card_pit_Card_l1_eq (s : List Card) (f : Card → Option Bool) (g : Card → Bool) (hf : ∀ c ∈ s, f c = some (g c)) (hs : s.length ≤ 1000000) : ∀ (n i : Nat), s.length < n + i → i ≤ s.length →
    ∃ r, slices_IndexFunc_pit_Card_pit_Card_l1 n s f (i : Int) = some r ∧ (if (s.drop i).any g then ∃ k : Int, 0 ≤ k ∧ r = Ex.ret k else r = Ex.go ())
  | 0, i, h, hi => by omega
  | n + 1, i, h, hi => by
    rw [slices_IndexFunc_pit_Card_pit_Card_l1, pf_lt]
    by_cases hx : i < s.length
    · have hd : s.drop i = s[i] :: s.drop (i + 1) := List.drop_eq_getElem_cons hx
      simp only [hx, decide_true, cond_true, pf_idx _ _ hx, Option.bind_some, hf _ (List.getElem_mem hx)]
      rw [pf_w i (by omega), hd, List.any_cons]
      cases hv : g s[i] with
      | true => exact ⟨Ex.ret (i : Int), rfl, ⟨i, by omega, rfl⟩⟩
      | false =>
        obtain ⟨r, h1, h2⟩ := slices_IndexFunc_pit_Card_pit_Card_l1_eq s f g hf hs n (i + 1) (by omega) (by omega)
        exact ⟨r, h1, by rw [Bool.false_or]; exact h2⟩
    · have : i = s.length := by omega
      subst this
      exact ⟨Ex.go (), by simp, by simp⟩
theorem pit_all_pit_Card_eq (n : Nat) (l : List Card) (f : Card → Option Bool) (g : Card → Bool) (hf : ∀ c ∈ l, f c = some (g c)) (h : l.length < n) (hs : l.length ≤ 1000000) : pit_all_pit_Card n l f = some (l.all g) := by
  unfold pit_all_pit_Card slices_ContainsFunc_pit_Card_pit_Card slices_IndexFunc_pit_Card_pit_Card
  obtain ⟨r, h1, h2⟩ := slices_IndexFunc_pit_Card_pit_Card_l1_eq l (fun y0 => pit_all_pit_Card_1 n y0 f) (fun c => !g c) (fun c hc => by unfold pit_all_pit_Card_1; rw [hf c hc]; rfl) hs n 0 (by omega) (by omega)
  rw [show ((0 : Nat) : Int) = 0 from rfl] at h1
  rw [h1]
  simp only [List.drop_zero] at h2
  have hn : l.all g = !l.any fun c => !g c := by
    rw [List.not_any_eq_all_not]; simp
  rw [hn]
  split at h2
  · rename_i hm
    obtain ⟨k, hk, rfl⟩ := h2
    simp [Ex.bind, hm, hk]
  · rename_i hm
    subst h2
    simp [Ex.bind, hm]
theorem slices_IndexFunc_int_int_l1_eq (s : List Int) (f : Int → Option Bool) (g : Int → Bool) (hf : ∀ c ∈ s, f c = some (g c)) (hs : s.length ≤ 1000000) : ∀ (n i : Nat), s.length < n + i → i ≤ s.length →
    ∃ r, slices_IndexFunc_int_int_l1 n s f (i : Int) = some r ∧ (if (s.drop i).any g then ∃ k : Int, 0 ≤ k ∧ r = Ex.ret k else r = Ex.go ())
  | 0, i, h, hi => by omega
  | n + 1, i, h, hi => by
    rw [slices_IndexFunc_int_int_l1, pf_lt]
    by_cases hx : i < s.length
    · have hd : s.drop i = s[i] :: s.drop (i + 1) := List.drop_eq_getElem_cons hx
      simp only [hx, decide_true, cond_true, pf_idx _ _ hx, Option.bind_some, hf _ (List.getElem_mem hx)]
      rw [pf_w i (by omega), hd, List.any_cons]
      cases hv : g s[i] with
      | true => exact ⟨Ex.ret (i : Int), rfl, ⟨i, by omega, rfl⟩⟩
      | false =>
        obtain ⟨r, h1, h2⟩ := slices_IndexFunc_int_int_l1_eq s f g hf hs n (i + 1) (by omega) (by omega)
        exact ⟨r, h1, by rw [Bool.false_or]; exact h2⟩
    · have : i = s.length := by omega
      subst this
      exact ⟨Ex.go (), by simp, by simp⟩
theorem pit_all_int_eq (n : Nat) (l : List Int) (f : Int → Option Bool) (g : Int → Bool) (hf : ∀ c ∈ l, f c = some (g c)) (h : l.length < n) (hs : l.length ≤ 1000000) : pit_all_int n l f = some (l.all g) := by
  unfold pit_all_int slices_ContainsFunc_int_int slices_IndexFunc_int_int
  obtain ⟨r, h1, h2⟩ := slices_IndexFunc_int_int_l1_eq l (fun y0 => pit_all_int_1 n y0 f) (fun c => !g c) (fun c hc => by unfold pit_all_int_1; rw [hf c hc]; rfl) hs n 0 (by omega) (by omega)
  rw [show ((0 : Nat) : Int) = 0 from rfl] at h1
  rw [h1]
  simp only [List.drop_zero] at h2
  have hn : l.all g = !l.any fun c => !g c := by
    rw [List.not_any_eq_all_not]; simp
  rw [hn]
  split at h2
  · rename_i hm
    obtain ⟨k, hk, rfl⟩ := h2
    simp [Ex.bind, hm, hk]
  · rename_i hm
    subst h2
    simp [Ex.bind, hm]
theorem slices_IndexFunc_pit_Job_pit_Job_l1_eq (s : List Job) (f : Job → Option Bool) (g : Job → Bool) (hf : ∀ c ∈ s, f c = some (g c)) (hs : s.length ≤ 1000000) : ∀ (n i : Nat), s.length < n + i → i ≤ s.length →
    ∃ r, slices_IndexFunc_pit_Job_pit_Job_l1 n s f (i : Int) = some r ∧ (if (s.drop i).any g then ∃ k : Int, 0 ≤ k ∧ r = Ex.ret k else r = Ex.go ())
  | 0, i, h, hi => by omega
  | n + 1, i, h, hi => by
    rw [slices_IndexFunc_pit_Job_pit_Job_l1, pf_lt]
    by_cases hx : i < s.length
    · have hd : s.drop i = s[i] :: s.drop (i + 1) := List.drop_eq_getElem_cons hx
      simp only [hx, decide_true, cond_true, pf_idx _ _ hx, Option.bind_some, hf _ (List.getElem_mem hx)]
      rw [pf_w i (by omega), hd, List.any_cons]
      cases hv : g s[i] with
      | true => exact ⟨Ex.ret (i : Int), rfl, ⟨i, by omega, rfl⟩⟩
      | false =>
        obtain ⟨r, h1, h2⟩ := slices_IndexFunc_pit_Job_pit_Job_l1_eq s f g hf hs n (i + 1) (by omega) (by omega)
        exact ⟨r, h1, by rw [Bool.false_or]; exact h2⟩
    · have : i = s.length := by omega
      subst this
      exact ⟨Ex.go (), by simp, by simp⟩
theorem pit_all_pit_Job_eq (n : Nat) (l : List Job) (f : Job → Option Bool) (g : Job → Bool) (hf : ∀ c ∈ l, f c = some (g c)) (h : l.length < n) (hs : l.length ≤ 1000000) : pit_all_pit_Job n l f = some (l.all g) := by
  unfold pit_all_pit_Job slices_ContainsFunc_pit_Job_pit_Job slices_IndexFunc_pit_Job_pit_Job
  obtain ⟨r, h1, h2⟩ := slices_IndexFunc_pit_Job_pit_Job_l1_eq l (fun y0 => pit_all_pit_Job_1 n y0 f) (fun c => !g c) (fun c hc => by unfold pit_all_pit_Job_1; rw [hf c hc]; rfl) hs n 0 (by omega) (by omega)
  rw [show ((0 : Nat) : Int) = 0 from rfl] at h1
  rw [h1]
  simp only [List.drop_zero] at h2
  have hn : l.all g = !l.any fun c => !g c := by
    rw [List.not_any_eq_all_not]; simp
  rw [hn]
  split at h2
  · rename_i hm
    obtain ⟨k, hk, rfl⟩ := h2
    simp [Ex.bind, hm, hk]
  · rename_i hm
    subst h2
    simp [Ex.bind, hm]
theorem law_list_eq (n : Nat) (l : List Int) (h : l.length ≤ 1000000) : law_list n l = some l := by
  unfold law_list
  rw [pf_app _ _ (by simp; omega)]
  rfl
end Go.Proofs.Ytkbphdjemgibnaa
namespace Go.Proofs.Ytkbphdjemgibnaa
open Go Go.RowKit
theorem cardEq (a b : Card) : ((a.bus == b.bus) && ((a.number == b.number) && ((a.minute == b.minute) && ((a.kind.n == b.kind.n) && ((a.part == b.part) && ((a.sg == b.sg) && true)))))) = decide (a = b) := by
  rcases a with ⟨a1, a2, a3, ⟨a4⟩, a5, a6⟩
  rcases b with ⟨b1, b2, b3, ⟨b4⟩, b5, b6⟩
  rw [Bool.eq_iff_iff]
  simp
def bad (a b : Card) : Bool := a.number == b.number && !decide (a = b)
theorem bad_iff {a b : Card} : bad a b = true ↔ a.number = b.number ∧ a ≠ b := by simp [bad]
def clash (l : List Card) : Bool := l.any fun a => l.any fun b => bad a b
theorem clash_iff {l : List Card} : clash l = true ↔ ∃ a ∈ l, ∃ b ∈ l, a.number = b.number ∧ a ≠ b := by
  simp only [clash, List.any_eq_true, bad_iff]
def faultL (l : List Card) : Int := if l.length > 40 then 3 else if l.all rightC then (if clash l then 6 else 0) else 1
theorem faultL_zero {l : List Card} : faultL l = 0 ↔ l.length ≤ 40 ∧ (∀ c ∈ l, rightC c = true) ∧ ∀ a ∈ l, ∀ b ∈ l, a.number = b.number → a = b := by
  unfold faultL
  split
  · constructor
    · intro h; cases h
    · intro ⟨h, _⟩; omega
  · rename_i h1
    split
    · rename_i h2
      split
      · rename_i h3
        obtain ⟨a, ha, b, hb, h4, h5⟩ := clash_iff.1 h3
        constructor
        · intro h; cases h
        · intro ⟨_, _, h⟩; exact absurd (h a ha b hb h4) h5
      · rename_i h3
        refine ⟨fun _ => ⟨by omega, List.all_eq_true.1 h2, fun a ha b hb h4 => Decidable.byContradiction fun h5 => h3 (clash_iff.2 ⟨a, ha, b, hb, h4, h5⟩)⟩, fun _ => rfl⟩
    · rename_i h2
      constructor
      · intro h; cases h
      · intro ⟨_, h, _⟩; exact absurd (List.all_eq_true.2 h) h2
theorem look?_mem {k : Int} {x : Card} {m : List (Int × Card)} (hn : (m.map (·.1)).Nodup) (h : (k, x) ∈ m) : look? m k = some x := by
  obtain ⟨j, hj⟩ := List.mem_iff_getElem?.1 h
  exact look?_at hn hj
theorem look?_some : ∀ {m : List (Int × Card)} {k : Int} {x : Card}, look? m k = some x → (k, x) ∈ m
  | [], k, x, h => by cases h
  | p :: r, k, x, h => by
    unfold look? at h
    split at h
    · rename_i hp
      cases h
      rw [← hp]; exact List.mem_cons_self ..
    · exact List.mem_cons_of_mem _ (look?_some h)
theorem look?_no {m : List (Int × Card)} {k : Int} (h : look? m k = none) (hn : (m.map (·.1)).Nodup) : ∀ p ∈ m, p.1 ≠ k := fun p hp e => by
  have := look?_mem hn (show (k, p.2) ∈ m from e ▸ hp)
  rw [h] at this; cases this
structure Inv (l : List Card) (i : Nat) (nums : List Int) (m : List (Int × Card)) : Prop where
  keys : m.map (·.1) = nums
  nd : nums.Nodup
  from_ : ∀ p ∈ m, p.2 ∈ l.take i ∧ p.2.number = p.1
  all : ∀ c ∈ l.take i, (c.number, c) ∈ m
  len : nums.length ≤ i
theorem take_succ' {l : List Card} {i : Nat} (h : i < l.length) {c : Card} : c ∈ l.take (i + 1) ↔ c ∈ l.take i ∨ c = l[i] := by
  rw [List.take_succ_eq_append_getElem h, List.mem_append, List.mem_singleton]
theorem pit_read_l1_eq (l : List Card) (hs : l.length ≤ 1000000) : ∀ (n i : Nat) (nums : List Int) (m : List (Int × Card)), l.length < n + i → i ≤ l.length → Inv l i nums m →
    ∃ r, pit_read_l1 n l nums (i : Int) m = some r ∧ ((r = Ex.ret (none, 6) ∧ clash l = true) ∨ (∃ nums' m', r = Ex.go (nums', m') ∧ Inv l l.length nums' m'))
  | 0, i, nums, m, h, hi, _ => by omega
  | n + 1, i, nums, m, h, hi, I => by
    rw [pit_read_l1, pf_lt]
    by_cases hx : i < l.length
    · simp only [hx, decide_true, cond_true, pf_idx _ _ hx, Option.bind_some, pit_cards_card, cardEq]
      rw [pf_w i (by omega)]
      have hn : (m.map (·.1)).Nodup := by rw [I.keys]; exact I.nd
      cases hl : look? m l[i].number with
      | some o =>
        have hL : lookD m l[i].number (Card.mk 0 0 0 (IK.mk 0) 0 0) = (o, true) := by unfold lookD; rw [hl]
        simp only [hL, cond_true, Option.bind_some]
        have ho := I.from_ _ (look?_some hl)
        by_cases he : o = l[i]
        · simp only [he, decide_true, Bool.not_true, cond_false]
          refine pit_read_l1_eq l hs n (i + 1) nums m (by omega) (by omega) ⟨I.keys, I.nd, fun p hp => ⟨(take_succ' hx).2 (Or.inl (I.from_ p hp).1), (I.from_ p hp).2⟩, fun c hc => ?_, by have := I.len; omega⟩
          rcases (take_succ' hx).1 hc with hc | rfl
          · exact I.all c hc
          · have := look?_some hl; rw [he] at this; exact this
        · simp only [he, decide_false, Bool.not_false, cond_true]
          exact ⟨_, rfl, Or.inl ⟨rfl, clash_iff.2 ⟨o, List.mem_of_mem_take ho.1, _, List.getElem_mem hx, ho.2, he⟩⟩⟩
      | none =>
        have hL : (lookD m l[i].number (Card.mk 0 0 0 (IK.mk 0) 0 0)).2 = false := by unfold lookD; rw [hl]
        simp only [hL, cond_false, Option.bind_some, Bool.not_false, cond_true]
        have hno := look?_no hl hn
        have hlen := I.len
        rw [pf_app _ _ (by simp; omega), put?_none hno]
        simp only [Option.bind_some]
        refine pit_read_l1_eq l hs n (i + 1) _ _ (by omega) (by omega) ⟨by rw [List.map_append, I.keys]; rfl, ?_, fun p hp => ?_, fun c hc => ?_, by simp; omega⟩
        · refine List.nodup_append.2 ⟨I.nd, by simp, ?_⟩
          intro a ha b hb
          rw [List.mem_singleton] at hb
          subst hb
          rw [← I.keys] at ha
          obtain ⟨p, hp, rfl⟩ := List.mem_map.1 ha
          exact hno p hp
        · rcases List.mem_append.1 hp with hp | hp
          · exact ⟨(take_succ' hx).2 (Or.inl (I.from_ p hp).1), (I.from_ p hp).2⟩
          · rw [List.mem_singleton] at hp
            subst hp
            exact ⟨(take_succ' hx).2 (Or.inr rfl), rfl⟩
        · rcases (take_succ' hx).1 hc with hc | rfl
          · exact List.mem_append_left _ (I.all c hc)
          · exact List.mem_append_right _ (by simp)
    · have : i = l.length := by omega
      subst this
      exact ⟨_, by simp, Or.inr ⟨nums, m, rfl, I⟩⟩
structure Good (l : List Card) (b : Bx Book) : Prop where
  sorted : b.v.numbers.Pairwise (· < ·)
  nums : ∀ k, k ∈ b.v.numbers ↔ ∃ c ∈ l, c.number = k
  mem : ∀ p, p ∈ b.v.cards.l ↔ p.2 ∈ l ∧ p.2.number = p.1
  look : ∀ c ∈ l, look? b.v.cards.l c.number = some c
  no : ∀ k, (∀ c ∈ l, c.number ≠ k) → look? b.v.cards.l k = none
  len1 : b.v.numbers.length ≤ l.length
  len2 : b.v.cards.l.length ≤ l.length
theorem sortI_mem {l : List Int} {x : Int} : x ∈ sortI l ↔ x ∈ l := List.mem_mergeSort
theorem sortI_le (l : List Int) : (sortI l).Pairwise (· ≤ ·) := by
  have := List.pairwise_mergeSort (le := fun x y : Int => decide (x ≤ y)) (by intro a b c; simp; omega) (by intro a b; simp; omega) l
  exact this.imp fun h => by simpa using h
theorem sortI_nodup {l : List Int} (h : l.Nodup) : (sortI l).Nodup := (List.mergeSort_perm l _).nodup_iff.2 h
theorem lt_of_le_nodup {l : List Int} (h1 : l.Pairwise (· ≤ ·)) (h2 : l.Nodup) : l.Pairwise (· < ·) :=
  List.Pairwise.imp₂ (fun _ _ h h' => by omega) h1 h2
theorem good_of {l : List Card} {nums : List Int} {m : List (Int × Card)} (I : Inv l l.length nums m) : Good l ⟨⟨⟨m⟩, sortI nums⟩⟩ := by
  have hn : (m.map (·.1)).Nodup := by rw [I.keys]; exact I.nd
  have hf := I.from_
  have ha := I.all
  rw [List.take_length] at hf ha
  have hm : ∀ p, p ∈ m ↔ p.2 ∈ l ∧ p.2.number = p.1 := fun p => ⟨fun hp => hf p hp, fun ⟨h1, h2⟩ => by
    have := ha p.2 h1
    rw [h2] at this; exact this⟩
  refine ⟨lt_of_le_nodup (sortI_le _) (sortI_nodup I.nd), fun k => ?_, hm, fun c hc => look?_mem hn (ha c hc), fun k hk => ?_, ?_, ?_⟩
  · show k ∈ sortI nums ↔ _
    rw [sortI_mem, ← I.keys, List.mem_map]
    constructor
    · rintro ⟨p, hp, rfl⟩
      exact ⟨p.2, (hm p).1 hp |>.1, ((hm p).1 hp).2⟩
    · rintro ⟨c, hc, rfl⟩
      exact ⟨_, ha c hc, rfl⟩
  · refine look?_none fun p hp e => ?_
    have := (hm p).1 hp
    exact hk _ this.1 (this.2.trans e)
  · show (sortI nums).length ≤ _
    rw [sortI_len]; exact I.len
  · show m.length ≤ _
    have := I.len
    rw [← I.keys, List.length_map] at this; exact this
theorem pit_read_eq (n : Nat) (l : List Card) (h : 81 < n) (hk : ∀ c ∈ l, 0 ≤ c.kind.n ∧ c.kind.n ≤ 255) :
    (faultL l ≠ 0 ∧ pit_read n l = some (none, faultL l)) ∨ (faultL l = 0 ∧ ∃ b, pit_read n l = some (some b, 0) ∧ Good l b) := by
  unfold pit_read faultL
  by_cases hl : l.length > 40
  · have : decide (((l.length : Nat) : Int) > 40) = true := by simp; omega
    rw [this, if_pos hl]
    exact Or.inl ⟨by decide, rfl⟩
  · have : decide (((l.length : Nat) : Int) > 40) = false := by simp; omega
    rw [this, if_neg hl, cond_false, pit_all_pit_Card_eq n l _ rightC (fun c hc => pit_Card_valid_eq n c (hk c hc)) (by omega) (by omega)]
    cases ha : l.all rightC with
    | false => exact Or.inl ⟨by simp, rfl⟩
    | true =>
      obtain ⟨r, h1, h2⟩ := pit_read_l1_eq l (by omega) n 0 [] [] (by omega) (by omega) ⟨rfl, List.nodup_nil, fun p hp => by simp at hp, fun c hc => by simp at hc, by simp⟩
      rw [show ((0 : Nat) : Int) = 0 from rfl] at h1
      simp only [if_true, Option.bind_some, Bool.not_true, cond_false, h1]
      rcases h2 with ⟨rfl, h3⟩ | ⟨nums, m, rfl, I⟩
      · refine Or.inl ?_
        simp [h3, Ex.bind]
      · refine Or.inr ?_
        have hc : ¬ clash l = true := fun hc => by
          obtain ⟨a, ha, b, hb, h4, h5⟩ := clash_iff.1 hc
          have G := good_of I
          have h6 := G.look a ha
          have h7 := G.look b hb
          rw [h4, h7] at h6
          exact h5 (Option.some.inj h6).symm
        refine ⟨by simp [hc], _, ?_, good_of I⟩
        have hlen := I.len
        have : sortO nums = some (sortI nums) := by unfold sortO; rw [if_pos (by omega)]
        simp [Ex.bind, this]
end Go.Proofs.Ytkbphdjemgibnaa
namespace Go.Proofs.Ytkbphdjemgibnaa
open Go Go.RowKit
def upTo (a b : Nat) : List Int := (List.range' a (b - a)).map fun i : Nat => (i : Int)
theorem mem_upTo {a b : Nat} {x : Int} : x ∈ upTo a b ↔ (a : Int) ≤ x ∧ x < (b : Int) := by
  unfold upTo
  simp only [List.mem_map, List.mem_range'_1]
  constructor
  · rintro ⟨i, h, rfl⟩; omega
  · intro h; exact ⟨x.toNat, by omega, by omega⟩
theorem upTo_sorted (a b : Nat) : (upTo a b).Pairwise (· < ·) := by
  unfold upTo
  rw [List.pairwise_map]
  exact (List.pairwise_lt_range' (s := a) (n := b - a)).imp fun h => by omega
theorem sorted_ext : ∀ {l l' : List Int}, l.Pairwise (· < ·) → l'.Pairwise (· < ·) → (∀ x, x ∈ l ↔ x ∈ l') → l = l' := fun {l l'} h1 h2 h =>
  List.Perm.eq_of_pairwise (fun a b _ _ h3 h4 => by omega) h1 h2 (pf_perm (h1.imp fun h => by omega) (h2.imp fun h => by omega) h)
def dfct (c : Card) : Bool := decide (c.kind.n < 2)
theorem defectC_eq {c : Card} (hk : 0 ≤ c.kind.n) : defectC c = dfct c := by
  unfold defectC dfct
  rw [Bool.eq_iff_iff]
  simp; omega
def openC (l : List Card) (d : Card) (m : Int) : Bool := !decide (d.minute > m) && l.all fun c => !(decide (c.minute ≤ m) && mendB c d)
theorem openB_eq {l : List Card} {b : Bx Book} (G : Good l b) (d : Card) (m : Int) : openB b d m = openC l d m := by
  unfold openB openC
  congr 1
  rw [Bool.eq_iff_iff, List.all_eq_true, List.all_eq_true]
  constructor
  · intro h c hc
    exact h (c.number, c) ((G.mem _).2 ⟨hc, rfl⟩)
  · intro h p hp
    exact h _ ((G.mem p).1 hp).1
def isOpen (l : List Card) (bus m k : Int) (c : Card) : Bool := c.number == k && (c.bus == bus && (dfct c && openC l c m))
def opensC (l : List Card) (bus m : Int) : List Int := (upTo 1 1000).filter fun k => l.any (isOpen l bus m k)
theorem right_range {c : Card} (h : rightC c = true) : 0 ≤ c.bus ∧ c.bus ≤ 99 ∧ 1 ≤ c.number ∧ c.number ≤ 999 ∧ 0 ≤ c.minute ∧ c.minute ≤ 1000000 := by
  simp only [rightC, Bool.and_eq_true, btw_true] at h
  omega
theorem mem_opensC {l : List Card} {bus m x : Int} (hf : faultL l = 0) : x ∈ opensC l bus m ↔ ∃ c ∈ l, c.number = x ∧ c.bus = bus ∧ dfct c = true ∧ openC l c m = true := by
  unfold opensC isOpen
  simp only [List.mem_filter, mem_upTo, List.any_eq_true, Bool.and_eq_true, beq_iff_eq]
  constructor
  · rintro ⟨_, c, hc, h⟩; exact ⟨c, hc, h⟩
  · rintro ⟨c, hc, rfl, h⟩
    have := right_range ((faultL_zero.1 hf).2.1 c hc)
    exact ⟨by omega, c, hc, rfl, h⟩
theorem opensC_sorted (l : List Card) (bus m : Int) : (opensC l bus m).Pairwise (· < ·) := (upTo_sorted 1 1000).sublist List.filter_sublist
theorem bookAt_eq {l : List Card} {b : Bx Book} (G : Good l b) {c : Card} (hc : c ∈ l) : bookAt b c.number = c := by
  unfold bookAt lookD; rw [G.look c hc]
theorem opensOf_eq {b : Bx Book} {bus m : Int} : ∀ {ks : List Int}, (∀ k ∈ ks, (bookAt b k).number = k) → opensOf b bus m ks = ks.filter fun k => (bookAt b k).bus == bus && (defectC (bookAt b k) && openB b (bookAt b k) m)
  | [], _ => rfl
  | k :: ks, h => by
    have IH := opensOf_eq (b := b) (bus := bus) (m := m) (ks := ks) fun k hk => h k (List.mem_cons_of_mem _ hk)
    unfold opensOf at *
    rw [List.map_cons, List.filter_cons, List.filter_cons]
    split
    · rw [List.map_cons, IH, h k (List.mem_cons_self ..)]
    · exact IH
theorem opensB_eq {l : List Card} {b : Bx Book} (G : Good l b) (hf : faultL l = 0) (hk : ∀ c ∈ l, 0 ≤ c.kind.n ∧ c.kind.n ≤ 255) (bus m : Int) : opensB b bus m = opensC l bus m := by
  have hn : ∀ k ∈ b.v.numbers, (bookAt b k).number = k := fun k hk => by
    obtain ⟨c, hc, rfl⟩ := (G.nums k).1 hk
    rw [bookAt_eq G hc]
  unfold opensB
  rw [opensOf_eq hn]
  refine sorted_ext (G.sorted.sublist List.filter_sublist) (opensC_sorted l bus m) fun x => ?_
  rw [mem_opensC hf, List.mem_filter, G.nums]
  simp only [Bool.and_eq_true, beq_iff_eq]
  constructor
  · rintro ⟨⟨c, hc, rfl⟩, h1, h2, h3⟩
    rw [bookAt_eq G hc] at h1 h2 h3
    rw [defectC_eq (hk c hc).1] at h2
    rw [openB_eq G] at h3
    exact ⟨c, hc, rfl, h1, h2, h3⟩
  · rintro ⟨c, hc, rfl, h1, h2, h3⟩
    rw [bookAt_eq G hc, defectC_eq (hk c hc).1, openB_eq G]
    exact ⟨⟨c, hc, rfl⟩, h1, h2, h3⟩
theorem pit_Open_eq (n : Nat) (l : List Card) (bus m : Int) (h : 100 ≤ n) (hk : ∀ c ∈ l, 0 ≤ c.kind.n ∧ c.kind.n ≤ 255) :
    pit_Open n l bus m = some (if faultL l = 0 then (if btw bus 0 99 && btw m 0 1000000 then (opensC l bus m, 0) else ([], 2)) else ([], faultL l)) := by
  unfold pit_Open
  rcases pit_read_eq n l (by omega) hk with ⟨h0, hr⟩ | ⟨h0, b, hr, G⟩
  · rw [hr, if_neg h0]
    simp only [Option.bind_some, ptrCase_none]
    rw [show (faultL l != 0) = true by simp [h0]]; rfl
  · rw [hr, if_pos h0]
    have h40 := (faultL_zero.1 h0).1
    have h1 := G.len1
    have h2 := G.len2
    simp only [Option.bind_some, ptrCase_some, pit_within_eq, pit_minute_eq', pit_book_opens_eq n b bus m (by omega) (by omega) (by omega), opensB_eq G h0 hk]
    cases btw bus 0 99 <;> cases btw m 0 1000000 <;> rfl
def fits (l : List Card) (m b : Int) (c : Card) : Bool := !(c.bus == b) || !(dfct c && openC l c m)
def fitC (l : List Card) (m : Int) : List Int := (upTo 0 100).filter fun b => l.any (fun c => c.bus == b) && l.all (fits l m b)
theorem mem_fitC {l : List Card} {m b : Int} (hf : faultL l = 0) : b ∈ fitC l m ↔ (∃ c ∈ l, c.bus = b) ∧ ∀ c ∈ l, c.bus = b → dfct c = true → openC l c m = false := by
  unfold fitC fits
  simp only [List.mem_filter, mem_upTo, List.any_eq_true, List.all_eq_true, Bool.and_eq_true, beq_iff_eq]
  constructor
  · rintro ⟨_, h1, h2⟩
    refine ⟨h1, fun c hc h3 h4 => ?_⟩
    have := h2 c hc
    rw [h4] at this
    simpa [h3] using this
  · rintro ⟨⟨c, hc, rfl⟩, h2⟩
    have := right_range ((faultL_zero.1 hf).2.1 c hc)
    refine ⟨by omega, ⟨c, hc, rfl⟩, fun d hd => ?_⟩
    cases h3 : d.bus == c.bus with
    | false => rfl
    | true =>
      cases h4 : dfct d with
      | false => rfl
      | true => rw [h2 d hd (by simpa using h3) h4]; rfl
theorem fitC_sorted (l : List Card) (m : Int) : (fitC l m).Pairwise (· < ·) := (upTo_sorted 0 100).sublist List.filter_sublist
theorem mem_fitC' {l : List Card} {m b : Int} (hf : faultL l = 0) : b ∈ fitC l m ↔ (∃ c ∈ l, c.bus = b) ∧ opensC l b m = [] := by
  rw [mem_fitC hf]
  refine and_congr_right fun _ => ?_
  constructor
  · intro h
    refine List.eq_nil_iff_forall_not_mem.2 fun x hx => ?_
    obtain ⟨c, hc, _, h2, h3, h4⟩ := (mem_opensC hf).1 hx
    rw [h c hc h2 h3] at h4; cases h4
  · intro h c hc h2 h3
    cases h4 : openC l c m with
    | false => rfl
    | true =>
      have : c.number ∈ opensC l b m := (mem_opensC hf).2 ⟨c, hc, rfl, h2, h3, h4⟩
      rw [h] at this; cases this
theorem fitB_eq {l : List Card} {b : Bx Book} (G : Good l b) (hf : faultL l = 0) (hk : ∀ c ∈ l, 0 ≤ c.kind.n ∧ c.kind.n ≤ 255) (m : Int) : fitB b m = fitC l m := by
  unfold fitB
  refine sorted_ext (lt_of_le_nodup (sortI_le _) (sortI_nodup ((nodup_ddup _).filter _))) (fitC_sorted l m) fun x => ?_
  rw [mem_fitC' hf, sortI_mem, List.mem_filter, mem_ddup, List.mem_map, opensB_eq G hf hk, List.isEmpty_iff]
  refine and_congr_left fun _ => ?_
  constructor
  · rintro ⟨p, hp, rfl⟩; exact ⟨_, ((G.mem p).1 hp).1, rfl⟩
  · rintro ⟨c, hc, rfl⟩; exact ⟨(c.number, c), (G.mem _).2 ⟨hc, rfl⟩, rfl⟩
theorem pit_Fit_eq (n : Nat) (l : List Card) (m : Int) (h : 200 ≤ n) (hk : ∀ c ∈ l, 0 ≤ c.kind.n ∧ c.kind.n ≤ 255) :
    pit_FitL n l m = some (if faultL l = 0 then (if btw m 0 1000000 then (fitC l m, 0) else ([], 2)) else ([], faultL l)) := by
  unfold pit_FitL
  rcases pit_read_eq n l (by omega) hk with ⟨h0, hr⟩ | ⟨h0, b, hr, G⟩
  · rw [hr, if_neg h0]
    simp only [Option.bind_some, ne_eq, h0, not_false_eq_true, if_true]
  · rw [hr, if_pos h0]
    have h40 := (faultL_zero.1 h0).1
    have h1 := G.len1
    have h2 := G.len2
    simp only [Option.bind_some, ne_eq, not_true_eq_false, if_false, fitB_eq G h0 hk]
    rw [if_pos (show b.v.numbers.length + b.v.cards.l.length + b.v.cards.l.length + 2 < n ∧ b.v.numbers.length ≤ 1000 ∧ b.v.cards.l.length ≤ 1000 by omega)]
    by_cases hm : 0 ≤ m ∧ m ≤ 1000000
    · rw [if_neg (by simpa using hm), if_pos (btw_true.2 hm)]
    · rw [if_pos hm, if_neg (by rw [btw_true]; exact hm)]
end Go.Proofs.Ytkbphdjemgibnaa
namespace Go.Proofs.Ytkbphdjemgibnaa
open Go Go.RowKit
def boardL : List Card := [(Card.mk 7 1 100 (IK.mk 0) 3 0), (Card.mk 7 2 120 (IK.mk 1) 4 0), (Card.mk 7 3 200 (IK.mk 2) 0 1), (Card.mk 7 4 300 (IK.mk 3) 0 0), (Card.mk 8 5 150 (IK.mk 0) 1 0), (Card.mk 8 6 400 (IK.mk 2) 0 1), (Card.mk 7 7 310 (IK.mk 0) 5 0)]
theorem boardL_in : ∀ c ∈ boardL, 0 ≤ c.kind.n ∧ c.kind.n ≤ 255 := by decide
theorem boardL_ok : faultL boardL = 0 := by kernel_rfl
theorem wakesA : pit_Open 1300 boardL 7 250 = some ([2], 0) := by
  rw [pit_Open_eq _ _ _ _ (by decide) boardL_in, if_pos boardL_ok]; kernel_rfl
theorem wakesB : pit_FitL 1300 boardL 130 = some ([8], 0) := by
  rw [pit_Fit_eq _ _ _ (by decide) boardL_in, if_pos boardL_ok]; kernel_rfl
set_option maxRecDepth 100000 in
theorem wakes1300 : law_wakes 1300 = some true := by
  have e : law_board 1300 = some boardL := rfl
  unfold law_wakes
  rw [e]
  rw [Option.bind_some, wakesA, Option.bind_some, Option.bind_some, wakesB, Option.bind_some]
  show _ = some true
  kernel_rfl
end Go.Proofs.Ytkbphdjemgibnaa
namespace Go.Proofs.Ytkbphdjemgibnaa
open Go Go.RowKit
theorem pit_later_eq (n : Nat) (a b : Int) (h : 3 ≤ n) : pit_later n [a, b] = some (if b > a then b else a) := by
  obtain ⟨k, rfl⟩ : ∃ k, n = k + 3 := ⟨n - 3, by omega⟩
  simp [pit_later, slices_Max_int_int, slices_Max_int_int_l1, idx, show IntKind.i64.wrap 2 = 2 by decide]
end Go.Proofs.Ytkbphdjemgibnaa
namespace Go.Proofs.Ytkbphdjemgibnaa
open Go Go.RowKit
end Go.Proofs.Ytkbphdjemgibnaa
namespace Go.Proofs.Ytkbphdjemgibnaa
open Go Go.RowKit
theorem chk_loop {ρ : Type} (f : Nat → Int → Option (Ex ρ Unit)) (L M : Nat) (hL : L ≤ 1000000) (hf : ∀ n (i : Nat), i < L → M ≤ n → f (n + 1) (i : Int) = f n (IntKind.i64.wrap ((i : Int) + 1))) (he : ∀ n, f (n + 1) (L : Int) = some (Ex.go ())) :
    ∀ n (i : Nat), L + M < n + i → i ≤ L → f n (i : Int) = some (Ex.go ())
  | 0, i, h, hi => by omega
  | n + 1, i, h, hi => by
    by_cases hx : i < L
    · rw [hf n i hx (by omega), pf_w i (by omega)]
      exact chk_loop f L M hL hf he n (i + 1) (by omega) (by omega)
    · obtain rfl : i = L := by omega
      exact he n
theorem chk_loop0 {ρ : Type} {f : Nat → Int → Option (Ex ρ Unit)} (L M : Nat) (hL : L ≤ 1000000) (n : Nat) (h : L + M < n) (hf : ∀ n (i : Nat), i < L → M ≤ n → f (n + 1) (i : Int) = f n (IntKind.i64.wrap ((i : Int) + 1))) (he : ∀ n, f (n + 1) (L : Int) = some (Ex.go ())) :
    f n 0 = some (Ex.go ()) := by
  have := chk_loop f L M hL hf he n 0 (by omega) (by omega)
  rwa [show ((0 : Nat) : Int) = 0 from rfl] at this
end Go.Proofs.Ytkbphdjemgibnaa
namespace Go.Proofs.Ytkbphdjemgibnaa
open Go Go.RowKit
end Go.Proofs.Ytkbphdjemgibnaa
namespace Go.Proofs.Ytkbphdjemgibnaa
open Go Go.RowKit
def jobR (j : Job) : Bool := btw j.due 0 14 && (btw j.work 1 20 && btw j.cost 0 1000)
def shopF (s : Shop) : Int := if s.buses.length > 8 then 3 else if (1 ≤ s.days ∧ s.days ≤ 14) ∧ (s.pits.length : Int) = s.days ∧ (∀ x ∈ s.pits, 0 ≤ x ∧ x ≤ 160) ∧ (∀ j ∈ s.buses, jobR j = true) then 0 else 1
structure Sho (s : Shop) : Prop where
  b : s.buses.length ≤ 8
  d : 1 ≤ s.days ∧ s.days ≤ 14
  p : (s.pits.length : Int) = s.days
  h : ∀ x ∈ s.pits, 0 ≤ x ∧ x ≤ 160
  j : ∀ j ∈ s.buses, (0 ≤ j.due ∧ j.due ≤ 14) ∧ (1 ≤ j.work ∧ j.work ≤ 20) ∧ 0 ≤ j.cost ∧ j.cost ≤ 1000
theorem jobR_true {j : Job} : jobR j = true ↔ (0 ≤ j.due ∧ j.due ≤ 14) ∧ (1 ≤ j.work ∧ j.work ≤ 20) ∧ 0 ≤ j.cost ∧ j.cost ≤ 1000 := by
  simp only [jobR, Bool.and_eq_true, btw_true]
theorem shopF_zero {s : Shop} : shopF s = 0 ↔ Sho s := by
  unfold shopF
  split
  · exact ⟨fun h => (by cases h), fun h => absurd h.b (by omega)⟩
  · rename_i hb
    split
    · rename_i h
      exact ⟨fun _ => ⟨by omega, h.1, h.2.1, h.2.2.1, fun j hj => jobR_true.1 (h.2.2.2 j hj)⟩, fun _ => rfl⟩
    · rename_i h
      exact ⟨fun h' => (by cases h'), fun S => absurd ⟨S.d, S.p, S.h, fun j hj => jobR_true.2 (S.j j hj)⟩ h⟩
theorem ref_ShopFault_l1_eq (s : Shop) (hs : s.pits.length ≤ 1000000) : ∀ (n i : Nat), s.pits.length < n + i → i ≤ s.pits.length → ref_ShopFault_l1 n s (i : Int) = some (if (s.pits.drop i).all (fun x => btw x 0 160) then Ex.go () else Ex.ret 1)
  | 0, i, h, hi => by omega
  | n + 1, i, h, hi => by
    rw [ref_ShopFault_l1, pf_lt]
    by_cases hx : i < s.pits.length
    · have hd : s.pits.drop i = s.pits[i] :: s.pits.drop (i + 1) := List.drop_eq_getElem_cons hx
      simp only [hx, decide_true, cond_true, pf_idx _ _ hx, Option.bind_some, ref_In_eq]
      rw [pf_w i (by omega), ref_ShopFault_l1_eq s hs n (i + 1) (by omega) (by omega), hd, List.all_cons]
      cases btw s.pits[i] 0 160 <;> simp
    · obtain rfl : i = s.pits.length := by omega
      simp
theorem ref_ShopFault_l2_eq (s : Shop) (hs : s.buses.length ≤ 1000000) : ∀ (n i : Nat), s.buses.length < n + i → i ≤ s.buses.length → ref_ShopFault_l2 n s (i : Int) = some (if (s.buses.drop i).all jobR then Ex.go () else Ex.ret 1)
  | 0, i, h, hi => by omega
  | n + 1, i, h, hi => by
    rw [ref_ShopFault_l2, pf_lt]
    by_cases hx : i < s.buses.length
    · have hd : s.buses.drop i = s.buses[i] :: s.buses.drop (i + 1) := List.drop_eq_getElem_cons hx
      simp only [hx, decide_true, cond_true, pf_idx _ _ hx, Option.bind_some, ref_In_eq]
      rw [pf_w i (by omega), ref_ShopFault_l2_eq s hs n (i + 1) (by omega) (by omega), hd, List.all_cons]
      unfold jobR
      cases btw s.buses[i].due 0 14 <;> cases btw s.buses[i].work 1 20 <;> cases btw s.buses[i].cost 0 1000 <;> simp
    · obtain rfl : i = s.buses.length := by omega
      simp
theorem all_btw {l : List Int} {a b : Int} : l.all (fun x => btw x a b) = true ↔ ∀ x ∈ l, a ≤ x ∧ x ≤ b := by simp only [List.all_eq_true, btw_true]
theorem ref_ShopFault_eq (n : Nat) (s : Shop) (h : 20 ≤ n) : ref_ShopFault n s = some (shopF s) := by
  unfold ref_ShopFault shopF
  by_cases hb : s.buses.length > 8
  · rw [show decide (((s.buses.length : Nat) : Int) > 8) = true by simp; omega, if_pos hb]; rfl
  · rw [show decide (((s.buses.length : Nat) : Int) > 8) = false by simp; omega, if_neg hb, cond_false, ref_In_eq, Option.bind_some]
    by_cases hd : 1 ≤ s.days ∧ s.days ≤ 14
    · rw [btw_true.2 hd]
      by_cases hp : (s.pits.length : Int) = s.days
      · have e : (((s.pits.length : Nat) : Int) != s.days) = false := by simp [hp]
        have h1 := ref_ShopFault_l1_eq s (by omega) n 0 (by omega) (by omega)
        have h2 := ref_ShopFault_l2_eq s (by omega) n 0 (by omega) (by omega)
        rw [show ((0 : Nat) : Int) = 0 from rfl, List.drop_zero] at h1 h2
        simp only [Bool.not_true, cond_false, e, Option.bind_some, h1, h2]
        cases q1 : s.pits.all (fun x => btw x 0 160) with
        | false =>
          rw [if_neg (c := (1 ≤ s.days ∧ s.days ≤ 14) ∧ _) (fun hh => by rw [all_btw.2 hh.2.2.1] at q1; cases q1)]; rfl
        | true =>
          cases q2 : s.buses.all jobR with
          | false =>
            rw [if_neg (c := (1 ≤ s.days ∧ s.days ≤ 14) ∧ _) (fun hh => by rw [List.all_eq_true.2 hh.2.2.2] at q2; cases q2)]; rfl
          | true =>
            rw [if_pos (c := (1 ≤ s.days ∧ s.days ≤ 14) ∧ _) ⟨hd, hp, all_btw.1 q1, List.all_eq_true.1 q2⟩]; rfl
      · have e : (((s.pits.length : Nat) : Int) != s.days) = true := by simp [hp]
        rw [if_neg (c := (1 ≤ s.days ∧ s.days ≤ 14) ∧ _) (fun hh => hp hh.2.1)]
        simp [e]
    · rw [btw_false.2 hd, if_neg (c := (1 ≤ s.days ∧ s.days ≤ 14) ∧ _) (fun hh => hd hh.1)]; rfl
theorem pit_Shop_check_1_eq (n : Nat) (x : Int) : pit_Shop_check_1 n x = some (btw x 0 160) := by
  unfold pit_Shop_check_1; rw [pit_within_eq]; rfl
theorem pit_Job_valid_eq (n : Nat) (j : Job) : pit_Job_valid n j = some (jobR j) := by
  unfold pit_Job_valid jobR
  simp only [pit_within_eq, Option.bind_some]
  cases btw j.due 0 14 <;> cases btw j.work 1 20 <;> rfl
theorem pit_Shop_check_eq (n : Nat) (s : Shop) (h : 20 ≤ n) : pit_Shop_check n s = some (shopF s) := by
  unfold pit_Shop_check shopF
  by_cases hb : s.buses.length > 8
  · rw [show decide (((s.buses.length : Nat) : Int) > 8) = true by simp; omega, if_pos hb]; rfl
  · rw [show decide (((s.buses.length : Nat) : Int) > 8) = false by simp; omega, if_neg hb, cond_false, pit_within_eq, Option.bind_some]
    by_cases hd : 1 ≤ s.days ∧ s.days ≤ 14
    · rw [btw_true.2 hd]
      by_cases hp : (s.pits.length : Int) = s.days
      · have e : (((s.pits.length : Nat) : Int) != s.days) = false := by simp [hp]
        simp only [Bool.not_true, cond_false, e, pit_all_int_eq n s.pits _ (fun x => btw x 0 160) (fun c _ => pit_Shop_check_1_eq n c) (by omega) (by omega), pit_all_pit_Job_eq n s.buses _ jobR (fun c _ => pit_Job_valid_eq n c) (by omega) (by omega), Option.bind_some]
        cases q1 : s.pits.all (fun x => btw x 0 160) with
        | false =>
          rw [if_neg (c := (1 ≤ s.days ∧ s.days ≤ 14) ∧ _) (fun hh => by rw [all_btw.2 hh.2.2.1] at q1; cases q1)]; rfl
        | true =>
          cases q2 : s.buses.all jobR with
          | false =>
            rw [if_neg (c := (1 ≤ s.days ∧ s.days ≤ 14) ∧ _) (fun hh => by rw [List.all_eq_true.2 hh.2.2.2] at q2; cases q2)]; rfl
          | true =>
            rw [if_pos (c := (1 ≤ s.days ∧ s.days ≤ 14) ∧ _) ⟨hd, hp, all_btw.1 q1, List.all_eq_true.1 q2⟩]; rfl
      · have e : (((s.pits.length : Nat) : Int) != s.days) = true := by simp [hp]
        rw [if_neg (c := (1 ≤ s.days ∧ s.days ≤ 14) ∧ _) (fun hh => hp hh.2.1)]
        simp [e]
    · rw [btw_false.2 hd, if_neg (c := (1 ≤ s.days ∧ s.days ≤ 14) ∧ _) (fun hh => hd hh.1)]; rfl
theorem law_Shop_l1_eq (s : Shop) (hs : s.buses.length ≤ 1000000) : ∀ (n i : Nat) (acc : List Job), s.buses.length < n + i → i ≤ s.buses.length → acc.length = i → law_Shop_l1 n s acc (i : Int) = some (acc ++ s.buses.drop i)
  | 0, i, acc, h, hi, _ => by omega
  | n + 1, i, acc, h, hi, ha => by
    rw [law_Shop_l1, pf_lt]
    by_cases hx : i < s.buses.length
    · have hd : s.buses.drop i = s.buses[i] :: s.buses.drop (i + 1) := List.drop_eq_getElem_cons hx
      simp only [hx, decide_true, cond_true, pf_idx _ _ hx, Option.bind_some]
      rw [pf_app _ _ (by simp; omega)]
      simp only [Option.bind_some]
      rw [pf_w i (by omega), law_Shop_l1_eq s hs n (i + 1) _ (by omega) (by omega) (by simp; omega), hd, List.append_assoc]
      rfl
    · obtain rfl : i = s.buses.length := by omega
      simp
theorem law_Shop_eq (n : Nat) (s : Shop) (h : s.buses.length < n) (h1 : s.buses.length ≤ 1000000) (h2 : s.pits.length ≤ 1000000) : law_Shop n s = some s := by
  unfold law_Shop
  have := law_Shop_l1_eq s h1 n 0 [] (by omega) (by omega) rfl
  rw [show ((0 : Nat) : Int) = 0 from rfl] at this
  rw [law_list_eq n _ h2, this]; rfl
def needOf (day : Int) (l : List Job) : Int := ((l.filter fun j => decide (j.due ≤ day)).map (·.work)).sum
theorem needOf_cons (day : Int) (j : Job) (l : List Job) : needOf day (j :: l) = (if j.due ≤ day then j.work else 0) + needOf day l := by
  unfold needOf
  rw [List.filter_cons]
  by_cases h : j.due ≤ day
  · rw [if_pos h, if_pos (by simp [h])]; rfl
  · rw [if_neg h, if_neg (by simp [h])]; omega
theorem pit_Short_l2_eq (s : Shop) (S : Sho s) (day : Int) : ∀ (n i : Nat) (acc : Int), s.buses.length < n + i → i ≤ s.buses.length → 0 ≤ acc → acc ≤ 20 * i → pit_Short_l2 n s day (i : Int) acc = some (acc + needOf day (s.buses.drop i))
  | 0, i, acc, h, hi, _, _ => by omega
  | n + 1, i, acc, h, hi, h0, h1 => by
    have hb := S.b
    rw [pit_Short_l2, pf_lt]
    by_cases hx : i < s.buses.length
    · have hd : s.buses.drop i = s.buses[i] :: s.buses.drop (i + 1) := List.drop_eq_getElem_cons hx
      have hj := (S.j _ (List.getElem_mem hx)).2.1
      simp only [hx, decide_true, cond_true, pf_idx _ _ hx, Option.bind_some]
      rw [pf_w i (by omega), pwid (x := acc + s.buses[i].work) (by omega) (by omega), pit_Short_l2_eq s S day n (i + 1) _ (by omega) (by omega) (by omega) (by omega), pit_Short_l2_eq s S day n (i + 1) _ (by omega) (by omega) (by omega) (by omega), hd, needOf_cons]
      by_cases h2 : s.buses[i].due ≤ day
      · rw [if_pos h2, show decide (s.buses[i].due ≤ day) = true from decide_eq_true h2, cond_true]; congr 1; omega
      · rw [if_neg h2, show decide (s.buses[i].due ≤ day) = false from decide_eq_false h2, cond_false]; congr 1; omega
    · obtain rfl : i = s.buses.length := by omega
      simp [needOf]
theorem ref_Needed_l1_eq (s : Shop) (S : Sho s) (day : Int) : ∀ (n i : Nat) (acc : Int), s.buses.length < n + i → i ≤ s.buses.length → 0 ≤ acc → acc ≤ 20 * i → ref_Needed_l1 n s day (i : Int) acc = some (acc + needOf day (s.buses.drop i))
  | 0, i, acc, h, hi, _, _ => by omega
  | n + 1, i, acc, h, hi, h0, h1 => by
    have hb := S.b
    rw [ref_Needed_l1, pf_lt]
    by_cases hx : i < s.buses.length
    · have hd : s.buses.drop i = s.buses[i] :: s.buses.drop (i + 1) := List.drop_eq_getElem_cons hx
      have hj := (S.j _ (List.getElem_mem hx)).2.1
      simp only [hx, decide_true, cond_true, pf_idx _ _ hx, Option.bind_some]
      rw [pf_w i (by omega), pwid (x := acc + s.buses[i].work) (by omega) (by omega), ref_Needed_l1_eq s S day n (i + 1) _ (by omega) (by omega) (by omega) (by omega), ref_Needed_l1_eq s S day n (i + 1) _ (by omega) (by omega) (by omega) (by omega), hd, needOf_cons]
      by_cases h2 : s.buses[i].due ≤ day
      · rw [if_pos h2, show decide (s.buses[i].due ≤ day) = true from decide_eq_true h2, cond_true]; congr 1; omega
      · rw [if_neg h2, show decide (s.buses[i].due ≤ day) = false from decide_eq_false h2, cond_false]; congr 1; omega
    · obtain rfl : i = s.buses.length := by omega
      simp [needOf]
def shortAt (s : Shop) (d : Nat) : Prop := (s.pits.take (d + 1)).sum < needOf (d : Int) s.buses
theorem sum_take_succ {l : List Int} {i : Nat} (h : i < l.length) : (l.take (i + 1)).sum = (l.take i).sum + l[i] := by
  rw [List.take_succ_eq_append_getElem h, List.sum_append]; simp
theorem short_loops (s : Shop) (S : Sho s) : ∀ (n i : Nat), s.pits.length + 20 < n + i → i ≤ s.pits.length → (∀ d, d < i → ¬ shortAt s d) → (∀ h : Int, h = (s.pits.take i).sum → 0 ≤ h → h ≤ 160 * i →
    ∃ r : Option Nat, pit_Short_l1 n s (i : Int) h = some (match r with | some d => Ex.ret ((d : Int), 0) | none => Ex.go ()) ∧ ref_Short_l1 n s (i : Int) h = some (match r with | some d => Ex.ret (d : Int) | none => Ex.go ()) ∧
    (match r with | some d => d < s.pits.length ∧ shortAt s d ∧ ∀ e, e < d → ¬ shortAt s e | none => ∀ d, d < s.pits.length → ¬ shortAt s d))
  | 0, i, h, hi, _ => by omega
  | n + 1, i, h, hi, hno => fun have_ hh h0 h1 => by
    have hb := S.b
    have hd := S.d
    have hp := S.p
    rw [pit_Short_l1, ref_Short_l1, pf_lt, ← S.p, pf_lt]
    by_cases hx : i < s.pits.length
    · have hx2 := S.h _ (List.getElem_mem hx)
      have e1 := pit_Short_l2_eq s S (i : Int) n 0 0 (by omega) (by omega) (by omega) (by omega)
      have e2 := ref_Needed_l1_eq s S (i : Int) n 0 0 (by omega) (by omega) (by omega) (by omega)
      rw [show ((0 : Nat) : Int) = 0 from rfl, List.drop_zero, Int.zero_add] at e1 e2
      have hs : have_ + s.pits[i] = (s.pits.take (i + 1)).sum := by rw [sum_take_succ hx, hh]
      simp only [hx, decide_true, cond_true, pf_idx _ _ hx, Option.bind_some, e1, ref_Needed, e2, pwid (x := have_ + s.pits[i]) (by omega) (by omega)]
      rw [pf_w i (by omega)]
      by_cases hsh : shortAt s i
      · have : decide (have_ + s.pits[i] < needOf (i : Int) s.buses) = true := by rw [hs]; exact decide_eq_true hsh
        rw [this]
        exact ⟨some i, rfl, rfl, hx, hsh, hno⟩
      · have : decide (have_ + s.pits[i] < needOf (i : Int) s.buses) = false := by rw [hs]; exact decide_eq_false hsh
        rw [this]
        exact short_loops s S n (i + 1) (by omega) (by omega) (fun d hd => by
          rcases Nat.lt_or_ge d i with h' | h'
          · exact hno d h'
          · obtain rfl : d = i := by omega
            exact hsh) _ hs (by omega) (by omega)
    · obtain rfl : i = s.pits.length := by omega
      exact ⟨none, by simp, by simp, hno⟩
theorem pit_Short_ex (n : Nat) (s : Shop) (h : 100 ≤ n) (S : Sho s) : ∃ r : Option Nat, pit_Short n s = some (match r with | some d => ((d : Int), 0) | none => (0, 7)) ∧ ref_Short n s = some (match r with | some d => (d : Int) | none => -1) ∧
    (match r with | some d => d < s.pits.length ∧ shortAt s d ∧ ∀ e, e < d → ¬ shortAt s e | none => ∀ d, d < s.pits.length → ¬ shortAt s d) := by
  have hd := S.d
  have hp := S.p
  obtain ⟨r, h1, h2, h3⟩ := short_loops s S n 0 (by omega) (by omega) (fun d hd => by omega) 0 (by simp) (by omega) (by omega)
  rw [show ((0 : Nat) : Int) = 0 from rfl] at h1 h2
  refine ⟨r, ?_, ?_, h3⟩
  · unfold pit_Short
    rw [pit_Shop_check_eq n s (by omega), shopF_zero.2 S, Option.bind_some, h1]
    cases r <;> rfl
  · unfold ref_Short
    rw [h2]
    cases r <;> rfl
end Go.Proofs.Ytkbphdjemgibnaa
namespace Go.Proofs.Ytkbphdjemgibnaa
open Go Go.RowKit
def max0 (x : Int) : Int := if x > 0 then x else 0
theorem max0_le {x b : Int} (h : x ≤ b) (hb : 0 ≤ b) : 0 ≤ max0 x ∧ max0 x ≤ b := by unfold max0; split <;> omega
def lateOf (s : Shop) (j : Job) (day : Int) : Int := if day = -1 then max0 (s.days - j.due) + 14 else max0 (day - j.due)
def costOf (s : Shop) (j : Job) (day : Int) : Int := lateOf s j day * j.cost
def JobIn (j : Job) : Prop := (0 ≤ j.due ∧ j.due ≤ 14) ∧ (1 ≤ j.work ∧ j.work ≤ 20) ∧ 0 ≤ j.cost ∧ j.cost ≤ 1000
theorem late_bound {s : Shop} (S : Sho s) {j : Job} (J : JobIn j) {day : Int} (h : -1 ≤ day ∧ day < s.days) : 0 ≤ lateOf s j day ∧ lateOf s j day ≤ 28 := by
  have hd := S.d
  have hj := J.1
  unfold lateOf
  split
  · have := max0_le (x := s.days - j.due) (b := 14) (by omega) (by omega); omega
  · have := max0_le (x := day - j.due) (b := 14) (by omega) (by omega); omega
theorem cost_bound {s : Shop} (S : Sho s) {j : Job} (J : JobIn j) {day : Int} (h : -1 ≤ day ∧ day < s.days) : 0 ≤ costOf s j day ∧ costOf s j day ≤ 28000 := by
  have hl := late_bound S J h
  have hc := J.2.2
  unfold costOf
  exact ⟨Int.mul_nonneg hl.1 hc.1, by have := Int.mul_le_mul hl.2 hc.2 hc.1 (by omega : (0 : Int) ≤ 28); omega⟩
theorem pit_Shop_cost_eq {s : Shop} (S : Sho s) {j : Job} (J : JobIn j) {day : Int} (h : -1 ≤ day ∧ day < s.days) (n : Nat) (hn : 3 ≤ n) : pit_Shop_cost n s j day = some (costOf s j day) := by
  have hd := S.d
  have hj := J.1
  have hb := cost_bound S J h
  have hl := late_bound S J h
  unfold pit_Shop_cost
  rw [pit_later_eq _ _ _ hn, pit_later_eq _ _ _ hn, pwid (x := day - j.due) (by omega) (by omega), pwid (x := s.days - j.due) (by omega) (by omega)]
  simp only [Option.bind_some]
  unfold costOf lateOf at *
  by_cases h1 : day = -1
  · rw [if_pos h1] at hb hl
    rw [show (day == -1) = true by simp [h1], if_pos h1, cond_true]
    unfold max0 at *
    rw [pwid (x := _ + 14) (by omega) (by omega), pwid (by omega) (by omega)]
  · rw [if_neg h1] at hb hl
    rw [show (day == -1) = false by simp [h1], if_neg h1, cond_false]
    unfold max0 at *
    rw [pwid (by omega) (by omega)]
def stepB (s : Shop) (j : Job) (B : List Int → List Int × Int) (left : List Int) (out : List Int × Int) (d : Nat) : List Int × Int :=
  if left.getD d 0 - j.work < 0 then out else
  if (B (left.set d (left.getD d 0 - j.work))).2 + costOf s j d < out.2 then ((d : Int) :: (B (left.set d (left.getD d 0 - j.work))).1, (B (left.set d (left.getD d 0 - j.work))).2 + costOf s j d) else out
def bestF (s : Shop) : List Job → List Int → List Int × Int
  | [], _ => ([], 0)
  | j :: js, left => (List.range' 0 s.days.toNat).foldl (stepB s j (bestF s js) left) ((-1) :: (bestF s js left).1, (bestF s js left).2 + costOf s j (-1))
theorem fold_keep {α β : Type} (R : α → Prop) (f : α → β → α) : ∀ (l : List β) (a : α), R a → (∀ a b, b ∈ l → R a → R (f a b)) → R (l.foldl f a)
  | [], a, h, _ => h
  | b :: l, a, h, hf => fold_keep R f l (f a b) (hf a b (List.mem_cons_self ..) h) fun a' b' hb => hf a' b' (List.mem_cons_of_mem _ hb)
theorem mem_days {s : Shop} {d : Nat} (S : Sho s) (h : d ∈ List.range' 0 s.days.toNat) : (d : Int) < s.days := by
  have hd := S.d
  rw [List.mem_range'_1] at h; omega
structure PlanIn (s : Shop) (k : Nat) (o : List Int × Int) : Prop where
  len : o.1.length = k
  rng : ∀ x ∈ o.1, -1 ≤ x ∧ x < s.days
  cost : 0 ≤ o.2 ∧ o.2 ≤ 28000 * k
theorem bestF_in {s : Shop} (S : Sho s) : ∀ (js : List Job), (∀ j ∈ js, JobIn j) → ∀ left, PlanIn s js.length (bestF s js left)
  | [], _, left => ⟨rfl, fun x hx => (by cases hx), by simp [bestF]⟩
  | j :: js, hj, left => by
    have hd := S.d
    have J := hj j (List.mem_cons_self ..)
    have IH := bestF_in S js fun j' h' => hj j' (List.mem_cons_of_mem _ h')
    have hcons : ∀ (l : List Int) (d : Int), -1 ≤ d → d < s.days → ∀ c', c' = (bestF s js l).2 + costOf s j d → PlanIn s (j :: js).length (d :: (bestF s js l).1, c') := fun l d h1 h2 c' hc => by
      have I := IH l
      have hcb := cost_bound S J ⟨h1, h2⟩
      have hIc := I.cost
      refine ⟨by simp [I.len], fun x hx => ?_, by rw [hc]; simp only [List.length_cons]; omega⟩
      rcases List.mem_cons.1 hx with rfl | hx
      · exact ⟨h1, h2⟩
      · exact I.rng x hx
    unfold bestF
    refine fold_keep (PlanIn s (j :: js).length) _ _ _ (hcons left (-1) (by omega) (by omega) _ rfl) fun a d hd ha => ?_
    have := mem_days S hd
    unfold stepB
    split
    · exact ha
    · split
      · exact hcons _ _ (by omega) (by omega) _ rfl
      · exact ha
theorem look_put {K α : Type} [DecidableEq K] : ∀ (l : List (K × α)) (k k' : K) (v : α), look? (put? l k v) k' = if k = k' then some v else look? l k'
  | [], k, k', v => by unfold put? look?; rfl
  | p :: r, k, k', v => by
    unfold put?
    split
    · rename_i h
      unfold look?
      subst h
      by_cases h2 : p.1 = k'
      · simp [h2]
      · simp [h2]
    · rename_i h
      unfold look?
      by_cases h2 : p.1 = k'
      · rw [if_pos h2, if_pos h2, if_neg (fun e => h (h2.trans e.symm))]
      · rw [if_neg h2, if_neg h2, look_put r k k' v]
theorem Hours.len (h : Hours) : h.toL.length = 14 := rfl
theorem Hours.of_len : ∀ {l : List Int}, l.length = 14 → ∃ h, Hours.ofL l = some h ∧ h.toL = l
  | [a0, a1, a2, a3, a4, a5, a6, a7, a8, a9, a10, a11, a12, a13], _ => ⟨_, rfl, rfl⟩
theorem setI_ex (h : Hours) (d : Nat) (hd : d < 14) (v : Int) : ∃ h', Hours.setI h (d : Int) v = some h' ∧ h'.toL = h.toL.set d v := by
  unfold Hours.setI
  have : upd h.toL (d : Int) v = some (h.toL.set d v) := by
    show (if d < h.toL.length then _ else _) = _
    rw [if_pos (by rw [Hours.len]; exact hd)]
  rw [this]
  exact Hours.of_len (by rw [List.length_set, Hours.len])
theorem rng_ok {d : Nat} (h : d < 14) : rng 14 (d : Int) = some () := by unfold rng; rw [if_pos (by omega)]
def KOK (s : Shop) (known : List (Rest × Done)) : Prop := ∀ r d, look? known r = some d → 0 ≤ r.bus → d = ⟨(bestF s (s.buses.drop r.bus.toNat) r.left.toL).1, (bestF s (s.buses.drop r.bus.toNat) r.left.toL).2⟩
theorem getD_eq {l : List Int} {d : Nat} (h : d < l.length) : l.getD d 0 = l[d] := by
  rw [List.getD_eq_getElem?_getD, List.getElem?_eq_getElem h]; rfl
def LeftIn (l : List Int) : Prop := ∀ x ∈ l, 0 ≤ x ∧ x ≤ 160
theorem LeftIn.set {l : List Int} (h : LeftIn l) {d : Nat} {v : Int} (hv : 0 ≤ v ∧ v ≤ 160) : LeftIn (l.set d v) := fun x hx => by
  rcases List.mem_or_eq_of_mem_set hx with hx | rfl
  · exact h x hx
  · exact hv
theorem best_loop {s : Shop} (S : Sho s) (k : Nat) (hk : k < s.buses.length) (F : Nat)
    (IH : ∀ n, F ≤ n → ∀ (u : Hours) known, LeftIn u.toL → KOK s known → ∃ known', pit_Best_1 n (Rest.mk ((k + 1 : Nat) : Int) u) s known = some (⟨(bestF s (s.buses.drop (k + 1)) u.toL).1, (bestF s (s.buses.drop (k + 1)) u.toL).2⟩, known') ∧ KOK s known')
    (u : Hours) (hu : LeftIn u.toL) : ∀ (n i : Nat) (out : List Int × Int) known, F + 20 < n + i → i ≤ s.days.toNat → KOK s known → PlanIn s (s.buses.length - k) out →
    ∃ known', pit_Best_1_l1 n (Rest.mk (k : Int) u) s s.buses[k] (i : Int) out.1 out.2 known = some (((List.range' i (s.days.toNat - i)).foldl (stepB s s.buses[k] (bestF s (s.buses.drop (k + 1))) u.toL) out).1, ((List.range' i (s.days.toNat - i)).foldl (stepB s s.buses[k] (bestF s (s.buses.drop (k + 1))) u.toL) out).2, known') ∧ KOK s known'
  | 0, i, out, known, h, hi, _, _ => by have := S.d; omega
  | n + 1, i, out, known, h, hi, hK, hO => by
    have hd := S.d
    have hb := S.b
    have J : JobIn s.buses[k] := S.j _ (List.getElem_mem hk)
    rw [pit_Best_1_l1]
    by_cases hx : i < s.days.toNat
    · have hi14 : i < 14 := by omega
      have hul : i < u.toL.length := by rw [Hours.len]; exact hi14
      have hui := hu _ (List.getElem_mem hul)
      have hidx : idx u.toL (i : Int) = some u.toL[i] := pf_idx _ _ hul
      obtain ⟨u', hs1, hs2⟩ := setI_ex u i hi14 (u.toL[i] - s.buses[k].work)
      have hidx2 : idx u'.toL (i : Int) = some (u.toL[i] - s.buses[k].work) := by
        rw [hs2, pf_idx _ _ (by rw [List.length_set]; exact hul), List.getElem_set_self]
      have hw := J.2.1
      rw [show decide ((i : Int) < s.days) = true from decide_eq_true (by omega), cond_true, show ((i : Int) != -1) = true by simp <;> omega, cond_true, rng_ok hi14]
      simp only [Option.bind_some, hidx, pwid (x := u.toL[i] - s.buses[k].work) (by omega) (by omega), hs1, hidx2]
      rw [show s.days.toNat - i = (s.days.toNat - (i + 1)) + 1 by omega, List.range'_succ, List.foldl_cons, pf_w i (by omega), pwid (x := (k : Int) + 1) (by omega) (by omega), show (k : Int) + 1 = ((k + 1 : Nat) : Int) by omega]
      by_cases hlt : u.toL[i] - s.buses[k].work < 0
      · have hstep : stepB s s.buses[k] (bestF s (s.buses.drop (k + 1))) u.toL out i = out := by unfold stepB; rw [getD_eq hul, if_pos hlt]
        rw [show decide (u.toL[i] - s.buses[k].work < 0) = true from decide_eq_true hlt, cond_true, hstep]
        exact best_loop S k hk F IH u hu n (i + 1) out known (by omega) (by omega) hK hO
      · rw [show decide (u.toL[i] - s.buses[k].work < 0) = false from decide_eq_false hlt, cond_false]
        obtain ⟨known', h1, h2⟩ := IH n (by omega) u' known (by rw [hs2]; exact hu.set (by omega)) hK
        have hP := bestF_in S (s.buses.drop (k + 1)) (fun j hj => S.j j (List.mem_of_mem_drop hj)) u'.toL
        have hcb := cost_bound S J (day := (i : Int)) (by omega)
        have hPc := hP.cost
        have hPl := hP.len
        rw [List.length_drop] at hPc hPl
        simp only [h1, Option.bind_some, pit_Shop_cost_eq S J (day := (i : Int)) (by omega) n (by omega)]
        rw [pwid (x := (bestF s (s.buses.drop (k + 1)) u'.toL).2 + costOf s s.buses[k] (i : Int)) (by omega) (by omega), show ((i : Int) == -1) = false by simp <;> omega, cond_false, Option.bind_some]
        have hstep : stepB s s.buses[k] (bestF s (s.buses.drop (k + 1))) u.toL out i = if (bestF s (s.buses.drop (k + 1)) u'.toL).2 + costOf s s.buses[k] (i : Int) < out.2 then ((i : Int) :: (bestF s (s.buses.drop (k + 1)) u'.toL).1, (bestF s (s.buses.drop (k + 1)) u'.toL).2 + costOf s s.buses[k] (i : Int)) else out := by
          unfold stepB; rw [getD_eq hul, if_neg hlt, ← hs2]
        rw [hstep]
        by_cases hc : (bestF s (s.buses.drop (k + 1)) u'.toL).2 + costOf s s.buses[k] (i : Int) < out.2
        · rw [decide_eq_true hc, cond_true, if_pos hc, pf_app _ _ (by simp; omega), Option.bind_some]
          refine best_loop S k hk F IH u hu n (i + 1) ((i : Int) :: (bestF s (s.buses.drop (k + 1)) u'.toL).1, (bestF s (s.buses.drop (k + 1)) u'.toL).2 + costOf s s.buses[k] (i : Int)) known' (by omega) (by omega) h2 ⟨?_, fun x hx => ?_, ?_⟩
          · simp only [List.length_cons]; omega
          · rcases List.mem_cons.1 hx with rfl | hx
            · omega
            · exact hP.rng x hx
          · show 0 ≤ (bestF s (s.buses.drop (k + 1)) u'.toL).2 + costOf s s.buses[k] (i : Int) ∧ (bestF s (s.buses.drop (k + 1)) u'.toL).2 + costOf s s.buses[k] (i : Int) ≤ _
            omega
        · rw [decide_eq_false hc, cond_false, if_neg hc]
          exact best_loop S k hk F IH u hu n (i + 1) out known' (by omega) (by omega) h2 hO
    · obtain rfl : i = s.days.toNat := by omega
      have : decide (((s.days.toNat : Nat) : Int) < s.days) = false := decide_eq_false (by omega)
      rw [this, Nat.sub_self]
      exact ⟨known, rfl, hK⟩
theorem best1_eq {s : Shop} (S : Sho s) : ∀ (m k : Nat), k + m = s.buses.length → ∀ n, 40 * m + 40 ≤ n → ∀ (u : Hours) known, LeftIn u.toL → KOK s known →
    ∃ known', pit_Best_1 n (Rest.mk (k : Int) u) s known = some (⟨(bestF s (s.buses.drop k) u.toL).1, (bestF s (s.buses.drop k) u.toL).2⟩, known') ∧ KOK s known'
  | 0, k, hk, n, hn, u, known, hu, hK => by
    obtain ⟨n, rfl⟩ : ∃ n', n = n' + 1 := ⟨n - 1, by omega⟩
    rw [pit_Best_1]
    have e : ((k : Int) == ((s.buses.length : Nat) : Int)) = true := by simp; omega
    have e2 : s.buses.drop k = [] := List.drop_eq_nil_of_le (by omega)
    simp only [e, cond_true, e2]
    exact ⟨known, rfl, hK⟩
  | m + 1, k, hk, n, hn, u, known, hu, hK => by
    obtain ⟨n, rfl⟩ : ∃ n', n = n' + 2 := ⟨n - 2, by omega⟩
    have hkl : k < s.buses.length := by omega
    have hd := S.d
    have hb := S.b
    rw [pit_Best_1]
    have e : ((k : Int) == ((s.buses.length : Nat) : Int)) = false := by simp; omega
    simp only [e, cond_false]
    have hD : s.buses.drop k = s.buses[k] :: s.buses.drop (k + 1) := List.drop_eq_getElem_cons hkl
    cases hl : look? known (Rest.mk (k : Int) u) with
    | some d =>
      have hL : lookD known (Rest.mk (k : Int) u) (Done.mk [] 0) = (d, true) := by unfold lookD; rw [hl]
      have := hK _ _ hl (by show (0 : Int) ≤ (k : Int); omega)
      simp only [hL, cond_true, Option.bind_some]
      refine ⟨known, ?_, hK⟩
      rw [this]
      rfl
    | none =>
      have hL : (lookD known (Rest.mk (k : Int) u) (Done.mk [] 0)).2 = false := by unfold lookD; rw [hl]
      simp only [hL, cond_false, Option.bind_some, pf_idx _ _ hkl]
      have J : JobIn s.buses[k] := S.j _ (List.getElem_mem hkl)
      have IH := fun n hn => best1_eq S m (k + 1) (by omega) n hn
      -- the first try: never
      rw [pit_Best_1_l1]
      obtain ⟨k1, h1, h2⟩ := IH n (by omega) u known hu hK
      have hP := bestF_in S (s.buses.drop (k + 1)) (fun j hj => S.j j (List.mem_of_mem_drop hj)) u.toL
      have hcb := cost_bound S J (day := -1) (by omega)
      have hPc := hP.cost
      have hPl := hP.len
      rw [List.length_drop] at hPc hPl
      rw [show decide ((-1 : Int) < s.days) = true from decide_eq_true (by omega), cond_true, show ((-1 : Int) != -1) = false by decide, cond_false, pwid (x := (k : Int) + 1) (by omega) (by omega), show (k : Int) + 1 = ((k + 1 : Nat) : Int) by omega, h1]
      simp only [Option.bind_some, pit_Shop_cost_eq S J (day := -1) (by omega) n (by omega)]
      rw [show ((-1 : Int) == -1) = true by decide, cond_true, Option.bind_some, cond_true, pf_app _ _ (by simp; omega), Option.bind_some, pwid (x := (bestF s (s.buses.drop (k + 1)) u.toL).2 + costOf s s.buses[k] (-1)) (by omega) (by omega), show IntKind.i64.wrap ((-1 : Int) + 1) = ((0 : Nat) : Int) by decide]
      obtain ⟨k2, h3, h4⟩ := best_loop S k hkl (40 * m + 40) IH u hu n 0 ((-1) :: (bestF s (s.buses.drop (k + 1)) u.toL).1, (bestF s (s.buses.drop (k + 1)) u.toL).2 + costOf s s.buses[k] (-1)) k1 (by omega) (by omega) h2 ⟨by simp only [List.length_cons]; omega, fun x hx => by
        rcases List.mem_cons.1 hx with rfl | hx
        · omega
        · exact hP.rng x hx, by
        show 0 ≤ (bestF s (s.buses.drop (k + 1)) u.toL).2 + costOf s s.buses[k] (-1) ∧ (bestF s (s.buses.drop (k + 1)) u.toL).2 + costOf s s.buses[k] (-1) ≤ _
        omega⟩
      have h3' := h3
      simp only [List.singleton_append] at h3' ⊢
      rw [h3', Option.bind_some]
      have hbest : bestF s (s.buses.drop k) u.toL = (List.range' 0 (s.days.toNat - 0)).foldl (stepB s s.buses[k] (bestF s (s.buses.drop (k + 1))) u.toL) ((-1) :: (bestF s (s.buses.drop (k + 1)) u.toL).1, (bestF s (s.buses.drop (k + 1)) u.toL).2 + costOf s s.buses[k] (-1)) := by
        rw [hD]; rfl
      rw [← hbest]
      refine ⟨_, rfl, fun r d hrd h0 => ?_⟩
      rw [look_put] at hrd
      split at hrd
      · rename_i he
        cases hrd
        rw [← he]
        rfl
      · exact h4 r d hrd h0
def left0 (s : Shop) : List Int := s.pits ++ List.replicate (14 - s.pits.length) 0
theorem left0_len {s : Shop} (S : Sho s) : (left0 s).length = 14 := by
  have := S.d; have := S.p
  unfold left0
  rw [List.length_append, List.length_replicate]; omega
theorem left0_in {s : Shop} (S : Sho s) : LeftIn (left0 s) := fun x hx => by
  unfold left0 at hx
  rcases List.mem_append.1 hx with hx | hx
  · exact S.h x hx
  · rw [List.eq_of_mem_replicate hx]; omega
theorem pit_Best_eq (n : Nat) {s : Shop} (S : Sho s) (h : 500 ≤ n) : pit_Best n s = some ((bestF s s.buses (left0 s)).1, (bestF s s.buses (left0 s)).2, 0) := by
  have hd := S.d
  have hp := S.p
  have hb := S.b
  unfold pit_Best
  rw [pit_Shop_check_eq n s (by omega), shopF_zero.2 S, Option.bind_some]
  have hc : copyL (Hours.mk 0 0 0 0 0 0 0 0 0 0 0 0 0 0).toL s.pits = left0 s := by
    unfold copyL left0
    rw [List.take_of_length_le (by rw [Hours.len]; omega)]
    congr 1
    show (List.replicate 14 (0 : Int)).drop s.pits.length = _
    rw [List.drop_replicate]
  rw [hc]
  obtain ⟨u, h1, h2⟩ := Hours.of_len (left0_len S)
  obtain ⟨k', h3, _⟩ := best1_eq S s.buses.length 0 (by omega) n (by omega) u [] (by rw [h2]; exact left0_in S) (fun r d h => by cases h)
  rw [show ((0 : Nat) : Int) = 0 from rfl, List.drop_zero, h2] at h3
  have hP := (bestF_in S s.buses (fun j hj => S.j j hj) (left0 s)).len
  simp only [bne_self_eq_false, cond_false, h1, h3, Option.bind_some, slices_Clone_int_int]
  rw [pf_app _ _ (by simp; omega)]
  rfl
end Go.Proofs.Ytkbphdjemgibnaa
namespace Go.Proofs.Ytkbphdjemgibnaa
open Go Go.RowKit
def hoursP : List Job → List Int → Int → Int
  | j :: js, p :: ps, d => (if p = d then j.work else 0) + hoursP js ps d
  | _, _, _ => 0
def costP (s : Shop) : List Job → List Int → Int
  | j :: js, p :: ps => costOf s j p + costP s js ps
  | _, _ => 0
theorem hoursP_nil (js : List Job) (d : Int) : hoursP js [] d = 0 := by cases js <;> rfl
theorem costP_nil (s : Shop) (js : List Job) : costP s js [] = 0 := by cases js <;> rfl
theorem hoursP_app : ∀ (js : List Job) (b q : List Int) (d : Int), b.length ≤ js.length → hoursP js (b ++ q) d = hoursP js b d + hoursP (js.drop b.length) q d
  | js, [], q, d, _ => by rw [hoursP_nil]; simp
  | [], p :: b, q, d, h => by simp at h
  | j :: js, p :: b, q, d, h => by
    simp only [List.cons_append, hoursP, List.length_cons, List.drop_succ_cons]
    rw [hoursP_app js b q d (by simpa using h)]; omega
theorem hoursP_nonneg : ∀ {js : List Job}, (∀ j ∈ js, JobIn j) → ∀ (q : List Int) (d : Int), 0 ≤ hoursP js q d ∧ hoursP js q d ≤ 20 * js.length
  | [], _, q, d => by simp [hoursP]
  | j :: js, hj, [], d => by rw [hoursP_nil]; omega
  | j :: js, hj, p :: q, d => by
    have := hoursP_nonneg (js := js) (fun j' h' => hj j' (List.mem_cons_of_mem _ h')) q d
    have hw := (hj j (List.mem_cons_self ..)).2.1
    simp only [hoursP, List.length_cons]
    split <;> omega
theorem jobsIn {s : Shop} (S : Sho s) : ∀ j ∈ s.buses, JobIn j := fun j hj => S.j j hj
def inDays (s : Shop) (plan : List Int) : Prop := ∀ x ∈ plan, -1 ≤ x ∧ x < s.days
def roomy (s : Shop) (plan : List Int) : Prop := ∀ d : Nat, (d : Int) < s.days → hoursP s.buses plan d ≤ (left0 s).getD d 0
instance (s : Shop) (plan : List Int) : Decidable (roomy s plan) := by
  by_cases h : ∀ d ∈ List.range s.days.toNat, hoursP s.buses plan ((d : Nat) : Int) ≤ (left0 s).getD d 0
  · exact isTrue fun d hd => h d (List.mem_range.2 (by omega))
  · exact isFalse fun hr => h fun d hd => hr d (by have := List.mem_range.1 hd; omega)
def fitsP (s : Shop) (plan : List Int) : Prop := plan.length = s.buses.length ∧ inDays s plan ∧ roomy s plan
instance (s : Shop) (plan : List Int) : Decidable (inDays s plan) := by unfold inDays; infer_instance
instance (s : Shop) (plan : List Int) : Decidable (fitsP s plan) := by unfold fitsP; infer_instance
theorem pits_at {s : Shop} {i : Nat} (hi : i < s.pits.length) : s.pits[i] = (left0 s).getD i 0 := by
  unfold left0
  rw [List.getD_eq_getElem?_getD, List.getElem?_append_left hi, List.getElem?_eq_getElem hi]; rfl
theorem hoursP_one {s : Shop} {b : List Int} {k : Nat} (hk : k < s.buses.length) (hb : b.length = k) (p d : Int) : hoursP s.buses (b ++ [p]) d = hoursP s.buses b d + (if p = d then s.buses[k].work else 0) := by
  rw [hoursP_app _ _ _ _ (by omega), hb, List.drop_eq_getElem_cons hk]
  simp only [hoursP, hoursP_nil]; omega
theorem pit_ProvePlan_l1_eq {s : Shop} (S : Sho s) (plan : List Int) (hl : plan.length ≤ s.buses.length) : ∀ (n i : Nat) (acc : Int) (u : Hours), plan.length + 5 < n + i → i ≤ plan.length → 0 ≤ acc → acc ≤ 28000 * i → (∀ d : Nat, d < 14 → u.toL.getD d 0 = hoursP s.buses (plan.take i) d) →
    ∃ r, pit_ProvePlan_l1 n s plan (i : Int) acc u = some r ∧ ((r = Ex.ret false ∧ ¬ inDays s plan) ∨ ∃ v : Hours, r = Ex.go (acc + costP s (s.buses.drop i) (plan.drop i), v) ∧ inDays s (plan.drop i) ∧ ∀ d : Nat, d < 14 → v.toL.getD d 0 = hoursP s.buses plan d)
  | 0, i, acc, u, h, hi, _, _, _ => by omega
  | n + 1, i, acc, u, h, hi, h0, h1, hu => by
    have hb := S.b
    have hd' := S.d
    rw [pit_ProvePlan_l1, pf_lt]
    by_cases hx : i < plan.length
    · have hx2 : i < s.buses.length := by omega
      have hd : plan.drop i = plan[i] :: plan.drop (i + 1) := List.drop_eq_getElem_cons hx
      have hd2 : s.buses.drop i = s.buses[i] :: s.buses.drop (i + 1) := List.drop_eq_getElem_cons hx2
      have htk : plan.take (i + 1) = plan.take i ++ [plan[i]] := List.take_succ_eq_append_getElem hx
      have htl : (plan.take i).length = i := by rw [List.length_take]; omega
      simp only [hx, decide_true, cond_true, pf_idx _ _ hx, pf_idx _ _ hx2, Option.bind_some, pit_within_eq, pwid (x := s.days - 1) (by omega) (by omega)]
      by_cases hr : -1 ≤ plan[i] ∧ plan[i] ≤ s.days - 1
      · have hr' : -1 ≤ plan[i] ∧ plan[i] < s.days := by omega
        have hc := cost_bound S (S.j _ (List.getElem_mem hx2)) hr'
        rw [btw_true.2 hr, Bool.not_true, cond_false]
        have key : ∀ v : Hours, (∀ d : Nat, d < 14 → v.toL.getD d 0 = hoursP s.buses (plan.take (i + 1)) d) → ∃ r, ((pit_Shop_cost n s s.buses[i] plan[i]).bind fun x58 => pit_ProvePlan_l1 n s plan (IntKind.i64.wrap ((i : Int) + 1)) (IntKind.i64.wrap (acc + x58)) v) = some r ∧
            ((r = Ex.ret false ∧ ¬ inDays s plan) ∨ ∃ v : Hours, r = Ex.go (acc + costP s (s.buses.drop i) (plan.drop i), v) ∧ inDays s (plan.drop i) ∧ ∀ d : Nat, d < 14 → v.toL.getD d 0 = hoursP s.buses plan d) := by
          intro v hv
          rw [pit_Shop_cost_eq S (S.j _ (List.getElem_mem hx2)) hr' n (by omega), Option.bind_some, pf_w i (by omega), pwid (x := acc + _) (by omega) (by omega)]
          obtain ⟨r, e1, e2⟩ := pit_ProvePlan_l1_eq S plan hl n (i + 1) (acc + costOf s s.buses[i] plan[i]) v (by omega) (by omega) (by omega) (by omega) hv
          refine ⟨r, e1, ?_⟩
          rcases e2 with e2 | ⟨w, e2, e3, e4⟩
          · exact Or.inl e2
          · refine Or.inr ⟨w, ?_, ?_, e4⟩
            · rw [e2, hd, hd2, costP, Int.add_assoc]
            · rw [hd]
              intro x hx
              rcases List.mem_cons.1 hx with rfl | hx
              · exact hr'
              · exact e3 x hx
        by_cases hn : plan[i] = -1
        · rw [show (plan[i] != -1) = false by simp [hn], cond_false, Option.bind_some]
          refine key u fun d hd14 => ?_
          rw [htk, hoursP_one hx2 htl, if_neg (by omega), hu d hd14]; omega
        · obtain ⟨d0, hd0⟩ : ∃ d0 : Nat, plan[i] = (d0 : Int) := ⟨plan[i].toNat, by omega⟩
          have hd14 : d0 < 14 := by omega
          have hul : d0 < u.toL.length := by rw [Hours.len]; exact hd14
          have hub := hu d0 hd14
          rw [getD_eq hul] at hub
          have hbd := hoursP_nonneg (jobsIn S) (plan.take i) (d0 : Int)
          have hw := (S.j _ (List.getElem_mem hx2)).2.1
          obtain ⟨u', s1, s2⟩ := setI_ex u d0 hd14 (u.toL[d0] + s.buses[i].work)
          rw [show (plan[i] != -1) = true by simp [hn], cond_true, hd0, rng_ok hd14]
          simp only [Option.bind_some, pf_idx _ _ hul, pwid (x := u.toL[d0] + s.buses[i].work) (by omega) (by omega), s1]
          rw [← hd0]
          refine key u' fun d hd14' => ?_
          rw [htk, hoursP_one hx2 htl, s2]
          by_cases hdd : d0 = d
          · subst hdd
            rw [if_pos hd0, List.getD_eq_getElem?_getD, List.getElem?_set_self hul]
            simp only [Option.getD_some]; omega
          · rw [if_neg (by omega), List.getD_eq_getElem?_getD, List.getElem?_set_ne hdd, ← List.getD_eq_getElem?_getD, hu d hd14']; omega
      · rw [btw_false.2 hr]
        exact ⟨_, rfl, Or.inl ⟨rfl, fun h => hr (by have := h _ (List.getElem_mem hx); omega)⟩⟩
    · obtain rfl : i = plan.length := by omega
      refine ⟨_, by simp; rfl, Or.inr ⟨u, by simp [costP_nil], fun x hx => by simp at hx, fun d hd => ?_⟩⟩
      rw [hu d hd, List.take_length]
theorem pit_ProvePlan_l2_eq {s : Shop} (S : Sho s) (plan : List Int) (c : Int) (v : Hours) (hv : ∀ d : Nat, d < 14 → v.toL.getD d 0 = hoursP s.buses plan d) : ∀ (n i : Nat), s.pits.length < n + i → i ≤ s.pits.length → (∀ d : Nat, d < i → hoursP s.buses plan d ≤ (left0 s).getD d 0) → pit_ProvePlan_l2 n s (c, v) (i : Int) = some (if roomy s plan then Ex.go () else Ex.ret false)
  | 0, i, h, hi, _ => by omega
  | n + 1, i, h, hi, hno => by
    have hp := S.p
    have hd' := S.d
    rw [pit_ProvePlan_l2, pf_lt]
    by_cases hx : i < s.pits.length
    · have hvl : i < v.toL.length := by rw [Hours.len]; omega
      have hvi := hv i (by omega)
      rw [getD_eq hvl] at hvi
      simp only [hx, decide_true, cond_true, pf_idx _ _ hx, Option.bind_some, rng_ok (show i < 14 by omega), pf_idx _ _ hvl, hvi, pits_at hx]
      rw [pf_w i (by omega)]
      by_cases h1 : hoursP s.buses plan (i : Int) > (left0 s).getD i 0
      · rw [decide_eq_true h1, if_neg (show ¬ roomy s plan from fun h => by have := h i (by omega); omega)]; rfl
      · rw [decide_eq_false h1, cond_false, pit_ProvePlan_l2_eq S plan c v hv n (i + 1) (by omega) (by omega) (fun d hd => by
          rcases Nat.lt_or_ge d i with h' | h'
          · exact hno d h'
          · obtain rfl : d = i := by omega
            omega)]
    · obtain rfl : i = s.pits.length := by omega
      rw [if_pos (show roomy s plan from fun d hd => hno d (by omega))]; simp
theorem pit_ProvePlan_eq {s : Shop} (S : Sho s) (plan : List Int) (most : Int) (n : Nat) (h : 50 ≤ n) : pit_ProvePlan n s plan most = some (decide (fitsP s plan) && decide (costP s s.buses plan ≤ most)) := by
  have hb := S.b
  have hp := S.p
  have hd := S.d
  unfold pit_ProvePlan
  rw [pit_Shop_check_eq n s (by omega), shopF_zero.2 S, Option.bind_some]
  by_cases hl : plan.length = s.buses.length
  · rw [show (((plan.length : Nat) : Int) != ((s.buses.length : Nat) : Int)) = false by simp [hl]]
    obtain ⟨r, h1, h2⟩ := pit_ProvePlan_l1_eq S plan (by omega) n 0 0 (Hours.mk 0 0 0 0 0 0 0 0 0 0 0 0 0 0) (by omega) (by omega) (by omega) (by omega) (fun d hd14 => by
      rw [List.take_zero, hoursP_nil]
      show (List.replicate 14 (0 : Int)).getD d 0 = 0
      rw [List.getD_eq_getElem?_getD, List.getElem?_replicate]
      split <;> rfl)
    rw [show ((0 : Nat) : Int) = 0 from rfl] at h1
    simp only [bne_self_eq_false, cond_false, Option.bind_some, h1]
    rcases h2 with ⟨rfl, hno⟩ | ⟨v, rfl, hin, hv⟩
    · rw [decide_eq_false (fun hf : fitsP s plan => hno hf.2.1)]; rfl
    · rw [List.drop_zero] at hin
      have h3 := pit_ProvePlan_l2_eq S plan (costP s s.buses plan) v hv n 0 (by omega) (by omega) (fun d hd => by omega)
      rw [show ((0 : Nat) : Int) = 0 from rfl] at h3
      simp only [Ex.bind, h3, List.drop_zero, Int.zero_add]
      by_cases q2 : roomy s plan
      · rw [if_pos q2, decide_eq_true (show fitsP s plan from ⟨hl, hin, q2⟩)]; rfl
      · rw [if_neg q2, decide_eq_false (fun hf : fitsP s plan => q2 hf.2.2)]; rfl
  · rw [show (((plan.length : Nat) : Int) != ((s.buses.length : Nat) : Int)) = true by simp; omega, decide_eq_false (fun hf : fitsP s plan => hl hf.1)]; rfl
end Go.Proofs.Ytkbphdjemgibnaa
namespace Go.Proofs.Ytkbphdjemgibnaa
open Go Go.RowKit
end Go.Proofs.Ytkbphdjemgibnaa
namespace Go.Proofs.Ytkbphdjemgibnaa
open Go Go.RowKit
theorem law_small_eq (n : Nat) (s : Shop) (h : 20 ≤ n) : law_small n s = some (decide (s.buses.length ≤ 6 ∧ s.pits.length ≤ 6 ∧ shopF s = 0)) := by
  unfold law_small
  by_cases h1 : s.buses.length ≤ 6
  · by_cases h2 : s.pits.length ≤ 6
    · rw [decide_eq_true (show ((s.buses.length : Nat) : Int) ≤ 6 by omega), decide_eq_true (show ((s.pits.length : Nat) : Int) ≤ 6 by omega), ref_ShopFault_eq n s h]
      by_cases h3 : shopF s = 0 <;> simp [h1, h2, h3]
    · rw [decide_eq_true (show ((s.buses.length : Nat) : Int) ≤ 6 by omega), decide_eq_false (show ¬ ((s.pits.length : Nat) : Int) ≤ 6 by omega)]
      simp [h2]
  · rw [decide_eq_false (show ¬ ((s.buses.length : Nat) : Int) ≤ 6 by omega)]
    simp [h1]
end Go.Proofs.Ytkbphdjemgibnaa
namespace Go.Proofs.Ytkbphdjemgibnaa
open Go Go.RowKit
end Go.Proofs.Ytkbphdjemgibnaa
namespace Go.Proofs.Ytkbphdjemgibnaa
open Go Go.RowKit
def sumTo (f : Nat → Int) : Nat → Int
  | 0 => f 0
  | d + 1 => sumTo f d + f (d + 1)
theorem sumTo_le {f g : Nat → Int} : ∀ (d : Nat), (∀ e, e ≤ d → f e ≤ g e) → sumTo f d ≤ sumTo g d
  | 0, h => h 0 (Nat.le_refl _)
  | d + 1, h => by
    have h1 := sumTo_le d fun e he => h e (by omega)
    have h2 := h (d + 1) (Nat.le_refl _)
    simp only [sumTo]; omega
theorem sumTo_add (f g : Nat → Int) : ∀ (d : Nat), sumTo (fun e => f e + g e) d = sumTo f d + sumTo g d
  | 0 => rfl
  | d + 1 => by simp only [sumTo, sumTo_add f g d]; omega
theorem sumTo_one (p w : Int) : ∀ (d : Nat), sumTo (fun e => if p = (e : Int) then w else 0) d = if 0 ≤ p ∧ p ≤ (d : Int) then w else 0
  | 0 => by
    simp only [sumTo]
    by_cases h : p = 0
    · rw [if_pos (by omega), if_pos (by omega)]
    · rw [if_neg (by omega), if_neg (by omega)]
  | d + 1 => by
    simp only [sumTo, sumTo_one p w d]
    by_cases h : p = ((d + 1 : Nat) : Int)
    · rw [if_neg (by omega), if_pos h, if_pos (by omega)]; omega
    · rw [if_neg h]
      by_cases h2 : 0 ≤ p ∧ p ≤ (d : Int)
      · rw [if_pos h2, if_pos (by omega)]; omega
      · rw [if_neg h2, if_neg (by omega)]; omega
theorem sumTo_take {l : List Int} : ∀ (d : Nat), d < l.length → (l.take (d + 1)).sum = sumTo (fun e => l.getD e 0) d
  | 0, h => by rw [sum_take_succ h]; simp only [sumTo, getD_eq h, List.take_zero, List.sum_nil]; omega
  | d + 1, h => by rw [sum_take_succ h, sumTo_take d (by omega)]; simp only [sumTo, getD_eq h]
def lateAt (s : Shop) (q : List Int) (d : Int) (k : Nat) : Prop := ∃ (h1 : k < s.buses.length) (h2 : k < q.length), s.buses[k].due ≤ d ∧ (q[k] < 0 ∨ q[k] > s.buses[k].due)
theorem need_le (d : Nat) : ∀ (js : List Job) (q : List Int), js.length = q.length → (∀ j ∈ js, JobIn j) → (∀ (k : Nat) (h1 : k < js.length) (h2 : k < q.length), js[k].due ≤ (d : Int) → 0 ≤ q[k] ∧ q[k] ≤ js[k].due) → needOf (d : Int) js ≤ sumTo (fun e => hoursP js q (e : Int)) d
  | [], q, _, _, _ => by
    have : (fun e : Nat => hoursP [] q (e : Int)) = fun _ => 0 := by funext e; simp [hoursP]
    rw [this]
    have : ∀ d, sumTo (fun _ => 0) d = 0 := fun d => by
      induction d with
      | zero => rfl
      | succ d ih => simp only [sumTo, ih]; omega
    rw [this]; simp [needOf]
  | j :: js, [], h, _, _ => by simp at h
  | j :: js, p :: q, h, hj, hk => by
    have IH := need_le d js q (by simpa using h) (fun j' h' => hj j' (List.mem_cons_of_mem _ h')) fun k h1 h2 hd => by
      have := hk (k + 1) (by simp; omega) (by simp; omega) (by simpa using hd)
      simpa using this
    have hw := (hj j (List.mem_cons_self ..)).2.1
    rw [needOf_cons]
    have e : (fun e : Nat => hoursP (j :: js) (p :: q) (e : Int)) = fun e : Nat => (if p = (e : Int) then j.work else 0) + hoursP js q (e : Int) := by funext e; simp only [hoursP]
    rw [e, sumTo_add, sumTo_one]
    by_cases hd : j.due ≤ (d : Int)
    · have := hk 0 (by simp) (by simp) (by simpa using hd)
      have h3 : 0 ≤ p ∧ p ≤ j.due := by simpa using this
      rw [if_pos hd, if_pos (by omega)]; omega
    · rw [if_neg hd]; split <;> omega
theorem some_late {s : Shop} (S : Sho s) {d : Nat} (hd : d < s.pits.length) (hs : shortAt s d) {q : List Int} (hf : fitsP s q) : ∃ k, lateAt s q (d : Int) k := by
  apply Classical.byContradiction
  intro hno
  have hp := S.p
  have h1 := need_le d s.buses q hf.1.symm (jobsIn S) fun k h1 h2 h3 => by
    refine ⟨?_, ?_⟩
    · rcases Int.lt_or_le q[k] 0 with h | h
      · exact absurd ⟨k, h1, h2, h3, Or.inl h⟩ hno
      · exact h
    · rcases Int.lt_or_le s.buses[k].due q[k] with h | h
      · exact absurd ⟨k, h1, h2, h3, Or.inr h⟩ hno
      · exact h
  have h2 := sumTo_le (f := fun e => hoursP s.buses q (e : Int)) (g := fun e => s.pits.getD e 0) d fun e he => by
    have h3 : e < s.pits.length := by omega
    have := hf.2.2 e (by omega)
    rw [← pits_at h3] at this
    show hoursP s.buses q (e : Int) ≤ s.pits.getD e 0
    rw [getD_eq h3]; exact this
  rw [← sumTo_take d hd] at h2
  unfold shortAt at hs
  omega
theorem law_PitShort_l2_ex {s : Shop} (plan : List Int) (x26 : List Int × Int × Int) (x33 : Int × Int) (i : Nat) (hi : i < 2) (q : List Int) (hq : idx (A2int.mk x26.1 plan).toL (i : Int) = some q) (hl : q.length = s.buses.length) (hb : s.buses.length ≤ 8) :
    ∀ (n k : Nat) (acc : Bool), q.length < n + k → k ≤ q.length → ∃ b, law_PitShort_l2 n s plan x26 x33 (i : Int) (k : Int) acc = some b ∧ ((acc = true ∨ ∃ k', k ≤ k' ∧ lateAt s q x33.1 k') → b = true)
  | 0, k, acc, h, hk => by omega
  | n + 1, k, acc, h, hk => by
    have hr : rng 2 (i : Int) = some () := by unfold rng; rw [if_pos (by omega)]
    rw [law_PitShort_l2, hr, Option.bind_some, hq, Option.bind_some, pf_lt]
    by_cases hx : k < q.length
    · have hx2 : k < s.buses.length := by omega
      simp only [hx, decide_true, cond_true, pf_idx _ _ hx2, pf_idx _ _ hx, Option.bind_some]
      rw [pf_w k (by omega)]
      have IH := fun acc => law_PitShort_l2_ex plan x26 x33 i hi q hq hl hb n (k + 1) acc (by omega) (by omega)
      have go : ∀ v : Bool, (lateAt s q x33.1 k → v = true) → (acc = true → v = true) → ∃ b, law_PitShort_l2 n s plan x26 x33 (i : Int) ((k + 1 : Nat) : Int) v = some b ∧ ((acc = true ∨ ∃ k', k ≤ k' ∧ lateAt s q x33.1 k') → b = true) := fun v h1 h2 => by
        obtain ⟨b, e1, e2⟩ := IH v
        refine ⟨b, e1, fun hh => e2 ?_⟩
        rcases hh with hh | ⟨k', h3, h4⟩
        · exact Or.inl (h2 hh)
        · rcases Nat.lt_or_ge k k' with h5 | h5
          · exact Or.inr ⟨k', h5, h4⟩
          · obtain rfl : k' = k := by omega
            exact Or.inl (h1 h4)
      cases acc with
      | true => exact go true (fun _ => rfl) fun _ => rfl
      | false =>
        simp only [cond_false]
        by_cases h1 : s.buses[k].due ≤ x33.1
        · rw [decide_eq_true h1, cond_true]
          by_cases h2 : q[k] < 0
          · rw [decide_eq_true h2, cond_true]
            exact go true (fun _ => rfl) fun h => by cases h
          · rw [decide_eq_false h2, cond_false]
            refine go _ (fun ⟨a, b, c, e⟩ => ?_) fun h => by cases h
            rcases e with e | e
            · exact absurd e h2
            · exact decide_eq_true e
        · rw [decide_eq_false h1, cond_false]
          exact go false (fun ⟨a, b, c, e⟩ => absurd c h1) fun h => by cases h
    · obtain rfl : k = q.length := by omega
      refine ⟨acc, by simp, fun hh => ?_⟩
      rcases hh with hh | ⟨k', h3, h4⟩
      · exact hh
      · obtain ⟨_, b, _⟩ := h4; omega
theorem pitShort_law (n : Nat) (s : Shop) (plan : List Int) (h : 1200 ≤ n) (hw : law_wakes n = some true) : law_PitShort n s plan = some true := by
  unfold law_PitShort
  rw [law_small_eq n s (by omega), hw]
  by_cases hs : s.buses.length ≤ 6 ∧ s.pits.length ≤ 6 ∧ shopF s = 0
  · by_cases hpl : plan.length > 12
    · rw [decide_eq_true hs, decide_eq_true (show ((plan.length : Nat) : Int) > 12 by omega)]; rfl
    · have S := shopF_zero.1 hs.2.2
      have hB := S.b
      have hD := S.d
      have hP := S.p
      have P := bestF_in S s.buses (jobsIn S) (left0 s)
      have Pl := P.len
      obtain ⟨r, r1, _, r3⟩ := pit_Short_ex n s (by omega) S
      generalize hbb : bestF s s.buses (left0 s) = bb at *
      have hpb : pit_Best n s = some (bb.1, bb.2, 0) := by rw [pit_Best_eq n S (by omega), hbb]
      have hne : (((bb.1.length : Nat) : Int) != ((s.buses.length : Nat) : Int)) = false := by simp [Pl]
      rw [decide_eq_true hs, decide_eq_false (show ¬ ((plan.length : Nat) : Int) > 12 by omega)]
      simp only [Option.bind_some, Bool.not_true, cond_false, law_Shop_eq n s (by omega) (by omega) (by omega), hpb, r1, bne_self_eq_false, hne]
      cases r with
      | none => rfl
      | some d =>
        simp only at r3
        obtain ⟨hd, hsd, _⟩ := r3
        have e1 : decide ((d : Int) < 0) = false := decide_eq_false (by omega)
        have e2 : decide ((d : Int) ≥ s.days) = false := decide_eq_false (by omega)
        have L : law_PitShort_l1 n s plan (bb.1, bb.2, 0) ((d : Int), 0) 0 = some (Ex.go ()) := by
          refine chk_loop0 (f := fun n i => law_PitShort_l1 n s plan (bb.1, bb.2, 0) ((d : Int), 0) i) 2 100 (by omega) n (by omega) (fun k i hi hk => ?_) fun k => ?_
          · show law_PitShort_l1 (k + 1) _ _ _ _ _ = _
            have hr : rng 2 (i : Int) = some () := by unfold rng; rw [if_pos (by omega)]
            obtain ⟨q, hq, hql⟩ : ∃ q, idx (A2int.mk bb.1 plan).toL (i : Int) = some q ∧ q.length ≤ 12 := by
              rcases (show i = 0 ∨ i = 1 by omega) with rfl | rfl
              · exact ⟨bb.1, rfl, by omega⟩
              · exact ⟨plan, rfl, by omega⟩
            rw [law_PitShort_l1, decide_eq_true (show (i : Int) < 2 by omega), cond_true, hr, Option.bind_some]
            simp only [hq, Option.bind_some, law_Shop_eq k s (by omega) (by omega) (by omega), law_list_eq k q (by omega), pit_ProvePlan_eq S q 1000000 k (by omega)]
            by_cases hf : fitsP s q
            · obtain ⟨b, b1, b2⟩ := law_PitShort_l2_ex plan (bb.1, bb.2, 0) ((d : Int), 0) i hi q hq hf.1 hB k 0 false (by have := hf.1; omega) (by omega)
              rw [show ((0 : Nat) : Int) = 0 from rfl] at b1
              obtain ⟨k', hk'⟩ := some_late S hd hsd hf
              rw [b2 (Or.inr ⟨k', by omega, hk'⟩)] at b1
              rw [b1]
              cases decide (fitsP s q) && decide (costP s s.buses q ≤ 1000000) <;> rfl
            · rw [decide_eq_false hf]; rfl
          · show law_PitShort_l1 (k + 1) _ _ _ _ _ = _
            rw [law_PitShort_l1]; rfl
        simp only [bne_self_eq_false, cond_false, e1, e2, Option.bind_some, L, Ex.bind]
  · rw [decide_eq_false hs]; rfl
end Go.Proofs.Ytkbphdjemgibnaa
