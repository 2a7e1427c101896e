/- The plain law. -/
import Derived.Test.YtkbphdjemgibnaaRuP0
import Derived.KernelRfl
set_option linter.all false
namespace Go.Proofs.Ytkbphdjemgibnaa
open Go Go.RowKit
theorem pwid {x : Int} (h0 : -9223372036854775808 ≤ x) (h1 : x ≤ 9223372036854775807) : IntKind.i64.wrap x = x := by
  simp [IntKind.wrap, IntKind.bits, IntKind.signed]; omega
def btw (x lo hi : Int) : Bool := decide (lo ≤ x) && decide (x ≤ hi)
theorem btw_true {x lo hi : Int} : btw x lo hi = true ↔ lo ≤ x ∧ x ≤ hi := by simp [btw]
theorem ref_In_eq (n : Nat) (x lo hi : Int) : ref_In n x lo hi = some (btw x lo hi) := by
  unfold ref_In btw
  rw [show decide (x ≥ lo) = decide (lo ≤ x) from rfl]
  cases decide (lo ≤ x) <;> rfl
theorem pit_within_eq (n : Nat) (x lo hi : Int) : pit_within n x lo hi = some (btw x lo hi) := by
  unfold pit_within btw
  cases decide (lo ≤ x) <;> rfl
theorem pit_minute_eq' (n : Nat) (x : Int) : pit_minute n x = some (btw x 0 1000000) := pit_minute_eq n x
def rightK (c : Card) : Bool := bif decide (c.kind.n < 2) then btw c.part 0 15 && c.sg == 0 else (c.part == 0 && (c.kind.n == 2 && btw c.sg 1 999 || c.kind.n == 3 && c.sg == 0))
def rightC (c : Card) : Bool := btw c.bus 0 99 && (btw c.number 1 999 && (btw c.minute 0 1000000 && rightK c))
theorem pit_Card_valid_eq (n : Nat) (c : Card) (hk : 0 ≤ c.kind.n ∧ c.kind.n ≤ 255) : pit_Card_valid n c = some (rightC c) := by
  unfold pit_Card_valid rightC
  simp only [pit_within_eq, pit_minute_eq', Option.bind_some]
  cases btw c.bus 0 99 with
  | false => rfl
  | true =>
  cases btw c.number 1 999 with
  | false => rfl
  | true =>
  cases btw c.minute 0 1000000 with
  | false => rfl
  | true =>
  simp only [cond_true, Bool.true_and, pit_kinds, Option.bind_some, pwid (show (-9223372036854775808 : Int) ≤ c.kind.n by omega) (by omega), List.length_cons, List.length_nil]
  by_cases h4 : c.kind.n < 4
  · have h5 : decide (c.kind.n < ((0 + 1 + 1 + 1 + 1 : Nat) : Int)) = true := by simp; omega
    rw [h5]
    have : c.kind.n = 0 ∨ c.kind.n = 1 ∨ c.kind.n = 2 ∨ c.kind.n = 3 := by omega
    simp only [cond_true, rightK]
    rcases this with h | h | h | h <;> rw [h] <;> simp [idx, pit_Card_parted, pit_Card_signing, pit_Card_bare, pit_within_eq] <;> (first | (cases btw c.part 0 15 <;> simp) | (cases hq : (c.part == 0) <;> rfl) | (cases hq : (c.part == 0) <;> simp_all))
  · have h5 : decide (c.kind.n < ((0 + 1 + 1 + 1 + 1 : Nat) : Int)) = false := by simp; omega
    rw [h5]
    have h1 : decide (c.kind.n < 2) = false := by simp; omega
    have h2 : (c.kind.n == 2) = false := by simp; omega
    have h3 : (c.kind.n == 3) = false := by simp; omega
    simp [rightK, h1, h2, h3]
theorem slices_IndexFunc_pit_Card_pit_Card_l1_eq (s : List Card) (f : Card → Option Bool) (g : Card → Bool) (hf : ∀ c ∈ s, f c = some (g c)) (hs : s.length ≤ 1000000) : ∀ (n i : Nat), s.length < n + i → i ≤ s.length →
    ∃ r, slices_IndexFunc_pit_Card_pit_Card_l1 n s f (i : Int) = some r ∧ (if (s.drop i).any g then ∃ k : Int, 0 ≤ k ∧ r = Ex.ret k else r = Ex.go ())
  | 0, i, h, hi => by omega
  | n + 1, i, h, hi => by
    rw [slices_IndexFunc_pit_Card_pit_Card_l1, pf_lt]
    by_cases hx : i < s.length
    · have hd : s.drop i = s[i] :: s.drop (i + 1) := List.drop_eq_getElem_cons hx
      simp only [hx, decide_true, cond_true, pf_idx _ _ hx, Option.bind_some, hf _ (List.getElem_mem hx)]
      rw [pf_w i (by omega), hd, List.any_cons]
      cases hv : g s[i] with
      | true => exact ⟨Ex.ret (i : Int), rfl, ⟨i, by omega, rfl⟩⟩
      | false =>
        obtain ⟨r, h1, h2⟩ := slices_IndexFunc_pit_Card_pit_Card_l1_eq s f g hf hs n (i + 1) (by omega) (by omega)
        exact ⟨r, h1, by rw [Bool.false_or]; exact h2⟩
    · have : i = s.length := by omega
      subst this
      exact ⟨Ex.go (), by simp, by simp⟩
theorem pit_all_pit_Card_eq (n : Nat) (l : List Card) (f : Card → Option Bool) (g : Card → Bool) (hf : ∀ c ∈ l, f c = some (g c)) (h : l.length < n) (hs : l.length ≤ 1000000) : pit_all_pit_Card n l f = some (l.all g) := by
  unfold pit_all_pit_Card slices_ContainsFunc_pit_Card_pit_Card slices_IndexFunc_pit_Card_pit_Card
  obtain ⟨r, h1, h2⟩ := slices_IndexFunc_pit_Card_pit_Card_l1_eq l (fun y0 => pit_all_pit_Card_1 n y0 f) (fun c => !g c) (fun c hc => by unfold pit_all_pit_Card_1; rw [hf c hc]; rfl) hs n 0 (by omega) (by omega)
  rw [show ((0 : Nat) : Int) = 0 from rfl] at h1
  rw [h1]
  simp only [List.drop_zero] at h2
  have hn : l.all g = !l.any fun c => !g c := by
    rw [List.not_any_eq_all_not]; simp
  rw [hn]
  split at h2
  · rename_i hm
    obtain ⟨k, hk, rfl⟩ := h2
    simp [Ex.bind, hm, hk]
  · rename_i hm
    subst h2
    simp [Ex.bind, hm]
theorem slices_IndexFunc_int_int_l1_eq (s : List Int) (f : Int → Option Bool) (g : Int → Bool) (hf : ∀ c ∈ s, f c = some (g c)) (hs : s.length ≤ 1000000) : ∀ (n i : Nat), s.length < n + i → i ≤ s.length →
    ∃ r, slices_IndexFunc_int_int_l1 n s f (i : Int) = some r ∧ (if (s.drop i).any g then ∃ k : Int, 0 ≤ k ∧ r = Ex.ret k else r = Ex.go ())
  | 0, i, h, hi => by omega
  | n + 1, i, h, hi => by
    rw [slices_IndexFunc_int_int_l1, pf_lt]
    by_cases hx : i < s.length
    · have hd : s.drop i = s[i] :: s.drop (i + 1) := List.drop_eq_getElem_cons hx
      simp only [hx, decide_true, cond_true, pf_idx _ _ hx, Option.bind_some, hf _ (List.getElem_mem hx)]
      rw [pf_w i (by omega), hd, List.any_cons]
      cases hv : g s[i] with
      | true => exact ⟨Ex.ret (i : Int), rfl, ⟨i, by omega, rfl⟩⟩
      | false =>
        obtain ⟨r, h1, h2⟩ := slices_IndexFunc_int_int_l1_eq s f g hf hs n (i + 1) (by omega) (by omega)
        exact ⟨r, h1, by rw [Bool.false_or]; exact h2⟩
    · have : i = s.length := by omega
      subst this
      exact ⟨Ex.go (), by simp, by simp⟩
theorem pit_all_int_eq (n : Nat) (l : List Int) (f : Int → Option Bool) (g : Int → Bool) (hf : ∀ c ∈ l, f c = some (g c)) (h : l.length < n) (hs : l.length ≤ 1000000) : pit_all_int n l f = some (l.all g) := by
  unfold pit_all_int slices_ContainsFunc_int_int slices_IndexFunc_int_int
  obtain ⟨r, h1, h2⟩ := slices_IndexFunc_int_int_l1_eq l (fun y0 => pit_all_int_1 n y0 f) (fun c => !g c) (fun c hc => by unfold pit_all_int_1; rw [hf c hc]; rfl) hs n 0 (by omega) (by omega)
  rw [show ((0 : Nat) : Int) = 0 from rfl] at h1
  rw [h1]
  simp only [List.drop_zero] at h2
  have hn : l.all g = !l.any fun c => !g c := by
    rw [List.not_any_eq_all_not]; simp
  rw [hn]
  split at h2
  · rename_i hm
    obtain ⟨k, hk, rfl⟩ := h2
    simp [Ex.bind, hm, hk]
  · rename_i hm
    subst h2
    simp [Ex.bind, hm]
end Go.Proofs.Ytkbphdjemgibnaa
namespace Go.Proofs.Ytkbphdjemgibnaa
open Go Go.RowKit
theorem cardEq (a b : Card) : ((a.bus == b.bus) && ((a.number == b.number) && ((a.minute == b.minute) && ((a.kind.n == b.kind.n) && ((a.part == b.part) && ((a.sg == b.sg) && true)))))) = decide (a = b) := by
  rcases a with ⟨a1, a2, a3, ⟨a4⟩, a5, a6⟩
  rcases b with ⟨b1, b2, b3, ⟨b4⟩, b5, b6⟩
  rw [Bool.eq_iff_iff]
  simp
def bad (a b : Card) : Bool := a.number == b.number && !decide (a = b)
theorem bad_iff {a b : Card} : bad a b = true ↔ a.number = b.number ∧ a ≠ b := by simp [bad]
def clash (l : List Card) : Bool := l.any fun a => l.any fun b => bad a b
theorem clash_iff {l : List Card} : clash l = true ↔ ∃ a ∈ l, ∃ b ∈ l, a.number = b.number ∧ a ≠ b := by
  simp only [clash, List.any_eq_true, bad_iff]
def faultL (l : List Card) : Int := if l.length > 40 then 3 else if l.all rightC then (if clash l then 6 else 0) else 1
theorem faultL_zero {l : List Card} : faultL l = 0 ↔ l.length ≤ 40 ∧ (∀ c ∈ l, rightC c = true) ∧ ∀ a ∈ l, ∀ b ∈ l, a.number = b.number → a = b := by
  unfold faultL
  split
  · constructor
    · intro h; cases h
    · intro ⟨h, _⟩; omega
  · rename_i h1
    split
    · rename_i h2
      split
      · rename_i h3
        obtain ⟨a, ha, b, hb, h4, h5⟩ := clash_iff.1 h3
        constructor
        · intro h; cases h
        · intro ⟨_, _, h⟩; exact absurd (h a ha b hb h4) h5
      · rename_i h3
        refine ⟨fun _ => ⟨by omega, List.all_eq_true.1 h2, fun a ha b hb h4 => Decidable.byContradiction fun h5 => h3 (clash_iff.2 ⟨a, ha, b, hb, h4, h5⟩)⟩, fun _ => rfl⟩
    · rename_i h2
      constructor
      · intro h; cases h
      · intro ⟨_, h, _⟩; exact absurd (List.all_eq_true.2 h) h2
theorem look?_mem {k : Int} {x : Card} {m : List (Int × Card)} (hn : (m.map (·.1)).Nodup) (h : (k, x) ∈ m) : look? m k = some x := by
  obtain ⟨j, hj⟩ := List.mem_iff_getElem?.1 h
  exact look?_at hn hj
theorem look?_some : ∀ {m : List (Int × Card)} {k : Int} {x : Card}, look? m k = some x → (k, x) ∈ m
  | [], k, x, h => by cases h
  | p :: r, k, x, h => by
    unfold look? at h
    split at h
    · rename_i hp
      cases h
      rw [← hp]; exact List.mem_cons_self ..
    · exact List.mem_cons_of_mem _ (look?_some h)
theorem look?_no {m : List (Int × Card)} {k : Int} (h : look? m k = none) (hn : (m.map (·.1)).Nodup) : ∀ p ∈ m, p.1 ≠ k := fun p hp e => by
  have := look?_mem hn (show (k, p.2) ∈ m from e ▸ hp)
  rw [h] at this; cases this
structure Inv (l : List Card) (i : Nat) (nums : List Int) (m : List (Int × Card)) : Prop where
  keys : m.map (·.1) = nums
  nd : nums.Nodup
  from_ : ∀ p ∈ m, p.2 ∈ l.take i ∧ p.2.number = p.1
  all : ∀ c ∈ l.take i, (c.number, c) ∈ m
  len : nums.length ≤ i
theorem take_succ' {l : List Card} {i : Nat} (h : i < l.length) {c : Card} : c ∈ l.take (i + 1) ↔ c ∈ l.take i ∨ c = l[i] := by
  rw [List.take_succ_eq_append_getElem h, List.mem_append, List.mem_singleton]
theorem pit_read_l1_eq (l : List Card) (hs : l.length ≤ 1000000) : ∀ (n i : Nat) (nums : List Int) (m : List (Int × Card)), l.length < n + i → i ≤ l.length → Inv l i nums m →
    ∃ r, pit_read_l1 n l nums (i : Int) m = some r ∧ ((r = Ex.ret (none, 6) ∧ clash l = true) ∨ (∃ nums' m', r = Ex.go (nums', m') ∧ Inv l l.length nums' m'))
  | 0, i, nums, m, h, hi, _ => by omega
  | n + 1, i, nums, m, h, hi, I => by
    rw [pit_read_l1, pf_lt]
    by_cases hx : i < l.length
    · simp only [hx, decide_true, cond_true, pf_idx _ _ hx, Option.bind_some, pit_cards_card, cardEq]
      rw [pf_w i (by omega)]
      have hn : (m.map (·.1)).Nodup := by rw [I.keys]; exact I.nd
      cases hl : look? m l[i].number with
      | some o =>
        have hL : lookD m l[i].number (Card.mk 0 0 0 (IK.mk 0) 0 0) = (o, true) := by unfold lookD; rw [hl]
        simp only [hL, cond_true, Option.bind_some]
        have ho := I.from_ _ (look?_some hl)
        by_cases he : o = l[i]
        · simp only [he, decide_true, Bool.not_true, cond_false]
          refine pit_read_l1_eq l hs n (i + 1) nums m (by omega) (by omega) ⟨I.keys, I.nd, fun p hp => ⟨(take_succ' hx).2 (Or.inl (I.from_ p hp).1), (I.from_ p hp).2⟩, fun c hc => ?_, by have := I.len; omega⟩
          rcases (take_succ' hx).1 hc with hc | rfl
          · exact I.all c hc
          · have := look?_some hl; rw [he] at this; exact this
        · simp only [he, decide_false, Bool.not_false, cond_true]
          exact ⟨_, rfl, Or.inl ⟨rfl, clash_iff.2 ⟨o, List.mem_of_mem_take ho.1, _, List.getElem_mem hx, ho.2, he⟩⟩⟩
      | none =>
        have hL : (lookD m l[i].number (Card.mk 0 0 0 (IK.mk 0) 0 0)).2 = false := by unfold lookD; rw [hl]
        simp only [hL, cond_false, Option.bind_some, Bool.not_false, cond_true]
        have hno := look?_no hl hn
        have hlen := I.len
        rw [pf_app _ _ (by simp; omega), put?_none hno]
        simp only [Option.bind_some]
        refine pit_read_l1_eq l hs n (i + 1) _ _ (by omega) (by omega) ⟨by rw [List.map_append, I.keys]; rfl, ?_, fun p hp => ?_, fun c hc => ?_, by simp; omega⟩
        · refine List.nodup_append.2 ⟨I.nd, by simp, ?_⟩
          intro a ha b hb
          rw [List.mem_singleton] at hb
          subst hb
          rw [← I.keys] at ha
          obtain ⟨p, hp, rfl⟩ := List.mem_map.1 ha
          exact hno p hp
        · rcases List.mem_append.1 hp with hp | hp
          · exact ⟨(take_succ' hx).2 (Or.inl (I.from_ p hp).1), (I.from_ p hp).2⟩
          · rw [List.mem_singleton] at hp
            subst hp
            exact ⟨(take_succ' hx).2 (Or.inr rfl), rfl⟩
        · rcases (take_succ' hx).1 hc with hc | rfl
          · exact List.mem_append_left _ (I.all c hc)
          · exact List.mem_append_right _ (by simp)
    · have : i = l.length := by omega
      subst this
      exact ⟨_, by simp, Or.inr ⟨nums, m, rfl, I⟩⟩
structure Good (l : List Card) (b : Bx Book) : Prop where
  sorted : b.v.numbers.Pairwise (· < ·)
  nums : ∀ k, k ∈ b.v.numbers ↔ ∃ c ∈ l, c.number = k
  mem : ∀ p, p ∈ b.v.cards.l ↔ p.2 ∈ l ∧ p.2.number = p.1
  look : ∀ c ∈ l, look? b.v.cards.l c.number = some c
  no : ∀ k, (∀ c ∈ l, c.number ≠ k) → look? b.v.cards.l k = none
  len1 : b.v.numbers.length ≤ l.length
  len2 : b.v.cards.l.length ≤ l.length
theorem sortI_mem {l : List Int} {x : Int} : x ∈ sortI l ↔ x ∈ l := List.mem_mergeSort
theorem sortI_le (l : List Int) : (sortI l).Pairwise (· ≤ ·) := by
  have := List.pairwise_mergeSort (le := fun x y : Int => decide (x ≤ y)) (by intro a b c; simp; omega) (by intro a b; simp; omega) l
  exact this.imp fun h => by simpa using h
theorem sortI_nodup {l : List Int} (h : l.Nodup) : (sortI l).Nodup := (List.mergeSort_perm l _).nodup_iff.2 h
theorem lt_of_le_nodup {l : List Int} (h1 : l.Pairwise (· ≤ ·)) (h2 : l.Nodup) : l.Pairwise (· < ·) :=
  List.Pairwise.imp₂ (fun _ _ h h' => by omega) h1 h2
theorem good_of {l : List Card} {nums : List Int} {m : List (Int × Card)} (I : Inv l l.length nums m) : Good l ⟨⟨⟨m⟩, sortI nums⟩⟩ := by
  have hn : (m.map (·.1)).Nodup := by rw [I.keys]; exact I.nd
  have hf := I.from_
  have ha := I.all
  rw [List.take_length] at hf ha
  have hm : ∀ p, p ∈ m ↔ p.2 ∈ l ∧ p.2.number = p.1 := fun p => ⟨fun hp => hf p hp, fun ⟨h1, h2⟩ => by
    have := ha p.2 h1
    rw [h2] at this; exact this⟩
  refine ⟨lt_of_le_nodup (sortI_le _) (sortI_nodup I.nd), fun k => ?_, hm, fun c hc => look?_mem hn (ha c hc), fun k hk => ?_, ?_, ?_⟩
  · show k ∈ sortI nums ↔ _
    rw [sortI_mem, ← I.keys, List.mem_map]
    constructor
    · rintro ⟨p, hp, rfl⟩
      exact ⟨p.2, (hm p).1 hp |>.1, ((hm p).1 hp).2⟩
    · rintro ⟨c, hc, rfl⟩
      exact ⟨_, ha c hc, rfl⟩
  · refine look?_none fun p hp e => ?_
    have := (hm p).1 hp
    exact hk _ this.1 (this.2.trans e)
  · show (sortI nums).length ≤ _
    rw [sortI_len]; exact I.len
  · show m.length ≤ _
    have := I.len
    rw [← I.keys, List.length_map] at this; exact this
theorem pit_read_eq (n : Nat) (l : List Card) (h : 81 < n) (hk : ∀ c ∈ l, 0 ≤ c.kind.n ∧ c.kind.n ≤ 255) :
    (faultL l ≠ 0 ∧ pit_read n l = some (none, faultL l)) ∨ (faultL l = 0 ∧ ∃ b, pit_read n l = some (some b, 0) ∧ Good l b) := by
  unfold pit_read faultL
  by_cases hl : l.length > 40
  · have : decide (((l.length : Nat) : Int) > 40) = true := by simp; omega
    rw [this, if_pos hl]
    exact Or.inl ⟨by decide, rfl⟩
  · have : decide (((l.length : Nat) : Int) > 40) = false := by simp; omega
    rw [this, if_neg hl, cond_false, pit_all_pit_Card_eq n l _ rightC (fun c hc => pit_Card_valid_eq n c (hk c hc)) (by omega) (by omega)]
    cases ha : l.all rightC with
    | false => exact Or.inl ⟨by simp, rfl⟩
    | true =>
      obtain ⟨r, h1, h2⟩ := pit_read_l1_eq l (by omega) n 0 [] [] (by omega) (by omega) ⟨rfl, List.nodup_nil, fun p hp => by simp at hp, fun c hc => by simp at hc, by simp⟩
      rw [show ((0 : Nat) : Int) = 0 from rfl] at h1
      simp only [if_true, Option.bind_some, Bool.not_true, cond_false, h1]
      rcases h2 with ⟨rfl, h3⟩ | ⟨nums, m, rfl, I⟩
      · refine Or.inl ?_
        simp [h3, Ex.bind]
      · refine Or.inr ?_
        have hc : ¬ clash l = true := fun hc => by
          obtain ⟨a, ha, b, hb, h4, h5⟩ := clash_iff.1 hc
          have G := good_of I
          have h6 := G.look a ha
          have h7 := G.look b hb
          rw [h4, h7] at h6
          exact h5 (Option.some.inj h6).symm
        refine ⟨by simp [hc], _, ?_, good_of I⟩
        have hlen := I.len
        have : sortO nums = some (sortI nums) := by unfold sortO; rw [if_pos (by omega)]
        simp [Ex.bind, this]
end Go.Proofs.Ytkbphdjemgibnaa
namespace Go.Proofs.Ytkbphdjemgibnaa
open Go Go.RowKit
def upTo (a b : Nat) : List Int := (List.range' a (b - a)).map fun i : Nat => (i : Int)
theorem mem_upTo {a b : Nat} {x : Int} : x ∈ upTo a b ↔ (a : Int) ≤ x ∧ x < (b : Int) := by
  unfold upTo
  simp only [List.mem_map, List.mem_range'_1]
  constructor
  · rintro ⟨i, h, rfl⟩; omega
  · intro h; exact ⟨x.toNat, by omega, by omega⟩
theorem upTo_sorted (a b : Nat) : (upTo a b).Pairwise (· < ·) := by
  unfold upTo
  rw [List.pairwise_map]
  exact (List.pairwise_lt_range' (s := a) (n := b - a)).imp fun h => by omega
theorem sorted_ext : ∀ {l l' : List Int}, l.Pairwise (· < ·) → l'.Pairwise (· < ·) → (∀ x, x ∈ l ↔ x ∈ l') → l = l' := fun {l l'} h1 h2 h =>
  List.Perm.eq_of_pairwise (fun a b _ _ h3 h4 => by omega) h1 h2 (pf_perm (h1.imp fun h => by omega) (h2.imp fun h => by omega) h)
def dfct (c : Card) : Bool := decide (c.kind.n < 2)
theorem defectC_eq {c : Card} (hk : 0 ≤ c.kind.n) : defectC c = dfct c := by
  unfold defectC dfct
  rw [Bool.eq_iff_iff]
  simp; omega
def openC (l : List Card) (d : Card) (m : Int) : Bool := !decide (d.minute > m) && l.all fun c => !(decide (c.minute ≤ m) && mendB c d)
theorem openB_eq {l : List Card} {b : Bx Book} (G : Good l b) (d : Card) (m : Int) : openB b d m = openC l d m := by
  unfold openB openC
  congr 1
  rw [Bool.eq_iff_iff, List.all_eq_true, List.all_eq_true]
  constructor
  · intro h c hc
    exact h (c.number, c) ((G.mem _).2 ⟨hc, rfl⟩)
  · intro h p hp
    exact h _ ((G.mem p).1 hp).1
def isOpen (l : List Card) (bus m k : Int) (c : Card) : Bool := c.number == k && (c.bus == bus && (dfct c && openC l c m))
def opensC (l : List Card) (bus m : Int) : List Int := (upTo 1 1000).filter fun k => l.any (isOpen l bus m k)
theorem right_range {c : Card} (h : rightC c = true) : 0 ≤ c.bus ∧ c.bus ≤ 99 ∧ 1 ≤ c.number ∧ c.number ≤ 999 ∧ 0 ≤ c.minute ∧ c.minute ≤ 1000000 := by
  simp only [rightC, Bool.and_eq_true, btw_true] at h
  omega
theorem mem_opensC {l : List Card} {bus m x : Int} (hf : faultL l = 0) : x ∈ opensC l bus m ↔ ∃ c ∈ l, c.number = x ∧ c.bus = bus ∧ dfct c = true ∧ openC l c m = true := by
  unfold opensC isOpen
  simp only [List.mem_filter, mem_upTo, List.any_eq_true, Bool.and_eq_true, beq_iff_eq]
  constructor
  · rintro ⟨_, c, hc, h⟩; exact ⟨c, hc, h⟩
  · rintro ⟨c, hc, rfl, h⟩
    have := right_range ((faultL_zero.1 hf).2.1 c hc)
    exact ⟨by omega, c, hc, rfl, h⟩
theorem opensC_sorted (l : List Card) (bus m : Int) : (opensC l bus m).Pairwise (· < ·) := (upTo_sorted 1 1000).sublist List.filter_sublist
theorem bookAt_eq {l : List Card} {b : Bx Book} (G : Good l b) {c : Card} (hc : c ∈ l) : bookAt b c.number = c := by
  unfold bookAt lookD; rw [G.look c hc]
theorem opensOf_eq {b : Bx Book} {bus m : Int} : ∀ {ks : List Int}, (∀ k ∈ ks, (bookAt b k).number = k) → opensOf b bus m ks = ks.filter fun k => (bookAt b k).bus == bus && (defectC (bookAt b k) && openB b (bookAt b k) m)
  | [], _ => rfl
  | k :: ks, h => by
    have IH := opensOf_eq (b := b) (bus := bus) (m := m) (ks := ks) fun k hk => h k (List.mem_cons_of_mem _ hk)
    unfold opensOf at *
    rw [List.map_cons, List.filter_cons, List.filter_cons]
    split
    · rw [List.map_cons, IH, h k (List.mem_cons_self ..)]
    · exact IH
theorem opensB_eq {l : List Card} {b : Bx Book} (G : Good l b) (hf : faultL l = 0) (hk : ∀ c ∈ l, 0 ≤ c.kind.n ∧ c.kind.n ≤ 255) (bus m : Int) : opensB b bus m = opensC l bus m := by
  have hn : ∀ k ∈ b.v.numbers, (bookAt b k).number = k := fun k hk => by
    obtain ⟨c, hc, rfl⟩ := (G.nums k).1 hk
    rw [bookAt_eq G hc]
  unfold opensB
  rw [opensOf_eq hn]
  refine sorted_ext (G.sorted.sublist List.filter_sublist) (opensC_sorted l bus m) fun x => ?_
  rw [mem_opensC hf, List.mem_filter, G.nums]
  simp only [Bool.and_eq_true, beq_iff_eq]
  constructor
  · rintro ⟨⟨c, hc, rfl⟩, h1, h2, h3⟩
    rw [bookAt_eq G hc] at h1 h2 h3
    rw [defectC_eq (hk c hc).1] at h2
    rw [openB_eq G] at h3
    exact ⟨c, hc, rfl, h1, h2, h3⟩
  · rintro ⟨c, hc, rfl, h1, h2, h3⟩
    rw [bookAt_eq G hc, defectC_eq (hk c hc).1, openB_eq G]
    exact ⟨⟨c, hc, rfl⟩, h1, h2, h3⟩
theorem pit_Open_eq (n : Nat) (l : List Card) (bus m : Int) (h : 100 ≤ n) (hk : ∀ c ∈ l, 0 ≤ c.kind.n ∧ c.kind.n ≤ 255) :
    pit_Open n l bus m = some (if faultL l = 0 then (if btw bus 0 99 && btw m 0 1000000 then (opensC l bus m, 0) else ([], 2)) else ([], faultL l)) := by
  unfold pit_Open
  rcases pit_read_eq n l (by omega) hk with ⟨h0, hr⟩ | ⟨h0, b, hr, G⟩
  · rw [hr, if_neg h0]
    simp only [Option.bind_some, ptrCase_none]
    rw [show (faultL l != 0) = true by simp [h0]]; rfl
  · rw [hr, if_pos h0]
    have h40 := (faultL_zero.1 h0).1
    have h1 := G.len1
    have h2 := G.len2
    simp only [Option.bind_some, ptrCase_some, pit_within_eq, pit_minute_eq', pit_book_opens_eq n b bus m (by omega) (by omega) (by omega), opensB_eq G h0 hk]
    cases btw bus 0 99 <;> cases btw m 0 1000000 <;> rfl
def fits (l : List Card) (m b : Int) (c : Card) : Bool := !(c.bus == b) || !(dfct c && openC l c m)
def fitC (l : List Card) (m : Int) : List Int := (upTo 0 100).filter fun b => l.any (fun c => c.bus == b) && l.all (fits l m b)
theorem mem_fitC {l : List Card} {m b : Int} (hf : faultL l = 0) : b ∈ fitC l m ↔ (∃ c ∈ l, c.bus = b) ∧ ∀ c ∈ l, c.bus = b → dfct c = true → openC l c m = false := by
  unfold fitC fits
  simp only [List.mem_filter, mem_upTo, List.any_eq_true, List.all_eq_true, Bool.and_eq_true, beq_iff_eq]
  constructor
  · rintro ⟨_, h1, h2⟩
    refine ⟨h1, fun c hc h3 h4 => ?_⟩
    have := h2 c hc
    rw [h4] at this
    simpa [h3] using this
  · rintro ⟨⟨c, hc, rfl⟩, h2⟩
    have := right_range ((faultL_zero.1 hf).2.1 c hc)
    refine ⟨by omega, ⟨c, hc, rfl⟩, fun d hd => ?_⟩
    cases h3 : d.bus == c.bus with
    | false => rfl
    | true =>
      cases h4 : dfct d with
      | false => rfl
      | true => rw [h2 d hd (by simpa using h3) h4]; rfl
theorem fitC_sorted (l : List Card) (m : Int) : (fitC l m).Pairwise (· < ·) := (upTo_sorted 0 100).sublist List.filter_sublist
theorem mem_fitC' {l : List Card} {m b : Int} (hf : faultL l = 0) : b ∈ fitC l m ↔ (∃ c ∈ l, c.bus = b) ∧ opensC l b m = [] := by
  rw [mem_fitC hf]
  refine and_congr_right fun _ => ?_
  constructor
  · intro h
    refine List.eq_nil_iff_forall_not_mem.2 fun x hx => ?_
    obtain ⟨c, hc, _, h2, h3, h4⟩ := (mem_opensC hf).1 hx
    rw [h c hc h2 h3] at h4; cases h4
  · intro h c hc h2 h3
    cases h4 : openC l c m with
    | false => rfl
    | true =>
      have : c.number ∈ opensC l b m := (mem_opensC hf).2 ⟨c, hc, rfl, h2, h3, h4⟩
      rw [h] at this; cases this
theorem fitB_eq {l : List Card} {b : Bx Book} (G : Good l b) (hf : faultL l = 0) (hk : ∀ c ∈ l, 0 ≤ c.kind.n ∧ c.kind.n ≤ 255) (m : Int) : fitB b m = fitC l m := by
  unfold fitB
  refine sorted_ext (lt_of_le_nodup (sortI_le _) (sortI_nodup ((nodup_ddup _).filter _))) (fitC_sorted l m) fun x => ?_
  rw [mem_fitC' hf, sortI_mem, List.mem_filter, mem_ddup, List.mem_map, opensB_eq G hf hk, List.isEmpty_iff]
  refine and_congr_left fun _ => ?_
  constructor
  · rintro ⟨p, hp, rfl⟩; exact ⟨_, ((G.mem p).1 hp).1, rfl⟩
  · rintro ⟨c, hc, rfl⟩; exact ⟨(c.number, c), (G.mem _).2 ⟨hc, rfl⟩, rfl⟩
theorem pit_Fit_eq (n : Nat) (l : List Card) (m : Int) (h : 200 ≤ n) (hk : ∀ c ∈ l, 0 ≤ c.kind.n ∧ c.kind.n ≤ 255) :
    pit_FitL n l m = some (if faultL l = 0 then (if btw m 0 1000000 then (fitC l m, 0) else ([], 2)) else ([], faultL l)) := by
  unfold pit_FitL
  rcases pit_read_eq n l (by omega) hk with ⟨h0, hr⟩ | ⟨h0, b, hr, G⟩
  · rw [hr, if_neg h0]
    simp only [Option.bind_some, ne_eq, h0, not_false_eq_true, if_true]
  · rw [hr, if_pos h0]
    have h40 := (faultL_zero.1 h0).1
    have h1 := G.len1
    have h2 := G.len2
    simp only [Option.bind_some, ne_eq, not_true_eq_false, if_false, fitB_eq G h0 hk]
    rw [if_pos (show b.v.numbers.length + b.v.cards.l.length + b.v.cards.l.length + 2 < n ∧ b.v.numbers.length ≤ 1000 ∧ b.v.cards.l.length ≤ 1000 by omega)]
    by_cases hm : 0 ≤ m ∧ m ≤ 1000000
    · rw [if_neg (by simpa using hm), if_pos (btw_true.2 hm)]
    · rw [if_pos hm, if_neg (by rw [btw_true]; exact hm)]
end Go.Proofs.Ytkbphdjemgibnaa
namespace Go.Proofs.Ytkbphdjemgibnaa
open Go Go.RowKit
def boardL : List Card := [(Card.mk 7 1 100 (IK.mk 0) 3 0), (Card.mk 7 2 120 (IK.mk 1) 4 0), (Card.mk 7 3 200 (IK.mk 2) 0 1), (Card.mk 7 4 300 (IK.mk 3) 0 0), (Card.mk 8 5 150 (IK.mk 0) 1 0), (Card.mk 8 6 400 (IK.mk 2) 0 1), (Card.mk 7 7 310 (IK.mk 0) 5 0)]
theorem boardL_in : ∀ c ∈ boardL, 0 ≤ c.kind.n ∧ c.kind.n ≤ 255 := by decide
theorem boardL_ok : faultL boardL = 0 := by kernel_rfl
theorem wakesA : pit_Open 1300 boardL 7 250 = some ([2], 0) := by
  rw [pit_Open_eq _ _ _ _ (by decide) boardL_in, if_pos boardL_ok]; kernel_rfl
theorem wakesB : pit_FitL 1300 boardL 130 = some ([8], 0) := by
  rw [pit_Fit_eq _ _ _ (by decide) boardL_in, if_pos boardL_ok]; kernel_rfl
set_option maxRecDepth 100000 in
theorem wakes1300 : law_wakes 1300 = some true := by
  have e : law_board 1300 = some boardL := rfl
  unfold law_wakes
  rw [e]
  rw [Option.bind_some, wakesA, Option.bind_some, Option.bind_some, wakesB, Option.bind_some]
  show _ = some true
  kernel_rfl
end Go.Proofs.Ytkbphdjemgibnaa
namespace Go.Proofs.Ytkbphdjemgibnaa
open Go Go.RowKit
def spanR (r : Rg) (most : Int) : Bool := btw r.lo 0 r.hi && decide (r.hi ≤ most)
def wearR (w : Wear) : Bool := spanR w.miles 100000 && (spanR w.daily 1000 && (btw w.age 0 1000 && (btw w.far 1 100000 && btw w.long 1 1000)))
theorem ref_RightWear_eq (n : Nat) (w : Wear) : ref_RightWear n w = some (wearR w) := by
  unfold ref_RightWear ref_span wearR
  simp only [ref_In_eq, Option.bind_some]
  unfold spanR
  cases btw w.miles.lo 0 w.miles.hi <;> cases decide (w.miles.hi ≤ 100000) <;> cases btw w.daily.lo 0 w.daily.hi <;> cases decide (w.daily.hi ≤ 1000) <;> cases btw w.age 0 1000 <;> cases btw w.far 1 100000 <;> rfl
theorem pit_Range_upto_eq (n : Nat) (r : Rg) (most : Int) : pit_Range_upto n r most = some (spanR r most) := by
  unfold pit_Range_upto spanR btw
  cases decide (0 ≤ r.lo) <;> cases decide (r.lo ≤ r.hi) <;> rfl
theorem pit_Wear_valid_eq (n : Nat) (w : Wear) : pit_Wear_valid n w = some (wearR w) := by
  unfold pit_Wear_valid wearR
  simp only [pit_Range_upto_eq, pit_within_eq, Option.bind_some]
  cases spanR w.miles 100000 <;> cases spanR w.daily 1000 <;> cases btw w.age 0 1000 <;> cases btw w.far 1 100000 <;> rfl
structure Worn (w : Wear) : Prop where
  m : 0 ≤ w.miles.lo ∧ w.miles.lo ≤ w.miles.hi ∧ w.miles.hi ≤ 100000
  d : 0 ≤ w.daily.lo ∧ w.daily.lo ≤ w.daily.hi ∧ w.daily.hi ≤ 1000
  a : 0 ≤ w.age ∧ w.age ≤ 1000
  f : 1 ≤ w.far ∧ w.far ≤ 100000
  l : 1 ≤ w.long ∧ w.long ≤ 1000
theorem worn_of {w : Wear} (h : wearR w = true) : Worn w := by
  simp only [wearR, spanR, Bool.and_eq_true, btw_true, decide_eq_true_eq] at h
  obtain ⟨⟨⟨a, b⟩, c⟩, ⟨⟨d, e⟩, f⟩, g, i, j⟩ := h
  exact ⟨⟨a, b, c⟩, ⟨d, e, f⟩, g, i, j⟩
theorem mulB {d k : Int} (h0 : 0 ≤ d) (h1 : d ≤ 1000) (h2 : 0 ≤ k) (h3 : k ≤ 1000) : 0 ≤ d * k ∧ d * k ≤ 1000000 :=
  ⟨Int.mul_nonneg h0 h2, by have := Int.mul_le_mul h1 h3 h2 (by omega : (0 : Int) ≤ 1000); omega⟩
def overAt (w : Wear) (m k : Int) (d : Nat) : Bool := decide (m + d * k ≥ w.far) || decide (w.age + d ≥ w.long)
structure IsFirst (w : Wear) (m k : Int) (d : Nat) : Prop where
  at_ : overAt w m k d = true
  no : ∀ e, e < d → overAt w m k e = false
def ageD (w : Wear) : Nat := (w.long - w.age).toNat
theorem over_ageD {w : Wear} (m k : Int) : overAt w m k (ageD w) = true := by
  have : decide (w.age + (ageD w : Int) ≥ w.long) = true := by simp [ageD]; omega
  unfold overAt; rw [this, Bool.or_true]
theorem pit_later_eq (n : Nat) (a b : Int) (h : 3 ≤ n) : pit_later n [a, b] = some (if b > a then b else a) := by
  obtain ⟨k, rfl⟩ : ∃ k, n = k + 3 := ⟨n - 3, by omega⟩
  simp [pit_later, slices_Max_int_int, slices_Max_int_int_l1, idx, show IntKind.i64.wrap 2 = 2 by decide]
theorem pit_Wear_first_l1_ex {w : Wear} (V : Worn w) {m k : Int} (hm : 0 ≤ m ∧ m ≤ 100000) (hk : 0 ≤ k ∧ k ≤ 1000) : ∀ (n i : Nat), ageD w < n + i → i ≤ ageD w → (∀ e, e < i → overAt w m k e = false) →
    ∃ r, pit_Wear_first_l1 n w m k (ageD w : Int) (i : Int) = some r ∧ ((∃ d : Nat, r = Ex.ret (d : Int) ∧ IsFirst w m k d ∧ d ≤ ageD w) ∨ (r = Ex.go () ∧ IsFirst w m k (ageD w)))
  | 0, i, h, hi, _ => by omega
  | n + 1, i, h, hi, hno => by
    have hD : ageD w ≤ 1000 := by have := V.a; have := V.l; unfold ageD; omega
    have hb := mulB (d := (i : Int)) (k := k) (by omega) (by omega) hk.1 hk.2
    have ha := V.a
    rw [pit_Wear_first_l1, pwid (x := (i : Int) * k) (by omega) (by omega), pwid (x := m + (i : Int) * k) (by omega) (by omega), pf_w i (by omega)]
    by_cases hx : i < ageD w
    · rw [show decide ((i : Int) < (ageD w : Int)) = true by simp; omega, cond_true]
      have hl : decide (w.age + (i : Int) ≥ w.long) = false := by simp; unfold ageD at hx; omega
      cases ho : decide (m + (i : Int) * k ≥ w.far) with
      | true => exact ⟨_, rfl, Or.inl ⟨i, rfl, ⟨by unfold overAt; rw [ho]; rfl, hno⟩, hi⟩⟩
      | false =>
        rw [cond_false]
        exact pit_Wear_first_l1_ex V hm hk n (i + 1) (by omega) (by omega) (fun e he => by
          rcases Nat.lt_or_ge e i with h' | h'
          · exact hno e h'
          · obtain rfl : e = i := by omega
            unfold overAt; rw [ho, hl]; rfl)
    · obtain rfl : i = ageD w := by omega
      exact ⟨_, by simp, Or.inr ⟨rfl, over_ageD _ _, hno⟩⟩
theorem pit_Wear_first_ex {w : Wear} (V : Worn w) {m k : Int} (hm : 0 ≤ m ∧ m ≤ 100000) (hk : 0 ≤ k ∧ k ≤ 1000) (n : Nat) (h : 1001 ≤ n) : ∃ d : Nat, pit_Wear_first n w m k = some (d : Int) ∧ IsFirst w m k d ∧ d ≤ ageD w := by
  have hD : ageD w ≤ 1000 := by have := V.a; have := V.l; unfold ageD; omega
  have ha := V.a
  have hl := V.l
  obtain ⟨r, h1, h2⟩ := pit_Wear_first_l1_ex V hm hk n 0 (by omega) (by omega) (fun e he => by omega)
  rw [show ((0 : Nat) : Int) = 0 from rfl] at h1
  unfold pit_Wear_first
  rw [pit_later_eq _ _ _ (by omega), pwid (x := w.long - w.age) (by omega) (by omega)]
  have he : (if w.long - w.age > 0 then w.long - w.age else 0) = (ageD w : Int) := by unfold ageD; split <;> omega
  rw [he, Option.bind_some, h1]
  rcases h2 with ⟨d, rfl, h3, h4⟩ | ⟨rfl, h3⟩
  · exact ⟨d, rfl, h3, h4⟩
  · exact ⟨ageD w, rfl, h3, Nat.le_refl _⟩
theorem pit_Due_ex {w : Wear} (h : wearR w = true) (n : Nat) (hn : 1001 ≤ n) : ∃ d s : Nat, pit_Due n w = some ((d : Int), (s : Int), 0) ∧ IsFirst w w.miles.hi w.daily.hi d ∧ IsFirst w w.miles.lo w.daily.lo s ∧ s ≤ ageD w := by
  have V := worn_of h
  have hm := V.m
  have hd := V.d
  obtain ⟨d, h1, h2, _⟩ := pit_Wear_first_ex V (m := w.miles.hi) (k := w.daily.hi) (by omega) (by omega) n hn
  obtain ⟨s, h3, h4, h5⟩ := pit_Wear_first_ex V (m := w.miles.lo) (k := w.daily.lo) (by omega) (by omega) n hn
  refine ⟨d, s, ?_, h2, h4, h5⟩
  unfold pit_Due
  rw [pit_Wear_valid_eq, h, Option.bind_some, Bool.not_true, cond_false, h1, Option.bind_some, h3]; rfl
theorem sum_bound {lo hi : Int} (h0 : 0 ≤ lo) : ∀ {l : List Int}, (∀ x ∈ l, lo ≤ x ∧ x ≤ hi) → l.length * lo ≤ l.sum ∧ l.sum ≤ l.length * hi
  | [], _ => by simp
  | x :: l, h => by
    have h1 := h x (List.mem_cons_self ..)
    have h2 := sum_bound h0 (l := l) fun y hy => h y (List.mem_cons_of_mem _ hy)
    simp only [List.sum_cons, List.length_cons, Int.natCast_succ, Int.add_mul, Int.one_mul]
    omega
theorem over_loop (f : Nat → List Int → Int → Int → Option Int) (hf : ∀ n l i a, f (n + 1) l i a = (bif decide (i < ((l.length : Nat) : Int)) then ((idx l i).bind fun x => f n l (IntKind.i64.wrap (i + 1)) (IntKind.i64.wrap (a + x))) else some a))
    (l : List Int) (hl : l.length ≤ 1000) (hx : ∀ x ∈ l, 0 ≤ x ∧ x ≤ 1000) : ∀ (n i : Nat) (a : Int), l.length < n + i → i ≤ l.length → 0 ≤ a → a ≤ 100000 + 1000 * i → f n l (i : Int) a = some (a + (l.drop i).sum)
  | 0, i, a, h, hi, _, _ => by omega
  | n + 1, i, a, h, hi, h0, h1 => by
    rw [hf, pf_lt]
    by_cases hx' : i < l.length
    · have hd : l.drop i = l[i] :: l.drop (i + 1) := List.drop_eq_getElem_cons hx'
      have hb := hx _ (List.getElem_mem hx')
      simp only [hx', decide_true, cond_true, pf_idx _ _ hx', Option.bind_some]
      rw [pf_w i (by omega), pwid (by omega) (by omega), over_loop f hf l hl hx n (i + 1) _ (by omega) (by omega) (by omega) (by omega), hd, List.sum_cons, Int.add_assoc]
    · obtain rfl : i = l.length := by omega
      simp
def truthR (w : Wear) (miles : Int) (daily : List Int) : Bool := daily.all (fun x => btw x w.daily.lo w.daily.hi) && (btw miles w.miles.lo w.miles.hi && decide (daily.length ≤ 1000))
def overR (w : Wear) (miles : Int) (daily : List Int) : Bool := decide (miles + daily.sum ≥ w.far) || decide (w.age + ((daily.length : Nat) : Int) ≥ w.long)
theorem truthR_true {w : Wear} {miles : Int} {daily : List Int} : truthR w miles daily = true ↔ (∀ x ∈ daily, w.daily.lo ≤ x ∧ x ≤ w.daily.hi) ∧ (w.miles.lo ≤ miles ∧ miles ≤ w.miles.hi) ∧ daily.length ≤ 1000 := by
  simp only [truthR, Bool.and_eq_true, List.all_eq_true, btw_true, decide_eq_true_eq]
theorem pit_Over_eq (n : Nat) (w : Wear) (miles : Int) (l : List Int) (h : l.length < n) (hs : l.length ≤ 1000000) :
    pit_Over n w miles l = some (if wearR w = true then (if truthR w miles l = true then (overR w miles l, 0) else (false, 2)) else (false, 1)) := by
  unfold pit_Over
  rw [pit_Wear_valid_eq, Option.bind_some]
  cases hw : wearR w with
  | false => rfl
  | true =>
    have V := worn_of hw
    have hVd := V.d
    have hVm := V.m
    have hVa := V.a
    rw [pit_all_int_eq n l _ (fun x => btw x w.daily.lo w.daily.hi) (fun c _ => by unfold pit_Over_1; rw [pit_within_eq]; rfl) h hs, pit_within_eq]
    simp only [Option.bind_some, Bool.not_true, cond_false, if_true]
    have e : decide (((l.length : Nat) : Int) > 1000) = !decide (l.length ≤ 1000) := by rw [Bool.eq_iff_iff]; simp; omega
    rw [e]
    cases ht : truthR w miles l with
    | false =>
      unfold truthR at ht
      generalize l.all (fun x => btw x w.daily.lo w.daily.hi) = a at *
      generalize btw miles w.miles.lo w.miles.hi = b at *
      generalize decide (l.length ≤ 1000) = c at *
      cases a <;> cases b <;> cases c <;> first | rfl | cases ht
    | true =>
      have hT := truthR_true.1 ht
      simp only [truthR, Bool.and_eq_true] at ht
      rw [ht.1, ht.2.1, ht.2.2]
      have hx : ∀ x ∈ l, 0 ≤ x ∧ x ≤ 1000 := fun x hx => by have := hT.1 x hx; omega
      have h1 := over_loop pit_Over_l1 (fun n l i a => by rw [pit_Over_l1]) l hT.2.2 hx n 0 miles (by omega) (by omega) (by omega) (by omega)
      rw [show ((0 : Nat) : Int) = 0 from rfl, List.drop_zero] at h1
      simp only [Bool.not_true, cond_false, Option.bind_some, h1, if_true]
      rw [pwid (x := w.age + ((l.length : Nat) : Int)) (by omega) (by omega)]
      unfold overR
      cases decide (miles + l.sum ≥ w.far) <;> rfl
end Go.Proofs.Ytkbphdjemgibnaa
namespace Go.Proofs.Ytkbphdjemgibnaa
open Go Go.RowKit
theorem ref_Days_l1_eq (k : Int) (many : Nat) (hm : many ≤ 1000000) : ∀ (n i : Nat) (acc : List Int), many < n + i → i ≤ many → acc.length = i →
    ref_Days_l1 n k (many : Int) acc (i : Int) = some (acc ++ List.replicate (many - i) k)
  | 0, i, acc, h, hi, _ => by omega
  | n + 1, i, acc, h, hi, ha => by
    rw [ref_Days_l1]
    by_cases hx : i < many
    · rw [show decide ((i : Int) < (many : Int)) = true by simp; omega, cond_true, pf_app _ _ (by simp; omega), Option.bind_some, pf_w i (by omega), ref_Days_l1_eq k many hm n (i + 1) _ (by omega) (by omega) (by simp; omega),
        show many - i = (many - (i + 1)) + 1 by omega, List.replicate_succ, List.append_assoc]
      rfl
    · obtain rfl : i = many := by omega
      simp
theorem ref_Days_eq (n : Nat) (k : Int) (many : Nat) (hm : many ≤ 1000000) (h : many < n) : ref_Days n k (many : Int) = some (List.replicate many k) := by
  unfold ref_Days
  have := ref_Days_l1_eq k many hm n 0 [] (by omega) (by omega) rfl
  rw [show ((0 : Nat) : Int) = 0 from rfl] at this
  rw [this]; rfl
theorem law_PitRuns_l1_ex (w : Wear) (V : Worn w) (words : List (IK .u16)) (hw : ∀ x ∈ words, 0 ≤ x.n ∧ x.n ≤ 65535) (day : IK .u16) (N : Nat) (hN : Int.tmod (IntKind.i64.wrap day.n) 1001 = (N : Int)) (hN2 : N ≤ 1000) :
    ∀ (n i : Nat) (acc : List Int), N < n + i → i ≤ N → acc.length = i → (∀ x ∈ acc, w.daily.lo ≤ x ∧ x ≤ w.daily.hi) →
    ∃ l, law_PitRuns_l1 n w words day acc (i : Int) = some l ∧ l.length = N ∧ ∀ x ∈ l, w.daily.lo ≤ x ∧ x ≤ w.daily.hi
  | 0, i, acc, h, hi, _, _ => by omega
  | n + 1, i, acc, h, hi, ha, hacc => by
    have hd := V.d
    rw [law_PitRuns_l1, hN]
    by_cases hx : i < N
    · rw [show decide ((i : Int) < (N : Int)) = true by simp; omega, cond_true]
      have key : ∀ k : Int, 0 ≤ k → k ≤ 65535 → ∃ l, ((nz (IntKind.i64.wrap ((IntKind.i64.wrap (w.daily.hi - w.daily.lo)) + 1))).bind fun x82 =>
          ((app acc ([IntKind.i64.wrap (w.daily.lo + (Int.tmod k (IntKind.i64.wrap ((IntKind.i64.wrap (w.daily.hi - w.daily.lo)) + 1))))] : List Int)).bind fun x85 =>
          law_PitRuns_l1 n w words day x85 (IntKind.i64.wrap ((i : Int) + 1)))) = some l ∧ l.length = N ∧ ∀ x ∈ l, w.daily.lo ≤ x ∧ x ≤ w.daily.hi := by
        intro k h0 h1
        rw [pwid (x := w.daily.hi - w.daily.lo) (by omega) (by omega), pwid (x := w.daily.hi - w.daily.lo + 1) (by omega) (by omega)]
        have hz : nz (w.daily.hi - w.daily.lo + 1) = some () := by unfold nz; rw [if_neg (by omega)]
        have t0 := Int.tmod_nonneg (w.daily.hi - w.daily.lo + 1) h0
        have t1 := Int.tmod_lt_of_pos k (show 0 < w.daily.hi - w.daily.lo + 1 by omega)
        rw [hz, Option.bind_some, pwid (by omega) (by omega), pf_app _ _ (by simp; omega), Option.bind_some, pf_w i (by omega)]
        refine law_PitRuns_l1_ex w V words hw day N hN hN2 n (i + 1) _ (by omega) (by omega) (by simp; omega) fun x hx => ?_
        rcases List.mem_append.1 hx with hx | hx
        · exact hacc x hx
        · rw [List.mem_singleton] at hx; omega
      by_cases h0 : words.length = 0
      · rw [show decide (((words.length : Nat) : Int) > 0) = false by simp [h0], cond_false, Option.bind_some]
        exact key 0 (by omega) (by omega)
      · rw [show decide (((words.length : Nat) : Int) > 0) = true by simp; omega, cond_true]
        have hz : nz ((words.length : Nat) : Int) = some () := by unfold nz; rw [if_neg (by omega)]
        have ht : Int.tmod (i : Int) ((words.length : Nat) : Int) = ((i % words.length : Nat) : Int) := (Int.ofNat_tmod i words.length).symm ▸ rfl
        have hlt : i % words.length < words.length := Nat.mod_lt _ (by omega)
        have hq := hw _ (List.getElem_mem hlt)
        rw [hz, Option.bind_some, ht, pf_idx _ _ hlt, Option.bind_some, Option.bind_some, pwid (x := (words[i % words.length]'hlt).n) (by omega) (by omega)]
        exact key _ hq.1 hq.2
    · obtain rfl : i = N := by omega
      exact ⟨acc, by simp, ha, hacc⟩
theorem sum_replicate (k : Int) : ∀ n : Nat, (List.replicate n k).sum = n * k
  | 0 => by simp
  | n + 1 => by rw [List.replicate_succ, List.sum_cons, sum_replicate k n, Int.natCast_succ, Int.add_mul]; omega
theorem over_replicate (w : Wear) (m k : Int) (d : Nat) : overR w m (List.replicate d k) = overAt w m k d := by
  unfold overR overAt
  rw [sum_replicate, List.length_replicate]
theorem over_mono {w : Wear} {m m' k k' : Int} {d : Nat} (h1 : m ≤ m') (h2 : k ≤ k') (h : overAt w m k d = true) : overAt w m' k' d = true := by
  unfold overAt at *
  rw [Bool.or_eq_true, decide_eq_true_eq] at *
  have := Int.mul_le_mul_of_nonneg_left h2 (Int.natCast_nonneg d)
  rcases h with h | h
  · exact Or.inl (by omega)
  · exact Or.inr h
theorem pitRuns_law (n : Nat) (w : Wear) (miles : IK .u32) (words : List (IK .u16)) (day : IK .u16) (h : 1200 ≤ n) (hw : law_wakes n = some true) (hm : 0 ≤ miles.n ∧ miles.n ≤ 4294967295) (hd : 0 ≤ day.n ∧ day.n ≤ 65535)
    (hwd : ∀ x ∈ words, 0 ≤ x.n ∧ x.n ≤ 65535) : law_PitRuns n w miles words day = some true := by
  unfold law_PitRuns
  rw [ref_RightWear_eq, hw]
  cases hr : wearR w with
  | false => rfl
  | true =>
    have V := worn_of hr
    have hVd := V.d
    have hVm := V.m
    have hVa := V.a
    have hVl := V.l
    obtain ⟨d, s, h1, h2, h3, h4⟩ := pit_Due_ex hr n (by omega)
    have hds : d ≤ s := by
      rcases Nat.lt_or_ge s d with h' | h'
      · have := h2.no s h'
        rw [over_mono (by omega) (by omega) h3.at_] at this; cases this
      · exact h'
    have hsl : (s : Int) ≤ w.long := by unfold ageD at h4; omega
    have hs : s ≤ 1000 := by omega
    have t0 := Int.tmod_nonneg 1001 hd.1
    have t1 := Int.tmod_lt_of_pos day.n (show (0 : Int) < 1001 by omega)
    obtain ⟨N, hN⟩ : ∃ N : Nat, Int.tmod day.n 1001 = (N : Int) := ⟨(Int.tmod day.n 1001).toNat, by omega⟩
    have hN2 : N ≤ 1000 := by omega
    have hN' : Int.tmod (IntKind.i64.wrap day.n) 1001 = (N : Int) := by rw [pwid (by omega) (by omega), hN]
    obtain ⟨l, h5, h6, h7⟩ := law_PitRuns_l1_ex w V words hwd day N hN' hN2 n 0 [] (by omega) (by omega) rfl (fun x hx => by cases hx)
    rw [show ((0 : Nat) : Int) = 0 from rfl] at h5
    simp only [Option.bind_some, Bool.not_true, cond_false, law_Wear, h1, bne_self_eq_false]
    rw [show decide ((d : Int) < 0) = false from decide_eq_false (by omega), show decide ((d : Int) > (s : Int)) = false by simp; omega, show decide ((s : Int) > w.long) = false by simp; omega]
    simp only [cond_false, Option.bind_some, h5]
    rw [pwid (x := w.miles.hi - w.miles.lo) (by omega) (by omega), pwid (x := w.miles.hi - w.miles.lo + 1) (by omega) (by omega), pwid (x := miles.n) (by omega) (by omega)]
    have hz : nz (w.miles.hi - w.miles.lo + 1) = some () := by unfold nz; rw [if_neg (by omega)]
    have q0 := Int.tmod_nonneg (w.miles.hi - w.miles.lo + 1) hm.1
    have q1 := Int.tmod_lt_of_pos miles.n (show 0 < w.miles.hi - w.miles.lo + 1 by omega)
    rw [hz, Option.bind_some, pwid (x := w.miles.lo + _) (by omega) (by omega)]
    generalize hM : w.miles.lo + Int.tmod miles.n (w.miles.hi - w.miles.lo + 1) = M at *
    have hM1 : w.miles.lo ≤ M ∧ M ≤ w.miles.hi := by omega
    have T1 : truthR w M l = true := truthR_true.2 ⟨h7, hM1, by omega⟩
    have hR : ∀ (k : Int) (q : Nat), w.daily.lo ≤ k → k ≤ w.daily.hi → q ≤ 1000 → ∀ m, w.miles.lo ≤ m → m ≤ w.miles.hi → truthR w m (List.replicate q k) = true := fun k q a b c m e f =>
      truthR_true.2 ⟨fun x hx => by rw [List.eq_of_mem_replicate hx]; exact ⟨a, b⟩, ⟨e, f⟩, by simpa using c⟩
    have hs1 : (if IntKind.i64.wrap ((s : Int) - 1) > 0 then IntKind.i64.wrap ((s : Int) - 1) else 0) = ((s - 1 : Nat) : Int) := by
      rw [pwid (by omega) (by omega)]; split <;> omega
    rw [hs1, ref_Days_eq n _ d (by omega) (by omega), ref_Days_eq n _ (s - 1) (by omega) (by omega)]
    simp only [Option.bind_some]
    rw [pit_Over_eq n w M l (by omega) (by omega), pit_Over_eq n w w.miles.hi (List.replicate d w.daily.hi) (by simp; omega) (by simp; omega), pit_Over_eq n w w.miles.lo (List.replicate (s - 1) w.daily.lo) (by simp; omega) (by simp; omega)]
    rw [if_pos hr, if_pos T1, if_pos hr, if_pos (hR _ d (by omega) (by omega) (by omega) _ (by omega) (by omega)), if_pos hr, if_pos (hR _ (s - 1) (by omega) (by omega) (by omega) _ (by omega) (by omega))]
    simp only [Option.bind_some, bne_self_eq_false, cond_false, over_replicate, h2.at_, Bool.not_true, hN']
    have hb : (bif decide ((s : Int) > 0) then some (overAt w w.miles.lo w.daily.lo (s - 1)) else some false) = some false := by
      by_cases h0 : s = 0
      · rw [show decide ((s : Int) > 0) = false by simp [h0]]; rfl
      · rw [h3.no (s - 1) (by omega)]; cases decide ((s : Int) > 0) <;> rfl
    rw [hb]
    simp only [Option.bind_some, cond_false]
    have hsum := sum_bound (by omega) h7
    rw [h6] at hsum
    have c1 : N < d → overR w M l = false := fun hlt => by
      have := h2.no N hlt
      cases ho : overR w M l with
      | false => rfl
      | true =>
        unfold overR at ho; unfold overAt at this
        rw [h6] at ho
        rw [Bool.or_eq_true, decide_eq_true_eq, decide_eq_true_eq] at ho
        rw [Bool.or_eq_false_iff, decide_eq_false_iff_not, decide_eq_false_iff_not] at this
        omega
    have c2 : s ≤ N → overR w M l = true := fun hle => by
      have h8 := h3.at_
      unfold overR; unfold overAt at h8
      rw [h6, Bool.or_eq_true, decide_eq_true_eq, decide_eq_true_eq]
      rw [Bool.or_eq_true, decide_eq_true_eq, decide_eq_true_eq] at h8
      have := Int.mul_le_mul_of_nonneg_right (show (s : Int) ≤ (N : Int) by omega) hVd.1
      omega
    by_cases e1 : (N : Int) ≥ (d : Int)
    · by_cases e2 : (N : Int) < (s : Int)
      · simp [e1, e2]
      · have := c2 (by omega); simp [e1, e2, this]
    · have := c1 (by omega)
      have e2 : (N : Int) < (s : Int) := by omega
      simp [e1, e2, this]
end Go.Proofs.Ytkbphdjemgibnaa
