/- The plain law. -/
import Derived.Test.YtkbphdjemgibnaaNaP0
import Derived.KernelRfl
set_option linter.all false
namespace Go.Proofs.Ytkbphdjemgibnaa
open Go Go.RowKit
theorem pwid {x : Int} (h0 : -9223372036854775808 ≤ x) (h1 : x ≤ 9223372036854775807) : IntKind.i64.wrap x = x := by
  simp [IntKind.wrap, IntKind.bits, IntKind.signed]; omega
def btw (x lo hi : Int) : Bool := decide (lo ≤ x) && decide (x ≤ hi)
theorem btw_true {x lo hi : Int} : btw x lo hi = true ↔ lo ≤ x ∧ x ≤ hi := by simp [btw]
theorem pit_within_eq (n : Nat) (x lo hi : Int) : pit_within n x lo hi = some (btw x lo hi) := by
  unfold pit_within btw
  cases decide (lo ≤ x) <;> rfl
theorem pit_minute_eq' (n : Nat) (x : Int) : pit_minute n x = some (btw x 0 1000000) := pit_minute_eq n x
def rightK (c : Card) : Bool := bif decide (c.kind.n < 2) then btw c.part 0 15 && c.sg == 0 else (c.part == 0 && (c.kind.n == 2 && btw c.sg 1 999 || c.kind.n == 3 && c.sg == 0))
def rightC (c : Card) : Bool := btw c.bus 0 99 && (btw c.number 1 999 && (btw c.minute 0 1000000 && rightK c))
theorem pit_Card_valid_eq (n : Nat) (c : Card) (hk : 0 ≤ c.kind.n ∧ c.kind.n ≤ 255) : pit_Card_valid n c = some (rightC c) := by
  unfold pit_Card_valid rightC
  simp only [pit_within_eq, pit_minute_eq', Option.bind_some]
  cases btw c.bus 0 99 with
  | false => rfl
  | true =>
  cases btw c.number 1 999 with
  | false => rfl
  | true =>
  cases btw c.minute 0 1000000 with
  | false => rfl
  | true =>
  simp only [cond_true, Bool.true_and, pit_kinds, Option.bind_some, pwid (show (-9223372036854775808 : Int) ≤ c.kind.n by omega) (by omega), List.length_cons, List.length_nil]
  by_cases h4 : c.kind.n < 4
  · have h5 : decide (c.kind.n < ((0 + 1 + 1 + 1 + 1 : Nat) : Int)) = true := by simp; omega
    rw [h5]
    have : c.kind.n = 0 ∨ c.kind.n = 1 ∨ c.kind.n = 2 ∨ c.kind.n = 3 := by omega
    simp only [cond_true, rightK]
    rcases this with h | h | h | h <;> rw [h] <;> simp [idx, pit_Card_parted, pit_Card_signing, pit_Card_bare, pit_within_eq] <;> (first | (cases btw c.part 0 15 <;> simp) | (cases hq : (c.part == 0) <;> rfl) | (cases hq : (c.part == 0) <;> simp_all))
  · have h5 : decide (c.kind.n < ((0 + 1 + 1 + 1 + 1 : Nat) : Int)) = false := by simp; omega
    rw [h5]
    have h1 : decide (c.kind.n < 2) = false := by simp; omega
    have h2 : (c.kind.n == 2) = false := by simp; omega
    have h3 : (c.kind.n == 3) = false := by simp; omega
    simp [rightK, h1, h2, h3]
theorem slices_IndexFunc_pit_Card_pit_Card_l1_eq (s : List Card) (f : Card → Option Bool) (g : Card → Bool) (hf : ∀ c ∈ s, f c = some (g c)) (hs : s.length ≤ 1000000) : ∀ (n i : Nat), s.length < n + i → i ≤ s.length →
    ∃ r, slices_IndexFunc_pit_Card_pit_Card_l1 n s f (i : Int) = some r ∧ (if (s.drop i).any g then ∃ k : Int, 0 ≤ k ∧ r = Ex.ret k else r = Ex.go ())
  | 0, i, h, hi => by omega
  | n + 1, i, h, hi => by
    rw [slices_IndexFunc_pit_Card_pit_Card_l1, pf_lt]
    by_cases hx : i < s.length
    · have hd : s.drop i = s[i] :: s.drop (i + 1) := List.drop_eq_getElem_cons hx
      simp only [hx, decide_true, cond_true, pf_idx _ _ hx, Option.bind_some, hf _ (List.getElem_mem hx)]
      rw [pf_w i (by omega), hd, List.any_cons]
      cases hv : g s[i] with
      | true => exact ⟨Ex.ret (i : Int), rfl, ⟨i, by omega, rfl⟩⟩
      | false =>
        obtain ⟨r, h1, h2⟩ := slices_IndexFunc_pit_Card_pit_Card_l1_eq s f g hf hs n (i + 1) (by omega) (by omega)
        exact ⟨r, h1, by rw [Bool.false_or]; exact h2⟩
    · have : i = s.length := by omega
      subst this
      exact ⟨Ex.go (), by simp, by simp⟩
theorem pit_all_pit_Card_eq (n : Nat) (l : List Card) (f : Card → Option Bool) (g : Card → Bool) (hf : ∀ c ∈ l, f c = some (g c)) (h : l.length < n) (hs : l.length ≤ 1000000) : pit_all_pit_Card n l f = some (l.all g) := by
  unfold pit_all_pit_Card slices_ContainsFunc_pit_Card_pit_Card slices_IndexFunc_pit_Card_pit_Card
  obtain ⟨r, h1, h2⟩ := slices_IndexFunc_pit_Card_pit_Card_l1_eq l (fun y0 => pit_all_pit_Card_1 n y0 f) (fun c => !g c) (fun c hc => by unfold pit_all_pit_Card_1; rw [hf c hc]; rfl) hs n 0 (by omega) (by omega)
  rw [show ((0 : Nat) : Int) = 0 from rfl] at h1
  rw [h1]
  simp only [List.drop_zero] at h2
  have hn : l.all g = !l.any fun c => !g c := by
    rw [List.not_any_eq_all_not]; simp
  rw [hn]
  split at h2
  · rename_i hm
    obtain ⟨k, hk, rfl⟩ := h2
    simp [Ex.bind, hm, hk]
  · rename_i hm
    subst h2
    simp [Ex.bind, hm]
end Go.Proofs.Ytkbphdjemgibnaa
namespace Go.Proofs.Ytkbphdjemgibnaa
open Go Go.RowKit
theorem cardEq (a b : Card) : ((a.bus == b.bus) && ((a.number == b.number) && ((a.minute == b.minute) && ((a.kind.n == b.kind.n) && ((a.part == b.part) && ((a.sg == b.sg) && true)))))) = decide (a = b) := by
  rcases a with ⟨a1, a2, a3, ⟨a4⟩, a5, a6⟩
  rcases b with ⟨b1, b2, b3, ⟨b4⟩, b5, b6⟩
  rw [Bool.eq_iff_iff]
  simp
def bad (a b : Card) : Bool := a.number == b.number && !decide (a = b)
theorem bad_iff {a b : Card} : bad a b = true ↔ a.number = b.number ∧ a ≠ b := by simp [bad]
def clash (l : List Card) : Bool := l.any fun a => l.any fun b => bad a b
theorem clash_iff {l : List Card} : clash l = true ↔ ∃ a ∈ l, ∃ b ∈ l, a.number = b.number ∧ a ≠ b := by
  simp only [clash, List.any_eq_true, bad_iff]
def faultL (l : List Card) : Int := if l.length > 40 then 3 else if l.all rightC then (if clash l then 6 else 0) else 1
theorem faultL_zero {l : List Card} : faultL l = 0 ↔ l.length ≤ 40 ∧ (∀ c ∈ l, rightC c = true) ∧ ∀ a ∈ l, ∀ b ∈ l, a.number = b.number → a = b := by
  unfold faultL
  split
  · constructor
    · intro h; cases h
    · intro ⟨h, _⟩; omega
  · rename_i h1
    split
    · rename_i h2
      split
      · rename_i h3
        obtain ⟨a, ha, b, hb, h4, h5⟩ := clash_iff.1 h3
        constructor
        · intro h; cases h
        · intro ⟨_, _, h⟩; exact absurd (h a ha b hb h4) h5
      · rename_i h3
        refine ⟨fun _ => ⟨by omega, List.all_eq_true.1 h2, fun a ha b hb h4 => Decidable.byContradiction fun h5 => h3 (clash_iff.2 ⟨a, ha, b, hb, h4, h5⟩)⟩, fun _ => rfl⟩
    · rename_i h2
      constructor
      · intro h; cases h
      · intro ⟨_, h, _⟩; exact absurd (List.all_eq_true.2 h) h2
theorem look?_mem {k : Int} {x : Card} {m : List (Int × Card)} (hn : (m.map (·.1)).Nodup) (h : (k, x) ∈ m) : look? m k = some x := by
  obtain ⟨j, hj⟩ := List.mem_iff_getElem?.1 h
  exact look?_at hn hj
theorem look?_some : ∀ {m : List (Int × Card)} {k : Int} {x : Card}, look? m k = some x → (k, x) ∈ m
  | [], k, x, h => by cases h
  | p :: r, k, x, h => by
    unfold look? at h
    split at h
    · rename_i hp
      cases h
      rw [← hp]; exact List.mem_cons_self ..
    · exact List.mem_cons_of_mem _ (look?_some h)
theorem look?_no {m : List (Int × Card)} {k : Int} (h : look? m k = none) (hn : (m.map (·.1)).Nodup) : ∀ p ∈ m, p.1 ≠ k := fun p hp e => by
  have := look?_mem hn (show (k, p.2) ∈ m from e ▸ hp)
  rw [h] at this; cases this
structure Inv (l : List Card) (i : Nat) (nums : List Int) (m : List (Int × Card)) : Prop where
  keys : m.map (·.1) = nums
  nd : nums.Nodup
  from_ : ∀ p ∈ m, p.2 ∈ l.take i ∧ p.2.number = p.1
  all : ∀ c ∈ l.take i, (c.number, c) ∈ m
  len : nums.length ≤ i
theorem take_succ' {l : List Card} {i : Nat} (h : i < l.length) {c : Card} : c ∈ l.take (i + 1) ↔ c ∈ l.take i ∨ c = l[i] := by
  rw [List.take_succ_eq_append_getElem h, List.mem_append, List.mem_singleton]
theorem pit_read_l1_eq (l : List Card) (hs : l.length ≤ 1000000) : ∀ (n i : Nat) (nums : List Int) (m : List (Int × Card)), l.length < n + i → i ≤ l.length → Inv l i nums m →
    ∃ r, pit_read_l1 n l nums (i : Int) m = some r ∧ ((r = Ex.ret (none, 6) ∧ clash l = true) ∨ (∃ nums' m', r = Ex.go (nums', m') ∧ Inv l l.length nums' m'))
  | 0, i, nums, m, h, hi, _ => by omega
  | n + 1, i, nums, m, h, hi, I => by
    rw [pit_read_l1, pf_lt]
    by_cases hx : i < l.length
    · simp only [hx, decide_true, cond_true, pf_idx _ _ hx, Option.bind_some, pit_cards_card, cardEq]
      rw [pf_w i (by omega)]
      have hn : (m.map (·.1)).Nodup := by rw [I.keys]; exact I.nd
      cases hl : look? m l[i].number with
      | some o =>
        have hL : lookD m l[i].number (Card.mk 0 0 0 (IK.mk 0) 0 0) = (o, true) := by unfold lookD; rw [hl]
        simp only [hL, cond_true, Option.bind_some]
        have ho := I.from_ _ (look?_some hl)
        by_cases he : o = l[i]
        · simp only [he, decide_true, Bool.not_true, cond_false]
          refine pit_read_l1_eq l hs n (i + 1) nums m (by omega) (by omega) ⟨I.keys, I.nd, fun p hp => ⟨(take_succ' hx).2 (Or.inl (I.from_ p hp).1), (I.from_ p hp).2⟩, fun c hc => ?_, by have := I.len; omega⟩
          rcases (take_succ' hx).1 hc with hc | rfl
          · exact I.all c hc
          · have := look?_some hl; rw [he] at this; exact this
        · simp only [he, decide_false, Bool.not_false, cond_true]
          exact ⟨_, rfl, Or.inl ⟨rfl, clash_iff.2 ⟨o, List.mem_of_mem_take ho.1, _, List.getElem_mem hx, ho.2, he⟩⟩⟩
      | none =>
        have hL : (lookD m l[i].number (Card.mk 0 0 0 (IK.mk 0) 0 0)).2 = false := by unfold lookD; rw [hl]
        simp only [hL, cond_false, Option.bind_some, Bool.not_false, cond_true]
        have hno := look?_no hl hn
        have hlen := I.len
        rw [pf_app _ _ (by simp; omega), put?_none hno]
        simp only [Option.bind_some]
        refine pit_read_l1_eq l hs n (i + 1) _ _ (by omega) (by omega) ⟨by rw [List.map_append, I.keys]; rfl, ?_, fun p hp => ?_, fun c hc => ?_, by simp; omega⟩
        · refine List.nodup_append.2 ⟨I.nd, by simp, ?_⟩
          intro a ha b hb
          rw [List.mem_singleton] at hb
          subst hb
          rw [← I.keys] at ha
          obtain ⟨p, hp, rfl⟩ := List.mem_map.1 ha
          exact hno p hp
        · rcases List.mem_append.1 hp with hp | hp
          · exact ⟨(take_succ' hx).2 (Or.inl (I.from_ p hp).1), (I.from_ p hp).2⟩
          · rw [List.mem_singleton] at hp
            subst hp
            exact ⟨(take_succ' hx).2 (Or.inr rfl), rfl⟩
        · rcases (take_succ' hx).1 hc with hc | rfl
          · exact List.mem_append_left _ (I.all c hc)
          · exact List.mem_append_right _ (by simp)
    · have : i = l.length := by omega
      subst this
      exact ⟨_, by simp, Or.inr ⟨nums, m, rfl, I⟩⟩
structure Good (l : List Card) (b : Bx Book) : Prop where
  sorted : b.v.numbers.Pairwise (· < ·)
  nums : ∀ k, k ∈ b.v.numbers ↔ ∃ c ∈ l, c.number = k
  mem : ∀ p, p ∈ b.v.cards.l ↔ p.2 ∈ l ∧ p.2.number = p.1
  look : ∀ c ∈ l, look? b.v.cards.l c.number = some c
  no : ∀ k, (∀ c ∈ l, c.number ≠ k) → look? b.v.cards.l k = none
  len1 : b.v.numbers.length ≤ l.length
  len2 : b.v.cards.l.length ≤ l.length
theorem sortI_mem {l : List Int} {x : Int} : x ∈ sortI l ↔ x ∈ l := List.mem_mergeSort
theorem sortI_le (l : List Int) : (sortI l).Pairwise (· ≤ ·) := by
  have := List.pairwise_mergeSort (le := fun x y : Int => decide (x ≤ y)) (by intro a b c; simp; omega) (by intro a b; simp; omega) l
  exact this.imp fun h => by simpa using h
theorem sortI_nodup {l : List Int} (h : l.Nodup) : (sortI l).Nodup := (List.mergeSort_perm l _).nodup_iff.2 h
theorem lt_of_le_nodup {l : List Int} (h1 : l.Pairwise (· ≤ ·)) (h2 : l.Nodup) : l.Pairwise (· < ·) :=
  List.Pairwise.imp₂ (fun _ _ h h' => by omega) h1 h2
theorem good_of {l : List Card} {nums : List Int} {m : List (Int × Card)} (I : Inv l l.length nums m) : Good l ⟨⟨⟨m⟩, sortI nums⟩⟩ := by
  have hn : (m.map (·.1)).Nodup := by rw [I.keys]; exact I.nd
  have hf := I.from_
  have ha := I.all
  rw [List.take_length] at hf ha
  have hm : ∀ p, p ∈ m ↔ p.2 ∈ l ∧ p.2.number = p.1 := fun p => ⟨fun hp => hf p hp, fun ⟨h1, h2⟩ => by
    have := ha p.2 h1
    rw [h2] at this; exact this⟩
  refine ⟨lt_of_le_nodup (sortI_le _) (sortI_nodup I.nd), fun k => ?_, hm, fun c hc => look?_mem hn (ha c hc), fun k hk => ?_, ?_, ?_⟩
  · show k ∈ sortI nums ↔ _
    rw [sortI_mem, ← I.keys, List.mem_map]
    constructor
    · rintro ⟨p, hp, rfl⟩
      exact ⟨p.2, (hm p).1 hp |>.1, ((hm p).1 hp).2⟩
    · rintro ⟨c, hc, rfl⟩
      exact ⟨_, ha c hc, rfl⟩
  · refine look?_none fun p hp e => ?_
    have := (hm p).1 hp
    exact hk _ this.1 (this.2.trans e)
  · show (sortI nums).length ≤ _
    rw [sortI_len]; exact I.len
  · show m.length ≤ _
    have := I.len
    rw [← I.keys, List.length_map] at this; exact this
theorem pit_read_eq (n : Nat) (l : List Card) (h : 81 < n) (hk : ∀ c ∈ l, 0 ≤ c.kind.n ∧ c.kind.n ≤ 255) :
    (faultL l ≠ 0 ∧ pit_read n l = some (none, faultL l)) ∨ (faultL l = 0 ∧ ∃ b, pit_read n l = some (some b, 0) ∧ Good l b) := by
  unfold pit_read faultL
  by_cases hl : l.length > 40
  · have : decide (((l.length : Nat) : Int) > 40) = true := by simp; omega
    rw [this, if_pos hl]
    exact Or.inl ⟨by decide, rfl⟩
  · have : decide (((l.length : Nat) : Int) > 40) = false := by simp; omega
    rw [this, if_neg hl, cond_false, pit_all_pit_Card_eq n l _ rightC (fun c hc => pit_Card_valid_eq n c (hk c hc)) (by omega) (by omega)]
    cases ha : l.all rightC with
    | false => exact Or.inl ⟨by simp, rfl⟩
    | true =>
      obtain ⟨r, h1, h2⟩ := pit_read_l1_eq l (by omega) n 0 [] [] (by omega) (by omega) ⟨rfl, List.nodup_nil, fun p hp => by simp at hp, fun c hc => by simp at hc, by simp⟩
      rw [show ((0 : Nat) : Int) = 0 from rfl] at h1
      simp only [if_true, Option.bind_some, Bool.not_true, cond_false, h1]
      rcases h2 with ⟨rfl, h3⟩ | ⟨nums, m, rfl, I⟩
      · refine Or.inl ?_
        simp [h3, Ex.bind]
      · refine Or.inr ?_
        have hc : ¬ clash l = true := fun hc => by
          obtain ⟨a, ha, b, hb, h4, h5⟩ := clash_iff.1 hc
          have G := good_of I
          have h6 := G.look a ha
          have h7 := G.look b hb
          rw [h4, h7] at h6
          exact h5 (Option.some.inj h6).symm
        refine ⟨by simp [hc], _, ?_, good_of I⟩
        have hlen := I.len
        have : sortO nums = some (sortI nums) := by unfold sortO; rw [if_pos (by omega)]
        simp [Ex.bind, this]
end Go.Proofs.Ytkbphdjemgibnaa
namespace Go.Proofs.Ytkbphdjemgibnaa
open Go Go.RowKit
def upTo (a b : Nat) : List Int := (List.range' a (b - a)).map fun i : Nat => (i : Int)
theorem mem_upTo {a b : Nat} {x : Int} : x ∈ upTo a b ↔ (a : Int) ≤ x ∧ x < (b : Int) := by
  unfold upTo
  simp only [List.mem_map, List.mem_range'_1]
  constructor
  · rintro ⟨i, h, rfl⟩; omega
  · intro h; exact ⟨x.toNat, by omega, by omega⟩
theorem upTo_sorted (a b : Nat) : (upTo a b).Pairwise (· < ·) := by
  unfold upTo
  rw [List.pairwise_map]
  exact (List.pairwise_lt_range' (s := a) (n := b - a)).imp fun h => by omega
theorem sorted_ext : ∀ {l l' : List Int}, l.Pairwise (· < ·) → l'.Pairwise (· < ·) → (∀ x, x ∈ l ↔ x ∈ l') → l = l' := fun {l l'} h1 h2 h =>
  List.Perm.eq_of_pairwise (fun a b _ _ h3 h4 => by omega) h1 h2 (pf_perm (h1.imp fun h => by omega) (h2.imp fun h => by omega) h)
def dfct (c : Card) : Bool := decide (c.kind.n < 2)
theorem defectC_eq {c : Card} (hk : 0 ≤ c.kind.n) : defectC c = dfct c := by
  unfold defectC dfct
  rw [Bool.eq_iff_iff]
  simp; omega
def openC (l : List Card) (d : Card) (m : Int) : Bool := !decide (d.minute > m) && l.all fun c => !(decide (c.minute ≤ m) && mendB c d)
theorem openB_eq {l : List Card} {b : Bx Book} (G : Good l b) (d : Card) (m : Int) : openB b d m = openC l d m := by
  unfold openB openC
  congr 1
  rw [Bool.eq_iff_iff, List.all_eq_true, List.all_eq_true]
  constructor
  · intro h c hc
    exact h (c.number, c) ((G.mem _).2 ⟨hc, rfl⟩)
  · intro h p hp
    exact h _ ((G.mem p).1 hp).1
def isOpen (l : List Card) (bus m k : Int) (c : Card) : Bool := c.number == k && (c.bus == bus && (dfct c && openC l c m))
def opensC (l : List Card) (bus m : Int) : List Int := (upTo 1 1000).filter fun k => l.any (isOpen l bus m k)
theorem right_range {c : Card} (h : rightC c = true) : 0 ≤ c.bus ∧ c.bus ≤ 99 ∧ 1 ≤ c.number ∧ c.number ≤ 999 ∧ 0 ≤ c.minute ∧ c.minute ≤ 1000000 := by
  simp only [rightC, Bool.and_eq_true, btw_true] at h
  omega
theorem mem_opensC {l : List Card} {bus m x : Int} (hf : faultL l = 0) : x ∈ opensC l bus m ↔ ∃ c ∈ l, c.number = x ∧ c.bus = bus ∧ dfct c = true ∧ openC l c m = true := by
  unfold opensC isOpen
  simp only [List.mem_filter, mem_upTo, List.any_eq_true, Bool.and_eq_true, beq_iff_eq]
  constructor
  · rintro ⟨_, c, hc, h⟩; exact ⟨c, hc, h⟩
  · rintro ⟨c, hc, rfl, h⟩
    have := right_range ((faultL_zero.1 hf).2.1 c hc)
    exact ⟨by omega, c, hc, rfl, h⟩
theorem opensC_sorted (l : List Card) (bus m : Int) : (opensC l bus m).Pairwise (· < ·) := (upTo_sorted 1 1000).sublist List.filter_sublist
theorem bookAt_eq {l : List Card} {b : Bx Book} (G : Good l b) {c : Card} (hc : c ∈ l) : bookAt b c.number = c := by
  unfold bookAt lookD; rw [G.look c hc]
theorem opensOf_eq {b : Bx Book} {bus m : Int} : ∀ {ks : List Int}, (∀ k ∈ ks, (bookAt b k).number = k) → opensOf b bus m ks = ks.filter fun k => (bookAt b k).bus == bus && (defectC (bookAt b k) && openB b (bookAt b k) m)
  | [], _ => rfl
  | k :: ks, h => by
    have IH := opensOf_eq (b := b) (bus := bus) (m := m) (ks := ks) fun k hk => h k (List.mem_cons_of_mem _ hk)
    unfold opensOf at *
    rw [List.map_cons, List.filter_cons, List.filter_cons]
    split
    · rw [List.map_cons, IH, h k (List.mem_cons_self ..)]
    · exact IH
theorem opensB_eq {l : List Card} {b : Bx Book} (G : Good l b) (hf : faultL l = 0) (hk : ∀ c ∈ l, 0 ≤ c.kind.n ∧ c.kind.n ≤ 255) (bus m : Int) : opensB b bus m = opensC l bus m := by
  have hn : ∀ k ∈ b.v.numbers, (bookAt b k).number = k := fun k hk => by
    obtain ⟨c, hc, rfl⟩ := (G.nums k).1 hk
    rw [bookAt_eq G hc]
  unfold opensB
  rw [opensOf_eq hn]
  refine sorted_ext (G.sorted.sublist List.filter_sublist) (opensC_sorted l bus m) fun x => ?_
  rw [mem_opensC hf, List.mem_filter, G.nums]
  simp only [Bool.and_eq_true, beq_iff_eq]
  constructor
  · rintro ⟨⟨c, hc, rfl⟩, h1, h2, h3⟩
    rw [bookAt_eq G hc] at h1 h2 h3
    rw [defectC_eq (hk c hc).1] at h2
    rw [openB_eq G] at h3
    exact ⟨c, hc, rfl, h1, h2, h3⟩
  · rintro ⟨c, hc, rfl, h1, h2, h3⟩
    rw [bookAt_eq G hc, defectC_eq (hk c hc).1, openB_eq G]
    exact ⟨⟨c, hc, rfl⟩, h1, h2, h3⟩
theorem pit_Open_eq (n : Nat) (l : List Card) (bus m : Int) (h : 100 ≤ n) (hk : ∀ c ∈ l, 0 ≤ c.kind.n ∧ c.kind.n ≤ 255) :
    pit_Open n l bus m = some (if faultL l = 0 then (if btw bus 0 99 && btw m 0 1000000 then (opensC l bus m, 0) else ([], 2)) else ([], faultL l)) := by
  unfold pit_Open
  rcases pit_read_eq n l (by omega) hk with ⟨h0, hr⟩ | ⟨h0, b, hr, G⟩
  · rw [hr, if_neg h0]
    simp only [Option.bind_some, ptrCase_none]
    rw [show (faultL l != 0) = true by simp [h0]]; rfl
  · rw [hr, if_pos h0]
    have h40 := (faultL_zero.1 h0).1
    have h1 := G.len1
    have h2 := G.len2
    simp only [Option.bind_some, ptrCase_some, pit_within_eq, pit_minute_eq', pit_book_opens_eq n b bus m (by omega) (by omega) (by omega), opensB_eq G h0 hk]
    cases btw bus 0 99 <;> cases btw m 0 1000000 <;> rfl
def fits (l : List Card) (m b : Int) (c : Card) : Bool := !(c.bus == b) || !(dfct c && openC l c m)
def fitC (l : List Card) (m : Int) : List Int := (upTo 0 100).filter fun b => l.any (fun c => c.bus == b) && l.all (fits l m b)
theorem mem_fitC {l : List Card} {m b : Int} (hf : faultL l = 0) : b ∈ fitC l m ↔ (∃ c ∈ l, c.bus = b) ∧ ∀ c ∈ l, c.bus = b → dfct c = true → openC l c m = false := by
  unfold fitC fits
  simp only [List.mem_filter, mem_upTo, List.any_eq_true, List.all_eq_true, Bool.and_eq_true, beq_iff_eq]
  constructor
  · rintro ⟨_, h1, h2⟩
    refine ⟨h1, fun c hc h3 h4 => ?_⟩
    have := h2 c hc
    rw [h4] at this
    simpa [h3] using this
  · rintro ⟨⟨c, hc, rfl⟩, h2⟩
    have := right_range ((faultL_zero.1 hf).2.1 c hc)
    refine ⟨by omega, ⟨c, hc, rfl⟩, fun d hd => ?_⟩
    cases h3 : d.bus == c.bus with
    | false => rfl
    | true =>
      cases h4 : dfct d with
      | false => rfl
      | true => rw [h2 d hd (by simpa using h3) h4]; rfl
theorem fitC_sorted (l : List Card) (m : Int) : (fitC l m).Pairwise (· < ·) := (upTo_sorted 0 100).sublist List.filter_sublist
theorem mem_fitC' {l : List Card} {m b : Int} (hf : faultL l = 0) : b ∈ fitC l m ↔ (∃ c ∈ l, c.bus = b) ∧ opensC l b m = [] := by
  rw [mem_fitC hf]
  refine and_congr_right fun _ => ?_
  constructor
  · intro h
    refine List.eq_nil_iff_forall_not_mem.2 fun x hx => ?_
    obtain ⟨c, hc, _, h2, h3, h4⟩ := (mem_opensC hf).1 hx
    rw [h c hc h2 h3] at h4; cases h4
  · intro h c hc h2 h3
    cases h4 : openC l c m with
    | false => rfl
    | true =>
      have : c.number ∈ opensC l b m := (mem_opensC hf).2 ⟨c, hc, rfl, h2, h3, h4⟩
      rw [h] at this; cases this
theorem fitB_eq {l : List Card} {b : Bx Book} (G : Good l b) (hf : faultL l = 0) (hk : ∀ c ∈ l, 0 ≤ c.kind.n ∧ c.kind.n ≤ 255) (m : Int) : fitB b m = fitC l m := by
  unfold fitB
  refine sorted_ext (lt_of_le_nodup (sortI_le _) (sortI_nodup ((nodup_ddup _).filter _))) (fitC_sorted l m) fun x => ?_
  rw [mem_fitC' hf, sortI_mem, List.mem_filter, mem_ddup, List.mem_map, opensB_eq G hf hk, List.isEmpty_iff]
  refine and_congr_left fun _ => ?_
  constructor
  · rintro ⟨p, hp, rfl⟩; exact ⟨_, ((G.mem p).1 hp).1, rfl⟩
  · rintro ⟨c, hc, rfl⟩; exact ⟨(c.number, c), (G.mem _).2 ⟨hc, rfl⟩, rfl⟩
theorem pit_Fit_eq (n : Nat) (l : List Card) (m : Int) (h : 200 ≤ n) (hk : ∀ c ∈ l, 0 ≤ c.kind.n ∧ c.kind.n ≤ 255) :
    pit_FitL n l m = some (if faultL l = 0 then (if btw m 0 1000000 then (fitC l m, 0) else ([], 2)) else ([], faultL l)) := by
  unfold pit_FitL
  rcases pit_read_eq n l (by omega) hk with ⟨h0, hr⟩ | ⟨h0, b, hr, G⟩
  · rw [hr, if_neg h0]
    simp only [Option.bind_some, ne_eq, h0, not_false_eq_true, if_true]
  · rw [hr, if_pos h0]
    have h40 := (faultL_zero.1 h0).1
    have h1 := G.len1
    have h2 := G.len2
    simp only [Option.bind_some, ne_eq, not_true_eq_false, if_false, fitB_eq G h0 hk]
    rw [if_pos (show b.v.numbers.length + b.v.cards.l.length + b.v.cards.l.length + 2 < n ∧ b.v.numbers.length ≤ 1000 ∧ b.v.cards.l.length ≤ 1000 by omega)]
    by_cases hm : 0 ≤ m ∧ m ≤ 1000000
    · rw [if_neg (by simpa using hm), if_pos (btw_true.2 hm)]
    · rw [if_pos hm, if_neg (by rw [btw_true]; exact hm)]
def isVoid (l : List Card) (c : Card) : Bool := l.all fun d => !(d.number == c.sg && (dfct d && (d.bus == c.bus && decide (d.minute ≤ c.minute))))
def voidC (l : List Card) : List Int := (upTo 1 1000).filter fun k => l.any fun c => c.number == k && (c.kind.n == 2 && isVoid l c)
theorem isVoid_iff {l : List Card} {c : Card} : isVoid l c = true ↔ ∀ d ∈ l, d.number = c.sg → dfct d = true → d.bus = c.bus → ¬ d.minute ≤ c.minute := by
  simp only [isVoid, List.all_eq_true]
  refine forall_congr' fun d => forall_congr' fun _ => ?_
  by_cases h1 : d.number = c.sg <;> by_cases h2 : d.bus = c.bus <;> cases dfct d <;> simp [h1, h2]
theorem mem_voidC {l : List Card} {x : Int} (hf : faultL l = 0) : x ∈ voidC l ↔ ∃ c ∈ l, c.number = x ∧ c.kind.n = 2 ∧ isVoid l c = true := by
  unfold voidC
  simp only [List.mem_filter, mem_upTo, List.any_eq_true, Bool.and_eq_true, beq_iff_eq]
  constructor
  · rintro ⟨_, c, hc, h⟩; exact ⟨c, hc, h⟩
  · rintro ⟨c, hc, rfl, h⟩
    have := right_range ((faultL_zero.1 hf).2.1 c hc)
    exact ⟨by omega, c, hc, rfl, h⟩
theorem voidC_sorted (l : List Card) : (voidC l).Pairwise (· < ·) := (upTo_sorted 1 1000).sublist List.filter_sublist
theorem pit_Card_mended_kind2 {c d : Card} (h : c.kind.n = 2) : mendB c d = (decide (d.bus = c.bus) && (decide (d.minute ≤ c.minute) && decide (d.number = c.sg))) := by
  unfold mendB
  rw [h, Bool.eq_iff_iff]
  simp
  constructor
  · rintro ⟨⟨h1, h2⟩, h3⟩; exact ⟨h1.symm, h2, h3.symm⟩
  · rintro ⟨h1, h2, h3⟩; exact ⟨⟨h1.symm, h2⟩, h3.symm⟩
theorem pit_Void_l1_eq {l : List Card} {b : Bx Book} (G : Good l b) (hf : faultL l = 0) (hk : ∀ c ∈ l, 0 ≤ c.kind.n ∧ c.kind.n ≤ 255) : ∀ (n i : Nat) (acc : List Int), b.v.numbers.length < n + i → i ≤ b.v.numbers.length → acc.length ≤ i →
    pit_Void_l1 n l b acc (i : Int) = some (acc ++ (b.v.numbers.drop i).filter fun k => (bookAt b k).kind.n == 2 && isVoid l (bookAt b k))
  | 0, i, acc, h, hi, ha => by omega
  | n + 1, i, acc, h, hi, ha => by
    have h40 := (faultL_zero.1 hf).1
    have hl1 := G.len1
    rw [pit_Void_l1, pf_lt]
    by_cases hx : i < b.v.numbers.length
    · have hd : b.v.numbers.drop i = b.v.numbers[i] :: b.v.numbers.drop (i + 1) := List.drop_eq_getElem_cons hx
      have IH := fun acc (h' : acc.length ≤ i + 1) => pit_Void_l1_eq G hf hk n (i + 1) acc (by omega) (by omega) h'
      simp only [hx, decide_true, cond_true, pf_idx _ _ hx, Option.bind_some, pit_cards_card]
      have hB : (lookD b.v.cards.l b.v.numbers[i] (Card.mk 0 0 0 (IK.mk 0) 0 0)).1 = bookAt b b.v.numbers[i] := rfl
      obtain ⟨c, hc, hcn⟩ := (G.nums _).1 (List.getElem_mem hx)
      rw [← hcn] at hB ⊢
      rw [pf_w i (by omega), hB, hd, ← hcn, bookAt_eq G hc, List.filter_cons, bookAt_eq G hc]
      have IH1 := IH acc (by omega)
      have IH2 := IH (acc ++ [c.number]) (by simp; omega)
      rw [Int.natCast_succ] at IH1 IH2 ⊢
      by_cases h2 : c.kind.n = 2
      · rw [show (c.kind.n != 2) = false by simp [h2], show (c.kind.n == 2) = true by simp [h2]]
        simp only [cond_false, Bool.true_and]
        by_cases hd2 : ∃ d ∈ l, d.number = c.sg
        · obtain ⟨d, hdm, hdn⟩ := hd2
          have hL : lookD b.v.cards.l c.sg (Card.mk 0 0 0 (IK.mk 0) 0 0) = (d, true) := by rw [← hdn]; unfold lookD; rw [G.look d hdm]
          have hv : isVoid l c = !(dfct d && mendB c d) := by
            rw [pit_Card_mended_kind2 h2, Bool.eq_iff_iff, isVoid_iff]
            constructor
            · intro h
              have := h d hdm hdn
              cases h5 : dfct d with
              | false => rfl
              | true =>
                simp only [Bool.true_and, Bool.not_eq_true', Bool.and_eq_false_iff, decide_eq_false_iff_not]
                by_cases h6 : d.bus = c.bus
                · exact Or.inr (Or.inl (this h5 h6))
                · exact Or.inl h6
            · intro h e he h3 h4 h5
              have hed : e = d := (faultL_zero.1 hf).2.2 e he d hdm (h3.trans hdn.symm)
              subst hed
              rw [h4] at h
              simp only [Bool.true_and, Bool.not_eq_true', Bool.and_eq_false_iff, decide_eq_false_iff_not] at h
              rcases h with h | h | h
              · exact absurd h5 h
              · exact h
              · exact absurd h3 h
          simp only [hL, Option.bind_some, Bool.not_true, cond_false, pit_Card_defect_eq, pit_Card_mended_eq, defectC_eq (hk d hdm).1, hv]
          rw [pf_app _ _ (by simp; omega)]
          cases dfct d <;> cases mendB c d <;> simp [IH1, IH2]
        · have hno : ∀ d ∈ l, d.number ≠ c.sg := fun d hd h => hd2 ⟨d, hd, h⟩
          have hL : (lookD b.v.cards.l c.sg (Card.mk 0 0 0 (IK.mk 0) 0 0)).2 = false := by unfold lookD; rw [G.no _ hno]
          have hv : isVoid l c = true := isVoid_iff.2 fun d hd h => absurd h (hno d hd)
          simp only [hL, Option.bind_some, Bool.not_false, cond_true, hv, if_true]
          rw [pf_app _ _ (by simp; omega)]
          simp [IH2]
      · rw [show (c.kind.n != 2) = true by simp [h2], show (c.kind.n == 2) = false by simp [h2]]
        simp [IH1]
    · have : i = b.v.numbers.length := by omega
      subst this
      simp
theorem pit_Void_eq (n : Nat) (l : List Card) (h : 100 ≤ n) (hk : ∀ c ∈ l, 0 ≤ c.kind.n ∧ c.kind.n ≤ 255) :
    pit_Void n l = some (if faultL l = 0 then (voidC l, 0) else ([], faultL l)) := by
  unfold pit_Void
  rcases pit_read_eq n l (by omega) hk with ⟨h0, hr⟩ | ⟨h0, b, hr, G⟩
  · rw [hr, if_neg h0]
    simp only [Option.bind_some, ptrCase_none]
    rw [show (faultL l != 0) = true by simp [h0]]; rfl
  · rw [hr, if_pos h0]
    have h40 := (faultL_zero.1 h0).1
    have h1 := G.len1
    have h2 := pit_Void_l1_eq G h0 hk n 0 [] (by omega) (by omega) (by simp)
    rw [show ((0 : Nat) : Int) = 0 from rfl] at h2
    simp only [Option.bind_some, ptrCase_some, h2]
    simp only [bne_self_eq_false, cond_false, List.nil_append, List.drop_zero]
    congr 2
    refine sorted_ext (G.sorted.sublist List.filter_sublist) (voidC_sorted l) fun x => ?_
    rw [mem_voidC h0, List.mem_filter, G.nums]
    simp only [Bool.and_eq_true, beq_iff_eq]
    constructor
    · rintro ⟨⟨c, hc, rfl⟩, h1, h2⟩
      rw [bookAt_eq G hc] at h1 h2
      exact ⟨c, hc, rfl, h1, h2⟩
    · rintro ⟨c, hc, rfl, h1, h2⟩
      rw [bookAt_eq G hc]
      exact ⟨⟨c, hc, rfl⟩, h1, h2⟩
theorem pit_CheckCards_eq (n : Nat) (l : List Card) (h : 100 ≤ n) (hk : ∀ c ∈ l, 0 ≤ c.kind.n ∧ c.kind.n ≤ 255) : pit_CheckCards n l = some (faultL l) := by
  unfold pit_CheckCards
  rcases pit_read_eq n l (by omega) hk with ⟨h0, hr⟩ | ⟨h0, b, hr, G⟩
  · rw [hr]; rfl
  · rw [hr, h0]; rfl
end Go.Proofs.Ytkbphdjemgibnaa
namespace Go.Proofs.Ytkbphdjemgibnaa
open Go Go.RowKit
def boardL : List Card := [(Card.mk 7 1 100 (IK.mk 0) 3 0), (Card.mk 7 2 120 (IK.mk 1) 4 0), (Card.mk 7 3 200 (IK.mk 2) 0 1), (Card.mk 7 4 300 (IK.mk 3) 0 0), (Card.mk 8 5 150 (IK.mk 0) 1 0), (Card.mk 8 6 400 (IK.mk 2) 0 1), (Card.mk 7 7 310 (IK.mk 0) 5 0)]
theorem boardL_in : ∀ c ∈ boardL, 0 ≤ c.kind.n ∧ c.kind.n ≤ 255 := by decide
theorem boardL_ok : faultL boardL = 0 := by kernel_rfl
theorem wakesA : pit_Open 1300 boardL 7 250 = some ([2], 0) := by
  rw [pit_Open_eq _ _ _ _ (by decide) boardL_in, if_pos boardL_ok]; kernel_rfl
theorem wakesB : pit_FitL 1300 boardL 130 = some ([8], 0) := by
  rw [pit_Fit_eq _ _ _ (by decide) boardL_in, if_pos boardL_ok]; kernel_rfl
set_option maxRecDepth 100000 in
theorem wakes1300 : law_wakes 1300 = some true := by
  have e : law_board 1300 = some boardL := rfl
  unfold law_wakes
  rw [e]
  rw [Option.bind_some, wakesA, Option.bind_some, Option.bind_some, wakesB, Option.bind_some]
  show _ = some true
  kernel_rfl
end Go.Proofs.Ytkbphdjemgibnaa
namespace Go.Proofs.Ytkbphdjemgibnaa
open Go Go.RowKit
end Go.Proofs.Ytkbphdjemgibnaa
namespace Go.Proofs.Ytkbphdjemgibnaa
open Go Go.RowKit
end Go.Proofs.Ytkbphdjemgibnaa
namespace Go.Proofs.Ytkbphdjemgibnaa
open Go Go.RowKit
def kindIn (l : List Card) : Prop := ∀ c ∈ l, 0 ≤ c.kind.n ∧ c.kind.n ≤ 255
theorem pit_Open_at (n : Nat) {l : List Card} (h : 100 ≤ n) (hk : kindIn l) (hf : faultL l = 0) {bus m : Int} (hb : 0 ≤ bus ∧ bus ≤ 99) (hm : 0 ≤ m ∧ m ≤ 1000000) : pit_Open n l bus m = some (opensC l bus m, 0) := by
  rw [pit_Open_eq n l bus m h hk, if_pos hf, if_pos (by rw [btw_true.2 hb, btw_true.2 hm]; rfl)]
theorem pit_Fit_at (n : Nat) {l : List Card} (h : 200 ≤ n) (hk : kindIn l) (hf : faultL l = 0) {m : Int} (hm : 0 ≤ m ∧ m ≤ 1000000) : pit_FitL n l m = some (fitC l m, 0) := by
  rw [pit_Fit_eq n l m h hk, if_pos hf, if_pos (btw_true.2 hm)]
theorem pit_Void_at (n : Nat) {l : List Card} (h : 100 ≤ n) (hk : kindIn l) (hf : faultL l = 0) : pit_Void n l = some (voidC l, 0) := by
  rw [pit_Void_eq n l h hk, if_pos hf]
end Go.Proofs.Ytkbphdjemgibnaa
namespace Go.Proofs.Ytkbphdjemgibnaa
open Go Go.RowKit
end Go.Proofs.Ytkbphdjemgibnaa
namespace Go.Proofs.Ytkbphdjemgibnaa
open Go Go.RowKit
end Go.Proofs.Ytkbphdjemgibnaa
namespace Go.Proofs.Ytkbphdjemgibnaa
open Go Go.RowKit
theorem Hours.len (h : Hours) : h.toL.length = 14 := rfl
def LeftIn (l : List Int) : Prop := ∀ x ∈ l, 0 ≤ x ∧ x ≤ 160
theorem LeftIn.set {l : List Int} (h : LeftIn l) {d : Nat} {v : Int} (hv : 0 ≤ v ∧ v ≤ 160) : LeftIn (l.set d v) := fun x hx => by
  rcases List.mem_or_eq_of_mem_set hx with hx | rfl
  · exact h x hx
  · exact hv
def left0 (s : Shop) : List Int := s.pits ++ List.replicate (14 - s.pits.length) 0
end Go.Proofs.Ytkbphdjemgibnaa
namespace Go.Proofs.Ytkbphdjemgibnaa
open Go Go.RowKit
def hoursP : List Job → List Int → Int → Int
  | j :: js, p :: ps, d => (if p = d then j.work else 0) + hoursP js ps d
  | _, _, _ => 0
def inDays (s : Shop) (plan : List Int) : Prop := ∀ x ∈ plan, -1 ≤ x ∧ x < s.days
def roomy (s : Shop) (plan : List Int) : Prop := ∀ d : Nat, (d : Int) < s.days → hoursP s.buses plan d ≤ (left0 s).getD d 0
instance (s : Shop) (plan : List Int) : Decidable (roomy s plan) := by
  by_cases h : ∀ d ∈ List.range s.days.toNat, hoursP s.buses plan ((d : Nat) : Int) ≤ (left0 s).getD d 0
  · exact isTrue fun d hd => h d (List.mem_range.2 (by omega))
  · exact isFalse fun hr => h fun d hd => hr d (by have := List.mem_range.1 hd; omega)
def fitsP (s : Shop) (plan : List Int) : Prop := plan.length = s.buses.length ∧ inDays s plan ∧ roomy s plan
instance (s : Shop) (plan : List Int) : Decidable (inDays s plan) := by unfold inDays; infer_instance
instance (s : Shop) (plan : List Int) : Decidable (fitsP s plan) := by unfold fitsP; infer_instance
end Go.Proofs.Ytkbphdjemgibnaa
namespace Go.Proofs.Ytkbphdjemgibnaa
open Go Go.RowKit
end Go.Proofs.Ytkbphdjemgibnaa
namespace Go.Proofs.Ytkbphdjemgibnaa
open Go Go.RowKit
end Go.Proofs.Ytkbphdjemgibnaa
namespace Go.Proofs.Ytkbphdjemgibnaa
open Go Go.RowKit
theorem board2_in : kindIn (boardL ++ boardL) := fun c hc => boardL_in c (by rcases List.mem_append.1 hc with h | h <;> exact h)
def lateC : Card := Card.mk 7 7 311 (IK.mk 0) 5 0
theorem board3_in : kindIn (boardL ++ [lateC]) := fun c hc => by
  rcases List.mem_append.1 hc with h | h
  · exact boardL_in c h
  · rw [List.mem_singleton] at h; rw [h]; decide
theorem nA : pit_Open 1300 boardL 7 150 = some ([1, 2], 0) := by rw [pit_Open_at 1300 (by decide) boardL_in boardL_ok (by decide) (by decide)]; kernel_rfl
theorem nB : pit_Open 1300 boardL 7 320 = some ([2, 7], 0) := by rw [pit_Open_at 1300 (by decide) boardL_in boardL_ok (by decide) (by decide)]; kernel_rfl
theorem nC : pit_FitL 1300 boardL 400 = some ([], 0) := by rw [pit_Fit_at 1300 (by decide) boardL_in boardL_ok (by decide)]; kernel_rfl
theorem nD : pit_Void 1300 (boardL ++ boardL) = some ([6], 0) := by rw [pit_Void_at 1300 (by decide) board2_in (by kernel_rfl)]; kernel_rfl
theorem nE : pit_Open 1300 boardL 100 150 = some ([], 2) := by rw [pit_Open_eq 1300 _ _ _ (by decide) boardL_in, if_pos boardL_ok]; kernel_rfl
theorem nF : pit_FitL 1300 boardL 1000001 = some ([], 2) := by rw [pit_Fit_eq 1300 _ _ (by decide) boardL_in, if_pos boardL_ok]; kernel_rfl
theorem nG : pit_Void 1300 (boardL ++ [lateC]) = some ([], 6) := by
  have : faultL (boardL ++ [lateC]) = 6 := by kernel_rfl
  rw [pit_Void_eq 1300 _ (by decide) board3_in, this]; rfl
theorem nH : pit_CheckCards 1300 (List.replicate 41 (Card.mk 0 0 0 (IK.mk 0) 0 0)) = some 3 := by
  rw [pit_CheckCards_eq 1300 _ (by decide) (fun c hc => by rw [List.eq_of_mem_replicate hc]; decide)]; kernel_rfl
theorem nI : pit_CheckCards 1300 (List.replicate 1 (Card.mk 0 0 0 (IK.mk 0) 0 0)) = some 1 := by
  rw [pit_CheckCards_eq 1300 _ (by decide) (fun c hc => by rw [List.eq_of_mem_replicate hc]; decide)]; kernel_rfl
set_option maxRecDepth 100000 in
theorem pitNames_law : law_PitNames 1300 = some true := by
  have e : law_board 1300 = some boardL := rfl
  have e1 : app boardL boardL = some (boardL ++ boardL) := rfl
  have e2 : app boardL ([(Card.mk 7 7 311 (IK.mk 0) 5 0)] : List Card) = some (boardL ++ [lateC]) := rfl
  have e3 : mk 41 ((Card.mk 0 0 0 (IK.mk 0) 0 0) : Card) = some (List.replicate 41 (Card.mk 0 0 0 (IK.mk 0) 0 0)) := rfl
  have e4 : mk 1 ((Card.mk 0 0 0 (IK.mk 0) 0 0) : Card) = some (List.replicate 1 (Card.mk 0 0 0 (IK.mk 0) 0 0)) := rfl
  unfold law_PitNames
  simp only [e, e1, e2, e3, e4, Option.bind_some, nA, nB, nC, nD, nE, nF, nG, nH, nI, wakes1300]
  show _ = some true
  kernel_rfl
end Go.Proofs.Ytkbphdjemgibnaa
namespace Go.Proofs.Ytkbphdjemgibnaa
open Go Go.RowKit
end Go.Proofs.Ytkbphdjemgibnaa
