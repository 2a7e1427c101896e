/- What a printed proof leans on: memory that is read, and steps through a region. -/
import Derived.Test.YthcbemnflgjadaaNmS5
import Derived.Lib.SlicesCompact
set_option linter.all false
namespace Go.Proofs.Ythcbemnflgjadaa
open Go Go.RowKit
open Rep (rep)
section
variable {F : Fr} {h : Heap} {e : Env} {pl : List Plc} {rw rw' : List Row} {w : World}
open Classical in
theorem Mem.reRow (hm : Mem F h e pl rw w) (f : Nat → Nat) (hf : ∀ i j, i < rw'.length → j < rw'.length → f i = f j → i = j) (hr : ∀ i, i < rw'.length → rw'[i]? = rw[f i]?) : Mem F h e pl rw' w := by
  obtain ⟨ow, m⟩ := hm
  refine ⟨fun b => match ow b with | some (.inr j) => if hj : ∃ i, i < rw'.length ∧ f i = j then some (.inr hj.choose) else none | x => x, m.below, m.le, m.old, m.has, fun b x hx => ?_, fun b o x i hh hx => ?_, fun i p hp => ?_, fun k r hk => ?_, fun b x hx => ?_⟩
  · cases hb : ow b with
    | none => simp [hb] at hx
    | some y => exact m.ows b y hb
  · cases hb : ow b with
    | none => simp [hb] at hx
    | some y =>
      cases y with
      | inl q => simp [hb] at hx; subst hx; exact m.hown b o x q hh hb
      | inr q =>
        simp only [hb] at hx
        split at hx <;> cases hx
  · have := m.pls i p hp
    unfold PlcOk at this ⊢
    split at this
    · obtain ⟨q1, q2⟩ := this
      exact ⟨by simp only [q1], q2⟩
    · exact this
  · have hlt : k < rw'.length := (List.getElem?_eq_some_iff.1 hk).1
    have := m.rws (f k) r (by rw [← hr k hlt]; exact hk)
    refine ⟨this.own, this.frz, fun ad ha => ?_, this.one⟩
    obtain ⟨h1, h2, h3⟩ := this.blk ad ha
    refine ⟨?_, h2, h3⟩
    simp only [h1]
    have hj : ∃ i, i < rw'.length ∧ f i = f k := ⟨k, hlt, rfl⟩
    rw [dif_pos hj]
    congr 2
    exact hf _ _ hj.choose_spec.1 hlt hj.choose_spec.2
  · obtain ⟨h1, h2, h3, h4, h5⟩ := m.ext b x hx
    exact ⟨h1, h2, h3, by simp only [h4], h5⟩
theorem Mem.famIn (A : List Row) {fam : List Row} {r : Row} (hm : Mem F h e pl (A ++ (fam ++ [r])) w) : Mem F h e pl (A ++ (r :: fam)) w := by
  refine hm.reRow (fun i => if i < A.length then i else if i = A.length then A.length + fam.length else i - 1) (fun i j hi hj hij => ?_) fun i hi => ?_
  · simp only [List.length_append, List.length_cons] at hi hj
    split at hij <;> split at hij <;> (try split at hij) <;> (try split at hij) <;> omega
  · simp only [List.length_append, List.length_cons] at hi
    split
    · rename_i h1; rw [List.getElem?_append_left h1, List.getElem?_append_left h1]
    · rename_i h1
      split
      · rename_i h2
        subst h2
        rw [List.getElem?_append_right (Nat.le_refl _), List.getElem?_append_right (by omega)]
        simp
      · rename_i h2
        rw [List.getElem?_append_right (by omega), List.getElem?_append_right (by omega), show i - A.length = (i - 1 - A.length) + 1 by omega, List.getElem?_cons_succ, List.getElem?_append_left (by omega)]
theorem Mem.famCut (A B : List Row) {fam : List Row} (hm : Mem F h e pl (A ++ (B ++ fam)) w) : Mem F h e pl (A ++ fam) w := by
  refine hm.reRow (fun i => if i < A.length then i else i + B.length) (fun i j hi hj hij => ?_) fun i hi => ?_
  · split at hij <;> split at hij <;> omega
  · simp only [List.length_append] at hi
    split
    · rename_i h1; rw [List.getElem?_append_left h1, List.getElem?_append_left h1]
    · rw [List.getElem?_append_right (by omega), List.getElem?_append_right (by omega), List.getElem?_append_right (by omega), show i + B.length - A.length - B.length = i - A.length by omega]
theorem Mem.nilRows (E : TypeId) (sz : Nat) (hm : Mem F h e pl rw w) : ∀ n, Mem F h e pl (rw ++ List.replicate n ⟨none, 0, 0, E, sz, [], 0⟩) w
  | 0 => by simpa using hm
  | n + 1 => by
    have := (Mem.nilRows E sz hm n).nilRow E sz
    rw [List.append_assoc] at this
    rwa [List.replicate_succ']
end
def famX {α : Type} (g : Row → α → List Value) : List Row → List α → List Value
  | r :: fam, x :: l => g r x ++ famX g fam l
  | _, _ => []
section
variable {α : Type} {g : Row → α → List Value} {s : Nat}
theorem famX_len (hg : ∀ r x, (g r x).length = s) : ∀ {fam : List Row} {l : List α}, fam.length = l.length → (famX g fam l).length = l.length * s
  | [], [], _ => by simp [famX]
  | r :: fam, x :: l, h => by
    simp only [famX, List.length_append, hg, List.length_cons]
    rw [famX_len hg (by simpa using h), Nat.succ_mul]; omega
theorem famX_get (hg : ∀ r x, (g r x).length = s) : ∀ {fam : List Row} {l : List α} {k : Nat} {r : Row} {x : α}, fam[k]? = some r → l[k]? = some x → ∀ j v, (g r x)[j]? = some v → (famX g fam l)[0 + k * s + j]? = some v
  | r0 :: fam, x0 :: l, 0, r, x, hr, hx, j, v, hv => by
    simp at hr hx; subst hr; subst hx
    simp only [famX, Nat.zero_mul, Nat.zero_add]
    rw [List.getElem?_append_left (List.getElem?_eq_some_iff.1 hv).1, hv]
  | r0 :: fam, x0 :: l, k + 1, r, x, hr, hx, j, v, hv => by
    have := famX_get hg (fam := fam) (l := l) (k := k) (by simpa using hr) (by simpa using hx) j v hv
    simp only [famX]
    rw [List.getElem?_append_right (by rw [hg, Nat.succ_mul]; omega), hg, show 0 + (k + 1) * s + j - s = 0 + k * s + j by rw [Nat.succ_mul]; omega]
    exact this
  | [], _, _, _, _, hr, _, _, _, _ => by simp at hr
  | _ :: _, [], _, _, _, _, hx, _, _, _ => by simp at hx
theorem famX_lt (hg : ∀ r x, (g r x).length = s) (hs : 0 < s) {fam : List Row} {l : List α} {k : Nat} (hl : fam.length = l.length) (hk : k < l.length) : 0 + k * s < (famX g fam l).length := by
  rw [famX_len hg hl, Nat.zero_add]
  exact Nat.mul_lt_mul_of_pos_right hk hs
theorem famX_fit (hg : ∀ r x, (g r x).length = s) {fam : List Row} {l : List α} {k off n : Nat} (hl : fam.length = l.length) (hk : k < l.length) (hp : off + n ≤ s) : 0 + k * s + off + n ≤ (famX g fam l).length := by
  rw [famX_len hg hl]
  have : (k + 1) * s ≤ l.length * s := Nat.mul_le_mul_right _ hk
  rw [Nat.succ_mul] at this
  omega
theorem famX_set (hg : ∀ r x, (g r x).length = s) : ∀ {fam : List Row} {l : List α} {k : Nat} {r r' : Row} {x x' : α} {off : Nat} {vals : List Value}, fam[k]? = some r → l[k]? = some x → (g r x).take off ++ vals ++ (g r x).drop (off + vals.length) = g r' x' → off + vals.length ≤ s →
    (famX g fam l).take (0 + k * s + off) ++ vals ++ (famX g fam l).drop (0 + k * s + off + vals.length) = famX g (fam.set k r') (l.set k x')
  | r0 :: fam, x0 :: l, 0, r, r', x, x', off, vals, hr, hx, he, hp => by
    simp at hr hx; subst hr; subst hx
    simp only [famX, Nat.zero_mul, Nat.zero_add, List.set_cons_zero]
    rw [← he, List.take_append_of_le_length (by rw [hg]; omega), List.drop_append_of_le_length (by rw [hg]; omega)]
    simp only [List.append_assoc]
  | r0 :: fam, x0 :: l, k + 1, r, r', x, x', off, vals, hr, hx, he, hp => by
    have := famX_set hg (fam := fam) (l := l) (k := k) (by simpa using hr) (by simpa using hx) he hp
    simp only [famX, List.set_cons_succ]
    rw [← this]
    have h1 : 0 + (k + 1) * s + off = s + (0 + k * s + off) := by rw [Nat.succ_mul]; omega
    rw [h1, List.take_append, List.drop_append, hg, List.take_of_length_le (by rw [hg]; omega), List.drop_of_length_le (by rw [hg]; omega), show s + (0 + k * s + off) - s = 0 + k * s + off by omega, show s + (0 + k * s + off) + vals.length - s = 0 + k * s + off + vals.length by omega]
    simp only [List.append_assoc, List.nil_append]
  | [], _, _, _, _, _, _, _, _, hr, _, _, _ => by simp at hr
  | _ :: _, [], _, _, _, _, _, _, _, _, hx, _, _ => by simp at hx
theorem set_at {β : Type} {l : List β} {k : Nat} {x : β} (h : l[k]? = some x) : l.set k x = l := by
  obtain ⟨hk, rfl⟩ := List.getElem?_eq_some_iff.1 h
  simp
theorem famX_set1 (hg : ∀ r x, (g r x).length = s) {fam : List Row} {l : List α} {k : Nat} {r : Row} {x x' : α} {off : Nat} {vals : List Value} (hr : fam[k]? = some r) (hx : l[k]? = some x) (he : (g r x).take off ++ vals ++ (g r x).drop (off + vals.length) = g r x') (hp : off + vals.length ≤ s) :
    (famX g fam l).take (0 + k * s + off) ++ vals ++ (famX g fam l).drop (0 + k * s + off + vals.length) = famX g fam (l.set k x') := by
  have := famX_set hg (r' := r) hr hx he hp
  rwa [set_at hr] at this
theorem famX_nils {r : Row} {x : α} : ∀ n, (List.replicate n (g r x)).flatten = famX g (List.replicate n r) (List.replicate n x)
  | 0 => rfl
  | n + 1 => by rw [List.replicate_succ, List.flatten_cons, famX_nils n]; rfl
structure SFam {α β : Type} [Rep β] (pr : α → List β) (E sz : Nat) (h : Heap) (fam : List Row) (l : List α) : Prop where
  len : fam.length = l.length
  row : ∀ (k : Nat) (r : Row) (x : α), fam[k]? = some r → l[k]? = some x → r.E = E ∧ r.sz = sz ∧ r.frz = 0 ∧ r.n = (pr x).length ∧ Cells h (pr x) r.xs
variable {β : Type} [Rep β] {pr : α → List β} {E sz : Nat} {h h' : Heap} {fam : List Row} {l : List α} {F : Fr} {e : Env} {pl : List Plc} {w : World}
theorem SFam.mono (H : SFam pr E sz h fam l) (hle : Heap.le h h') : SFam pr E sz h' fam l :=
  ⟨H.len, fun k r x hr hx => let ⟨h1, h2, h3, h4, h5⟩ := H.row k r x hr hx; ⟨h1, h2, h3, h4, h5.mono hle⟩⟩
theorem SFam.get (H : SFam pr E sz h fam l) {k : Nat} {x : α} (hx : l[k]? = some x) : ∃ a c xs, fam[k]? = some ⟨a, (pr x).length, c, E, sz, xs, 0⟩ ∧ Cells h (pr x) xs := by
  have hk : k < fam.length := by rw [H.len]; exact (List.getElem?_eq_some_iff.1 hx).1
  have hr : fam[k]? = some fam[k] := List.getElem?_eq_getElem hk
  obtain ⟨h1, h2, h3, h4, h5⟩ := H.row k _ x hr hx
  generalize fam[k] = r at hr h1 h2 h3 h4 h5
  obtain ⟨a, n, c, E1, s1, xs, f⟩ := r
  simp only at h1 h2 h3 h4 h5
  subst h1 h2 h3 h4
  exact ⟨a, c, xs, hr, h5⟩
theorem SFam.set (H : SFam pr E sz h fam l) {k : Nat} {r : Row} {x : α} (h1 : r.E = E ∧ r.sz = sz ∧ r.frz = 0 ∧ r.n = (pr x).length ∧ Cells h (pr x) r.xs) : SFam pr E sz h (fam.set k r) (l.set k x) := by
  refine ⟨by simp [H.len], fun j q y hq hy => ?_⟩
  by_cases hj : k = j
  · subst hj
    have hk := (List.getElem?_eq_some_iff.1 hq).1
    have hl := (List.getElem?_eq_some_iff.1 hy).1
    simp only [List.length_set] at hk hl
    rw [List.getElem?_set_self hk] at hq
    rw [List.getElem?_set_self hl] at hy
    cases hq; cases hy
    exact h1
  · rw [List.getElem?_set_ne hj] at hq hy
    exact H.row j q y hq hy
theorem SFam.set1 (H : SFam pr E sz h fam l) {k : Nat} {r : Row} {x x' : α} (hr : fam[k]? = some r) (hx : l[k]? = some x) (hp : pr x = pr x') : SFam pr E sz h fam (l.set k x') := by
  have := H.set (x := x') (k := k) (r := r) (by have := H.row k r x hr hx; rw [hp] at this; exact this)
  rwa [set_at hr] at this
theorem SFam.nils {x : α} (hx : pr x = []) (n : Nat) : SFam pr E sz h (List.replicate n ⟨none, 0, 0, E, sz, [], 0⟩) (List.replicate n x) := by
  refine ⟨by simp, fun k r y hr hy => ?_⟩
  rw [List.getElem?_replicate] at hr hy
  by_cases hk : k < n
  · rw [if_pos hk] at hr hy
    cases hr; cases hy
    exact ⟨rfl, rfl, rfl, by rw [hx]; rfl, by rw [hx]; exact Cells.nil⟩
  · rw [if_neg hk] at hr; cases hr
theorem SFam.make {rw : List Row} {a : Option Addr} {EC szc : Nat} {z : List Value} {x : α} {l : List α} {n : Nat} (E sz : Nat) (hx : pr x = []) (hz : g ⟨none, 0, 0, E, sz, [], 0⟩ x = z) (hl : l = List.replicate n x)
    (hm : Mem F h e pl (rw ++ [⟨a, n, n, EC, szc, (List.replicate n z).flatten, 0⟩]) w) :
    ∃ fam, SFam pr E sz h fam l ∧ Mem F h e pl (rw ++ (⟨a, l.length, l.length, EC, szc, famX g fam l, 0⟩ :: fam)) w := by
  subst hl hz
  refine ⟨List.replicate n ⟨none, 0, 0, E, sz, [], 0⟩, SFam.nils hx n, ?_⟩
  have := hm.nilRows E sz n
  rw [List.append_assoc] at this
  rw [List.length_replicate, ← famX_nils]
  exact this
theorem SFam.settle (A : List Row) (hm : Mem F h e pl (A ++ fam) w) : ∀ n, n ≤ fam.length → ∃ h' fam', Heap.le h h' ∧ Mem F h' e pl (A ++ fam') w ∧ fam'.length = fam.length ∧ (∀ k, n ≤ k → fam'[k]? = fam[k]?) ∧ ∀ (k : Nat) (r : Row), k < n → fam[k]? = some r → SliceIn h' r.a r.xs
  | 0, _ => ⟨h, fam, Heap.le_refl _, hm, rfl, fun _ _ => rfl, fun _ _ hk => by omega⟩
  | n + 1, hn => by
    obtain ⟨h1, f1, hle, hm1, hl1, hs1, hd1⟩ := SFam.settle A hm n (by omega)
    have hr : fam[n]? = some fam[n] := List.getElem?_eq_getElem (by omega)
    obtain ⟨h2, hle2, hsl, hm2⟩ := hm1.settle (i := A.length + n) (r := fam[n]) (by rw [List.getElem?_append_right (by omega), Nat.add_sub_cancel_left, hs1 n (Nat.le_refl _), hr])
    rw [show ∀ q : Row, (A ++ f1).set (A.length + n) q = A ++ f1.set n q from fun q => by rw [List.set_append, if_neg (by omega)]; simp] at hm2
    refine ⟨h2, _, Heap.le_trans hle hle2, hm2, by simp [hl1], fun k hk => ?_, fun k r hk hr' => ?_⟩
    · rw [List.getElem?_set_ne (by omega)]; exact hs1 k (by omega)
    · by_cases hkn : k = n
      · subst hkn
        rw [hr] at hr'; cases hr'
        exact hsl
      · exact (hd1 k r (by omega) hr').mono hle2
theorem famX_cells [Rep α] {h' : Heap} (hg : ∀ (r : Row) (x : α), RepS h' r.a r.c (pr x) → r.n = (pr x).length → rep h' x (g r x)) : ∀ {fam : List Row} {l : List α}, fam.length = l.length → (∀ (k : Nat) (r : Row) (x : α), fam[k]? = some r → l[k]? = some x → RepS h' r.a r.c (pr x) ∧ r.n = (pr x).length) → Cells h' l (famX g fam l)
  | [], [], _, _ => rfl
  | r :: fam, x :: l, hl, H => by
    have h0 := H 0 r x rfl rfl
    exact ⟨_, _, rfl, hg r x h0.1 h0.2, famX_cells hg (by simpa using hl) fun k r' x' hr hx => H (k + 1) r' x' (by simpa using hr) (by simpa using hx)⟩
theorem SFam.settleAll [Rep α] (A : List Row) (H : SFam pr E sz h fam l) (hg : ∀ (h : Heap) (r : Row) (x : α), RepS h r.a r.c (pr x) → r.n = (pr x).length → rep h x (g r x)) (hm : Mem F h e pl (A ++ fam) w) : ∃ h', Heap.le h h' ∧ Mem F h' e pl A w ∧ Cells h' l (famX g fam l) := by
  obtain ⟨h1, f1, hle, hm1, hl1, _, hd⟩ := SFam.settle A hm fam.length (Nat.le_refl _)
  have hm2 := hm1.cutRw A.length
  rw [List.take_left] at hm2
  refine ⟨h1, hle, hm2, famX_cells (hg h1) H.len fun k r x hr hx => ?_⟩
  obtain ⟨_, _, _, h4, h5⟩ := H.row k r x hr hx
  have hk := (List.getElem?_eq_some_iff.1 hr).1
  have hc : r.n ≤ r.c := hm.rowCap (i := A.length + k) (by rw [List.getElem?_append_right (by omega), Nat.add_sub_cancel_left, hr])
  exact ⟨⟨r.xs, h5.mono hle, hd k r hk hr, by rw [← h4]; exact hc⟩, h4⟩
end
section
variable {P : Program} {N : Nat} {F : Fr} {h : Heap} {e : Env} {pl : List Plc} {rw : List Row} {m : TM} {t : Array Value} {dd : List Deferred} {w w' : World}
  {o : Oper} {K : Act → World → Prop} {Q : Exit → Act → World → Prop} {d : Nat}
end
theorem Cells.atInt {h h' : Heap} : ∀ {xs : List Int} {vs : List Value}, Cells h xs vs → Cells h' xs vs
  | [], _, H => H
  | _ :: _, _, ⟨cs, us, e, hx, hr⟩ => ⟨cs, us, e, hx, Cells.atInt hr⟩
end Go.Proofs.Ythcbemnflgjadaa
namespace Go.Proofs.Ythcbemnflgjadaa
open Go Go.RowKit
open Rep (rep)
open KRep (kv)
open VRep (rv)
def Grows (P : Program) (f : FuncId) (E : TypeId) : Prop := ∀ (k : Nat) (w : World), k ≤ 1000000000 → Calls P f #[.slice none 0 0, .int .i64 k] w fun en w' =>
  (en = .returned (.slice none 0 0) ∧ w' = w) ∨ ∃ (c : Nat) (cur : Array Value), en = .returned (.slice (some ⟨w.heap.size, 0, none⟩) 0 c) ∧ c ≤ maxLen ∧ cur.size = c ∧ w' = w.drew.alloc (.cells cur E (0, 0))
def growO (k : Int) : Option Unit := if 0 ≤ k ∧ k ≤ 1000000000 then some () else none
theorem growO_some {k : Int} {u : Unit} (h : growO k = some u) : 0 ≤ k ∧ k ≤ 1000000000 := by
  unfold growO at h
  split at h
  · assumption
  · cases h
section
variable {P : Program} {Q : Exit → Act → World → Prop} {N : Nat} {F : Fr} {h : Heap} {e : Env} {pl : List Plc} {rw : List Row} {w : World} {m : TM} {t : Array Value} {dd : List Deferred} {o : Oper} {d : Nat} {K : Act → World → Prop}
theorem wp_growNil {f : FuncId} {args : Array Operand} {tys : Array TypeId} {k : Int} (E : TypeId) (G : Grows P f E) (hk : Kn N e m t) (hm : Mem F h e pl rw w) (hop : o.op = .call ⟨.value (.func f), args, tys⟩) (hd : o.dst = some d) (hlt : d < N)
    (hargs : evAs m args.toList = some [.c (.slice none 0 0), .c (.int .i64 k)]) (hent : ∀ args w, (callFunc f args).run P w = .ok (.enter f args) w) (h0 : 0 ≤ k) (hb : k ≤ 1000000000)
    (hK : ∀ a c t' w', Kn N e (m.put d (.one (.c (.slice a 0 c)))) t' → Mem F h e pl (rw ++ [⟨a, 0, c, E, 1, [], 0⟩]) w' → K ⟨t', dd⟩ w') : o.wp P ⟨t, dd⟩ w K Q := by
  obtain ⟨n, rfl⟩ : ∃ n : Nat, k = (n : Int) := ⟨k.toNat, by omega⟩
  refine wp_callM _ #[.slice none 0 0, .int .i64 (n : Int)] hk hop hd hlt hargs rfl hent (S := fun v w' => (v = .slice none 0 0 ∧ w' = w) ∨ ∃ (c : Nat) (cur : Array Value), v = .slice (some ⟨w.heap.size, 0, none⟩) 0 c ∧ c ≤ maxLen ∧ cur.size = c ∧ w' = w.drew.alloc (.cells cur E (0, 0))) ((G n w (by omega)).mono ?_) ?_
  · rintro en w' (⟨rfl, rfl⟩ | ⟨c, cur, rfl, h1, h2, rfl⟩)
    · exact ⟨_, rfl, .inl ⟨rfl, rfl⟩⟩
    · exact ⟨_, rfl, .inr ⟨c, cur, rfl, h1, h2, rfl⟩⟩
  · rintro v w' (⟨rfl, rfl⟩ | ⟨c, cur, rfl, h1, h2, rfl⟩)
    · exact ⟨.one (.c (.slice none 0 0)), rfl, fun t' hk' => hK _ _ _ _ hk' (hm.nilRow E 1)⟩
    · refine ⟨.one (.c (.slice (some ⟨w.heap.size, 0, none⟩) 0 c)), rfl, fun t' hk' => hK _ _ _ _ hk' ?_⟩
      have hsz : w.drew.heap.size = w.heap.size := rfl
      refine hm.drew.newRow (r := ⟨some ⟨w.heap.size, 0, none⟩, 0, c, E, 1, [], 0⟩) (b := w.heap.size) (World.grownBy_alloc w.drew _ none) (Nat.le_refl _) (by simp [hsz]) rfl ?_ rfl (by simp)
      refine ⟨rfl, .inr ⟨w.heap.size, c, cur, rfl, hm.size, ?_, Nat.zero_le _, h1, by show cur.size = c * 1; omega, ?_⟩⟩
      · show (w.heap.push _)[w.heap.size]? = _
        rw [Array.getElem?_push_size]
      · simp
end
end Go.Proofs.Ythcbemnflgjadaa
