/- Top, the plain law: TopBlocks. -/
import Derived.Test.YtinminkmefljbaaGreattcS10
import Derived.Test.YtinminkmefljbaaGreatRows
import Derived.ProofKit
import Derived.KernelRfl
import Derived.Test.YtinminkmefljbaaGreattcL0
set_option linter.all false
namespace Go.Proofs.YtinminkmefljbaaGreat
open Go Go.RowKit Go.ChangeShapes Go.WideShapes Go.ChangeAt
open Rep (rep)
theorem Xd : ownKnob Tryz.prog.godebug = none := by kernel_rfl
theorem K6 : laidOutB Tryz.prog = true := by kernel_rfl
theorem Up {n : Int} (h : (Lit.int .u16 n).wf = true) : 0 ≤ n ∧ n ≤ 65535 := by
  simpa [Lit.wf, IntKind.min, IntKind.max, IntKind.bits, IntKind.signed] using h
def UW {α : Type} (_ : α) : Prop := True
theorem CH.any {α : Type} [Rep α] {R : α → Prop} {P : Program} {T : TypeId} (h : CH α R P T) : CH α UW P T := ⟨fun enc w base spare held fuel cs x hx => by
  obtain ⟨y, hy, _⟩ := h.of enc w base spare held fuel cs x hx
  exact ⟨y, hy, trivial⟩⟩
theorem Lf : CH Int UW Tryz.prog 3 := (CH.int Tryz.underlying3).any
theorem UX : CH (List Int) UW Tryz.prog 26 := (CH.slice Tryz.underlying26 Lf (by kernel_rfl) (by decide)).any
theorem Xe : CH (List (IK .u16)) (fun l => ∀ x ∈ l, (Lit.int .u16 x.n).wf = true) Tryz.prog 27 := CH.slice Tryz.underlying27 (CH.ik Tryz.underlying76) (by kernel_rfl) (by decide)
theorem Xf : CH AH UW Tryz.prog 46 := CH.struct (fun x => (x.fr, x.to_, x.start, x.least, x.most, x.kind)) (fun y => ⟨y.1, y.2.1, y.2.2.1, y.2.2.2.1, y.2.2.2.2.1, y.2.2.2.2.2⟩) (fun _ _ => trivial) (fun _ => rfl) (fun _ _ _ h => h) Tryz.underlying46 (by kernel_rfl)
  (EL.cons Lf rfl (by kernel_rfl) (EL.cons Lf rfl (by kernel_rfl) (EL.cons Lf rfl (by kernel_rfl) (EL.cons Lf rfl (by kernel_rfl) (EL.cons Lf rfl (by kernel_rfl) (EL.one Lf rfl (by kernel_rfl)))))))
theorem Wg : CH An UW Tryz.prog 25 := CH.struct (fun x => (x.places, x.layover, x.empty, x.trips)) (fun y => ⟨y.1, y.2.1, y.2.2.1, y.2.2.2⟩) (fun _ _ => trivial) (fun _ => rfl) (fun _ _ _ h => h) Tryz.underlying25 (by kernel_rfl)
  (EL.cons Lf rfl (by kernel_rfl) (EL.cons Lf rfl (by kernel_rfl) (EL.cons (CH.slice Tryz.underlying22 UX (by kernel_rfl) (by decide)).any rfl (by kernel_rfl) (EL.one (CH.slice Tryz.underlying23 Xf (by kernel_rfl) (by decide)).any rfl (by kernel_rfl)))))
theorem UY {H : Type} {enc : TypeId × Value → H} {P : Program} {T E : TypeId} (ht : P.underlying T = some (.slice E)) {W : World} {base : Nat} {spare : Nat → Bool} {held : Bool} {a : Option Addr} {n c : Nat} {d : DataW H} {ps : List MemPlace} (hd : DataW.Trod enc P W base spare held T (.slice a n c) d ps) : n = 0 ∨ ∃ es rs, d = .slice es rs ∧ es.length = n := by
  obtain ⟨fuel, hf⟩ := hd
  rcases Deep.open_slice ht hf with ⟨h, _⟩ | ⟨a', len, cap, m, k, D, Pl, h, _, _, _, _, hx, _⟩
  · simp [Value.cells] at h
    exact .inl h.2.1
  simp [Value.cells] at h
  obtain ⟨rfl, rfl, rfl⟩ := h
  simp only [Prod.mk.injEq] at hx
  exact .inr ⟨_, _, hx.1, by simp⟩
theorem UZ {H : Type} {α : Type} [Rep α] {R : α → Prop} {enc : TypeId × Value → H} {P : Program} {T : TypeId} {fs : Array Field} (ho : CH α R P T) (ht : P.underlying T = some (.struct fs)) {W : World} {base : Nat} {spare : Nat → Bool} {held : Bool} {r : Reach} {b0 : Nat} {v : Value} {d : DataW H} {ps : List MemPlace}
    (hval : Value.okWide P W r b0 T v) (hd : DataW.Trod enc P W base spare held T v d ps) : ∃ (y : α) (cs : List Value), v = .agg cs.toArray ∧ rep (Sm W) y cs ∧ R y := by
  unfold Value.okWide at hval
  rw [ht] at hval
  obtain ⟨cs, rfl, _, _⟩ := hval
  obtain ⟨fuel, hf⟩ := hd
  obtain ⟨y, hy, hR⟩ := ho.of _ _ _ _ _ _ _ _ hf
  exact ⟨y, cs.toList, by simp, by simpa [Value.cells] using hy, hR⟩
theorem TA {H : Type} {α : Type} [Rep α] {R : List α → Prop} {enc : TypeId × Value → H} {P : Program} {T E : TypeId} (ho : CH (List α) R P T) (ht : P.underlying T = some (.slice E)) {W : World} {base : Nat} {spare : Nat → Bool} {held : Bool} {r : Reach} {b0 : Nat} {v : Value} {d : DataW H} {ps : List MemPlace}
    (hval : Value.okWide P W r b0 T v) (hd : DataW.Trod enc P W base spare held T v d ps) : ∃ (y : List α) (a : Option Addr) (c : Nat), v = .slice a y.length c ∧ At (Sm W) a c y ∧ R y := by
  obtain ⟨a, n, c, rfl⟩ := okWide_slice ht hval
  obtain ⟨fuel, hf⟩ := hd
  obtain ⟨y, hy, hR⟩ := ho.of _ _ _ _ _ _ _ _ hf
  obtain ⟨a', c', h1, h2⟩ := hy
  simp only [Value.cells, List.cons.injEq, and_true] at h1
  cases h1
  exact ⟨y, a, c, rfl, h2, hR⟩
open Go Go.RowKit
def setI (f : Int → Int) (b v : Int) : Int → Int := fun x => if x = b then v else f x
theorem FZ (f : Int → Int) (b v : Int) : setI f b v b = v := by simp [setI]
theorem Fd (f : Int → Int) {b x : Int} (v : Int) (h : x ≠ b) : setI f b v x = f x := by simp [setI, h]
structure Wh (N : Nat) (M : Int → Int → Prop) (nx bf : Int → Int) : Prop where
  a : ∀ j ∈ Ah N, nx j = -1 ∨ (nx j ∈ Ah N ∧ M j (nx j) ∧ bf (nx j) = j)
  b : ∀ k ∈ Ah N, bf k = -1 ∨ (bf k ∈ Ah N ∧ nx (bf k) = k)
structure WE (N : Nat) (M : Int → Int → Prop) (i : Int) (nx bf : Int → Int) (tr : Int → Bool) (nx' bf' : Int → Int) : Prop where
  a : ∀ j ∈ Ah N, nx' j = -1 ∨ (nx' j ∈ Ah N ∧ M j (nx' j) ∧ bf' (nx' j) = j)
  n : nx' i ≠ -1 ∧ tr (nx' i) = false
  b : ∀ k ∈ Ah N, bf' k = -1 ∨ (bf' k ∈ Ah N ∧ (nx' (bf' k) = k ∨ k = nx i))
  c : ∀ k, tr k = true → bf' k = bf k
  d : ∀ j, j ≠ i → (nx j = -1 ∨ tr (nx j) = true) → nx' j = nx j
section
variable {N : Nat} {M : Int → Int → Prop} {nx bf nx1 bf1 : Int → Int} {tr tr1 : Int → Bool} {i k : Int}
theorem Va (h : WE N M i nx bf tr1 nx1 bf1) (ht : ∀ x, tr x = true → tr1 x = true) : WE N M i nx bf tr nx1 bf1 := by
  refine ⟨h.a, ⟨h.n.1, ?_⟩, h.b, fun k hk => h.c k (ht k hk), fun j hj hq => h.d j hj (hq.imp id (ht _))⟩
  cases hq : tr (nx1 i) with
  | false => rfl
  | true =>
    have := ht _ hq
    rw [h.n.2] at this
    cases this
theorem Wi (h : WE N M i nx bf tr nx1 bf1) (hn : nx i = -1) : Wh N M nx1 bf1 := ⟨h.a, fun k hk => by
  rcases h.b k hk with h1 | ⟨h1, h2⟩
  · exact .inl h1
  refine .inr ⟨h1, ?_⟩
  rcases h2 with h2 | h2
  · exact h2
  have := Aq.1 hk
  omega⟩
theorem Vb (h : Wh N M nx bf) (hi : i ∈ Ah N) (hk : k ∈ Ah N) (hM : M i k) (ht : tr k = false) (hb : bf k = -1) : WE N M i nx bf tr (setI nx i k) (setI bf k i) := by
  have hk0 := Aq.1 hk
  refine ⟨fun j hj => ?_, ?_, fun k2 hk2 => ?_, fun k2 hk2 => ?_, fun j hj _ => Fd _ _ hj⟩
  · by_cases hji : j = i
    · subst hji
      rw [FZ, FZ]
      exact .inr ⟨hk, hM, rfl⟩
    rw [Fd _ _ hji]
    rcases h.a j hj with h1 | ⟨h1, h2, h3⟩
    · exact .inl h1
    refine .inr ⟨h1, h2, ?_⟩
    rw [Fd _ _ (fun hq => ?_)]
    · exact h3
    rw [hq, hb] at h3
    have := Aq.1 hj
    omega
  · rw [FZ]
    exact ⟨by omega, ht⟩
  · by_cases hkk : k2 = k
    · subst hkk
      rw [FZ, FZ]
      exact .inr ⟨hi, .inl rfl⟩
    rw [Fd _ _ hkk]
    rcases h.b k2 hk2 with h1 | ⟨h1, h2⟩
    · exact .inl h1
    refine .inr ⟨h1, ?_⟩
    by_cases hbi : bf k2 = i
    · right; rw [← h2, hbi]
    left; rw [Fd _ _ hbi]; exact h2
  rw [Fd _ _ (fun hq => ?_)]
  rw [hq, ht] at hk2
  cases hk2
theorem Vc (h : Wh N M nx bf) (hi : i ∈ Ah N) (hk : k ∈ Ah N) (hM : M i k) (ht : tr k = false) (hb : bf k ≠ -1) (hni : nx i = -1 ∨ tr (nx i) = true) (ht1 : ∀ x, tr x = true → tr1 x = true) (htk : tr1 k = true) (hg : WE N M (bf k) nx bf tr1 nx1 bf1) :
    WE N M i nx bf tr (setI nx1 i k) (setI bf1 k i) := by
  have hk0 := Aq.1 hk
  obtain ⟨hb1, hb2⟩ := (h.b k hk).resolve_left hb
  have hne : bf k ≠ i := fun hq => by
    rw [hq] at hb2
    rw [hb2] at hni
    rcases hni with hni | hni
    · omega
    rw [ht] at hni; cases hni
  have hnk : nx1 (bf k) ≠ k := fun hq => by
    have := hg.n.2
    rw [hq, htk] at this
    cases this
  have hck : bf1 k = bf k := hg.c k htk
  have hdi : nx1 i = nx i := hg.d i (Ne.symm hne) (hni.imp id (ht1 _))
  refine ⟨fun j hj => ?_, ?_, fun k2 hk2 => ?_, fun k2 hk2 => ?_, fun j hj hq => ?_⟩
  · by_cases hji : j = i
    · subst hji
      rw [FZ, FZ]
      exact .inr ⟨hk, hM, rfl⟩
    rw [Fd _ _ hji]
    rcases hg.a j hj with h1 | ⟨h1, h2, h3⟩
    · exact .inl h1
    refine .inr ⟨h1, h2, ?_⟩
    rw [Fd _ _ (fun hq => ?_)]
    · exact h3
    rw [hq, hck] at h3
    rw [← h3] at hq
    exact hnk hq
  · rw [FZ]
    exact ⟨by omega, ht⟩
  · by_cases hkk : k2 = k
    · subst hkk
      rw [FZ, FZ]
      exact .inr ⟨hi, .inl rfl⟩
    rw [Fd _ _ hkk]
    rcases hg.b k2 hk2 with h1 | ⟨h1, h2⟩
    · exact .inl h1
    refine .inr ⟨h1, ?_⟩
    have h2' : nx1 (bf1 k2) = k2 := by
      rcases h2 with h2 | h2
      · exact h2
      rw [hb2] at h2; exact absurd h2 hkk
    by_cases hbi : bf1 k2 = i
    · right
      rw [hbi, hdi] at h2'
      exact h2'.symm
    left; rw [Fd _ _ hbi]; exact h2'
  · have hkk : k2 ≠ k := fun hq => by rw [hq, ht] at hk2; cases hk2
    rw [Fd _ _ hkk]
    exact hg.c k2 (ht1 _ hk2)
  rw [Fd _ _ hj]
  have hjb : j ≠ bf k := fun hjb => by
    rw [hjb, hb2] at hq
    rcases hq with hq | hq
    · omega
    rw [ht] at hq; cases hq
  exact hg.d j hjb (hq.imp id (ht1 _))
def EK (nx : Int → Int) : Nat → Int → List Int
  | 0, _ => []
  | m + 1, k => if k = -1 then [] else k :: EK nx m (nx k)
def I8 (N : Nat) (key : Int → Int) (k : Int) : Nat := ((Ah N).filter fun j => decide (key k < key j)).length
theorem HG {key : Int → Int} {a b : Int} (hb : b ∈ Ah N) (h : key a < key b) : I8 N key b < I8 N key a := by
  unfold I8
  have h1 : ((Ah N).filter fun j => decide (key b < key j)).length + 1 ≤ ((Ah N).filter fun j => decide (key a < key j)).length := by
    have e : ∀ l : List Int, b ∈ l → (l.filter fun j => decide (key b < key j)).length + 1 ≤ (l.filter fun j => decide (key a < key j)).length := by
      intro l hl
      induction l with
      | nil => simp at hl
      | cons x l ih =>
        rw [List.filter_cons, List.filter_cons]
        by_cases hx : x = b
        · subst hx
          rw [if_neg (by simp), if_pos (by simp [h]), List.length_cons]
          have := Fe (l := l) (p := fun j => decide (key x < key j)) (q := fun j => decide (key a < key j)) fun c _ hc => by
            simp only [decide_eq_true_eq] at hc ⊢
            omega
          omega
        have hl' : b ∈ l := by
          rcases List.mem_cons.1 hl with hq | hq
          · exact absurd hq.symm hx
          exact hq
        have := ih hl'
        by_cases h2 : key b < key x
        · rw [if_pos (by simp [h2]), if_pos (by simp; omega), List.length_cons, List.length_cons]
          omega
        rw [if_neg (by simp [h2])]
        split
        · rw [List.length_cons]; omega
        exact this
    exact e _ hb
  omega
theorem Lg {key : Int → Int} {k : Int} (hk : k ∈ Ah N) : I8 N key k < N := by
  have := HG (N := N) (key := fun j => if j = k then (key k : Int) else key j) (a := k) (b := k) hk
  have h2 : ((Ah N).filter fun j => decide (key k < key j)).length + 1 ≤ (Ah N).length := by
    have e : ∀ l : List Int, k ∈ l → (l.filter fun j => decide (key k < key j)).length + 1 ≤ l.length := by
      intro l hl
      induction l with
      | nil => simp at hl
      | cons x l ih =>
        rw [List.filter_cons, List.length_cons]
        by_cases hx : x = k
        · subst hx
          rw [if_neg (by simp)]
          have := List.length_filter_le (fun j => decide (key x < key j)) l
          omega
        have hl' : k ∈ l := by
          rcases List.mem_cons.1 hl with hq | hq
          · exact absurd hq.symm hx
          exact hq
        have := ih hl'
        split
        · rw [List.length_cons]; omega
        omega
    exact e _ hk
  unfold I8
  rw [AU] at h2
  omega
structure TB (N : Nat) (M : Int → Int → Prop) (key : Int → Int) (nx bf : Int → Int) : Prop extends Wh N M nx bf where
  up : ∀ j ∈ Ah N, ∀ k ∈ Ah N, M j k → key j < key k
variable {key : Int → Int}
theorem Lh (h : TB N M key nx bf) : ∀ (m : Nat) (k : Int), (k = -1 ∨ k ∈ Ah N) → (k ∈ Ah N → I8 N key k < m) → EK nx m k = EK nx (m + 1) k
  | 0, k, hk, hm => by
    rcases hk with hk | hk
    · rw [EK, EK, if_pos hk]
    have := hm hk; omega
  | m + 1, k, hk, hm => by
    rw [EK, EK]
    rcases hk with hk | hk
    · rw [if_pos hk, if_pos hk]
    have hk' := Aq.1 hk
    rw [if_neg (by omega), if_neg (by omega)]
    congr 1
    refine Lh h m (nx k) ?_ fun hn => ?_
    · rcases h.a k hk with h1 | ⟨h1, _⟩
      · exact .inl h1
      exact .inr h1
    rcases h.a k hk with h1 | ⟨h1, h2, _⟩
    · rw [h1] at hn
      have := Aq.1 hn
      omega
    have := HG (N := N) hn (h.up k hk _ hn h2)
    have := hm hk
    omega
def C1 (N : Nat) (nx : Int → Int) (k : Int) : List Int := EK nx N k
theorem Ol (h : TB N M key nx bf) {k : Int} (hk : k ∈ Ah N) : C1 N nx k = k :: (if nx k = -1 then [] else C1 N nx (nx k)) := by
  have hk' := Aq.1 hk
  have hl := Lg (key := key) hk
  unfold C1
  rw [Lh h N k (.inr hk) (fun _ => hl), EK, if_neg (by omega)]
  by_cases hn : nx k = -1
  · rw [if_pos hn, hn]
    cases N <;> simp [EK]
  rw [if_neg hn]
theorem M2 (h : TB N M key nx bf) (P : Int → Prop) (H : ∀ k ∈ Ah N, (nx k ≠ -1 → P (nx k)) → P k) : ∀ (m : Nat) (k : Int), k ∈ Ah N → I8 N key k < m → P k
  | 0, k, hk, hm => by omega
  | m + 1, k, hk, hm => H k hk fun hn => by
    obtain ⟨h1, h2, _⟩ := (h.a k hk).resolve_left hn
    have := HG (N := N) h1 (h.up k hk _ h1 h2)
    exact M2 h P H m (nx k) h1 (by omega)
theorem FR (h : TB N M key nx bf) {k : Int} (hk : k ∈ Ah N) : (∀ x ∈ C1 N nx k, x ∈ Ah N ∧ key k ≤ key x ∧ (x = k ∨ (bf x ∈ C1 N nx k ∧ bf x ≠ -1)) ∧ (nx x ≠ -1 → nx x ∈ C1 N nx k)) ∧ (C1 N nx k).Nodup ∧ k ∈ C1 N nx k := by
  refine M2 h (fun k => (∀ x ∈ C1 N nx k, x ∈ Ah N ∧ key k ≤ key x ∧ (x = k ∨ (bf x ∈ C1 N nx k ∧ bf x ≠ -1)) ∧ (nx x ≠ -1 → nx x ∈ C1 N nx k)) ∧ (C1 N nx k).Nodup ∧ k ∈ C1 N nx k) (fun k hk ih => ?_) (I8 N key k + 1) k hk (by omega)
  have hk' := Aq.1 hk
  rw [Ol h hk]
  by_cases hn : nx k = -1
  · rw [if_pos hn]
    refine ⟨fun x hx => ?_, by simp, by simp⟩
    rw [List.mem_singleton] at hx
    subst hx
    exact ⟨hk, Int.le_refl _, .inl rfl, fun hq => absurd hn hq⟩
  obtain ⟨i1, i2, i3⟩ := ih hn
  obtain ⟨h1, h2, h3⟩ := (h.a k hk).resolve_left hn
  have hup := h.up k hk _ h1 h2
  rw [if_neg hn]
  refine ⟨fun x hx => ?_, List.nodup_cons.2 ⟨fun hq => ?_, i2⟩, by simp⟩
  · rcases List.mem_cons.1 hx with rfl | hx
    · exact ⟨hk, Int.le_refl _, .inl rfl, fun _ => List.mem_cons_of_mem _ i3⟩
    obtain ⟨q1, q2, q3, q4⟩ := i1 x hx
    refine ⟨q1, by omega, .inr ?_, fun hq => List.mem_cons_of_mem _ (q4 hq)⟩
    rcases q3 with rfl | ⟨q3, q5⟩
    · rw [h3]; exact ⟨by simp, by omega⟩
    exact ⟨List.mem_cons_of_mem _ q3, q5⟩
  have := (i1 k hq).2.1
  omega
def CY (N : Nat) (nx bf : Int → Int) : List (List Int) := ((Ah N).filter fun i => bf i == -1).map (C1 N nx)
theorem K7 {b : List Int} : b ∈ CY N nx bf ↔ ∃ i ∈ Ah N, bf i = -1 ∧ b = C1 N nx i := by
  unfold CY
  rw [List.mem_map]
  constructor
  · rintro ⟨i, hi, rfl⟩
    rw [List.mem_filter] at hi
    exact ⟨i, hi.1, by simpa using hi.2, rfl⟩
  rintro ⟨i, h1, h2, rfl⟩
  exact ⟨i, List.mem_filter.2 ⟨h1, by simpa using h2⟩, rfl⟩
theorem Om (h : TB N M key nx bf) {i j : Int} (hi : i ∈ Ah N) (hj : j ∈ Ah N) (bi : bf i = -1) (bj : bf j = -1) : ∀ (m : Nat) (x : Int), x ∈ C1 N nx i → x ∈ C1 N nx j → N ≤ I8 N key x + m → i = j
  | m, x, hxi, hxj, hm => by
    obtain ⟨x1, _, x3, _⟩ := (FR h hi).1 x hxi
    obtain ⟨_, _, y3, _⟩ := (FR h hj).1 x hxj
    rcases x3 with x3 | ⟨x3, x4⟩
    · rcases y3 with y3 | ⟨_, y4⟩
      · exact x3.symm.trans y3
      rw [x3] at y4; exact absurd bi y4
    rcases y3 with y3 | ⟨y3, _⟩
    · rw [y3] at x4; exact absurd bj x4
    obtain ⟨b1, b2⟩ := (h.b x x1).resolve_left x4
    have b3 := (h.a _ b1).resolve_left (by rw [b2]; have := Aq.1 x1; omega)
    rw [b2] at b3
    have := HG (N := N) x1 (h.up _ b1 _ x1 b3.2.1)
    have := Lg (key := key) b1
    match m with
    | 0 => omega
    | m + 1 => exact Om h hi hj bi bj m (bf x) x3 y3 (by omega)
theorem Nd (h : TB N M key nx bf) : ∀ (m : Nat) (x : Int), x ∈ Ah N → N ≤ I8 N key x + m → ∃ i ∈ Ah N, bf i = -1 ∧ x ∈ C1 N nx i
  | m, x, hx, hm => by
    by_cases hb : bf x = -1
    · exact ⟨x, hx, hb, (FR h hx).2.2⟩
    obtain ⟨b1, b2⟩ := (h.b x hx).resolve_left hb
    have b3 := (h.a _ b1).resolve_left (by rw [b2]; have := Aq.1 hx; omega)
    rw [b2] at b3
    have := HG (N := N) hx (h.up _ b1 _ hx b3.2.1)
    have := Lg (key := key) b1
    match m with
    | 0 => omega
    | m + 1 =>
      obtain ⟨i, h1, h2, h3⟩ := Nd h m (bf x) b1 (by omega)
      have := (FR h h1).1 (bf x) h3
      refine ⟨i, h1, h2, ?_⟩
      have h4 := this.2.2.2 (by rw [b2]; have := Aq.1 hx; omega)
      rwa [b2] at h4
theorem R1 (h : TB N M key nx bf) : (CY N nx bf).flatten.Nodup ∧ (∀ x, x ∈ (CY N nx bf).flatten ↔ x ∈ Ah N) ∧ (CY N nx bf).flatten.length = N := by
  have h1 : (CY N nx bf).flatten.Nodup := by
    have e : ∀ l : List Int, l.Nodup → (∀ i ∈ l, i ∈ Ah N ∧ bf i = -1) → (l.map (C1 N nx)).flatten.Nodup := by
      intro l
      induction l with
      | nil => simp
      | cons i l ih =>
        intro hn hm
        rw [List.nodup_cons] at hn
        rw [List.map_cons, List.flatten_cons, List.nodup_append]
        obtain ⟨i1, i2⟩ := hm i (by simp)
        refine ⟨(FR h i1).2.1, ih hn.2 fun c hc => hm c (by simp [hc]), fun a ha b hb => ?_⟩
        rintro rfl
        obtain ⟨c, hc, hac⟩ := List.mem_flatten.1 hb
        obtain ⟨j, hj, rfl⟩ := List.mem_map.1 hc
        obtain ⟨j1, j2⟩ := hm j (by simp [hj])
        have := Om h i1 j1 i2 j2 N a ha hac (by omega)
        exact hn.1 (this ▸ hj)
    unfold CY
    exact e _ (List.Pairwise.filter _ (DB N)) fun i hi => by
      rw [List.mem_filter] at hi
      exact ⟨hi.1, by simpa using hi.2⟩
  have h2 : ∀ x, x ∈ (CY N nx bf).flatten ↔ x ∈ Ah N := fun x => by
    rw [List.mem_flatten]
    constructor
    · rintro ⟨b, hb, hx⟩
      obtain ⟨i, i1, i2, rfl⟩ := K7.1 hb
      exact ((FR h i1).1 x hx).1
    intro hx
    obtain ⟨i, i1, i2, i3⟩ := Nd h N x hx (by omega)
    exact ⟨_, K7.2 ⟨i, i1, i2, rfl⟩, i3⟩
  refine ⟨h1, h2, ?_⟩
  have := ((List.perm_ext_iff_of_nodup h1 (DB N)).2 h2).length_eq
  rwa [AU] at this
end
open Go Go.RowKit
theorem On (n : Nat) (x lo hi : Int) : E8 n x lo hi = some (Ei x lo hi) := by
  unfold E8 Ei
  by_cases h : lo ≤ x <;> simp [h]
theorem Ii (n : Nat) (x lo hi : Int) : Dt n x lo hi = some (Ei x lo hi) := by
  unfold Dt Ei
  by_cases h : lo ≤ x <;> simp [h]
structure SM (P : Int) (x : AH) : Prop where
  f : 0 ≤ x.fr ∧ x.fr < P
  t : 0 ≤ x.to_ ∧ x.to_ < P
  s : 0 ≤ x.start ∧ x.start ≤ 2000
  l : 1 ≤ x.least ∧ x.least ≤ x.most
  m : x.most ≤ 600
  k : 0 ≤ x.kind ∧ x.kind ≤ 2
structure CI (t : An) : Prop where
  n : t.trips.length ≤ 12
  p : 1 ≤ t.places ∧ t.places ≤ 6
  l : 0 ≤ t.layover ∧ t.layover ≤ 600
  e : (t.empty.length : Int) = t.places
  r : ∀ row ∈ t.empty, (row.length : Int) = t.places
  c : ∀ (a : Nat) row, t.empty[a]? = some row → row[a]? = some 0
  v : ∀ row ∈ t.empty, ∀ x ∈ row, 0 ≤ x ∧ x ≤ 600
  t : ∀ x ∈ t.trips, SM t.places x
theorem Li (t : An) (hp : t.places ≤ 6) (a : Nat) (row : List Int) (ha : t.empty[a]? = some row) (hr : (row.length : Int) = t.places) : ∀ (n b : Nat), row.length < n + b → b ≤ row.length →
    ∃ r, Dp n t (a : Int) (b : Int) = some r ∧ (r = Ex.ret 1 ∨ r = Ex.go ()) ∧ (r = Ex.go () → ∀ k x, b ≤ k → row[k]? = some x → 0 ≤ x ∧ x ≤ 600)
  | 0, b, h, hb => by omega
  | n + 1, b, h, hb => by
    rw [Dp]
    by_cases hx : b < row.length
    · rw [decide_eq_true (show (b : Int) < t.places by omega), cond_true, QD, ha, Option.bind_some, BX _ _ hx, Option.bind_some, On, Option.bind_some, Da b (by omega)]
      cases hq : Ei row[b] 0 600 with
      | false => exact ⟨_, rfl, .inl rfl, fun h => by cases h⟩
      | true =>
        rw [Bool.not_true, cond_false]
        obtain ⟨r, e, h1, h2⟩ := Li t hp a row ha hr n (b + 1) (by omega) (by omega)
        refine ⟨r, e, h1, fun hg k x hk hkx => ?_⟩
        by_cases hkb : k = b
        · subst hkb
          rw [List.getElem?_eq_getElem hx] at hkx
          cases hkx
          exact AE.1 hq
        exact h2 hg k x (by omega) hkx
    rw [decide_eq_false (show ¬ (b : Int) < t.places by omega), cond_false]
    refine ⟨_, rfl, .inr rfl, fun _ k x hk hkx => ?_⟩
    rw [List.getElem?_eq_none (by omega)] at hkx
    cases hkx
theorem Lj (t : An) (hp : t.places ≤ 6) (he : (t.empty.length : Int) = t.places) : ∀ (n a : Nat), 2 * t.empty.length + 2 < n + a → a ≤ t.empty.length →
    ∃ r, Dq n t (a : Int) = some r ∧ (r = Ex.ret 1 ∨ r = Ex.go ()) ∧ (r = Ex.go () → ∀ k row, a ≤ k → t.empty[k]? = some row → (row.length : Int) = t.places ∧ row[k]? = some 0 ∧ ∀ x ∈ row, 0 ≤ x ∧ x ≤ 600)
  | 0, a, h, ha => by omega
  | n + 1, a, h, ha => by
    rw [Dq]
    by_cases hx : a < t.empty.length
    · rw [decide_eq_true (show (a : Int) < t.places by omega), cond_true, BX _ _ hx, Option.bind_some]
      by_cases hl : ((t.empty[a].length : Nat) : Int) = t.places
      · have hal : a < t.empty[a].length := by omega
        rw [show (((t.empty[a].length : Nat) : Int) != t.places) = false by simp [hl], cond_false, Option.bind_some, BX _ _ hal, Option.bind_some, Option.bind_some]
        by_cases hz : t.empty[a][a] = 0
        · rw [show (t.empty[a][a] != 0) = false by simp [hz], cond_false]
          obtain ⟨r2, e2, h1, h2⟩ := Li t hp a t.empty[a] (List.getElem?_eq_getElem hx) hl n 0 (by omega) (by omega)
          rw [show ((0 : Nat) : Int) = 0 from rfl] at e2
          rw [e2, Option.bind_some]
          rcases h1 with rfl | rfl
          · exact ⟨_, rfl, .inl rfl, fun h => by cases h⟩
          obtain ⟨r, e, g1, g2⟩ := Lj t hp he n (a + 1) (by omega) (by omega)
          refine ⟨r, by rw [← e, ← Da a (by omega)]; rfl, g1, fun hg k row hk hkr => ?_⟩
          by_cases hka : k = a
          · subst hka
            rw [List.getElem?_eq_getElem hx] at hkr
            cases hkr
            refine ⟨hl, by rw [List.getElem?_eq_getElem hal, hz], fun x hxm => ?_⟩
            obtain ⟨j, hj, rfl⟩ := List.getElem_of_mem hxm
            exact h2 rfl j _ (by omega) (List.getElem?_eq_getElem hj)
          exact g2 hg k row (by omega) hkr
        rw [show (t.empty[a][a] != 0) = true by simp [hz], cond_true]
        exact ⟨_, rfl, .inl rfl, fun h => by cases h⟩
      rw [show (((t.empty[a].length : Nat) : Int) != t.places) = true by simp [hl], cond_true]
      exact ⟨_, rfl, .inl rfl, fun h => by cases h⟩
    rw [decide_eq_false (show ¬ (a : Int) < t.places by omega), cond_false]
    refine ⟨_, rfl, .inr rfl, fun _ k row hk hkr => ?_⟩
    rw [List.getElem?_eq_none (by omega)] at hkr
    cases hkr
theorem Lk (t : An) (hp : 1 ≤ t.places ∧ t.places ≤ 6) (hn : t.trips.length ≤ 12) : ∀ (n a : Nat), t.trips.length < n + a → a ≤ t.trips.length →
    ∃ r, CO n t (a : Int) = some r ∧ (r = Ex.ret 1 ∨ r = Ex.go ()) ∧ (r = Ex.go () → ∀ k x, a ≤ k → t.trips[k]? = some x → SM t.places x)
  | 0, a, h, ha => by omega
  | n + 1, a, h, ha => by
    rw [CO, Bz]
    by_cases hx : a < t.trips.length
    · have wp : IntKind.i64.wrap (t.places - 1) = t.places - 1 := IS (by omega) (by omega)
      simp only [hx, decide_true, cond_true, BX _ _ hx, Option.bind_some, On, wp]
      rw [Da a (by omega)]
      have bad : ∀ b : Bool, ∃ r, (some (Ex.ret 1) : Option (Ex Int Unit)) = some r ∧ (r = Ex.ret 1 ∨ r = Ex.go ()) ∧ (r = Ex.go () → ∀ k x, a ≤ k → t.trips[k]? = some x → SM t.places x) := fun _ => ⟨_, rfl, .inl rfl, fun h => by cases h⟩
      cases h1 : Ei t.trips[a].fr 0 (t.places - 1) with
      | false => exact bad true
      | true =>
      cases h2 : Ei t.trips[a].to_ 0 (t.places - 1) with
      | false => exact bad true
      | true =>
      cases h3 : Ei t.trips[a].start 0 2000 with
      | false => exact bad true
      | true =>
      cases h4 : Ei t.trips[a].least 1 t.trips[a].most with
      | false => exact bad true
      | true =>
      cases h5 : decide (t.trips[a].most > 600) with
      | true => exact bad true
      | false =>
      cases h6 : Ei t.trips[a].kind 0 2 with
      | false => exact bad true
      | true =>
        simp only [Bool.not_true, cond_false]
        obtain ⟨r, e, g1, g2⟩ := Lk t hp hn n (a + 1) (by omega) (by omega)
        refine ⟨r, e, g1, fun hg k x hk hkx => ?_⟩
        by_cases hka : k = a
        · subst hka
          rw [List.getElem?_eq_getElem hx] at hkx
          cases hkx
          have q1 := AE.1 h1
          have q2 := AE.1 h2
          have q5 := of_decide_eq_false h5
          exact ⟨by omega, by omega, AE.1 h3, AE.1 h4, by omega, AE.1 h6⟩
        exact g2 hg k x (by omega) hkx
    simp only [hx, decide_false, cond_false]
    refine ⟨_, rfl, .inr rfl, fun _ k x hk hkx => ?_⟩
    rw [List.getElem?_eq_none (by omega)] at hkx
    cases hkx
theorem Uq (n : Nat) (t : An) (hn : 60 ≤ n) : ∃ r, GU n t = some r ∧ (r = 0 → CI t) := by
  unfold GU
  by_cases h0 : t.trips.length ≤ 12
  rotate_left
  · rw [decide_eq_true (show ((t.trips.length : Nat) : Int) > 12 by omega)]
    exact ⟨3, rfl, fun h => by cases h⟩
  rw [decide_eq_false (show ¬ ((t.trips.length : Nat) : Int) > 12 by omega), cond_false, On, Option.bind_some]
  cases h1 : Ei t.places 1 6 with
  | false => exact ⟨1, rfl, fun h => by cases h⟩
  | true =>
  rw [Bool.not_true, cond_false, On, Option.bind_some]
  cases h2 : Ei t.layover 0 600 with
  | false => exact ⟨1, rfl, fun h => by cases h⟩
  | true =>
  rw [Bool.not_true, cond_false]
  by_cases h3 : ((t.empty.length : Nat) : Int) = t.places
  rotate_left
  · rw [show (((t.empty.length : Nat) : Int) != t.places) = true by simp [h3]]
    exact ⟨1, rfl, fun h => by cases h⟩
  rw [show (((t.empty.length : Nat) : Int) != t.places) = false by simp [h3], Option.bind_some, cond_false]
  have p := AE.1 h1
  obtain ⟨r1, e1, a1, b1⟩ := Lj t p.2 h3 n 0 (by omega) (by omega)
  obtain ⟨r3, e3, a3, b3⟩ := Lk t p h0 n 0 (by omega) (by omega)
  rw [show ((0 : Nat) : Int) = 0 from rfl] at e1 e3
  rw [e1, Option.bind_some]
  rcases a1 with rfl | rfl
  · exact ⟨1, rfl, fun h => by cases h⟩
  show ∃ r, ((CO n t 0).bind fun o_233 => Ex.bind o_233 (fun r => some r) fun s_234 => some 0) = some r ∧ (r = 0 → CI t)
  rw [e3, Option.bind_some]
  rcases a3 with rfl | rfl
  · exact ⟨1, rfl, fun h => by cases h⟩
  refine ⟨0, rfl, fun _ => ⟨h0, p, AE.1 h2, h3, fun row hr => ?_, fun a row hr => (b1 rfl a row (by omega) hr).2.1, fun row hr => ?_, fun x hx => ?_⟩⟩
  · obtain ⟨j, hj, rfl⟩ := List.getElem_of_mem hr
    exact (b1 rfl j _ (by omega) (List.getElem?_eq_getElem hj)).1
  · obtain ⟨j, hj, rfl⟩ := List.getElem_of_mem hr
    exact (b1 rfl j _ (by omega) (List.getElem?_eq_getElem hj)).2.2
  obtain ⟨j, hj, rfl⟩ := List.getElem_of_mem hx
  exact b3 rfl j _ (by omega) (List.getElem?_eq_getElem hj)
theorem PR (s : List Int) (f : Int → Option Bool) (hf : ∀ c ∈ s, f c = some false) (hs : s.length ≤ 1000) : ∀ (n i : Nat), s.length < n + i → i ≤ s.length → AF n s f (i : Int) = some (Ex.go ())
  | 0, i, h, hi => by omega
  | n + 1, i, h, hi => by
    rw [AF, Bz]
    by_cases hx : i < s.length
    · simp only [hx, decide_true, cond_true, BX _ _ hx, Option.bind_some, hf _ (List.getElem_mem hx), cond_false]
      rw [Da i (by omega)]
      exact PR s f hf hs n (i + 1) (by omega) (by omega)
    simp only [hx, decide_false, cond_false]
theorem Oo (s : List (List Int)) (f : List Int → Option Bool) (hf : ∀ c ∈ s, f c = some false) (hs : s.length ≤ 1000) : ∀ (n i : Nat), s.length < n + i → i ≤ s.length → AO n s f (i : Int) = some (Ex.go ())
  | 0, i, h, hi => by omega
  | n + 1, i, h, hi => by
    rw [AO, Bz]
    by_cases hx : i < s.length
    · simp only [hx, decide_true, cond_true, BX _ _ hx, Option.bind_some, hf _ (List.getElem_mem hx), cond_false]
      rw [Da i (by omega)]
      exact Oo s f hf hs n (i + 1) (by omega) (by omega)
    simp only [hx, decide_false, cond_false]
theorem Oq (s : List AH) (f : AH → Option Bool) (hf : ∀ c ∈ s, f c = some false) (hs : s.length ≤ 1000) : ∀ (n i : Nat), s.length < n + i → i ≤ s.length → AB n s f (i : Int) = some (Ex.go ())
  | 0, i, h, hi => by omega
  | n + 1, i, h, hi => by
    rw [AB, Bz]
    by_cases hx : i < s.length
    · simp only [hx, decide_true, cond_true, BX _ _ hx, Option.bind_some, hf _ (List.getElem_mem hx), cond_false]
      rw [Da i (by omega)]
      exact Oq s f hf hs n (i + 1) (by omega) (by omega)
    simp only [hx, decide_false, cond_false]
theorem Ll {t : An} (hv : CI t) : ∀ (n a : Nat), t.empty.length < n + a → a ≤ t.empty.length → BW n t (a : Int) = some (Ex.go ())
  | 0, a, h, ha => by omega
  | n + 1, a, h, ha => by
    have he := hv.e
    have hp := hv.p
    rw [BW]
    by_cases hx : a < t.empty.length
    · have h0 := hv.c a _ (List.getElem?_eq_getElem hx)
      rw [decide_eq_true (show (a : Int) < t.places by omega), cond_true, BX _ _ hx, Option.bind_some, QD, h0, Option.bind_some, Da a (by omega)]
      exact Ll hv n (a + 1) (by omega) (by omega)
    rw [decide_eq_false (show ¬ (a : Int) < t.places by omega), cond_false]
theorem Ur (n : Nat) {t : An} (hv : CI t) (hn : 60 ≤ n) : DP n t = some 0 := by
  have he := hv.e
  have hp := hv.p
  have hn0 := hv.n
  unfold DP
  have hrow : ∀ row ∈ t.empty, C8 n row (fun y0 => BM n y0 t) = some false := fun row hr => by
    have hl := hv.r row hr
    unfold C8 BM
    dsimp only
    rw [show (((row.length : Nat) : Int) == t.places) = true by simp [hl], cond_true]
    unfold Ht Bf BQ
    have h1 := PR row (fun y0 => Ds n y0 fun y0 => C7 n y0) (fun c hc => by
      unfold Ds C7
      dsimp only
      rw [Ii, AE.2 (hv.v row hr c hc)]
      rfl) (by omega) n 0 (by omega) (by omega)
    rw [show ((0 : Nat) : Int) = 0 from rfl] at h1
    rw [h1]
    rfl
  have htrip : ∀ x ∈ t.trips, BD n x (fun y0 => C9 n t y0) = some false := fun x hx => by
    obtain ⟨q1, q2, q3, q4, q5, q6⟩ := hv.t x hx
    have wp : IntKind.i64.wrap (t.places - 1) = t.places - 1 := IS (by omega) (by omega)
    unfold BD C9 DO C7
    simp only [Ii, Option.bind_some, wp, AE.2 (show 0 ≤ x.fr ∧ x.fr ≤ t.places - 1 by omega), AE.2 (show 0 ≤ x.to_ ∧ x.to_ ≤ t.places - 1 by omega), AE.2 q3, AE.2 q4, AE.2 (show 0 ≤ x.most ∧ x.most ≤ 600 by omega), AE.2 q6, cond_true]
    rfl
  have h1 := Oo t.empty (fun y0 => C8 n y0 fun y0 => BM n y0 t) hrow (by omega) n 0 (by omega) (by omega)
  have h2 := Oq t.trips (fun y0 => BD n y0 fun y0 => C9 n t y0) htrip (by omega) n 0 (by omega) (by omega)
  have h3 := Ll hv n 0 (by omega) (by omega)
  rw [show ((0 : Nat) : Int) = 0 from rfl] at h1 h2 h3
  unfold GI BN Cj E9 Bh By C7
  rw [decide_eq_false (show ¬ ((t.trips.length : Nat) : Int) > 12 by omega), cond_false, Ii, AE.2 hp, Option.bind_some, Bool.not_true, cond_false, Ii, AE.2 hv.l, Option.bind_some, Option.bind_some, Bool.not_true, cond_false,
    show (((t.empty.length : Nat) : Int) != t.places) = false by simp [he], cond_false, h1, h3, h2]
  rfl
def Az (t : An) (i : Int) : AH := t.trips.getD i.toNat default
def Ga (t : An) (a b : Int) : Int := (t.empty.getD a.toNat []).getD b.toNat 0
def Q9 (t : An) (a b : AH) : Int := a.start + a.most + t.layover + Ga t a.to_ b.fr
def M3 (t : An) (a b : AH) : Bool := decide (a ≠ b) && (decide (a.kind = b.kind) && decide (Q9 t a b ≤ b.start))
theorem Ej (t : An) {i : Int} (h : i ∈ Ah t.trips.length) : Bm t.trips i = some (Az t i) ∧ Az t i ∈ t.trips := by
  have h' := Aq.1 h
  obtain ⟨k, rfl⟩ := Int.eq_ofNat_of_zero_le h'.1
  have hk : k < t.trips.length := by omega
  have e : Az t (k : Int) = t.trips[k] := by unfold Az; rw [Int.toNat_natCast, List.getD_eq_getElem?_getD, List.getElem?_eq_getElem hk]; rfl
  rw [e]
  exact ⟨BX _ _ hk, List.getElem_mem hk⟩
theorem M4 {t : An} (hv : CI t) {a b : Int} (ha : 0 ≤ a ∧ a < t.places) (hb : 0 ≤ b ∧ b < t.places) : ∃ row, Bm t.empty a = some row ∧ Bm row b = some (Ga t a b) ∧ 0 ≤ Ga t a b ∧ Ga t a b ≤ 600 := by
  have he := hv.e
  obtain ⟨i, rfl⟩ := Int.eq_ofNat_of_zero_le ha.1
  obtain ⟨j, rfl⟩ := Int.eq_ofNat_of_zero_le hb.1
  have hi : i < t.empty.length := by omega
  have hr := hv.r _ (List.getElem_mem hi)
  have hj : j < t.empty[i].length := by omega
  have e : Ga t (i : Int) (j : Int) = t.empty[i][j] := by
    unfold Ga
    rw [Int.toNat_natCast, Int.toNat_natCast, List.getD_eq_getElem?_getD, List.getD_eq_getElem?_getD, List.getElem?_eq_getElem hi, Option.getD_some, List.getElem?_eq_getElem hj]
    rfl
  rw [e]
  exact ⟨_, BX _ _ hi, BX _ _ hj, hv.v _ (List.getElem_mem hi) _ (List.getElem_mem hj)⟩
theorem Xg (n : Nat) {t : An} (hv : CI t) {a b : AH} (ha : a ∈ t.trips) (hb : b ∈ t.trips) : ER n t a b = some (M3 t a b) := by
  obtain ⟨a1, a2, a3, a4, a5, a6⟩ := hv.t a ha
  obtain ⟨b1, b2, b3, b4, b5, b6⟩ := hv.t b hb
  obtain ⟨row, e1, e2, e3⟩ := M4 hv a2 b1
  have hl := hv.l
  have heq : ((a.fr == b.fr) && ((a.to_ == b.to_) && ((a.start == b.start) && ((a.least == b.least) && ((a.most == b.most) && ((a.kind == b.kind) && true)))))) = decide (a = b) := by
    rcases a with ⟨x1, x2, x3, x4, x5, x6⟩
    rcases b with ⟨y1, y2, y3, y4, y5, y6⟩
    rw [Bool.eq_iff_iff]
    simp
  unfold ER M3
  rw [heq]
  by_cases h1 : a = b
  · rw [decide_eq_true h1, cond_true, Option.bind_some, cond_true, decide_eq_false (show ¬ a ≠ b from fun h => h h1), Bool.false_and]
  rw [decide_eq_false h1, cond_false, Option.bind_some, decide_eq_true (show a ≠ b from h1), Bool.true_and]
  by_cases h2 : a.kind = b.kind
  · rw [show (a.kind != b.kind) = false by simp [h2], cond_false, decide_eq_true h2, Bool.true_and]
    unfold Ff Du
    rw [e1, Option.bind_some, e2, Option.bind_some, Option.bind_some, Option.bind_some]
    have w1 : IntKind.i64.wrap (a.start + a.most) = a.start + a.most := IS (by omega) (by omega)
    have w2 : IntKind.i64.wrap (a.start + a.most + t.layover) = a.start + a.most + t.layover := IS (by omega) (by omega)
    have w3 : IntKind.i64.wrap (a.start + a.most + t.layover + Ga t a.to_ b.fr) = a.start + a.most + t.layover + Ga t a.to_ b.fr := IS (by omega) (by omega)
    rw [w1, w2, w3]
    rfl
  rw [show (a.kind != b.kind) = true by simp [h2], cond_true, decide_eq_false h2, Bool.false_and]
theorem Xh (n : Nat) {t : An} (hv : CI t) {i k : Int} (hi : i ∈ Ah t.trips.length) (hk : k ∈ Ah t.trips.length) (hm : M3 t (Az t i) (Az t k) = true) : HQ n t i k = some true := by
  obtain ⟨e1, m1⟩ := Ej t hi
  obtain ⟨e2, m2⟩ := Ej t hk
  obtain ⟨a1, a2, a3, a4, a5, a6⟩ := hv.t _ m1
  obtain ⟨b1, b2, b3, b4, b5, b6⟩ := hv.t _ m2
  obtain ⟨row, q1, q2, q3⟩ := M4 hv a2 b1
  have hl := hv.l
  unfold M3 at hm
  simp only [Bool.and_eq_true, decide_eq_true_eq] at hm
  obtain ⟨h1, h2, h3⟩ := hm
  have hne : i ≠ k := fun h => h1 (by rw [h])
  unfold Q9 at h3
  unfold HQ Ir
  rw [e1, Option.bind_some, e2, Option.bind_some, show (i != k) = true by simp [hne], cond_true, show ((Az t i).kind == (Az t k).kind) = true by simp [h2], cond_true, Option.bind_some, q1, Option.bind_some, q2, Option.bind_some, Option.bind_some]
  have w1 : IntKind.i64.wrap ((Az t i).start + (Az t i).most) = (Az t i).start + (Az t i).most := IS (by omega) (by omega)
  have w2 : IntKind.i64.wrap ((Az t i).start + (Az t i).most + t.layover) = (Az t i).start + (Az t i).most + t.layover := IS (by omega) (by omega)
  have w3 : IntKind.i64.wrap ((Az t i).start + (Az t i).most + t.layover + Ga t (Az t i).to_ (Az t k).fr) = (Az t i).start + (Az t i).most + t.layover + Ga t (Az t i).to_ (Az t k).fr := IS (by omega) (by omega)
  rw [w1, w2, w3, decide_eq_true h3]
theorem Xi {t : An} (hv : CI t) {i k : Int} (hi : i ∈ Ah t.trips.length) (hk : k ∈ Ah t.trips.length) (hm : M3 t (Az t i) (Az t k) = true) : (Az t i).start < (Az t k).start := by
  obtain ⟨e1, m1⟩ := Ej t hi
  obtain ⟨e2, m2⟩ := Ej t hk
  obtain ⟨a1, a2, a3, a4, a5, a6⟩ := hv.t _ m1
  obtain ⟨b1, b2, b3, b4, b5, b6⟩ := hv.t _ m2
  obtain ⟨row, q1, q2, q3⟩ := M4 hv a2 b1
  have hl := hv.l
  unfold M3 Q9 at hm
  simp only [Bool.and_eq_true, decide_eq_true_eq] at hm
  omega
open Go Go.RowKit
theorem Ek {α : Type} {m : Nat} {f g : Int → α} (h : ∀ x ∈ Ah m, f x = g x) : CG m f = CG m g := List.map_congr_left h
def IT (t : An) (i : Int) : List Int := (Ah t.trips.length).filter fun k => M3 t (Az t i) (Az t k)
def Lm (t : An) (i j : Nat) (x : Int) : List Int := if x < (i : Int) then IT t x else if x = (i : Int) then (Ah j).filter (fun k => M3 t (Az t (i : Int)) (Az t k)) else []
abbrev Wj : List (List Int) → Int → Int → Option (List (List Int) × Bool) := fun (s : List (List Int)) (x12 : Int) (x13 : Int) => ((((Bm s x12).bind fun x18 =>
  ((Ih x18 ([x13] : List Int)).bind fun x22 =>
  ((Bm s x12).bind fun x23 =>
  ((upd s x12 x22).bind fun u_133 =>
  some u_133)))) : Option (List (List Int))).bind fun s1 => some (s1, true))
theorem Nf {t : An} (hv : CI t) (i : Nat) (hi : i < t.trips.length) : ∀ (n j : Nat), t.trips.length < n + j → j ≤ t.trips.length →
    Bq n Wj t (i : Int) (Az t (i : Int)) (j : Int) (CG t.trips.length (Lm t i j)) = some (Ex.go (CG t.trips.length (Lm t i t.trips.length)))
  | 0, j, h, hj => by omega
  | n + 1, j, h, hj => by
    have hn := hv.n
    rw [Bq, Bz]
    by_cases hx : j < t.trips.length
    · have him : (i : Int) ∈ Ah t.trips.length := by rw [Aq]; omega
      have hjm : (j : Int) ∈ Ah t.trips.length := by rw [Aq]; omega
      have hib : Ei (i : Int) 0 ((t.trips.length : Int) - 1) = true := by rw [AE]; omega
      obtain ⟨e1, m1⟩ := Ej t him
      obtain ⟨e2, m2⟩ := Ej t hjm
      simp only [hx, decide_true, cond_true, e2, Option.bind_some, Xg n hv m1 m2]
      rw [Da j (by omega)]
      have ih := Nf hv i hi n (j + 1) (by omega) (by omega)
      have hl := List.length_filter_le (fun k => M3 t (Az t (i : Int)) (Az t k)) (Ah j)
      rw [AU] at hl
      cases hq : M3 t (Az t (i : Int)) (Az t (j : Int)) with
      | false =>
        rw [cond_false, ← ih]
        congr 1
        refine Ek fun x _ => ?_
        unfold Lm
        rw [Co, List.filter_append]
        simp [hq]
      | true =>
        have hs : Lm t i j (i : Int) = (Ah j).filter (fun k => M3 t (Az t (i : Int)) (Az t k)) := by unfold Lm; rw [if_neg (by omega), if_pos rfl]
        rw [cond_true]
        dsimp only [Wj]
        rw [Ja hib, Option.bind_some, Ee _ _ (by rw [hs]; simp; omega), Option.bind_some, Option.bind_some, L3 hib]
        simp only [Option.bind_some, Bool.not_true, cond_false]
        rw [← ih]
        congr 1
        refine Ek fun x _ => ?_
        by_cases hxi : x = (i : Int)
        · rw [if_pos hxi, hs, hxi]
          unfold Lm
          rw [if_neg (by omega), if_pos rfl, Co, List.filter_append]
          simp [hq]
        rw [if_neg hxi]
        unfold Lm
        rw [if_neg hxi, if_neg hxi]
    have : j = t.trips.length := by omega
    subst this
    simp only [Nat.lt_irrefl, decide_false, cond_false]
theorem Ng {t : An} (hv : CI t) : ∀ (n i : Nat), 2 * t.trips.length + 2 < n + i → i ≤ t.trips.length →
    Br n Wj t (i : Int) (CG t.trips.length (Lm t i 0)) = some (Ex.go (CG t.trips.length (IT t)))
  | 0, i, h, hi => by omega
  | n + 1, i, h, hi => by
    have hn := hv.n
    rw [Br, Bz]
    by_cases hx : i < t.trips.length
    · have him : (i : Int) ∈ Ah t.trips.length := by rw [Aq]; omega
      obtain ⟨e1, m1⟩ := Ej t him
      have h2 := Nf hv i hx n 0 (by omega) (by omega)
      rw [show ((0 : Nat) : Int) = 0 from rfl] at h2
      simp only [hx, decide_true, cond_true, e1, Option.bind_some]
      rw [h2, Option.bind_some]
      rw [show CG t.trips.length (Lm t i t.trips.length) = CG t.trips.length (Lm t (i + 1) 0) from Ek fun x hxr => by
        unfold Lm
        by_cases h1 : x < (i : Int)
        · rw [if_pos h1, if_pos (by omega)]
        by_cases h2 : x = (i : Int)
        · rw [if_neg h1, if_pos h2, if_pos (by omega)]
          unfold IT
          rw [h2]
        rw [if_neg h1, if_neg h2, if_neg (by omega)]
        split <;> simp [Ah]]
      show Br n Wj t (IntKind.i64.wrap ((i : Int) + 1)) _ = _
      rw [Da i (by omega)]
      exact Ng hv n (i + 1) (by omega) (by omega)
    have : i = t.trips.length := by omega
    subst this
    simp only [Nat.lt_irrefl, decide_false, cond_false]
    congr 2
    refine Ek fun x hxr => ?_
    have := Aq.1 hxr
    unfold Lm
    rw [if_pos (by omega)]
theorem SN (n : Nat) {t : An} (hv : CI t) (hn : 60 ≤ n) : Di n t = some (CG t.trips.length (IT t)) := by
  have h0 := hv.n
  unfold Di Fg Ef
  rw [XI _ _ (by omega), Option.bind_some, Option.bind_some]
  have h1 := Ng hv n 0 (by omega) (by omega)
  rw [show ((0 : Nat) : Int) = 0 from rfl, show CG t.trips.length (Lm t 0 0) = List.replicate t.trips.length [] by
    rw [MC]
    refine Ek fun x hxr => ?_
    have := Aq.1 hxr
    unfold Lm
    rw [if_neg (by omega)]
    split <;> simp [Ah]] at h1
  rw [h1]
  rfl
theorem Us (n N : Nat) (hN : N ≤ 12) : Cu (n + 20) [-1] (N : Int) = some (Cp N fun _ => -1) := by
  rcases (by omega : N = 0 ∨ N = 1 ∨ N = 2 ∨ N = 3 ∨ N = 4 ∨ N = 5 ∨ N = 6 ∨ N = 7 ∨ N = 8 ∨ N = 9 ∨ N = 10 ∨ N = 11 ∨ N = 12) with h | h | h | h | h | h | h | h | h | h | h | h | h <;> subst h <;> rfl
def Gi (f : Int → Bool) : DL := ⟨f 0, f 1, f 2, f 3, f 4, f 5, f 6, f 7, f 8, f 9, f 10, f 11⟩
theorem SO {b : Int} (h0 : 0 ≤ b) (h8 : b < 12) : b = 0 ∨ b = 1 ∨ b = 2 ∨ b = 3 ∨ b = 4 ∨ b = 5 ∨ b = 6 ∨ b = 7 ∨ b = 8 ∨ b = 9 ∨ b = 10 ∨ b = 11 := by omega
theorem WF {b : Int} (h0 : 0 ≤ b) (h8 : b < 12) : LZ 12 b = some () := by
  rcases SO h0 h8 with h | h | h | h | h | h | h | h | h | h | h | h <;> subst h <;> rfl
theorem TC (f : Int → Bool) {b : Int} (h0 : 0 ≤ b) (h8 : b < 12) : Bm (Gi f).toL b = some (f b) := by
  rcases SO h0 h8 with h | h | h | h | h | h | h | h | h | h | h | h <;> subst h <;> rfl
theorem set_set (f : Int → Bool) {b : Int} (h0 : 0 ≤ b) (h8 : b < 12) (v : Bool) : DL.setI (Gi f) b v = some (Gi fun x => if x = b then v else f x) := by
  rcases SO h0 h8 with h | h | h | h | h | h | h | h | h | h | h | h <;> subst h <;> rfl
theorem Vd (n : Nat) : JN (n + 20) = some (Gi fun _ => true) := rfl
def QA (N : Nat) (tr : Int → Bool) : Nat := ((Ah N).filter fun k => !tr k).length
theorem Ut {N : Nat} {tr tr1 : Int → Bool} (h : ∀ x, tr x = true → tr1 x = true) : QA N tr1 ≤ QA N tr := Fe fun c _ hc => by
  cases hq : tr c with
  | false => rfl
  | true => rw [h c hq] at hc; cases hc
theorem Wk (N : Nat) (tr : Int → Bool) : QA N tr ≤ N := by
  unfold QA
  have := List.length_filter_le (fun k => !tr k) (Ah N)
  rwa [AU] at this
theorem Ve {N : Nat} {tr : Int → Bool} {k : Int} (hk : k ∈ Ah N) (ht : tr k = false) : QA N (fun x => if x = k then true else tr x) < QA N tr := by
  unfold QA
  have e : ∀ l : List Int, k ∈ l → (l.filter fun x => !(if x = k then true else tr x)).length < (l.filter fun x => !tr x).length := by
    intro l hl
    induction l with
    | nil => simp at hl
    | cons x l ih =>
      rw [List.filter_cons, List.filter_cons]
      have hle : (l.filter fun x => !(if x = k then true else tr x)).length ≤ (l.filter fun x => !tr x).length := Fe fun c _ hc => by
        by_cases hck : c = k
        · rw [if_pos hck] at hc; cases hc
        rw [if_neg hck] at hc; exact hc
      by_cases hx : x = k
      · subst hx
        rw [if_neg (by simp), if_pos (by simp [ht]), List.length_cons]
        omega
      have hl' : k ∈ l := by
        rcases List.mem_cons.1 hl with hq | hq
        · exact absurd hq.symm hx
        exact hq
      have := ih hl'
      by_cases h2 : tr x = true
      · rw [if_neg (by simp [hx, h2]), if_neg (by simp [h2])]; exact this
      rw [if_pos (by simp [hx, h2]), if_pos (by simp [h2]), List.length_cons, List.length_cons]; omega
  exact e _ hk
def Ka (t : An) (j k : Int) : Prop := M3 t (Az t j) (Az t k) = true
theorem Vf {t : An} {i k : Int} : k ∈ IT t i ↔ k ∈ Ah t.trips.length ∧ Ka t i k := by
  unfold IT Ka
  rw [List.mem_filter]
theorem R2 (t : An) (i : Int) : (IT t i).length ≤ t.trips.length := by
  unfold IT
  have := List.length_filter_le (fun k => M3 t (Az t i) (Az t k)) (Ah t.trips.length)
  rwa [AU] at this
def SP (t T : An) (nx bf : Int → Int) : BK := ⟨T, CG t.trips.length (IT t), Cp t.trips.length nx, Cp t.trips.length bf⟩
def Vg (t T : An) (u : Nat) : Prop := ∀ (n : Nat) (i : Int) (nx bf : Int → Int) (tr : Int → Bool), 14 * (u + 1) ≤ n → QA t.trips.length tr ≤ u → i ∈ Ah t.trips.length → Wh t.trips.length (Ka t) nx bf → (nx i = -1 ∨ tr (nx i) = true) →
    ∃ b tr' nx' bf', run_Table_match_1 n i (SP t T nx bf) (Gi tr) (Gi fun _ => true) = some (b, Gi tr', Cp t.trips.length nx', Cp t.trips.length bf') ∧ (∀ x, tr x = true → tr' x = true) ∧ (b = false → nx' = nx ∧ bf' = bf) ∧ (b = true → WE t.trips.length (Ka t) i nx bf tr nx' bf')
theorem K8 {t T : An} (hv : CI t) (u : Nat) (H : ∀ v, v < u → Vg t T v) (i : Int) (hi : i ∈ Ah t.trips.length) (nx bf : Int → Int) (hI : Wh t.trips.length (Ka t) nx bf) : ∀ (n p : Nat) (tr : Int → Bool), 14 * u + (IT t i).length + 1 ≤ n + p → p ≤ (IT t i).length → QA t.trips.length tr ≤ u → (nx i = -1 ∨ tr (nx i) = true) →
    ∃ o, Bs n i (SP t T nx bf) (Gi fun _ => true) (IT t i) (Cp t.trips.length nx) (Cp t.trips.length bf) (p : Int) (Gi tr) = some o ∧
      ((∃ tr', o = Ex.go (Cp t.trips.length nx, Cp t.trips.length bf, Gi tr') ∧ ∀ x, tr x = true → tr' x = true) ∨
       ∃ tr' nx' bf', o = Ex.ret (true, Gi tr', Cp t.trips.length nx', Cp t.trips.length bf') ∧ (∀ x, tr x = true → tr' x = true) ∧ WE t.trips.length (Ka t) i nx bf tr nx' bf')
  | 0, p, tr, h, hp, _, _ => by omega
  | n + 1, p, tr, h, hp, hu, hni => by
    have hn := hv.n
    have hfl := R2 t i
    rw [Bs, Bz]
    by_cases hx : p < (IT t i).length
    · obtain ⟨hk, hM⟩ := Vf.1 (List.getElem_mem hx)
      generalize hkk : (IT t i)[p] = k at hk hM
      have hk' := Aq.1 hk
      have hi' := Aq.1 hi
      have hkb : Ei k 0 ((t.trips.length : Int) - 1) = true := by rw [AE]; omega
      have hib : Ei i 0 ((t.trips.length : Int) - 1) = true := by rw [AE]; omega
      have k12 : k < 12 := by omega
      simp only [hx, decide_true, cond_true, BX _ _ hx, hkk, Option.bind_some, WF hk'.1 k12, TC _ hk'.1 k12, Bool.not_true, cond_false]
      rw [Da p (by omega)]
      cases ht : tr k with
      | true =>
        rw [cond_true]
        exact K8 hv u H i hi nx bf hI n (p + 1) tr (by omega) (by omega) hu hni
      | false =>
        have hst := Ve hk ht
        have hsub : ∀ x, tr x = true → (fun x => if x = k then true else tr x) x = true := fun x hxx => by
          by_cases hxk : x = k
          · simp [hxk]
          simp [hxk, hxx]
        simp only [cond_false, set_set _ hk'.1 k12, Option.bind_some, Gb hkb]
        by_cases hb : bf k = -1
        · rw [show (bf k == -1) = true by simp [hb], cond_true]
          simp only [Option.bind_some, cond_true, Gb hib, Gb hkb, Il hib, Il hkb]
          exact ⟨_, rfl, .inr ⟨_, setI nx i k, setI bf k i, rfl, hsub, Vb hI hi hk hM ht hb⟩⟩
        rw [show (bf k == -1) = false by simp [hb], cond_false]
        obtain ⟨hb1, hb2⟩ := (hI.b k hk).resolve_left hb
        obtain ⟨bb, tr2, nx1, bf1, e, s1, s2, s3⟩ := H (u - 1) (by omega) n (bf k) nx bf (fun x => if x = k then true else tr x) (by omega) (by omega) hb1 hI (.inr (by rw [hb2]; simp))
        rw [show BK.mk (SP t T nx bf).table (SP t T nx bf).follows (Cp t.trips.length nx) (Cp t.trips.length bf) = SP t T nx bf from rfl, e]
        simp only [Option.bind_some]
        cases bb with
        | true =>
          simp only [cond_true, Gb hib, Gb hkb, Il hib, Il hkb, Option.bind_some]
          exact ⟨_, rfl, .inr ⟨tr2, setI nx1 i k, setI bf1 k i, rfl, fun x hxx => s1 x (hsub x hxx), Vc hI hi hk hM ht hb hni hsub (by simp) (s3 rfl)⟩⟩
        | false =>
          obtain ⟨rfl, rfl⟩ := s2 rfl
          simp only [cond_false]
          have hsub2 : ∀ x, tr x = true → tr2 x = true := fun x hxx => s1 x (hsub x hxx)
          obtain ⟨o, e1, e2⟩ := K8 hv u H i hi nx1 bf1 hI n (p + 1) tr2 (by omega) (by omega) (Nat.le_trans (Ut hsub2) hu) (hni.imp id (hsub2 _))
          refine ⟨o, e1, ?_⟩
          rcases e2 with ⟨tr', rfl, g⟩ | ⟨tr', nx', bf', rfl, g, g2⟩
          · exact .inl ⟨tr', rfl, fun x hxx => g x (hsub2 x hxx)⟩
          exact .inr ⟨tr', nx', bf', rfl, fun x hxx => g x (hsub2 x hxx), Va g2 hsub2⟩
    simp only [hx, decide_false, cond_false]
    exact ⟨_, rfl, .inl ⟨tr, rfl, fun x hxx => hxx⟩⟩
theorem Wl {t T : An} (hv : CI t) : ∀ u, Vg t T u := fun u => by
  induction u using Nat.strongRecOn with
  | _ u H =>
    intro n i nx bf tr hn hu hi hI hni
    have h0 := hv.n
    have hfl := R2 t i
    have hi' := Aq.1 hi
    have hib : Ei i 0 ((t.trips.length : Int) - 1) = true := by rw [AE]; omega
    obtain ⟨n, rfl⟩ : ∃ m, n = m + 1 := ⟨n - 1, by omega⟩
    obtain ⟨o, e, h⟩ := K8 (T := T) hv u H i hi nx bf hI n 0 tr (by omega) (by omega) hu hni
    rw [show ((0 : Nat) : Int) = 0 from rfl] at e
    rw [run_Table_match_1, show (SP t T nx bf).follows = CG t.trips.length (IT t) from rfl, Ja hib, Option.bind_some, show (SP t T nx bf).next = Cp t.trips.length nx from rfl, show (SP t T nx bf).before = Cp t.trips.length bf from rfl, e, Option.bind_some]
    rcases h with ⟨tr', rfl, g⟩ | ⟨tr', nx', bf', rfl, g, g2⟩
    · exact ⟨false, tr', nx, bf, rfl, g, fun _ => ⟨rfl, rfl⟩, fun h => by cases h⟩
    exact ⟨true, tr', nx', bf', rfl, g, (fun h => by cases h), fun _ => g2⟩
theorem Nh {t : An} (hv : CI t) : ∀ (n i : Nat) (nx bf : Int → Int) (tr : DL), 220 ≤ n + i → i ≤ t.trips.length → Wh t.trips.length (Ka t) nx bf → (∀ j, (i : Int) ≤ j → nx j = -1) →
    ∃ nx' bf' tr', BE n t (Gi fun _ => true) (CG t.trips.length (IT t)) (Cp t.trips.length nx) (Cp t.trips.length bf) (i : Int) tr = some (Cp t.trips.length nx', Cp t.trips.length bf', tr') ∧ Wh t.trips.length (Ka t) nx' bf'
  | 0, i, nx, bf, tr, h, hi, _, _ => by have := hv.n; omega
  | n + 1, i, nx, bf, tr, h, hi, hI, hz => by
    have hn := hv.n
    rw [BE, Bz]
    by_cases hx : i < t.trips.length
    · have him : (i : Int) ∈ Ah t.trips.length := by rw [Aq]; omega
      simp only [hx, decide_true, cond_true, WF (show (0 : Int) ≤ (i : Int) by omega) (show (i : Int) < 12 by omega), TC _ (show (0 : Int) ≤ (i : Int) by omega) (show (i : Int) < 12 by omega), Option.bind_some]
      have hz0 := hz (i : Int) (by omega)
      obtain ⟨b, tr', nx', bf', e, s1, s2, s3⟩ := Wl (T := t) hv 12 n (i : Int) nx bf (fun _ => false) (by omega) (by have := Wk t.trips.length fun _ => false; omega) him hI (.inl hz0)
      rw [show BK.mk t (CG t.trips.length (IT t)) (Cp t.trips.length nx) (Cp t.trips.length bf) = SP t t nx bf from rfl, show (DL.mk false false false false false false false false false false false false) = Gi (fun _ => false) from rfl, e, Option.bind_some, Da i (by omega)]
      have hI' : Wh t.trips.length (Ka t) nx' bf' ∧ ∀ j, ((i + 1 : Nat) : Int) ≤ j → nx' j = -1 := by
        cases b with
        | false =>
          obtain ⟨rfl, rfl⟩ := s2 rfl
          exact ⟨hI, fun j hj => hz j (by omega)⟩
        | true =>
          have g := s3 rfl
          refine ⟨Wi g hz0, fun j hj => ?_⟩
          have hzj := hz j (by omega)
          rw [g.d j (by omega) (.inl hzj), hzj]
      exact Nh hv n (i + 1) nx' bf' (Gi tr') (by omega) (by omega) hI'.1 hI'.2
    simp only [hx, decide_false, cond_false]
    exact ⟨nx, bf, tr, rfl, hI⟩
theorem Vh (n : Nat) {t : An} (hv : CI t) (hn : 300 ≤ n) : ∃ nx bf, DQ n t (Gi fun _ => true) = some (some (Bx.mk (SP t t nx bf))) ∧ TB t.trips.length (Ka t) (fun i => (Az t i).start) nx bf := by
  have h0 := hv.n
  obtain ⟨n, rfl⟩ : ∃ m, n = m + 20 := ⟨n - 20, by omega⟩
  obtain ⟨nx, bf, tr, e, hI⟩ := Nh hv (n + 20) 0 (fun _ => -1) (fun _ => -1) (Gi fun _ => false) (by omega) (by omega) ⟨fun _ _ => .inl rfl, fun _ _ => .inl rfl⟩ (fun _ _ => rfl)
  rw [show ((0 : Nat) : Int) = 0 from rfl] at e
  refine ⟨nx, bf, ?_, ⟨hI, fun j hj k hk hm => Xi hv hj hk hm⟩⟩
  unfold DQ
  rw [SN (n + 20) hv (by omega), Option.bind_some, Us n _ h0, Option.bind_some, Option.bind_some, show (DL.mk false false false false false false false false false false false false) = Gi (fun _ => false) from rfl, e]
  rfl
theorem PS {t : An} (hn : t.trips.length ≤ 12) {nx bf key : Int → Int} (hF : TB t.trips.length (Ka t) key nx bf) : ∀ (m n : Nat) (k : Int) (acc : List Int), m < n → (k = -1 ∨ k ∈ Ah t.trips.length) → (k ∈ Ah t.trips.length → I8 t.trips.length key k < m) → acc.length + m ≤ 100 →
    Et n (Bx.mk (SP t t nx bf)) acc k = some (acc ++ EK nx m k)
  | 0, n, k, acc, hmn, hk, hm, _ => by
    obtain ⟨n, rfl⟩ : ∃ q, n = q + 1 := ⟨n - 1, by omega⟩
    rcases hk with hk | hk
    · subst hk
      rw [Et]
      simp [EK]
    have := hm hk; omega
  | m + 1, n, k, acc, hmn, hk, hm, ha => by
    obtain ⟨n, rfl⟩ : ∃ q, n = q + 1 := ⟨n - 1, by omega⟩
    rw [Et, EK]
    rcases hk with hk | hk
    · subst hk
      simp
    have hk' := Aq.1 hk
    have hkb : Ei k 0 ((t.trips.length : Int) - 1) = true := by rw [AE]; omega
    have hne : k ≠ -1 := by omega
    rw [show (k != -1) = true by simp [hne], cond_true, Ee _ _ (by simp; omega), Option.bind_some, show (Bx.mk (SP t t nx bf)).v.next = Cp t.trips.length nx from rfl, Gb hkb, Option.bind_some, if_neg hne]
    rw [PS hn hF m n (nx k) (acc ++ [k]) (by omega) ((hF.a k hk).imp id fun h => h.1) (fun hn2 => ?_) (by simp; omega)]
    · simp
    rcases hF.a k hk with h1 | ⟨h1, h2, _⟩
    · rw [h1] at hn2
      have := Aq.1 hn2
      omega
    have := HG (N := t.trips.length) hn2 (hF.up k hk _ hn2 h2)
    have := hm hk
    omega
theorem PT {t : An} (hn : t.trips.length ≤ 12) {nx bf key : Int → Int} (hF : TB t.trips.length (Ka t) key nx bf) : ∀ (n i : Nat), 60 ≤ n + i → i ≤ t.trips.length →
    DG n (Bx.mk (SP t t nx bf)) (((Ah i).filter fun i => bf i == -1).map (C1 t.trips.length nx)) (i : Int) = some (CY t.trips.length nx bf)
  | 0, i, h, hi => by omega
  | n + 1, i, h, hi => by
    rw [DG, show (Bx.mk (SP t t nx bf)).v.before = Cp t.trips.length bf from rfl, show decide ((i : Int) < (((Cp t.trips.length bf).length : Nat) : Int)) = decide (i < t.trips.length) by rw [Bz, Ik]]
    have ih := PT hn hF n (i + 1) (by omega)
    by_cases hx : i < t.trips.length
    · have him : (i : Int) ∈ Ah t.trips.length := by rw [Aq]; omega
      have hib : Ei (i : Int) 0 ((t.trips.length : Int) - 1) = true := by rw [AE]; omega
      have hl := List.length_filter_le (fun i => bf i == -1) (Ah i)
      rw [AU] at hl
      simp only [hx, decide_true, cond_true, Gb hib, Option.bind_some]
      rw [Da i (by omega)]
      rw [Co, List.filter_append, List.map_append] at ih
      by_cases hb : bf (i : Int) = -1
      · rw [show (bf (i : Int) != -1) = false by simp [hb], cond_false]
        have h2 := PS hn hF t.trips.length n (i : Int) [] (by omega) (.inr him) (fun h => Lg h) (by simp; omega)
        rw [h2, Option.bind_some, List.nil_append, Ee _ _ (by rw [List.length_map]; simp; omega), Option.bind_some]
        rw [show ([(i : Int)].filter fun i => bf i == -1) = [(i : Int)] by simp [hb]] at ih
        exact ih (by omega)
      rw [show (bf (i : Int) != -1) = true by simp [hb], cond_true]
      rw [show ([(i : Int)].filter fun i => bf i == -1) = [] by simp [hb], List.map_nil, List.append_nil] at ih
      exact ih (by omega)
    have : i = t.trips.length := by omega
    subst this
    simp only [Nat.lt_irrefl, decide_false, cond_false]
    rfl
theorem Xj (n : Nat) {t : An} (hv : CI t) (hn : 300 ≤ n) : ∃ nx bf, JO n t = some (CY t.trips.length nx bf, 0) ∧ TB t.trips.length (Ka t) (fun i => (Az t i).start) nx bf := by
  obtain ⟨nx, bf, e, hF⟩ := Vh n hv hn
  refine ⟨nx, bf, ?_, hF⟩
  have h1 := PT hv.n hF n 0 (by omega) (by omega)
  rw [show ((0 : Nat) : Int) = 0 from rfl, show (Ah 0).filter (fun i => bf i == -1) = [] from rfl, List.map_nil] at h1
  obtain ⟨n, rfl⟩ : ∃ m, n = m + 20 := ⟨n - 20, by omega⟩
  unfold JO
  rw [Ur (n + 20) hv (by omega), Option.bind_some]
  simp only [bne_self_eq_false, cond_false]
  rw [Vd, Option.bind_some, e, Option.bind_some]
  show ((DG (n + 20) (Bx.mk (SP t t nx bf)) [] 0).bind fun o_96 => some (o_96, 0)) = _
  rw [h1]
  rfl
open Go Go.RowKit
theorem R3 {N : Nat} {M : Int → Int → Prop} {key nx bf : Int → Int} (h : TB N M key nx bf) {k : Int} (hk : k ∈ Ah N) : ∀ (j : Nat) (a b : Int), (C1 N nx k)[j]? = some a → (C1 N nx k)[j + 1]? = some b → M a b := by
  refine M2 h (fun k => ∀ (j : Nat) (a b : Int), (C1 N nx k)[j]? = some a → (C1 N nx k)[j + 1]? = some b → M a b) (fun k hk ih => ?_) (I8 N key k + 1) k hk (by omega)
  intro j a b h1 h2
  rw [Ol h hk] at h1 h2
  by_cases hn : nx k = -1
  · rw [if_pos hn] at h2
    simp at h2
  rw [if_neg hn] at h1 h2
  obtain ⟨q1, q2, q3⟩ := (h.a k hk).resolve_left hn
  cases j with
  | zero =>
    rw [List.getElem?_cons_zero] at h1
    rw [List.getElem?_cons_succ, Ol h q1, List.getElem?_cons_zero] at h2
    cases h1
    cases h2
    exact q2
  | succ j =>
    rw [List.getElem?_cons_succ] at h1 h2
    exact ih hn j a b h1 h2
structure Ln (t : An) (b : List Int) : Prop where
  ne : 0 < b.length
  le : b.length ≤ 12
  mem : ∀ x ∈ b, x ∈ Ah t.trips.length
  may : ∀ (j : Nat) (a c : Int), b[j]? = some a → b[j + 1]? = some c → Ka t a c
theorem PU {t : An} (hv : CI t) {nx bf : Int → Int} (hF : TB t.trips.length (Ka t) (fun i => (Az t i).start) nx bf) : ∀ b ∈ CY t.trips.length nx bf, Ln t b := fun b hb => by
  have hn := hv.n
  obtain ⟨i, h1, h2, rfl⟩ := K7.1 hb
  obtain ⟨m1, m2, m3⟩ := FR hF h1
  have hl : (C1 t.trips.length nx i).length ≤ 12 := by
    have : ∀ (m : Nat) (k : Int), (EK nx m k).length ≤ m := by
      intro m
      induction m with
      | zero => intro k; simp [EK]
      | succ m ih =>
        intro k
        rw [EK]
        split
        · simp
        rw [List.length_cons]; have := ih (nx k); omega
    have := this t.trips.length i
    unfold C1
    omega
  exact ⟨List.length_pos_of_mem m3, hl, fun x hx => (m1 x hx).1, R3 hF h1⟩
theorem PV {t : An} (hv : CI t) (B : List (List Int)) (i : Nat) (b pre : List Int) (hB : B[i]? = some b) (hb : Ln t b) (hnd : (pre ++ b).Nodup) (hpl : pre.length ≤ 100) : ∀ (n j : Nat), b.length < n + j → j ≤ b.length →
    Ck n t B (i : Int) (CG t.trips.length (Bc (pre ++ b.take j))) (j : Int) ((pre.length + j : Nat) : Int) = some (Ex.go (CG t.trips.length (Bc (pre ++ b)), ((pre.length + b.length : Nat) : Int)))
  | 0, j, h, hj => by omega
  | n + 1, j, h, hj => by
    have h12 := hb.le
    have hn := hv.n
    rw [Ck, QD, hB, Option.bind_some, Bz]
    by_cases hx : j < b.length
    · have hm := hb.mem _ (List.getElem_mem hx)
      have hm' := Aq.1 hm
      have hbt : Ei b[j] 0 ((t.trips.length : Int) - 1) = true := by rw [AE]; omega
      have wN : IntKind.i64.wrap ((t.trips.length : Int) - 1) = (t.trips.length : Int) - 1 := IS (by omega) (by omega)
      have et : b.take (j + 1) = b.take j ++ [b[j]] := by rw [List.take_add_one, List.getElem?_eq_getElem hx]; rfl
      have hfresh : Bc (pre ++ b.take j) b[j] = false := by
        cases hq : Bc (pre ++ b.take j) b[j] with
        | false => rfl
        | true =>
          exfalso
          rw [O8] at hq
          have hsp : pre ++ b = (pre ++ b.take j) ++ b.drop j := by rw [List.append_assoc, List.take_append_drop]
          rw [hsp, BG hx, List.nodup_append] at hnd
          exact hnd.2.2 b[j] hq b[j] List.mem_cons_self rfl
      simp only [hx, decide_true, cond_true, Option.bind_some, BX _ _ hx, On, wN, hbt, Bool.not_true, cond_false, Ja hbt, hfresh]
      have hmay : ((bif decide ((j : Int) > 0) then ((Bm b (IntKind.i64.wrap ((j : Int) - 1))).bind fun x66 => ((HQ n t x66 b[j]).bind fun x69 => some (!x69))) else some false) : Option Bool) = some false := by
        by_cases hj0 : j = 0
        · rw [decide_eq_false (show ¬ (j : Int) > 0 by omega), cond_false]
        obtain ⟨q, rfl⟩ : ∃ q, j = q + 1 := ⟨j - 1, by omega⟩
        have hq : q < b.length := by omega
        rw [decide_eq_true (show ((q + 1 : Nat) : Int) > 0 by omega), cond_true, IS (by omega) (by omega), show ((q + 1 : Nat) : Int) - 1 = (q : Int) by omega, BX _ _ hq, Option.bind_some, Xh n hv (hb.mem _ (List.getElem_mem hq)) hm (hb.may q _ _ (List.getElem?_eq_getElem hq) (List.getElem?_eq_getElem hx))]
        rfl
      rw [hmay, Option.bind_some, cond_false, L3 hbt, Option.bind_some, Da j (by omega), Da (pre.length + j) (by omega)]
      rw [show (CG t.trips.length fun x => if x = b[j] then true else Bc (pre ++ b.take j) x) = CG t.trips.length (Bc (pre ++ b.take (j + 1))) from Ek fun x _ => by rw [et, ← List.append_assoc, GN]]
      exact PV hv B i b pre hB hb hnd hpl n (j + 1) (by omega) (by omega)
    have : j = b.length := by omega
    subst this
    simp only [Nat.lt_irrefl, decide_false, cond_false, List.take_length]
theorem Uu (M : List (List Int)) (i : Nat) (h : i < M.length) : (M.take (i + 1)).flatten = (M.take i).flatten ++ M[i] := by
  rw [List.take_add_one, List.getElem?_eq_getElem h, List.flatten_append]
  simp
theorem PW {t : An} (hv : CI t) (B : List (List Int)) (hB : ∀ b ∈ B, Ln t b) (hnd : B.flatten.Nodup) (hfl : B.flatten.length ≤ 12) : ∀ (n i : Nat), B.length + 20 < n + i → i ≤ B.length →
    BO n t B (CG t.trips.length (Bc (B.take i).flatten)) (i : Int) (((B.take i).flatten.length : Nat) : Int) = some (Ex.go (CG t.trips.length (Bc B.flatten), ((B.flatten.length : Nat) : Int)))
  | 0, i, h, hi => by omega
  | n + 1, i, h, hi => by
    rw [BO, Bz]
    by_cases hx : i < B.length
    · have hb := hB _ (List.getElem_mem hx)
      have hne := hb.ne
      have hle := hb.le
      have hsp : B.flatten = (B.take i).flatten ++ (B[i] ++ (B.drop (i + 1)).flatten) := by
        conv => lhs; rw [← List.take_append_drop i B, List.flatten_append, BG hx, List.flatten_cons]
      have hnd2 : ((B.take i).flatten ++ B[i]).Nodup := by
        rw [hsp, ← List.append_assoc, List.nodup_append] at hnd
        exact hnd.1
      have hpl : (B.take i).flatten.length ≤ 12 := by
        have := congrArg List.length hsp
        rw [List.length_append] at this
        omega
      have hbl : B.length ≤ 1000000 := by
        have : B.length ≤ B.flatten.length := by
          have e : ∀ L : List (List Int), (∀ b ∈ L, 0 < b.length) → L.length ≤ L.flatten.length := by
            intro L
            induction L with
            | nil => simp
            | cons b L ih =>
              intro h
              have h1 := h b (by simp)
              have h2 := ih fun c hc => h c (by simp [hc])
              rw [List.flatten_cons, List.length_append, List.length_cons]
              omega
          exact e B fun b hb => (hB b hb).ne
        omega
      have h2 := PV hv B i B[i] (B.take i).flatten (List.getElem?_eq_getElem hx) hb hnd2 (by omega) n 0 (by omega) (by omega)
      rw [List.take_zero, List.append_nil, Nat.add_zero, show ((0 : Nat) : Int) = 0 from rfl] at h2
      have hz : (((B[i].length : Nat) : Int) == 0) = false := by
        cases hq : (((B[i].length : Nat) : Int) == 0) with
        | false => rfl
        | true => rw [beq_iff_eq] at hq; omega
      simp only [hx, decide_true, cond_true, BX _ _ hx, Option.bind_some, hz, cond_false]
      rw [h2, Option.bind_some]
      show BO n t B (CG t.trips.length (Bc ((B.take i).flatten ++ B[i]))) (IntKind.i64.wrap ((i : Int) + 1)) (((B.take i).flatten.length + B[i].length : Nat) : Int) = _
      rw [Da i (by omega), ← List.length_append, ← Uu B i hx]
      exact PW hv B hB hnd hfl n (i + 1) (by omega) (by omega)
    have : i = B.length := by omega
    subst this
    simp only [Nat.lt_irrefl, decide_false, cond_false, List.take_length]
theorem QB (n : Nat) {t : An} (hv : CI t) {nx bf : Int → Int} (hF : TB t.trips.length (Ka t) (fun i => (Az t i).start) nx bf) (hn : 60 ≤ n) : Eu n t (CY t.trips.length nx bf) = some true := by
  have h0 := hv.n
  obtain ⟨f1, f2, f3⟩ := R1 hF
  have hl : (CY t.trips.length nx bf).length ≤ 12 := by
    unfold CY
    have := List.length_filter_le (fun i => bf i == -1) (Ah t.trips.length)
    rw [AU] at this
    rw [List.length_map]
    omega
  have h1 := PW hv (CY t.trips.length nx bf) (PU hv hF) f1 (by omega) n 0 (by omega) (by omega)
  rw [List.take_zero, List.flatten_nil, show (([] : List Int).length : Nat) = 0 from rfl, show ((0 : Nat) : Int) = 0 from rfl, show CG t.trips.length (Bc []) = List.replicate t.trips.length false by
    rw [MC]
    exact Ek fun x _ => by simp [Bc]] at h1
  unfold Eu
  rw [XI _ _ (by omega), Option.bind_some, h1, f3]
  simp [Ex.bind]
theorem TD : ∀ (n i : Nat) (l : List (List Int)) (acc : List (List Int)), l.length < n + i → i ≤ l.length → l.length ≤ 100 → (∀ r ∈ l, r.length ≤ 100) → acc.length = i → DH n l acc (i : Int) = some (acc ++ l.drop i)
  | 0, i, l, acc, h, hi, _, _, _ => by omega
  | n + 1, i, l, acc, h, hi, hl, hr, ha => by
    rw [DH, Bz]
    by_cases hx : i < l.length
    · have h1 := hr _ (List.getElem_mem hx)
      simp only [hx, decide_true, cond_true, BX _ _ hx, Option.bind_some]
      unfold JP
      rw [Ee _ _ (by simp; omega), List.nil_append, Option.bind_some, Option.bind_some, Ee _ _ (by simp; omega), Option.bind_some, Da i (by omega), TD n (i + 1) l (acc ++ [l[i]]) (by omega) (by omega) hl hr (by simp [ha]), BG hx]
      simp
    have : i = l.length := by omega
    subst this
    simp
theorem R4 (t : An) (ht : t.trips.length ≤ 100) : ∀ (n i : Nat) (acc : List AH), t.trips.length < n + i → i ≤ t.trips.length → acc.length = i → Dv n t acc (i : Int) = some (acc ++ t.trips.drop i)
  | 0, i, acc, h, hi, _ => by omega
  | n + 1, i, acc, h, hi, ha => by
    rw [Dv, Bz]
    by_cases hx : i < t.trips.length
    · simp only [hx, decide_true, cond_true, BX _ _ hx, Option.bind_some]
      rw [Ee _ _ (by simp; omega), Option.bind_some, Da i (by omega), R4 t ht n (i + 1) (acc ++ [t.trips[i]]) (by omega) (by omega) (by simp [ha]), BG hx]
      simp
    have : i = t.trips.length := by omega
    subst this
    simp
theorem Vi (n : Nat) {t : An} (hv : CI t) (hn : 60 ≤ n) : GV n t = some t := by
  have h0 := hv.n
  have he := hv.e
  have hp := hv.p
  have h1 := TD n 0 t.empty [] (by omega) (by omega) (by omega) (fun r hr => by have := hv.r r hr; omega) rfl
  have h2 := R4 t (by omega) n 0 [] (by omega) (by omega) rfl
  rw [show ((0 : Nat) : Int) = 0 from rfl, List.drop_zero, List.nil_append] at h1 h2
  unfold GV JQ
  rw [h1, Option.bind_some, Option.bind_some, h2]
  rfl
def R5 (b : List Int) : Int := b.getD 0 0
def FJ (b : List Int) : Int := b.getD (b.length - 1) 0
theorem Wm {b : List Int} (h : 0 < b.length) : Bm b 0 = some (R5 b) ∧ R5 b ∈ b := by
  have e : R5 b = b[0] := by unfold R5; rw [List.getD_eq_getElem?_getD, List.getElem?_eq_getElem h]; rfl
  rw [e]
  exact ⟨BX b 0 h, List.getElem_mem h⟩
theorem QC {b : List Int} (h : 0 < b.length) (hl : b.length ≤ 1000) : Bm b (IntKind.i64.wrap (((b.length : Nat) : Int) - 1)) = some (FJ b) ∧ FJ b ∈ b := by
  have h1 : b.length - 1 < b.length := by omega
  have e : FJ b = b[b.length - 1] := by unfold FJ; rw [List.getD_eq_getElem?_getD, List.getElem?_eq_getElem h1]; rfl
  rw [e, IS (by omega) (by omega), show ((b.length : Nat) : Int) - 1 = ((b.length - 1 : Nat) : Int) by omega]
  exact ⟨BX b _ h1, List.getElem_mem h1⟩
def Ni (t : An) (b : List Int) : Cn := ⟨(Az t (FJ b)).start + (Az t (FJ b)).least, (Az t (FJ b)).start + (Az t (FJ b)).most, (Az t (R5 b)).start⟩
theorem Ot {t : An} (hv : CI t) (B : List (List Int)) (hB : ∀ b ∈ B, Ln t b) (hl : B.length ≤ 100) : ∀ (n i : Nat) (acc : List Cn), B.length < n + i → i ≤ B.length → acc.length = i → Ev n t B acc (i : Int) = some (acc ++ (B.drop i).map (Ni t))
  | 0, i, acc, h, hi, _ => by omega
  | n + 1, i, acc, h, hi, ha => by
    rw [Ev, Bz]
    by_cases hx : i < B.length
    · have hb := hB _ (List.getElem_mem hx)
      have hle := hb.le
      obtain ⟨f1, f2⟩ := Wm hb.ne
      obtain ⟨g1, g2⟩ := QC hb.ne (by omega)
      obtain ⟨t1, t2⟩ := Ej t (hb.mem _ f2)
      obtain ⟨t3, t4⟩ := Ej t (hb.mem _ g2)
      have ok := hv.t _ t4
      have s := ok.s
      have l := ok.l
      have m := ok.m
      simp only [hx, decide_true, cond_true, BX _ _ hx, Option.bind_some, f1, g1, t1, t3]
      rw [IS (x := (Az t (FJ B[i])).start + (Az t (FJ B[i])).least) (by omega) (by omega), IS (x := (Az t (FJ B[i])).start + (Az t (FJ B[i])).most) (by omega) (by omega), Ee _ _ (by simp; omega), Option.bind_some, Da i (by omega), Ot hv B hB hl n (i + 1) _ (by omega) (by omega) (by simp [ha]), BG hx, List.map_cons, List.append_assoc]
      rfl
    have : i = B.length := by omega
    subst this
    simp
open Go Go.RowKit
theorem Xk {α : Type} (xs ys : List α) (h : (xs ++ ys).length ≤ 17592186044416) : WB xs ys = some (xs ++ ys) := if_pos h
theorem SQ : FU 700 = some true := by kernel_rfl
theorem Ou (l : List (List Int)) : ∀ (n i : Nat), 40 < n + i → i ≤ 17 → ∃ r, Dn n l (i : Int) = some r
  | 0, i, h, hi => by omega
  | n + 1, i, h, hi => by
    rw [Dn, Bz]
    by_cases hx : i < l.length
    · by_cases h16 : i < 16
      · simp only [hx, decide_true, cond_true, Option.bind_some, decide_eq_true (show (i : Int) < 16 by omega), BX _ _ hx]
        rw [Da i (by omega)]
        cases decide (((l[i].length : Nat) : Int) > 15) with
        | true => exact ⟨_, rfl⟩
        | false => exact Ou l n (i + 1) (by omega) (by omega)
      simp only [hx, decide_true, cond_true, Option.bind_some, decide_eq_false (show ¬ (i : Int) < 16 by omega), cond_false]
      exact ⟨_, rfl⟩
    simp only [hx, decide_false, cond_false, Option.bind_some]
    exact ⟨_, rfl⟩
theorem Uv (n : Nat) (t : An) (hn : 60 ≤ n) : ∃ b, HP n t = some b := by
  obtain ⟨r, e⟩ := Ou t.empty n 0 (by omega) (by omega)
  rw [show ((0 : Nat) : Int) = 0 from rfl] at e
  unfold HP Iq
  rw [e, Option.bind_some]
  cases r with
  | ret v => cases v <;> exact ⟨_, rfl⟩
  | go s =>
    show ∃ b, ((some (decide (((t.empty.length : Nat) : Int) ≤ 15))).bind fun x5 => bif x5 then some (decide (((t.trips.length : Nat) : Int) ≤ 15)) else some false) = some b
    rw [Option.bind_some]
    cases decide (((t.empty.length : Nat) : Int) ≤ 15) <;> exact ⟨_, rfl⟩
theorem Lo {t : An} (hv : CI t) (words : List (IK .u16)) (hw : ∀ x ∈ words, 0 ≤ x.n ∧ x.n ≤ 65535) : ∀ (n i : Nat) (acc : List Int), t.trips.length < n + i → i ≤ t.trips.length → acc.length = i →
    ∃ P, BS n t words acc (i : Int) = some (acc ++ P) ∧ P.length + i = t.trips.length ∧ ∀ k, k < P.length → ∃ v, P[k]? = some v ∧ (Az t ((i + k : Nat) : Int)).least ≤ v ∧ v ≤ (Az t ((i + k : Nat) : Int)).most
  | 0, i, acc, h, hi, _ => by omega
  | n + 1, i, acc, h, hi, ha => by
    have hn := hv.n
    rw [BS, Bz]
    by_cases hx : i < t.trips.length
    · have him : (i : Int) ∈ Ah t.trips.length := by rw [Aq]; omega
      obtain ⟨e1, m1⟩ := Ej t him
      have ok := hv.t _ m1
      have hl := ok.l
      have hm := ok.m
      obtain ⟨w, hwd, w0, w1⟩ : ∃ w, ((bif decide (((words.length : Nat) : Int) > 0) then ((nz ((words.length : Nat) : Int)).bind fun x29 => ((Bm words (Int.tmod (i : Int) ((words.length : Nat) : Int))).bind fun x30 => some (IntKind.i64.wrap x30.n))) else some 1) : Option Int) = some w ∧ 0 ≤ w ∧ w ≤ 65535 := by
        by_cases h0 : words.length = 0
        · rw [decide_eq_false (show ¬ ((words.length : Nat) : Int) > 0 by omega)]
          exact ⟨1, rfl, by omega, by omega⟩
        have tr := O4 (show (0 : Int) ≤ (i : Int) by omega) (show (0 : Int) < (words.length : Int) by omega)
        obtain ⟨q, hq⟩ := Int.eq_ofNat_of_zero_le tr.1
        have hql : q < words.length := by omega
        have hwq := hw _ (List.getElem_mem hql)
        rw [decide_eq_true (show ((words.length : Nat) : Int) > 0 by omega), cond_true, WH (show ((words.length : Nat) : Int) ≠ 0 by omega), Option.bind_some, hq, BX _ _ hql, Option.bind_some, IS (by omega) (by omega)]
        exact ⟨_, rfl, hwq⟩
      have wr : IntKind.i64.wrap (IntKind.i64.wrap ((Az t (i : Int)).most - (Az t (i : Int)).least) + 1) = (Az t (i : Int)).most - (Az t (i : Int)).least + 1 := by
        rw [IS (x := (Az t (i : Int)).most - (Az t (i : Int)).least) (by omega) (by omega), IS (by omega) (by omega)]
      have step : ∀ v, (Az t (i : Int)).least ≤ v → v ≤ (Az t (i : Int)).most → ∃ P, ((Ih acc ([v] : List Int)).bind fun x58 => BS n t words x58 (IntKind.i64.wrap ((i : Int) + 1))) = some (acc ++ P) ∧ P.length + i = t.trips.length ∧ ∀ k, k < P.length → ∃ v, P[k]? = some v ∧ (Az t ((i + k : Nat) : Int)).least ≤ v ∧ v ≤ (Az t ((i + k : Nat) : Int)).most := fun v v0 v1 => by
        obtain ⟨P, p1, p2, p3⟩ := Lo hv words hw n (i + 1) (acc ++ [v]) (by omega) (by omega) (by simp [ha])
        refine ⟨v :: P, ?_, by rw [List.length_cons]; omega, fun k hk => ?_⟩
        · rw [Ee _ _ (by simp; omega), Option.bind_some, Da i (by omega), p1]
          simp
        cases k with
        | zero => exact ⟨v, rfl, v0, v1⟩
        | succ k =>
          obtain ⟨u, u1, u2⟩ := p3 k (by simp at hk; omega)
          refine ⟨u, u1, ?_⟩
          rw [show i + (k + 1) = i + 1 + k by omega]
          exact u2
      simp only [hx, decide_true, cond_true, e1, Option.bind_some]
      rw [hwd, Option.bind_some, wr, WH (by omega), Option.bind_some]
      by_cases c0 : Int.tmod w 3 = 0
      · rw [show (Int.tmod w 3 == 0) = true by simp [c0], cond_true]
        exact step _ (by omega) (by omega)
      rw [show (Int.tmod w 3 == 0) = false by simp [c0], cond_false]
      by_cases c1 : Int.tmod w 3 = 1
      · rw [show (Int.tmod w 3 == 1) = true by simp [c1], cond_true]
        exact step _ (by omega) (by omega)
      rw [show (Int.tmod w 3 == 1) = false by simp [c1], cond_false]
      have hd0 : 0 ≤ Int.tdiv w 3 := Int.tdiv_nonneg w0 (by omega)
      have hd1 : Int.tdiv w 3 ≤ 65535 := by rw [Int.tdiv_eq_ediv_of_nonneg w0]; omega
      have tr := O4 hd0 (show 0 < (Az t (i : Int)).most - (Az t (i : Int)).least + 1 by omega)
      rw [IS (x := Int.tdiv w 3) (by omega) (by omega), IS (x := (Az t (i : Int)).least + Int.tmod (Int.tdiv w 3) ((Az t (i : Int)).most - (Az t (i : Int)).least + 1)) (by omega) (by omega)]
      exact step _ (by omega) (by omega)
    have : i = t.trips.length := by omega
    subst this
    exact ⟨[], by simp, by simp, fun k hk => by simp at hk⟩
theorem Nj (t : Int → Int) (x : Int) : ∀ (A B : List Int) (n : Nat), A.length < n → A.length ≤ 1000000 →
    BY n (A.reverse ++ x :: B) ((A.reverse ++ x :: B).map t) (A.length : Int) = some ((IY (CQ t) x A).reverse ++ B, ((IY (CQ t) x A).reverse ++ B).map t)
  | _, _, 0, h, _ => by omega
  | [], B, n + 1, _, _ => by
    rw [BY]
    simp [IY]
  | y :: A, B, n + 1, h, hl => by
    have hl' : A.length + 1 ≤ 1000000 := by simpa using hl
    have e0 : (y :: A).reverse ++ x :: B = A.reverse ++ y :: x :: B := by simp
    have e1 : (y :: A).reverse ++ x :: B = (A.reverse ++ [y]) ++ x :: B := by simp
    have m0 : ((y :: A).reverse ++ x :: B).map t = A.reverse.map t ++ t y :: t x :: B.map t := by simp
    have m1 : ((y :: A).reverse ++ x :: B).map t = (A.reverse.map t ++ [t y]) ++ t x :: B.map t := by simp
    have hk : (A.reverse ++ [y]).length = A.length + 1 := by simp
    have hkm : (A.reverse.map t ++ [t y]).length = A.length + 1 := by simp
    have i1 : Bm ((y :: A).reverse ++ x :: B) ((A.length + 1 : Nat) : Int) = some x := by rw [e1, GG _ _ _ hk.symm]
    have i2 : Bm ((y :: A).reverse ++ x :: B) (A.length : Int) = some y := by rw [e0, GG _ _ _ (by simp)]
    have u1 : upd ((y :: A).reverse ++ x :: B) ((A.length + 1 : Nat) : Int) y = some (A.reverse ++ y :: y :: B) := by rw [e1, JK _ _ _ _ hk.symm]; simp
    have i3 : Bm (A.reverse ++ y :: y :: B) (A.length : Int) = some y := GG _ _ _ (by simp)
    have u2 : upd (A.reverse ++ y :: y :: B) (A.length : Int) x = some (A.reverse ++ x :: y :: B) := JK _ _ _ _ (by simp)
    have j1 : Bm (((y :: A).reverse ++ x :: B).map t) ((A.length + 1 : Nat) : Int) = some (t x) := by rw [m1, GG _ _ _ hkm.symm]
    have j2 : Bm (((y :: A).reverse ++ x :: B).map t) (A.length : Int) = some (t y) := by rw [m0, GG _ _ _ (by simp)]
    have v1 : upd (((y :: A).reverse ++ x :: B).map t) ((A.length + 1 : Nat) : Int) (t y) = some (A.reverse.map t ++ t y :: t y :: B.map t) := by rw [m1, JK _ _ _ _ hkm.symm]; simp
    have j3 : Bm (A.reverse.map t ++ t y :: t y :: B.map t) (A.length : Int) = some (t y) := GG _ _ _ (by simp)
    have v2 : upd (A.reverse.map t ++ t y :: t y :: B.map t) (A.length : Int) (t x) = some (A.reverse.map t ++ t x :: t y :: B.map t) := JK _ _ _ _ (by simp)
    have w1 : IntKind.i64.wrap (((A.length + 1 : Nat) : Int) - 1) = (A.length : Int) := by rw [IS (by omega) (by omega)]; omega
    have g1 : decide (((A.length + 1 : Nat) : Int) > 0) = true := decide_eq_true (by omega)
    rw [BY, List.length_cons]
    simp only [g1, cond_true, i1, i2, j1, j2, w1, Option.bind_some]
    rw [show decide (t x < t y) = CQ t x y from rfl]
    unfold IY
    cases hx : CQ t x y with
    | false => simp
    | true =>
      simp only [cond_true, u1, i3, u2, v1, j3, v2, Option.bind_some, if_true]
      have ih := Nj t x A (y :: B) n (by simp at h; omega) (by omega)
      rw [show (A.reverse ++ x :: y :: B).map t = A.reverse.map t ++ t x :: t y :: B.map t by simp] at ih
      rw [ih]
      simp
def Fx (t : An) (B : List (List Int)) (P : List Int) (i : Int) : Int := (Az t (FJ (B.getD i.toNat []))).start + P.getD (FJ (B.getD i.toNat [])).toNat 0
theorem Nk {t : An} (hv : CI t) (B : List (List Int)) (hB : ∀ b ∈ B, Ln t b) (hl : B.length ≤ 12) (e0 : Int) (P : List Int) (hP : P.length = t.trips.length) (hr : ∀ k, k < P.length → ∃ v, P[k]? = some v ∧ (Az t (k : Int)).least ≤ v ∧ v ≤ (Az t (k : Int)).most) : ∀ (n i : Nat), 60 ≤ n + i → i ≤ B.length →
    Cx n t (B, e0) P (E4 (CQ (Fx t B P)) (Ah i)) ((E4 (CQ (Fx t B P)) (Ah i)).map (Fx t B P)) (i : Int) = some (E4 (CQ (Fx t B P)) (Ah B.length), (E4 (CQ (Fx t B P)) (Ah B.length)).map (Fx t B P))
  | 0, i, h, hi => by omega
  | n + 1, i, h, hi => by
    rw [Cx, Bz]
    by_cases hx : i < B.length
    · have hb := hB _ (List.getElem_mem hx)
      have hle := hb.le
      obtain ⟨g1, g2⟩ := QC hb.ne (by omega)
      have hm := hb.mem _ g2
      have hm' := Aq.1 hm
      obtain ⟨t3, t4⟩ := Ej t hm
      have ok := hv.t _ t4
      have s := ok.s
      have l := ok.l
      have m := ok.m
      obtain ⟨q, hq⟩ := Int.eq_ofNat_of_zero_le hm'.1
      obtain ⟨v, v1, v2, v3⟩ := hr q (by omega)
      have hB0 : B.getD i [] = B[i] := by rw [List.getD_eq_getElem?_getD, List.getElem?_eq_getElem hx]; rfl
      have hkey : Fx t B P (i : Int) = (Az t (FJ B[i])).start + v := by
        unfold Fx
        rw [Int.toNat_natCast, hB0, hq, Int.toNat_natCast, List.getD_eq_getElem?_getD, v1]
        rfl
      have hPi : Bm P (FJ B[i]) = some v := by rw [hq, QD, v1]
      rw [← hq] at v2 v3
      have hlen : (E4 (CQ (Fx t B P)) (Ah i)).length = i := by rw [Em, AU]
      simp only [hx, decide_true, cond_true, BX _ _ hx, Option.bind_some, g1, t3, hPi]
      rw [IS (x := (Az t (FJ B[i])).start + v) (by omega) (by omega), ← hkey, Ee _ _ (by simp [hlen]; omega), Option.bind_some, Ee _ _ (by simp [hlen]; omega), Option.bind_some]
      have h4 := Nj (Fx t B P) (i : Int) (E4 (CQ (Fx t B P)) (Ah i)).reverse [] n (by rw [List.length_reverse, hlen]; omega) (by rw [List.length_reverse, hlen]; omega)
      rw [List.reverse_reverse, List.length_reverse, hlen, List.append_nil, List.map_append] at h4
      rw [show (E4 (CQ (Fx t B P)) (Ah i)).map (Fx t B P) ++ [Fx t B P (i : Int)] = (E4 (CQ (Fx t B P)) (Ah i)).map (Fx t B P) ++ [(i : Int)].map (Fx t B P) from rfl, h4, Option.bind_some, Da i (by omega)]
      have e1 : (IY (CQ (Fx t B P)) (i : Int) (E4 (CQ (Fx t B P)) (Ah i)).reverse).reverse = E4 (CQ (Fx t B P)) (Ah (i + 1)) := by
        rw [Co, PY]; rfl
      rw [e1]
      exact Nk hv B hB hl e0 P hP hr n (i + 1) (by omega) (by omega)
    have : i = B.length := by omega
    subst this
    simp
theorem Uw (n : Nat) (y : Am) (h : 3 < y.room.length) : FT n y = some 3 := by
  unfold FT
  rw [decide_eq_true (show ((y.room.length : Nat) : Int) > 3 by omega)]
  rfl
theorem P8 (t : An) (room : List Int) (hroom : room.length ≤ 17592186044416) (words : List (IK .u16)) (hw : ∀ x ∈ words, 0 ≤ x.n ∧ x.n ≤ 65535) : Ge 700 t room words = some true := by
  unfold Ge
  obtain ⟨b, hb⟩ := Uv 700 t (by omega)
  obtain ⟨r, hr, hrv⟩ := Uq 700 t (by omega)
  rw [hb, Option.bind_some, hr]
  simp only [Option.bind_some, SQ]
  cases b with
  | false => rfl
  | true =>
  rw [Bool.not_true, cond_false]
  by_cases h0 : r = 0
  rotate_left
  · rw [show (r != 0) = true by simp [h0]]
    rfl
  rw [show (r != 0) = false by simp [h0], Option.bind_some, cond_false]
  have hv := hrv h0
  have hn := hv.n
  obtain ⟨nx, bf, hcut, hF⟩ := Xj 700 hv (by omega)
  rw [Vi 700 hv (by omega), Option.bind_some, hcut, Option.bind_some]
  rw [QB 700 hv hF (by omega)]
  simp only [bne_self_eq_false, cond_false, Option.bind_some, Bool.not_true]
  rw [Xk _ _ (by simp; omega), List.nil_append, Option.bind_some]
  have hBok := PU hv hF
  have hBl : (CY t.trips.length nx bf).length ≤ 12 := by
    unfold CY
    have := List.length_filter_le (fun i => bf i == -1) (Ah t.trips.length)
    rw [AU] at this
    rw [List.length_map]
    omega
  generalize CY t.trips.length nx bf = B at hBok hBl
  have hy := Ot hv B hBok (by omega) 700 0 [] (by omega) (by omega) rfl
  rw [show ((0 : Nat) : Int) = 0 from rfl, List.drop_zero, List.nil_append] at hy
  unfold LH
  rw [hy, Option.bind_some]
  by_cases h3 : 3 < room.length
  · rw [Uw 700 _ h3]
    rfl
  rw [Vm 700 (Am.mk room (B.map (Ni t)) 0) (by simp only; omega) (by simp only [List.length_map]; omega) (by simp only; omega) (by simp only [List.length_map]; omega), Option.bind_some, Option.bind_some]
  by_cases hf : Cr (Am.mk room (B.map (Ni t)) 0) = 0
  rotate_left
  · rw [show (Cr (Am.mk room (B.map (Ni t)) 0) == 0) = false by simp [hf]]
    rfl
  rw [show (Cr (Am.mk room (B.map (Ni t)) 0) == 0) = true by simp [hf]]
  simp only [Bool.not_true, cond_false]
  obtain ⟨P, p1, p2, p3⟩ := Lo hv words hw 700 0 [] (by omega) (by omega) rfl
  rw [show ((0 : Nat) : Int) = 0 from rfl, List.nil_append] at p1
  have p3' : ∀ k, k < P.length → ∃ v, P[k]? = some v ∧ (Az t (k : Int)).least ≤ v ∧ v ≤ (Az t (k : Int)).most := fun k hk => by have := p3 k hk; rwa [Nat.zero_add] at this
  have hpk : Gm 700 t words = some P := by unfold Gm; rw [p1]; rfl
  have ho := Nk hv B hBok hBl 0 P (by omega) p3' 700 0 (by omega) (by omega)
  rw [show E4 (CQ (Fx t B P)) (Ah 0) = [] from rfl, List.map_nil, show ((0 : Nat) : Int) = 0 from rfl] at ho
  rw [hpk, Option.bind_some, ho, Option.bind_some]
  generalize hY : Am.mk room (B.map (Ni t)) 0 = y at hf
  obtain ⟨v1, v0, v2, v3, v4, v5, v6⟩ := DK hf
  have hyl : y.lG.length = B.length := by rw [← hY]; simp
  have hyb : y.broken = 0 := by rw [← hY]
  have hO : QH y (E4 (CQ (Fx t B P)) (Ah B.length)) := by
    have hp := E5 (CQ (Fx t B P)) (Ah B.length)
    exact ⟨hp.nodup_iff.2 (DB _), by rw [Em, AU, hyl], fun b => by rw [hyl]; exact hp.mem_iff⟩
  have hbus : ∀ i ∈ Ah B.length, (Aw y i).lo ≤ Fx t B P i ∧ Fx t B P i ≤ (Aw y i).hi := fun i hi => by
    have hi' := Aq.1 hi
    obtain ⟨k, rfl⟩ := Int.eq_ofNat_of_zero_le hi'.1
    have hk : k < B.length := by omega
    have hb := hBok _ (List.getElem_mem hk)
    have hle := hb.le
    obtain ⟨g1, g2⟩ := QC hb.ne (by omega)
    have hm' := Aq.1 (hb.mem _ g2)
    obtain ⟨q, hq⟩ := Int.eq_ofNat_of_zero_le hm'.1
    obtain ⟨v, u1, u2, u3⟩ := p3' q (by omega)
    have hB0 : B.getD k [] = B[k] := by rw [List.getD_eq_getElem?_getD, List.getElem?_eq_getElem hk]; rfl
    have hkey : Fx t B P (k : Int) = (Az t (FJ B[k])).start + v := by
      unfold Fx
      rw [Int.toNat_natCast, hB0, hq, Int.toNat_natCast, List.getD_eq_getElem?_getD, u1]
      rfl
    have hat : Aw y (k : Int) = Ni t B[k] := by
      rw [← hY]
      unfold Aw
      simp only
      rw [Int.toNat_natCast, List.getD_eq_getElem?_getD, List.getElem?_map, List.getElem?_eq_getElem hk]
      rfl
    rw [← hq] at u2 u3
    rw [hat, hkey]
    unfold Ni
    simp only
    omega
  have hpo : G7 y (E4 (CQ (Fx t B P)) (Ah B.length)) = true := Wu hO (List.Pairwise.imp_of_mem (fun {a b} ha hb h => by
    have ha' := (hO.mem a).1 ha
    have hb' := (hO.mem b).1 hb
    rw [hyl] at ha' hb'
    have q1 := hbus a ha'
    have q2 := hbus b hb'
    omega) (Oy (Fx t B P) (Ah B.length)))
  generalize E4 (CQ (Fx t B P)) (Ah B.length) = order at hO hpo
  have hol : order.length ≤ 12 := by rw [hO.len]; omega
  rw [R7 700 y (by omega) (by omega) (by omega), Option.bind_some, Ww 700 hf (by omega), Option.bind_some, Option.bind_some, Ee _ _ (by simp; omega), List.nil_append, Option.bind_some, PB 700 hf order (by omega) (by omega), hpo, Option.bind_some]
  simp only [Bool.not_true, cond_false]
  cases hbest : MG y with
  | none => rfl
  | some q =>
    obtain ⟨lanes, m⟩ := q
    obtain ⟨q1, q2, q3⟩ := RW hbest
    have hll := (L5 q1).1
    have hbr : HL y [] = true := Vp List.Pairwise.nil (by simp) (by rw [hyb]; simp)
    have hge := Vw hf q1 hpo hbr
    have ha : CJ y lanes order [] = 0 := by
      unfold CJ Hs
      rw [if_pos hf, q1, hpo, hbr]
      rfl
    have hmo := SX 700 y lanes order [] (by omega) (by omega) (by omega) (by omega) (by simp) (by omega)
    rw [ha, if_pos rfl] at hmo
    have hml : (GO y lanes order []).length = B.length := by
      unfold GO Bk M8
      rw [GH, Em, List.filter_eq_self.2 (fun b _ => by simp [Bc]), AU, hyl]
    simp only [bne_self_eq_false, cond_false]
    rw [Ee _ _ (by simp; omega), List.nil_append]
    simp only [Option.bind_some, UD 700 hf q1 hpo hbr (show 200 ≤ 700 by omega), hmo, beq_self_eq_true, cond_true]
    rw [decide_eq_true (show ((Fz y lanes order []).length : Int) ≤ m by omega), cond_true, hml]
    simp
end Go.Proofs.YtinminkmefljbaaGreat
