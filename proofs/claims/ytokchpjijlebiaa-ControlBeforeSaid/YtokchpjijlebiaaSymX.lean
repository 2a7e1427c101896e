/- Families: slices of maps that the call itself makes. -/
import Derived.Test.YtokchpjijlebiaaSymW
set_option linter.all false
namespace Go.Proofs.Ytokchpjijlebiaa
open Go Go.RowKit
open Rep (rep)
open KRep (kv)
open VRep (rv)
section
variable {KK α : Type} [KRep KK] [DecidableEq KK] [VRep α]
/-- Maps of one's own, as a slice holds them. -/
structure MapFam (h : Heap) (F : Fr) (bs : List (Option Nat)) (ms : List (Option (List (KK × α)))) : Prop where
  len : bs.length = ms.length
  nd : ∀ (i j b : Nat), bs[i]? = some (some b) → bs[j]? = some (some b) → i = j
  non : ∀ (i : Nat), bs[i]? = some none → ms[i]? = some none
  ent : ∀ (i b : Nat), bs[i]? = some (some b) → ∃ m es c, ms[i]? = some (some m) ∧ F.X b = some (.map es c) ∧ Ents h es.toList c m
variable {h : Heap} {F : Fr} {bs : List (Option Nat)} {ms : List (Option (List (KK × α)))}
theorem MapFam.up {F' : Fr} (H : MapFam h F bs ms) (hX : ∀ b es c, F.X b = some (.map es c) → F'.X b = some (.map es c)) : MapFam h F' bs ms :=
  ⟨H.len, H.nd, H.non, fun i b hb => let ⟨m, es, c, h1, h2, h3⟩ := H.ent i b hb; ⟨m, es, c, h1, hX _ _ _ h2, h3⟩⟩
theorem MapFam.mono {h' : Heap} (H : MapFam h F bs ms) (hle : Heap.le h h') : MapFam h' F bs ms :=
  ⟨H.len, H.nd, H.non, fun i b hb => let ⟨m, es, c, h1, h2, h3⟩ := H.ent i b hb; ⟨m, es, c, h1, h2, h3.mono hle⟩⟩
theorem MapFam.nils (n : Nat) : MapFam h F (List.replicate n none) (List.replicate n (none : Option (List (KK × α)))) := by
  refine ⟨by simp, fun i j b hi _ => ?_, fun i hi => ?_, fun i b hi => ?_⟩
  · rw [List.getElem?_replicate] at hi; split at hi <;> simp at hi
  · rw [List.getElem?_replicate] at hi ⊢; split at hi <;> simp_all
  · rw [List.getElem?_replicate] at hi; split at hi <;> simp at hi
/-- A new map is stored. -/
theorem MapFam.set {b : Nat} {es : Array MapEntry} {c : Nat} {m : List (KK × α)} {i : Nat} (H : MapFam h F bs ms) (hX : F.X b = none) (hE : Ents h es.toList c m) (hi : i < ms.length) : MapFam h (F.put b (some (.map es c))) (bs.set i (some b)) (ms.set i (some m)) := by
  have hnb : ∀ j, bs[j]? ≠ some (some b) := fun j hj => by
    obtain ⟨_, _, _, _, h2, _⟩ := H.ent j b hj
    rw [hX] at h2; cases h2
  have hl := H.len
  refine ⟨by simp [hl], fun j k b' hj hk => ?_, fun j hj => ?_, fun j b' hj => ?_⟩
  · by_cases hji : j = i
    · by_cases hki : k = i
      · rw [hji, hki]
      · subst hji
        rw [List.getElem?_set_self (by omega)] at hj
        rw [List.getElem?_set_ne (Ne.symm hki)] at hk
        cases hj
        exact absurd hk (hnb k)
    · rw [List.getElem?_set_ne (Ne.symm hji)] at hj
      by_cases hki : k = i
      · subst hki
        rw [List.getElem?_set_self (by omega)] at hk
        cases hk
        exact absurd hj (hnb j)
      · rw [List.getElem?_set_ne (Ne.symm hki)] at hk
        exact H.nd j k b' hj hk
  · by_cases hji : j = i
    · subst hji; rw [List.getElem?_set_self (by omega)] at hj; cases hj
    · rw [List.getElem?_set_ne (Ne.symm hji)] at hj ⊢; exact H.non j hj
  · by_cases hji : j = i
    · subst hji
      rw [List.getElem?_set_self (by omega)] at hj
      cases hj
      exact ⟨m, es, c, by rw [List.getElem?_set_self hi], Fr.put_X _ _ _, hE⟩
    · rw [List.getElem?_set_ne (Ne.symm hji)] at hj ⊢
      obtain ⟨m', es', c', h1, h2, h3⟩ := H.ent j b' hj
      have hne : b' ≠ b := fun hb => by rw [hb] at hj; exact hnb j hj
      exact ⟨m', es', c', h1, by rw [Fr.put_ne _ _ hne]; exact h2, h3⟩
/-- One of the maps changes. -/
theorem MapFam.upd {b : Nat} {es' : Array MapEntry} {c' : Nat} {m' : List (KK × α)} {i : Nat} (H : MapFam h F bs ms) (hb : bs[i]? = some (some b)) (hE : Ents h es'.toList c' m') : MapFam h (F.put b (some (.map es' c'))) bs (ms.set i (some m')) := by
  have hl := H.len
  have hi := (List.getElem?_eq_some_iff.1 hb).1
  refine ⟨by simp [hl], H.nd, fun j hj => ?_, fun j b' hj => ?_⟩
  · have hji : j ≠ i := fun hji => by rw [hji, hb] at hj; cases hj
    rw [List.getElem?_set_ne (Ne.symm hji)]; exact H.non j hj
  · by_cases hji : j = i
    · subst hji
      rw [hb] at hj
      cases hj
      exact ⟨m', es', c', by rw [List.getElem?_set_self (by omega)], Fr.put_X _ _ _, hE⟩
    · rw [List.getElem?_set_ne (Ne.symm hji)]
      obtain ⟨m2, es2, c2, h1, h2, h3⟩ := H.ent j b' hj
      have hne : b' ≠ b := fun hbb => hji (H.nd j i b (by rw [← hbb]; exact hj) hb)
      exact ⟨m2, es2, c2, h1, by rw [Fr.put_ne _ _ hne]; exact h2, h3⟩
theorem MapFam.get {i : Nat} {m : List (KK × α)} (H : MapFam h F bs ms) (hm : ms[i]? = some (some m)) : ∃ b es c, bs[i]? = some (some b) ∧ F.X b = some (.map es c) ∧ Ents h es.toList c m := by
  have hi := (List.getElem?_eq_some_iff.1 hm).1
  have hl := H.len
  have hb : bs[i]? = some bs[i] := List.getElem?_eq_getElem (by omega)
  cases hbi : bs[i] with
  | none => rw [hbi] at hb; rw [H.non i hb] at hm; cases hm
  | some b =>
    rw [hbi] at hb
    obtain ⟨m', es, c, h1, h2, h3⟩ := H.ent i b hb
    rw [hm] at h1
    cases h1
    exact ⟨b, es, c, hb, h2, h3⟩
end
theorem fam_nils (k : Nat) : (List.replicate k ([Value.map none] : List Value)).flatten = List.map Value.map (List.replicate k none) := by
  induction k with
  | zero => rfl
  | succ k ih => rw [List.replicate_succ, List.flatten_cons, ih, List.replicate_succ, List.map_cons]; rfl
theorem fam_cell {bs : List (Option Nat)} {k : Nat} {ob : Option Nat} (h : bs[k]? = some ob) (e : Env) : ∀ j c, ([SC.map ob] : List SC)[j]? = some c → (List.map Value.map bs)[0 + k * 1 + j]? = some (c.den e)
  | 0, c, hc => by simp at hc; subst hc; simp [h, SC.den]
  | j + 1, c, hc => by simp at hc
theorem fam_set {bs : List (Option Nat)} {k : Nat} (b : Nat) (h : k < bs.length) : (List.map Value.map bs).take (0 + k * 1 + 0) ++ [Value.map (some b)] ++ (List.map Value.map bs).drop (0 + k * 1 + 0 + 1) = List.map Value.map (bs.set k (some b)) := by
  simp only [Nat.zero_add, Nat.mul_one, Nat.add_zero]
  rw [← List.map_take, ← List.map_drop, List.set_eq_take_append_cons_drop, if_pos h]
  simp
section
variable {N : Nat} {F : Fr} {h : Heap} {e : Env} {pl : List Plc} {rw : List Row} {w w0 : World} {h0 : Heap} {KK α : Type} [KRep KK] [DecidableEq KK] [VRep α] {bs : List (Option Nat)} {ms : List (Option (List (KK × α)))} {ks : List Nat} {l : Nat} {r : Loop}
/-- A new map goes into the family. -/
theorem MapFam.take {b : Nat} {es : Array MapEntry} {c : Nat} {m : List (KK × α)} {i : Nat} (H : MapFam h F bs ms) (hm : Mem (Fr.put F b (some (.map es c))) h e pl rw w) (hX : F.X b = none) (hE : Ents h es.toList c m) (hi : i < ms.length) (ho : Fr.Of w0 h0 F) (hk : Marks F ks) :
    ∃ F' : Fr, Fr.Of w0 h0 F' ∧ Marks F' ks ∧ MapFam h F' (bs.set i (some b)) (ms.set i (some m)) ∧ Mem F' h e pl rw w :=
  ⟨F.put b (some (.map es c)), ⟨ho.w, ho.h⟩, hk.put (by rw [hX]; simp), H.set hX hE hi, hm⟩
/-- A map of the family changes. -/
theorem MapFam.change {b : Nat} {es es' : Array MapEntry} {c c' : Nat} {m' : List (KK × α)} {i : Nat} (H : MapFam h F bs ms) (hb : bs[i]? = some (some b)) (hX : F.X b = some (.map es c)) (hE : Ents h es'.toList c' m') (hm : Mem (Fr.put F b (some (.map es' c'))) h e pl rw w) (ho : Fr.Of w0 h0 F) (hk : Marks F ks) :
    ∃ F' : Fr, Fr.Of w0 h0 F' ∧ Marks F' ks ∧ MapFam h F' bs (ms.set i (some m')) ∧ Mem F' h e pl rw w :=
  ⟨F.put b (some (.map es' c')), ⟨ho.w, ho.h⟩, hk.put (by rw [hX]; simp), H.upd hb hE, hm⟩
theorem MapFam.changeL {b : Nat} {es es' : Array MapEntry} {c c' : Nat} {m' : List (KK × α)} {i : Nat} (H : MapFam h F bs ms) (hb : bs[i]? = some (some b)) (hX : F.X b = some (.map es c)) (hE : Ents h es'.toList c' m') (hm : Mem (Fr.put F b (some (.map es' c'))) h e pl rw w) (hl : LoopFr w0 h0 F l r ks) :
    ∃ F' : Fr, LoopFr w0 h0 F' l r ks ∧ MapFam h F' bs (ms.set i (some m')) ∧ Mem F' h e pl rw w :=
  ⟨F.put b (some (.map es' c')), hl.put (.inr hX), H.upd hb hE, hm⟩
/-- All maps of the family settle. -/
theorem MapFam.settle (H : MapFam h F bs ms) (hm : Mem F h e pl rw w) (ho : Fr.Of w0 h0 F) (hk : Marks F ks) : ∀ n, ∃ (h' : Heap) (F' : Fr), Heap.le h h' ∧ Fr.Of w0 h0 F' ∧ Marks F' ks ∧ Mem F' h' e pl rw w ∧ MapFam h' F bs ms ∧ (∀ (i b : Nat), n ≤ i → bs[i]? = some (some b) → F'.X b = F.X b) ∧
    ∀ (i b : Nat) (m : List (KK × α)), i < n → bs[i]? = some (some b) → ms[i]? = some (some m) → ∃ es c, h' b 0 = some (encMap es c) ∧ Ents h' es.toList c m
  | 0 => ⟨h, F, Heap.le_refl _, ho, hk, hm, H, fun _ _ _ _ => rfl, fun _ _ _ hi => by omega⟩
  | n + 1 => by
    obtain ⟨h1, F1, hle, ho1, hk1, hm1, H1, hX1, hs⟩ := MapFam.settle H hm ho hk n
    by_cases hb : ∃ b, bs[n]? = some (some b)
    · obtain ⟨b, hb⟩ := hb
      obtain ⟨m, es, c, q1, q2, q3⟩ := H1.ent n b hb
      have q2' : F1.X b = some (.map es c) := by rw [hX1 n b (Nat.le_refl _) hb]; exact q2
      obtain ⟨h2, hle2, q4, hm2⟩ := hm1.settleMap q2'
      refine ⟨h2, F1.put b none, Heap.le_trans hle hle2, ⟨ho1.w, ho1.h⟩, hk1.put (by rw [q2']; simp), hm2, H1.mono hle2, fun i b' hi hb' => ?_, fun i b' m' hi hb' hm' => ?_⟩
      · have hne : b' ≠ b := fun hbb => by have := H.nd i n b (by rw [← hbb]; exact hb') hb; omega
        rw [Fr.put_ne _ _ hne]
        exact hX1 i b' (by omega) hb'
      · by_cases hin : i = n
        · subst hin
          rw [hb] at hb'
          cases hb'
          rw [q1] at hm'
          cases hm'
          exact ⟨es, c, q4, q3.mono hle2⟩
        · obtain ⟨es', c', r1, r2⟩ := hs i b' m' (by omega) hb' hm'
          exact ⟨es', c', hle2 _ _ _ r1, r2.mono hle2⟩
    · exact ⟨h1, F1, hle, ho1, hk1, hm1, H1, fun i b' hi hb' => hX1 i b' (by omega) hb', fun i b' m' hi hb' hm' => hs i b' m' (by
        have : i ≠ n := fun hin => hb ⟨b', by rw [← hin]; exact hb'⟩
        omega) hb' hm'⟩
theorem mapM_id {α : Type} : ∀ {ms : List (Option α)} {l : List α}, ms.mapM id = some l → ms = l.map some
  | [], l, h => by simp at h; subst h; rfl
  | x :: ms, l, h => by
    rw [List.mapM_cons] at h
    obtain ⟨a, ha, h⟩ := Option.bind_eq_some_iff.1 h
    obtain ⟨l', hl, h⟩ := Option.bind_eq_some_iff.1 h
    cases h
    rw [mapM_id hl]
    simp only [id] at ha
    rw [ha]
    rfl
theorem cells_maps {h : Heap} : ∀ {bs : List (Option Nat)} {l : List (List (KK × α))}, bs.length = l.length → (∀ (i : Nat) (m : List (KK × α)), l[i]? = some m → ∃ (b : Nat) (es : Array MapEntry) (c : Nat), bs[i]? = some (some b) ∧ h b 0 = some (encMap es c) ∧ Ents h es.toList c m) → Cells h (l.map IMap.mk) (List.map Value.map bs)
  | [], [], _, _ => rfl
  | [], _ :: _, hl, _ => by simp at hl
  | _ :: _, [], hl, _ => by simp at hl
  | o :: bs, m :: l, hl, H => by
    obtain ⟨b, es, c, h1, h2, h3⟩ := H 0 m rfl
    simp at h1
    subst h1
    refine ⟨[.map (some b)], List.map Value.map bs, rfl, ⟨b, es, c, rfl, h2, h3⟩, cells_maps (by simpa using hl) fun i m' hm' => ?_⟩
    simpa using H (i + 1) m' (by simpa using hm')
/-- The family as a settled list of maps. -/
theorem MapFam.settleAll {l : List (List (KK × α))} (H : MapFam h F bs ms) (hm : Mem F h e pl rw w) (ho : Fr.Of w0 h0 F) (hk : Marks F ks) (hl : ms.mapM id = some l) :
    ∃ (h' : Heap) (F' : Fr), Heap.le h h' ∧ Fr.Of w0 h0 F' ∧ Marks F' ks ∧ Mem F' h' e pl rw w ∧ Cells h' (l.map IMap.mk) (List.map Value.map bs) := by
  obtain ⟨h', F', h1, h2, h3, h4, h5, _, h6⟩ := H.settle hm ho hk bs.length
  have hms := mapM_id hl
  refine ⟨h', F', h1, h2, h3, h4, cells_maps (by rw [H.len, hms]; simp) fun i m hi => ?_⟩
  have hmi : ms[i]? = some (some m) := by rw [hms]; simp [hi]
  obtain ⟨b, es, c, q1, q2, q3⟩ := H.get hmi
  obtain ⟨es', c', q4, q5⟩ := h6 i b m (List.getElem?_eq_some_iff.1 q1).1 q1 hmi
  exact ⟨b, es', c', q1, q4, q5⟩
end
end Go.Proofs.Ytokchpjijlebiaa
