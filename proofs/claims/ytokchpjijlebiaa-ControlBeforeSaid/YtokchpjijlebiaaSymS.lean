/- Lending: a part of what a call holds is handed to another call, the rest stays as it is. -/
import Derived.Test.YtokchpjijlebiaaSymR
set_option linter.all false
namespace Go.Proofs.Ytokchpjijlebiaa
open Go Go.RowKit
open Rep (rep)
open KRep (kv)
open VRep (rv)
theorem Fr.put_put (F : Fr) (b : Nat) (x y : Option Obj) : (F.put b x).put b y = F.put b y := by
  unfold Fr.put
  congr 1
  funext k
  by_cases hk : k = b <;> simp [hk]
theorem Fr.put_X (F : Fr) (b : Nat) (x : Option Obj) : (F.put b x).X b = x := by simp [Fr.put]
theorem Fr.put_ne (F : Fr) {b c : Nat} (x : Option Obj) (h : c ≠ b) : (F.put b x).X c = F.X c := by simp [Fr.put, h]
theorem Fr.put_self {F : Fr} {b : Nat} {x : Option Obj} (h : F.X b = x) : F.put b x = F := by
  cases F with
  | mk w h' X =>
    unfold Fr.put
    congr 1
    funext k
    by_cases hk : k = b
    · subst hk; simp; exact h.symm
    · simp [hk]
theorem Fr.put_comm (F : Fr) {b c : Nat} (x y : Option Obj) (h : b ≠ c) : (F.put b x).put c y = (F.put c y).put b x := by
  unfold Fr.put
  congr 1
  funext k
  by_cases hk : k = b
  · subst hk; simp [h]
  · by_cases hc : k = c
    · subst hc; simp [hk]
    · simp [hk, hc]
def putL {α : Type} (l : List α) : List Nat → List α → List α
  | i :: is, x :: xs => putL (l.set i x) is xs
  | _, _ => l
theorem putL_length {α : Type} : ∀ (is : List Nat) (xs l : List α), (putL l is xs).length = l.length
  | [], xs, l => by cases xs <;> rfl
  | _ :: _, [], _ => rfl
  | i :: is, x :: xs, l => by rw [putL, putL_length is xs]; simp
theorem putL_not {α : Type} {j : Nat} : ∀ (is : List Nat) (xs l : List α), j ∉ is → (putL l is xs)[j]? = l[j]?
  | [], xs, l, _ => by cases xs <;> rfl
  | _ :: _, [], _, _ => rfl
  | i :: is, x :: xs, l, h => by
    simp only [List.mem_cons, not_or] at h
    rw [putL, putL_not is xs _ h.2, List.getElem?_set_ne (Ne.symm h.1)]
theorem putL_at {α : Type} : ∀ (is : List Nat) (xs l : List α) (k j : Nat) (x : α), is.Nodup → is[k]? = some j → xs[k]? = some x → j < l.length → (putL l is xs)[j]? = some x
  | [], _, _, _, _, _, _, h, _, _ => by simp at h
  | _ :: _, [], _, _, _, _, _, _, h, _ => by simp at h
  | i :: is, y :: xs, l, 0, j, x, hn, h1, h2, h3 => by
    simp at h1 h2
    subst h1; subst h2
    rw [putL, putL_not is xs _ (List.nodup_cons.1 hn).1]
    simp [h3]
  | i :: is, y :: xs, l, k + 1, j, x, hn, h1, h2, h3 => by
    rw [putL]
    exact putL_at is xs _ k j x (List.nodup_cons.1 hn).2 (by simpa using h1) (by simpa using h2) (by simpa using h3)
/-- The part that is lent. -/
def pick {α : Type} (l : List α) (is : List Nat) (d : α) : List α := is.map fun i => l.getD i d
def plcD : Plc := ⟨[], none⟩
def rowD : Row := ⟨none, 0, 0, 0, 0, [], 0⟩
def blkOf (e : Env) (is : List Nat) : Env := is.map e.blk
theorem blk_map (e : Env) : ∀ (is : List Nat) (k : Nat), k < is.length → Env.blk (blkOf e is) k = e.blk (is.getD k 0)
  | [], k, h => by simp at h
  | i :: is, 0, _ => rfl
  | i :: is, k + 1, h => by
    have := blk_map e is k (by simpa using h)
    simpa [blkOf, Env.blk] using this
def noPtr : List SC → Bool
  | [] => true
  | .ptr _ _ :: _ => false
  | _ :: r => noPtr r
theorem noPtr_den {e e' : Env} : ∀ {cs : List SC}, noPtr cs = true → cs.map (SC.den e) = cs.map (SC.den e')
  | [], _ => rfl
  | c :: r, h => by
    cases c with
    | ptr i off => simp [noPtr] at h
    | _ => simp only [noPtr] at h; rw [List.map_cons, List.map_cons, noPtr_den (e := e) (e' := e') h]; rfl
def lendOkP (pl : List Plc) (is : List Nat) : Bool := is.all fun i => match pl[i]? with | some p => p.own.isSome && noPtr p.cells | none => false
def lendOkR (rw : List Row) (js : List Nat) : Bool := js.all fun j => decide (j < rw.length)
def nodupB : List Nat → Bool
  | [] => true
  | x :: r => !r.contains x && nodupB r
theorem nodupB_sound : ∀ {l : List Nat}, nodupB l = true → l.Nodup
  | [], _ => List.nodup_nil
  | x :: r, h => by
    simp only [nodupB, Bool.and_eq_true, Bool.not_eq_true', List.contains_eq_mem] at h
    exact List.nodup_cons.2 ⟨by simpa using h.1, nodupB_sound h.2⟩
theorem idxOf?_some : ∀ {l : List Nat} {x k : Nat}, l.idxOf? x = some k → l[k]? = some x
  | [], _, _, h => by simp [List.idxOf?] at h
  | y :: r, x, k, h => by
    rw [List.idxOf?_cons] at h
    split at h
    · rename_i hy
      cases h
      simp at hy
      simp [hy]
    · obtain ⟨k', hk, rfl⟩ := Option.map_eq_some_iff.1 h
      simpa using idxOf?_some hk
theorem idxOf?_mem : ∀ {l : List Nat} {x : Nat}, x ∈ l → ∃ k, l.idxOf? x = some k
  | y :: r, x, h => by
    rw [List.idxOf?_cons]
    split
    · exact ⟨0, rfl⟩
    · rename_i hy
      rcases List.mem_cons.1 h with rfl | h
      · simp at hy
      · obtain ⟨k, hk⟩ := idxOf?_mem h
        exact ⟨k + 1, by simp [hk]⟩
theorem idxOf?_at : ∀ {l : List Nat} {x k : Nat}, l.Nodup → l[k]? = some x → l.idxOf? x = some k
  | [], _, _, _, h => by simp at h
  | y :: r, x, 0, _, h => by simp at h; subst h; rw [List.idxOf?_cons]; simp
  | y :: r, x, k + 1, hn, h => by
    have hx : x ∈ r := List.mem_of_getElem? (by simpa using h)
    have hy : y ≠ x := fun hy => (List.nodup_cons.1 hn).1 (hy ▸ hx)
    rw [List.idxOf?_cons, idxOf?_at (List.nodup_cons.1 hn).2 (by simpa using h)]
    simp [hy]
section
variable {F : Fr} {h : Heap} {e : Env} {pl : List Plc} {rw : List Row} {w : World}
/-- What is held back, as whole blocks. -/
def holdX (F : Fr) (ow : Owner) (e : Env) (pl : List Plc) (rw : List Row) (is js : List Nat) (w : World) : Nat → Option Obj := fun b =>
  match F.X b with
  | some o => some o
  | none => match ow b with
    | some (.inl i) => if i ∈ is then none else match pl[i]? with
      | some p => if p.own.isSome ∧ (e.blk i).1 = b then w.heap[b]? else none
      | none => none
    | some (.inr j) => if j ∈ js then none else match rw[j]? with
      | some r => if ∃ ad, r.a = some ad ∧ ad.block = b then w.heap[b]? else none
      | none => none
    | none => none
def lendOw (ow : Owner) (is js : List Nat) : Owner := fun b => match ow b with
  | some (.inl i) => (is.idxOf? i).map .inl
  | some (.inr j) => (js.idxOf? j).map .inr
  | none => none
theorem lendOw_some {ow : Owner} {is js : List Nat} {b : Nat} {x : Nat ⊕ Nat} (hx : lendOw ow is js b = some x) :
    (∃ i k, x = .inl k ∧ ow b = some (.inl i) ∧ is[k]? = some i) ∨ (∃ j k, x = .inr k ∧ ow b = some (.inr j) ∧ js[k]? = some j) := by
  unfold lendOw at hx
  split at hx
  · rename_i i hi
    obtain ⟨k, hk, rfl⟩ := Option.map_eq_some_iff.1 hx
    exact .inl ⟨i, k, rfl, hi, idxOf?_some hk⟩
  · rename_i j hj
    obtain ⟨k, hk, rfl⟩ := Option.map_eq_some_iff.1 hx
    exact .inr ⟨j, k, rfl, hj, idxOf?_some hk⟩
  · cases hx
/-- What a call holds is parted: some places and rows are lent. -/
theorem Mem.lend (is js : List Nat) (hm : Mem F h e pl rw w) (hi : lendOkP pl is = true) (hj : lendOkR rw js = true) (hni : nodupB is = true) (hnj : nodupB js = true) :
    ∃ Y, (∀ b o, F.X b = some o → Y b = some o) ∧ Mem ⟨F.w, h, Y⟩ h (blkOf e is) (pick pl is plcD) (pick rw js rowD) w ∧
      ∀ (Z : Nat → Option Obj) (h' : Heap) (w' : World) (pl' : List Plc) (rw' : List Row), Heap.le h h' → (∀ b, F.X b = none → Z b = Y b) → pl'.length = is.length → js.length ≤ rw'.length →
        (pl'.all fun (p : Plc) => p.own.isSome && noPtr p.cells) = true → Mem ⟨F.w, h, Z⟩ h' (blkOf e is) pl' rw' w' →
        Mem ⟨F.w, F.h, fun b => if (F.X b).isSome then Z b else none⟩ h' e (putL pl is pl') (putL rw js rw' ++ rw'.drop js.length) w' := by
  have hni := nodupB_sound hni
  have hnj := nodupB_sound hnj
  obtain ⟨ow, m⟩ := hm
  have hI : ∀ k i, is[k]? = some i → ∃ p : Plc, pl[i]? = some p ∧ p.own.isSome = true ∧ noPtr p.cells = true := fun k i hk => by
    have := List.all_eq_true.1 hi i (List.mem_of_getElem? hk)
    split at this
    · rename_i p hp
      simp only [Bool.and_eq_true] at this
      exact ⟨p, hp, this⟩
    · cases this
  have hJ : ∀ k j, js[k]? = some j → ∃ r, rw[j]? = some r := fun k j hk => by
    have := of_decide_eq_true (List.all_eq_true.1 hj j (List.mem_of_getElem? hk))
    exact ⟨rw[j], List.getElem?_eq_getElem this⟩
  refine ⟨holdX F ow e pl rw is js w, fun b o hb => by simp [holdX, hb], ⟨lendOw ow is js, m.below, Heap.le_refl _, fun _ _ _ hx => .inl hx, m.has, ?_, ?_, ?_, ?_, ?_⟩, ?_⟩
  · intro b x hx
    rcases lendOw_some hx with ⟨i, k, _, h1, _⟩ | ⟨i, k, _, h1, _⟩ <;> exact m.ows b _ h1
  · intro b o x k hv hx
    rcases lendOw_some hx with ⟨i, k', _, h1, _⟩ | ⟨i, k', h0, h1, _⟩
    · exact m.hown b o x i hv h1
    · cases h0
  · intro k p hp
    simp only [pick, List.getElem?_map] at hp
    obtain ⟨i, hi', rfl⟩ := Option.map_eq_some_iff.1 hp
    obtain ⟨p, hp', ho, hnp⟩ := hI k i hi'
    have hl : k < is.length := (List.getElem?_eq_some_iff.1 hi').1
    have hb : Env.blk (blkOf e is) k = e.blk i := by
      rw [blk_map e is k hl]; congr 1; simp [List.getD_eq_getElem?_getD, hi']
    have := m.pls i p hp'
    rw [List.getD_eq_getElem?_getD, hp']
    simp only [Option.getD_some]
    unfold PlcOk at this ⊢
    split at this
    · rename_i T hT
      obtain ⟨h1, h2, h3, h4⟩ := this
      rw [hb]
      refine ⟨?_, h2, ?_, h4⟩
      · simp only [lendOw, h1, idxOf?_at hni hi', Option.map_some]
      · rw [h3, noPtr_den hnp]
    · rename_i hT
      rw [hT] at ho; cases ho
  · intro k r hr
    simp only [pick, List.getElem?_map] at hr
    obtain ⟨j, hj', rfl⟩ := Option.map_eq_some_iff.1 hr
    obtain ⟨r, hr'⟩ := hJ k j hj'
    rw [List.getD_eq_getElem?_getD, hr']
    obtain ⟨h1, h2, h3, h4⟩ := m.rws j r hr'
    refine ⟨h1, h2, fun ad ha => ?_, h4⟩
    obtain ⟨q1, q2, q3⟩ := h3 ad ha
    refine ⟨?_, q2, q3⟩
    simp only [lendOw, q1, idxOf?_at hnj hj', Option.map_some]
  · intro b x hx
    simp only [holdX] at hx
    split at hx
    · rename_i o ho
      cases hx
      obtain ⟨h1, h2, h3, h4, h5⟩ := m.ext b _ ho
      exact ⟨h1, h2, h3, by simp [lendOw, h4], fun _ _ hv => hv, h5.2⟩
    · split at hx
      · rename_i i hio
        split at hx
        · cases hx
        · rename_i hni'
          split at hx
          · rename_i p hp
            split at hx
            · rename_i hb
              have := m.ows b _ hio
              have hpl := m.pls i p hp
              unfold PlcOk at hpl
              split at hpl
              · obtain ⟨q1, q2, q3, q4⟩ := hpl
                rw [hb.2] at q3 q4
                have hxe := hx
                rw [q3] at hxe
                refine ⟨this.1, this.2, hx, ?_, fun _ _ hv => hv, fun hc => ?_⟩
                · simp only [lendOw, hio]
                  cases hix : is.idxOf? i with
                  | none => rfl
                  | some k => exact absurd (List.mem_of_getElem? (idxOf?_some hix)) hni'
                · exact q4
              · rename_i hT
                rw [hT] at hb; simp at hb
            · cases hx
          · cases hx
      · rename_i j hjo
        split at hx
        · cases hx
        · rename_i hnj'
          split at hx
          · rename_i r hr
            split at hx
            · rename_i hb
              obtain ⟨ad, ha, hb⟩ := hb
              have := m.ows b _ hjo
              refine ⟨this.1, this.2, hx, ?_, fun _ _ hv => hv, fun hc => ?_⟩
              · simp only [lendOw, hjo]
                cases hix : js.idxOf? j with
                | none => rfl
                | some k => exact absurd (List.mem_of_getElem? (idxOf?_some hix)) hnj'
              · exfalso
                obtain ⟨_, h2⟩ := (m.rws j r hr).own
                rcases h2 with ⟨h2, _⟩ | ⟨g, cap, cur, h2, _, h3, _⟩
                · rw [ha] at h2; cases h2
                · rw [ha] at h2
                  have hg : ad = ⟨g, 0, none⟩ := by injection h2 with h2; exact Option.some.inj h2
                  rw [hg] at hb
                  simp only at hb
                  rw [← hb, h3] at hx
                  cases hx
                  cases hc
            · cases hx
          · cases hx
      · cases hx
  · intro Z h' w' pl' rw' hle hZ hl1 hl2 hok hm'
    obtain ⟨ow', m'⟩ := hm'
    have hY : ∀ b x, F.X b = none → holdX F ow e pl rw is js w b = some x → Z b = some x := fun b x hb hx => by rw [hZ b hb]; exact hx
    refine ⟨fun b => match ow' b with
      | some (.inl k) => (is[k]?).map .inl
      | some (.inr k) => if k < js.length then (js[k]?).map .inr else some (.inr (rw.length + (k - js.length)))
      | none => if F.X b = none ∧ (holdX F ow e pl rw is js w b).isSome then ow b else none, m'.below, Heap.le_trans m.le hle, ?_, m'.has, ?_, ?_, ?_, ?_, ?_⟩
    · intro b o x hx
      rcases m'.old b o x hx with h1 | h1
      · exact m.old b o x h1
      · exact .inr h1
    · intro b x hx
      (try simp only at hx)
      split at hx
      · rename_i k hk; exact m'.ows b _ hk
      · rename_i k hk; exact m'.ows b _ hk
      · split at hx
        · rename_i hc
          obtain ⟨y, hy⟩ := Option.isSome_iff_exists.1 hc.2
          exact ⟨(m.ows b _ hx).1, (m'.ext b y (hY b y hc.1 hy)).2.1⟩
        · cases hx
    · intro b o x i hv hx
      (try simp only at hx)
      split at hx
      · rename_i k hk; exact m'.hown b o x k hv hk
      · split at hx
        · obtain ⟨_, _, hc⟩ := Option.map_eq_some_iff.1 hx
          cases hc
        · cases hx
      · split at hx
        · rename_i hc
          obtain ⟨y, hy⟩ := Option.isSome_iff_exists.1 hc.2
          exact m.hown b o x i ((m'.ext b y (hY b y hc.1 hy)).2.2.2.2.1 o x hv) hx
        · cases hx
    · intro i p hp
      by_cases hii : i ∈ is
      · obtain ⟨k, hk⟩ := idxOf?_mem hii
        have hk := idxOf?_some hk
        have hkl : k < is.length := (List.getElem?_eq_some_iff.1 hk).1
        obtain ⟨p0, hp0, _, _⟩ := hI k i hk
        have hq : pl'[k]? = some pl'[k] := List.getElem?_eq_getElem (by omega)
        rw [putL_at is pl' pl k i _ hni hk hq (List.getElem?_eq_some_iff.1 hp0).1] at hp
        have hp := Option.some.inj hp
        have hall := List.all_eq_true.1 hok _ (List.mem_of_getElem? hq)
        rw [hp] at hq hall
        simp only [Bool.and_eq_true] at hall
        have := m'.pls k p hq
        have hb : Env.blk (blkOf e is) k = e.blk i := by
          rw [blk_map e is k hkl]; congr 1; simp [List.getD_eq_getElem?_getD, hk]
        unfold PlcOk at this ⊢
        split at this
        · obtain ⟨q1, q2, q3, q4⟩ := this
          rw [hb] at q1 q2 q3 q4
          refine ⟨?_, q2, ?_, q4⟩
          · simp only [q1, hk, Option.map_some]
          · rw [q3, noPtr_den hall.2]
        · rename_i hT
          rw [hT] at hall; simp at hall
      · rw [putL_not is pl' pl hii] at hp
        have := m.pls i p hp
        unfold PlcOk at this ⊢
        split at this
        · rename_i T hT
          obtain ⟨q1, q2, q3, q4⟩ := this
          have hX : F.X (e.blk i).1 = none := by
            cases hx : F.X (e.blk i).1 with
            | none => rfl
            | some y => have := (m.ext _ y hx).2.2.2.1; rw [this] at q1; cases q1
          have hh : holdX F ow e pl rw is js w (e.blk i).1 = some (.cells (p.cells.map (SC.den e)).toArray T (0, 0)) := by
            simp only [holdX, hX, q1, hii, if_false, hp, hT, Option.isSome_some, true_and, if_true, q3]
          obtain ⟨s1, s2, s3, s4, s5⟩ := m'.ext _ _ (hY _ _ hX hh)
          refine ⟨?_, q2, s3, fun o => ?_⟩
          · simp only [s4, hX, hh, Option.isSome_some, and_self, if_true, q1]
          · cases hv : h' (e.blk i).1 o with
            | none => rfl
            | some v => have h9 : h (e.blk i).1 o = some v := s5.1 o v hv; rw [q4 o] at h9; cases h9
        · exact fun j c hj => hle _ _ _ (this j c hj)
    · intro i r hr
      have hlen := putL_length js rw' rw
      by_cases hi' : i < rw.length
      · rw [List.getElem?_append_left (by omega)] at hr
        by_cases hii : i ∈ js
        · obtain ⟨k, hk⟩ := idxOf?_mem hii
          have hk := idxOf?_some hk
          have hkl : k < js.length := (List.getElem?_eq_some_iff.1 hk).1
          have hq : rw'[k]? = some rw'[k] := List.getElem?_eq_getElem (by omega)
          rw [putL_at js rw' rw k i _ hnj hk hq hi'] at hr
          have hr := Option.some.inj hr
          rw [hr] at hq
          obtain ⟨q1, q2, q3, q9⟩ := m'.rws k r hq
          refine ⟨q1, q2, fun ad ha => ?_, q9⟩
          obtain ⟨q4, q5, q6⟩ := q3 ad ha
          exact ⟨by simp only [q4, hkl, if_true, hk, Option.map_some], q5, q6⟩
        · rw [putL_not js rw' rw hii] at hr
          obtain ⟨q1, q2, q3, q9⟩ := m.rws i r hr
          have key : ∀ ad, r.a = some ad → ∃ x, holdX F ow e pl rw is js w ad.block = some x ∧ w.heap[ad.block]? = some x ∧ F.X ad.block = none := fun ad ha => by
            obtain ⟨q4, q5, q6⟩ := q3 ad ha
            have hX : F.X ad.block = none := by
              cases hx : F.X ad.block with
              | none => rfl
              | some y => have := (m.ext _ y hx).2.2.2.1; rw [this] at q4; cases q4
            have hlt := (m.ows _ _ q4).2
            refine ⟨w.heap[ad.block], ?_, Array.getElem?_eq_getElem hlt, hX⟩
            simp only [holdX, hX, q4, hii, if_false, hr]
            rw [if_pos ⟨ad, ha, rfl⟩]
            exact Array.getElem?_eq_getElem hlt
          refine ⟨?_, q2, fun ad ha => ?_, q9⟩
          · refine ⟨q1.1, ?_⟩
            rcases q1.2 with hn | ⟨g, cap, cur, hv, hb, hg, rest⟩
            · exact .inl hn
            · refine .inr ⟨g, cap, cur, hv, hb, ?_, rest⟩
              have ha : r.a = some ⟨g, 0, none⟩ := by injection hv
              obtain ⟨x, hx1, hx2, hx3⟩ := key _ ha
              obtain ⟨s1, s2, s3, s4, s5⟩ := m'.ext _ _ (hY _ _ hx3 hx1)
              rw [s3, ← hx2]; exact hg
          · obtain ⟨q4, q5, q6⟩ := q3 ad ha
            obtain ⟨x, hx1, hx2, hx3⟩ := key _ ha
            obtain ⟨s1, s2, s3, s4, s5⟩ := m'.ext _ _ (hY _ _ hx3 hx1)
            refine ⟨?_, fun o ho => ?_, fun o ho => ?_⟩
            · simp only [s4, hx3, hx1, Option.isSome_some, and_self, if_true, q4]
            · cases hv : h' ad.block o with
              | none => rfl
              | some v => have h9 : h ad.block o = some v := s5.1 o v hv; rw [q5 o ho] at h9; cases h9
            · have := q6 o ho
              have h2 : r.xs[o]? = some (r.xs[o]'(by omega)) := List.getElem?_eq_getElem _
              rw [h2] at this ⊢
              exact hle _ _ _ this
      · rw [List.getElem?_append_right (by omega)] at hr
        simp only [List.getElem?_drop] at hr
        obtain ⟨q1, q2, q3, q9⟩ := m'.rws _ r hr
        refine ⟨q1, q2, fun ad ha => ?_, q9⟩
        obtain ⟨q4, q5, q6⟩ := q3 ad ha
        refine ⟨?_, q5, q6⟩
        simp only [q4]
        rw [if_neg (by omega)]
        congr 2
        omega
    · intro b x hx
      (try simp only at hx)
      split at hx
      · rename_i hc
        obtain ⟨y, hy⟩ := Option.isSome_iff_exists.1 hc
        obtain ⟨s1, s2, s3, s4, s5⟩ := m'.ext b x hx
        refine ⟨s1, s2, s3, ?_, fun o v hv => (m.ext b y hy).2.2.2.2.1 o v (s5.1 o v hv), s5.2⟩
        simp only [s4, hy]
        simp
      · cases hx
end
end Go.Proofs.Ytokchpjijlebiaa
