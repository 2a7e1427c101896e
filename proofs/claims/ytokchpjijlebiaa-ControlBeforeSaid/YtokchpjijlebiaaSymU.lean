/- Structs and arrays as keys of maps. -/
import Derived.Test.YtokchpjijlebiaaSymT
import Derived.DeepKeys3
set_option linter.all false
namespace Go.Proofs.Ytokchpjijlebiaa
open Go Go.RowKit
open Rep (rep)
open KRep (kv)
open VRep (rv)
section
variable {P : Program}
/-- Are two values the same, by what is known? -/
def eqV (P : Program) : Nat → TypeId → SA → SA → Option Bool
  | 0, _, _, _ => none
  | d + 1, T, x, y => match P.underlying T, x, y with
    | some (.int k), .c (.int _ a), .c (.int _ b) => some (a == b)
    | some .bool, .c (.bool a), .c (.bool b) => some (a == b)
    | some (.struct fs), .agg xs, .agg ys => if P.stoodInHeld T then none else
      fs.toList.foldr (fun f acc => if f.name = "_" then none else match part' P f.type xs f.offset, part' P f.type ys f.offset with
        | some a, some b => match eqV P d f.type a b, acc with
          | some p, some q => some (p && q)
          | _, _ => none
        | _, _ => none) (some true)
    | some (.array n E), .agg xs, .agg ys =>
      (List.range n).foldr (fun i acc => match part' P E xs (i * P.cellsOf E), part' P E ys (i * P.cellsOf E) with
        | some a, some b => match eqV P d E a b, acc with
          | some p, some q => some (p && q)
          | _, _ => none
        | _, _ => none) (some true)
    | _, _, _ => none
/-- kinds agree -/
def kindV (P : Program) : Nat → TypeId → SA → Bool
  | 0, _, _ => false
  | d + 1, T, x => match P.underlying T, x with
    | some (.int k), .c (.int k' _) => k == k'
    | some .bool, .c (.bool _) => true
    | some (.struct fs), .agg xs => fs.toList.all fun f => match part' P f.type xs f.offset with
      | some a => kindV P d f.type a
      | none => false
    | some (.array n E), .agg xs => (P.info? E).isSome && (List.range n).all fun i => match part' P E xs (i * P.cellsOf E) with
      | some a => kindV P d E a
      | none => false
    | _, _ => false
theorem eqV_sound (e : Env) (k : Nat) : ∀ (d : Nat) {T : TypeId} {x y : SA} {b : Bool} (w : World), kindV P d T x = true → kindV P d T y = true → eqV P d T x y = some b → (Op.equalIn (k + d) T (x.den e) (y.den e)).run P w = .ok b w
  | 0, _, _, _, _, _, _, _, h => by simp [eqV] at h
  | d + 1, T, x, y, b, w, kx, ky, h => by
    unfold eqV at h
    unfold kindV at kx ky
    rw [show k + (d + 1) = (k + d) + 1 from rfl]
    split at h
    · rename_i kk k1 a k2 b' hu
      cases h
      simp only [hu] at kx ky
      have e1 := eq_of_beq kx
      have e2 := eq_of_beq ky
      subst e1; subst e2
      exact run_equalIn_int w (k + d) T _ _ a b' hu
    · rename_i a b' hu
      cases h
      exact run_equalIn_bool' w (k + d) T a b' hu
    · rename_i fs xs ys hu
      simp only [hu] at kx ky
      split at h
      · cases h
      · rename_i hst
        have hF : P.fieldsOf T = fs := by unfold Program.fieldsOf; rw [hu]
        show (Op.equalIn (k + d + 1) T (.agg _) (.agg _)).run P w = _
        rw [run_equalIn_struct w (k + d) T _ _ (by rw [hF]; exact hu) (by simpa using hst), hF]
        clear hF hu hst
        generalize fs.toList = l at h kx ky
        induction l generalizing b with
        | nil => simp at h; subst h; rfl
        | cons f fs' ih =>
          simp only [List.foldr_cons] at h
          simp only [List.all_cons, Bool.and_eq_true] at kx ky
          split at h
          · cases h
          · rename_i hn
            split at h
            · rename_i a c ha hc
              rw [ha] at kx
              rw [hc] at ky
              split at h
              · rename_i p q hp hq
                cases h
                unfold Op.eqFields
                rw [if_pos hn]
                simp only [Sem.run_bind, part'_sound e w ha, part'_sound e w hc, Result.andThen_ok, eqV_sound e k d w kx.1 ky.1 hp]
                cases p
                · rfl
                · simp only [Bool.not_true, Bool.false_eq_true, if_false, Bool.true_and]
                  exact ih q hq kx.2 ky.2
              · cases h
            · cases h
    · rename_i n E xs ys hu
      simp only [hu, Bool.and_eq_true] at kx ky
      obtain ⟨i, hi⟩ := Option.isSome_iff_exists.1 kx.1
      show (Op.equalIn (k + d + 1) T (.agg _) (.agg _)).run P w = _
      rw [run_equalIn_array w (k + d) _ _ hu hi]
      have kx := kx.2
      have ky := ky.2
      clear hu hi
      generalize List.range n = l at h kx ky
      induction l generalizing b with
      | nil => simp at h; subst h; rfl
      | cons j l' ih =>
        simp only [List.foldr_cons] at h
        simp only [List.all_cons, Bool.and_eq_true] at kx ky
        split at h
        · rename_i a c ha hc
          rw [ha] at kx
          rw [hc] at ky
          split at h
          · rename_i p q hp hq
            cases h
            unfold Op.eqItems
            simp only [Sem.run_bind, part'_sound e w ha, part'_sound e w hc, Result.andThen_ok, eqV_sound e k d w kx.1 ky.1 hp]
            cases p
            · rfl
            · simp only [Bool.not_true, Bool.false_eq_true, if_false, Bool.true_and]
              exact ih q hq kx.2 ky.2
          · cases h
        · cases h
    · cases h
theorem checkV_sound (e : Env) (em : Bool) (k : Nat) : ∀ (d : Nat) {T : TypeId} {x : SA} (w : World), kindV P d T x = true → (Instr.checkKey em (k + d) T (x.den e)).run P w = .ok () w
  | 0, _, _, _, h => by simp [kindV] at h
  | d + 1, T, x, w, h => by
    unfold kindV at h
    rw [show k + (d + 1) = (k + d) + 1 from rfl, Instr.checkKey]
    split at h
    · rename_i hu
      simp only [Sem.run_bind, run_underlying hu, Result.andThen_ok]
      rfl
    · rename_i hu
      simp only [Sem.run_bind, run_underlying hu, Result.andThen_ok]
      rfl
    · rename_i fs xs hu
      simp only [SA.den, Sem.run_bind, run_underlying hu, Result.andThen_ok]
      rw [← Array.forIn_toList]
      clear hu
      generalize fs.toList = l at h
      induction l generalizing w with
      | nil => simp
      | cons f fs' ih =>
        simp only [List.all_cons, Bool.and_eq_true] at h
        have h1 := h.1
        split at h1
        · rename_i a ha
          simp only [List.forIn_cons, Sem.run_bind, Sem.run_ite]
          split
          · simp only [Sem.run_bind, part'_sound e w ha, Result.andThen_ok, checkV_sound e em k d w h1, Sem.run_pure]
            exact ih w h.2
          · simp only [Sem.run_pure, Result.andThen_ok]
            exact ih w h.2
        · cases h1
    · rename_i n E xs hu
      simp only [Bool.and_eq_true] at h
      obtain ⟨i, hi⟩ := Option.isSome_iff_exists.1 h.1
      have h := h.2
      simp only [SA.den, Sem.run_bind, run_underlying hu, Result.andThen_ok]
      simp only [Std.Legacy.Range.forIn_eq_forIn_range', Std.Legacy.Range.size, Nat.sub_zero, Nat.add_one_sub_one, Nat.div_one]
      rw [List.range_eq_range'] at h
      generalize List.range' 0 n = l at h
      induction l with
      | nil => simp
      | cons j l' ih =>
        simp only [List.all_cons, Bool.and_eq_true] at h
        have h1 := h.1
        split at h1
        · rename_i a ha
          simp only [List.forIn_cons, Sem.run_bind, run_sizeOf w hi, Result.andThen_ok, part'_sound e w ha, checkV_sound e em k d w h1, Sem.run_pure]
          exact ih h.2
        · cases h1
    · cases h
/-- cells that are numbers and bools -/
def plainC : List SC → Bool
  | [] => true
  | .int _ _ :: r => plainC r
  | .bool _ :: r => plainC r
  | _ => false
theorem sameBits_plain (e : Env) (n : Nat) : ∀ {cs : List SC}, plainC cs = true → ((cs.map (SC.den e)).zip (cs.map (SC.den e))).all (fun (x, y) => Instr.sameBits n x y) = true
  | [], _ => rfl
  | .int k a :: r, h => by simp only [plainC] at h; simp only [List.map_cons, List.zip_cons_cons, List.all_cons, sameBits_plain e n h]; simp [SC.den, Instr.sameBits]
  | .bool b :: r, h => by simp only [plainC] at h; simp only [List.map_cons, List.zip_cons_cons, List.all_cons, sameBits_plain e n h]; simp [SC.den, Instr.sameBits]
theorem findAsking_spec {K : Type} [KRep K] [DecidableEq K] {KT : TypeId} (w : World) (heq : ∀ a b : K, (Op.equal KT (kv a) (kv b)).run P w = .ok (decide (a = b)) w) (k : K) : ∀ (es : List MapEntry) (i : Nat), (∀ e ∈ es, ∃ q : K, e.key = kv q) →
    ((Instr.findAsking KT (kv k) es i).run P w = .ok none w ∧ ∀ e ∈ es, e.key ≠ kv k) ∨ ∃ j e, (Instr.findAsking KT (kv k) es i).run P w = .ok (some (i + j, e.val)) w ∧ es[j]? = some e ∧ e.key = kv k
  | [], i, _ => .inl ⟨rfl, by simp⟩
  | e :: es, i, h => by
    obtain ⟨q, hq⟩ := h e (by simp)
    by_cases hk : k = q
    · subst hk
      refine .inr ⟨0, e, ?_, rfl, hq⟩
      unfold Instr.findAsking
      simp only [hq, Sem.run_bind, heq, Result.andThen_ok, decide_true, if_true, Sem.run_pure, Nat.add_zero]
    · have hne : e.key ≠ kv k := fun he => hk (KRep.inj (by rw [← he, hq]))
      have hrun : (Instr.findAsking KT (kv k) (e :: es) i).run P w = (Instr.findAsking KT (kv k) es (i + 1)).run P w := by
        rw [Instr.findAsking]
        simp only [hq, Sem.run_bind, heq, Result.andThen_ok, hk, decide_false, Bool.false_eq_true, if_false]
      rcases findAsking_spec w heq k es (i + 1) (fun e he => h e (by simp [he])) with ⟨h1, h2⟩ | ⟨j, e', h1, h2, h3⟩
      · exact .inl ⟨by rw [hrun]; exact h1, fun x hx => by
          rcases List.mem_cons.1 hx with rfl | hx
          · exact hne
          · exact h2 x hx⟩
      · exact .inr ⟨j + 1, e', by rw [hrun, h1]; congr 3; omega, by simpa using h2, h3⟩
/-- A struct as a key. -/
theorem KL.struct {K : Type} [KRep K] [DecidableEq K] {KT : TypeId} (d : Nat) (hd : decide (d ≤ 10000) = true) (cs : K → List SC) (hkv : ∀ k : K, kv k = .agg ((cs k).map (SC.den [])).toArray) (hw : (match P.underlying KT with | some (.array _ _) | some (.struct _) => true | _ => false) = true)
    (hkind : ∀ k : K, kindV P d KT (.agg (cs k)) = true) (hp : ∀ k : K, plainC (cs k) = true) (heq : ∀ a b : K, ∃ r, eqV P d KT (.agg (cs a)) (.agg (cs b)) = some r ∧ (r = true ↔ a = b)) : KL P KT K := by
  have hd := of_decide_eq_true hd
  have h0 : ∀ (w : World) (a b : K), (Op.equal KT (kv a) (kv b)).run P w = .ok (decide (a = b)) w := fun w a b => by
    obtain ⟨r, hr, hiff⟩ := heq a b
    have := eqV_sound [] (10000 - d) d w (hkind a) (hkind b) hr
    rw [show 10000 - d + d = 10000 by omega] at this
    rw [hkv a, hkv b]
    have hr2 : decide (a = b) = r := by
      cases r
      · have : ¬ a = b := fun h => by have := hiff.2 h; cases this
        simp [this]
      · have := hiff.1 rfl
        simp [this]
    rw [hr2]
    exact this
  refine ⟨fun w em k => ?_, fun w k es he => ?_, fun w k => ?_⟩
  · have := checkV_sound (P := P) [] em (10000 - d) d w (hkind k)
    rw [show 10000 - d + d = 10000 by omega] at this
    rw [hkv k]
    exact this
  · rw [run_findKey_eq (P := P) w hw]
    have := findAsking_spec (P := P) w (h0 w) k es 0 he
    simpa using this
  · have : Instr.sameBits 10000 (kv k) (kv k) = true := by
      rw [hkv k]
      show Instr.sameBits (9999 + 1) _ _ = true
      simp only [Instr.sameBits, beq_self_eq_true, Bool.true_and]
      exact sameBits_plain [] 9999 (hp k)
    simp [Instr.keyThatStays, this]
end
end Go.Proofs.Ytokchpjijlebiaa
