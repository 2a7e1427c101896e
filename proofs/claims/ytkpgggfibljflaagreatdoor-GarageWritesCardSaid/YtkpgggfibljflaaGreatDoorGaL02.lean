/- The plain law. -/
import Derived.Test.YtkpgggfibljflaaGreatDoorGaL01
set_option linter.all false
set_option maxRecDepth 100000
namespace Go.Proofs.YtkpgggfibljflaaGreatDoor
open Go Go.RowKit Go.Proofs
def bL (l : List UInt8) : List (IK .u8) := l.map fun b => ⟨(b.toNat : Int)⟩
theorem bL_len (l : List UInt8) : (bL l).length = l.length := by simp [bL]
theorem bL_app (a b : List UInt8) : bL (a ++ b) = bL a ++ bL b := by simp [bL]
theorem bL_take (l : List UInt8) (k : Nat) : (bL l).take k = bL (l.take k) := by simp [bL, List.map_take]
theorem bL_drop (l : List UInt8) (k : Nat) : (bL l).drop k = bL (l.drop k) := by simp [bL, List.map_drop]
theorem btsI_eq (s : ByteArray) : btsI s = bL s.data.toList := by
  unfold btsI bytI bL
  rw [List.map_map]; rfl
theorem btsI_mk (l : List UInt8) : btsI (mkB l) = bL l := by
  rw [btsI_eq]; rfl
theorem strI_bL (l : List UInt8) : strI (bL l) = mkB l := by
  unfold strI bL mkB
  rw [List.map_map]
  congr 2
  conv => rhs; rw [← List.map_id l]
  apply List.map_congr_left
  intro b _
  show UInt8.ofNat ((b.toNat : Int).toNat) = b
  simp
theorem mkB_app (a b : List UInt8) : mkB a ++ mkB b = mkB (a ++ b) := by
  have h : ∀ s t : ByteArray, s.data.toList = t.data.toList → s = t := fun s t h => by
    rw [← mkB_data s, ← mkB_data t, h]
  apply h
  simp [mkB]
theorem mkB_size (l : List UInt8) : (mkB l).size = l.length := by simp [mkB, ByteArray.size]
theorem size_toList (s : ByteArray) : s.size = s.data.toList.length := by rw [Array.length_toList]; rfl
theorem strAdd_mk {a b : List UInt8} (h : a.length + b.length ≤ 1000000000) : strAdd (mkB a) (mkB b) = some (mkB (a ++ b)) := by
  unfold strAdd
  rw [mkB_size, mkB_size, if_pos h, mkB_app]
theorem beq_mk (a b : List UInt8) : (mkB a).beq (mkB b) = decide (a = b) := by
  show (a.toArray == b.toArray) = _
  by_cases h : a = b <;> simp [h]
theorem rep48 : ∀ k, Lib.repeatL [48] k = List.replicate k 48
  | 0 => rfl
  | k + 1 => by rw [Lib.repeatL, rep48 k, List.replicate_succ]; rfl
theorem dg_zero : ∀ k, dg k 0 = List.replicate k 48
  | 0 => rfl
  | k + 1 => by rw [dg, show 0 / 10 = 0 from rfl, dg_zero k, List.replicate_succ']; rfl
theorem dg_dec : ∀ (k u : Nat), u < 10 ^ k → 0 < k → (Lib.decDigits u).length ≤ k ∧ List.replicate (k - (Lib.decDigits u).length) 48 ++ Lib.decDigits u = dg k u
  | 0, _, _, h => absurd h (Nat.lt_irrefl 0)
  | k + 1, u, h, _ => by
    rw [dg]
    by_cases hu : u < 10
    · rw [Lib.decDigits, dif_pos hu, Nat.div_eq_of_lt hu, Nat.mod_eq_of_lt hu, dg_zero]
      simp
    · rw [Lib.decDigits, dif_neg hu]
      have hk : 0 < k := by
        rcases Nat.eq_zero_or_pos k with rfl | hk
        · simp at h; omega
        · exact hk
      obtain ⟨h1, h2⟩ := dg_dec k (u / 10) (by rw [Nat.pow_succ] at h; omega) hk
      rw [List.length_append, ← h2]
      simp only [List.length_singleton]
      refine ⟨by omega, ?_⟩
      rw [show k + 1 - ((Lib.decDigits (u / 10)).length + 1) = k - (Lib.decDigits (u / 10)).length by omega, List.append_assoc]
theorem digits_eq (n k u : Nat) (hk : 0 < k) (hk2 : k ≤ 5) (hu : u < 10 ^ k) : fgarage_digits n (u : Int) (k : Int) = some (mkB (dg k u), ()) := by
  have h5 : 10 ^ k ≤ 10 ^ 5 := Nat.pow_le_pow_right (by decide) hk2
  obtain ⟨h1, h2⟩ := dg_dec k u hu hk
  have hi : itoaP (u : Int) = mkB (Lib.decDigits u) := by
    unfold itoaP
    show mkB (digF 20 u) = _
    rw [digF_eq 20 u (by omega) (by decide)]
  unfold fgarage_digits itoaS
  rw [show (decide (-9223372036854775808 ≤ (u : Int)) && decide ((u : Int) ≤ 9223372036854775807)) = true by simp; omega, cond_true, Option.bind_some]
  simp only [hi, mkB_size]
  generalize hL : (Lib.decDigits u).length = L at *
  have hw : IntKind.i64.wrap ((k : Int) - (L : Int)) = ((k - L : Nat) : Int) := by rw [pwid (by omega) (by omega)]; omega
  have hc : (if IntKind.i64.wrap ((k : Int) - (L : Int)) > 0 then IntKind.i64.wrap ((k : Int) - (L : Int)) else 0) = ((k - L : Nat) : Int) := by
    rw [hw]; split <;> omega
  rw [hc]
  have hr : repeatS n (B [48]) ((k - L : Nat) : Int) = some (mkB (List.replicate (k - L) 48), ()) := by
    show (bif Nat.ble (k - L) 1000 && Nat.ble (ByteArray.size (B [48])) 1000 then some (mkB (Lib.repeatL (B [48]).data.toList (k - L)), ()) else none) = _
    rw [show Nat.ble (k - L) 1000 = true from Nat.ble_eq_true_of_le (by omega)]
    show some (mkB (Lib.repeatL [48] (k - L)), ()) = _
    rw [rep48]
  rw [hr]
  simp only [Option.bind_some]
  rw [strAdd_mk (by simp; omega), Option.bind_some, h2]
theorem rec_loop (n : Nat) (s : ByteArray) : ∀ (l : List UInt8) (i c : Nat) (full : List UInt8), full.length ≤ 1000 → full.drop i = l → i ≤ full.length → c ≤ 1000000000 + i * 256000 → l.length < n → fgarage_record_l1 n s (c : Int) (bL full) ((bL full).length : Int) (i : Int) = some (s, (((c + sumL i l : Nat) : Int), ())) := by
  induction n with
  | zero => intro l i c full _ _ _ _ h; exact absurd h (Nat.not_lt_zero _)
  | succ n ih =>
    intro l i c full hf hd hi hc hn
    rw [fgarage_record_l1]
    by_cases hx : i < full.length
    · have hd2 : full.drop i = full[i] :: full.drop (i + 1) := List.drop_eq_getElem_cons hx
      rw [hd] at hd2
      subst hd2
      have hb : (bL full)[i]'(by rw [bL_len]; exact hx) = ⟨(full[i].toNat : Int)⟩ := by simp [bL]
      rw [show decide ((i : Int) < ((bL full).length : Int)) = true by rw [bL_len]; simp; omega, cond_true, idxN (by rw [bL_len]; exact hx), Option.bind_some, hb]
      have h8 := full[i].toNat_lt
      have hle : (i + 1) * (full[i].toNat + 1) ≤ 1000 * 256 := Nat.mul_le_mul (by omega) (by omega)
      have hw : IntKind.i64.wrap ((c : Int) + IntKind.i64.wrap (IntKind.i64.wrap ((i : Int) + 1) * IntKind.i64.wrap (IntKind.i64.wrap ((full[i].toNat : Nat) : Int) + 1))) = ((c + (i + 1) * (full[i].toNat + 1) : Nat) : Int) := by
        rw [wN i (by omega), pwid (x := ((full[i].toNat : Nat) : Int)) (by omega) (by omega), wN (full[i].toNat) (by omega)]
        rw [show ((i + 1 : Nat) : Int) * ((full[i].toNat + 1 : Nat) : Int) = (((i + 1) * (full[i].toNat + 1) : Nat) : Int) by push_cast; rfl]
        generalize (i + 1) * (full[i].toNat + 1) = q at *
        rw [pwid (x := ((q : Nat) : Int)) (by omega) (by omega), pwid (by omega) (by omega)]
        omega
      rw [hw, wN i (by omega), ih (full.drop (i + 1)) (i + 1) _ full hf rfl (by omega) (by omega) (by simp at hn ⊢; omega)]
      simp only [sumL]
      rw [Nat.add_assoc]
    · have : l = [] := by rw [← hd]; simp; omega
      subst this
      rw [show decide ((i : Int) < ((bL full).length : Int)) = false by rw [bL_len]; simp; omega]
      simp [sumL]
theorem sumL_le : ∀ (l : List UInt8) (i : Nat), sumL i l ≤ l.length * ((i + l.length) * 256)
  | [], _ => by simp [sumL]
  | c :: l, i => by
    have h := sumL_le l (i + 1)
    have h8 := c.toNat_lt
    simp only [sumL, List.length_cons]
    have h1 : (i + 1) * (c.toNat + 1) ≤ (i + (l.length + 1)) * 256 := Nat.mul_le_mul (by omega) (by omega)
    rw [show i + 1 + l.length = i + (l.length + 1) by omega] at h
    have h2 := Nat.succ_mul l.length ((i + (l.length + 1)) * 256)
    generalize (i + 1) * (c.toNat + 1) = q1 at *
    generalize (i + (l.length + 1)) * 256 = q2 at *
    rw [Nat.succ_eq_add_one] at h2
    omega
theorem tmod_nat (a b : Nat) : (a : Int).tmod (b : Int) = ((a % b : Nat) : Int) := rfl
theorem record_eq {n i : Nat} {l : List UInt8} (hl : l.length ≤ 900) (hi : i ≤ 1000) (hn : l.length < n) : fgarage_record n (mkB l) (i : Int) = some (mkB (frm l i), ()) := by
  unfold fgarage_record
  have hs := sumL_le l 0
  have hs2 : l.length * ((0 + l.length) * 256) ≤ 900 * (900 * 256) := Nat.mul_le_mul hl (Nat.mul_le_mul (by omega) (Nat.le_refl _))
  have h7 : IntKind.i64.wrap (7 * IntKind.i64.wrap ((i : Int) + 1)) = ((7 * (i + 1) : Nat) : Int) := by
    rw [wN i (by omega), pwid (by omega) (by omega)]; push_cast; rfl
  rw [h7, btsI_mk]
  have hr := rec_loop n (mkB l) l 0 (7 * (i + 1)) l (by omega) rfl (by omega) (by omega) hn
  rw [show ((0 : Nat) : Int) = 0 from rfl] at hr
  rw [hr]
  simp only [Option.bind_some, mkB_size]
  have d1 := digits_eq n 3 l.length (by decide) (by decide) (by omega)
  have d2 := digits_eq n 3 (999 - l.length) (by decide) (by decide) (by omega)
  have d3 := digits_eq n 5 (chk l i) (by decide) (by decide) (chk_lt l i)
  rw [show ((3 : Nat) : Int) = 3 from rfl] at d1 d2
  rw [show ((5 : Nat) : Int) = 5 from rfl] at d3
  have w2 : IntKind.i64.wrap (999 - (l.length : Int)) = ((999 - l.length : Nat) : Int) := by rw [pwid (by omega) (by omega)]; omega
  have w3 : ((7 * (i + 1) + sumL 0 l : Nat) : Int).tmod 99991 = ((chk l i : Nat) : Int) := tmod_nat _ 99991
  rw [w2, w3, d1]
  simp only [Option.bind_some]
  rw [show B [91] = mkB [91] from rfl, show B [47] = mkB [47] from rfl, show B [93] = mkB [93] from rfl, show B [10] = mkB [10] from rfl]
  rw [strAdd_mk (by simp [dg_len])]
  simp only [Option.bind_some]
  rw [strAdd_mk (by simp [dg_len])]
  simp only [Option.bind_some]
  rw [d2]
  simp only [Option.bind_some]
  rw [strAdd_mk (by simp [dg_len])]
  simp only [Option.bind_some]
  rw [strAdd_mk (by simp [dg_len])]
  simp only [Option.bind_some]
  rw [d3]
  simp only [Option.bind_some]
  rw [strAdd_mk (by simp [dg_len])]
  simp only [Option.bind_some]
  rw [strAdd_mk (by simp [dg_len])]
  simp only [Option.bind_some]
  rw [strAdd_mk (by simp [dg_len]; omega)]
  simp only [Option.bind_some]
  rw [strAdd_mk (by simp [dg_len]; omega)]
  simp only [Option.bind_some]
  unfold frm
  simp
theorem toL_mk (s : ByteArray) : mkB s.data.toList = s := mkB_data s
def lsL (lines : List ByteArray) : List (List UInt8) := lines.map fun s => s.data.toList
theorem lsL_len (a : List ByteArray) : (lsL a).length = a.length := by simp [lsL]
theorem frm_le (l : List UInt8) (i : Nat) (h : l.length ≤ 200) : (frm l i).length ≤ 216 := by rw [frm_len]; omega
theorem fileL_le : ∀ (ls : List (List UInt8)) (i : Nat), (∀ l ∈ ls, l.length ≤ 200) → (fileL i ls).length ≤ 216 * ls.length
  | [], _, _ => by simp [fileL]
  | l :: ls, i, h => by
    have h1 := fileL_le ls (i + 1) fun x hx => h x (by simp [hx])
    have h2 := frm_le l i (h l (by simp))
    simp only [fileL, List.length_append, List.length_cons]
    omega
theorem written_loop (lines : List ByteArray) (hs : ∀ s ∈ lines, s.size ≤ 200) (hl : lines.length ≤ 1000) : ∀ (n i : Nat), 200 + (lines.length - i) < n → i ≤ lines.length → fgarage_written_l1 n (bL (fileL 0 ((lsL lines).take i))) lines (lines.length : Int) (i : Int) = some (bL (fileL 0 (lsL lines)), ())
  | 0, _, h, _ => absurd h (Nat.not_lt_zero _)
  | n + 1, i, h, hi => by
    rw [fgarage_written_l1]
    by_cases hx : i < lines.length
    · rw [show decide ((i : Int) < (lines.length : Int)) = true by simp; omega, cond_true, idxN hx, Option.bind_some]
      have hsz : lines[i].data.toList.length ≤ 200 := by rw [← size_toList]; exact hs _ (List.getElem_mem hx)
      have hr := record_eq (n := n) (i := i) (l := lines[i].data.toList) (by omega) (by omega) (by omega)
      rw [toL_mk] at hr
      rw [hr]
      simp only [Option.bind_some]
      rw [btsI_mk]
      have hls : ∀ l ∈ lsL lines, l.length ≤ 200 := fun l hl => by
        obtain ⟨s, hs1, rfl⟩ := List.mem_map.1 hl
        rw [← size_toList]; exact hs s hs1
      have hb := fileL_le ((lsL lines).take i) 0 fun l hl => hls l (List.mem_of_mem_take hl)
      have hti : ((lsL lines).take i).length = i := by rw [List.length_take, lsL_len]; omega
      rw [app_ok (by rw [bL_len, bL_len, frm_len]; rw [hti] at hb; omega), Option.bind_some, wN i (by omega)]
      have hst : bL (fileL 0 ((lsL lines).take i)) ++ bL (frm lines[i].data.toList i) = bL (fileL 0 ((lsL lines).take (i + 1))) := by
        rw [← bL_app]
        congr 1
        rw [List.take_succ_eq_append_getElem (by rw [lsL_len]; exact hx), fileL_app, hti]
        simp [fileL, lsL]
      rw [hst]
      exact written_loop lines hs hl n (i + 1) (by omega) (by omega)
    · have : i = lines.length := by omega
      subst this
      rw [show decide ((lines.length : Int) < (lines.length : Int)) = false by simp, cond_false, List.take_of_length_le (by rw [lsL_len]; omega)]
theorem written_eq {n : Nat} {lines : List ByteArray} (hs : ∀ s ∈ lines, s.size ≤ 200) (hl : lines.length ≤ 1000) (hn : 200 + lines.length < n) : fgarage_written n lines = some (bL (fileL 0 (lsL lines)), ()) := by
  unfold fgarage_written
  have h := written_loop lines hs hl n 0 (by omega) (by omega)
  rw [show ((0 : Nat) : Int) = 0 from rfl] at h
  simp only [List.take_zero, fileL] at h
  rw [show ([] : List (IK .u8)) = bL [] from rfl, h]
  rfl
def rightL (lines : List ByteArray) : Bool := decide (lines.length ≤ 50) && lines.all fun s => decide (s.size ≤ 200)
theorem rightL_iff {lines : List ByteArray} : rightL lines = true ↔ lines.length ≤ 50 ∧ ∀ s ∈ lines, s.size ≤ 200 := by simp [rightL]
theorem check_eq {n : Nat} {lines : List ByteArray} (hn : lines.length < n) (hbig : lines.length ≤ 4000000000000000000) : fgarage_check n lines = some (bif rightL lines then 0 else 3, ()) := by
  unfold fgarage_check rightL
  by_cases h50 : lines.length ≤ 50
  · rw [show decide ((lines.length : Int) > 50) = false by simp; omega, cond_false, decide_eq_true h50, Bool.true_and]
    have key := lp_eq (F := fun n (_ : Unit) i => fgarage_check_l1 n lines (lines.length : Int) i) (l := lines) (N := 0) (T := fun s i a => bif decide ((a.size : Int) > 200) then .inr (.inr (3, ())) else .inl s) (E := fun _ => .inl ())
      (B := fun n _ i v0 => bif decide ((↑v0.size : Int) > 200) then (some (.inr (3, ()))) else fgarage_check_l1 n lines (lines.length : Int) (IntKind.i64.wrap (i + 1))) (fun _ _ => True)
      (fun _ _ _ => rfl) (fun n s i hi _ _ => by
        cases decide ((lines[i].size : Int) > 200)
        · exact ⟨rfl, trivial⟩
        · rfl) hbig lines.length () 0 n (by simp) (by omega) trivial
    rw [show ((0 : Nat) : Int) = 0 from rfl, List.drop_zero] at key
    rw [key, Option.bind_some]
    have H : ∀ (l : List ByteArray) (i : Nat), lpL (fun (s : Unit) (i : Nat) (a : ByteArray) => bif decide ((a.size : Int) > 200) then .inr (.inr (3, ())) else .inl s) (fun _ => (.inl () : Unit ⊕ (Int × Unit))) i () l = bif l.all (fun s => decide (s.size ≤ 200)) then .inl () else .inr (3, ()) := by
      intro l
      induction l with
      | nil => intro i; rfl
      | cons a l ih =>
        intro i
        unfold lpL
        by_cases ha : a.size ≤ 200
        · rw [show decide ((a.size : Int) > 200) = false by simp; omega, List.all_cons, decide_eq_true ha]
          exact ih (i + 1)
        · rw [show decide ((a.size : Int) > 200) = true by simp; omega, List.all_cons, decide_eq_false ha]
          rfl
    rw [H]
    cases lines.all (fun s => decide (s.size ≤ 200)) <;> rfl
  · rw [show decide ((lines.length : Int) > 50) = true by simp; omega, decide_eq_false h50]
    rfl
theorem Write_eq {n : Nat} {lines : List ByteArray} (hn : 200 + lines.length < n) (hbig : lines.length ≤ 4000000000000000000) : fgarage_Write n lines = some (bif rightL lines then (bL (fileL 0 (lsL lines)), (0, ())) else ([], (3, ()))) := by
  unfold fgarage_Write
  rw [check_eq (by omega) hbig, Option.bind_some]
  cases hr : rightL lines with
  | false => rfl
  | true =>
    obtain ⟨h1, h2⟩ := rightL_iff.1 hr
    simp only [cond_true]
    rw [show ((0 : Int) != 0) = false from rfl, cond_false, written_eq h2 (by omega) hn]
    rfl
end Go.Proofs.YtkpgggfibljflaaGreatDoor
namespace Go.Proofs.YtkpgggfibljflaaGreatDoor
open Go Go.RowKit Go.Proofs
def isD (c : UInt8) : Bool := decide (48 ≤ c.toNat) && decide (c.toNat ≤ 57)
def valO : Nat → List UInt8 → Option Nat
  | a, [] => some a
  | a, c :: l => bif isD c then valO (10 * a + (c.toNat - 48)) l else none
theorem u8wid {x : Int} (h0 : 0 ≤ x) (h1 : x ≤ 255) : IntKind.u8.wrap x = x := by
  simp [IntKind.wrap, IntKind.bits, IntKind.signed]; omega
theorem len_loop (full : List UInt8) (hf : full.length ≤ 3) : ∀ (n i a : Nat), full.length - i < n → i ≤ full.length → a < 10 ^ i → fgarage_length_l1 n (a : Int) (bL full) ((bL full).length : Int) (i : Int) = some (match valO a (full.drop i) with | some v => .inl ((v : Int), ()) | none => .inr (-1, ()))
  | 0, _, _, h, _, _ => absurd h (Nat.not_lt_zero _)
  | n + 1, i, a, h, hi, ha => by
    rw [fgarage_length_l1]
    by_cases hx : i < full.length
    · have hd : full.drop i = full[i] :: full.drop (i + 1) := List.drop_eq_getElem_cons hx
      have hb : (bL full)[i]'(by rw [bL_len]; exact hx) = ⟨(full[i].toNat : Int)⟩ := by simp [bL]
      rw [show decide ((i : Int) < ((bL full).length : Int)) = true by rw [bL_len]; simp; omega, cond_true, idxN (by rw [bL_len]; exact hx), Option.bind_some, hb, hd]
      simp only [valO, isD]
      have h3 : 10 ^ i ≤ 10 ^ 3 := Nat.pow_le_pow_right (by decide) (by omega)
      by_cases h48 : full[i].toNat < 48
      · rw [show decide (((full[i].toNat : Nat) : Int) < 48) = true by simp; omega, show decide (48 ≤ full[i].toNat) = false by simp; omega]
        rfl
      · rw [show decide (((full[i].toNat : Nat) : Int) < 48) = false by simp; omega, show decide (48 ≤ full[i].toNat) = true by simp; omega]
        by_cases h57 : full[i].toNat ≤ 57
        · rw [show decide (((full[i].toNat : Nat) : Int) > 57) = false by simp; omega, decide_eq_true h57]
          simp only [Bool.not_false, cond_true, cond_false, Bool.and_self]
          have e1 : IntKind.i64.wrap (IntKind.i64.wrap (10 * (a : Int)) + IntKind.i64.wrap (IntKind.u8.wrap (((full[i].toNat : Nat) : Int) - 48))) = ((10 * a + (full[i].toNat - 48) : Nat) : Int) := by
            rw [u8wid (by omega) (by omega), pwid (x := 10 * (a : Int)) (by omega) (by omega), pwid (x := ((full[i].toNat : Nat) : Int) - 48) (by omega) (by omega), pwid (by omega) (by omega)]
            omega
          rw [e1, wN i (by omega)]
          exact len_loop full hf n (i + 1) _ (by omega) (by omega) (by rw [Nat.pow_succ]; omega)
        · rw [show decide (((full[i].toNat : Nat) : Int) > 57) = true by simp; omega, decide_eq_false h57]
          rfl
    · have hd : full.drop i = [] := by simp; omega
      rw [show decide ((i : Int) < ((bL full).length : Int)) = false by rw [bL_len]; simp; omega, hd]
      rfl
theorem length_eq {n : Nat} {t : List UInt8} (ht : t.length = 3) (hn : 3 < n) : fgarage_length n (bL t) = some (match valO 0 t with | some v => ((v : Int), ()) | none => (-1, ())) := by
  unfold fgarage_length
  have h := len_loop t (by omega) n 0 0 (by omega) (by omega) (by decide)
  rw [show ((0 : Nat) : Int) = 0 from rfl, List.drop_zero] at h
  rw [h, Option.bind_some]
  cases valO 0 t <;> rfl
theorem ofN {x : Nat} (h : x < 256) : (UInt8.ofNat x).toNat = x := by simp [UInt8.toNat_ofNat', Nat.mod_eq_of_lt h]
theorem dg3 (m : Nat) : dg 3 m = [UInt8.ofNat (48 + m / 10 / 10 % 10), UInt8.ofNat (48 + m / 10 % 10), UInt8.ofNat (48 + m % 10)] := rfl
theorem isD_of {x : Nat} (h : x < 10) : isD (UInt8.ofNat (48 + x)) = true := by
  unfold isD
  rw [ofN (by omega)]
  simp; omega
theorem valO_dg {m : Nat} (h : m < 1000) : valO 0 (dg 3 m) = some m := by
  rw [dg3]
  simp only [valO, isD_of (show m / 10 / 10 % 10 < 10 by omega), isD_of (show m / 10 % 10 < 10 by omega), isD_of (show m % 10 < 10 by omega), cond_true]
  rw [ofN (by omega), ofN (by omega), ofN (by omega)]
  congr 1
  omega
theorem isD_iff {c : UInt8} : isD c = true ↔ 48 ≤ c.toNat ∧ c.toNat ≤ 57 := by simp [isD]
theorem dg_valO {t : List UInt8} {v : Nat} (ht : t.length = 3) (h : valO 0 t = some v) : v < 1000 ∧ t = dg 3 v := by
  match t, ht with
  | [a, b, c], _ =>
    simp only [valO] at h
    cases ha : isD a with
    | false => rw [ha] at h; cases h
    | true =>
    cases hb : isD b with
    | false => rw [ha, hb] at h; cases h
    | true =>
    cases hc : isD c with
    | false => rw [ha, hb, hc] at h; cases h
    | true =>
    rw [ha, hb, hc] at h
    simp only [cond_true, Option.some.injEq] at h
    obtain ⟨a1, a2⟩ := isD_iff.1 ha
    obtain ⟨b1, b2⟩ := isD_iff.1 hb
    obtain ⟨c1, c2⟩ := isD_iff.1 hc
    subst h
    refine ⟨by omega, ?_⟩
    rw [dg3]
    have e : ∀ (x : UInt8) (y : Nat), x.toNat = y → x = UInt8.ofNat y := fun x y h => by subst h; simp
    rw [← e a _ (by omega), ← e b _ (by omega), ← e c _ (by omega)]
def tot : List (List UInt8) → Nat
  | [] => 0
  | l :: r => 16 + l.length + tot r
theorem fileL_tot : ∀ (ls : List (List UInt8)) (i : Nat), (fileL i ls).length = tot ls
  | [], _ => rfl
  | l :: r, i => by simp [fileL, tot, frm_len, fileL_tot r (i + 1)]
theorem lstSub_ok {α : Type} {l : List α} {a b : Nat} (h : a ≤ b) (h2 : b ≤ l.length) : lstSub l (a : Int) (b : Int) = some ((l.drop a).take (b - a)) := by
  unfold lstSub
  rw [if_pos ⟨by omega, by omega, by omega⟩]
  simp
def extR {A B C : Type} : ((((List ByteArray × Unit) × ((Int × Unit) × Unit)) × A) ⊕ ((((List ByteArray × Unit) × ((Int × Unit) × Unit)) × B) ⊕ (((List ByteArray × Unit) × ((Int × Unit) × Unit)) × C))) → Option (List ByteArray × Int × Unit)
  | .inl v1 => some (v1.fst.fst.fst, (v1.fst.snd.fst.fst, ()))
  | .inr (.inl v2) => some (v2.fst.fst.fst, (v2.fst.snd.fst.fst, ()))
  | .inr (.inr v2) => some (v2.fst.fst.fst, (v2.fst.snd.fst.fst, ()))
theorem stopRd {k i : Nat} {b : List UInt8} (h : ∀ l, ¬ Fits i b l) : Rd k i b [] := by
  cases k with
  | zero => exact .full _ _
  | succ k => exact .stop h
theorem within_eq' (n : Nat) (x lo hi : Int) : fgarage_within n x lo hi = some (btw x lo hi, ()) := by
  unfold fgarage_within btw
  cases decide (lo ≤ x) <;> rfl
theorem fits_A {i : Nat} {c l : List UInt8} (h : Fits i c l) : (c.drop 1).take 3 = dg 3 l.length := by
  have := (pre_A h.2 (by rw [frm_len]; omega)).1
  rw [this, frm_A]
theorem fits_L {i : Nat} {c l : List UInt8} (h : Fits i c l) : (c.drop 15).take l.length = l := by
  obtain ⟨h1, t, ht⟩ := h
  rw [← ht, List.drop_append_of_le_length (by rw [frm_len]; omega), frm_15, List.append_assoc, List.take_append_of_le_length (Nat.le_refl _), List.take_length]
theorem rec_one (b : List UInt8) (hb : b.length ≤ 1000000) (k idx at_ : Nat) (ys : List ByteArray) (n : Nat) (hy : ys.length = idx) (hk : idx + k = 50) (ha : at_ ≤ b.length) (hn : 300 + k < n) (h0 : 0 < k → idx < 50) :
    ((0 < k → ∀ l, ¬ Fits idx (b.drop at_) l) ∧ (fgarage_Recover_i1 n ys (at_ : Int) (bL b) (at_ : Int) (idx : Int)).bind extR = some (ys ++ List.map mkB [], (((at_ + tot [] : Nat) : Int), ()))) ∨
    (∃ l, Fits idx (b.drop at_) l ∧ 0 < k ∧ ∃ n', 300 + k ≤ n' ∧ (fgarage_Recover_i1 n ys (at_ : Int) (bL b) (at_ : Int) (idx : Int)).bind extR = (fgarage_Recover_i1 n' (ys ++ [mkB l]) ((at_ + 16 + l.length : Nat) : Int) (bL b) ((at_ + 16 + l.length : Nat) : Int) ((idx + 1 : Nat) : Int)).bind extR) := by
  obtain ⟨n, rfl⟩ : ∃ m, n = m + 1 := ⟨n - 1, by omega⟩
  have hc : (b.drop at_).length = b.length - at_ := List.length_drop ..
  rw [fgarage_Recover_i1]
  have hsub : ∀ x y : Nat, x ≤ y → at_ + y ≤ b.length → lstSub (bL b) ((at_ + x : Nat) : Int) ((at_ + y : Nat) : Int) = some (bL (((b.drop at_).drop x).take (y - x))) := fun x y hxy hyb => by
    rw [lstSub_ok (by omega) (by rw [bL_len]; omega), bL_drop, bL_take, List.drop_drop, show at_ + y - (at_ + x) = y - x by omega]
  have e0 : IntKind.i64.wrap (((bL b).length : Int) - (at_ : Int)) = (((b.drop at_).length : Nat) : Int) := by rw [bL_len, pwid (by omega) (by omega)]; omega
  have e1 : IntKind.i64.wrap ((at_ : Int) + 1) = ((at_ + 1 : Nat) : Int) := wN _ (by omega)
  have e2 : IntKind.i64.wrap (((at_ + 1 : Nat) : Int) + 3) = ((at_ + 4 : Nat) : Int) := by rw [pwid (by omega) (by omega)]; omega
  have e3 : IntKind.i64.wrap ((at_ : Int) + 15) = ((at_ + 15 : Nat) : Int) := by rw [pwid (by omega) (by omega)]; omega
  have e4 : IntKind.i64.wrap ((at_ : Int) + 16) = ((at_ + 16 : Nat) : Int) := by rw [pwid (by omega) (by omega)]; omega
  have e5 : IntKind.i64.wrap ((idx : Int) + 1) = ((idx + 1 : Nat) : Int) := wN _ (by omega)
  rw [e0, e1, e2, e3, e4, e5]
  by_cases h16 : 16 ≤ (b.drop at_).length
  · rw [show decide ((((b.drop at_).length : Nat) : Int) ≥ 16) = true by simp; omega, cond_true, hsub 1 4 (by omega) (by omega), Option.bind_some, show 4 - 1 = 3 from rfl]
    have ht3 : (((b.drop at_).drop 1).take 3).length = 3 := by rw [List.length_take, List.length_drop]; omega
    rw [length_eq ht3 (by omega), Option.bind_some]
    cases hv : valO 0 (((b.drop at_).drop 1).take 3) with
    | none =>
      left
      refine ⟨fun _ l hf => ?_, ?_⟩
      · rw [fits_A hf, valO_dg (by have := hf.1; omega)] at hv; cases hv
      · simp only [within_eq', Option.bind_some]
        rw [show btw (-1) 0 200 = false by decide]
        simp [extR, tot]
    | some m =>
      obtain ⟨hm, hdg⟩ := dg_valO ht3 hv
      have hfm : ∀ l, Fits idx (b.drop at_) l → l.length = m := fun l hf => by
        have := fits_A hf
        rw [hdg] at this
        exact (dg_inj 3 (by omega) (by have := hf.1; omega) this).symm
      simp only [within_eq', Option.bind_some]
      by_cases h200 : m ≤ 200
      · have hb1 : btw (m : Int) 0 200 = true := btw_true.2 (by omega)
        rw [hb1]
        simp only [Bool.not_true, Bool.not_false, cond_true]
        have e6 : IntKind.i64.wrap (16 + (m : Int)) = ((16 + m : Nat) : Int) := by rw [pwid (by omega) (by omega)]; omega
        rw [e6]
        by_cases hlen : 16 + m ≤ (b.drop at_).length
        · have e7 : IntKind.i64.wrap (((at_ + 16 : Nat) : Int) + (m : Int)) = ((at_ + (16 + m) : Nat) : Int) := by rw [pwid (by omega) (by omega)]; omega
          have e8 : IntKind.i64.wrap (((at_ + (16 + m) : Nat) : Int) - 1) = ((at_ + (15 + m) : Nat) : Int) := by rw [pwid (by omega) (by omega)]; omega
          rw [e7, e8, show decide ((((b.drop at_).length : Nat) : Int) < ((16 + m : Nat) : Int)) = false by simp; omega, cond_false, hsub 15 (15 + m) (by omega) (by omega), Option.bind_some, show 15 + m - 15 = m by omega, strI_bL]
          have hlm : (((b.drop at_).drop 15).take m).length = m := by rw [List.length_take, List.length_drop]; omega
          generalize hl : ((b.drop at_).drop 15).take m = l at *
          rw [record_eq (by omega) (by omega) (by omega), Option.bind_some]
          have h0m := hsub 0 (16 + m) (by omega) (by omega)
          rw [Nat.add_zero, List.drop_zero, Nat.sub_zero] at h0m
          rw [h0m, Option.bind_some, strI_bL, beq_mk]
          by_cases heq : frm l idx = (b.drop at_).take (16 + m)
          · have hfit : Fits idx (b.drop at_) l := ⟨by omega, by rw [heq]; exact List.take_prefix _ _⟩
            rw [decide_eq_true heq]
            simp only [Bool.not_true, Bool.not_false, cond_true]
            by_cases h50 : idx = 50
            · rw [show decide ((ys.length : Int) = 50) = true by simp; omega, cond_true]
              left
              refine ⟨fun hk0 => by have := h0 hk0; omega, by simp [extR, tot]⟩
            · rw [show decide ((ys.length : Int) = 50) = false by simp; omega, cond_false, app_ok (by simp; omega), Option.bind_some]
              right
              refine ⟨l, hfit, by omega, n, by omega, ?_⟩
              rw [hlm, show at_ + (16 + m) = at_ + 16 + m by omega]
          · rw [decide_eq_false heq]
            simp only [Bool.not_false, Bool.not_true, cond_false]
            left
            refine ⟨fun _ l' hf => heq ?_, by simp [extR, tot]⟩
            have h1 := hfm l' hf
            have h2 := fits_L hf
            rw [h1, hl] at h2
            rw [h2]
            obtain ⟨_, tl, htl⟩ := hf
            rw [← htl, List.take_append_of_le_length (by rw [frm_len]; omega), List.take_of_length_le (by rw [frm_len]; omega)]
        · rw [show decide ((((b.drop at_).length : Nat) : Int) < ((16 + m : Nat) : Int)) = true by simp; omega, cond_true]
          left
          refine ⟨fun _ l hf => hlen ?_, by simp [extR, tot]⟩
          have h1 := hf.2.length_le
          rw [frm_len, hfm l hf] at h1
          exact h1
      · have hb1 : btw (m : Int) 0 200 = false := btw_false.2 (by omega)
        rw [hb1]
        simp only [Bool.not_false, Bool.not_true, cond_false]
        left
        refine ⟨fun _ l hf => h200 ?_, by simp [extR, tot]⟩
        have := hf.1
        rw [hfm l hf] at this; exact this
  · rw [show decide ((((b.drop at_).length : Nat) : Int) ≥ 16) = false by simp; omega, cond_false]
    left
    refine ⟨fun _ l hf => h16 ?_, by simp [extR, tot]⟩
    have h1 := hf.2.length_le
    rw [frm_len] at h1
    omega
theorem rec_i1 (b : List UInt8) (hb : b.length ≤ 1000000) : ∀ (k idx at_ : Nat) (ys : List ByteArray) (n : Nat), ys.length = idx → idx + k = 50 → at_ ≤ b.length → 300 + k < n → ∃ r, Rd k idx (b.drop at_) r ∧ (fgarage_Recover_i1 n ys (at_ : Int) (bL b) (at_ : Int) (idx : Int)).bind extR = some (ys ++ r.map mkB, (((at_ + tot r : Nat) : Int), ())) := by
  intro k
  induction k with
  | zero =>
    intro idx at_ ys n hy hk ha hn
    exact ⟨[], .full _ _, rec_one b hb 0 idx at_ ys n hy hk ha hn (fun h => absurd h (Nat.lt_irrefl 0)) |>.elim (fun h => h.2) (fun h => by obtain ⟨l, _, h0, _⟩ := h; omega)⟩
  | succ k ih =>
    intro idx at_ ys n hy hk ha hn
    rcases rec_one b hb (k + 1) idx at_ ys n hy hk ha hn (fun _ => by omega) with ⟨h1, h2⟩ | ⟨l, hf, _, n', hn', h2⟩
    · exact ⟨[], stopRd (h1 (by omega)), h2⟩
    · have hl := hf.1
      have hle := hf.2.length_le
      rw [frm_len, List.length_drop] at hle
      obtain ⟨r, q1, q2⟩ := ih (idx + 1) (at_ + 16 + l.length) (ys ++ [mkB l]) n' (by simp [hy]) (by omega) (by omega) (by omega)
      refine ⟨l :: r, .more hf ?_, ?_⟩
      · rw [List.drop_drop, show at_ + (16 + l.length) = at_ + 16 + l.length by omega]; exact q1
      · rw [h2, q2]
        simp only [List.map_cons, tot, List.append_assoc, List.singleton_append]
        rw [show at_ + 16 + l.length + tot r = at_ + (16 + l.length + tot r) by omega]
theorem recover_eq {n : Nat} {b : List UInt8} (hb : b.length ≤ 1000000) (hn : 350 < n) : ∃ r, Rd 50 0 b r ∧ fgarage_Recover n (bL b) = some (r.map mkB, (((tot r : Nat) : Int), ())) := by
  obtain ⟨r, h1, h2⟩ := rec_i1 b hb 50 0 0 [] n rfl rfl (by omega) (by omega)
  rw [List.drop_zero] at h1
  refine ⟨r, h1, ?_⟩
  rw [show ((0 : Nat) : Int) = 0 from rfl, Nat.zero_add, List.nil_append] at h2
  rw [← h2]
  unfold fgarage_Recover
  congr 1
  funext v0
  rcases v0 with v1 | v1 | v1 <;> rfl
theorem recover_is {n : Nat} {b : List UInt8} {r : List (List UInt8)} (hb : b.length ≤ 1000000) (hn : 350 < n) (hr : Rd 50 0 b r) : fgarage_Recover n (bL b) = some (r.map mkB, (((tot r : Nat) : Int), ())) := by
  obtain ⟨r', h1, h2⟩ := recover_eq (n := n) hb hn
  rw [hr.one h1]; exact h2
end Go.Proofs.YtkpgggfibljflaaGreatDoor
namespace Go.Proofs.YtkpgggfibljflaaGreatDoor
open Go Go.RowKit Go.Proofs
theorem texts_loop (a b : List ByteArray) (hl : a.length = b.length) (hb : a.length ≤ 4000000000000000000) : ∀ (n i : Nat), a.length - i < n → i ≤ a.length → flaw_texts_l1 n a b (i : Int) = some (bif decide (a.drop i = b.drop i) then .inl () else .inr (false, ()))
  | 0, _, h, _ => absurd h (Nat.not_lt_zero _)
  | n + 1, i, h, hi => by
    rw [flaw_texts_l1]
    by_cases hx : i < a.length
    · have hd : a.drop i = a[i] :: a.drop (i + 1) := List.drop_eq_getElem_cons hx
      have hx2 : i < b.length := by omega
      have hd2 : b.drop i = b[i] :: b.drop (i + 1) := List.drop_eq_getElem_cons hx2
      rw [show decide ((i : Int) < (a.length : Int)) = true by simp; omega, cond_true, idxN hx, Option.bind_some, idxN hx2, Option.bind_some, hd, hd2, wN i (by omega)]
      have hbq : a[i].beq b[i] = decide (a[i] = b[i]) := by
        have := beq_mk a[i].data.toList b[i].data.toList
        rw [mkB_data, mkB_data] at this
        rw [this]
        by_cases he : a[i] = b[i]
        · rw [he]; simp
        · rw [decide_eq_false he, decide_eq_false]
          intro h2
          apply he
          rw [← mkB_data a[i], ← mkB_data b[i], h2]
      rw [hbq]
      by_cases he : a[i] = b[i]
      · rw [decide_eq_true he]
        simp only [Bool.not_true, cond_false]
        rw [texts_loop a b hl hb n (i + 1) (by omega) (by omega)]
        simp only [List.cons.injEq, he, true_and]
      · rw [decide_eq_false he]
        simp only [List.cons.injEq, he, false_and, decide_false, cond_false, Bool.not_false, cond_true]
    · have h1 : a.drop i = [] := by simp; omega
      have h2 : b.drop i = [] := by simp; omega
      rw [show decide ((i : Int) < (a.length : Int)) = false by simp; omega, h1, h2]
      simp
theorem texts_eq {n : Nat} {a b : List ByteArray} (hb : a.length ≤ 4000000000000000000) (hn : a.length < n) : flaw_texts n a b = some (decide (a = b), ()) := by
  unfold flaw_texts
  by_cases hl : a.length = b.length
  · rw [show ((a.length : Int) != (b.length : Int)) = false by simp [hl], cond_false]
    have h := texts_loop a b hl hb n 0 (by omega) (by omega)
    rw [show ((0 : Nat) : Int) = 0 from rfl, List.drop_zero, List.drop_zero] at h
    rw [h, Option.bind_some]
    by_cases he : a = b <;> simp [he]
  · rw [show ((a.length : Int) != (b.length : Int)) = true by simp; omega, cond_true]
    have : a ≠ b := fun h => hl (by rw [h])
    simp [this]
theorem all_loop {n : Nat} {lines : List ByteArray} (m : Nat) (hb : lines.length ≤ 4000000000000000000) (hn : lines.length < n) (F : Nat → Int → Option ((List ByteArray × Unit) ⊕ (Bool × Unit)))
    (hF : ∀ n i, F (n + 1) i = bif decide (i < (lines.length : Int)) then (idx lines i).bind (fun v0 => bif decide ((↑v0.size : Int) > (m : Int)) then (some (.inr (false, ()))) else F n (IntKind.i64.wrap (i + 1))) else some (.inl (lines, ()))) :
    F n 0 = some (bif lines.all (fun s => decide (s.size ≤ m)) then .inl (lines, ()) else .inr (false, ())) := by
  have key := lp_eq (F := fun n (_ : Unit) i => F n i) (l := lines) (N := 0) (T := fun s i a => bif decide ((a.size : Int) > (m : Int)) then .inr (.inr (false, ())) else .inl s) (E := fun _ => .inl (lines, ()))
    (B := fun n _ i v0 => bif decide ((↑v0.size : Int) > (m : Int)) then (some (.inr (false, ()))) else F n (IntKind.i64.wrap (i + 1))) (fun _ _ => True)
    (fun n _ i => hF n i) (fun n s i hi _ _ => by
      cases decide ((lines[i].size : Int) > (m : Int))
      · exact ⟨rfl, trivial⟩
      · rfl) hb lines.length () 0 n (by simp) (by omega) trivial
  rw [show ((0 : Nat) : Int) = 0 from rfl, List.drop_zero] at key
  rw [key]
  congr 1
  have H : ∀ (l : List ByteArray) (i : Nat), lpL (fun (s : Unit) (i : Nat) (a : ByteArray) => bif decide ((a.size : Int) > (m : Int)) then .inr (.inr (false, ())) else .inl s) (fun _ => (.inl (lines, ()) : (List ByteArray × Unit) ⊕ (Bool × Unit))) i () l = bif l.all (fun s => decide (s.size ≤ m)) then .inl (lines, ()) else .inr (false, ()) := by
    intro l
    induction l with
    | nil => intro i; rfl
    | cons a l ih =>
      intro i
      unfold lpL
      by_cases ha : a.size ≤ m
      · rw [show decide ((a.size : Int) > (m : Int)) = false by simp; omega, List.all_cons, decide_eq_true ha]
        exact ih (i + 1)
      · rw [show decide ((a.size : Int) > (m : Int)) = true by simp; omega, List.all_cons, decide_eq_false ha]
        rfl
  exact H lines 0
def filesL (lines : List ByteArray) : Bool := lines.all (fun s => decide (s.size ≤ 150)) && (decide (0 < lines.length) && decide (lines.length ≤ 25))
theorem filesL_iff {lines : List ByteArray} : filesL lines = true ↔ (∀ s ∈ lines, s.size ≤ 150) ∧ 0 < lines.length ∧ lines.length ≤ 25 := by simp [filesL]
theorem files_eq {n : Nat} {lines : List ByteArray} (hb : lines.length ≤ 4000000000000000000) (hn : lines.length < n) : flaw_files n lines = some (filesL lines, ()) := by
  unfold flaw_files
  rw [all_loop 150 hb hn (fun n i => flaw_files_l1 n lines i) (fun n i => rfl), Option.bind_some]
  unfold filesL
  cases lines.all (fun s => decide (s.size ≤ 150)) with
  | false => rfl
  | true =>
    show (bif decide ((↑lines.length : Int) > 0) then (some (decide ((↑lines.length : Int) ≤ 25), ())) else some (false, ())) = _
    by_cases h0 : 0 < lines.length
    · rw [show decide ((lines.length : Int) > 0) = true by simp; omega, decide_eq_true h0]
      by_cases h1 : lines.length ≤ 25
      · rw [show decide ((lines.length : Int) ≤ 25) = true by simp; omega, decide_eq_true h1]; rfl
      · rw [show decide ((lines.length : Int) ≤ 25) = false by simp; omega, decide_eq_false h1]; rfl
    · rw [show decide ((lines.length : Int) > 0) = false from decide_eq_false (by omega), decide_eq_false h0]; rfl
theorem Right_eq {n : Nat} {lines : List ByteArray} (hb : lines.length ≤ 4000000000000000000) (hn : lines.length < n) : fref_Right n lines = some (rightL lines, ()) := by
  unfold fref_Right
  rw [all_loop 200 hb hn (fun n i => fref_Right_l1 n lines i) (fun n i => rfl), Option.bind_some]
  unfold rightL
  cases lines.all (fun s => decide (s.size ≤ 200)) with
  | false => simp
  | true =>
    show some (decide ((lines.length : Int) ≤ 50), ()) = _
    by_cases h1 : lines.length ≤ 50
    · rw [show decide ((lines.length : Int) ≤ 50) = true by simp; omega, decide_eq_true h1]; rfl
    · rw [show decide ((lines.length : Int) ≤ 50) = false by simp; omega, decide_eq_false h1]; rfl
theorem list_eq {n : Nat} {l : List ByteArray} (h : l.length ≤ 1000000000) : flaw_list n l = some (l, ()) := by
  unfold flaw_list
  rw [app_ok (a := []) (by simpa using h)]; rfl
theorem wakes_n {n : Nat} (h : 60 ≤ n) : flaw_wakes n = some (true, ()) := by
  obtain ⟨k, rfl⟩ : ∃ k, n = k + 60 := ⟨n - 60, by omega⟩
  exact wakes_ok k
theorem lsL_take (lines : List ByteArray) (k : Nat) : (lsL lines).take k = lsL (lines.take k) := by simp [lsL, List.map_take]
theorem lsL_mk (lines : List ByteArray) : (lsL lines).map mkB = lines := by
  unfold lsL
  rw [List.map_map]
  have : (mkB ∘ fun s : ByteArray => s.data.toList) = id := by funext x; exact mkB_data x
  rw [this, List.map_id]
theorem lsL_le {lines : List ByteArray} {m : Nat} (h : ∀ s ∈ lines, s.size ≤ m) : ∀ l ∈ lsL lines, l.length ≤ m := fun l hl => by
  obtain ⟨s, hs1, rfl⟩ := List.mem_map.1 hl
  rw [← size_toList]; exact h s hs1
def fileN (lines : List ByteArray) (k : Nat) : List UInt8 := fileL 0 (lsL (lines.take k))
theorem fileN_len (lines : List ByteArray) (k : Nat) : (fileN lines k).length = tot (lsL (lines.take k)) := fileL_tot _ _
theorem fileN_succ {lines : List ByteArray} {k : Nat} (h : k < lines.length) : fileN lines (k + 1) = fileN lines k ++ frm lines[k].data.toList k := by
  unfold fileN
  rw [List.take_succ_eq_append_getElem h]
  rw [show lsL (lines.take k ++ [lines[k]]) = lsL (lines.take k) ++ [lines[k].data.toList] by unfold lsL; rw [List.map_append]; rfl, fileL_app, lsL_len, List.length_take, Nat.min_eq_left (Nat.le_of_lt h), Nat.zero_add]
  simp [fileL]
theorem WriteN {n k : Nat} {lines : List ByteArray} (h : ∀ s ∈ lines, s.size ≤ 200) (hk : k ≤ 50) (hn : 300 ≤ n) : fgarage_Write n (lines.take k) = some (bL (fileN lines k), (0, ())) := by
  have hl : (lines.take k).length ≤ 50 := by rw [List.length_take]; omega
  rw [Write_eq (by omega) (by omega), rightL_iff.2 ⟨hl, fun s hs => h s (List.mem_of_mem_take hs)⟩]; rfl
theorem lstSub0 {α : Type} {l : List α} {k : Nat} (h : k ≤ l.length) : lstSub l 0 (k : Int) = some (l.take k) := by
  have := lstSub_ok (l := l) (a := 0) (b := k) (by omega) h
  simpa using this
end Go.Proofs.YtkpgggfibljflaaGreatDoor
namespace Go.Proofs.YtkpgggfibljflaaGreatDoor
open Go Go.RowKit Go.Proofs
theorem stops_loop {lines : List ByteArray} (h200 : ∀ s ∈ lines, s.size ≤ 200) (h25 : lines.length ≤ 25) (change : IK .u16) (b : List (IK .u8)) (cut : Nat) (hcut : cut < (fileN lines lines.length).length) : ∀ (n m : Nat), 400 + (lines.length - m) < n → m ≤ lines.length → (fileN lines m).length ≤ cut →
    ∃ k, k < lines.length ∧ (fileN lines k).length ≤ cut ∧ cut < (fileN lines (k + 1)).length ∧ flaw_GarageStops_l1 n lines change b (cut : Int) (m : Int) ((fileN lines m).length : Int) = some (.inl (lines, (change, (b, ((cut : Int), ((k : Int), (((fileN lines k).length : Int), ())))))))
  | 0, _, h, _, _ => absurd h (Nat.not_lt_zero _)
  | n + 1, m, h, hm, hle => by
    have hlt : m < lines.length := by
      rcases Nat.lt_or_ge m lines.length with h' | h'
      · exact h'
      · have : m = lines.length := by omega
        rw [this] at hle; omega
    rw [flaw_GarageStops_l1, show decide ((m : Int) < (lines.length : Int)) = true by simp; omega, cond_true, wN m (by omega), lstSub0 (by omega), Option.bind_some, list_eq (by rw [List.length_take]; omega), Option.bind_some]
    simp only
    rw [WriteN h200 (by omega) (by omega), Option.bind_some]
    simp only [bL_len]
    rw [show ((0 : Int) != 0) = false from rfl, cond_false]
    by_cases hc : cut < (fileN lines (m + 1)).length
    · rw [show decide ((((fileN lines (m + 1)).length : Nat) : Int) > (cut : Int)) = true by simp; omega, cond_true]
      exact ⟨m, hlt, hle, hc, rfl⟩
    · rw [show decide ((((fileN lines (m + 1)).length : Nat) : Int) > (cut : Int)) = false by simp; omega, cond_false]
      exact stops_loop h200 h25 change b cut hcut n (m + 1) (by omega) (by omega) (by omega)
theorem u16wid {x : Int} (h0 : 0 ≤ x) (h1 : x ≤ 65535) : IntKind.u16.wrap x = x := by
  simp [IntKind.wrap, IntKind.bits, IntKind.signed]; omega
theorem u8wrap (x : Int) : IntKind.u8.wrap x = x % 256 := by
  simp [IntKind.wrap, IntKind.bits, IntKind.signed]
theorem bL_get {l : List UInt8} {i : Nat} (h : i < l.length) : (bL l)[i]'(by rw [bL_len]; exact h) = ⟨(l[i].toNat : Int)⟩ := by simp [bL]
theorem bL_set (l : List UInt8) (i y : Nat) (hy : y < 256) : (bL l).set i ⟨(y : Int)⟩ = bL (l.set i (UInt8.ofNat y)) := by
  unfold bL
  rw [List.map_set]
  congr 2
  rw [ofN hy]
theorem stops_law {n : Nat} {lines : List ByteArray} {a c : Int} (hn : lines.length + 700 ≤ n) (hbig : lines.length ≤ 4000000000000000000) (ha : 0 ≤ a ∧ a ≤ 65535) (hc : 0 ≤ c ∧ c ≤ 65535) : flaw_GarageStops n lines ⟨a⟩ ⟨c⟩ = some (true, ()) := by
  unfold flaw_GarageStops
  rw [files_eq hbig (by omega), Option.bind_some]
  cases hf : filesL lines with
  | false =>
    simp only [Bool.not_false, cond_true]
    rw [wakes_n (by omega)]; rfl
  | true =>
    obtain ⟨h150, h0, h25⟩ := filesL_iff.1 hf
    have h200 : ∀ s ∈ lines, s.size ≤ 200 := fun s hs => Nat.le_trans (h150 s hs) (by decide)
    have hls := lsL_le h200
    have hW := WriteN (n := n) (k := lines.length) h200 (by omega) (by omega)
    rw [List.take_length] at hW
    simp only [Bool.not_true, cond_false]
    rw [list_eq (by omega), Option.bind_some, hW, Option.bind_some]
    simp only [bL_len]
    have hbe : fileN lines lines.length = fileL 0 (lsL lines) := by unfold fileN; rw [List.take_length]
    have hble := fileL_le (lsL lines) 0 hls
    rw [lsL_len, ← hbe] at hble
    have hb0 : 0 < (fileN lines lines.length).length := by
      have e : lines.length = (lines.length - 1) + 1 := by omega
      rw [e, fileN_succ (by omega), List.length_append, frm_len]
      omega
    generalize hb : fileN lines lines.length = b at *
    obtain ⟨u, rfl⟩ : ∃ u : Nat, a = u := ⟨a.toNat, by omega⟩
    obtain ⟨v, rfl⟩ : ∃ v : Nat, c = v := ⟨c.toNat, by omega⟩
    rw [show ((0 : Int) != 0) = false from rfl, Bool.not_false, cond_true, show decide (((b.length : Nat) : Int) = 0) = false from decide_eq_false (by omega), cond_false]
    have hrem : remQ (IntKind.i64.wrap ((u : Nat) : Int)) ((b.length : Nat) : Int) = some ((u % b.length : Nat) : Int) := by
      rw [pwid (by omega) (by omega)]
      obtain ⟨q, hq⟩ : ∃ q, b.length = q + 1 := ⟨b.length - 1, by omega⟩
      rw [hq]; rfl
    rw [hrem, Option.bind_some]
    have hcut : u % b.length < b.length := Nat.mod_lt _ hb0
    generalize u % b.length = cut at *
    obtain ⟨k, hk, k1, k2, k3⟩ := stops_loop h200 h25 (⟨(v : Int)⟩ : IK .u16) (bL b) cut (by rw [hb]; exact hcut) n 0 (by omega) (by omega) (by simp [fileN, lsL, fileL])
    rw [show ((fileN lines 0).length : Int) = 0 by simp [fileN, lsL, fileL], show ((0 : Nat) : Int) = 0 from rfl] at k3
    rw [k3, Option.bind_some]
    simp only [Sum.elim_inl]
    have hkl : k ≤ lines.length := by omega
    have c1 : (fileL 0 ((lsL lines).take k)).length ≤ cut := by rw [lsL_take]; exact k1
    have c2 : cut < (fileL 0 ((lsL lines).take (k + 1))).length := by rw [lsL_take]; exact k2
    have hr1 : Rd 50 0 (b.take cut) (lsL (lines.take k)) := by
      have := Rd.cut (ls := lsL lines) (n := k) (c := cut) (k := 50) hls (by rw [lsL_len]; omega) (by rw [lsL_len]; omega) c1 (fun _ => c2)
      rw [lsL_take, ← hbe] at this; exact this
    rw [lstSub0 (by rw [bL_len]; omega), Option.bind_some, bL_take, app_ok (a := []) (by simp [bL_len]; omega), Option.bind_some, List.nil_append]
    rw [recover_is (by rw [List.length_take]; omega) (by omega) hr1, Option.bind_some, lstSub0 (by omega), Option.bind_some, texts_eq (by rw [List.length_map, lsL_len, List.length_take]; omega) (by rw [List.length_map, lsL_len, List.length_take]; omega), Option.bind_some]
    simp only [lsL_mk, decide_true, Bool.not_true, Bool.not_false, cond_true]
    rw [← fileN_len, show ((((fileN lines k).length : Nat) : Int) != (((fileN lines k).length : Nat) : Int)) = false by simp, cond_false, app_ok (a := []) (by simp [bL_len]; omega), Option.bind_some, List.nil_append]
    have hcb : cut < (bL b).length := by rw [bL_len]; exact hcut
    have hget : (bL b)[cut] = ⟨(b[cut].toNat : Int)⟩ := bL_get hcut
    rw [idxN hcb, Option.bind_some, show ((cut : Nat) : Int).toNat = cut from rfl, getI hcb, Option.bind_some, hget]
    simp only [Option.bind_some]
    have h8 := b[cut].toNat_lt
    have htm : ((v : Nat) : Int).tmod 255 = ((v % 255 : Nat) : Int) := rfl
    have hy : IntKind.u8.wrap (((b[cut].toNat : Nat) : Int) + IntKind.u8.wrap (IntKind.u16.wrap (1 + ((v : Nat) : Int).tmod 255))) = (((b[cut].toNat + (1 + v % 255)) % 256 : Nat) : Int) := by
      rw [htm, u16wid (by omega) (by omega), u8wrap, u8wrap]; omega
    rw [hy, bL_set _ _ _ (by omega)]
    have hx : UInt8.ofNat ((b[cut].toNat + (1 + v % 255)) % 256) ≠ b[cut] := fun h => by
      have := congrArg UInt8.toNat h
      rw [ofN (by omega)] at this; omega
    generalize UInt8.ofNat ((b[cut].toNat + (1 + v % 255)) % 256) = x at *
    have hr2 : Rd 50 0 (b.set cut x) (lsL (lines.take k)) := by
      have hcl : cut < (fileL 0 (lsL lines)).length := by rw [← hbe]; exact hcut
      have hxe : x ≠ (fileL 0 (lsL lines))[cut] := by
        have : (fileL 0 (lsL lines))[cut] = b[cut] := by simp only [← hbe]
        rw [this]; exact hx
      have := Rd.bad (ls := lsL lines) (n := k) (c := cut) (k := 50) (x := x) hls (by rw [lsL_len]; omega) (by rw [lsL_len]; omega) c1 c2 hcl hxe
      rw [lsL_take, ← hbe] at this; exact this
    rw [recover_is (by rw [List.length_set]; omega) (by omega) hr2, Option.bind_some, texts_eq (by rw [List.length_map, lsL_len, List.length_take]; omega) (by rw [List.length_map, lsL_len, List.length_take]; omega), Option.bind_some]
    simp only [lsL_mk, decide_true, Bool.not_true, Bool.not_false, cond_true]
    rw [← fileN_len, show ((((fileN lines k).length : Nat) : Int) != (((fileN lines k).length : Nat) : Int)) = false by simp, cond_false]
    have hr3 : Rd 50 0 b (lsL lines) := by
      have := Rd.all (ls := lsL lines) (k := 50) hls (by rw [lsL_len]; omega)
      rw [← hbe] at this; exact this
    rw [recover_is (by omega) (by omega) hr3, Option.bind_some, texts_eq (by rw [List.length_map, lsL_len]; omega) (by rw [List.length_map, lsL_len]; omega), Option.bind_some]
    simp only [lsL_mk, decide_true, cond_true]
    have htb : tot (lsL lines) = b.length := by rw [hbe, fileL_tot]
    rw [htb, bL_len, decide_eq_true rfl, cond_true, wakes_n (by omega)]
    rfl
end Go.Proofs.YtkpgggfibljflaaGreatDoor
namespace Go.Proofs.YtkpgggfibljflaaGreatDoor
open Go Go.RowKit Go.Proofs
theorem fileN_lt {lines : List ByteArray} {k : Nat} (h : k < lines.length) : (fileN lines k).length < (fileN lines (k + 1)).length := by
  rw [fileN_succ h, List.length_append, frm_len]; omega
theorem fileN_split {lines : List ByteArray} {k : Nat} (h : k ≤ lines.length) : fileN lines lines.length = fileN lines k ++ fileL k (lsL (lines.drop k)) := by
  unfold fileN
  rw [List.take_length]
  conv => lhs; rw [← List.take_append_drop k lines, show lsL (lines.take k ++ lines.drop k) = lsL (lines.take k) ++ lsL (lines.drop k) by unfold lsL; rw [List.map_append], fileL_app, lsL_len, List.length_take, Nat.min_eq_left h, Nat.zero_add]
theorem drop_left' {α : Type} {a b : List α} {k : Nat} (h : a.length = k) : (a ++ b).drop k = b := by subst h; simp
theorem place_law {n : Nat} {lines : List ByteArray} {a : Int} (hn : lines.length + 700 ≤ n) (hbig : lines.length ≤ 4000000000000000000) (ha : 0 ≤ a ∧ a ≤ 255) : flaw_GaragePlace n lines ⟨a⟩ = some (true, ()) := by
  unfold flaw_GaragePlace
  rw [files_eq hbig (by omega), Option.bind_some]
  cases hf : filesL lines with
  | false =>
    simp only [Bool.not_false, Bool.not_true, cond_false]
    rw [wakes_n (by omega)]; rfl
  | true =>
    obtain ⟨h150, h0, h25⟩ := filesL_iff.1 hf
    have h200 : ∀ s ∈ lines, s.size ≤ 200 := fun s hs => Nat.le_trans (h150 s hs) (by decide)
    have hls := lsL_le h200
    simp only [Bool.not_true, Bool.not_false, cond_true]
    by_cases h2 : lines.length < 2
    · rw [show decide ((lines.length : Int) < 2) = true by simp; omega, cond_true, wakes_n (by omega)]; rfl
    · rw [show decide ((lines.length : Int) < 2) = false by simp; omega, cond_false]
      obtain ⟨u, rfl⟩ : ∃ u : Nat, a = u := ⟨a.toNat, by omega⟩
      have hrem : remQ (IntKind.i64.wrap ((u : Nat) : Int)) (IntKind.i64.wrap ((lines.length : Int) - 1)) = some ((u % (lines.length - 1) : Nat) : Int) := by
        rw [pwid (x := ((u : Nat) : Int)) (by omega) (by omega), pwid (by omega) (by omega)]
        obtain ⟨q, hq⟩ : ∃ q, lines.length = q + 2 := ⟨lines.length - 2, by omega⟩
        rw [hq, show ((q + 2 : Nat) : Int) - 1 = ((q + 1 : Nat) : Int) by omega, show q + 2 - 1 = q + 1 by omega]; rfl
      rw [hrem, Option.bind_some]
      have hk : u % (lines.length - 1) < lines.length - 1 := Nat.mod_lt _ (by omega)
      generalize u % (lines.length - 1) = k at *
      have W0 := WriteN (n := n) (k := k) h200 (by omega) (by omega)
      have W1 := WriteN (n := n) (k := k + 1) h200 (by omega) (by omega)
      have W2 := WriteN (n := n) (k := k + 2) h200 (by omega) (by omega)
      have W3 := WriteN (n := n) (k := lines.length) h200 (by omega) (by omega)
      rw [List.take_length] at W3
      rw [lstSub0 (by omega), Option.bind_some, list_eq (by rw [List.length_take]; omega), Option.bind_some]
      simp only
      rw [W0, Option.bind_some, wN k (by omega), lstSub0 (by omega), Option.bind_some, list_eq (by rw [List.length_take]; omega), Option.bind_some]
      simp only
      rw [W1, Option.bind_some, show IntKind.i64.wrap ((k : Int) + 2) = ((k + 2 : Nat) : Int) by rw [pwid (by omega) (by omega)]; rfl, lstSub0 (by omega), Option.bind_some, list_eq (by rw [List.length_take]; omega), Option.bind_some]
      simp only
      rw [W2, Option.bind_some, list_eq (by omega), Option.bind_some]
      simp only
      rw [W3, Option.bind_some]
      simp only [bL_len]
      have l1 : (fileN lines k).length < (fileN lines (k + 1)).length := fileN_lt (by omega)
      have l2 : (fileN lines (k + 1)).length < (fileN lines (k + 2)).length := fileN_lt (by omega)
      have hs2 := fileN_split (lines := lines) (k := k + 2) (by omega)
      have l3 : (fileN lines (k + 2)).length ≤ (fileN lines lines.length).length := by rw [hs2, List.length_append]; omega
      have hbe : fileN lines lines.length = fileL 0 (lsL lines) := by unfold fileN; rw [List.take_length]
      have hble := fileL_le (lsL lines) 0 hls
      rw [lsL_len, ← hbe] at hble
      rw [show ((0 : Int) != 0) = false from rfl, Bool.not_false, cond_true, cond_true, cond_true, cond_true, show decide ((((fileN lines k).length : Nat) : Int) ≥ (((fileN lines (k + 1)).length : Nat) : Int)) = false from decide_eq_false (by omega), Bool.not_false, cond_true, show decide ((((fileN lines (k + 1)).length : Nat) : Int) ≥ (((fileN lines (k + 2)).length : Nat) : Int)) = false from decide_eq_false (by omega), Bool.not_false, cond_true, show decide ((((fileN lines (k + 2)).length : Nat) : Int) > (((fileN lines lines.length).length : Nat) : Int)) = false from decide_eq_false (by omega), cond_false]
      have e1 : fileN lines (k + 1) = fileN lines k ++ frm lines[k].data.toList k := fileN_succ (by omega)
      have e2 : fileN lines (k + 2) = fileN lines (k + 1) ++ frm lines[k + 1].data.toList (k + 1) := fileN_succ (by omega)
      have s2 := lstSub_ok (l := bL (fileN lines (k + 2))) (a := (fileN lines (k + 1)).length) (b := (fileN lines (k + 2)).length) (by omega) (by rw [bL_len]; omega)
      have s1 := lstSub_ok (l := bL (fileN lines (k + 1))) (a := (fileN lines k).length) (b := (fileN lines (k + 1)).length) (by omega) (by rw [bL_len]; omega)
      have s3 := lstSub_ok (l := bL (fileN lines lines.length)) (a := (fileN lines (k + 2)).length) (b := (fileN lines lines.length).length) (by omega) (by rw [bL_len]; omega)
      have s4 := lstSub_ok (l := bL (fileN lines lines.length)) (a := (fileN lines (k + 1)).length) (b := (fileN lines lines.length).length) (by omega) (by rw [bL_len]; omega)
      have tk : ∀ (x : List UInt8) (p q : Nat), q = x.length → ((bL x).drop p).take (q - p) = bL (x.drop p) := fun x p q hq => by
        rw [bL_drop, bL_take, List.take_of_length_le (by rw [List.length_drop]; omega)]
      rw [tk _ _ _ rfl] at s1 s2 s3 s4
      have d2 : (fileN lines (k + 2)).drop (fileN lines (k + 1)).length = frm lines[k + 1].data.toList (k + 1) := by rw [e2]; exact drop_left' rfl
      have d1 : (fileN lines (k + 1)).drop (fileN lines k).length = frm lines[k].data.toList k := by rw [e1]; exact drop_left' rfl
      have hd4 : (fileN lines lines.length).drop (fileN lines (k + 1)).length = frm lines[k + 1].data.toList (k + 1) ++ fileL (k + 2) (lsL (lines.drop (k + 2))) := by
        rw [hs2, e2, List.append_assoc]; exact drop_left' rfl
      rw [d2] at s2; rw [d1] at s1
      rw [hd4] at s4
      have hl0 : (fileN lines k).length ≤ 10000 := by omega
      have f1 : (frm lines[k].data.toList k).length ≤ 216 := frm_le _ _ (hls _ (List.mem_map.2 ⟨_, List.getElem_mem (by omega), rfl⟩))
      have hl1 : lines[k + 1].data.toList.length ≤ 200 := hls _ (List.mem_map.2 ⟨lines[k + 1], List.getElem_mem (by omega), rfl⟩)
      have f2 : (frm lines[k + 1].data.toList (k + 1)).length ≤ 216 := frm_le _ _ hl1
      have hd3 : ((fileN lines lines.length).drop (fileN lines (k + 2)).length).length ≤ 10000 := by rw [List.length_drop]; omega
      have hkl : ∀ l ∈ lsL (lines.take k), l.length ≤ 200 := lsL_le fun s hs => h200 s (List.mem_of_mem_take hs)
      have hkn : (lsL (lines.take k)).length = k := by rw [lsL_len, List.length_take]; omega
      have R : ∀ b : List UInt8, Rd 50 0 (fileN lines k ++ (frm lines[k + 1].data.toList (k + 1) ++ b)) (lsL (lines.take k)) := fun b => by
        have := Rd.place (ls := lsL (lines.take k)) (k := 50) (l := lines[k + 1].data.toList) (b := b) hkl (by rw [hkn]; omega) hl1
        rw [hkn] at this; exact this
      rw [app_ok (a := []) (by simp [bL_len]; omega), Option.bind_some, List.nil_append, s2, Option.bind_some, app_ok (by rw [bL_len, bL_len]; omega), Option.bind_some, s1, Option.bind_some, app_ok (by rw [List.length_append, bL_len, bL_len, bL_len]; omega), Option.bind_some, s3, Option.bind_some, app_ok (by rw [List.length_append, List.length_append, bL_len, bL_len, bL_len, bL_len]; omega), Option.bind_some]
      rw [← bL_app, ← bL_app, ← bL_app, List.append_assoc, List.append_assoc]
      rw [recover_is (by simp only [List.length_append]; omega) (by omega) (R _), Option.bind_some, Option.bind_some, texts_eq (by rw [List.length_map, lsL_len, List.length_take]; omega) (by rw [List.length_map, lsL_len, List.length_take]; omega), Option.bind_some]
      simp only [lsL_mk, decide_true, Bool.not_true, Bool.not_false, cond_true]
      rw [← fileN_len, show ((((fileN lines k).length : Nat) : Int) != (((fileN lines k).length : Nat) : Int)) = false by simp, cond_false]
      have hl5 : (frm lines[k + 1].data.toList (k + 1) ++ fileL (k + 2) (lsL (lines.drop (k + 2)))).length ≤ 10000 := by
        rw [← hd4, List.length_drop]; omega
      rw [Option.bind_some, s4, Option.bind_some, app_ok (by rw [bL_len, bL_len]; omega), Option.bind_some, ← bL_app]
      rw [recover_is (by rw [List.length_append]; omega) (by omega) (R _), Option.bind_some, Option.bind_some, texts_eq (by rw [List.length_map, lsL_len, List.length_take]; omega) (by rw [List.length_map, lsL_len, List.length_take]; omega), Option.bind_some]
      simp only [lsL_mk, decide_true, cond_true]
      rw [← fileN_len, decide_eq_true rfl, cond_true, wakes_n (by omega)]
      rfl
end Go.Proofs.YtkpgggfibljflaaGreatDoor
namespace Go.Proofs.YtkpgggfibljflaaGreatDoor
open Go Go.RowKit Go.Proofs
theorem strAt_mk {l : List UInt8} {i : Nat} (h : i < l.length) : strAt (mkB l) (i : Int) = some ⟨(l[i].toNat : Int)⟩ := by
  show (if h : i < (mkB l).size then some (⟨((mkB l)[i]'h).toNat⟩ : IK .u8) else none) = _
  rw [dif_pos (by rw [mkB_size]; exact h)]
  rfl
theorem refDigits_loop (many : Nat) (hm : many ≤ 1000) : ∀ (n i u : Nat) (s : List UInt8), many - i < n → i ≤ many → u ≤ 1000000000 → s.length ≤ 2000 - (many - i) → fref_Digits_l1 n (u : Int) (many : Int) (mkB s) (i : Int) = some (mkB (dg (many - i) u ++ s), ())
  | 0, _, _, _, h, _, _, _ => absurd h (Nat.not_lt_zero _)
  | n + 1, i, u, s, h, hi, hu, hs => by
    rw [fref_Digits_l1]
    by_cases hx : i < many
    · have e : IntKind.u8.wrap (IntKind.i64.wrap (48 + ((u : Nat) : Int).tmod 10)) = ((48 + u % 10 : Nat) : Int) := by
        have : ((u : Nat) : Int).tmod 10 = ((u % 10 : Nat) : Int) := rfl
        rw [this, pwid (by omega) (by omega), u8wid (by omega) (by omega)]; omega
      have e2 : IntKind.i64.wrap (((u : Nat) : Int).tdiv 10) = ((u / 10 : Nat) : Int) := by
        have : ((u : Nat) : Int).tdiv 10 = ((u / 10 : Nat) : Int) := rfl
        rw [this, pwid (by omega) (by omega)]
      have e3 : strI [IK.mk (((48 + u % 10 : Nat) : Int))] = mkB [UInt8.ofNat (48 + u % 10)] := rfl
      rw [show decide ((i : Int) < (many : Int)) = true by simp; omega, cond_true, e, e2, e3, strAdd_mk (by simp; omega), Option.bind_some, wN i (by omega)]
      rw [refDigits_loop many hm n (i + 1) (u / 10) _ (by omega) (by omega) (by omega) (by simp; omega)]
      obtain ⟨k, hk⟩ : ∃ k, many - i = k + 1 := ⟨many - i - 1, by omega⟩
      rw [hk, show many - (i + 1) = k by omega, dg]
      simp
    · have : many - i = 0 := by omega
      rw [show decide ((i : Int) < (many : Int)) = false by simp; omega, this]
      rfl
theorem refDigits_eq {n u many : Nat} (hm : many ≤ 5) (hu : u ≤ 1000000000) (hn : many < n) : fref_Digits n (u : Int) (many : Int) = some (mkB (dg many u), ()) := by
  unfold fref_Digits
  have h := refDigits_loop many (by omega) n 0 u [] (by omega) (by omega) hu (by simp)
  rw [show ((0 : Nat) : Int) = 0 from rfl, List.append_nil, Nat.sub_zero] at h
  rw [show B [] = mkB [] from rfl, h]; rfl
theorem refCheck_loop (full : List UInt8) (hf : full.length ≤ 1000) : ∀ (n i c : Nat), full.length - i < n → i ≤ full.length → c ≤ 1000000000 + i * 256000 → fref_Check_l1 n (mkB full) (c : Int) (i : Int) = some (((c + sumL i (full.drop i) : Nat) : Int), ())
  | 0, _, _, h, _, _ => absurd h (Nat.not_lt_zero _)
  | n + 1, i, c, h, hi, hc => by
    rw [fref_Check_l1, mkB_size]
    by_cases hx : i < full.length
    · have hd : full.drop i = full[i] :: full.drop (i + 1) := List.drop_eq_getElem_cons hx
      rw [show decide ((i : Int) < (full.length : Int)) = true by simp; omega, cond_true, strAt_mk hx, Option.bind_some, hd]
      have h8 := full[i].toNat_lt
      have hle : (i + 1) * (full[i].toNat + 1) ≤ 1000 * 256 := Nat.mul_le_mul (by omega) (by omega)
      have hw : IntKind.i64.wrap ((c : Int) + IntKind.i64.wrap (IntKind.i64.wrap ((i : Int) + 1) * IntKind.i64.wrap (IntKind.i64.wrap ((full[i].toNat : Nat) : Int) + 1))) = ((c + (i + 1) * (full[i].toNat + 1) : Nat) : Int) := by
        rw [wN i (by omega), pwid (x := ((full[i].toNat : Nat) : Int)) (by omega) (by omega), wN (full[i].toNat) (by omega)]
        rw [show ((i + 1 : Nat) : Int) * ((full[i].toNat + 1 : Nat) : Int) = (((i + 1) * (full[i].toNat + 1) : Nat) : Int) by push_cast; rfl]
        generalize (i + 1) * (full[i].toNat + 1) = q at *
        rw [pwid (x := ((q : Nat) : Int)) (by omega) (by omega), pwid (by omega) (by omega)]
        omega
      rw [hw, wN i (by omega), refCheck_loop full hf n (i + 1) _ (by omega) (by omega) (by omega)]
      simp only [sumL]
      rw [Nat.add_assoc]
    · have hd : full.drop i = [] := by simp; omega
      rw [show decide ((i : Int) < (full.length : Int)) = false by simp; omega, hd]
      simp [sumL]
theorem refCheck_eq {n i : Nat} {l : List UInt8} (hl : l.length ≤ 900) (hi : i ≤ 1000) (hn : l.length < n) : fref_Check n (mkB l) (i : Int) = some (((chk l i : Nat) : Int), ()) := by
  unfold fref_Check
  have h7 : IntKind.i64.wrap (7 * IntKind.i64.wrap ((i : Int) + 1)) = ((7 * (i + 1) : Nat) : Int) := by
    rw [wN i (by omega), pwid (by omega) (by omega)]; push_cast; rfl
  have h := refCheck_loop l (by omega) n 0 (7 * (i + 1)) (by omega) (by omega) (by omega)
  rw [show ((0 : Nat) : Int) = 0 from rfl, List.drop_zero] at h
  rw [h7, h, Option.bind_some]
  rfl
theorem framed_eq {n i : Nat} {l : List UInt8} (hl : l.length ≤ 900) (hi : i ≤ 1000) (hn : l.length + 5 < n) : fref_Framed n (mkB l) (i : Int) = some (mkB (frm l i), ()) := by
  unfold fref_Framed
  have d1 := refDigits_eq (n := n) (u := l.length) (many := 3) (by decide) (by omega) (by omega)
  have d2 := refDigits_eq (n := n) (u := 999 - l.length) (many := 3) (by decide) (by omega) (by omega)
  have d3 := refDigits_eq (n := n) (u := chk l i) (many := 5) (by decide) (by have := chk_lt l i; omega) (by omega)
  rw [show ((3 : Nat) : Int) = 3 from rfl] at d1 d2
  rw [show ((5 : Nat) : Int) = 5 from rfl] at d3
  have w2 : IntKind.i64.wrap (999 - (l.length : Int)) = ((999 - l.length : Nat) : Int) := by rw [pwid (by omega) (by omega)]; omega
  simp only [mkB_size]
  rw [show decide ((l.length : Int) > 999) = false by simp; omega, cond_false, w2, d1, refCheck_eq hl hi (by omega)]
  simp only [Option.bind_some]
  rw [show B [91] = mkB [91] from rfl, show B [47] = mkB [47] from rfl, show B [93] = mkB [93] from rfl, show B [10] = mkB [10] from rfl]
  rw [strAdd_mk (by simp [dg_len])]
  simp only [Option.bind_some]
  rw [strAdd_mk (by simp [dg_len])]
  simp only [Option.bind_some]
  rw [d2]
  simp only [Option.bind_some]
  rw [strAdd_mk (by simp [dg_len])]
  simp only [Option.bind_some]
  rw [strAdd_mk (by simp [dg_len])]
  simp only [Option.bind_some]
  rw [d3]
  simp only [Option.bind_some]
  rw [strAdd_mk (by simp [dg_len])]
  simp only [Option.bind_some]
  rw [strAdd_mk (by simp [dg_len])]
  simp only [Option.bind_some]
  rw [strAdd_mk (by simp [dg_len]; omega)]
  simp only [Option.bind_some]
  rw [strAdd_mk (by simp [dg_len]; omega)]
  simp only [Option.bind_some]
  unfold frm
  simp
theorem refFile_loop (lines : List ByteArray) (hs : ∀ s ∈ lines, s.size ≤ 200) (hl : lines.length ≤ 1000) : ∀ (n i : Nat), 210 + (lines.length - i) < n → i ≤ lines.length → fref_File_l1 n lines (mkB (fileL 0 ((lsL lines).take i))) (i : Int) = some (mkB (fileL 0 (lsL lines)), ())
  | 0, _, h, _ => absurd h (Nat.not_lt_zero _)
  | n + 1, i, h, hi => by
    rw [fref_File_l1]
    by_cases hx : i < lines.length
    · rw [show decide ((i : Int) < (lines.length : Int)) = true by simp; omega, cond_true, idxN hx, Option.bind_some]
      have hsz : lines[i].data.toList.length ≤ 200 := by rw [← size_toList]; exact hs _ (List.getElem_mem hx)
      have hr := framed_eq (n := n) (i := i) (l := lines[i].data.toList) (by omega) (by omega) (by omega)
      rw [toL_mk] at hr
      rw [hr]
      simp only [Option.bind_some]
      have hls := lsL_le hs
      have hb := fileL_le ((lsL lines).take i) 0 fun l hl => hls l (List.mem_of_mem_take hl)
      have hti : ((lsL lines).take i).length = i := by rw [List.length_take, lsL_len]; omega
      rw [strAdd_mk (by rw [frm_len]; rw [hti] at hb; omega), Option.bind_some, wN i (by omega)]
      have hst : fileL 0 ((lsL lines).take i) ++ frm lines[i].data.toList i = fileL 0 ((lsL lines).take (i + 1)) := by
        rw [List.take_succ_eq_append_getElem (by rw [lsL_len]; exact hx), fileL_app, hti]
        simp [fileL, lsL]
      rw [hst]
      exact refFile_loop lines hs hl n (i + 1) (by omega) (by omega)
    · have : i = lines.length := by omega
      subst this
      rw [show decide ((lines.length : Int) < (lines.length : Int)) = false by simp, cond_false, List.take_of_length_le (by rw [lsL_len]; omega)]
theorem refFile_eq {n : Nat} {lines : List ByteArray} (hs : ∀ s ∈ lines, s.size ≤ 200) (hl : lines.length ≤ 1000) (hn : 210 + lines.length < n) : fref_File n lines = some (mkB (fileL 0 (lsL lines)), ()) := by
  unfold fref_File
  have h := refFile_loop lines hs hl n 0 (by omega) (by omega)
  rw [show ((0 : Nat) : Int) = 0 from rfl] at h
  simp only [List.take_zero, fileL] at h
  rw [show B [] = mkB [] from rfl, h]
  rfl
theorem refLen_loop (b : List UInt8) (out : List ByteArray) (at_ : Nat) (ha : at_ + 4 ≤ b.length) (hb : b.length ≤ 1000000) : ∀ (n j a : Nat), 3 - j < n → j ≤ 3 → a < 10 ^ j → fref_Recover_l2 n (mkB b) out (at_ : Int) (a : Int) ((at_ + 1 + j : Nat) : Int) = some (match valO a ((b.drop (at_ + 1 + j)).take (3 - j)) with | some v => .inl (mkB b, (out, ((at_ : Int), ((v : Int), ())))) | none => .inr (out, ((at_ : Int), ())))
  | 0, _, _, h, _, _ => absurd h (Nat.not_lt_zero _)
  | n + 1, j, a, h, hj, ha2 => by
    rw [fref_Recover_l2]
    have e1 : IntKind.i64.wrap ((at_ : Int) + 3) = ((at_ + 3 : Nat) : Int) := by rw [pwid (by omega) (by omega)]; omega
    rw [e1]
    by_cases hx : j < 3
    · have hlt : at_ + 1 + j < b.length := by omega
      have hd : b.drop (at_ + 1 + j) = b[at_ + 1 + j] :: b.drop (at_ + 1 + j + 1) := List.drop_eq_getElem_cons hlt
      obtain ⟨k, hk⟩ : ∃ k, 3 - j = k + 1 := ⟨2 - j, by omega⟩
      rw [show decide (((at_ + 1 + j : Nat) : Int) ≤ ((at_ + 3 : Nat) : Int)) = true by simp; omega, cond_true, strAt_mk hlt, Option.bind_some, hd, hk, List.take_succ_cons]
      simp only [valO, isD, Option.bind_some]
      have h3 : 10 ^ j ≤ 10 ^ 3 := Nat.pow_le_pow_right (by decide) (by omega)
      have h8 := b[at_ + 1 + j].toNat_lt
      by_cases h48 : b[at_ + 1 + j].toNat < 48
      · rw [show decide (((b[at_ + 1 + j].toNat : Nat) : Int) < 48) = true by simp; omega, show decide (48 ≤ b[at_ + 1 + j].toNat) = false by simp; omega]
        rfl
      · rw [show decide (((b[at_ + 1 + j].toNat : Nat) : Int) < 48) = false by simp; omega, show decide (48 ≤ b[at_ + 1 + j].toNat) = true by simp; omega]
        by_cases h57 : b[at_ + 1 + j].toNat ≤ 57
        · rw [show decide (((b[at_ + 1 + j].toNat : Nat) : Int) > 57) = false by simp; omega, decide_eq_true h57]
          simp only [Bool.not_false, cond_true, cond_false, Bool.and_self]
          have e1 : IntKind.i64.wrap (IntKind.i64.wrap (10 * (a : Int)) + IntKind.i64.wrap (IntKind.u8.wrap (((b[at_ + 1 + j].toNat : Nat) : Int) - 48))) = ((10 * a + (b[at_ + 1 + j].toNat - 48) : Nat) : Int) := by
            rw [u8wid (by omega) (by omega), pwid (x := 10 * (a : Int)) (by omega) (by omega), pwid (x := ((b[at_ + 1 + j].toNat : Nat) : Int) - 48) (by omega) (by omega), pwid (by omega) (by omega)]
            omega
          rw [e1, wN _ (by omega)]
          have := refLen_loop b out at_ ha hb n (j + 1) (10 * a + (b[at_ + 1 + j].toNat - 48)) (by omega) (by omega) (by rw [Nat.pow_succ]; omega)
          rw [show at_ + 1 + (j + 1) = at_ + 1 + j + 1 by omega, show 3 - (j + 1) = k by omega] at this
          exact this
        · rw [show decide (((b[at_ + 1 + j].toNat : Nat) : Int) > 57) = true by simp; omega, decide_eq_false h57]
          rfl
    · have hj3 : j = 3 := by omega
      subst hj3
      rw [show decide (((at_ + 1 + 3 : Nat) : Int) ≤ ((at_ + 3 : Nat) : Int)) = false by simp; omega]
      simp [valO]
def extF {A : Type} : ((List ByteArray × Int × A) ⊕ (List ByteArray × Int × A)) → Option (List ByteArray × Int × Unit)
  | .inl v1 => some (v1.fst, (v1.snd.fst, ()))
  | .inr v1 => some (v1.fst, (v1.snd.fst, ()))
theorem strSub_mk {l : List UInt8} {a b : Nat} (h : a ≤ b) (h2 : b ≤ l.length) : strSub (mkB l) (a : Int) (b : Int) = some (mkB ((l.drop a).take (b - a))) := by
  unfold strSub
  rw [if_pos ⟨by omega, by omega, by rw [mkB_size]; omega⟩]
  congr 1
  have e : ∀ s : ByteArray, s = mkB s.data.toList := fun s => (mkB_data s).symm
  rw [e ((mkB l).extract _ _)]
  congr 1
  rw [ByteArray.data_extract]
  simp [mkB]
theorem ref_one (b : List UInt8) (hb : b.length ≤ 1000000) (k idx at_ : Nat) (ys : List ByteArray) (n : Nat) (hy : ys.length = idx) (hk : idx + k = 50) (ha : at_ ≤ b.length) (hn : 300 + k < n) :
    ((0 < k → ∀ l, ¬ Fits idx (b.drop at_) l) ∧ (fref_Recover_l1 n (mkB b) ys (at_ : Int)).bind extF = some (ys ++ List.map mkB [], (((at_ + tot [] : Nat) : Int), ()))) ∨
    (∃ l, Fits idx (b.drop at_) l ∧ 0 < k ∧ ∃ n', 300 + k ≤ n' ∧ (fref_Recover_l1 n (mkB b) ys (at_ : Int)).bind extF = (fref_Recover_l1 n' (mkB b) (ys ++ [mkB l]) ((at_ + 16 + l.length : Nat) : Int)).bind extF) := by
  obtain ⟨n, rfl⟩ : ∃ m, n = m + 1 := ⟨n - 1, by omega⟩
  have hc : (b.drop at_).length = b.length - at_ := List.length_drop ..
  rw [fref_Recover_l1]
  by_cases h50 : idx = 50
  · rw [show decide ((ys.length : Int) < 50) = false by simp; omega, cond_false]
    left
    exact ⟨fun h => by omega, by simp [extF, tot]⟩
  rw [show decide ((ys.length : Int) < 50) = true by simp; omega, cond_true, mkB_size]
  have e1 : IntKind.i64.wrap ((at_ : Int) + 1) = ((at_ + 1 + 0 : Nat) : Int) := wN _ (by omega)
  have e4 : IntKind.i64.wrap ((at_ : Int) + 16) = ((at_ + 16 : Nat) : Int) := by rw [pwid (by omega) (by omega)]; omega
  rw [e1, e4]
  by_cases h16 : 16 ≤ (b.drop at_).length
  · rw [show decide (((at_ + 16 : Nat) : Int) ≤ ((b.length : Nat) : Int)) = true by simp; omega, cond_true]
    have hloop := refLen_loop b ys at_ (by omega) hb n 0 0 (by omega) (by omega) (by decide)
    rw [show ((0 : Nat) : Int) = 0 from rfl, Nat.sub_zero] at hloop
    rw [hloop, Option.bind_some, Nat.add_zero, ← List.drop_drop]
    have ht3 : (((b.drop at_).drop 1).take 3).length = 3 := by rw [List.length_take, List.length_drop]; omega
    cases hv : valO 0 (((b.drop at_).drop 1).take 3) with
    | none =>
      left
      refine ⟨fun _ l hf => ?_, by simp [extF, tot]⟩
      rw [fits_A hf, valO_dg (by have := hf.1; omega)] at hv; cases hv
    | some m =>
      obtain ⟨hm, hdg⟩ := dg_valO ht3 hv
      have hfm : ∀ l, Fits idx (b.drop at_) l → l.length = m := fun l hf => by
        have := fits_A hf
        rw [hdg] at this
        exact (dg_inj 3 (by omega) (by have := hf.1; omega) this).symm
      simp only [Sum.elim_inl, mkB_size]
      have e3 : IntKind.i64.wrap ((at_ : Int) + 15) = ((at_ + 15 : Nat) : Int) := by rw [pwid (by omega) (by omega)]; omega
      have e4 : IntKind.i64.wrap ((at_ : Int) + 16) = ((at_ + 16 : Nat) : Int) := by rw [pwid (by omega) (by omega)]; omega
      rw [e3, e4]
      by_cases h200 : m ≤ 200
      · rw [show decide ((m : Int) > 200) = false by simp; omega]
        simp only [Bool.not_false, cond_true]
        have e7 : IntKind.i64.wrap (((at_ + 16 : Nat) : Int) + (m : Int)) = ((at_ + (16 + m) : Nat) : Int) := by rw [pwid (by omega) (by omega)]; omega
        have e8 : IntKind.i64.wrap (((at_ + 15 : Nat) : Int) + (m : Int)) = ((at_ + (15 + m) : Nat) : Int) := by rw [pwid (by omega) (by omega)]; omega
        rw [e7, e8]
        by_cases hlen : 16 + m ≤ (b.drop at_).length
        · have hsub : ∀ x y : Nat, x ≤ y → at_ + y ≤ b.length → strSub (mkB b) ((at_ + x : Nat) : Int) ((at_ + y : Nat) : Int) = some (mkB (((b.drop at_).drop x).take (y - x))) := fun x y hxy hyb => by
            rw [strSub_mk (by omega) (by omega), List.drop_drop, show at_ + y - (at_ + x) = y - x by omega]
          rw [show decide (((at_ + (16 + m) : Nat) : Int) > ((b.length : Nat) : Int)) = false by simp; omega, cond_false, hsub 15 (15 + m) (by omega) (by omega), Option.bind_some, show 15 + m - 15 = m by omega]
          have hlm : (((b.drop at_).drop 15).take m).length = m := by rw [List.length_take, List.length_drop]; omega
          generalize hl : ((b.drop at_).drop 15).take m = l at *
          have hfr := framed_eq (n := n) (i := ys.length) (l := l) (by omega) (by omega) (by omega)
          rw [hfr, Option.bind_some, hy]
          have h0m := hsub 0 (16 + m) (by omega) (by omega)
          rw [Nat.add_zero, List.drop_zero, Nat.sub_zero] at h0m
          rw [h0m, Option.bind_some, beq_mk]
          by_cases heq : frm l idx = (b.drop at_).take (16 + m)
          · have hfit : Fits idx (b.drop at_) l := ⟨by omega, by rw [heq]; exact List.take_prefix _ _⟩
            rw [decide_eq_true heq]
            simp only [Bool.not_true, Bool.not_false, cond_false]
            rw [app_ok (by simp; omega), Option.bind_some]
            right
            refine ⟨l, hfit, by omega, n, by omega, ?_⟩
            rw [hlm, show at_ + (16 + m) = at_ + 16 + m by omega]
          · rw [decide_eq_false heq]
            simp only [Bool.not_false, Bool.not_true, cond_true]
            left
            refine ⟨fun _ l' hf => heq ?_, by simp [extF, tot]⟩
            have h1 := hfm l' hf
            have h2 := fits_L hf
            rw [h1, hl] at h2
            rw [h2]
            obtain ⟨_, tl, htl⟩ := hf
            rw [← htl, List.take_append_of_le_length (by rw [frm_len]; omega), List.take_of_length_le (by rw [frm_len]; omega)]
        · rw [show decide (((at_ + (16 + m) : Nat) : Int) > ((b.length : Nat) : Int)) = true by simp; omega, cond_true]
          left
          refine ⟨fun _ l hf => hlen ?_, by simp [extF, tot]⟩
          have h1 := hf.2.length_le
          rw [frm_len, hfm l hf] at h1
          exact h1
      · rw [show decide ((m : Int) > 200) = true by simp; omega]
        simp only [Bool.not_false, Bool.not_true, cond_false]
        left
        refine ⟨fun _ l hf => h200 ?_, by simp [extF, tot]⟩
        have := hf.1
        rw [hfm l hf] at this; exact this
  · rw [show decide (((at_ + 16 : Nat) : Int) ≤ ((b.length : Nat) : Int)) = false by simp; omega, cond_false]
    left
    refine ⟨fun _ l hf => h16 ?_, by simp [extF, tot]⟩
    have h1 := hf.2.length_le
    rw [frm_len] at h1
    omega
theorem ref_l1 (b : List UInt8) (hb : b.length ≤ 1000000) : ∀ (k idx at_ : Nat) (ys : List ByteArray) (n : Nat), ys.length = idx → idx + k = 50 → at_ ≤ b.length → 300 + k < n → ∃ r, Rd k idx (b.drop at_) r ∧ (fref_Recover_l1 n (mkB b) ys (at_ : Int)).bind extF = some (ys ++ r.map mkB, (((at_ + tot r : Nat) : Int), ())) := by
  intro k
  induction k with
  | zero =>
    intro idx at_ ys n hy hk ha hn
    exact ⟨[], .full _ _, ref_one b hb 0 idx at_ ys n hy hk ha hn |>.elim (fun h => h.2) (fun h => by obtain ⟨l, _, h0, _⟩ := h; omega)⟩
  | succ k ih =>
    intro idx at_ ys n hy hk ha hn
    rcases ref_one b hb (k + 1) idx at_ ys n hy hk ha hn with ⟨h1, h2⟩ | ⟨l, hf, _, n', hn', h2⟩
    · exact ⟨[], stopRd (h1 (by omega)), h2⟩
    · have hl := hf.1
      have hle := hf.2.length_le
      rw [frm_len, List.length_drop] at hle
      obtain ⟨r, q1, q2⟩ := ih (idx + 1) (at_ + 16 + l.length) (ys ++ [mkB l]) n' (by simp [hy]) (by omega) (by omega) (by omega)
      refine ⟨l :: r, .more hf ?_, ?_⟩
      · rw [List.drop_drop, show at_ + (16 + l.length) = at_ + 16 + l.length by omega]; exact q1
      · rw [h2, q2]
        simp only [List.map_cons, tot, List.append_assoc, List.singleton_append]
        rw [show at_ + 16 + l.length + tot r = at_ + (16 + l.length + tot r) by omega]
theorem refRecover_is {n : Nat} {b : List UInt8} {r : List (List UInt8)} (hb : b.length ≤ 1000000) (hn : 350 < n) (hr : Rd 50 0 b r) : fref_Recover n (mkB b) = some (r.map mkB, (((tot r : Nat) : Int), ())) := by
  obtain ⟨r', h1, h2⟩ := ref_l1 b hb 50 0 0 [] n rfl rfl (by omega) (by omega)
  rw [List.drop_zero] at h1
  rw [hr.one h1]
  rw [show ((0 : Nat) : Int) = 0 from rfl, Nat.zero_add, List.nil_append] at h2
  rw [← h2]
  unfold fref_Recover
  congr 1
  funext v0
  rcases v0 with v1 | v1 <;> rfl
theorem Rd.le : ∀ {k i : Nat} {b : List UInt8} {r : List (List UInt8)}, Rd k i b r → r.length ≤ k
  | _, _, _, _, .full _ _ => by simp
  | _, _, _, _, .stop _ => by simp
  | _, _, _, _, .more _ h => by have := h.le; simp; omega
theorem writes_loop {lines : List ByteArray} (hbig : lines.length ≤ 4000000000000000000) (b : List (IK .u8)) {n : Nat} (hn : lines.length < n) : ∃ z : Int, flaw_GarageWrites_l1 n lines b 0 0 = some (lines, (b, (z, ()))) := by
  suffices H : ∀ (n i : Nat) (z : Int), lines.length - i < n → i ≤ lines.length → ∃ z', flaw_GarageWrites_l1 n lines b z (i : Int) = some (lines, (b, (z', ()))) from H n 0 0 (by omega) (by omega)
  intro n
  induction n with
  | zero => intro i z h; exact absurd h (Nat.not_lt_zero _)
  | succ n ih =>
    intro i z h hi
    rw [flaw_GarageWrites_l1]
    by_cases hx : i < lines.length
    · rw [show decide ((i : Int) < (lines.length : Int)) = true by simp; omega, cond_true, idxN hx, Option.bind_some, wN i (by omega)]
      exact ih (i + 1) _ (by omega) (by omega)
    · rw [show decide ((i : Int) < (lines.length : Int)) = false by simp; omega, cond_false]
      exact ⟨z, rfl⟩
theorem writes_law {n : Nat} {lines : List ByteArray} {b : List (IK .u8)} (hn : lines.length + 700 ≤ n) (hbig : lines.length ≤ 4000000000000000000) (hr : ∀ x ∈ b, 0 ≤ x.n ∧ x.n ≤ 255) : flaw_GarageWrites n lines b = some (true, ()) := by
  unfold flaw_GarageWrites
  obtain ⟨z, hz⟩ := writes_loop hbig b (n := n) (by omega)
  rw [hz, Option.bind_some]
  simp only
  have hw : ((flaw_wakes n).bind fun v1 => some (v1.fst, ())) = some (true, ()) := by rw [wakes_n (by omega)]; rfl
  rw [hw]
  by_cases h52 : lines.length ≤ 52
  · rw [show decide ((lines.length : Int) > 52) = false by simp; omega, Bool.not_false, cond_true]
    cases decide (z > 3000) with
    | true => rfl
    | false =>
    rw [Bool.not_false, cond_true]
    by_cases h3 : b.length ≤ 3000
    · rw [show decide ((b.length : Int) > 3000) = false by simp; omega, cond_false]
      obtain ⟨bl, rfl⟩ : ∃ bl, b = bL bl := ⟨b.map fun x => UInt8.ofNat x.n.toNat, by
        unfold bL
        rw [List.map_map]
        conv => lhs; rw [← List.map_id b]
        apply List.map_congr_left
        intro x hx
        obtain ⟨h0, h1⟩ := hr x hx
        show x = ⟨((UInt8.ofNat x.n.toNat).toNat : Int)⟩
        obtain ⟨v⟩ := x
        simp only at h0 h1 ⊢
        rw [ofN (by omega), Int.toNat_of_nonneg h0]⟩
      rw [bL_len] at h3
      obtain ⟨r, hR, hrec⟩ := recover_eq (n := n) (b := bl) (by omega) (by omega)
      rw [list_eq (by omega), Option.bind_some]
      simp only
      rw [Write_eq (by omega) hbig, Option.bind_some, app_ok (a := []) (by simp [bL_len]; omega), Option.bind_some, List.nil_append, hrec, Option.bind_some, Right_eq hbig (by omega), Option.bind_some]
      have htx : flaw_texts n (r.map mkB) (r.map mkB) = some (true, ()) := by
        have := hR.le
        rw [texts_eq (by rw [List.length_map]; omega) (by rw [List.length_map]; omega)]; simp
      cases hrt : rightL lines with
      | false =>
        simp only [Bool.not_false, cond_true, cond_false]
        rw [show ((3 : Int) != 3) = false from rfl, Bool.not_false, cond_true, show ((([] : List (IK .u8)).length : Int) != 0) = false from rfl, cond_false, strI_bL, refRecover_is (by omega) (by omega) hR, Option.bind_some]
        simp only
        rw [htx, Option.bind_some]
        simp only [decide_true, cond_true]
      | true =>
        obtain ⟨q1, q2⟩ := rightL_iff.1 hrt
        simp only [Bool.not_true, cond_true, cond_false]
        rw [show ((0 : Int) != 0) = false from rfl, Bool.not_false, cond_true, refFile_eq q2 (by omega) (by omega), Option.bind_some]
        simp only
        rw [strI_bL, beq_mk, decide_eq_true rfl, Bool.not_true, cond_false, strI_bL, refRecover_is (by omega) (by omega) hR, Option.bind_some]
        simp only
        rw [htx, Option.bind_some]
        simp only [decide_true, cond_true]
    · rw [show decide ((b.length : Int) > 3000) = true by simp; omega]; rfl
  · rw [show decide ((lines.length : Int) > 52) = true by simp; omega]; rfl
end Go.Proofs.YtkpgggfibljflaaGreatDoor
