/- Loud operations on rows: new slices, append, elements. -/
import Derived.Test.YtokchpjijlebiaaSymF
set_option linter.all false
namespace Go.Proofs.Ytokchpjijlebiaa
open Go Go.RowKit

section
variable {P : Program} {N : Nat} {F : Fr} {h : Heap} {e : Env} {pl : List Plc} {rw : List Row} {m : TM} {t : Array Value} {dd : List Deferred} {w w' : World}
  {o : Oper} {K : Act → World → Prop} {Q : Exit → Act → World → Prop} {d : Nat} {ops : Array Oper} {X : List Nat}

def elemOfB (P : Program) (E : TypeId) (sz bytes : Nat) : Bool := match P.info? E with
  | some i => match i.zero with
    | some z => i.size == sz && i.bytes == bytes && z.cells.size == sz && decide (0 < sz)
    | none => false
  | none => false
theorem elemOfB_spec {E : TypeId} {sz bytes : Nat} (hh : elemOfB P E sz bytes = true) : ∃ i z, P.info? E = some i ∧ i.zero = some z ∧ i.size = sz ∧ i.bytes = bytes ∧ z.cells.size = sz ∧ 0 < sz := by
  unfold elemOfB at hh
  split at hh
  · rename_i i hi
    split at hh
    · rename_i z hz
      simp only [Bool.and_eq_true, beq_iff_eq, decide_eq_true_eq] at hh
      obtain ⟨⟨⟨h1, h2⟩, h3⟩, h4⟩ := hh
      exact ⟨i, z, hi, hz, h1, h2, h3, h4⟩
    · cases hh
  · cases hh

/-- append onto a row -/
theorem wp_append {T : TypeId} {s x : Operand} {r : Row} (i : Nat) (bytes k c2 : Nat) (n' : Nat) (a2 : Option Addr) (news : List Value) (hk : Kn N e m t) (hm : Mem F h e pl rw w) (hop : o.op = .call ⟨.builtin .append, #[s, x], #[T, T]⟩) (hd : o.dst = some d) (hlt : d < N)
    (hi : rw[i]? = some r) (hT : P.underlying T = some (.slice r.E)) (hE : elemOfB P r.E r.sz bytes = true) (hs : evA m s = some (.c (.slice r.a r.n r.c))) (hx : evA m x = some (.c (.slice a2 k c2)))
    (hl : news.length = k * r.sz) (hnews : ∀ j u, news[j]? = some u → ∃ ad, a2 = some ad ∧ ad.spot = none ∧ w.cell? ⟨ad.block, ad.off + j, none⟩ = some u) (h1 : ∀ u ∈ news, u.oneCell' = true)
    (hn' : r.n + k = n') (hb : n' ≤ 1000000000) (hby : decide (bytes ≤ 10000) = true)
    (hK : ∀ a' c' f' t' w', f' ≤ r.frz → Kn N e (m.put d (.one (.c (.slice a' n' c')))) t' → Mem F h e pl (rw.set i ⟨a', n', c', r.E, r.sz, r.xs ++ news, f'⟩) w' → K ⟨t', dd⟩ w') : o.wp P ⟨t, dd⟩ w K Q := by
  subst hn'
  obtain ⟨ii, z, e1, e2, e3, e4, e5, e6⟩ := elemOfB_spec hE
  have hby : bytes ≤ 10000 := by simpa using hby
  have hown := hm.row hi
  have hmul : (r.n + k) * bytes ≤ 1000000000 * 10000 := Nat.mul_le_mul hb hby
  obtain ⟨a', c', w', hr, hown', hc⟩ := run_append_row (P := P) w F.w.heap.size T o.type r.E ii z r.sz bytes hT e1 e2 e3 e4 e5 e6 r.a r.c r.n r.xs hown a2 k c2 news hl
    (fun j u hu => by obtain ⟨ad, q1, q2, q3⟩ := hnews j u hu; exact ⟨ad, q1, by rw [add_eq ad j q2]; exact q3⟩) h1 (by unfold maxLen; omega) (by omega) hm.size
  unfold Oper.wp execOp
  have hse := evA_sound (d := dd) hk hs
  have hxe := evA_sound (d := dd) hk hx
  simp only [SA.den, SC.den] at hse hxe
  simp only [hop, resolve, invoke, builtin, Sem.run_bind, Sem.run_pure, Result.andThen_ok, List.map_toArray, List.map_cons, List.map_nil, hse, hxe, hr]
  show K _ _
  rw [put_eq t dd hd]
  have hkn : Kn N e (m.put d (.one (.c (.slice a' (r.n + k) c')))) (t.setIfInBounds d (.slice a' (r.n + k) c')) := hk.put hlt (.one (.c (.slice a' (r.n + k) c')))
  have hfr : r.frz ≤ r.xs.length := by obtain ⟨_, mm⟩ := hm; exact (mm.rws i r hi).frz
  have hone : ∀ v ∈ r.xs ++ news, isTup v = false := fun v hv => (List.mem_append.1 hv).elim (fun hv => by obtain ⟨_, mm⟩ := hm; exact (mm.rws i r hi).one v hv) (fun hv => isTup_of_one (h1 v hv))
  rcases hc with ⟨ha, hg⟩ | ⟨g, ha, hg1, hg2, hg⟩
  · refine hK a' c' r.frz _ _ (Nat.le_refl _) hkn (hm.setRow hi hown' (fun o ho => ?_) hone (.inl ⟨ha, rfl, hg⟩))
    exact List.getElem?_append_left (by omega)
  · refine hK a' c' 0 _ _ (Nat.zero_le _) hkn (hm.setRow hi hown' (fun o ho => ?_) hone (.inr ⟨g, ha, rfl, hg1, hg2, hg⟩))
    exact List.getElem?_append_left (by omega)

/-- the cells of a slice literal -/
def qslice (P : Program) (m : TM) (T : TypeId) (len : Nat) (parts : List (Nat × Operand)) : Option (List SC) :=
  match P.underlying T with
  | some (.slice E) => match tySz P E, zeroSC P E, evParts m parts with
    | some sz, some z, some vs => if len * sz ≤ 16777216 ∧ z.length = sz ∧ 0 < sz then fillC (fun i => some (i * sz, sz)) ((List.range (len * sz)).map fun i => z.getD (i % z.length) (.bool false)) vs else none
    | _, _, _ => none
  | _ => none
theorem zeros_eq (e : Env) (z : List SC) (zv : Array Value) (hz : zv = (z.map (SC.den e)).toArray) (n : Nat) (h0 : 0 < z.length) :
    ((Array.range n).map (zv[· % zv.size]!)) = (((List.range n).map fun i => z.getD (i % z.length) (.bool false)).map (SC.den e)).toArray := by
  subst hz
  apply Array.ext'
  simp only [Array.toList_map, Array.toList_range, List.map_map]
  apply List.map_congr_left
  intro i _
  have hlt : i % z.length < z.length := Nat.mod_lt _ h0
  simp [List.getD, hlt]
theorem run_buildSlice {T : TypeId} {len : Nat} {parts : Array (Nat × Operand)} (E : TypeId) (sz : Nat) (cs : List SC) (hk : Kn N e m t)
    (hq : qslice P m T len parts.toList = some cs) (hT : P.underlying T = some (.slice E)) (hsz : tySz P E = some sz) :
    (Instr.buildSlice T len (parts.map fun (i, x) => (i, (Act.mk t dd).eval x))).run P w = .ok (.slice (some ⟨w.heap.size, 0, none⟩) len len) (w.alloc (.cells (cs.map (SC.den e)).toArray E)) := by
  unfold qslice at hq
  rw [hT] at hq
  simp only [hsz] at hq
  split at hq
  · rename_i sz' z vs hsz' hz hvs
    cases hsz'
    split at hq
    · rename_i hc
      obtain ⟨hc1, hc2, hc3⟩ := hc
      obtain ⟨zv, hzv, hzc⟩ := zeroSC_sound e w hz
      have hps := evParts_sound (d := dd) hk hvs
      have hfill := fillC_sound e _ _ _ _ hq
      rw [← zeros_eq e z zv.cells hzc _ (by omega)] at hfill
      have hp : (Array.map (fun x => (x.1, (Act.mk t dd).eval x.2)) parts).toList = vs.map fun x => (x.1, x.2.den e) := by
        rw [← hps]; simp
      unfold Instr.buildSlice
      simp only [Sem.run_bind, run_underlying hT, Result.andThen_ok, run_sizeOf' w hsz]
      rw [if_neg (by omega)]
      by_cases h0 : len * sz = 0
      · have hl0 : len = 0 := by
          rcases Nat.eq_zero_or_pos len with h' | h'
          · exact h'
          · have := Nat.mul_pos h' hc3; omega
        subst hl0
        have ra : ∀ f : Nat → Value, (Array.range 0).map f = #[] := fun f => Array.eq_empty_of_size_eq_zero (by simp)
        simp only [Nat.zero_mul, if_true, Sem.run_bind, Sem.run_pure, Result.andThen_ok, hp, ra]
        have hf2 : Instr.fill (fun i => some (i * sz, sz)) #[] (vs.map fun x => (x.1, x.2.den e)) = some (cs.map (SC.den e)).toArray := by
          rw [← hfill, Nat.zero_mul, ra]
        rw [hf2]
        simp [newRow]
      · simp only [if_neg h0, Sem.run_bind, hzv, Result.andThen_ok, Sem.run_pure, hp, hfill]
        simp [newRow]
    · cases hq
  · cases hq
theorem wp_buildSlice {T : TypeId} {len : Nat} {parts : Array (Nat × Operand)} (E : TypeId) (sz : Nat) (cs : List SC) (hk : Kn N e m t) (hm : Mem F h e pl rw w) (hop : o.op = .buildSlice T len parts) (hd : o.dst = some d) (hlt : d < N)
    (hq : qslice P m T len parts.toList = some cs) (hT : P.underlying T = some (.slice E)) (hsz : tySz P E = some sz) (hl : cs.length = len * sz) (hlen : decide (len ≤ 1000000000) = true)
    (hK : ∀ a t' w', Kn N e (m.put d (.one (.c (.slice a len len)))) t' → Mem F h e pl (rw ++ [⟨a, len, len, E, sz, cs.map (SC.den e), 0⟩]) w' → K ⟨t', dd⟩ w') : o.wp P ⟨t, dd⟩ w K Q := by
  have hlen : len ≤ 1000000000 := by simpa using hlen
  have hrun := run_buildSlice (dd := dd) (w := w) E sz cs hk hq hT hsz
  unfold Oper.wp execOp
  simp only [hop, Sem.run_bind]
  rw [hrun]
  simp only [Result.andThen_ok, Sem.run_pure]
  show K _ _
  rw [put_eq t dd hd]
  refine hK _ _ _ (hk.put hlt (.one (.c (.slice _ len len)))) ?_
  refine hm.newRow (b := w.heap.size) (World.grownBy_alloc w _ none) (Nat.le_refl _) (by simp) rfl ?_ rfl (fun v hv => by obtain ⟨c, _, rfl⟩ := List.mem_map.1 hv; exact SC.den_isTup e c)
  have := World.ownsRow_lit (e := E) (size := sz) w (cs.map (SC.den e)).toArray len hm.size (by unfold maxLen; omega) (by simpa using hl)
  simpa using this
theorem wp_buildSlice_at {T : TypeId} {len : Nat} {parts : Array (Nat × Operand)} (i : Nat) {r : Row} (hi : rw[i]? = some r) (hf : r.frz = 0) (E : TypeId) (sz : Nat) (cs : List SC) (hk : Kn N e m t) (hm : Mem F h e pl rw w) (hop : o.op = .buildSlice T len parts) (hd : o.dst = some d) (hlt : d < N)
    (hq : qslice P m T len parts.toList = some cs) (hT : P.underlying T = some (.slice E)) (hsz : tySz P E = some sz) (hl : cs.length = len * sz) (hlen : decide (len ≤ 1000000000) = true)
    (hK : ∀ a t' w', Kn N e (m.put d (.one (.c (.slice a len len)))) t' → Mem F h e pl (rw.set i ⟨a, len, len, E, sz, cs.map (SC.den e), 0⟩) w' → K ⟨t', dd⟩ w') : o.wp P ⟨t, dd⟩ w K Q := by
  have hlen : len ≤ 1000000000 := by simpa using hlen
  have hrun := run_buildSlice (dd := dd) (w := w) E sz cs hk hq hT hsz
  unfold Oper.wp execOp
  simp only [hop, Sem.run_bind]
  rw [hrun]
  simp only [Result.andThen_ok, Sem.run_pure]
  show K _ _
  rw [put_eq t dd hd]
  refine hK _ _ _ (hk.put hlt (.one (.c (.slice _ len len)))) ?_
  refine hm.setRow hi ?_ (fun o ho => by omega) (fun v hv => by obtain ⟨c, _, rfl⟩ := List.mem_map.1 hv; exact SC.den_isTup e c) (.inr ⟨w.heap.size, rfl, rfl, Nat.le_refl _, by simp, World.grownBy_alloc w _ none⟩)
  have := World.ownsRow_lit (e := E) (size := sz) w (cs.map (SC.den e)).toArray len hm.size (by unfold maxLen; omega) (by simpa using hl)
  simpa using this
theorem flatten_zeros (z : Array Value) (n : Nat) : ((Array.range (n * z.size)).map (z[· % z.size]!)).toList = (List.replicate n z.toList).flatten := by
  induction n with
  | zero => simp
  | succ n ih =>
    rw [List.replicate_succ', List.flatten_append, ← ih]
    simp only [Array.toList_map, Array.toList_range, List.flatten_cons, List.flatten_nil, List.append_nil]
    rw [show (n + 1) * z.size = n * z.size + z.size by rw [Nat.add_mul]; omega, List.range_add, List.map_append, List.map_map]
    congr 1
    apply List.ext_getElem?
    intro j
    by_cases hj : j < z.size
    · simp [hj, Nat.mod_eq_of_lt hj]
    · simp [hj]
/-- make -/
theorem wp_makeSlice {T : TypeId} {x : Operand} (E : TypeId) (sz bytes : Nat) (z : List SC) (n : Int) (hk : Kn N e m t) (hm : Mem F h e pl rw w) (hop : o.op = .makeSlice T x x) (hd : o.dst = some d) (hlt : d < N)
    (hT : P.underlying T = some (.slice E)) (hE : elemOfB P E sz bytes = true) (hz : zeroSC P E = some z) (hx : evA m x = some (.c (.int .i64 n))) (h0 : 0 ≤ n) (hb : n ≤ 1000000000) (hby : decide (bytes ≤ 10000) = true)
    (hK : ∀ a t' w', Kn N e (m.put d (.one (.c (.slice a n.toNat n.toNat)))) t' → Mem F h e pl (rw ++ [⟨a, n.toNat, n.toNat, E, sz, (List.replicate n.toNat (z.map (SC.den e))).flatten, 0⟩]) w' → K ⟨t', dd⟩ w') : o.wp P ⟨t, dd⟩ w K Q := by
  obtain ⟨ii, zv, e1, e2, e3, e4, e5, e6⟩ := elemOfB_spec hE
  have hby : bytes ≤ 10000 := by simpa using hby
  obtain ⟨zv', hzv, hzc⟩ := zeroSC_sound e w hz
  have hzz : zv' = zv := by
    simp [zeroValue, typeInfo, e1, e2] at hzv; exact hzv.symm
  subst hzz
  have hwr : IntKind.i64.wrap n = n := IntWalk.i64_in _ (by omega)
  have hmul : (bytes : Int) * n ≤ 10000 * 1000000000 := by
    have h1 : (bytes : Int) * n ≤ 10000 * n := Int.mul_le_mul_of_nonneg_right (by omega) h0
    have h2 : (10000 : Int) * n ≤ 10000 * 1000000000 := by omega
    omega
  have hmul0 : 0 ≤ (bytes : Int) * n := Int.mul_nonneg (by omega) h0
  have hrun : (Instr.makeSlice T (.int .i64 n) (.int .i64 n)).run P w = .ok (.slice (some ⟨w.heap.size, 0, none⟩) n.toNat n.toNat) (w.alloc (.cells ((Array.range (n.toNat * sz)).map (zv'.cells[· % zv'.cells.size]!)) E)) := by
    unfold Instr.makeSlice
    simp only [Sem.run_bind, run_underlying hT, Result.andThen_ok, asInt, asIntOf, Sem.run_pure, hwr]
    have hti : (typeInfo E).run P w = .ok ii w := by simp [typeInfo, e1]
    have hsz : (sizeOf E).run P w = .ok sz w := by simp [sizeOf, typeInfo, e1, e3]
    simp only [hti, Result.andThen_ok, e4]
    have hc : ¬ ((((decide (n < 0) || decide ((bytes : Int) * n > 2 ^ 48)) || decide (n < 0)) || decide (n > n)) = true) := by
      simp; omega
    rw [if_neg hc]
    simp only [Sem.run_bind, run_askRoom, Result.andThen_ok, hsz]
    by_cases hn : n.toNat * sz = 0
    · have : n.toNat = 0 := by
        rcases Nat.eq_zero_or_pos n.toNat with h' | h'
        · exact h'
        · have := Nat.mul_pos h' e6; omega
      have ra : ∀ f : Nat → Value, (Array.range 0).map f = #[] := fun f => Array.eq_empty_of_size_eq_zero (by simp)
      simp [this, newRow, ra]
    · simp only [if_neg hn, Sem.run_bind, hzv, Result.andThen_ok, Sem.run_pure]
      simp [newRow]
  unfold Oper.wp execOp
  have hxe := evA_sound (d := dd) hk hx
  simp only [SA.den, SC.den] at hxe
  simp only [hop, hxe, Sem.run_bind, hrun, Result.andThen_ok, Sem.run_pure]
  show K _ _
  rw [put_eq t dd hd]
  refine hK _ _ _ (hk.put hlt (.one (.c (.slice _ n.toNat n.toNat)))) ?_
  have hfl := flatten_zeros zv'.cells n.toNat
  rw [e5] at hfl
  refine hm.newRow (b := w.heap.size) (World.grownBy_alloc w _ none) (Nat.le_refl _) (by simp) rfl ?_ rfl (fun v hv => by obtain ⟨l, hl, hv⟩ := List.mem_flatten.1 hv; rw [(List.mem_replicate.1 hl).2] at hv; obtain ⟨c, _, rfl⟩ := List.mem_map.1 hv; exact SC.den_isTup e c)
  have := World.ownsRow_lit (e := E) (size := sz) w ((Array.range (n.toNat * sz)).map (zv'.cells[· % sz]!)) n.toNat hm.size (by unfold maxLen; omega) (by simp)
  have hz2 : zv'.cells.toList = z.map (SC.den e) := by rw [hzc]
  rw [hfl, hz2] at this
  simp only [e5]
  exact this

/-- the address of an element -/
theorem run_index {T E : TypeId} {sz : Nat} {k : IntKind} {b ofs n c : Nat} {i : Int} (hT : P.underlying T = some (.slice E)) (hsz : tySz P E = some sz) (h0 : 0 ≤ i) (hn : i < n) :
    (Instr.indexAt T (.slice (some ⟨b, ofs, none⟩) n c) (.int k i)).run P w = .ok (.pointer (some ⟨b, ofs + i.toNat * sz, none⟩)) w := by
  unfold Instr.indexAt
  simp only [asIntOf, Sem.run_bind, Sem.run_pure, Result.andThen_ok, run_underlying hT]
  rw [if_pos ⟨h0, hn⟩]
  simp only [Sem.run_bind, run_sizeOf' w hsz, Result.andThen_ok, Sem.run_pure]
  rw [add_eq _ _ rfl]
theorem PlOk.pop {x : Nat × Nat} {p : Plc} (hl : pl.length ≤ e.length) (h1 : okPl e.length pl = true) (hp : PlOk (e ++ [x]) (pl ++ [p]) w) : PlOk e pl w := by
  intro i q hq j c hc
  have hi : i < pl.length := by
    rcases Nat.lt_or_ge i pl.length with h' | h'
    · exact h'
    · rw [List.getElem?_eq_none h'] at hq; cases hq
  have := hp i q (by rw [List.getElem?_append_left hi]; exact hq) j c hc
  rw [blk_append e x (by omega), den_append (okSC_all (okPl_get h1 hq) c (List.mem_of_getElem? hc))] at this
  exact this
/-- an element's address, in a region that draws -/
theorem D_index {T E : TypeId} {s x : Operand} {sz n c ofs b : Nat} {a : Option Addr} {k : IntKind} {done : List Nat} (i : Nat) (ix : Int) (cs : List SC) {oi : Oper} (hQ : Deaf Q)
    (hi : ops[i]? = some oi) (hop : oi.op = .indexAddr T s x) (hgd : Region.wanted oi (yielded ops t) = true) (hd : oi.dst = some d) (hlt : d < N) (hns : Region.noSelect ops = true) (hf : firstB ops X done i = true) (hk : Kn N e m t) (hS : PlOk e pl w)
    (hT : P.underlying T = some (.slice E)) (hsz : tySz P E = some sz) (hs : evA m s = some (.c (.slice a n c))) (ha : a = some ⟨b, ofs, none⟩) (hx : evA m x = some (.c (.int k ix))) (h0 : 0 ≤ ix) (hn : ix < n) (hok : okAll e pl m = true)
    (H : ∀ t', Kn N (e ++ [(b, ofs + ix.toNat * sz)]) (m.put d (.one (.c (.ptr e.length 0)))) t' → wpD P ops X Q (e ++ [(b, ofs + ix.toNat * sz)]) (pl ++ [⟨cs, none⟩]) (i :: done) ⟨t', dd⟩ w) : wpD P ops X Q e pl done ⟨t, dd⟩ w := by
  obtain ⟨q1, q2, q3⟩ := okAll_of hok
  have hden : SV.den (e ++ [(b, ofs + ix.toNat * sz)]) (.one (.c (.ptr e.length 0))) = .pointer (some ⟨b, ofs + ix.toNat * sz, none⟩) := by
    simp [SV.den, SA.den, SC.den, blk_last]
  refine D_one i (.one (.c (.ptr e.length 0))) hQ hi hns hf hgd hd hS (fun w hp => hp.pop (by omega) q2) (fun w => ?_) ((hk.push (b, ofs + ix.toNat * sz) q3).put hlt _) H
  rw [hden]
  unfold execOp
  have hse := evA_sound (d := dd) hk hs
  have hxe := evA_sound (d := dd) hk hx
  simp only [SA.den, SC.den] at hse hxe
  subst ha
  simp only [hop, hse, hxe, Sem.run_bind, run_index hT hsz h0 hn, Result.andThen_ok, Sem.run_pure]
/-- the same, in a plain region -/
theorem R_index {T E : TypeId} {s x : Operand} {sz n c ofs b : Nat} {a : Option Addr} {k : IntKind} (i : Nat) (ix : Int) {oi : Oper}
    (hi : ops[i]? = some oi) (hop : oi.op = .indexAddr T s x) (hgd : Region.wanted oi (yielded ops t) = true) (hd : oi.dst = some d) (hlt : d < N) (hk : Kn N e m t)
    (hT : P.underlying T = some (.slice E)) (hsz : tySz P E = some sz) (hs : evA m s = some (.c (.slice a n c))) (ha : a = some ⟨b, ofs, none⟩) (hx : evA m x = some (.c (.int k ix))) (h0 : 0 ≤ ix) (hn : ix < n) (hok : okTM e.length m = true)
    (H : ∀ t', Kn N (e ++ [(b, ofs + ix.toNat * sz)]) (m.put d (.one (.c (.ptr e.length 0)))) t' → wpFrom P ops Q (i + 1) ⟨t', dd⟩ w) : wpFrom P ops Q i ⟨t, dd⟩ w := by
  have q3 := hok
  have hden : SV.den (e ++ [(b, ofs + ix.toNat * sz)]) (.one (.c (.ptr e.length 0))) = .pointer (some ⟨b, ofs + ix.toNat * sz, none⟩) := by
    simp [SV.den, SA.den, SC.den, blk_last]
  refine wpFrom_loud oi hi hgd fun K hK => ?_
  unfold Oper.wp execOp
  have hse := evA_sound (d := dd) hk hs
  have hxe := evA_sound (d := dd) hk hx
  simp only [SA.den, SC.den] at hse hxe
  subst ha
  simp only [hop, hse, hxe, Sem.run_bind, run_index hT hsz h0 hn, Result.andThen_ok, Sem.run_pure]
  show K _ _
  rw [put_eq t dd hd, ← hden]
  exact hK _ _ (H _ ((hk.push (b, ofs + ix.toNat * sz) q3).put hlt _))

theorem splice_take {α : Type} (l v : List α) (a n : Nat) (h : a + v.length ≤ n) (hn : n ≤ l.length) : (l.take a ++ v ++ l.drop (a + v.length)).take n = (l.take n).take a ++ v ++ (l.take n).drop (a + v.length) := by
  have h1 : (l.take a).length = a := by simp; omega
  rw [List.append_assoc, List.take_append, h1, List.take_append, List.take_take, List.drop_take, List.append_assoc]
  rw [List.take_of_length_le (l := v) (by omega), List.take_take, Nat.min_eq_right (by omega), Nat.min_eq_left (by omega), Nat.sub_sub]
/-- store into an element of a row -/
theorem wp_storeRow {T : TypeId} {x y : Operand} {r : Row} {ad : Addr} (i j off base : Nat) (v : SA) (hk : Kn N e m t) (hm : Mem F h e pl rw w) (hop : o.op = .store T x y) (hd : o.dst = none)
    (hx : evA m x = some (.c (.ptr j off))) (hy : evA m y = some v) (hj : e.blk j = (ad.block, base)) (hi : rw[i]? = some r) (ha : r.a = some ad) (hf : r.frz = 0) (hsz : tySz P T = some v.cells.length) (hfit : base + off + v.cells.length ≤ r.xs.length)
    (hK : ∀ w', Kn N e m t → Mem F h e pl (rw.set i { r with xs := r.xs.take (base + off) ++ v.cells.map (SC.den e) ++ r.xs.drop (base + off + v.cells.length) }) w' → K ⟨t, dd⟩ w') : o.wp P ⟨t, dd⟩ w K Q := by
  have hown := hm.row hi
  have hr1 : ∀ u ∈ r.xs, isTup u = false := by obtain ⟨_, mm⟩ := hm; exact (mm.rws i r hi).one
  have hone : ∀ u ∈ r.xs.take (base + off) ++ v.cells.map (SC.den e) ++ r.xs.drop (base + off + v.cells.length), isTup u = false := fun u hu => by
    rcases List.mem_append.1 hu with hu | hu
    · rcases List.mem_append.1 hu with hu | hu
      · exact hr1 u (List.mem_of_mem_take hu)
      · obtain ⟨c, _, rfl⟩ := List.mem_map.1 hu; exact SC.den_isTup e c
    · exact hr1 u (List.mem_of_mem_drop hu)
  rcases hown.2 with ⟨hv, _⟩ | ⟨g, cap, cur, hv, hbg, hg, hnc, hcm, hcs, htake⟩
  · rw [ha] at hv; simp at hv
  · rw [ha] at hv
    simp only [Value.slice.injEq, Option.some.injEq, true_and] at hv
    obtain ⟨had, hcc⟩ := hv
    subst had
    have hlen := hown.1
    have hle : r.n * r.sz ≤ cur.size := by rw [hcs]; exact Nat.mul_le_mul_right _ hnc
    have hst := run_storeCells_at P g (base + off) r.E (v.cells.map (SC.den e)) 0 cur w hg (by simp; omega) (by intro u hu; obtain ⟨c, _, rfl⟩ := List.mem_map.1 hu; exact SC.den_one e c)
    have hxe : (Act.mk t dd).eval x = .pointer (some ⟨g, base + off, none⟩) := by
      rw [evA_sound hk hx]; simp [SA.den, SC.den, hj]
    have hye := evA_sound (d := dd) hk hy
    have hcl := SA.den_cells e v
    generalize hu : SA.den e v = u at hye hcl
    unfold Oper.wp execOp
    simp only [hop, hxe, hye, Instr.storeAt, Instr.sureAddr, storeVar, Sem.run_bind, Sem.run_pure, Result.andThen_ok, run_sizeOf' w hsz, hcl]
    simp only [List.size_toArray, List.length_map, ne_eq, not_true_eq_false, if_false, hst, Result.andThen_ok]
    show K _ _
    rw [hd]
    refine hK _ hk (hm.setRow hi ?_ (fun o ho => by omega) hone (.inl ⟨rfl, rfl, ⟨rfl, rfl, rfl, by simp, fun k _ hne => setRow_other w _ k _ (fun hh => hne (by rw [hh, ha]; rfl))⟩⟩))
    refine ⟨?_, .inr ⟨g, cap, _, by rw [ha, hcc], hbg, setRow_heap w g cur _ r.E _ hg, hnc, hcm, ?_, ?_⟩⟩
    · simp; omega
    · simp; omega
    · simp only [Nat.add_zero]
      rw [← htake]
      have h2 : base + off + v.cells.length ≤ r.n * r.sz := by rw [← hlen]; exact hfit
      have := splice_take cur.toList (v.cells.map (SC.den e)) (base + off) (r.n * r.sz) (by simpa using h2) (by simpa using hle)
      simpa using this
end
end Go.Proofs.Ytokchpjijlebiaa
