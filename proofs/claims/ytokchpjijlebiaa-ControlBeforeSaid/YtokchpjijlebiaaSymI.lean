/- What the printed walks want besides. -/
import Derived.Test.YtokchpjijlebiaaSymH
set_option linter.all false
namespace Go.Proofs.Ytokchpjijlebiaa
open Go Go.RowKit
open Rep (rep)
/-- how the one who called goes on -/
def Ex.bind {ρ σ β : Type} (o : Ex ρ σ) (f : ρ → Option β) (g : σ → Option β) : Option β := match o with
  | .ret r => f r
  | .go s => g s
theorem Ex.bind_go {ρ σ β : Type} (s : σ) (f : ρ → Option β) (g : σ → Option β) : Ex.bind (.go s) f g = g s := rfl
theorem map_get {e : Env} {cs : List SC} {j : Nat} {c : SC} (h : cs[j]? = some c) : (cs.map (SC.den e))[j]? = some (c.den e) := by rw [List.getElem?_map, h]; rfl
section
variable {P : Program} {N : Nat} {F : Fr} {h : Heap} {e e' : Env} {pl pl' : List Plc} {rw : List Row} {m : TM} {t : Array Value} {w : World} {Q : Exit → Act → World → Prop} {ops : Array Oper} {X : List Nat}
theorem wp_mid' {c : Code} {a : Act} (M : Act → World → Prop) (h1 : c.wp P (Exit.then M Q) a w) (h2 : ∀ a w, M a w → Q .normal a w) : c.wp P Q a w :=
  wp_mono h1 fun e a w hq => by cases e <;> first | exact h2 _ _ hq | exact hq
theorem D_ext {done : List Nat} {a : Act} (hsub : ∀ w, PlOk e' pl' w → PlOk e pl w) (H : wpD P ops X Q e' pl' done a w) : wpD P ops X Q e pl done a w := wpAnyD_mono hsub _ _ _ _ H
theorem Kn.setB (k : Nat) {E : Bool} (b : Bool) (hk : Kn N e m t) (hg : m.get k = some (.one (.c (.bool E)))) (hb : E = b) : Kn N e (m.put k (.one (.c (.bool b)))) t := by
  subst hb
  refine ⟨hk.size, fun j v hj => ?_⟩
  unfold TM.put TM.get at hj
  cases hjk : Nat.beq k j with
  | true =>
    rw [hjk] at hj
    have : k = j := Nat.eq_of_beq_eq_true hjk
    subst this
    simp at hj
    subst hj
    exact hk.get _ _ hg
  | false => rw [hjk] at hj; exact hk.get _ _ hj
theorem SliceIn.cell {a : Option Addr} {vs : List Value} (hs : SliceIn h a vs) (hh : Has h w) (h1 : ∀ v ∈ vs, v.oneCell' = true) : ∀ j u, vs[j]? = some u → ∃ ad, a = some ad ∧ ad.spot = none ∧ w.cell? ⟨ad.block, ad.off + j, none⟩ = some u := fun j u hu => by
  obtain ⟨ad, e1, h2, h3⟩ := hs j u hu
  exact ⟨ad, e1, h2, look_cell (hh _ _ _ h3).2 (isTup_of_one (h1 _ (List.mem_of_getElem? hu)))⟩
theorem no_cell {a : Option Addr} : ∀ j u, ([] : List Value)[j]? = some u → ∃ ad, a = some ad ∧ ad.spot = none ∧ w.cell? ⟨ad.block, ad.off + j, none⟩ = some u := fun j u hu => by simp at hu
theorem D_perm {done : List Nat} {a : Act} (done' : List Nat) (h1 : listedOf ops.size done = listedOf ops.size done') (h2 : done.length = done'.length) (H : wpD P ops X Q e pl done' a w) : wpD P ops X Q e pl done a w := by
  unfold wpD at *
  rw [h1, h2]; exact H
/-- what is shown once, of the operations that have come up in whatever order -/
theorem D_share {done : List Nat} {a : Act} (T : (Env → List Plc → List Nat → Act → World → Prop) → Prop) (h2 : T (wpD P ops X Q)) (h1 : T (wpD P ops X Q) → wpD P ops X Q e pl done a w) : wpD P ops X Q e pl done a w := h1 h2
section
variable {a : Act} {done : List Nat}
theorem D_many (rs : List Nat) (hr : Region.ready .any ops (listedOf ops.size done) = rs) (hne : rs ≠ []) (hl : done.length < ops.size)
    (h : ∀ i ∈ rs, ∃ oi, ops[i]? = some oi ∧ Region.wanted oi (yielded ops a.tmps) = true ∧ ∀ K : Act → World → Prop, (∀ a' w', PlOk e pl w' → wpD P ops X Q e pl (i :: done) a' w' → K a' w') → oi.wp P a w K Q) : wpD P ops X Q e pl done a w := by
  unfold wpD at *
  rw [show ops.size - done.length = (ops.size - (i0 :: done).length) + 1 by simp; omega]
  refine ⟨fun h0 => absurd (hr ▸ h0) hne, ?_⟩
  rw [hr]
  intro k hk
  obtain ⟨oi, h1, h2, h3⟩ := h k hk
  unfold wpOp
  simp only [h1, h2, if_true]
  exact .inl (h3 _ fun a' w' q1 q2 => .inr ⟨q1, q2⟩)
where i0 : Nat := 0
abbrev DNext (P : Program) (ops : Array Oper) (X : List Nat) (Q : Exit → Act → World → Prop) (e : Env) (pl : List Plc) (done : List Nat) (a : Act) (w : World) (i : Nat) (oi : Oper) : Prop :=
  ∀ K : Act → World → Prop, (∀ a' w', PlOk e pl w' → wpD P ops X Q e pl (i :: done) a' w' → K a' w') → oi.wp P a w K Q
theorem D_three (i j k : Nat) {oi oj ok : Oper} (hi : ops[i]? = some oi) (hj : ops[j]? = some oj) (hk : ops[k]? = some ok) (hr : Region.ready .any ops (listedOf ops.size done) = [i, j, k]) (hl : done.length < ops.size)
    (hwi : Region.wanted oi (yielded ops a.tmps) = true) (hwj : Region.wanted oj (yielded ops a.tmps) = true) (hwk : Region.wanted ok (yielded ops a.tmps) = true)
    (h1 : DNext P ops X Q e pl done a w i oi) (h2 : DNext P ops X Q e pl done a w j oj) (h3 : DNext P ops X Q e pl done a w k ok) : wpD P ops X Q e pl done a w :=
  D_many [i, j, k] hr (by simp) hl fun x hx => by
    simp only [List.mem_cons, List.not_mem_nil, or_false] at hx
    rcases hx with rfl | rfl | rfl
    · exact ⟨_, hi, hwi, h1⟩
    · exact ⟨_, hj, hwj, h2⟩
    · exact ⟨_, hk, hwk, h3⟩
theorem D_four (i j k l : Nat) {oi oj ok ol : Oper} (hi : ops[i]? = some oi) (hj : ops[j]? = some oj) (hk : ops[k]? = some ok) (hl' : ops[l]? = some ol) (hr : Region.ready .any ops (listedOf ops.size done) = [i, j, k, l]) (hl : done.length < ops.size)
    (hwi : Region.wanted oi (yielded ops a.tmps) = true) (hwj : Region.wanted oj (yielded ops a.tmps) = true) (hwk : Region.wanted ok (yielded ops a.tmps) = true) (hwl : Region.wanted ol (yielded ops a.tmps) = true)
    (h1 : DNext P ops X Q e pl done a w i oi) (h2 : DNext P ops X Q e pl done a w j oj) (h3 : DNext P ops X Q e pl done a w k ok) (h4 : DNext P ops X Q e pl done a w l ol) : wpD P ops X Q e pl done a w :=
  D_many [i, j, k, l] hr (by simp) hl fun x hx => by
    simp only [List.mem_cons, List.not_mem_nil, or_false] at hx
    rcases hx with rfl | rfl | rfl | rfl
    · exact ⟨_, hi, hwi, h1⟩
    · exact ⟨_, hj, hwj, h2⟩
    · exact ⟨_, hk, hwk, h3⟩
    · exact ⟨_, hl', hwl, h4⟩
theorem D_five (i j k l m : Nat) {oi oj ok ol om : Oper} (hi : ops[i]? = some oi) (hj : ops[j]? = some oj) (hk : ops[k]? = some ok) (hl' : ops[l]? = some ol) (hm' : ops[m]? = some om) (hr : Region.ready .any ops (listedOf ops.size done) = [i, j, k, l, m]) (hl : done.length < ops.size)
    (hwi : Region.wanted oi (yielded ops a.tmps) = true) (hwj : Region.wanted oj (yielded ops a.tmps) = true) (hwk : Region.wanted ok (yielded ops a.tmps) = true) (hwl : Region.wanted ol (yielded ops a.tmps) = true) (hwm : Region.wanted om (yielded ops a.tmps) = true)
    (h1 : DNext P ops X Q e pl done a w i oi) (h2 : DNext P ops X Q e pl done a w j oj) (h3 : DNext P ops X Q e pl done a w k ok) (h4 : DNext P ops X Q e pl done a w l ol) (h5 : DNext P ops X Q e pl done a w m om) : wpD P ops X Q e pl done a w :=
  D_many [i, j, k, l, m] hr (by simp) hl fun x hx => by
    simp only [List.mem_cons, List.not_mem_nil, or_false] at hx
    rcases hx with rfl | rfl | rfl | rfl | rfl
    · exact ⟨_, hi, hwi, h1⟩
    · exact ⟨_, hj, hwj, h2⟩
    · exact ⟨_, hk, hwk, h3⟩
    · exact ⟨_, hl', hwl, h4⟩
    · exact ⟨_, hm', hwm, h5⟩
end

/-- a quiet operation, really carried out -/
theorem wp_quiet {o : Oper} {d : List Deferred} {dd : Nat} {v : SV} {K : Act → World → Prop} (hk : Kn N e m t) (hp : PlOk e pl w) (hdst : o.dst = some dd) (hlt : dd < N) (hv : qop P m pl o.op = some v)
    (hK : ∀ t', Kn N e (m.put dd v) t' → K ⟨t', d⟩ w) : o.wp P ⟨t, d⟩ w K Q := by
  unfold Oper.wp
  rw [qop_sound hk hp hv]
  show K _ _
  rw [put_eq t d hdst]
  exact hK _ (hk.put hlt v)
/-- a quiet operation of a plain region, its value shown by hand -/
theorem R_one {d : List Deferred} {m' : TM} (i : Nat) {oi : Oper} {dd : Nat} (v : SV) (hi : ops[i]? = some oi) (hg : Region.wanted oi (yielded ops t) = true) (hdst : oi.dst = some dd)
    (hv : (execOp (Act.mk t d).eval oi).run P w = .ok (.value (v.den e)) w) (hk' : Kn N e m' (t.setIfInBounds dd (v.den e)))
    (H : ∀ t', Kn N e m' t' → wpFrom P ops Q (i + 1) ⟨t', d⟩ w) : wpFrom P ops Q i ⟨t, d⟩ w := by
  refine wpFrom_loud oi hi hg fun K hK => ?_
  unfold Oper.wp
  rw [hv]
  show K _ _
  rw [put_eq t d hdst]
  exact hK _ _ (H _ hk')
/-- a division by what is not zero -/
theorem run_div {op : BinOp} {T yT : TypeId} {x y : Operand} {k : IntKind} {a b : Int} {oi : Oper} {d : List Deferred} (hk : Kn N e m t) (hop : oi.op = .binOp op T x y yT) (hx : evA m x = some (.c (.int k a))) (hy : evA m y = some (.c (.int k b))) (hb : b ≠ 0) :
    (op = .quo → (execOp (Act.mk t d).eval oi).run P w = .ok (.value (.int k (k.wrap (a.tdiv b)))) w) ∧ (op = .rem → (execOp (Act.mk t d).eval oi).run P w = .ok (.value (.int k (a.tmod b))) w) := by
  have hxe := evA_sound (d := d) hk hx
  have hye := evA_sound (d := d) hk hy
  simp only [SA.den, SC.den] at hxe hye
  constructor
  · rintro rfl
    unfold execOp
    simp only [hop, hxe, hye, eqGuard, Go.binOp, Op.intDiv]
    simp [hb]
  · rintro rfl
    unfold execOp
    simp only [hop, hxe, hye, eqGuard, Go.binOp, Op.intDiv]
    simp [hb]
theorem R_quo {T yT : TypeId} {x y : Operand} {k : IntKind} {a b : Int} {d : List Deferred} (i : Nat) {oi : Oper} {dd : Nat} (hk : Kn N e m t) (hi : ops[i]? = some oi) (hop : oi.op = .binOp .quo T x y yT) (hg : Region.wanted oi (yielded ops t) = true) (hdst : oi.dst = some dd) (hlt : dd < N) (hx : evA m x = some (.c (.int k a))) (hy : evA m y = some (.c (.int k b))) (hb : b ≠ 0)
    (H : ∀ t', Kn N e (m.put dd (.one (.c (.int k (k.wrap (a.tdiv b)))))) t' → wpFrom P ops Q (i + 1) ⟨t', d⟩ w) : wpFrom P ops Q i ⟨t, d⟩ w :=
  R_one i (.one (.c (.int k (k.wrap (a.tdiv b))))) hi hg hdst ((run_div hk hop hx hy hb).1 rfl) (hk.put hlt _) H
theorem R_rem {T yT : TypeId} {x y : Operand} {k : IntKind} {a b : Int} {d : List Deferred} (i : Nat) {oi : Oper} {dd : Nat} (hk : Kn N e m t) (hi : ops[i]? = some oi) (hop : oi.op = .binOp .rem T x y yT) (hg : Region.wanted oi (yielded ops t) = true) (hdst : oi.dst = some dd) (hlt : dd < N) (hx : evA m x = some (.c (.int k a))) (hy : evA m y = some (.c (.int k b))) (hb : b ≠ 0)
    (H : ∀ t', Kn N e (m.put dd (.one (.c (.int k (a.tmod b))))) t' → wpFrom P ops Q (i + 1) ⟨t', d⟩ w) : wpFrom P ops Q i ⟨t, d⟩ w :=
  R_one i (.one (.c (.int k (a.tmod b)))) hi hg hdst ((run_div hk hop hx hy hb).2 rfl) (hk.put hlt _) H
theorem D_rem {T yT : TypeId} {x y : Operand} {k : IntKind} {a b : Int} {d : List Deferred} {done : List Nat} (i : Nat) {oi : Oper} {dd : Nat} (hQ : Deaf Q) (hk : Kn N e m t) (hi : ops[i]? = some oi) (hop : oi.op = .binOp .rem T x y yT) (hg : Region.wanted oi (yielded ops t) = true) (hdst : oi.dst = some dd) (hlt : dd < N)
    (hs : Region.noSelect ops = true) (hf : firstB ops X done i = true) (hS : PlOk e pl w) (hx : evA m x = some (.c (.int k a))) (hy : evA m y = some (.c (.int k b))) (hb : b ≠ 0)
    (H : ∀ t', Kn N e (m.put dd (.one (.c (.int k (a.tmod b))))) t' → wpD P ops X Q e pl (i :: done) ⟨t', d⟩ w) : wpD P ops X Q e pl done ⟨t, d⟩ w :=
  D_one i (.one (.c (.int k (a.tmod b)))) hQ hi hs hf hg hdst hS (fun _ h => h) (fun _ => (run_div hk hop hx hy hb).2 rfl) (hk.put hlt _) H
theorem D_quo {T yT : TypeId} {x y : Operand} {k : IntKind} {a b : Int} {d : List Deferred} {done : List Nat} (i : Nat) {oi : Oper} {dd : Nat} (hQ : Deaf Q) (hk : Kn N e m t) (hi : ops[i]? = some oi) (hop : oi.op = .binOp .quo T x y yT) (hg : Region.wanted oi (yielded ops t) = true) (hdst : oi.dst = some dd) (hlt : dd < N)
    (hs : Region.noSelect ops = true) (hf : firstB ops X done i = true) (hS : PlOk e pl w) (hx : evA m x = some (.c (.int k a))) (hy : evA m y = some (.c (.int k b))) (hb : b ≠ 0)
    (H : ∀ t', Kn N e (m.put dd (.one (.c (.int k (k.wrap (a.tdiv b)))))) t' → wpD P ops X Q e pl (i :: done) ⟨t', d⟩ w) : wpD P ops X Q e pl done ⟨t, d⟩ w :=
  D_one i (.one (.c (.int k (k.wrap (a.tdiv b))))) hQ hi hs hf hg hdst hS (fun _ h => h) (fun _ => (run_div hk hop hx hy hb).1 rfl) (hk.put hlt _) H
theorem PlOk.peek {b base : Nat} {r : Row} (hp : PlOk e pl w) (hm : Mem F h e pl' rw w) (i j : Nat) (hi : rw[i]? = some r) (hj : e.blk j = (b, base)) (ha : r.a = some ⟨b, 0, none⟩) (cs : List SC)
    (hc : ∀ k c, cs[k]? = some c → r.xs[base + k]? = some (c.den e)) : PlOk e (pl.set j ⟨cs, none⟩) w := by
  intro k p hk x c hx
  by_cases hkj : k = j
  · subst hkj
    have hlt : k < pl.length := by
      rcases Nat.lt_or_ge k pl.length with h' | h'
      · exact h'
      · rw [List.getElem?_eq_none (by simpa using h')] at hk; cases hk
    rw [List.getElem?_set_self hlt] at hk
    cases hk
    obtain ⟨ad, h1, _, h3⟩ := hm.rowCell hi _ _ (hc x c hx)
    rw [ha] at h1
    cases h1
    simp only [Nat.zero_add] at h3
    rw [hj]
    exact h3
  · rw [List.getElem?_set_ne (Ne.symm hkj)] at hk
    exact hp k p hk x c hx
theorem row_addr {b0 : Nat} {r : Row} (hm : Mem F h e pl rw w) {i : Nat} (hi : rw[i]? = some r) (hx : b0 < r.xs.length) : ∃ b, r.a = some ⟨b, 0, none⟩ := by
  obtain ⟨ad, h1, h2, _⟩ := hm.rowCell hi b0 r.xs[b0] (List.getElem?_eq_getElem hx)
  obtain ⟨h3, h4, _⟩ := row_some (hm.row hi) h1
  exact ⟨ad.block, by rw [h1]; cases ad; simp at h3 h4; subst h3; subst h4; rfl⟩
theorem cells_fit {α : Type} [Rep α] {xs : List α} {vs : List Value} {k sz : Nat} (hs : Rep.sz α = sz) (hc : Cells h xs vs) (hk : k < xs.length) : 0 + k * sz + 0 + sz ≤ vs.length := by
  rw [Cells.len hc, hs]
  have : (k + 1) * sz ≤ xs.length * sz := Nat.mul_le_mul_right _ hk
  rw [Nat.add_mul] at this
  omega
theorem cells_get {α : Type} [Rep α] {xs : List α} {vs : List Value} {k sz : Nat} {x : α} (hs : Rep.sz α = sz) (hc : Cells h xs vs) (hx : xs[k]? = some x) : ∃ cs, rep h x cs ∧ ∀ j c, cs[j]? = some c → vs[0 + k * sz + j]? = some c := by
  subst hs
  obtain ⟨cs, h1, h2⟩ := Cells.get (fun _ => trivial) hc hx
  exact ⟨cs, h1, fun j c hj => by rw [Nat.zero_add]; exact h2 j c hj⟩
theorem cells_set {α : Type} [Rep α] {xs : List α} {vs cs : List Value} {k sz : Nat} {y : α} (hs : Rep.sz α = sz) (hc : Cells h xs vs) (hk : k < xs.length) (hy : rep h y cs) :
    Cells h (xs.set k y) (vs.take (0 + k * sz + 0) ++ cs ++ vs.drop (0 + k * sz + 0 + cs.length)) := by
  subst hs
  rw [Nat.zero_add, Nat.add_zero]
  exact Cells.set hc hk hy
theorem cells_fitP {α : Type} [Rep α] {xs : List α} {vs : List Value} {k sz : Nat} (off n : Nat) (hs : Rep.sz α = sz) (hc : Cells h xs vs) (hk : k < xs.length) (hp : off + n ≤ sz) : 0 + k * sz + off + n ≤ vs.length := by
  have := cells_fit hs hc hk
  omega
theorem part_eq {α β : Type} (f : β → α) {vs part : List α} {cs : List β} {b off : Nat} (hold : ∀ j c, cs[j]? = some c → vs[b + j]? = some (f c)) (hp : off + part.length ≤ cs.length) :
    vs.take (b + off) ++ part ++ vs.drop (b + off + part.length) = vs.take b ++ ((cs.map f).take off ++ part ++ (cs.map f).drop (off + part.length)) ++ vs.drop (b + cs.length) := by
  have h1 : ∀ j, j < cs.length → vs[b + j]? = (cs.map f)[j]? := fun j hj => by
    rw [List.getElem?_map, List.getElem?_eq_getElem hj]
    exact hold j _ (List.getElem?_eq_getElem hj)
  have hmid : (vs.drop b).take cs.length = cs.map f := by
    apply List.ext_getElem?
    intro j
    rw [List.getElem?_take]
    split
    · rename_i hj
      rw [List.getElem?_drop, h1 j hj]
    · rename_i hj
      rw [List.getElem?_eq_none (by simp; omega)]
  have h2 : vs.take (b + off) = vs.take b ++ (cs.map f).take off := by
    rw [List.take_add, ← hmid, List.take_take, Nat.min_eq_left (by omega)]
  have h3 : vs.drop (b + off + part.length) = (cs.map f).drop (off + part.length) ++ vs.drop (b + cs.length) := by
    rw [← hmid, List.drop_take, List.drop_drop]
    have : vs.drop (b + cs.length) = (vs.drop (b + (off + part.length))).drop (cs.length - (off + part.length)) := by
      rw [List.drop_drop]; congr 1; omega
    rw [this, List.take_append_drop, Nat.add_assoc]
  rw [h2, h3]
  simp [List.append_assoc]
/-- A part of an element is written. -/
theorem cells_setPart {α : Type} [Rep α] {xs : List α} {vs part : List Value} {cs : List SC} {k sz : Nat} {y : α} (e : Env) (off : Nat) (hs : Rep.sz α = sz) (hc : Cells h xs vs) (hk : k < xs.length) (hold : ∀ j c, cs[j]? = some c → vs[0 + k * sz + j]? = some (c.den e)) (hl : cs.length = sz) (hp : off + part.length ≤ sz)
    (hy : rep h y ((cs.map (SC.den e)).take off ++ part ++ (cs.map (SC.den e)).drop (off + part.length))) : Cells h (xs.set k y) (vs.take (0 + k * sz + off) ++ part ++ vs.drop (0 + k * sz + off + part.length)) := by
  have h1 := cells_set hs hc hk hy
  rw [part_eq (SC.den e) hold (by omega)]
  have h2 : ((cs.map (SC.den e)).take off ++ part ++ (cs.map (SC.den e)).drop (off + part.length)).length = cs.length := by simp; omega
  rw [h2] at h1
  simpa using h1
theorem lt_of_idx {α : Type} {xs : List α} {i : Int} (h0 : 0 ≤ i) (h1 : i < xs.length) : i.toNat < xs.length := by omega
/-- shifts -/
theorem run_shift {op : BinOp} {T yT : TypeId} {x y : Operand} {k k' : IntKind} {a b : Int} {oi : Oper} {d : List Deferred} (hk : Kn N e m t) (hop : oi.op = .binOp op T x y yT) (hx : evA m x = some (.c (.int k a))) (hy : evA m y = some (.c (.int k' b))) (hb : 0 ≤ b) :
    (op = .shl → (execOp (Act.mk t d).eval oi).run P w = .ok (.value (.int k (k.wrap (a * 2 ^ (min b.toNat k.bits))))) w) ∧ (op = .shr → (execOp (Act.mk t d).eval oi).run P w = .ok (.value (.int k (Int.fdiv a (2 ^ (min b.toNat k.bits))))) w) := by
  have hxe := evA_sound (d := d) hk hx
  have hye := evA_sound (d := d) hk hy
  simp only [SA.den, SC.den] at hxe hye
  have hb' : ¬ b < 0 := by omega
  constructor
  · rintro rfl
    unfold execOp
    simp only [hop, hxe, hye, eqGuard, Go.binOp, Op.shift]
    simp [hb']
  · rintro rfl
    unfold execOp
    simp only [hop, hxe, hye, eqGuard, Go.binOp, Op.shift]
    simp [hb']
theorem R_shl {T yT : TypeId} {x y : Operand} {k k' : IntKind} {a b : Int} {d : List Deferred} (i : Nat) {oi : Oper} {dd : Nat} (hk : Kn N e m t) (hi : ops[i]? = some oi) (hop : oi.op = .binOp .shl T x y yT) (hg : Region.wanted oi (yielded ops t) = true) (hdst : oi.dst = some dd) (hlt : dd < N) (hx : evA m x = some (.c (.int k a))) (hy : evA m y = some (.c (.int k' b))) (hb : 0 ≤ b)
    (H : ∀ t', Kn N e (m.put dd (.one (.c (.int k (k.wrap (a * 2 ^ (min b.toNat k.bits))))))) t' → wpFrom P ops Q (i + 1) ⟨t', d⟩ w) : wpFrom P ops Q i ⟨t, d⟩ w :=
  R_one i (.one (.c (.int k (k.wrap (a * 2 ^ (min b.toNat k.bits)))))) hi hg hdst ((run_shift hk hop hx hy hb).1 rfl) (hk.put hlt _) H
theorem R_shr {T yT : TypeId} {x y : Operand} {k k' : IntKind} {a b : Int} {d : List Deferred} (i : Nat) {oi : Oper} {dd : Nat} (hk : Kn N e m t) (hi : ops[i]? = some oi) (hop : oi.op = .binOp .shr T x y yT) (hg : Region.wanted oi (yielded ops t) = true) (hdst : oi.dst = some dd) (hlt : dd < N) (hx : evA m x = some (.c (.int k a))) (hy : evA m y = some (.c (.int k' b))) (hb : 0 ≤ b)
    (H : ∀ t', Kn N e (m.put dd (.one (.c (.int k (Int.fdiv a (2 ^ (min b.toNat k.bits))))))) t' → wpFrom P ops Q (i + 1) ⟨t', d⟩ w) : wpFrom P ops Q i ⟨t, d⟩ w :=
  R_one i (.one (.c (.int k (Int.fdiv a (2 ^ (min b.toNat k.bits)))))) hi hg hdst ((run_shift hk hop hx hy hb).2 rfl) (hk.put hlt _) H
/-- not negative -/
def nng (b : Int) : Option Unit := if b < 0 then none else some ()
theorem nng_some {b : Int} {u : Unit} (h : nng b = some u) : 0 ≤ b := by
  unfold nng at h
  split at h
  · cases h
  · omega
/-- not zero -/
def nz (b : Int) : Option Unit := if b = 0 then none else some ()
theorem nz_some {b : Int} {u : Unit} (h : nz b = some u) : b ≠ 0 := by
  unfold nz at h
  split at h
  · cases h
  · assumption
end
end Go.Proofs.Ytokchpjijlebiaa
