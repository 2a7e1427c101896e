/- What a printed proof leans on: memory that is read, and steps through a region. -/
import Derived.Test.YthcbemnflgjadaaNmS1
import Derived.Scope
set_option linter.all false
namespace Go.Proofs.Ythcbemnflgjadaa
open Go Go.RowKit
open Rep (rep)
section
variable {P : Program} {ops : Array Oper} {X : List Nat} {Q : Exit → Act → World → Prop} {N : Nat} {F : Fr} {h : Heap} {e : Env} {pl : List Plc} {rw : List Row} {w : World} {m : TM} {t : Array Value} {dd : List Deferred} {o : Oper} {d : Nat} {K : Act → World → Prop}
theorem Mem.settlePlc {i : Nat} {T : TypeId} {cs : List SC} (hm : Mem F h e pl rw w) (hp : pl[i]? = some ⟨cs, some T⟩) :
    ∃ h', Heap.le h h' ∧ (∀ j c, cs[j]? = some c → h' (e.blk i).1 ((e.blk i).2 + j) = some (c.den e)) ∧ Mem F h' e (pl.set i ⟨cs, none⟩) rw w := by
  obtain ⟨ow, m⟩ := hm
  have hpi := m.pls i _ hp
  unfold PlcOk at hpi
  obtain ⟨ho, h0, hh, hn⟩ := hpi
  have hlt : i < pl.length := (List.getElem?_eq_some_iff.1 hp).1
  let h' : Heap := fun b o => if b = (e.blk i).1 then (cs.map (SC.den e))[o]? else h b o
  have hle : Heap.le h h' := fun b o v hx => by
    by_cases hb : b = (e.blk i).1
    · rw [hb, hn o] at hx; cases hx
    · simp only [h', hb, if_false]; exact hx
  have hlo := m.ows _ _ ho
  have hnew : ∀ b o x, h' b o = some x → h b o = some x ∨ (b = (e.blk i).1 ∧ (cs.map (SC.den e))[o]? = some x) := fun b o x hx => by
    by_cases hb : b = (e.blk i).1
    · right; simp only [h', hb, if_true] at hx; exact ⟨hb, hx⟩
    · left; simp only [h', hb, if_false] at hx; exact hx
  refine ⟨h', hle, fun j c hj => ?_, fun b => if b = (e.blk i).1 then none else ow b, m.below, Heap.le_trans m.le hle, ?_, ?_, ?_, ?_, ?_, ?_, fun k x hx => ?_⟩
  · simp only [h', if_true, h0, Nat.zero_add]; exact map_get hj
  · intro b o x hx
    rcases hnew b o x hx with h1 | ⟨h1, _⟩
    · exact m.old b o x h1
    · right; rw [h1]; exact hlo.1
  · intro b o x hx
    rcases hnew b o x hx with h1 | ⟨h1, h2⟩
    · exact m.has b o x h1
    · subst h1
      refine ⟨hlo.2, cell_look ?_ (by obtain ⟨c, _, rfl⟩ := List.mem_map.1 (List.mem_of_getElem? h2); exact SC.den_isTup e c)⟩
      simp only [World.cell?, hh]
      simpa using h2
  · intro b x hx
    by_cases hb : b = (e.blk i).1
    · simp [hb] at hx
    · simp only [hb, if_false] at hx; exact m.ows b x hx
  · intro b o x j hx hj
    by_cases hb : b = (e.blk i).1
    · simp [hb] at hj
    · simp only [hb, if_false] at hj
      simp only [h', hb, if_false] at hx
      exact m.hown b o x j hx hj
  · intro j p hj
    by_cases hji : j = i
    · subst hji
      rw [List.getElem?_set_self hlt] at hj
      cases hj
      unfold PlcOk
      intro k c hk
      simp only [h', if_true, h0, Nat.zero_add]; exact map_get hk
    · rw [List.getElem?_set_ne (Ne.symm hji)] at hj
      have := m.pls j p hj
      unfold PlcOk at this ⊢
      split at this
      · obtain ⟨q1, q2, q3, q4⟩ := this
        have hb : (e.blk j).1 ≠ (e.blk i).1 := fun hb => by rw [hb, ho] at q1; simp at q1; exact hji q1.symm
        refine ⟨by simp only [hb, if_false]; exact q1, q2, q3, fun o => ?_⟩
        simp only [h', hb, if_false]; exact q4 o
      · exact fun k c hk => hle _ _ _ (this k c hk)
  · intro j r hr
    obtain ⟨q1, q2, q3, q9⟩ := m.rws j r hr
    refine ⟨q1, q2, fun ad ha => ?_, q9⟩
    obtain ⟨q4, q5, q6⟩ := q3 ad ha
    have hb : ad.block ≠ (e.blk i).1 := fun hb => by rw [hb, ho] at q4; cases q4
    refine ⟨by simp only [hb, if_false]; exact q4, fun o ho' => ?_, fun o ho' => ?_⟩
    · simp only [h', hb, if_false]; exact q5 o ho'
    · simp only [h', hb, if_false]; exact q6 o ho'
  · obtain ⟨h1, h2, h3, h4, h5⟩ := m.ext k x hx
    have hb : k ≠ (e.blk i).1 := fun hb => by rw [hb, ho] at h4; cases h4
    exact ⟨h1, h2, h3, by simp only [hb, if_false]; exact h4, h5.same fun o => by simp only [h', hb, if_false]⟩
def BoxS {α : Type} [Rep α] (h : Heap) (b : Nat) (x : α) : Prop := ∃ cs, rep h x cs ∧ ∀ j c, cs[j]? = some c → h b j = some c
theorem BoxS.mono {α : Type} [Rep α] {h h' : Heap} {b : Nat} {x : α} (hle : Heap.le h h') : BoxS h b x → BoxS h' b x := fun ⟨cs, h1, h2⟩ => ⟨cs, Rep.mono hle h1, fun j c hj => hle _ _ _ (h2 j c hj)⟩
theorem BoxS.of {α : Type} [Rep α] {b : Nat} {x : α} {cs : List SC} {vs : List Value} (h1 : rep h x vs) (hv : cs.map (SC.den e) = vs) (h2 : ∀ j c, cs[j]? = some c → h b (0 + j) = some (c.den e)) : BoxS h b x :=
  ⟨vs, h1, fun j c hj => by
    rw [← hv, List.getElem?_map] at hj
    cases hc : cs[j]? with
    | none => rw [hc] at hj; cases hj
    | some x => rw [hc] at hj; cases hj; rw [← h2 j x hc, Nat.zero_add]⟩
theorem enter' {f : FuncId} {fn : Func} {c : Code} {R : Ending → World → Prop} {vals : Array Value} (N : Nat) (vs : List SA) (hf : P.funcs[f]? = some fn) (hb : fn.body = some c) (hN : fn.ntmps = N) (hn : decide (vs.length ≤ N) = true) (hv : (vs.map (SA.den e)).toArray = vals)
    (H : ∀ t, Kn N e (argTM 0 vs) t → c.wp P (bodyPost P fn R) ⟨t, []⟩ w) : Calls P f vals w R := by
  subst hv
  have hn : vs.length ≤ N := by simpa using hn
  refine calls_of_wp hf hb (H _ ⟨by simp [hN]; omega, fun k v hk => ?_⟩)
  obtain ⟨i, h1, h2⟩ := argTM_get e vs 0 k v hk
  obtain rfl : k = i := by omega
  have hlt : k < (vs.map (SA.den e)).length := by
    rcases Nat.lt_or_ge k (vs.map (SA.den e)).length with h' | h'
    · exact h'
    · rw [List.getElem?_eq_none h'] at h2; cases h2
  rw [Array.getElem?_append_left (by simpa using hlt)]
  simpa using h2
def CallsV (P : Program) (v : Value) (args : Array Value) (w : World) (R : Ending → World → Prop) : Prop :=
  ∃ f first cap, v = .func (.func f) first cap ∧ (∀ as w, (callFunc f as).run P w = .ok (.enter f as) w) ∧ Calls P f (first ++ args ++ cap) w R
theorem wp_callV (v0 : SC) {x : Operand} {args : Array Operand} {tys : Array TypeId} {R : Heap → Value → Prop} (vs : List SA) (vals : Array Value) (hk : Kn N e m t) (hm : Mem F h e pl rw w) (hop : o.op = .call ⟨.value x, args, tys⟩) (hd : o.dst = some d) (hlt : d < N)
    (hx : evA m x = some (.c v0)) (hargs : evAs m args.toList = some vs) (hvals : (vs.map (SA.den e)).toArray = vals) (hcall : CallsV P (v0.den e) vals w (Ret R h w))
    (hK : ∀ v h' w', R h' v → Heap.le h h' → Mem F h' e pl rw w' → ∃ sv : SV, sv.den e = v ∧ ∀ t', Kn N e (m.put d sv) t' → K ⟨t', dd⟩ w') : o.wp P ⟨t, dd⟩ w K Q := by
  subst hvals
  have h1 : args.map (Act.mk t dd).eval = (vs.map (SA.den e)).toArray := by
    rw [← evAs_sound (dd := dd) hk hargs]
    apply Array.ext'
    rw [Array.toList_map]
  obtain ⟨f, first, cap, hv, hent, hcall⟩ := hcall
  have hxe := evA_sound (d := dd) hk hx
  simp only [SA.den, hv] at hxe
  unfold Oper.wp execOp
  simp only [hop, resolve, h1, hxe]
  simp only [Deferred.ofValue, Sem.run_bind, Sem.run_pure, Result.andThen_ok, invoke, hent, Oper.upon]
  refine hcall.mono ?_
  rintro en w' ⟨v, h', rfl, hb, hle, hn, hR⟩
  obtain ⟨sv, hsv, hk'⟩ := hK v h' w' hR hle (hm.call hb hle hn)
  show K _ _
  rw [put_eq t dd hd, ← hsv]
  exact hk' _ (hk.put hlt sv)
theorem run_func {f : FuncId} {first cap : Array Operand} {fs cs : List SA} {d : List Deferred} (hk : Kn N e m t) (hop : o.op = .makeFunc (.func f) first cap) (hf : evAs m first.toList = some fs) (hc : evAs m cap.toList = some cs) :
    (execOp (Act.mk t d).eval o).run P w = .ok (.value (.func (.func f) (fs.map (SA.den e)).toArray (cs.map (SA.den e)).toArray)) w := by
  have h1 : first.map (Act.mk t d).eval = (fs.map (SA.den e)).toArray := by
    rw [← evAs_sound (dd := d) hk hf]
    apply Array.ext'
    rw [Array.toList_map]
  have h2 : cap.map (Act.mk t d).eval = (cs.map (SA.den e)).toArray := by
    rw [← evAs_sound (dd := d) hk hc]
    apply Array.ext'
    rw [Array.toList_map]
  unfold execOp
  simp only [hop, h1, h2]
  rfl
theorem R_func {f : FuncId} {first cap : Array Operand} {fs cs : List SA} {d : List Deferred} (i : Nat) {oi : Oper} {dd : Nat} (va vb : Array Value) (hk : Kn N e m t) (hi : ops[i]? = some oi) (hop : oi.op = .makeFunc (.func f) first cap) (hg : Region.wanted oi (yielded ops t) = true) (hdst : oi.dst = some dd) (hlt : dd < N)
    (hf : evAs m first.toList = some fs) (hc : evAs m cap.toList = some cs) (ha : (fs.map (SA.den e)).toArray = va) (hb : (cs.map (SA.den e)).toArray = vb)
    (H : ∀ t', Kn N e (m.put dd (.one (.c (.func (.func f) va vb)))) t' → wpFrom P ops Q (i + 1) ⟨t', d⟩ w) : wpFrom P ops Q i ⟨t, d⟩ w := by
  subst ha hb
  exact R_one i (.one (.c (.func (.func f) _ _))) hi hg hdst (run_func hk hop hf hc) (hk.put hlt _) H
def sub {α : Type} (xs : List α) (lo : Int) : Option (List α) := if 0 ≤ lo ∧ lo ≤ xs.length then some (xs.drop lo.toNat) else none
theorem Cells.drop {α : Type} [Rep α] : ∀ {xs : List α} {vs : List Value}, Cells h xs vs → ∀ n, n ≤ xs.length → Cells h (xs.drop n) (vs.drop (n * Rep.sz α))
  | _, _, hc, 0, _ => by simpa using hc
  | [], vs, hc, n + 1, hn => by simp at hn
  | x :: r, vs, ⟨c1, c2, e, h1, h2⟩, n + 1, hn => by
    subst e
    have hl := Rep.len h1
    rw [List.drop_succ_cons, show (n + 1) * Rep.sz α = c1.length + n * Rep.sz α by rw [hl, Nat.add_mul]; omega, List.drop_append, List.drop_of_length_le (l := c1) (by omega), List.nil_append]
    rw [show c1.length + n * Rep.sz α - c1.length = n * Rep.sz α by omega]
    exact Cells.drop h2 n (by simpa using hn)
theorem RepS.isNil {α : Type} [Rep α] {a : Option Addr} {c : Nat} {xs : List α} (hr : RepS h a c xs) (hs : 0 < Rep.sz α) (ha : a.isNone = true) : xs = [] := by
  obtain ⟨vs, h1, h2, _⟩ := hr
  cases xs with
  | nil => rfl
  | cons x r =>
    have hl := h1.len
    have : 0 < vs.length := by rw [hl, List.length_cons, Nat.add_mul]; omega
    obtain ⟨ad, e1, _⟩ := h2 0 _ (List.getElem?_eq_getElem this)
    subst e1; cases ha
def subAt (sz : Nat) (a : Option Addr) (c l : Nat) : Option Addr := if c = l then a else a.map (·.add (l * sz))
theorem add_at (ad : Addr) (k : Nat) (h : ad.spot = none) : (ad.add k).block = ad.block ∧ (ad.add k).off = ad.off + k ∧ (ad.add k).spot = none := by
  cases ad
  simp only at h
  subst h
  unfold Addr.add
  split
  · rename_i h0; subst h0; simp
  · simp
theorem RepS.drop {α : Type} [Rep α] {a : Option Addr} {xs : List α} {sz c n : Nat} (hs : Rep.sz α = sz) (hr : RepS h a c xs) (hn : n ≤ xs.length) : RepS h (subAt sz a c n) (c - n) (xs.drop n) := by
  obtain ⟨vs, h1, h2, hc⟩ := hr
  refine ⟨_, h1.drop n hn, fun o x hx => ?_, by rw [List.length_drop]; omega⟩
  rw [List.getElem?_drop] at hx
  obtain ⟨ad, e1, e2, e3⟩ := h2 _ _ hx
  subst e1 hs
  unfold subAt
  split
  · rename_i hcn
    have hlt := (List.getElem?_eq_some_iff.1 hx).1
    rw [h1.len, show xs.length = n by omega] at hlt
    omega
  · obtain ⟨q1, q2, q3⟩ := add_at ad (n * Rep.sz α) e2
    exact ⟨_, rfl, q3, by rw [q1, q2, Nat.add_assoc]; exact e3⟩
theorem Mem.rowCap {i : Nat} {r : Row} (hm : Mem F h e pl rw w) (hi : rw[i]? = some r) : r.n ≤ r.c := by
  obtain ⟨_, h1 | ⟨g, cap, cur, h1, _, _, h2, _⟩⟩ := hm.row hi
  · obtain ⟨h1, h2⟩ := h1; rw [h2]; exact Nat.zero_le _
  · simp only [Value.slice.injEq] at h1; rw [h1.2.2]; exact h2
def CellsAt (h : Heap) (b : Nat) (vs : List Value) : Prop := ∀ j v, vs[j]? = some v → h b j = some v
theorem CellsAt.mono {h h' : Heap} {b : Nat} {vs : List Value} (hle : Heap.le h h') : CellsAt h b vs → CellsAt h' b vs := fun H j v hj => hle _ _ _ (H j v hj)
theorem CellsAt.of {b : Nat} {cs : List SC} {vs : List Value} (hv : cs.map (SC.den e) = vs) (h2 : ∀ j c, cs[j]? = some c → h b (0 + j) = some (c.den e)) : CellsAt h b vs := fun j c hj => by
  rw [← hv, List.getElem?_map] at hj
  cases hc : cs[j]? with
  | none => rw [hc] at hj; cases hj
  | some x => rw [hc] at hj; cases hj; rw [← h2 j x hc, Nat.zero_add]
theorem Cells.take {α : Type} [Rep α] : ∀ {xs : List α} {vs : List Value}, Cells h xs vs → ∀ n, Cells h (xs.take n) (vs.take (n * Rep.sz α))
  | _, _, _, 0 => by simp; rfl
  | [], vs, hc, n + 1 => by rw [show vs = [] from hc]; simp; rfl
  | x :: r, vs, ⟨c1, c2, e, h1, h2⟩, n + 1 => by
    subst e
    have hl := Rep.len h1
    rw [List.take_succ_cons, show (n + 1) * Rep.sz α = c1.length + n * Rep.sz α by rw [hl, Nat.add_mul]; omega, List.take_append, List.take_of_length_le (l := c1) (by omega)]
    rw [show c1.length + n * Rep.sz α - c1.length = n * Rep.sz α by omega]
    exact ⟨c1, _, rfl, h1, Cells.take h2 n⟩
end
end Go.Proofs.Ythcbemnflgjadaa
