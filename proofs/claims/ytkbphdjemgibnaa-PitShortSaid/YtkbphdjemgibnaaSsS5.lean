/- What a printed proof leans on: memory that is read, and steps through a region. -/
import Derived.Test.YtkbphdjemgibnaaSsS4
import Derived.Sort.OwnSortedInts
set_option linter.all false
namespace Go.Proofs.Ytkbphdjemgibnaa
open Go Go.RowKit
open Rep (rep)
instance {K α : Type} [DecidableEq K] [DecidableEq α] : DecidableEq (IMap K α) := fun a b => decidable_of_iff (a.l = b.l) ⟨fun h => by cases a; cases b; simp_all, fun h => h ▸ rfl⟩
instance {K α : Type} : Inhabited (IMap K α) := ⟨⟨[]⟩⟩
structure Bx (α : Type) where
  v : α
deriving DecidableEq, Inhabited
instance {α : Type} [Rep α] : Rep (Bx α) := ⟨1, fun h x cs => ∃ b, cs = [.pointer (some ⟨b, 0, none⟩)] ∧ BoxS h b x.v, fun hle ⟨b, e, hb⟩ => ⟨b, e, hb.mono hle⟩, fun ⟨b, e, _⟩ => by subst e; rfl, fun ⟨b, e, _⟩ v hv => by subst e; simp at hv; subst hv; rfl⟩
def PtrS {α : Type} [Rep α] (h : Heap) (v : Value) : Option (Bx α) → Prop
  | none => v = .pointer none
  | some x => ∃ b, v = .pointer (some ⟨b, 0, none⟩) ∧ BoxS h b x.v
def ptrCase {α β : Type} (o : Option α) (A : β) (B : α → β) : β := match o with
  | none => A
  | some x => B x
theorem ptrCase_none {α β : Type} {A : β} {B : α → β} : ptrCase none A B = A := rfl
theorem ptrCase_some {α β : Type} {A : β} {B : α → β} {x : α} : ptrCase (some x) A B = B x := rfl
def sortI (l : List Int) : List Int := l.mergeSort fun x y => decide (x ≤ y)
def sortO (l : List Int) : Option (List Int) := if l.length < 4611686018427387904 then some (sortI l) else none
theorem sortO_some {l u : List Int} (h : sortO l = some u) : l.length < 4611686018427387904 ∧ u = sortI l := by
  unfold sortO at h
  split at h
  · rename_i hl; exact ⟨hl, (Option.some.inj h).symm⟩
  · cases h
theorem sortI_len (l : List Int) : (sortI l).length = l.length := List.length_mergeSort l
def Sorts (P : Program) (f : FuncId) : Prop :=
  (∀ (blk cap : Nat) (zs : List Int) (w : World), Go.Sort.Holds (Value.int .i64) w blk 0 zs.toArray → blk < w.heap.size → zs.length < 4611686018427387904 →
    Calls P f #[.slice (some ⟨blk, 0, none⟩) zs.length cap] w fun e w' => e = .returned (.tuple #[]) ∧ ∃ n os, w' = Go.Sort.grow (Go.Sort.putRow (Value.int .i64) (Go.Sort.ahead w n) blk 0 (sortI zs).toArray) os) ∧
  (∀ (c : Nat) (w : World), Calls P f #[.slice none 0 c] w fun e w' => e = .returned (.tuple #[]) ∧ w' = w)
theorem cells_ints {h : Heap} : ∀ {l : List Int} {xs : List Value}, Cells h l xs → xs = l.map (Value.int .i64)
  | [], xs, hc => hc
  | x :: l, xs, hc => by
    obtain ⟨cs, rest, rfl, hx, hr⟩ := hc
    have hx' : cs = [Value.int .i64 x] := hx
    rw [hx', cells_ints hr]; rfl
theorem cells_ofInts (h : Heap) : ∀ (l : List Int), Cells h l (l.map (Value.int .i64))
  | [] => rfl
  | x :: l => ⟨[.int .i64 x], _, rfl, rfl, cells_ofInts h l⟩
section
variable {P : Program} {N : Nat} {F : Fr} {h : Heap} {e : Env} {pl : List Plc} {rw : List Row} {m : TM} {t : Array Value} {dd : List Deferred} {w w' : World}
  {o : Oper} {K : Act → World → Prop} {Q : Exit → Act → World → Prop} {d : Nat}
theorem wp_sort {f : FuncId} {args : Array Operand} {tys : Array TypeId} {r : Row} {l : List Int} (S : Sorts P f) (i : Nat) (hk : Kn N e m t) (hm : Mem F h e pl rw w) (hop : o.op = .call ⟨.value (.func f), args, tys⟩) (hd : o.dst = some d) (hlt : d < N)
    (hargs : evAs m args.toList = some [.c (.slice r.a r.n r.c)]) (hent : ∀ args w, (callFunc f args).run P w = .ok (.enter f args) w) (hi : rw[i]? = some r) (hsz : r.sz = 1) (hn : r.n = l.length) (hf : r.frz = 0) (hc : Cells h l r.xs) (hlen : l.length < 4611686018427387904)
    (hK : ∀ t' w', Kn N e (m.put d (.tup [])) t' → Mem F h e pl (rw.set i ⟨r.a, r.n, r.c, r.E, r.sz, (sortI l).map (Value.int .i64), 0⟩) w' → K ⟨t', dd⟩ w') : o.wp P ⟨t, dd⟩ w K Q := by
  have h1 : args.map (Act.mk t dd).eval = #[.slice r.a r.n r.c] := by
    have := evAs_sound (dd := dd) hk hargs
    apply Array.ext'
    rw [Array.toList_map, this]; rfl
  have hxs := cells_ints hc
  have hcall : Calls P f #[.slice r.a r.n r.c] w fun en w' => en = .returned (.tuple #[]) ∧ Mem F h e pl (rw.set i ⟨r.a, r.n, r.c, r.E, r.sz, (sortI l).map (Value.int .i64), 0⟩) w' := by
    have hrow := hm.row hi
    rcases hrow.2 with ⟨hv, h0⟩ | ⟨g, cap, cur, hv, hb, hg, q1, q2, q3, q4⟩
    · obtain ⟨ra, rn, rc, rE, rsz, rxs, rfz⟩ := r
      simp only at *
      have ha : ra = none := by simpa using congrArg (fun v => match v with | Value.slice a _ _ => a | _ => none) hv
      subst ha
      have hl : l = [] := List.eq_nil_of_length_eq_zero (by omega)
      subst hl
      subst h0
      refine (S.2 rc w).mono ?_
      rintro en w' ⟨rfl, rfl⟩
      refine ⟨rfl, ?_⟩
      have : rw.set i ⟨none, 0, rc, rE, rsz, List.map (Value.int .i64) (sortI []), 0⟩ = rw := by
        have hq : (⟨none, 0, rc, rE, rsz, List.map (Value.int .i64) (sortI []), 0⟩ : Row) = ⟨none, 0, rc, rE, rsz, rxs, rfz⟩ := by
          rw [hxs, hf, show sortI [] = [] from by simp [sortI]]
        rw [hq]
        exact set_same hi
      rw [this]; exact hm
    · obtain ⟨ra, rn, rc, rE, rsz, rxs, rfz⟩ := r
      simp only at *
      simp only [Value.slice.injEq, true_and] at hv
      obtain ⟨rfl, rfl⟩ := hv
      subst hn hsz
      have hhold : Go.Sort.Holds (Value.int .i64) w g 0 l.toArray := holds_of_blockI hg (by rw [Nat.mul_one] at q4; rw [q4, hxs])
      have hlt := (Array.getElem?_eq_some_iff.1 hg).1
      refine (S.1 g rc l w hhold hlt hlen).mono ?_
      rintro en w' ⟨rfl, n, os, rfl⟩
      refine ⟨rfl, hm.setRow hi (r' := ⟨some ⟨g, 0, none⟩, l.length, rc, rE, 1, (sortI l).map (Value.int .i64), 0⟩) ?_ (fun o ho => absurd ho (by simp [hf])) (fun v hv => ?_) (.inl ⟨rfl, hf.symm, grownBy_sortedI _⟩)⟩
      · exact ownsRow_sortedI (by rw [sortI_len]) hb hg q1 q2 q3
      · obtain ⟨x, _, rfl⟩ := List.mem_map.1 hv; rfl
  unfold Oper.wp execOp
  simp only [hop, resolve, h1]
  simp only [Act.eval, Deferred.ofValue, Sem.run_bind, Sem.run_pure, Result.andThen_ok, invoke, Array.empty_append, Array.append_empty, hent, Oper.upon]
  refine hcall.mono ?_
  rintro en w' ⟨rfl, hm'⟩
  show K _ _
  rw [put_eq t dd hd]
  exact hK _ _ (hk.put hlt (.tup [])) hm'
where
  set_same {α : Type} {l : List α} {i : Nat} {x : α} (h : l[i]? = some x) : l.set i x = l := by
    apply List.ext_getElem?
    intro j
    by_cases hj : i = j
    · subst hj
      have hlt : i < l.length := (List.getElem?_eq_some_iff.1 h).1
      rw [List.getElem?_set_self hlt, h]
    · rw [List.getElem?_set_ne hj]
theorem wp_callP {f : FuncId} {args : Array Operand} {tys : Array TypeId} {R : Heap → Value → Prop} (vs : List SA) (vals : Array Value) (hk : Kn N e m t) (hm : Mem F h e pl rw w) (hop : o.op = .call ⟨.value (.func f), args, tys⟩) (hd : o.dst = some d) (hlt : d < N)
    (hargs : evAs m args.toList = some vs) (hvals : (vs.map (SA.den e)).toArray = vals) (hent : ∀ args w, (callFunc f args).run P w = .ok (.enter f args) w) (hcall : Calls P f vals w (Ret R h w))
    (hK : ∀ v h' w', R h' v → Heap.le h h' → Mem F h' e pl rw w' → (∃ sv : SV, sv.den e = v ∧ ∀ t', Kn N e (m.put d sv) t' → K ⟨t', dd⟩ w') ∨
      (∃ (b : Nat) (sv : SV), okTM e.length m = true ∧ sv.den (e ++ [(b, 0)]) = v ∧ ∀ t', Kn N (e ++ [(b, 0)]) (m.put d sv) t' → K ⟨t', dd⟩ w')) : o.wp P ⟨t, dd⟩ w K Q := by
  subst hvals
  have h1 : args.map (Act.mk t dd).eval = (vs.map (SA.den e)).toArray := by
    rw [← evAs_sound (dd := dd) hk hargs]
    apply Array.ext'
    rw [Array.toList_map]
  unfold Oper.wp execOp
  simp only [hop, resolve, h1]
  simp only [Act.eval, Deferred.ofValue, Sem.run_bind, Sem.run_pure, Result.andThen_ok, invoke, Array.empty_append, Array.append_empty, hent, Oper.upon]
  refine hcall.mono ?_
  rintro en w' ⟨v, h', rfl, hb, hle, hn, hR⟩
  show K _ _
  rcases hK v h' w' hR hle (hm.call hb hle hn) with ⟨sv, hsv, hk'⟩ | ⟨b, sv, hok, hsv, hk'⟩
  · rw [put_eq t dd hd, ← hsv]
    exact hk' _ (hk.put hlt sv)
  · rw [put_eq t dd hd, ← hsv]
    exact hk' _ ((hk.push (b, 0) hok).put hlt sv)
theorem wp_callS {f : FuncId} {args : Array Operand} {tys : Array TypeId} {R : Heap → Value → Prop} {h1 : Heap} (vs : List SA) (vals : Array Value) (hk : Kn N e m t) (hm : Mem F h e pl rw w) (hop : o.op = .call ⟨.value (.func f), args, tys⟩) (hd : o.dst = some d) (hlt : d < N)
    (hargs : evAs m args.toList = some vs) (hvals : (vs.map (SA.den e)).toArray = vals) (hent : ∀ args w, (callFunc f args).run P w = .ok (.enter f args) w) (hcall : Calls P f vals w (Ret R h1 w))
    (hK : ∀ v h' w', R h' v → Heap.le h1 h' → Mem F h e pl rw w' → ∃ sv : SV, sv.den e = v ∧ ∀ t', Kn N e (m.put d sv) t' → K ⟨t', dd⟩ w') : o.wp P ⟨t, dd⟩ w K Q := by
  subst hvals
  have h1 : args.map (Act.mk t dd).eval = (vs.map (SA.den e)).toArray := by
    rw [← evAs_sound (dd := dd) hk hargs]
    apply Array.ext'
    rw [Array.toList_map]
  unfold Oper.wp execOp
  simp only [hop, resolve, h1]
  simp only [Act.eval, Deferred.ofValue, Sem.run_bind, Sem.run_pure, Result.andThen_ok, invoke, Array.empty_append, Array.append_empty, hent, Oper.upon]
  refine hcall.mono ?_
  rintro en w' ⟨v, h', rfl, hb, hle, hn, hR⟩
  obtain ⟨sv, hsv, hk'⟩ := hK v h' w' hR hle (hm.call hb (Heap.le_refl _) fun _ _ _ hx => .inl hx)
  show K _ _
  rw [put_eq t dd hd, ← hsv]
  exact hk' _ (hk.put hlt sv)
theorem run_sliceW {x : Operand} {T E : TypeId} {n sz i off : Nat} {d : List Deferred} (hk : Kn N e m t) (hop : o.op = .slice T x none none none) (hx : evA m x = some (.c (.ptr i off)))
    (hT : P.underlying T = some (.array n E)) (hE : tySz P E = some sz) :
    (execOp (Act.mk t d).eval o).run P w = .ok (.value (.slice (some ⟨(e.blk i).1, (e.blk i).2 + off, none⟩) n n)) w := by
  have hxe := evA_sound (d := d) hk hx
  simp only [SA.den, SC.den] at hxe
  have hz : ∀ a : Addr, (if n = 0 then a else a.add (0 * sz)) = a := fun a => by
    split
    · rfl
    · rw [Nat.zero_mul]; cases a; rfl
  unfold execOp
  simp only [hop, Option.map, hxe, Instr.sliceAt, Instr.sureAddr, Instr.sliceBounds, Instr.sliceBound, asIntOf, Sem.run_bind, Sem.run_pure, Result.andThen_ok, run_underlying hT, run_sizeOf' w hE, hz]
  rfl
theorem RepS.take {α : Type} [Rep α] {a : Option Addr} {xs : List α} {c : Nat} (hr : RepS h a c xs) (n : Nat) : RepS h a c (xs.take n) := by
  obtain ⟨vs, h1, h2, hc⟩ := hr
  refine ⟨_, h1.take n, fun o x hx => ?_, by rw [List.length_take]; omega⟩
  rw [List.getElem?_take] at hx
  split at hx
  · exact h2 _ _ hx
  · cases hx
theorem RepS.cap {α : Type} [Rep α] {a : Option Addr} {xs : List α} {c : Nat} (hr : RepS h a c xs) : xs.length ≤ c := by
  obtain ⟨_, _, _, h⟩ := hr
  exact h
def SlAll {α : Type} [Rep α] (h : Heap) : List SC → List (List α) → Prop
  | [], [] => True
  | c :: cs, x :: xs => (∃ a k, c = .slice a x.length k ∧ RepS h a k x) ∧ SlAll h cs xs
  | _, _ => False
theorem sl_nil {α : Type} [Rep α] : SlAll (α := α) h [] [] := trivial
theorem sl_cons {α : Type} [Rep α] {a : Option Addr} {k : Nat} {x : List α} {cs : List SC} {xs : List (List α)} (hr : RepS h a k x) (ht : SlAll h cs xs) : SlAll h (.slice a x.length k :: cs) (x :: xs) := ⟨⟨a, k, rfl, hr⟩, ht⟩
theorem sl_get0 {α : Type} [Rep α] : ∀ {cs : List SC} {xs : List (List α)}, SlAll h cs xs → ∀ {k : Nat} {x : List α}, xs[k]? = some x → ∃ a c, (cs.drop k).take 1 = [.slice a x.length c] ∧ RepS h a c x
  | [], [], _, k, x, hx => by simp at hx
  | c :: cs, y :: xs, H, 0, x, hx => by
    obtain ⟨⟨a, k, rfl, hr⟩, _⟩ := H
    simp at hx
    subst hx
    exact ⟨a, k, rfl, hr⟩
  | c :: cs, y :: xs, H, k + 1, x, hx => by
    obtain ⟨a, c', h1, h2⟩ := sl_get0 H.2 (by simpa using hx)
    exact ⟨a, c', by simpa using h1, h2⟩
  | [], _ :: _, H, _, _, _ => H.elim
  | _ :: _, [], H, _, _, _ => H.elim
theorem sl_get {α : Type} [Rep α] {cs : List SC} {xs : List (List α)} (H : SlAll h cs xs) {k O : Nat} {x : List α} (hx : xs[k]? = some x) (hO : O = 0 + k * 1) : ∃ a c, (cs.drop O).take 1 = [.slice a x.length c] ∧ RepS h a c x := by
  subst hO
  rw [Nat.zero_add, Nat.mul_one]
  exact sl_get0 H hx
def copyL (xs l : List Int) : List Int := l.take xs.length ++ xs.drop l.length
theorem wp_copyA {x y : Operand} {T T2 E : TypeId} {i n : Nat} {TT : TypeId} {p cs : List SC} {l xs ys : List Int} {a : Option Addr} {c : Nat} (ad : Addr) (hk : Kn N e m t) (hm : Mem F h e pl rw w) (hop : o.op = .call ⟨.builtin .copy, #[x, y], #[T, T2]⟩) (hd : o.dst = some d) (hlt : d < N)
    (hx : evA m x = some (.c (.slice (some ad) n n))) (had : (⟨(e.blk i).1, 0, none⟩ : Addr) = ad) (hy : evA m y = some (.c (.slice a l.length c))) (hT : P.underlying T = some (.slice E)) (hE : tySz P E = some 1)
    (hp : pl[i]? = some ⟨p, some TT⟩) (hxs : p = xs.map (SC.int .i64)) (hn : xs.length = n) (hr : RepS h a c l) (hcs : cs = ys.map (SC.int .i64)) (hys : ys = copyL xs l)
    (hK : ∀ t' w', Kn N e (m.put d (.one (.c (.int .i64 ((min l.length n : Nat) : Int))))) t' → Mem F h e (pl.set i ⟨cs, some TT⟩) rw w' → K ⟨t', dd⟩ w') : o.wp P ⟨t, dd⟩ w K Q := by
  subst hcs hys had hxs hn
  obtain ⟨ow, mm⟩ := id hm
  have hpi := mm.pls i _ hp
  unfold PlcOk at hpi
  obtain ⟨_, h0, hh, _⟩ := hpi
  have hxe := evA_sound (d := dd) hk hx
  have hye := evA_sound (d := dd) hk hy
  simp only [SA.den, SC.den] at hxe hye
  have hmin : Nat.min l.length xs.length = min l.length xs.length := rfl
  have hlt : min l.length xs.length ≤ xs.length := Nat.min_le_right _ _
  have hload : (Builtin.firstCells 1 (min l.length xs.length) (.slice a l.length c)).run P w = .ok ((l.take xs.length).map (Value.int .i64)).toArray w := by
    obtain ⟨vs, hc, hs, _⟩ := hr
    have hvs := cells_ints hc
    subst hvs
    cases a with
    | none =>
      have : l = [] := by
        cases l with
        | nil => rfl
        | cons q r => obtain ⟨ad, h1, _⟩ := hs 0 _ rfl; cases h1
      subst this
      simp [Builtin.firstCells]
    | some ad =>
      have h2 := run_loadCells_list (P := P) w ad ((l.take xs.length).map (Value.int .i64)) (fun j v hj => by
        rw [List.getElem?_map, List.getElem?_take] at hj
        split at hj
        · obtain ⟨ad', h1, h2, h3⟩ := hs j v (by rw [List.getElem?_map]; exact hj)
          cases h1
          have := look_cell (hm.has _ _ _ h3).2 (by obtain ⟨z, _, rfl⟩ := Option.map_eq_some_iff.1 hj; rfl)
          rw [add_eq _ _ h2]; exact this
        · simp at hj)
      rw [List.length_map, List.length_take, Nat.min_comm] at h2
      simp only [Builtin.firstCells, Nat.mul_one]
      exact h2
  have hst := run_storeCells_at P (e.blk i).1 0 TT ((l.take xs.length).map (Value.int .i64)) 0 _ w hh (by simp; omega) (by intro u hu; obtain ⟨c, _, rfl⟩ := List.mem_map.1 hu; rfl)
  have hcopy : ∀ w2, (storeCells ⟨(e.blk i).1, 0, none⟩ ((l.take xs.length).map (Value.int .i64)) 0).run P w = .ok () w2 → (Builtin.copy_ #[T, T2] o.type #[.slice (some ⟨(e.blk i).1, 0, none⟩) xs.length xs.length, .slice a l.length c]).run P w = .ok (.int .i64 ((min l.length xs.length : Nat) : Int)) w2 := by
    intro w2 hw2
    simp only [List.map_take] at hw2
    simp [Builtin.copy_, run_underlying hT, Builtin.lenOf, run_sizeOf' w hE, hmin, hload, hw2, goInt]
  replace hcopy := hcopy _ hst
  unfold Oper.wp execOp
  simp only [hop, resolve, invoke, builtin, List.map_toArray, List.map_cons, List.map_nil, hxe, hye, Sem.run_bind, Sem.run_pure, Result.andThen_ok, hcopy]
  show K _ _
  rw [put_eq t dd hd]
  refine hK _ _ (hk.put ‹d < N› (.one (.c (.int .i64 _)))) (hm.setPlc hp ?_ ?_)
  · exact ⟨rfl, rfl, rfl, by simp, fun k _ hne => setRow_other w _ k _ (fun hh => hne (by rw [hh]))⟩
  · rw [setRow_heap w _ _ _ TT (0, 0) hh]
    simp [copyL, List.map_take, List.map_drop, SC.den, Function.comp_def]
    exact Nat.min_comm _ _
theorem Mem.oldAt (hm : Mem F h e pl rw w) {b : Nat} {x : Obj} (hb : F.w.heap[b]? = some x) : w.heap[b]? = some x := by
  have hlt := (Array.getElem?_eq_some_iff.1 hb).1
  rw [hm.below.block b hlt, hb]
end
end Go.Proofs.Ytkbphdjemgibnaa
