/- What a printed proof leans on: memory that is read, and steps through a region. -/
import Derived.Test.YthcbemnflgjadaaNmS4
import Derived.Sort.OwnSortedInts
set_option linter.all false
namespace Go.Proofs.Ythcbemnflgjadaa
open Go Go.RowKit
open Rep (rep)
instance {K α : Type} [DecidableEq K] [DecidableEq α] : DecidableEq (IMap K α) := fun a b => decidable_of_iff (a.l = b.l) ⟨fun h => by cases a; cases b; simp_all, fun h => h ▸ rfl⟩
instance {K α : Type} : Inhabited (IMap K α) := ⟨⟨[]⟩⟩
structure Bx (α : Type) where
  v : α
deriving DecidableEq, Inhabited
instance {α : Type} [Rep α] : Rep (Bx α) := ⟨1, fun h x cs => ∃ b, cs = [.pointer (some ⟨b, 0, none⟩)] ∧ BoxS h b x.v, fun hle ⟨b, e, hb⟩ => ⟨b, e, hb.mono hle⟩, fun ⟨b, e, _⟩ => by subst e; rfl, fun ⟨b, e, _⟩ v hv => by subst e; simp at hv; subst hv; rfl⟩
def sortI (l : List Int) : List Int := l.mergeSort fun x y => decide (x ≤ y)
def sortO (l : List Int) : Option (List Int) := if l.length < 4611686018427387904 then some (sortI l) else none
theorem sortO_some {l u : List Int} (h : sortO l = some u) : l.length < 4611686018427387904 ∧ u = sortI l := by
  unfold sortO at h
  split at h
  · rename_i hl; exact ⟨hl, (Option.some.inj h).symm⟩
  · cases h
theorem sortI_len (l : List Int) : (sortI l).length = l.length := List.length_mergeSort l
def Sorts (P : Program) (f : FuncId) : Prop :=
  (∀ (blk cap : Nat) (zs : List Int) (w : World), Go.Sort.Holds (Value.int .i64) w blk 0 zs.toArray → blk < w.heap.size → zs.length < 4611686018427387904 →
    Calls P f #[.slice (some ⟨blk, 0, none⟩) zs.length cap] w fun e w' => e = .returned (.tuple #[]) ∧ ∃ n os, w' = Go.Sort.grow (Go.Sort.putRow (Value.int .i64) (Go.Sort.ahead w n) blk 0 (sortI zs).toArray) os) ∧
  (∀ (c : Nat) (w : World), Calls P f #[.slice none 0 c] w fun e w' => e = .returned (.tuple #[]) ∧ w' = w)
theorem cells_ints {h : Heap} : ∀ {l : List Int} {xs : List Value}, Cells h l xs → xs = l.map (Value.int .i64)
  | [], xs, hc => hc
  | x :: l, xs, hc => by
    obtain ⟨cs, rest, rfl, hx, hr⟩ := hc
    have hx' : cs = [Value.int .i64 x] := hx
    rw [hx', cells_ints hr]; rfl
theorem cells_ofInts (h : Heap) : ∀ (l : List Int), Cells h l (l.map (Value.int .i64))
  | [] => rfl
  | x :: l => ⟨[.int .i64 x], _, rfl, rfl, cells_ofInts h l⟩
section
variable {P : Program} {N : Nat} {F : Fr} {h : Heap} {e : Env} {pl : List Plc} {rw : List Row} {m : TM} {t : Array Value} {dd : List Deferred} {w w' : World}
  {o : Oper} {K : Act → World → Prop} {Q : Exit → Act → World → Prop} {d : Nat}
theorem wp_sort {f : FuncId} {args : Array Operand} {tys : Array TypeId} {r : Row} {l : List Int} (S : Sorts P f) (i : Nat) (hk : Kn N e m t) (hm : Mem F h e pl rw w) (hop : o.op = .call ⟨.value (.func f), args, tys⟩) (hd : o.dst = some d) (hlt : d < N)
    (hargs : evAs m args.toList = some [.c (.slice r.a r.n r.c)]) (hent : ∀ args w, (callFunc f args).run P w = .ok (.enter f args) w) (hi : rw[i]? = some r) (hsz : r.sz = 1) (hn : r.n = l.length) (hf : r.frz = 0) (hc : Cells h l r.xs) (hlen : l.length < 4611686018427387904)
    (hK : ∀ t' w', Kn N e (m.put d (.tup [])) t' → Mem F h e pl (rw.set i ⟨r.a, r.n, r.c, r.E, r.sz, (sortI l).map (Value.int .i64), 0⟩) w' → K ⟨t', dd⟩ w') : o.wp P ⟨t, dd⟩ w K Q := by
  have h1 : args.map (Act.mk t dd).eval = #[.slice r.a r.n r.c] := by
    have := evAs_sound (dd := dd) hk hargs
    apply Array.ext'
    rw [Array.toList_map, this]; rfl
  have hxs := cells_ints hc
  have hcall : Calls P f #[.slice r.a r.n r.c] w fun en w' => en = .returned (.tuple #[]) ∧ Mem F h e pl (rw.set i ⟨r.a, r.n, r.c, r.E, r.sz, (sortI l).map (Value.int .i64), 0⟩) w' := by
    have hrow := hm.row hi
    rcases hrow.2 with ⟨hv, h0⟩ | ⟨g, cap, cur, hv, hb, hg, q1, q2, q3, q4⟩
    · obtain ⟨ra, rn, rc, rE, rsz, rxs, rfz⟩ := r
      simp only at *
      have ha : ra = none := by simpa using congrArg (fun v => match v with | Value.slice a _ _ => a | _ => none) hv
      subst ha
      have hl : l = [] := List.eq_nil_of_length_eq_zero (by omega)
      subst hl
      subst h0
      refine (S.2 rc w).mono ?_
      rintro en w' ⟨rfl, rfl⟩
      refine ⟨rfl, ?_⟩
      have : rw.set i ⟨none, 0, rc, rE, rsz, List.map (Value.int .i64) (sortI []), 0⟩ = rw := by
        have hq : (⟨none, 0, rc, rE, rsz, List.map (Value.int .i64) (sortI []), 0⟩ : Row) = ⟨none, 0, rc, rE, rsz, rxs, rfz⟩ := by
          rw [hxs, hf, show sortI [] = [] from by simp [sortI]]
        rw [hq]
        exact set_same hi
      rw [this]; exact hm
    · obtain ⟨ra, rn, rc, rE, rsz, rxs, rfz⟩ := r
      simp only at *
      simp only [Value.slice.injEq, true_and] at hv
      obtain ⟨rfl, rfl⟩ := hv
      subst hn hsz
      have hhold : Go.Sort.Holds (Value.int .i64) w g 0 l.toArray := holds_of_blockI hg (by rw [Nat.mul_one] at q4; rw [q4, hxs])
      have hlt := (Array.getElem?_eq_some_iff.1 hg).1
      refine (S.1 g rc l w hhold hlt hlen).mono ?_
      rintro en w' ⟨rfl, n, os, rfl⟩
      refine ⟨rfl, hm.setRow hi (r' := ⟨some ⟨g, 0, none⟩, l.length, rc, rE, 1, (sortI l).map (Value.int .i64), 0⟩) ?_ (fun o ho => absurd ho (by simp [hf])) (fun v hv => ?_) (.inl ⟨rfl, hf.symm, grownBy_sortedI _⟩)⟩
      · exact ownsRow_sortedI (by rw [sortI_len]) hb hg q1 q2 q3
      · obtain ⟨x, _, rfl⟩ := List.mem_map.1 hv; rfl
  unfold Oper.wp execOp
  simp only [hop, resolve, h1]
  simp only [Act.eval, Deferred.ofValue, Sem.run_bind, Sem.run_pure, Result.andThen_ok, invoke, Array.empty_append, Array.append_empty, hent, Oper.upon]
  refine hcall.mono ?_
  rintro en w' ⟨rfl, hm'⟩
  show K _ _
  rw [put_eq t dd hd]
  exact hK _ _ (hk.put hlt (.tup [])) hm'
where
  set_same {α : Type} {l : List α} {i : Nat} {x : α} (h : l[i]? = some x) : l.set i x = l := by
    apply List.ext_getElem?
    intro j
    by_cases hj : i = j
    · subst hj
      have hlt : i < l.length := (List.getElem?_eq_some_iff.1 h).1
      rw [List.getElem?_set_self hlt, h]
    · rw [List.getElem?_set_ne hj]
theorem RepS.take {α : Type} [Rep α] {a : Option Addr} {xs : List α} {c : Nat} (hr : RepS h a c xs) (n : Nat) : RepS h a c (xs.take n) := by
  obtain ⟨vs, h1, h2, hc⟩ := hr
  refine ⟨_, h1.take n, fun o x hx => ?_, by rw [List.length_take]; omega⟩
  rw [List.getElem?_take] at hx
  split at hx
  · exact h2 _ _ hx
  · cases hx
theorem RepS.cap {α : Type} [Rep α] {a : Option Addr} {xs : List α} {c : Nat} (hr : RepS h a c xs) : xs.length ≤ c := by
  obtain ⟨_, _, _, h⟩ := hr
  exact h
end
end Go.Proofs.Ythcbemnflgjadaa
