/- Operations on maps. -/
import Derived.Test.YtokchpjijlebiaaSymK
set_option linter.all false
namespace Go.Proofs.Ytokchpjijlebiaa
open Go Go.RowKit
open Rep (rep)
open KRep (kv)
open VRep (rv)
open Go.ChangeMaps (setBlock)
theorem set_same {β : Type} {l : List β} {j : Nat} {a : β} (h : l[j]? = some a) : l.set j a = l := by
  apply List.ext_getElem?
  intro i
  by_cases hi : i = j
  · subst hi; rw [List.getElem?_set_self (List.getElem?_eq_some_iff.1 h).1, h]
  · rw [List.getElem?_set_ne (Ne.symm hi)]
section
variable {P : Program} {KT : TypeId} {K α : Type} [KRep K] [DecidableEq K] [VRep α] {h : Heap} {w : World}
/-- m[k] = v -/
theorem run_update {T E : TypeId} {b c : Nat} {es : Array MapEntry} {l : List (K × α)} {k : K} {x : α} {v : Value} (hT : P.underlying T = some (.map KT E)) (L : KL P KT K) (hb : w.heap[b]? = some (.map es c))
    (H : Ents h es.toList c l) (hx : rv h x v) : ∃ es' c', (Instr.mapUpdate T (.map (some b)) (kv k) v).run P w = .ok () (setBlock w b (.map es' c')) ∧ Ents h es'.toList c' (put? l k x) := by
  have hset : ∀ o' : Obj, (setObj b o').run P w = .ok () (setBlock w b o') := fun o' => MapKept.run_setObj_map o' hb
  rcases find_spec L w k H with ⟨a1, a2, a3⟩ | ⟨j, en, x', b1, b2, b3, b4, b6, b7⟩
  · refine ⟨es.push { key := kv k, val := v, born := c }, c + 1, ?_, ?_⟩
    · unfold Instr.mapUpdate
      simp only [Sem.run_bind, run_underlying hT, Result.andThen_ok, MapKept.run_getObj_map hb, L.check, a3, hset]
    · rw [put?_none a2, Array.toList_push]
      refine ⟨H.all.append (.cons ⟨rfl, hx⟩ .nil), ?_, ?_, ?_⟩
      · rw [List.map_append, List.nodup_append]
        refine ⟨H.born, by simp, fun a ha b' hb' => ?_⟩
        obtain ⟨en, he, rfl⟩ := List.mem_map.1 ha
        have := H.lt en he
        simp at hb'
        omega
      · intro en he
        rcases List.mem_append.1 he with he | he
        · have := H.lt en he; omega
        · simp at he; subst he; simp
      · rw [List.map_append, List.nodup_append]
        refine ⟨H.keys, by simp, fun a ha b' hb' => ?_⟩
        obtain ⟨p, hpp, rfl⟩ := List.mem_map.1 ha
        simp at hb'
        subst hb'
        exact a2 p hpp
  · have hes : es[j]? = some en := by rw [← Array.getElem?_toList]; exact b1
    have hst : (Instr.keyThatStays (((es[j]?).map (·.key)).getD (kv k)) (kv k)).run P w = .ok (kv k) w := by
      rw [hes]
      simp only [Option.map_some, Option.getD_some, b4]
      exact L.stays w k
    refine ⟨es.modify j fun e => { e with key := kv k, val := v }, c, ?_, ?_⟩
    · unfold Instr.mapUpdate
      simp only [Sem.run_bind, run_underlying hT, Result.andThen_ok, MapKept.run_getObj_map hb, L.check, b7, hst, hset]
    · rw [Array.toList_modify, ChangeMaps.modify_eq_set _ _ _ _ b1, put?_at H.keys b2]
      refine ⟨H.all.set ⟨rfl, hx⟩, ?_, ?_, ?_⟩
      · rw [List.map_set, set_same (by rw [List.getElem?_map, b1]; rfl)]; exact H.born
      · intro q hq
        rcases List.mem_or_eq_of_mem_set hq with hq | rfl
        · exact H.lt q hq
        · exact H.lt en (List.mem_of_getElem? b1)
      · rw [List.map_set, set_same (by rw [List.getElem?_map, b2]; rfl)]; exact H.keys
/-- m[k] -/
theorem run_lookup {T E : TypeId} {b c : Nat} {es : Array MapEntry} {l : List (K × α)} {k : K} {z : Value} (hT : P.underlying T = some (.map KT E)) (L : KL P KT K) (hb : w.heap[b]? = some (.map es c))
    (H : Ents h es.toList c l) (hz : (zeroValue E).run P w = .ok z w) (ok : Bool) :
    (look? l k = none ∧ (Instr.lookup T (.map (some b)) (kv k) ok).run P w = .ok (if ok then .tuple #[z, .bool false] else z) w) ∨
    ∃ x v, look? l k = some x ∧ rv h x v ∧ (Instr.lookup T (.map (some b)) (kv k) ok).run P w = .ok (if ok then .tuple #[v, .bool true] else v) w := by
  rcases find_spec L w k H with ⟨a1, a2, a3⟩ | ⟨j, en, x', b1, b2, b3, b4, b6, b7⟩
  · refine .inl ⟨a1, ?_⟩
    unfold Instr.lookup
    simp only [Sem.run_bind, run_underlying hT, Result.andThen_ok, MapKept.run_getObj_map hb, L.check, a3, hz, Sem.run_pure]
  · refine .inr ⟨x', en.val, b3, b6, ?_⟩
    unfold Instr.lookup
    simp only [Sem.run_bind, run_underlying hT, Result.andThen_ok, MapKept.run_getObj_map hb, L.check, b7, Sem.run_pure]
end
section
variable {P : Program} {ops : Array Oper} {X : List Nat} {Q : Exit → Act → World → Prop} {N : Nat} {F : Fr} {h : Heap} {e : Env} {pl : List Plc} {rw : List Row} {w w' : World} {m : TM} {t : Array Value} {dd : List Deferred} {o : Oper} {d : Nat} {K : Act → World → Prop} {KK α : Type} [KRep KK] [DecidableEq KK] [VRep α]
theorem setBlock_grown (w : World) (b : Nat) (o : Obj) : w.grownBy (setBlock w b o) (some b) := ⟨rfl, rfl, rfl, by simp [setBlock], fun k _ hne => by
  simp only [setBlock]
  rw [Array.getElem?_setIfInBounds_ne (fun hh => hne (by rw [hh]))]⟩
theorem setBlock_at {w : World} {b : Nat} {o o' : Obj} (h : w.heap[b]? = some o') : (setBlock w b o).heap[b]? = some o := by
  have hlt := (Array.getElem?_eq_some_iff.1 h).1
  simp [setBlock, hlt]
/-- a map is made -/
theorem wp_makeMap {T : TypeId} (hk : Kn N e m t) (hm : Mem F h e pl rw w) (hop : o.op = .makeMap T none) (hd : o.dst = some d) (hlt : d < N)
    (hK : ∀ b t', F.X b = none → Kn N e (m.put d (.one (.c (.map (some b))))) t' → Mem (F.put b (some (.map #[] 0))) h e pl rw (w.alloc (.map #[] 0)) → K ⟨t', dd⟩ (w.alloc (.map #[] 0))) : o.wp P ⟨t, dd⟩ w K Q := by
  unfold Oper.wp execOp
  simp only [hop]
  have hrun : (Instr.makeMap T none).run P w = .ok (.map (some w.heap.size)) (w.alloc (.map #[] 0)) := by
    unfold Instr.makeMap
    rfl
  simp only [Option.map, Sem.run_bind, hrun, Result.andThen_ok, Sem.run_pure]
  show K _ _
  rw [put_eq t dd hd]
  refine hK w.heap.size _ ?_ (hk.put hlt (.one (.c (.map (some w.heap.size))))) (hm.allocX _)
  cases hx : F.X w.heap.size with
  | none => rfl
  | some x => have := hm.extLt hx; omega
/-- m[k] = v on a map of the call's own -/
theorem wp_update {T KT E : TypeId} {mo ko vo : Operand} {b c : Nat} {es : Array MapEntry} {l : List (KK × α)} {k : KK} {x : α} (kx vx : SA) (hk : Kn N e m t) (hm : Mem F h e pl rw w) (hop : o.op = .mapUpdate T mo ko vo) (hd : o.dst = none)
    (h1 : evA m mo = some (.c (.map (some b)))) (h2 : evA m ko = some kx) (h3 : evA m vo = some vx) (hT : P.underlying T = some (.map KT E)) (L : KL P KT KK)
    (hX : F.X b = some (.map es c)) (H : Ents h es.toList c l) (hkx : kx.den e = kv k) (hx : rv h x (vx.den e))
    (hKK : ∀ es' c' w', Ents h es'.toList c' (put? l k x) → Mem (F.put b (some (.map es' c'))) h e pl rw w' → K ⟨t, dd⟩ w') : o.wp P ⟨t, dd⟩ w K Q := by
  obtain ⟨es', c', hrun, hE⟩ := run_update (P := P) (k := k) hT L (hm.ext hX) H hx
  have q1 := evA_sound (d := dd) hk h1
  have q2 := evA_sound (d := dd) hk h2
  have q3 := evA_sound (d := dd) hk h3
  rw [hkx] at q2
  simp only [SA.den, SC.den] at q1
  unfold Oper.wp execOp
  simp only [hop, q1, q2, q3, Sem.run_bind, hrun, Result.andThen_ok, Sem.run_pure]
  show K _ _
  rw [hd]
  exact hKK es' c' _ hE (hm.setX hX rfl (setBlock_grown w b _) (setBlock_at (hm.ext hX)))
/-- What a look-up gives, as a value of its own. -/
theorem run_lookOp {T KT E : TypeId} {mo ko : Operand} {ok : Bool} {b c : Nat} {es : Array MapEntry} {l : List (KK × α)} {k : KK} {z : Value} (kx : SA) {dd : List Deferred} (hk : Kn N e m t) (hop : o.op = .lookup T mo ko ok)
    (h1 : evA m mo = some (.c (.map (some b)))) (h2 : evA m ko = some kx) (hT : P.underlying T = some (.map KT E)) (L : KL P KT KK) (hb : w.heap[b]? = some (.map es c)) (H : Ents h es.toList c l) (hkx : kx.den e = kv k) (hz : (zeroValue E).run P w = .ok z w) :
    (look? l k = none ∧ (execOp (Act.mk t dd).eval o).run P w = .ok (.value (if ok then .tuple #[z, .bool false] else z)) w) ∨
    ∃ x v, look? l k = some x ∧ rv h x v ∧ (execOp (Act.mk t dd).eval o).run P w = .ok (.value (if ok then .tuple #[v, .bool true] else v)) w := by
  have q1 := evA_sound (d := dd) hk h1
  have q2 := evA_sound (d := dd) hk h2
  rw [hkx] at q2
  simp only [SA.den, SC.den] at q1
  rcases run_lookup (P := P) (k := k) hT L hb H hz ok with ⟨a1, a2⟩ | ⟨x, v, a1, a2, a3⟩
  · refine .inl ⟨a1, ?_⟩
    unfold execOp
    simp only [hop, q1, q2, Sem.run_bind, a2, Result.andThen_ok, Sem.run_pure]
  · refine .inr ⟨x, v, a1, a2, ?_⟩
    unfold execOp
    simp only [hop, q1, q2, Sem.run_bind, a3, Result.andThen_ok, Sem.run_pure]
end
end Go.Proofs.Ytokchpjijlebiaa
