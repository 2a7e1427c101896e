/- A range over a map: whichever order. -/
import Derived.Test.YtokchpjijlebiaaSymP
set_option linter.all false
namespace Go.Proofs.Ytokchpjijlebiaa
open Go Go.RowKit
open Rep (rep)
open KRep (kv)
open VRep (rv)
open Go.ChangeMaps (setBlock)
section
variable {P : Program} {Q : Exit → Act → World → Prop} {N : Nat} {F : Fr} {h : Heap} {e : Env} {pl : List Plc} {rw : List Row} {w w' : World} {m : TM} {t : Array Value} {dd : List Deferred} {o : Oper} {d : Nat} {K : Act → World → Prop}
/-- the iterator's pointer as a place of which nothing is known -/
theorem Mem.ptrPlc {r : Nat} (hm : Mem F h e pl rw w) (hl : pl.length = e.length) (h1 : okPl e.length pl = true) : Mem F h (e ++ [(r, 0)]) (pl ++ [⟨[], none⟩]) rw w :=
  hm.addPlc (cs := []) (fun j c hj => by simp at hj) hl h1 rfl
theorem wp_rangeMap {T KT E : TypeId} {x : Operand} {b c : Nat} {es : Array MapEntry} (hk : Kn N e m t) (hm : Mem F h e pl rw w) (hop : o.op = .range T x) (hd : o.dst = some d) (hlt : d < N) (hx : evA m x = some (.c (.map (some b))))
    (hT : P.underlying T = some (.map KT E)) (hb : w.heap[b]? = some (.map es c)) (hl : pl.length = e.length) (h1 : okPl e.length pl = true) (h2 : okTM e.length m = true)
    (hK : ∀ r t' w', F.X r = none → Kn N (e ++ [(r, 0)]) (m.put d (.one (.c (.ptr e.length 0)))) t' → Mem (F.put r (some (.mapIter (some b) c #[] c))) h (e ++ [(r, 0)]) (pl ++ [⟨[], none⟩]) rw w' → w'.heap[b]? = some (.map es c) → K ⟨t', dd⟩ w') : o.wp P ⟨t, dd⟩ w K Q := by
  have hxe := evA_sound (d := dd) hk hx
  simp only [SA.den, SC.den] at hxe
  unfold Oper.wp execOp
  simp only [hop, hxe, Sem.run_bind, run_range_map w T KT E b es c hT hb, Result.andThen_ok, Sem.run_pure]
  show K _ _
  rw [put_eq t dd hd]
  refine hK w.heap.size _ _ ?_ ?_ ((hm.allocX _).ptrPlc hl h1) ?_
  · cases hx : F.X w.heap.size with
    | none => rfl
    | some x => have := hm.extLt hx; omega
  · have hk2 := (hk.push (w.heap.size, 0) h2).put hlt (.one (.c (.ptr e.length 0)))
    have he : (SV.one (SA.c (SC.ptr e.length 0))).den (e ++ [(w.heap.size, 0)]) = .pointer (some ⟨w.heap.size, 0, none⟩) := by
      simp [SV.den, SA.den, SC.den, blk_last]
    rw [he] at hk2
    exact hk2
  · rw [heap_alloc_old w _ (Array.getElem?_eq_some_iff.1 hb).1]; exact hb
/-- the next entry, whichever is left -/
theorem wp_next {it : Operand} {i b c c0 r : Nat} {seen : Array Nat} {es : Array MapEntry} (hk : Kn N e m t) (hm : Mem F h e pl rw w) (hop : o.op = .next it false) (hd : o.dst = some d) (hlt : d < N) (hx : evA m it = some (.c (.ptr i 0))) (hr : e.blk i = (r, 0))
    (hX : F.X r = some (.mapIter (some b) c seen c0)) (hcc : c ≤ c0) (hb : w.heap[b]? = some (.map es c)) (hne : b ≠ r) (hold : ∀ x ∈ es.toList, x.born < c)
    (hK0 : (leftOf es seen).size = 0 → ∀ t', Kn N e (m.put d (.tup [.c (.bool false)])) t' → K ⟨t', dd⟩ w)
    (hK1 : ∀ en ∈ (leftOf es seen).toList, ∀ t' w', (∀ sv : SV, sv.den e = .tuple #[.bool true, en.key, en.val] → Kn N e (m.put d sv) t') → Mem (F.put r (some (.mapIter (some b) c (seen.push en.born) c))) h e pl rw w' → w'.heap[b]? = some (.map es c) → K ⟨t', dd⟩ w') : o.wp P ⟨t, dd⟩ w K Q := by
  have hxe := evA_sound (d := dd) hk hx
  simp only [SA.den, SC.den, hr, Nat.add_zero] at hxe
  unfold Oper.wp execOp
  simp only [hop, hxe, Sem.run_bind]
  rcases run_next_at (P := P) w o.type r b c c0 seen es c (hm.ext hX) hb hold hcc with ⟨h0, hrun⟩ | ⟨en, hen, w1, hw1, hrun⟩
  · simp only [hrun, Result.andThen_ok, Sem.run_pure]
    show K _ _
    rw [put_eq t dd hd]
    exact hK0 h0 _ (hk.put hlt (.tup [.c (.bool false)]))
  · simp only [hrun, Result.andThen_ok, Sem.run_pure]
    show K _ _
    rw [put_eq t dd hd]
    have hm1 : Mem F h e pl rw w1 := hw1.elim (fun h => h ▸ hm) (fun h => h ▸ hm.drew)
    have hb1 : w1.heap[b]? = some (.map es c) := hw1.elim (fun h => h ▸ hb) (fun h => h ▸ hb)
    refine hK1 en hen _ _ (fun sv hsv => hsv ▸ hk.put hlt sv) (hm1.setX hX rfl (setBlock_grown w1 r _) (setBlock_at (hm1.ext hX))) ?_
    simp only [setBlock]
    rw [Array.getElem?_setIfInBounds_ne (Ne.symm hne)]
    exact hb1
/-- the entry that the step handed out -/
theorem wp_entry {it : Operand} {i b c r : Nat} {seen : Array Nat} {es : Array MapEntry} {en : MapEntry} (hk : Kn N e m t) (hm : Mem F h e pl rw w) (hop : o.op = .entry it) (hd : o.dst = some d) (hlt : d < N) (hx : evA m it = some (.c (.ptr i 0))) (hr : e.blk i = (r, 0))
    (hX : F.X r = some (.mapIter (some b) c (seen.push en.born) c)) (hb : w.heap[b]? = some (.map es c)) (he : en ∈ es.toList) (hn : (es.toList.map (·.born)).Nodup)
    (hK : ∀ t', (∀ sv : SV, sv.den e = .tuple #[en.key, en.val] → Kn N e (m.put d sv) t') → K ⟨t', dd⟩ w) : o.wp P ⟨t, dd⟩ w K Q := by
  have hxe := evA_sound (d := dd) hk hx
  simp only [SA.den, SC.den, hr, Nat.add_zero] at hxe
  unfold Oper.wp execOp
  simp only [hop, hxe, Sem.run_bind, run_entry_at w r b c seen es c en (hm.ext hX) hb he hn, Result.andThen_ok, Sem.run_pure]
  show K _ _
  rw [put_eq t dd hd]
  exact hK _ (fun sv hsv => hsv ▸ hk.put hlt sv)
/-- whose a place is does not matter to what is read -/
theorem PlOk.same {pl' : List Plc} (hp : PlOk e pl w) (h : pl.map (·.cells) = pl'.map (·.cells)) : PlOk e pl' w := fun i p hi j c hc => by
  have h1 : (pl'.map (·.cells))[i]? = some p.cells := by rw [List.getElem?_map, hi]; rfl
  rw [← h, List.getElem?_map] at h1
  obtain ⟨q, hq, hqc⟩ := Option.map_eq_some_iff.1 h1
  exact hp i q hq j c (by rw [hqc]; exact hc)
end
end Go.Proofs.Ytokchpjijlebiaa
