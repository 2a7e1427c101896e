/- Results that are the caller's own: rows that nobody has settled. -/
import Derived.Test.YtokchpjijlebiaaSymX
set_option linter.all false
namespace Go.Proofs.Ytokchpjijlebiaa
open Go Go.RowKit
open Rep (rep)
open KRep (kv)
open VRep (rv)
/- short forms, for printed texts -/
abbrev tI (k : Nat) (x : Int) : Nat × SV := (k, .one (.c (.int .i64 x)))
abbrev tS (k : Nat) (a : Option Addr) (n c : Nat) : Nat × SV := (k, .one (.c (.slice a n c)))
abbrev tP (k i o : Nat) : Nat × SV := (k, .one (.c (.ptr i o)))
abbrev tB (k : Nat) (x : Bool) : Nat × SV := (k, .one (.c (.bool x)))
abbrev tA (k : Nat) (cs : List SC) : Nat × SV := (k, .one (.agg cs))
/-- What a call hands back, with rows that are the caller's own now. -/
def RetO (R : Heap → Value → List Row → Prop) (h : Heap) (w : World) (en : Ending) (w' : World) : Prop :=
  ∃ v h' rs, en = .returned v ∧ Mem ⟨w, h, noX⟩ h' [] [] rs w' ∧ R h' v rs
section
variable {P : Program} {Q : Exit → Act → World → Prop} {N : Nat} {F : Fr} {h h' : Heap} {e : Env} {pl : List Plc} {rw rs : List Row} {w w' : World} {m : TM} {t : Array Value} {o : Oper} {d : Nat} {dd : List Deferred} {K : Act → World → Prop}
/-- Some rows stay. -/
theorem Mem.onlyRows (hm : Mem F h e pl rw w) (js : List Nat) (hj : nodupB js = true) (hl : lendOkR rw js = true) : Mem ⟨F.w, F.h, noX⟩ h [] [] (pick rw js rowD) w := by
  obtain ⟨ow, m⟩ := hm
  have hn := nodupB_sound hj
  refine ⟨fun b => match ow b with | some (.inr j) => (js.idxOf? j).map .inr | _ => none, m.below, m.le, m.old, m.has, fun b x hx => ?_, fun b o x i _ hx => ?_, by simp, fun k r hk => ?_, by simp [noX]⟩
  · skip
    split at hx
    · rename_i j hj'
      exact m.ows b _ hj'
    · cases hx
  · skip
    split at hx
    · obtain ⟨_, _, h2⟩ := Option.map_eq_some_iff.1 hx
      cases h2
    · cases hx
  · unfold pick at hk
    rw [List.getElem?_map] at hk
    obtain ⟨j, hj1, rfl⟩ := Option.map_eq_some_iff.1 hk
    have hlt : j < rw.length := by
      have := List.all_eq_true.1 hl j (List.mem_of_getElem? hj1)
      simpa using this
    have hr : rw[j]? = some (rw.getD j rowD) := by rw [List.getD_eq_getElem?_getD, List.getElem?_eq_getElem hlt]; rfl
    have := m.rws j _ hr
    refine ⟨this.own, this.frz, fun ad ha => ?_, this.one⟩
    obtain ⟨h1, h2, h3⟩ := this.blk ad ha
    refine ⟨?_, h2, h3⟩
    simp only [h1]
    rw [idxOf?_at hn hj1]
    rfl
theorem ownsRow_le {w : World} {b b' : Nat} {E : TypeId} {sz : Nat} {v : Value} {n : Nat} {xs : List Value} (h : w.ownsRow b E sz v n xs) (hb : b' ≤ b) : w.ownsRow b' E sz v n xs := by
  obtain ⟨h1, h2 | ⟨g, cap, cur, h2, h3, h4⟩⟩ := h
  · exact ⟨h1, .inl h2⟩
  · exact ⟨h1, .inr ⟨g, cap, cur, h2, Nat.le_trans hb h3, h4⟩⟩
/-- Rows of a call that ended come to those that there were. -/
theorem Mem.join (hm : Mem F h e pl rw w) (h2 : Mem ⟨w, h, noX⟩ h' [] [] rs w') : Mem F h' e pl (rw ++ rs) w' := by
  obtain ⟨ow, m⟩ := hm
  obtain ⟨o2, m2⟩ := h2
  have hold : ∀ b o, b < w.heap.size → h' b o = h b o := fun b o hbl => by
    cases hx : h b o with
    | some x => exact m2.le b o x hx
    | none =>
      cases hy : h' b o with
      | none => rfl
      | some y =>
        rcases m2.old b o y hy with h1 | h1
        · dsimp only at h1; rw [hx] at h1; cases h1
        · dsimp only at h1; omega
  have hsz : F.w.heap.size ≤ w.heap.size := m.below.size
  have hsz2 : w.heap.size ≤ w'.heap.size := m2.below.size
  have hblk : ∀ b, b < w.heap.size → w'.heap[b]? = w.heap[b]? := fun b hb => m2.below.block b hb
  refine ⟨fun b => if b < w.heap.size then ow b else match o2 b with | some (.inr k) => some (.inr (rw.length + k)) | _ => none,
    m.below.trans ⟨m2.below.os, m2.below.tape, m2.below.output, m2.below.size, fun k hk => hblk k (Nat.lt_of_lt_of_le hk hsz)⟩, Heap.le_trans m.le m2.le, fun b o x hx => ?_, m2.has, fun b x hx => ?_, fun b o x i hx hb => ?_, fun i p hp => ?_, fun i r hr => ?_, fun b x hx => ?_⟩
  · rcases m2.old b o x hx with h1 | h1
    · exact m.old b o x h1
    · exact .inr (Nat.le_trans hsz h1)
  · skip
    split at hx
    · obtain ⟨h1, h2⟩ := m.ows b x hx
      exact ⟨h1, by omega⟩
    · split at hx
      · rename_i k hk
        obtain ⟨h1, h2⟩ := m2.ows b _ hk
        exact ⟨Nat.le_trans hsz h1, h2⟩
      · cases hx
  · skip
    split at hb
    · rename_i hlt
      rw [hold b o hlt] at hx
      exact m.hown b o x i hx hb
    · split at hb <;> cases hb
  · have := m.pls i p hp
    unfold PlcOk at this ⊢
    split at this
    · rename_i T hT
      obtain ⟨h1, h2, h3, h4⟩ := this
      have hlt : (e.blk i).1 < w.heap.size := (m.ows _ _ h1).2
      refine ⟨by simp only [hlt, if_true]; exact h1, h2, by rw [hblk _ hlt]; exact h3, fun o => by rw [hold _ _ hlt]; exact h4 o⟩
    · exact fun j c hc => m2.le _ _ _ (this j c hc)
  · rcases Nat.lt_or_ge i rw.length with hi | hi
    · rw [List.getElem?_append_left hi] at hr
      have := m.rws i r hr
      refine ⟨?_, this.frz, fun ad ha => ?_, this.one⟩
      · obtain ⟨h1, h2 | ⟨g, cap, cur, h2, h3, h4, h5⟩⟩ := this.own
        · exact ⟨h1, .inl h2⟩
        · simp only [Value.slice.injEq] at h2
          obtain ⟨h21, h22, h23⟩ := h2
          have hlt : g < w.heap.size := (m.ows _ _ (this.blk _ h21).1).2
          exact ⟨h1, .inr ⟨g, cap, cur, by rw [h21, h23], h3, by rw [hblk _ hlt]; exact h4, h5⟩⟩
      · obtain ⟨h1, h2, h3⟩ := this.blk ad ha
        have hlt : ad.block < w.heap.size := (m.ows _ _ h1).2
        exact ⟨by simp only [hlt, if_true]; exact h1, fun o ho => by rw [hold _ _ hlt]; exact h2 o ho, fun o ho => by rw [hold _ _ hlt]; exact h3 o ho⟩
    · rw [List.getElem?_append_right hi] at hr
      have := m2.rws _ r hr
      refine ⟨ownsRow_le this.own hsz, this.frz, fun ad ha => ?_, this.one⟩
      obtain ⟨h1, h2, h3⟩ := this.blk ad ha
      have hge : ¬ ad.block < w.heap.size := by have := (m2.ows _ _ h1).1; dsimp only at this; omega
      refine ⟨?_, h2, h3⟩
      simp only [hge, if_false, h1]
      congr 2
      omega
  · obtain ⟨h1, h2, h3, h4, h5⟩ := m.ext b x hx
    exact ⟨h1, by omega, by rw [hblk _ h2]; exact h3, by simp only [h2, if_true]; exact h4, h5.same fun o => hold b o h2⟩
theorem retO_ok {fn : Func} {R : Heap → Value → List Row → Prop} (sv : SV) (js : List Nat) (hk : Kn N e m t) (hm : Mem F h e pl rw w) (hj : nodupB js = true) (hl : lendOkR rw js = true) (hr : resS P m pl fn.results.toList = some sv) (hR : R h (sv.den e) (pick rw js rowD)) :
    bodyPost P fn (RetO R F.h F.w) .ret ⟨t, []⟩ w := ⟨rfl, _, resS_sound hk hm.plOk hr, _, _, _, rfl, hm.onlyRows js hj hl, hR⟩
theorem wp_callO {f : FuncId} {args : Array Operand} {tys : Array TypeId} {R : Heap → Value → List Row → Prop} (vs : List SA) (vals : Array Value) (hk : Kn N e m t) (hm : Mem F h e pl rw w) (hop : o.op = .call ⟨.value (.func f), args, tys⟩) (hd : o.dst = some d) (hlt : d < N)
    (hargs : evAs m args.toList = some vs) (hvals : (vs.map (SA.den e)).toArray = vals) (hent : ∀ args w, (callFunc f args).run P w = .ok (.enter f args) w) (hcall : Calls P f vals w (RetO R h w))
    (hK : ∀ v h' w' rs, R h' v rs → Heap.le h h' → Mem F h' e pl (rw ++ rs) w' → ∃ sv : SV, sv.den e = v ∧ ∀ t', Kn N e (m.put d sv) t' → K ⟨t', dd⟩ w') : o.wp P ⟨t, dd⟩ w K Q := by
  refine wp_callM vs vals hk hop hd hlt hargs hvals hent (S := fun v w' => ∃ h' rs, Mem ⟨w, h, noX⟩ h' [] [] rs w' ∧ R h' v rs) (hcall.mono ?_) ?_
  · rintro en w' ⟨v, h', rs, rfl, h1, h2⟩
    exact ⟨v, rfl, h', rs, h1, h2⟩
  · rintro v w' ⟨h', rs, h1, h2⟩
    have hle : Heap.le h h' := by obtain ⟨_, m2⟩ := h1; exact m2.le
    exact hK v h' w' rs h2 hle (hm.join h1)
end
end Go.Proofs.Ytokchpjijlebiaa
