/- Loud operations: a new variable, a store, a call, a new slice, append. -/
import Derived.Test.YtokchpjijlebiaaSymD
set_option linter.all false
namespace Go.Proofs.Ytokchpjijlebiaa
open Go Go.RowKit

section
variable {P : Program} {N : Nat} {F : Fr} {h : Heap} {e : Env} {pl : List Plc} {rw : List Row} {m : TM} {t : Array Value} {dd : List Deferred} {w : World}
  {o : Oper} {K : Act → World → Prop} {Q : Exit → Act → World → Prop} {d : Nat}

theorem put_eq (t : Array Value) (dd : List Deferred) {o : Oper} (hd : o.dst = some d) (v : Value) : (Act.mk t dd).put o.dst v = ⟨t.setIfInBounds d v, dd⟩ := by rw [hd]; rfl

/-- all pointers are to places that there are -/
def okAll (e : Env) (pl : List Plc) (m : TM) : Bool := decide (pl.length = e.length) && okPl e.length pl && okTM e.length m
theorem okAll_of (hh : okAll e pl m = true) : pl.length = e.length ∧ okPl e.length pl = true ∧ okTM e.length m = true := by
  simpa [okAll, and_assoc] using hh

theorem run_newVar {P : Program} (w : World) (T : TypeId) (v : Value) : (newVar T v).run P w = .ok ⟨w.heap.size, 0, none⟩ (w.alloc (.cells v.cells T)) := by
  simp [newVar, newRow]
theorem alloc_new (w : World) (ob : Obj) : (w.alloc ob).heap[w.heap.size]? = some ob := heap_alloc_new w ob

theorem wp_new {T : TypeId} {v : Value} {cs : List SC} (hk : Kn N e m t) (hm : Mem F h e pl rw w) (hd : o.dst = some d) (hlt : d < N) (hok : okAll e pl m = true) (hcs : okSC e.length cs = true)
    (hv : v.cells = (cs.map (SC.den e)).toArray) (hr : (execOp (Act.mk t dd).eval o).run P w = .ok (.value (.pointer (some ⟨w.heap.size, 0, none⟩))) (w.alloc (.cells v.cells T)))
    (hK : ∀ b t' w', Kn N (e ++ [(b, 0)]) (m.put d (.one (.c (.ptr e.length 0)))) t' → Mem F h (e ++ [(b, 0)]) (pl ++ [⟨cs, some T⟩]) rw w' → K ⟨t', dd⟩ w') : o.wp P ⟨t, dd⟩ w K Q := by
  obtain ⟨h1, h2, h3⟩ := okAll_of hok
  unfold Oper.wp
  rw [hr]
  show K _ _
  rw [put_eq t dd hd]
  refine hK w.heap.size _ _ ?_ (hm.newPlc (World.grownBy_alloc w _ none) (Nat.le_refl _) (by simp) (by rw [alloc_new, hv]) h1 h2 hcs)
  have := (hk.push (w.heap.size, 0) h3).put hlt (.one (.c (.ptr e.length 0)))
  simpa [SV.den, SA.den, SC.den, blk_last] using this

/-- alloc -/
theorem wp_alloc {T : TypeId} (cs : List SC) (hk : Kn N e m t) (hm : Mem F h e pl rw w) (hop : o.op = .alloc T) (hd : o.dst = some d) (hlt : d < N) (hok : okAll e pl m = true) (hz : zeroSC P T = some cs) (hcs : okSC e.length cs = true)
    (hK : ∀ b t' w', Kn N (e ++ [(b, 0)]) (m.put d (.one (.c (.ptr e.length 0)))) t' → Mem F h (e ++ [(b, 0)]) (pl ++ [⟨cs, some T⟩]) rw w' → K ⟨t', dd⟩ w') : o.wp P ⟨t, dd⟩ w K Q := by
  obtain ⟨z, h1, h2⟩ := zeroSC_sound e w hz
  refine wp_new hk hm hd hlt hok hcs h2 ?_ hK
  unfold execOp
  simp only [hop, Instr.alloc, Sem.run_bind, h1, Result.andThen_ok, run_newVar, Sem.run_pure]
/-- box -/
theorem wp_box {T : TypeId} {x : Operand} (v : SA) (hk : Kn N e m t) (hm : Mem F h e pl rw w) (hop : o.op = .box T x) (hd : o.dst = some d) (hlt : d < N) (hok : okAll e pl m = true) (hx : evA m x = some v) (hcs : okSC e.length v.cells = true)
    (hK : ∀ b t' w', Kn N (e ++ [(b, 0)]) (m.put d (.one (.c (.ptr e.length 0)))) t' → Mem F h (e ++ [(b, 0)]) (pl ++ [⟨v.cells, some T⟩]) rw w' → K ⟨t', dd⟩ w') : o.wp P ⟨t, dd⟩ w K Q := by
  refine wp_new (v := v.den e) hk hm hd hlt hok hcs (SA.den_cells e v) ?_ hK
  unfold execOp
  simp only [hop, Instr.box, Sem.run_bind, evA_sound hk hx, Result.andThen_ok, run_newVar, Sem.run_pure]

/-- store into a place of the call's own -/
theorem wp_store {T : TypeId} {x y : Operand} (i off : Nat) (v : SA) (cs : List SC) {TT : TypeId} {p : List SC} (hk : Kn N e m t) (hm : Mem F h e pl rw w) (hop : o.op = .store T x y) (hd : o.dst = none)
    (hx : evA m x = some (.c (.ptr i off))) (hy : evA m y = some v) (hp : pl[i]? = some ⟨p, some TT⟩) (hsz : tySz P T = some v.cells.length) (hfit : decide (off + v.cells.length ≤ p.length) = true)
    (hcs : p.take off ++ v.cells ++ p.drop (off + v.cells.length) = cs)
    (hK : ∀ w', Kn N e m t → Mem F h e (pl.set i ⟨cs, some TT⟩) rw w' → K ⟨t, dd⟩ w') : o.wp P ⟨t, dd⟩ w K Q := by
  subst hcs
  have hfit : off + v.cells.length ≤ p.length := by simpa using hfit
  obtain ⟨ow, mm⟩ := id hm
  have hpi := mm.pls i _ hp
  unfold PlcOk at hpi
  obtain ⟨_, h0, hh, _⟩ := hpi
  have hst := run_storeCells_at P (e.blk i).1 off TT (v.cells.map (SC.den e)) 0 _ w hh (by simpa using hfit) (by intro u hu; obtain ⟨c, _, rfl⟩ := List.mem_map.1 hu; exact SC.den_one e c)
  have hxe : (Act.mk t dd).eval x = .pointer (some ⟨(e.blk i).1, off, none⟩) := by
    rw [evA_sound hk hx]; simp [SA.den, SC.den, h0]
  have hye := evA_sound (d := dd) hk hy
  have hcl := SA.den_cells e v
  generalize hu : SA.den e v = u at hye hcl
  unfold Oper.wp execOp
  simp only [hop, hxe, hye, Instr.storeAt, Instr.sureAddr, storeVar, Sem.run_bind, Sem.run_pure, Result.andThen_ok, run_sizeOf' w hsz, hcl]
  simp only [List.size_toArray, List.length_map, ne_eq, not_true_eq_false, if_false, hst, Result.andThen_ok]
  show K _ _
  rw [hd]
  refine hK _ hk (hm.setPlc hp ?_ ?_)
  · exact ⟨rfl, rfl, rfl, by simp, fun k _ hne => setRow_other w _ k _ (fun hh => hne (by rw [hh]))⟩
  · rw [setRow_heap w _ _ _ TT (0, 0) hh]
    simp [List.map_take, List.map_drop]

/-- What a call of one of the functions hands back: R of what has settled, and of the value. -/
def Ret (R : Heap → Value → Prop) (h : Heap) (w : World) (en : Ending) (w' : World) : Prop :=
  ∃ v h', en = .returned v ∧ Below w.heap.size w w' ∧ Heap.le h h' ∧ (∀ b o x, h' b o = some x → h b o = some x ∨ (w.heap.size ≤ b ∧ b < w'.heap.size ∧ look w' b o = some x)) ∧ R h' v

theorem Mem.call {w' : World} {h' : Heap} (hm : Mem F h e pl rw w) (hb : Below w.heap.size w w') (hle : Heap.le h h')
    (hn : ∀ b o x, h' b o = some x → h b o = some x ∨ (w.heap.size ≤ b ∧ b < w'.heap.size ∧ look w' b o = some x)) : Mem F h' e pl rw w' := by
  have hg : w.grownBy w' none := ⟨hb.os, hb.tape, hb.output, hb.size, fun k hk _ => hb.block k hk⟩
  obtain ⟨ow, m⟩ := hm
  have m' := m.grow hg
  have hold : ∀ b o, b < w.heap.size → h' b o = h b o := fun b o hbl => by
    cases hx : h b o with
    | some x => exact hle b o x hx
    | none =>
      cases hy : h' b o with
      | none => rfl
      | some y =>
        rcases hn b o y hy with h1 | h1
        · rw [hx] at h1; cases h1
        · omega
  refine ⟨ow, m'.below, Heap.le_trans m.le hle, ?_, ?_, m'.ows, ?_, ?_, ?_, fun b x hx => ?_⟩
  · intro b o x hx
    rcases hn b o x hx with h1 | h1
    · exact m.old b o x h1
    · exact .inr (Nat.le_trans m.below.size h1.1)
  · intro b o x hx
    rcases hn b o x hx with h1 | h1
    · exact m'.has b o x h1
    · exact h1.2
  · intro b o x i hx ho
    rw [hold b o (m.ows b _ ho).2] at hx
    exact m.hown b o x i hx ho
  · intro i p hp
    have := m'.pls i p hp
    unfold PlcOk at this ⊢
    split at this
    · obtain ⟨q1, q2, q3, q4⟩ := this
      exact ⟨q1, q2, q3, fun o => by rw [hold _ o (m.ows _ _ q1).2]; exact q4 o⟩
    · exact fun j c hj => hle _ _ _ (this j c hj)
  · intro i r hr
    obtain ⟨q1, q2, q3, q9⟩ := m'.rws i r hr
    refine ⟨q1, q2, fun ad ha => ?_, q9⟩
    obtain ⟨q4, q5, q6⟩ := q3 ad ha
    exact ⟨q4, fun o ho => by rw [hold _ o (m.ows _ _ q4).2]; exact q5 o ho, fun o ho => by rw [hold _ o (m.ows _ _ q4).2]; exact q6 o ho⟩
  · obtain ⟨h1, h2, h3, h4, h5⟩ := m'.ext b x hx
    exact ⟨h1, h2, h3, h4, (m.ext b x hx).2.2.2.2.same fun o => hold b o (m.ext b x hx).2.1⟩

def evAs (m : TM) : List Operand → Option (List SA)
  | [] => some []
  | x :: r => match evA m x, evAs m r with
    | some v, some vs => some (v :: vs)
    | _, _ => none
theorem evAs_sound (hk : Kn N e m t) : ∀ {l : List Operand} {vs : List SA}, evAs m l = some vs → l.map (Act.mk t dd).eval = vs.map (SA.den e)
  | [], vs, h => by simp [evAs] at h; subst h; rfl
  | x :: r, vs, h => by
    unfold evAs at h
    split at h
    · rename_i v us hv hus
      simp at h; subst h
      simp [evA_sound hk hv, evAs_sound hk hus]
    · simp at h
/-- a call -/
theorem wp_call {f : FuncId} {args : Array Operand} {tys : Array TypeId} {R : Heap → Value → Prop} (vs : List SA) (vals : Array Value) (hk : Kn N e m t) (hm : Mem F h e pl rw w) (hop : o.op = .call ⟨.value (.func f), args, tys⟩) (hd : o.dst = some d) (hlt : d < N)
    (hargs : evAs m args.toList = some vs) (hvals : (vs.map (SA.den e)).toArray = vals) (hent : ∀ args w, (callFunc f args).run P w = .ok (.enter f args) w) (hcall : Calls P f vals w (Ret R h w))
    (hK : ∀ v h' w', R h' v → Heap.le h h' → Mem F h' e pl rw w' → ∃ sv : SV, sv.den e = v ∧ ∀ t', Kn N e (m.put d sv) t' → K ⟨t', dd⟩ w') : o.wp P ⟨t, dd⟩ w K Q := by
  subst hvals
  have h1 : args.map (Act.mk t dd).eval = (vs.map (SA.den e)).toArray := by
    rw [← evAs_sound (dd := dd) hk hargs]
    apply Array.ext'
    rw [Array.toList_map]
  unfold Oper.wp execOp
  simp only [hop, resolve, h1]
  simp only [Act.eval, Deferred.ofValue, Sem.run_bind, Sem.run_pure, Result.andThen_ok, invoke, Array.empty_append, Array.append_empty, hent, Oper.upon]
  refine hcall.mono ?_
  rintro en w' ⟨v, h', rfl, hb, hle, hn, hR⟩
  obtain ⟨sv, hsv, hk'⟩ := hK v h' w' hR hle (hm.call hb hle hn)
  show K _ _
  rw [put_eq t dd hd, ← hsv]
  exact hk' _ (hk.put hlt sv)
/-- a call whose result is not used -/
theorem wp_call0 {f : FuncId} {args : Array Operand} {tys : Array TypeId} {R : Heap → Value → Prop} (vs : List SA) (vals : Array Value) (hk : Kn N e m t) (hm : Mem F h e pl rw w) (hop : o.op = .call ⟨.value (.func f), args, tys⟩) (hd : o.dst = none)
    (hargs : evAs m args.toList = some vs) (hvals : (vs.map (SA.den e)).toArray = vals) (hent : ∀ args w, (callFunc f args).run P w = .ok (.enter f args) w) (hcall : Calls P f vals w (Ret R h w))
    (hK : ∀ v h' w', R h' v → Heap.le h h' → Mem F h' e pl rw w' → Kn N e m t → K ⟨t, dd⟩ w') : o.wp P ⟨t, dd⟩ w K Q := by
  subst hvals
  have h1 : args.map (Act.mk t dd).eval = (vs.map (SA.den e)).toArray := by
    rw [← evAs_sound (dd := dd) hk hargs]
    apply Array.ext'
    rw [Array.toList_map]
  unfold Oper.wp execOp
  simp only [hop, resolve, h1]
  simp only [Act.eval, Deferred.ofValue, Sem.run_bind, Sem.run_pure, Result.andThen_ok, invoke, Array.empty_append, Array.append_empty, hent, Oper.upon]
  refine hcall.mono ?_
  rintro en w' ⟨v, h', rfl, hb, hle, hn, hR⟩
  show K _ _
  rw [hd]
  exact hK v h' w' hR hle (hm.call hb hle hn) hk

/-- The end of a call. -/
theorem ret_of_mem {R : Heap → Value → Prop} {v : Value} (hm : Mem F h e pl rw w) (hR : R h v) : Ret R F.h F.w (.returned v) w := by
  obtain ⟨ow, m⟩ := hm
  refine ⟨v, h, rfl, m.below, m.le, fun b o x hx => ?_, hR⟩
  rcases m.old b o x hx with h1 | h1
  · exact .inl h1
  · obtain ⟨q1, q2⟩ := m.has b o x hx
    exact .inr ⟨h1, q1, q2⟩

/- the results of a call, by what is known -/
def resOne (P : Program) (m : TM) (pl : List Plc) : ResultVar → Option SA
  | .tmp k => match m.get k with | some (.one v) => some v | _ => none
  | .cell a T => match m.get a with
    | some (.one (.c (.ptr i off))) => match pl[i]? with
      | some p => match tyAgg P T, tySz P T with
        | some true, some n => if ((p.cells.drop off).take n).length = n then some (.agg ((p.cells.drop off).take n)) else none
        | some false, _ => (p.cells[off]?).map .c
        | _, _ => none
      | none => none
    | _ => none
def resAll (P : Program) (m : TM) (pl : List Plc) : List ResultVar → Option (List SA)
  | [] => some []
  | r :: rs => match resOne P m pl r, resAll P m pl rs with
    | some v, some vs => some (v :: vs)
    | _, _ => none
def resS (P : Program) (m : TM) (pl : List Plc) (rs : List ResultVar) : Option SV := match resAll P m pl rs with
  | some [v] => some (.one v)
  | some vs => some (.tup vs)
  | none => none
def resSem (t : Array Value) : ResultVar → Sem Value
  | .tmp k => pure (t.getD k undef)
  | .cell a T => do loadVar T (← asAddr (t.getD a undef))
theorem results_eq (fn : Func) (t : Array Value) : results fn t = (do let vs ← fn.results.mapM (resSem t); pure (if h : vs.size = 1 then vs[0] else .tuple vs)) := by
  unfold results
  have : (fun r => match r with | ResultVar.tmp k => pure (t.getD k undef) | .cell a T => (do loadVar T (← asAddr (t.getD a undef)) : Sem Value)) = resSem t := by
    funext r; cases r <;> rfl
  rw [← this]
  rfl
theorem resOne_sound (hk : Kn N e m t) (hp : PlOk e pl w) {r : ResultVar} {v : SA} (hh : resOne P m pl r = some v) :
    (resSem t r).run P w = .ok (v.den e) w := by
  unfold resSem
  cases r with
  | tmp k =>
    simp only [resOne] at hh
    split at hh
    · rename_i u hu
      simp at hh; subst hh
      have := hk.get _ _ hu
      simp [Array.getD_eq_getD_getElem?, this, SV.den]
    · simp at hh
  | cell a T =>
    have hq : qop P m pl (.load T (.tmp a)) = some (.one v) := by
      simp only [resOne] at hh
      simp only [qop, ev]
      split at hh
      · rename_i i off hu
        simp only [hu]
        split at hh
        · rename_i p hpi
          simp only [hpi]
          split at hh
          · rename_i n h1 h2
            simp only [h1, h2]
            split at hh
            · rename_i h3
              rw [if_pos h3]
              simp at hh; rw [← hh]
            · simp at hh
          · rename_i h1
            simp only [h1]
            obtain ⟨c, hc, rfl⟩ := Option.map_eq_some_iff.1 hh
            simp [hc]
          · simp at hh
        · simp at hh
      · simp at hh
    have h1 := qop_sound (o := { (default : Oper) with op := .load T (.tmp a) }) (d := []) (w := w) hk hp hq
    unfold execOp at h1
    have hp' : ∃ ad, t.getD a undef = .pointer (some ad) := by
      simp only [resOne] at hh
      split at hh
      · rename_i i off hu
        have := hk.get _ _ hu
        exact ⟨_, by rw [Array.getD_eq_getD_getElem?, this]; rfl⟩
      · simp at hh
    obtain ⟨ad, had⟩ := hp'
    simp only [Act.eval, had, Instr.loadAt, Instr.sureAddr, Sem.run_bind, Sem.run_pure, Result.andThen_ok] at h1
    simp only [had, asAddr, Sem.run_bind, Sem.run_pure, Result.andThen_ok]
    cases hl : (loadVar T ad).run P w with
    | ok a w1 =>
      rw [hl] at h1
      simp only [Result.andThen_ok, Result.ok.injEq, Next.value.injEq] at h1
      rw [h1.1, h1.2]; rfl
    | halt x w1 => rw [hl] at h1; simp at h1
theorem resAll_sound (hk : Kn N e m t) (hp : PlOk e pl w) : ∀ {rs : List ResultVar} {vs : List SA}, resAll P m pl rs = some vs →
    (rs.mapM (resSem t)).run P w = .ok (vs.map (SA.den e)) w
  | [], vs, h => by simp [resAll] at h; subst h; rfl
  | r :: rs, vs, h => by
    unfold resAll at h
    split at h
    · rename_i v us hv hus
      simp at h; subst h
      rw [List.mapM_cons]
      have h1 := resOne_sound (w := w) hk hp hv
      have h2 := resAll_sound hk hp hus
      simp only [Sem.run_bind, h1, Result.andThen_ok, h2, Sem.run_pure, List.map_cons]
    · simp at h
theorem resS_sound {fn : Func} {v : SV} (hk : Kn N e m t) (hp : PlOk e pl w) (hh : resS P m pl fn.results.toList = some v) : (results fn t).run P w = .ok (v.den e) w := by
  unfold resS at hh
  have key : ∀ vs, resAll P m pl fn.results.toList = some vs → (results fn t).run P w = .ok (if h : (vs.map (SA.den e)).toArray.size = 1 then (vs.map (SA.den e)).toArray[0] else .tuple (vs.map (SA.den e)).toArray) w := by
    intro vs hvs
    have h1 := resAll_sound (w := w) hk hp hvs
    rw [results_eq, ← Array.toArray_toList (xs := fn.results), List.mapM_toArray]
    simp only [Sem.run_bind, Sem.run_map, h1, Result.andThen_ok, Sem.run_pure]
  split at hh
  · rename_i u hu
    simp at hh; subst hh
    rw [key _ hu]
    simp [SV.den]
  · rename_i vs hne hvs
    simp at hh; subst hh
    rw [key _ hvs]
    have hn1 : (vs.map (SA.den e)).toArray.size ≠ 1 := by
      intro h1
      cases vs with
      | nil => simp at h1
      | cons x r =>
        cases r with
        | nil => exact hne x rfl
        | cons y r => simp at h1
    rw [dif_neg hn1]
    rfl
  · simp at hh
/-- ret -/
theorem ret_ok {fn : Func} {R : Heap → Value → Prop} (sv : SV) (hk : Kn N e m t) (hm : Mem F h e pl rw w) (hr : resS P m pl fn.results.toList = some sv) (hR : R h (sv.den e)) :
    bodyPost P fn (Ret R F.h F.w) .ret ⟨t, []⟩ w := ⟨rfl, _, resS_sound hk hm.plOk hr, ret_of_mem hm hR⟩

/-- The temporaries at a call's beginning. -/
def argTM (k : Nat) : List SA → TM
  | [] => []
  | v :: r => (k, .one v) :: argTM (k + 1) r
theorem argTM_get (e : Env) : ∀ (vs : List SA) (k j : Nat) (v : SV), (argTM k vs).get j = some v → ∃ i, j = k + i ∧ (vs.map (SA.den e))[i]? = some (v.den e)
  | [], k, j, v, h => by simp [argTM, TM.get] at h
  | x :: r, k, j, v, h => by
    unfold argTM TM.get at h
    cases hb : Nat.beq k j with
    | true =>
      rw [hb] at h
      have : k = j := Nat.eq_of_beq_eq_true hb
      subst this
      simp at h; subst h
      exact ⟨0, rfl, by simp [SV.den]⟩
    | false =>
      rw [hb] at h
      obtain ⟨i, h1, h2⟩ := argTM_get e r (k + 1) j v h
      exact ⟨i + 1, by omega, by simpa using h2⟩
theorem enter {f : FuncId} {fn : Func} {c : Code} {R : Ending → World → Prop} {vals : Array Value} (N : Nat) (vs : List SA) (hf : P.funcs[f]? = some fn) (hb : fn.body = some c) (hN : fn.ntmps = N) (hn : decide (vs.length ≤ N) = true) (hv : (vs.map (SA.den [])).toArray = vals)
    (H : ∀ t, Kn N [] (argTM 0 vs) t → c.wp P (bodyPost P fn R) ⟨t, []⟩ w) : Calls P f vals w R := by
  subst hv
  have hn : vs.length ≤ N := by simpa using hn
  refine calls_of_wp hf hb (H _ ⟨by simp [hN]; omega, fun k v hk => ?_⟩)
  obtain ⟨i, h1, h2⟩ := argTM_get [] vs 0 k v hk
  obtain rfl : k = i := by omega
  have hlt : k < (vs.map (SA.den [])).length := by
    rcases Nat.lt_or_ge k (vs.map (SA.den [])).length with h' | h'
    · exact h'
    · rw [List.getElem?_eq_none h'] at h2; cases h2
  rw [Array.getElem?_append_left (by simpa using hlt)]
  simpa using h2
end
end Go.Proofs.Ytokchpjijlebiaa
