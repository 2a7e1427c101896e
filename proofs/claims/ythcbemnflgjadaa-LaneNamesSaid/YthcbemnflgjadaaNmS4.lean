/- What a printed proof leans on: memory that is read, and steps through a region. -/
import Derived.Test.YthcbemnflgjadaaNmS3
import Derived.RangeFuncIn
import Derived.RangeFuncCalls
import Derived.RangeFuncLeaves
import Derived.DeepKeys3
set_option linter.all false
namespace Go.Proofs.Ythcbemnflgjadaa
open Go Go.RowKit
open Rep (rep)
open KRep (kv)
open VRep (rv)
abbrev inR (l : Nat) : Fence := Fence.wide.inRound l
def noDefer (ops : Array Oper) : Bool := ops.toList.all fun o => match o.op with | .defer _ => false | _ => true
section
variable {P : Program} {ops : Array Oper} {Q : Exit → Act → World → Prop} {n : Nat}
theorem rowsIn_wide {l : Nat} {row : String} {args : Array Value} {w : World} {R : Value → World → Prop} (h : Rows P row args w R) : RowsIn (inR l) n P row args w R :=
  fun c cs _ => let ⟨v, w', r, s⟩ := h c cs; ⟨v, w', r, stepsIn_wide.2 s⟩
theorem opIn (l : Nat) {o : Oper} {a : Act} {w : World} {K K' : Act → World → Prop} (hQ : ¬ LetsOut Q) (ho : ∀ c, o.op ≠ .defer c) (hK : ∀ a w, K a w → K' a w) (h : o.wp P a w K Q) : o.wpIn (inR l) n P a w K' Q := by
  refine ⟨fun _ _ => trivial, ?_⟩
  rw [show (inR l).round = some l from rfl, Oper.semAt_eq _ _ _ ho]
  unfold Oper.wp at h
  generalize (execOp a.eval o).run P w = r at h
  cases r with
  | ok x w' =>
    cases x with
    | value v => exact hK _ _ h
    | skip => exact hK _ _ h
    | defer d => exact hK _ _ h
    | enter f args =>
      refine ⟨fun hh => by simp [Fence.wide] at hh, ?_⟩
      refine CallsIn.inRound l (callsIn_wide.2 ?_)
      refine Calls.mono h fun e w'' he => ?_
      cases e with
      | returned v => exact hK _ _ he
      | panicked chain => exact he
      | outgrown => exact he
    | row row args => exact ⟨fun hh => by simp [Fence.wide] at hh, rowsIn_wide (Rows.mono h fun v w'' hv => hK _ _ hv)⟩
    | _ => exact h.elim
  | halt x w' =>
    cases x with
    | panic v => exact h
    | _ => exact h.elim
theorem opsIn (l : Nat) (hQ : ¬ LetsOut Q) (hd : noDefer ops = true) : ∀ (is : List Nat) (a : Act) (w : World), wpOps P ops Q is a w → wpOpsIn (inR l) n P ops Q is a w
  | [], _, _, h => h
  | i :: is, a, w, h => by
    unfold wpOps at h
    unfold wpOpsIn
    cases ho : ops[i]? with
    | none => rw [ho] at h; exact opsIn l hQ hd is a w h
    | some o =>
      rw [ho] at h
      simp only at h ⊢
      split at h
      · rename_i hw
        rw [if_pos hw]
        have hnd : ∀ c, o.op ≠ .defer c := fun c hc => by
          have := List.all_eq_true.1 hd o (List.mem_of_getElem? (by rw [Array.getElem?_toList]; exact ho))
          rw [hc] at this
          cases this
        rcases h with h | ⟨_, h⟩
        · exact opIn l hQ hnd (opsIn l hQ hd is) h
        · exact absurd h hQ
      · rename_i hw
        rw [if_neg hw]
        exact ⟨fun _ _ => trivial, opsIn l hQ hd is _ w h⟩
theorem wpR_region {l id : Nat} {a : Act} {w : World} (hQ : ¬ LetsOut Q) (hd : noDefer ops = true) (h : wpFrom P ops Q 0 a w) : (Code.region id ops false).wpIn (inR l) n P Q a w := by
  refine wpIn_region (opsIn l hQ hd _ _ _ ?_)
  unfold wpFrom at h
  rw [List.range_eq_range']
  exact h
theorem wpR_region_G {l id : Nat} {a : Act} {w : World} (hQ : ¬ LetsOut Q) (hd : noDefer ops = true) (hm : P.follows .mixedOrders = true) (h : wpG P ops Q [] a w.drew) : (Code.region id ops true).wpIn (inR l) n P Q a w := by
  refine wpIn_region_draw fun t => opsIn l hQ hd _ _ _ ?_
  simp only [Region.schedule, hm, Bool.true_or, if_true]
  refine wpAny_sound ops.size t _ a _ ?_
  unfold wpG at h
  simpa [listedOf] using h
end
end Go.Proofs.Ythcbemnflgjadaa
namespace Go.Proofs.Ythcbemnflgjadaa
open Go Go.RowKit
open Rep (rep)
open KRep (kv)
open VRep (rv)
def Yields (P : Program) (l : Nat) (args : Array Value) (w : World) (R : Bool → World → Prop) : Prop :=
  ∃ r : Loop, w.heap[l]? = some (.loop r) ∧ args.size = r.params.size ∧
    RoundIn Fence.wide 0 P l r.fn ((r.params.zip args).foldl (fun tmps (t, a) => tmps.setIfInBounds t a) r.tmps) r.assign r.body w (fun e w' => ∃ b, e = .returned (.bool b) ∧ R b w')
section
variable {P : Program} {ops : Array Oper} {X : List Nat} {Q : Exit → Act → World → Prop} {N : Nat} {F : Fr} {h : Heap} {e : Env} {pl : List Plc} {rw : List Row} {w w' : World} {m : TM} {t : Array Value} {d : List Deferred}
def wpFromI (P : Program) (ops : Array Oper) (Q : Exit → Act → World → Prop) (i : Nat) (a : Act) (w : World) : Prop := wpOpsIn Fence.wide 0 P ops Q (List.range' i (ops.size - i)) a w
theorem wp_region_fromI {id : Nat} {a : Act} (h : wpFromI P ops Q 0 a w) : (Code.region id ops false).wp P Q a w := by
  refine wpIn_wide.1 (wpIn_region (n := 0) ?_)
  unfold wpFromI at h
  rw [List.range_eq_range']
  simpa using h
theorem wpFromI_end {i : Nat} {a : Act} (hi : ops.size ≤ i) (h : Q .normal a w) : wpFromI P ops Q i a w := by
  unfold wpFromI
  rw [show ops.size - i = 0 by omega]
  exact h
theorem wpFromI_op {i : Nat} {a : Act} {o : Oper} (ho : ops[i]? = some o)
    (h : if Region.wanted o (yielded ops a.tmps) then o.wpIn Fence.wide 0 P a w (wpFromI P ops Q (i + 1)) Q else wpFromI P ops Q (i + 1) (a.put o.dst undef) w) : wpFromI P ops Q i a w := by
  have hi : i < ops.size := (Array.getElem?_eq_some_iff.1 ho).1
  unfold wpFromI
  rw [show ops.size - i = (ops.size - (i + 1)) + 1 by omega, List.range'_succ]
  unfold wpOpsIn
  simp only [ho]
  split
  · rename_i hw; rw [if_pos hw] at h; exact h
  · rename_i hw; rw [if_neg hw] at h; exact ⟨fun _ _ => trivial, h⟩
theorem opW {o : Oper} {a : Act} {w : World} {K : Act → World → Prop} (h : o.wp P a w K Q) : o.wpIn Fence.wide 0 P a w K Q := by
  refine ⟨fun _ _ => trivial, ?_⟩
  rw [show Fence.wide.round = none from rfl, Oper.semAt_none]
  unfold Oper.wp at h
  generalize (execOp a.eval o).run P w = r at h
  cases r with
  | ok x w' =>
    cases x with
    | value v => exact h
    | skip => exact h
    | defer d => exact h
    | enter f args => exact ⟨fun hh => by simp [Fence.wide] at hh, callsIn_wide.2 h⟩
    | row row args => exact ⟨fun hh => by simp [Fence.wide] at hh, fun c cs _ => let ⟨v, w', r, s⟩ := h c cs; ⟨v, w', r, stepsIn_wide.2 s⟩⟩
    | _ => exact h.elim
  | halt x w' =>
    cases x with
    | panic v => exact h
    | _ => exact h.elim
theorem wpFromI_run (hp : PlOk e pl w) : ∀ (n i : Nat) (m m' : TM) (t : Array Value), Kn N e m t → qrun P ops N pl i n m = some m' →
    (∀ t', Kn N e m' t' → wpFromI P ops Q (i + n) ⟨t', d⟩ w) → wpFromI P ops Q i ⟨t, d⟩ w
  | 0, i, m, m', t, hk, h, H => by
    simp [qrun] at h; subst h
    exact H t hk
  | n + 1, i, m, m', t, hk, h, H => by
    unfold qrun at h
    split at h
    · rename_i m1 h1
      obtain ⟨o, v, ho, hk', hd, hv, _⟩ := qstep_sound (d := d) hk h1
      have hrest : wpFromI P ops Q (i + 1) ((Act.mk t d).put o.dst v) w := by
        have := wpFromI_run hp n (i + 1) m1 m' _ hk' h (fun t' hk'' => by rw [show i + 1 + n = i + (n + 1) by omega]; exact H t' hk'')
        have e : (Act.mk t d).put o.dst v = Act.mk ((Act.mk t d).put o.dst v).tmps d := act_eta hd
        rw [e]; exact this
      refine wpFromI_op ho ?_
      rcases hv with ⟨hw, hv⟩ | ⟨hw, rfl⟩
      · rw [if_pos hw]
        refine opW ?_
        unfold Oper.wp Oper.upon
        rw [hv w hp]
        exact hrest
      · rw [if_neg (by rw [hw]; simp)]
        exact hrest
    · simp at h
theorem RI_runk (i n : Nat) (ks : List Nat) (m' : TM) (hk : Kn N e m t) (hp : PlOk e pl w) (h : (qrun P ops N pl i n m).map (fun x => keepTM x ks) = some m')
    (H : ∀ t', Kn N e m' t' → wpFromI P ops Q (i + n) ⟨t', d⟩ w) : wpFromI P ops Q i ⟨t, d⟩ w := by
  obtain ⟨m1, h1, rfl⟩ := Option.map_eq_some_iff.1 h
  exact wpFromI_run hp n i m m1 t hk h1 fun t' hk' => H t' (hk'.sub (keepTM_sub _ _))
theorem RI_yield {x : Operand} {args : Array Operand} {tys : Array TypeId} {l : Nat} {R : Bool → World → Prop} (i : Nat) {o : Oper} {dd : Nat} (vs : List SA) (vals : Array Value) (hk : Kn N e m t) (hi : ops[i]? = some o) (hop : o.op = .call ⟨.value x, args, tys⟩)
    (hg : Region.wanted o (yielded ops t) = true) (hdst : o.dst = some dd) (hlt : dd < N) (hx : evA m x = some (.c (.func (.yield l) #[] #[]))) (hargs : evAs m args.toList = some vs) (hvals : (vs.map (SA.den e)).toArray = vals)
    (hy : Yields P l vals w R) (H : ∀ b w', R b w' → ∀ t', Kn N e (m.put dd (.one (.c (.bool b)))) t' → wpFromI P ops Q (i + 1) ⟨t', d⟩ w') : wpFromI P ops Q i ⟨t, d⟩ w := by
  subst hvals
  have h1 : args.map (Act.mk t d).eval = (vs.map (SA.den e)).toArray := by
    rw [← evAs_sound (dd := d) hk hargs]
    apply Array.ext'
    rw [Array.toList_map]
  have hxe := evA_sound (d := d) hk hx
  simp only [SA.den, SC.den] at hxe
  obtain ⟨r, hl, hs, hr⟩ := hy
  refine wpFromI_op hi ?_
  rw [if_pos hg]
  refine ⟨fun _ _ => trivial, ?_⟩
  rw [show Fence.wide.round = none from rfl, Oper.semAt_none]
  unfold execOp
  simp only [hop, resolve, h1, hxe]
  simp only [Deferred.ofValue, Sem.run_bind, Sem.run_pure, Result.andThen_ok, invoke, Array.empty_append, Array.append_empty, run_yield hl hs]
  refine ⟨fun hh => by simp [Fence.wide] at hh, RoundIn.mono hr ?_⟩
  rintro en w' ⟨b, rfl, hR⟩
  show wpFromI P ops Q (i + 1) _ w'
  rw [put_eq t d hdst]
  exact H b w' hR _ (hk.put hlt (.one (.c (.bool b))))
theorem it_end {fn : Func} {J : World → Prop} (hr : fn.results = #[]) (hJ : J w) : bodyPost P fn (fun en w' => en = .returned (.tuple #[]) ∧ J w') .normal ⟨t, []⟩ w := by
  refine ⟨rfl, .tuple #[], ?_, rfl, hJ⟩
  simp [results, hr]
theorem it_ret {fn : Func} {J : World → Prop} (hr : fn.results = #[]) (hJ : J w) : bodyPost P fn (fun en w' => en = .returned (.tuple #[]) ∧ J w') .ret ⟨t, []⟩ w := by
  refine ⟨rfl, .tuple #[], ?_, rfl, hJ⟩
  simp [results, hr]
end
end Go.Proofs.Ythcbemnflgjadaa
namespace Go.Proofs.Ythcbemnflgjadaa
open Go Go.RowKit
open Rep (rep)
open KRep (kv)
open VRep (rv)
section
variable {P : Program} {Q : Exit → Act → World → Prop} {w : World} {t : Array Value} {d : List Deferred}
def roundEnd (l : Nat) (r : Loop) (R : Bool → World → Prop) : Exit → Act → World → Prop
  | .normal, _, w => w.heap[l]? = some (.loop { r with state := .busy }) ∧ R true (w.putObj l (.loop { r with state := .ready, pending := none }))
  | _, _, _ => False
theorem yields_of {l : Nat} {r : Loop} {args : Array Value} {R : Bool → World → Prop} (hl : w.heap[l]? = some (.loop r)) (hs : args.size = r.params.size)
    (H : r.assign.wpIn (inR l) 0 P (Exit.then (fun a w => w.heap[l]? = some (.loop r) ∧ r.state = .ready ∧ r.body.wpIn (inR l) 0 P (roundEnd l r R) a (w.putObj l (.loop { r with state := .busy }))) (fun _ _ _ => False))
      ⟨(r.params.zip args).foldl (fun tmps (t, a) => tmps.setIfInBounds t a) r.tmps, []⟩ w) : Yields P l args w R := by
  refine ⟨r, hl, hs, roundIn_of_wpIn trivial (wpIn_mono H ?_)⟩
  intro e a w1 h
  cases e with
  | normal =>
    obtain ⟨h1, h2, h3⟩ := h
    refine ⟨_, run_beginRound h1 h2, wpIn_mono h3 ?_⟩
    intro e a w2 h
    cases e with
    | normal =>
      obtain ⟨q1, q2⟩ := h
      refine ⟨_, _, run_endRound none q1, true, rfl, ?_⟩
      simpa using q2
    | _ => exact h.elim
  | _ => exact h.elim
def loopWorld (w : World) (r : Loop) : World := (w.alloc (.deferred (some []))).alloc (.loop r)
theorem wp_range {g : Operand} {ps : Array Tmp} {assign body : Code} {f : FuncId} {first cap : Array Value} (hg : (Act.mk t d).eval g = .func (.func f) first cap) (hent : ∀ as w, (callFunc f as).run P w = .ok (.enter f as) w)
    (H : ∀ fn : FuncId, Calls P f (first ++ #[.func (.yield (w.heap.size + 1)) #[] #[]] ++ cap) (loopWorld w ⟨.ready, none, fn, t, ps, assign, body, w.heap.size⟩)
      (fun en w' => en = .returned (.tuple #[]) ∧ ∃ r', w'.heap[w.heap.size + 1]? = some (.loop r') ∧ r'.state ≠ .busy ∧ r'.pending = none ∧
        Q .normal ⟨t, [{ target := .collected w.heap.size, args := #[] }] ++ d⟩ (w'.putObj (w.heap.size + 1) (.loop { r' with state := .exhausted })))) :
    (Code.rangeFunc g ps assign body).wp P Q ⟨t, d⟩ w := by
  refine wpIn_wide.1 (wpIn_rangeFunc (n := 0) fun fn _ => ?_)
  refine ⟨w.heap.size + 1, [{ target := .collected w.heap.size, args := #[] }], loopWorld w ⟨.ready, none, fn, t, ps, assign, body, w.heap.size⟩, { target := .fn (.func f) cap, args := first ++ #[.func (.yield (w.heap.size + 1)) #[] #[]] },
    loopWorld w ⟨.ready, none, fn, t, ps, assign, body, w.heap.size⟩, f, first ++ #[.func (.yield (w.heap.size + 1)) #[] #[]] ++ cap, loopWorld w ⟨.ready, none, fn, t, ps, assign, body, w.heap.size⟩, ?_, ?_, fun _ _ => trivial, ?_, fun hh => by simp [Fence.wide] at hh, ?_⟩
  · exact run_enterLoop_outer _ _ _ _ _
  · simp only [resolve, rangeCall, hg, Deferred.ofValue, List.map_toArray, List.map_cons, List.map_nil]
    simp only [Act.eval]
    rfl
  · simp only [invoke, hent]
  · refine callsIn_wide.2 (Calls.mono (H fn) ?_)
    rintro en w' ⟨rfl, r', h1, h2, h3, h4⟩
    refine ⟨_, _, run_endLoop h1 h2, ?_⟩
    split
    · exact h4
    · rename_i hc; rw [h3] at hc; cases hc
end
end Go.Proofs.Ythcbemnflgjadaa
namespace Go.Proofs.Ythcbemnflgjadaa
open Go Go.RowKit
open Rep (rep)
open KRep (kv)
open VRep (rv)
open Go.ChangeMaps (setBlock)
def mark (b : Nat) : Deferred := { target := .collected b, args := #[] }
section
variable {P : Program} {Q : Exit → Act → World → Prop} {N : Nat} {F : Fr} {h : Heap} {e : Env} {pl : List Plc} {rw : List Row} {w w' : World} {m : TM} {t : Array Value}
theorem putObj_grown (w : World) (b : Nat) (o : Obj) : w.grownBy (w.putObj b o) (some b) := setBlock_grown w b o
theorem leaves_marks {fn : Func} {R : Heap → Value → Prop} (sv : SV) (hk : Kn N e m t) (hr : resS P m pl fn.results.toList = some sv) (hR : R h (sv.den e)) :
    ∀ (bs : List Nat) (F : Fr) (w : World), Mem F h e pl rw w → bs.Nodup → (∀ b ∈ bs, F.X b = some (.deferred (some []))) → LeavesInM Fence.wide 0 P fn t (Ret R F.h F.w) (bs.map mark) .returning w
  | [], F, w, hm, _, _ => by
    show LeavesIn Fence.wide 0 P fn t _ [] .returning w
    unfold LeavesIn
    exact ⟨_, resS_sound hk hm.plOk hr, ret_of_mem hm hR⟩
  | b :: bs, F, w, hm, hn, hx => by
    have hb := hx b (by simp)
    obtain ⟨n1, n2⟩ := List.nodup_cons.1 hn
    refine ⟨by simp, .inl ⟨b, _, rfl, run_takeDeferred (hm.ext hb), ?_⟩⟩
    have hm2 := hm.setX (o' := .deferred none) hb rfl (putObj_grown w b _) (World.putObj_heap_same (hm.extLt hb))
    refine leaves_marks sv hk hr hR bs (F.put b (some (.deferred none))) _ hm2 n2 fun c hc => ?_
    have hcb : c ≠ b := fun hcb => n1 (hcb ▸ hc)
    simp only [Fr.put, hcb, if_false]
    exact hx c (by simp [hc])
theorem retM_ok {fn : Func} {R : Heap → Value → Prop} (sv : SV) (bs : List Nat) (hk : Kn N e m t) (hm : Mem F h e pl rw w) (hn : bs.Nodup) (hx : ∀ b ∈ bs, F.X b = some (.deferred (some []))) (hr : resS P m pl fn.results.toList = some sv) (hR : R h (sv.den e)) :
    bodyPostM Fence.wide 0 P fn (Ret R F.h F.w) .ret ⟨t, bs.map mark⟩ w := leaves_marks sv hk hr hR bs F w hm hn hx
theorem enterM {f : FuncId} {fn : Func} {c : Code} {R : Ending → World → Prop} {vals : Array Value} (N : Nat) (vs : List SA) (hf : P.funcs[f]? = some fn) (hb : fn.body = some c) (hN : fn.ntmps = N) (hn : decide (vs.length ≤ N) = true) (hv : (vs.map (SA.den e)).toArray = vals)
    (H : ∀ t, Kn N e (argTM 0 vs) t → c.wp P (bodyPostM Fence.wide 0 P fn R) ⟨t, []⟩ w) : Calls P f vals w R := by
  subst hv
  have hn : vs.length ≤ N := by simpa using hn
  refine callsIn_wide.1 (callsIn_of_wp_marks (n := 0) hf hb trivial (wpIn_wide.2 (H _ ⟨by simp [hN]; omega, fun k v hk => ?_⟩)))
  obtain ⟨i, h1, h2⟩ := argTM_get e vs 0 k v hk
  obtain rfl : k = i := by omega
  have hlt : k < (vs.map (SA.den e)).length := by
    rcases Nat.lt_or_ge k (vs.map (SA.den e)).length with h' | h'
    · exact h'
    · rw [List.getElem?_eq_none h'] at h2; cases h2
  rw [Array.getElem?_append_left (by simpa using hlt)]
  simpa using h2
def noPanic (Q : Exit → Act → World → Prop) : Exit → Act → World → Prop
  | .panic _, _, _ => False
  | x, a, w => Q x a w
theorem enterMk {f : FuncId} {fn : Func} {c : Code} {R : Ending → World → Prop} {vals : Array Value} (N : Nat) (vs : List SA) (hf : P.funcs[f]? = some fn) (hb : fn.body = some c) (hN : fn.ntmps = N) (hn : decide (vs.length ≤ N) = true) (hv : (vs.map (SA.den e)).toArray = vals)
    (H : ∀ t, Kn N e (argTM 0 vs) t → c.wp P (noPanic (bodyPostM Fence.wide 0 P fn R)) ⟨t, []⟩ w) : Calls P f vals w R := by
  refine enterM N vs hf hb hN hn hv fun t hk => ?_
  refine wpIn_wide.1 (wpIn_mono (wpIn_wide (n := 0).2 (H t hk)) fun x a w h => ?_)
  cases x <;> first | exact h | exact h.elim
theorem loopWorld_mem (r : Loop) (hm : Mem F h e pl rw w) : Mem ((F.put w.heap.size (some (.deferred (some [])))).put (w.heap.size + 1) (some (.loop r))) h e pl rw (loopWorld w r) := by
  have h1 := (hm.allocX (.deferred (some []))).allocX (.loop r)
  simpa [loopWorld] using h1
theorem Mem.putLoop {b : Nat} {o o' : Obj} (hm : Mem F h e pl rw w) (hx : F.X b = some o) (hc : isCells o = false) : Mem (F.put b (some o')) h e pl rw (w.putObj b o') :=
  hm.setX hx hc (putObj_grown w b _) (World.putObj_heap_same (hm.extLt hx))
end
end Go.Proofs.Ythcbemnflgjadaa
namespace Go.Proofs.Ythcbemnflgjadaa
open Go Go.RowKit
open Rep (rep)
open KRep (kv)
open VRep (rv)
open Go.ChangeMaps (setBlock)
section
variable {P : Program} {Q : Exit → Act → World → Prop} {N : Nat} {F : Fr} {h : Heap} {e : Env} {pl : List Plc} {rw : List Row} {w w' : World} {m : TM} {t : Array Value} {dd : List Deferred} {o : Oper} {d : Nat} {K : Act → World → Prop}
theorem PlOk.same {pl' : List Plc} (hp : PlOk e pl w) (h : pl.map (·.cells) = pl'.map (·.cells)) : PlOk e pl' w := fun i p hi j c hc => by
  have h1 : (pl'.map (·.cells))[i]? = some p.cells := by rw [List.getElem?_map, hi]; rfl
  rw [← h, List.getElem?_map] at h1
  obtain ⟨q, hq, hqc⟩ := Option.map_eq_some_iff.1 h1
  exact hp i q hq j c (by rw [hqc]; exact hc)
end
end Go.Proofs.Ythcbemnflgjadaa
namespace Go.Proofs.Ythcbemnflgjadaa
open Go Go.RowKit
open Rep (rep)
open KRep (kv)
open VRep (rv)
section
variable {P : Program} {Q : Exit → Act → World → Prop} {N : Nat} {e : Env} {w : World} {m : TM} {t : Array Value} {d : List Deferred} {F : Fence} {n : Nat}
end
end Go.Proofs.Ythcbemnflgjadaa
namespace Go.Proofs.Ythcbemnflgjadaa
open Go Go.RowKit
open Rep (rep)
open KRep (kv)
open VRep (rv)
theorem Fr.put_put (F : Fr) (b : Nat) (x y : Option Obj) : (F.put b x).put b y = F.put b y := by
  unfold Fr.put
  congr 1
  funext k
  by_cases hk : k = b <;> simp [hk]
theorem Fr.put_X (F : Fr) (b : Nat) (x : Option Obj) : (F.put b x).X b = x := by simp [Fr.put]
theorem Fr.put_ne (F : Fr) {b c : Nat} (x : Option Obj) (h : c ≠ b) : (F.put b x).X c = F.X c := by simp [Fr.put, h]
theorem Fr.put_self {F : Fr} {b : Nat} {x : Option Obj} (h : F.X b = x) : F.put b x = F := by
  cases F with
  | mk w h' X =>
    unfold Fr.put
    congr 1
    funext k
    by_cases hk : k = b
    · subst hk; simp; exact h.symm
    · simp [hk]
def putL {α : Type} (l : List α) : List Nat → List α → List α
  | i :: is, x :: xs => putL (l.set i x) is xs
  | _, _ => l
theorem putL_length {α : Type} : ∀ (is : List Nat) (xs l : List α), (putL l is xs).length = l.length
  | [], xs, l => by cases xs <;> rfl
  | _ :: _, [], _ => rfl
  | i :: is, x :: xs, l => by rw [putL, putL_length is xs]; simp
theorem putL_not {α : Type} {j : Nat} : ∀ (is : List Nat) (xs l : List α), j ∉ is → (putL l is xs)[j]? = l[j]?
  | [], xs, l, _ => by cases xs <;> rfl
  | _ :: _, [], _, _ => rfl
  | i :: is, x :: xs, l, h => by
    simp only [List.mem_cons, not_or] at h
    rw [putL, putL_not is xs _ h.2, List.getElem?_set_ne (Ne.symm h.1)]
theorem putL_at {α : Type} : ∀ (is : List Nat) (xs l : List α) (k j : Nat) (x : α), is.Nodup → is[k]? = some j → xs[k]? = some x → j < l.length → (putL l is xs)[j]? = some x
  | [], _, _, _, _, _, _, h, _, _ => by simp at h
  | _ :: _, [], _, _, _, _, _, _, h, _ => by simp at h
  | i :: is, y :: xs, l, 0, j, x, hn, h1, h2, h3 => by
    simp at h1 h2
    subst h1; subst h2
    rw [putL, putL_not is xs _ (List.nodup_cons.1 hn).1]
    simp [h3]
  | i :: is, y :: xs, l, k + 1, j, x, hn, h1, h2, h3 => by
    rw [putL]
    exact putL_at is xs _ k j x (List.nodup_cons.1 hn).2 (by simpa using h1) (by simpa using h2) (by simpa using h3)
def pick {α : Type} (l : List α) (is : List Nat) (d : α) : List α := is.map fun i => l.getD i d
def plcD : Plc := ⟨[], none⟩
def rowD : Row := ⟨none, 0, 0, 0, 0, [], 0⟩
def blkOf (e : Env) (is : List Nat) : Env := is.map e.blk
theorem blk_map (e : Env) : ∀ (is : List Nat) (k : Nat), k < is.length → Env.blk (blkOf e is) k = e.blk (is.getD k 0)
  | [], k, h => by simp at h
  | i :: is, 0, _ => rfl
  | i :: is, k + 1, h => by
    have := blk_map e is k (by simpa using h)
    simpa [blkOf, Env.blk] using this
def noPtr : List SC → Bool
  | [] => true
  | .ptr _ _ :: _ => false
  | _ :: r => noPtr r
theorem noPtr_den {e e' : Env} : ∀ {cs : List SC}, noPtr cs = true → cs.map (SC.den e) = cs.map (SC.den e')
  | [], _ => rfl
  | c :: r, h => by
    cases c with
    | ptr i off => simp [noPtr] at h
    | _ => simp only [noPtr] at h; rw [List.map_cons, List.map_cons, noPtr_den (e := e) (e' := e') h]; rfl
def lendOkP (pl : List Plc) (is : List Nat) : Bool := is.all fun i => match pl[i]? with | some p => p.own.isSome && noPtr p.cells | none => false
def lendOkR (rw : List Row) (js : List Nat) : Bool := js.all fun j => decide (j < rw.length)
def nodupB : List Nat → Bool
  | [] => true
  | x :: r => !r.contains x && nodupB r
theorem nodupB_sound : ∀ {l : List Nat}, nodupB l = true → l.Nodup
  | [], _ => List.nodup_nil
  | x :: r, h => by
    simp only [nodupB, Bool.and_eq_true, Bool.not_eq_true', List.contains_eq_mem] at h
    exact List.nodup_cons.2 ⟨by simpa using h.1, nodupB_sound h.2⟩
theorem idxOf?_some : ∀ {l : List Nat} {x k : Nat}, l.idxOf? x = some k → l[k]? = some x
  | [], _, _, h => by simp [List.idxOf?] at h
  | y :: r, x, k, h => by
    rw [List.idxOf?_cons] at h
    split at h
    · rename_i hy
      cases h
      simp at hy
      simp [hy]
    · obtain ⟨k', hk, rfl⟩ := Option.map_eq_some_iff.1 h
      simpa using idxOf?_some hk
theorem idxOf?_mem : ∀ {l : List Nat} {x : Nat}, x ∈ l → ∃ k, l.idxOf? x = some k
  | y :: r, x, h => by
    rw [List.idxOf?_cons]
    split
    · exact ⟨0, rfl⟩
    · rename_i hy
      rcases List.mem_cons.1 h with rfl | h
      · simp at hy
      · obtain ⟨k, hk⟩ := idxOf?_mem h
        exact ⟨k + 1, by simp [hk]⟩
theorem idxOf?_at : ∀ {l : List Nat} {x k : Nat}, l.Nodup → l[k]? = some x → l.idxOf? x = some k
  | [], _, _, _, h => by simp at h
  | y :: r, x, 0, _, h => by simp at h; subst h; rw [List.idxOf?_cons]; simp
  | y :: r, x, k + 1, hn, h => by
    have hx : x ∈ r := List.mem_of_getElem? (by simpa using h)
    have hy : y ≠ x := fun hy => (List.nodup_cons.1 hn).1 (hy ▸ hx)
    rw [List.idxOf?_cons, idxOf?_at (List.nodup_cons.1 hn).2 (by simpa using h)]
    simp [hy]
section
variable {F : Fr} {h : Heap} {e : Env} {pl : List Plc} {rw : List Row} {w : World}
def holdX (F : Fr) (ow : Owner) (e : Env) (pl : List Plc) (rw : List Row) (is js : List Nat) (w : World) : Nat → Option Obj := fun b =>
  match F.X b with
  | some o => some o
  | none => match ow b with
    | some (.inl i) => if i ∈ is then none else match pl[i]? with
      | some p => if p.own.isSome ∧ (e.blk i).1 = b then w.heap[b]? else none
      | none => none
    | some (.inr j) => if j ∈ js then none else match rw[j]? with
      | some r => if ∃ ad, r.a = some ad ∧ ad.block = b then w.heap[b]? else none
      | none => none
    | none => none
def lendOw (ow : Owner) (is js : List Nat) : Owner := fun b => match ow b with
  | some (.inl i) => (is.idxOf? i).map .inl
  | some (.inr j) => (js.idxOf? j).map .inr
  | none => none
theorem lendOw_some {ow : Owner} {is js : List Nat} {b : Nat} {x : Nat ⊕ Nat} (hx : lendOw ow is js b = some x) :
    (∃ i k, x = .inl k ∧ ow b = some (.inl i) ∧ is[k]? = some i) ∨ (∃ j k, x = .inr k ∧ ow b = some (.inr j) ∧ js[k]? = some j) := by
  unfold lendOw at hx
  split at hx
  · rename_i i hi
    obtain ⟨k, hk, rfl⟩ := Option.map_eq_some_iff.1 hx
    exact .inl ⟨i, k, rfl, hi, idxOf?_some hk⟩
  · rename_i j hj
    obtain ⟨k, hk, rfl⟩ := Option.map_eq_some_iff.1 hx
    exact .inr ⟨j, k, rfl, hj, idxOf?_some hk⟩
  · cases hx
theorem Mem.lend (is js : List Nat) (hm : Mem F h e pl rw w) (hi : lendOkP pl is = true) (hj : lendOkR rw js = true) (hni : nodupB is = true) (hnj : nodupB js = true) :
    ∃ Y, (∀ b o, F.X b = some o → Y b = some o) ∧ Mem ⟨F.w, h, Y⟩ h (blkOf e is) (pick pl is plcD) (pick rw js rowD) w ∧
      ∀ (Z : Nat → Option Obj) (h' : Heap) (w' : World) (pl' : List Plc) (rw' : List Row), Heap.le h h' → (∀ b, F.X b = none → Z b = Y b) → pl'.length = is.length → js.length ≤ rw'.length →
        (pl'.all fun (p : Plc) => p.own.isSome && noPtr p.cells) = true → Mem ⟨F.w, h, Z⟩ h' (blkOf e is) pl' rw' w' →
        Mem ⟨F.w, F.h, fun b => if (F.X b).isSome then Z b else none⟩ h' e (putL pl is pl') (putL rw js rw' ++ rw'.drop js.length) w' := by
  have hni := nodupB_sound hni
  have hnj := nodupB_sound hnj
  obtain ⟨ow, m⟩ := hm
  have hI : ∀ k i, is[k]? = some i → ∃ p : Plc, pl[i]? = some p ∧ p.own.isSome = true ∧ noPtr p.cells = true := fun k i hk => by
    have := List.all_eq_true.1 hi i (List.mem_of_getElem? hk)
    split at this
    · rename_i p hp
      simp only [Bool.and_eq_true] at this
      exact ⟨p, hp, this⟩
    · cases this
  have hJ : ∀ k j, js[k]? = some j → ∃ r, rw[j]? = some r := fun k j hk => by
    have := of_decide_eq_true (List.all_eq_true.1 hj j (List.mem_of_getElem? hk))
    exact ⟨rw[j], List.getElem?_eq_getElem this⟩
  refine ⟨holdX F ow e pl rw is js w, fun b o hb => by simp [holdX, hb], ⟨lendOw ow is js, m.below, Heap.le_refl _, fun _ _ _ hx => .inl hx, m.has, ?_, ?_, ?_, ?_, ?_⟩, ?_⟩
  · intro b x hx
    rcases lendOw_some hx with ⟨i, k, _, h1, _⟩ | ⟨i, k, _, h1, _⟩ <;> exact m.ows b _ h1
  · intro b o x k hv hx
    rcases lendOw_some hx with ⟨i, k', _, h1, _⟩ | ⟨i, k', h0, h1, _⟩
    · exact m.hown b o x i hv h1
    · cases h0
  · intro k p hp
    simp only [pick, List.getElem?_map] at hp
    obtain ⟨i, hi', rfl⟩ := Option.map_eq_some_iff.1 hp
    obtain ⟨p, hp', ho, hnp⟩ := hI k i hi'
    have hl : k < is.length := (List.getElem?_eq_some_iff.1 hi').1
    have hb : Env.blk (blkOf e is) k = e.blk i := by
      rw [blk_map e is k hl]; congr 1; simp [List.getD_eq_getElem?_getD, hi']
    have := m.pls i p hp'
    rw [List.getD_eq_getElem?_getD, hp']
    simp only [Option.getD_some]
    unfold PlcOk at this ⊢
    split at this
    · rename_i T hT
      obtain ⟨h1, h2, h3, h4⟩ := this
      rw [hb]
      refine ⟨?_, h2, ?_, h4⟩
      · simp only [lendOw, h1, idxOf?_at hni hi', Option.map_some]
      · rw [h3, noPtr_den hnp]
    · rename_i hT
      rw [hT] at ho; cases ho
  · intro k r hr
    simp only [pick, List.getElem?_map] at hr
    obtain ⟨j, hj', rfl⟩ := Option.map_eq_some_iff.1 hr
    obtain ⟨r, hr'⟩ := hJ k j hj'
    rw [List.getD_eq_getElem?_getD, hr']
    obtain ⟨h1, h2, h3, h4⟩ := m.rws j r hr'
    refine ⟨h1, h2, fun ad ha => ?_, h4⟩
    obtain ⟨q1, q2, q3⟩ := h3 ad ha
    refine ⟨?_, q2, q3⟩
    simp only [lendOw, q1, idxOf?_at hnj hj', Option.map_some]
  · intro b x hx
    simp only [holdX] at hx
    split at hx
    · rename_i o ho
      cases hx
      obtain ⟨h1, h2, h3, h4, h5⟩ := m.ext b _ ho
      exact ⟨h1, h2, h3, by simp [lendOw, h4], fun _ _ hv => hv, h5.2⟩
    · split at hx
      · rename_i i hio
        split at hx
        · cases hx
        · rename_i hni'
          split at hx
          · rename_i p hp
            split at hx
            · rename_i hb
              have := m.ows b _ hio
              have hpl := m.pls i p hp
              unfold PlcOk at hpl
              split at hpl
              · obtain ⟨q1, q2, q3, q4⟩ := hpl
                rw [hb.2] at q3 q4
                have hxe := hx
                rw [q3] at hxe
                refine ⟨this.1, this.2, hx, ?_, fun _ _ hv => hv, fun hc => ?_⟩
                · simp only [lendOw, hio]
                  cases hix : is.idxOf? i with
                  | none => rfl
                  | some k => exact absurd (List.mem_of_getElem? (idxOf?_some hix)) hni'
                · exact q4
              · rename_i hT
                rw [hT] at hb; simp at hb
            · cases hx
          · cases hx
      · rename_i j hjo
        split at hx
        · cases hx
        · rename_i hnj'
          split at hx
          · rename_i r hr
            split at hx
            · rename_i hb
              obtain ⟨ad, ha, hb⟩ := hb
              have := m.ows b _ hjo
              refine ⟨this.1, this.2, hx, ?_, fun _ _ hv => hv, fun hc => ?_⟩
              · simp only [lendOw, hjo]
                cases hix : js.idxOf? j with
                | none => rfl
                | some k => exact absurd (List.mem_of_getElem? (idxOf?_some hix)) hnj'
              · exfalso
                obtain ⟨_, h2⟩ := (m.rws j r hr).own
                rcases h2 with ⟨h2, _⟩ | ⟨g, cap, cur, h2, _, h3, _⟩
                · rw [ha] at h2; cases h2
                · rw [ha] at h2
                  have hg : ad = ⟨g, 0, none⟩ := by injection h2 with h2; exact Option.some.inj h2
                  rw [hg] at hb
                  simp only at hb
                  rw [← hb, h3] at hx
                  cases hx
                  cases hc
            · cases hx
          · cases hx
      · cases hx
  · intro Z h' w' pl' rw' hle hZ hl1 hl2 hok hm'
    obtain ⟨ow', m'⟩ := hm'
    have hY : ∀ b x, F.X b = none → holdX F ow e pl rw is js w b = some x → Z b = some x := fun b x hb hx => by rw [hZ b hb]; exact hx
    refine ⟨fun b => match ow' b with
      | some (.inl k) => (is[k]?).map .inl
      | some (.inr k) => if k < js.length then (js[k]?).map .inr else some (.inr (rw.length + (k - js.length)))
      | none => if F.X b = none ∧ (holdX F ow e pl rw is js w b).isSome then ow b else none, m'.below, Heap.le_trans m.le hle, ?_, m'.has, ?_, ?_, ?_, ?_, ?_⟩
    · intro b o x hx
      rcases m'.old b o x hx with h1 | h1
      · exact m.old b o x h1
      · exact .inr h1
    · intro b x hx
      (try simp only at hx)
      split at hx
      · rename_i k hk; exact m'.ows b _ hk
      · rename_i k hk; exact m'.ows b _ hk
      · split at hx
        · rename_i hc
          obtain ⟨y, hy⟩ := Option.isSome_iff_exists.1 hc.2
          exact ⟨(m.ows b _ hx).1, (m'.ext b y (hY b y hc.1 hy)).2.1⟩
        · cases hx
    · intro b o x i hv hx
      (try simp only at hx)
      split at hx
      · rename_i k hk; exact m'.hown b o x k hv hk
      · split at hx
        · obtain ⟨_, _, hc⟩ := Option.map_eq_some_iff.1 hx
          cases hc
        · cases hx
      · split at hx
        · rename_i hc
          obtain ⟨y, hy⟩ := Option.isSome_iff_exists.1 hc.2
          exact m.hown b o x i ((m'.ext b y (hY b y hc.1 hy)).2.2.2.2.1 o x hv) hx
        · cases hx
    · intro i p hp
      by_cases hii : i ∈ is
      · obtain ⟨k, hk⟩ := idxOf?_mem hii
        have hk := idxOf?_some hk
        have hkl : k < is.length := (List.getElem?_eq_some_iff.1 hk).1
        obtain ⟨p0, hp0, _, _⟩ := hI k i hk
        have hq : pl'[k]? = some pl'[k] := List.getElem?_eq_getElem (by omega)
        rw [putL_at is pl' pl k i _ hni hk hq (List.getElem?_eq_some_iff.1 hp0).1] at hp
        have hp := Option.some.inj hp
        have hall := List.all_eq_true.1 hok _ (List.mem_of_getElem? hq)
        rw [hp] at hq hall
        simp only [Bool.and_eq_true] at hall
        have := m'.pls k p hq
        have hb : Env.blk (blkOf e is) k = e.blk i := by
          rw [blk_map e is k hkl]; congr 1; simp [List.getD_eq_getElem?_getD, hk]
        unfold PlcOk at this ⊢
        split at this
        · obtain ⟨q1, q2, q3, q4⟩ := this
          rw [hb] at q1 q2 q3 q4
          refine ⟨?_, q2, ?_, q4⟩
          · simp only [q1, hk, Option.map_some]
          · rw [q3, noPtr_den hall.2]
        · rename_i hT
          rw [hT] at hall; simp at hall
      · rw [putL_not is pl' pl hii] at hp
        have := m.pls i p hp
        unfold PlcOk at this ⊢
        split at this
        · rename_i T hT
          obtain ⟨q1, q2, q3, q4⟩ := this
          have hX : F.X (e.blk i).1 = none := by
            cases hx : F.X (e.blk i).1 with
            | none => rfl
            | some y => have := (m.ext _ y hx).2.2.2.1; rw [this] at q1; cases q1
          have hh : holdX F ow e pl rw is js w (e.blk i).1 = some (.cells (p.cells.map (SC.den e)).toArray T (0, 0)) := by
            simp only [holdX, hX, q1, hii, if_false, hp, hT, Option.isSome_some, true_and, if_true, q3]
          obtain ⟨s1, s2, s3, s4, s5⟩ := m'.ext _ _ (hY _ _ hX hh)
          refine ⟨?_, q2, s3, fun o => ?_⟩
          · simp only [s4, hX, hh, Option.isSome_some, and_self, if_true, q1]
          · cases hv : h' (e.blk i).1 o with
            | none => rfl
            | some v => have h9 : h (e.blk i).1 o = some v := s5.1 o v hv; rw [q4 o] at h9; cases h9
        · exact fun j c hj => hle _ _ _ (this j c hj)
    · intro i r hr
      have hlen := putL_length js rw' rw
      by_cases hi' : i < rw.length
      · rw [List.getElem?_append_left (by omega)] at hr
        by_cases hii : i ∈ js
        · obtain ⟨k, hk⟩ := idxOf?_mem hii
          have hk := idxOf?_some hk
          have hkl : k < js.length := (List.getElem?_eq_some_iff.1 hk).1
          have hq : rw'[k]? = some rw'[k] := List.getElem?_eq_getElem (by omega)
          rw [putL_at js rw' rw k i _ hnj hk hq hi'] at hr
          have hr := Option.some.inj hr
          rw [hr] at hq
          obtain ⟨q1, q2, q3, q9⟩ := m'.rws k r hq
          refine ⟨q1, q2, fun ad ha => ?_, q9⟩
          obtain ⟨q4, q5, q6⟩ := q3 ad ha
          exact ⟨by simp only [q4, hkl, if_true, hk, Option.map_some], q5, q6⟩
        · rw [putL_not js rw' rw hii] at hr
          obtain ⟨q1, q2, q3, q9⟩ := m.rws i r hr
          have key : ∀ ad, r.a = some ad → ∃ x, holdX F ow e pl rw is js w ad.block = some x ∧ w.heap[ad.block]? = some x ∧ F.X ad.block = none := fun ad ha => by
            obtain ⟨q4, q5, q6⟩ := q3 ad ha
            have hX : F.X ad.block = none := by
              cases hx : F.X ad.block with
              | none => rfl
              | some y => have := (m.ext _ y hx).2.2.2.1; rw [this] at q4; cases q4
            have hlt := (m.ows _ _ q4).2
            refine ⟨w.heap[ad.block], ?_, Array.getElem?_eq_getElem hlt, hX⟩
            simp only [holdX, hX, q4, hii, if_false, hr]
            rw [if_pos ⟨ad, ha, rfl⟩]
            exact Array.getElem?_eq_getElem hlt
          refine ⟨?_, q2, fun ad ha => ?_, q9⟩
          · refine ⟨q1.1, ?_⟩
            rcases q1.2 with hn | ⟨g, cap, cur, hv, hb, hg, rest⟩
            · exact .inl hn
            · refine .inr ⟨g, cap, cur, hv, hb, ?_, rest⟩
              have ha : r.a = some ⟨g, 0, none⟩ := by injection hv
              obtain ⟨x, hx1, hx2, hx3⟩ := key _ ha
              obtain ⟨s1, s2, s3, s4, s5⟩ := m'.ext _ _ (hY _ _ hx3 hx1)
              rw [s3, ← hx2]; exact hg
          · obtain ⟨q4, q5, q6⟩ := q3 ad ha
            obtain ⟨x, hx1, hx2, hx3⟩ := key _ ha
            obtain ⟨s1, s2, s3, s4, s5⟩ := m'.ext _ _ (hY _ _ hx3 hx1)
            refine ⟨?_, fun o ho => ?_, fun o ho => ?_⟩
            · simp only [s4, hx3, hx1, Option.isSome_some, and_self, if_true, q4]
            · cases hv : h' ad.block o with
              | none => rfl
              | some v => have h9 : h ad.block o = some v := s5.1 o v hv; rw [q5 o ho] at h9; cases h9
            · have := q6 o ho
              have h2 : r.xs[o]? = some (r.xs[o]'(by omega)) := List.getElem?_eq_getElem _
              rw [h2] at this ⊢
              exact hle _ _ _ this
      · rw [List.getElem?_append_right (by omega)] at hr
        simp only [List.getElem?_drop] at hr
        obtain ⟨q1, q2, q3, q9⟩ := m'.rws _ r hr
        refine ⟨q1, q2, fun ad ha => ?_, q9⟩
        obtain ⟨q4, q5, q6⟩ := q3 ad ha
        refine ⟨?_, q5, q6⟩
        simp only [q4]
        rw [if_neg (by omega)]
        congr 2
        omega
    · intro b x hx
      (try simp only at hx)
      split at hx
      · rename_i hc
        obtain ⟨y, hy⟩ := Option.isSome_iff_exists.1 hc
        obtain ⟨s1, s2, s3, s4, s5⟩ := m'.ext b x hx
        refine ⟨s1, s2, s3, ?_, fun o v hv => (m.ext b y hy).2.2.2.2.1 o v (s5.1 o v hv), s5.2⟩
        simp only [s4, hy]
        simp
      · cases hx
end
end Go.Proofs.Ythcbemnflgjadaa
namespace Go.Proofs.Ythcbemnflgjadaa
open Go Go.RowKit
open Rep (rep)
open KRep (kv)
open VRep (rv)
section
variable {P : Program} {Q : Exit → Act → World → Prop} {N : Nat} {F : Fr} {h : Heap} {e : Env} {pl : List Plc} {rw : List Row} {w : World} {m : TM} {t : Array Value} {dd : List Deferred} {o : Oper} {d : Nat} {K : Act → World → Prop}
theorem opt_cases {α : Type} (x : Option α) : x = none ∨ ∃ y, x = some y := by cases x <;> simp
theorem Mem.lend0 (is js : List Nat) (hm : Mem F h e pl rw w) (hi : lendOkP pl is = true) (hj : lendOkR rw js = true) (hni : nodupB is = true) (hnj : nodupB js = true) :
    ∃ Y, (∀ b o, F.X b = some o → Y b = some o) ∧ Mem ⟨F.w, h, Y⟩ h (blkOf e is) (pick pl is plcD) (pick rw js rowD) w ∧
      ∀ (h' : Heap) (w' : World) (pl' : List Plc) (rw' : List Row), Heap.le h h' → pl'.length = is.length → js.length ≤ rw'.length →
        (pl'.all fun (p : Plc) => p.own.isSome && noPtr p.cells) = true → Mem ⟨F.w, h, Y⟩ h' (blkOf e is) pl' rw' w' →
        Mem F h' e (putL pl is pl') (putL rw js rw' ++ rw'.drop js.length) w' := by
  obtain ⟨Y, h1, h2, h3⟩ := hm.lend is js hi hj hni hnj
  refine ⟨Y, h1, h2, fun h' w' pl' rw' hle hl1 hl2 hok hm' => ?_⟩
  have := h3 Y h' w' pl' rw' hle (fun _ _ => rfl) hl1 hl2 hok hm'
  have hF : (⟨F.w, F.h, fun b => if (F.X b).isSome then Y b else none⟩ : Fr) = F := by
    cases F with
    | mk w0 h0 X =>
      congr 1
      funext b
      rcases opt_cases (X b) with hx | ⟨x, hx⟩
      · simp [hx]
      · simp [hx, h1 b x hx]
  rw [hF] at this
  exact this
theorem Mem.lend1 (bm : Nat) {o0 : Obj} (hX : F.X bm = some o0) (is js : List Nat) (hm : Mem F h e pl rw w) (hi : lendOkP pl is = true) (hj : lendOkR rw js = true) (hni : nodupB is = true) (hnj : nodupB js = true) :
    ∃ Y, (∀ b o, F.X b = some o → Y b = some o) ∧ Mem ⟨F.w, h, Y⟩ h (blkOf e is) (pick pl is plcD) (pick rw js rowD) w ∧
      ∀ (o' : Obj) (h' : Heap) (w' : World) (pl' : List Plc) (rw' : List Row), Heap.le h h' → pl'.length = is.length → js.length ≤ rw'.length →
        (pl'.all fun (p : Plc) => p.own.isSome && noPtr p.cells) = true → Mem ((⟨F.w, h, Y⟩ : Fr).put bm (some o')) h' (blkOf e is) pl' rw' w' →
        Mem (F.put bm (some o')) h' e (putL pl is pl') (putL rw js rw' ++ rw'.drop js.length) w' := by
  obtain ⟨Y, h1, h2, h3⟩ := hm.lend is js hi hj hni hnj
  refine ⟨Y, h1, h2, fun o' h' w' pl' rw' hle hl1 hl2 hok hm' => ?_⟩
  have := h3 (fun k => if k = bm then some o' else Y k) h' w' pl' rw' hle (fun b hb => by
    have : b ≠ bm := fun hbm => by rw [hbm, hX] at hb; cases hb
    simp [this]) hl1 hl2 hok hm'
  have hF : (⟨F.w, F.h, fun b => if (F.X b).isSome then (if b = bm then some o' else Y b) else none⟩ : Fr) = F.put bm (some o') := by
    cases F with
    | mk w0 h0 X =>
      unfold Fr.put
      congr 1
      funext b
      simp only at hX h1 ⊢
      by_cases hb : b = bm
      · subst hb; simp [hX]
      · rcases opt_cases (X b) with hx | ⟨x, hx⟩
        · simp [hb, hx]
        · simp [hb, hx, h1 b x hx]
  rw [hF] at this
  exact this
def RetM (S : Value → World → Prop) (en : Ending) (w' : World) : Prop := ∃ v, en = .returned v ∧ S v w'
theorem wp_callM {f : FuncId} {args : Array Operand} {tys : Array TypeId} {S : Value → World → Prop} (vs : List SA) (vals : Array Value) (hk : Kn N e m t) (hop : o.op = .call ⟨.value (.func f), args, tys⟩) (hd : o.dst = some d) (hlt : d < N)
    (hargs : evAs m args.toList = some vs) (hvals : (vs.map (SA.den e)).toArray = vals) (hent : ∀ args w, (callFunc f args).run P w = .ok (.enter f args) w) (hcall : Calls P f vals w (RetM S))
    (hK : ∀ v w', S v w' → ∃ sv : SV, sv.den e = v ∧ ∀ t', Kn N e (m.put d sv) t' → K ⟨t', dd⟩ w') : o.wp P ⟨t, dd⟩ w K Q := by
  subst hvals
  have h1 : args.map (Act.mk t dd).eval = (vs.map (SA.den e)).toArray := by
    rw [← evAs_sound (dd := dd) hk hargs]
    apply Array.ext'
    rw [Array.toList_map]
  unfold Oper.wp execOp
  simp only [hop, resolve, h1]
  simp only [Act.eval, Deferred.ofValue, Sem.run_bind, Sem.run_pure, Result.andThen_ok, invoke, Array.empty_append, Array.append_empty, hent, Oper.upon]
  refine hcall.mono ?_
  rintro en w' ⟨v, rfl, hS⟩
  obtain ⟨sv, hsv, hk'⟩ := hK v w' hS
  show K _ _
  rw [put_eq t dd hd, ← hsv]
  exact hk' _ (hk.put hlt sv)
theorem wp_callVM (v0 : SC) {x : Operand} {args : Array Operand} {tys : Array TypeId} {S : Value → World → Prop} (vs : List SA) (vals : Array Value) (hk : Kn N e m t) (hop : o.op = .call ⟨.value x, args, tys⟩) (hd : o.dst = some d) (hlt : d < N)
    (hx : evA m x = some (.c v0)) (hargs : evAs m args.toList = some vs) (hvals : (vs.map (SA.den e)).toArray = vals) (hcall : CallsV P (v0.den e) vals w (RetM S))
    (hK : ∀ v w', S v w' → ∃ sv : SV, sv.den e = v ∧ ∀ t', Kn N e (m.put d sv) t' → K ⟨t', dd⟩ w') : o.wp P ⟨t, dd⟩ w K Q := by
  subst hvals
  have h1 : args.map (Act.mk t dd).eval = (vs.map (SA.den e)).toArray := by
    rw [← evAs_sound (dd := dd) hk hargs]
    apply Array.ext'
    rw [Array.toList_map]
  obtain ⟨f, first, cap, hv, hent, hcall⟩ := hcall
  have hxe := evA_sound (d := dd) hk hx
  simp only [SA.den, hv] at hxe
  unfold Oper.wp execOp
  simp only [hop, resolve, h1, hxe]
  simp only [Deferred.ofValue, Sem.run_bind, Sem.run_pure, Result.andThen_ok, invoke, hent, Oper.upon]
  refine hcall.mono ?_
  rintro en w' ⟨v, rfl, hS⟩
  obtain ⟨sv, hsv, hk'⟩ := hK v w' hS
  show K _ _
  rw [put_eq t dd hd, ← hsv]
  exact hk' _ (hk.put hlt sv)
theorem retM_of {fn : Func} {S : Value → World → Prop} (sv : SV) (hk : Kn N e m t) (hm : Mem F h e pl rw w) (hr : resS P m pl fn.results.toList = some sv) (hS : S (sv.den e) w) :
    bodyPost P fn (RetM S) .ret ⟨t, []⟩ w := ⟨rfl, _, resS_sound hk hm.plOk hr, _, rfl, hS⟩
theorem endM_of {fn : Func} {S : Value → World → Prop} (hr : fn.results = #[]) (hS : S (.tuple #[]) w) :
    bodyPost P fn (RetM S) .normal ⟨t, []⟩ w := by
  refine ⟨rfl, _, ?_, _, rfl, hS⟩
  simp [results, hr]
structure Fr.Sim (B : Nat → Prop) (F G : Fr) : Prop where
  w : G.w = F.w
  h : G.h = F.h
  X : ∀ b, ¬ B b → G.X b = F.X b
theorem Fr.Sim.refl (B : Nat → Prop) (F : Fr) : Fr.Sim B F F := ⟨rfl, rfl, fun _ _ => rfl⟩
theorem Fr.Sim.trans {B : Nat → Prop} {F G H : Fr} (a : Fr.Sim B F G) (b : Fr.Sim B G H) : Fr.Sim B F H := ⟨b.w.trans a.w, b.h.trans a.h, fun k hk => (b.X k hk).trans (a.X k hk)⟩
def lookD {KK α : Type} [DecidableEq KK] (l : List (KK × α)) (k : KK) (z : α) : α × Bool := match look? l k with
  | some x => (x, true)
  | none => (z, false)
theorem wp_lookup {KK α : Type} [KRep KK] [DecidableEq KK] [VRep α] {T KT E : TypeId} {mo ko : Operand} {ok : Bool} {b c : Nat} {es : Array MapEntry} {l : List (KK × α)} {k : KK} {zv : Value} (z0 : α) (kx : SA) (hk : Kn N e m t) (hop : o.op = .lookup T mo ko ok) (hd : o.dst = some d) (hlt : d < N)
    (h1 : evA m mo = some (.c (.map (some b)))) (h2 : evA m ko = some kx) (hT : P.underlying T = some (.map KT E)) (L : KL P KT KK) (hb : w.heap[b]? = some (.map es c)) (H : Ents h es.toList c l) (hkx : kx.den e = kv k)
    (hz : (P.info? E).bind (·.zero) = some zv) (hzr : rv h z0 zv)
    (hK : ∀ v, rv h (lookD l k z0).1 v → ∃ sv : SV, sv.den e = (if ok then .tuple #[v, .bool (lookD l k z0).2] else v) ∧ ∀ t', Kn N e (m.put d sv) t' → K ⟨t', dd⟩ w) : o.wp P ⟨t, dd⟩ w K Q := by
  have hz' : (zeroValue E).run P w = .ok zv w := by
    obtain ⟨i, hi, hzi⟩ := Option.bind_eq_some_iff.1 hz
    simp [zeroValue, typeInfo, hi, hzi]
  have key : ∀ v, (execOp (Act.mk t dd).eval o).run P w = .ok (.value v) w → (∃ sv : SV, sv.den e = v ∧ ∀ t', Kn N e (m.put d sv) t' → K ⟨t', dd⟩ w) → o.wp P ⟨t, dd⟩ w K Q := by
    intro v hrun ⟨sv, hsv, hk'⟩
    unfold Oper.wp
    simp only [hrun, Oper.upon]
    show K _ _
    rw [put_eq t dd hd, ← hsv]
    exact hk' _ (hk.put hlt sv)
  rcases run_lookOp (P := P) (dd := dd) kx hk hop h1 h2 hT L hb H hkx hz' with ⟨a1, a2⟩ | ⟨x, v, a1, a2, a3⟩
  · refine key _ a2 ?_
    have := hK zv (by simp only [lookD, a1]; exact hzr)
    simpa only [lookD, a1] using this
  · refine key _ a3 ?_
    have := hK v (by simp only [lookD, a1]; exact a2)
    simpa only [lookD, a1] using this
theorem wp_updateP {KK α : Type} [KRep KK] [DecidableEq KK] [VRep α] {T KT E : TypeId} {mo ko vo : Operand} {b c : Nat} {es : Array MapEntry} {l : List (KK × α)} {k : KK} {x : α} (kx vx : SA) (hk : Kn N e m t) (hm : Mem (Fr.put F b (some (.map es c))) h e pl rw w) (hop : o.op = .mapUpdate T mo ko vo) (hd : o.dst = none)
    (h1 : evA m mo = some (.c (.map (some b)))) (h2 : evA m ko = some kx) (h3 : evA m vo = some vx) (hT : P.underlying T = some (.map KT E)) (L : KL P KT KK)
    (H : Ents h es.toList c l) (hkx : kx.den e = kv k) (hx : rv h x (vx.den e))
    (hKK : ∀ es' c' w', Ents h es'.toList c' (put? l k x) → Kn N e m t → Mem (Fr.put F b (some (.map es' c'))) h e pl rw w' → K ⟨t, dd⟩ w') : o.wp P ⟨t, dd⟩ w K Q :=
  wp_update kx vx hk hm hop hd h1 h2 h3 hT L (Fr.put_X _ _ _) H hkx hx fun es' c' w' hE hm' => hKK es' c' w' hE hk (by rw [Fr.put_put] at hm'; exact hm')
def rng (n : Nat) (i : Int) : Option Unit := if 0 ≤ i ∧ i < n then some () else none
theorem rng_some {n : Nat} {i : Int} {u : Unit} (h : rng n i = some u) : 0 ≤ i ∧ i < n := by
  unfold rng at h
  split at h
  · assumption
  · cases h
theorem run_indexA {T E : TypeId} {s x : Operand} {n sz j off : Nat} {i : Int} {k : IntKind} {oi : Oper} {d : List Deferred} (hk : Kn N e m t) (hop : oi.op = .indexAddr T s x) (hT : P.underlying T = some (.array n E)) (hsz : tySz P E = some sz)
    (hs : evA m s = some (.c (.ptr j off))) (hx : evA m x = some (.c (.int k i))) (h0 : 0 ≤ i) (hn : i < n) :
    (execOp (Act.mk t d).eval oi).run P w = .ok (.value (SV.den e (.one (.c (.ptr j (off + i.toNat * sz)))))) w := by
  have q1 := evA_sound (d := d) hk hs
  have q2 := evA_sound (d := d) hk hx
  simp only [SA.den, SC.den] at q1 q2
  unfold execOp
  simp only [hop, q1, q2]
  have : (Instr.indexAt T (.pointer (some ⟨(e.blk j).1, (e.blk j).2 + off, none⟩)) (.int k i)).run P w = .ok (.pointer (some ⟨(e.blk j).1, (e.blk j).2 + (off + i.toNat * sz), none⟩)) w := by
    unfold Instr.indexAt
    simp only [asIntOf, Instr.sureAddr, Sem.run_bind, Sem.run_pure, Result.andThen_ok, run_underlying hT]
    rw [if_pos ⟨h0, hn⟩]
    simp only [Sem.run_bind, run_sizeOf' w hsz, Result.andThen_ok, Sem.run_pure]
    rw [add_eq _ _ rfl]
    simp only [Nat.add_assoc]
  simp only [Sem.run_bind, this, Result.andThen_ok, Sem.run_pure, SV.den, SA.den, SC.den]
theorem run_loadAt1 {T : TypeId} {x : Operand} {j O : Nat} {p : Plc} {c : SC} {oi : Oper} {d : List Deferred} (hk : Kn N e m t) (hS : PlOk e pl w) (hop : oi.op = .load T x) (hx : evA m x = some (.c (.ptr j O))) (hj : pl[j]? = some p) (hT : tyAgg P T = some false) (hc : (p.cells.drop O).take 1 = [c]) :
    (execOp (Act.mk t d).eval oi).run P w = .ok (.value (SV.den e (.one (.c c)))) w := by
  have hget : p.cells[O]? = some c := by
    have := congrArg (·[0]?) hc
    simpa [List.getElem?_take, List.getElem?_drop] using this
  have := hS j p hj O c hget
  have q1 := evA_sound (d := d) hk hx
  simp only [SA.den, SC.den] at q1
  unfold execOp
  simp only [hop, q1, Instr.loadAt, Instr.sureAddr, SV.den, SA.den, Sem.run_bind, Sem.run_pure, Result.andThen_ok, loadVar, run_isAgg' w hT, Bool.false_eq_true, if_false, run_load, this]
def forgetP : List Nat → List Plc → List Plc
  | [], pl => pl
  | i :: is, pl => forgetP is (match pl[i]? with | some p => pl.set i ⟨[], p.own⟩ | none => pl)
theorem PlOk.forget : ∀ (is : List Nat) {pl : List Plc}, PlOk e pl w → PlOk e (forgetP is pl) w
  | [], _, h => h
  | i :: is, pl, h => by
    unfold forgetP
    refine PlOk.forget is ?_
    split
    · rename_i p hp
      intro j q hq k c hc
      by_cases hji : j = i
      · subst hji
        rw [List.getElem?_set_self (List.getElem?_eq_some_iff.1 hp).1] at hq
        cases hq
        simp at hc
      · rw [List.getElem?_set_ne (Ne.symm hji)] at hq
        exact h j q hq k c hc
    · exact h
theorem D_oneP {ops : Array Oper} {X : List Nat} {m' : TM} {d : List Deferred} {done : List Nat} (i : Nat) {oi : Oper} {dd : Nat} (v : SV) (hQ : Deaf Q)
    (hi : ops[i]? = some oi) (hs : Region.noSelect ops = true) (hf : firstB ops X done i = true) (hmf : memFree oi = false) (hg : Region.wanted oi (yielded ops t) = true) (hdst : oi.dst = some dd) (hS : PlOk e pl w)
    (hv : ∀ w, PlOk e pl w → (execOp (Act.mk t d).eval oi).run P w = .ok (.value (v.den e)) w)
    (hk' : Kn N e m' (t.setIfInBounds dd (v.den e)))
    (H : ∀ t', Kn N e m' t' → wpD P ops X Q e pl (i :: done) ⟨t', d⟩ w) : wpD P ops X Q e pl done ⟨t, d⟩ w := by
  refine wpD_take hi hs hf (v := v.den e) ?_ hS (.inl ⟨hg, fun w hw => hv w hw⟩) (fun hm => by rw [hmf] at hm; cases hm) ?_
  · intro c a w hq
    rw [hdst] at hq
    exact hQ c _ _ _ _ hq
  · have := H _ hk'
    rw [hdst]
    exact this
theorem arr_set {α β : Type} (g : α → List β) (sz : Nat) (hg : ∀ x, (g x).length = sz) (pre post : List β) (la lb : List α) (k : Nat) (v : α) (hb : lb = la.set k v) (hk : k < la.length) {A A' : List β} (hA : A = pre ++ la.flatMap g ++ post) (hA' : A' = pre ++ lb.flatMap g ++ post) {O : Nat} (hO : O = pre.length + k * sz) :
    A.take O ++ g v ++ A.drop (O + sz) = A' := by
  subst hA; subst hA'; subst hb; subst hO
  have key : ∀ (la : List α) (k : Nat), k < la.length → (la.set k v).flatMap g = (la.flatMap g).take (k * sz) ++ g v ++ (la.flatMap g).drop (k * sz + sz) := by
    intro la
    induction la with
    | nil => intro k hk; simp at hk
    | cons a r ih =>
      intro k hk
      cases k with
      | zero => simp [List.drop_append, hg]
      | succ k =>
        have h1 : (k + 1) * sz = (g a).length + k * sz := by rw [hg, Nat.succ_mul]; omega
        simp only [List.set_cons_succ, List.flatMap_cons, ih k (by simpa using hk), h1]
        rw [List.take_length_add_append, show (g a).length + k * sz + sz = (g a).length + (k * sz + sz) by omega, List.drop_length_add_append]
        simp
  have hlen : ∀ la : List α, (la.flatMap g).length = la.length * sz := by
    intro la
    induction la with
    | nil => simp
    | cons a r ih => rw [List.flatMap_cons, List.length_append, hg, ih, List.length_cons, Nat.succ_mul]; omega
  have h2 : k * sz + sz ≤ (la.flatMap g).length := by
    rw [hlen]
    calc k * sz + sz = (k + 1) * sz := (Nat.succ_mul k sz).symm
      _ ≤ la.length * sz := Nat.mul_le_mul_right sz hk
  rw [key la k hk]
  rw [List.append_assoc pre, List.take_length_add_append, show pre.length + k * sz + sz = pre.length + (k * sz + sz) by omega, List.drop_length_add_append]
  rw [List.take_append_of_le_length (by omega), List.drop_append_of_le_length h2]
  simp
theorem arr_get {α β : Type} (g : α → List β) (sz : Nat) (hg : ∀ x, (g x).length = sz) (pre post : List β) (la : List α) (k : Nat) (v : α) (hk : la[k]? = some v) {A : List β} (hA : A = pre ++ la.flatMap g ++ post) {O : Nat} (hO : O = pre.length + k * sz) :
    (A.drop O).take sz = g v := by
  subst hA; subst hO
  have hlt := (List.getElem?_eq_some_iff.1 hk).1
  have hlen : ∀ la : List α, (la.flatMap g).length = la.length * sz := by
    intro la
    induction la with
    | nil => simp
    | cons a r ih => rw [List.flatMap_cons, List.length_append, hg, ih, List.length_cons, Nat.succ_mul]; omega
  have key : ∀ (la : List α) (k : Nat), la[k]? = some v → ((la.flatMap g).drop (k * sz)).take sz = g v := by
    intro la
    induction la with
    | nil => intro k hk; simp at hk
    | cons a r ih =>
      intro k hk
      cases k with
      | zero =>
        simp at hk
        subst hk
        rw [Nat.zero_mul, List.drop_zero, List.flatMap_cons, ← hg a, List.take_left]
      | succ k =>
        have h1 : (k + 1) * sz = (g a).length + k * sz := by rw [hg, Nat.succ_mul]; omega
        rw [List.flatMap_cons, h1, List.drop_length_add_append]
        exact ih k (by simpa using hk)
  have h2 : k * sz + sz ≤ (la.flatMap g).length := by
    rw [hlen]
    calc k * sz + sz = (k + 1) * sz := (Nat.succ_mul k sz).symm
      _ ≤ la.length * sz := Nat.mul_le_mul_right sz hlt
  rw [List.append_assoc pre, List.drop_length_add_append, List.drop_append_of_le_length (by omega), List.take_append_of_le_length (by rw [List.length_drop]; omega)]
  exact key la k hk
structure JOk {σ : Type} (J : σ → Heap → World → Prop) : Prop where
  has : ∀ s h w, J s h w → Has h w
  grow : ∀ s h h' w w', J s h w → Below w.heap.size w w' → Heap.le h h' → (∀ b o x, h' b o = some x → h b o = some x ∨ (w.heap.size ≤ b ∧ b < w'.heap.size ∧ look w' b o = some x)) → J s h' w'
theorem Mem.new (hm : Mem F h e pl rw w) : ∀ b o x, h b o = some x → F.h b o = some x ∨ (F.w.heap.size ≤ b ∧ b < w.heap.size ∧ look w b o = some x) := fun b o x hx => by
  obtain ⟨ow, m⟩ := hm
  rcases m.old b o x hx with h1 | h1
  · exact .inl h1
  · exact .inr ⟨h1, m.has b o x hx⟩
theorem Mem.le (hm : Mem F h e pl rw w) : Heap.le F.h h := let ⟨_, m⟩ := hm; m.le
theorem Mem.J {σ : Type} {J : σ → Heap → World → Prop} {s : σ} (hJ : JOk J) (hm : Mem F h e pl rw w) (hj : J s F.h F.w) : J s h w := hJ.grow s _ _ _ _ hj hm.below hm.le hm.new
theorem Mem.rebase {h' : Heap} {w' : World} (hm : Mem F h e pl rw w) (hle : Heap.le h h') (hh : Has h' w') (hp : (pl.all fun (p : Plc) => p.own.isNone) = true) : Mem ⟨w', h', noX⟩ h' e pl [] w' := by
  obtain ⟨ow, m⟩ := hm
  refine ⟨fun _ => none, Below.refl _ _, Heap.le_refl _, fun _ _ _ hx => .inl hx, hh, (by simp), (by simp), ?_, (by simp), (by simp [noX])⟩
  intro i p hpi
  have := m.pls i p hpi
  have ho := List.all_eq_true.1 hp p (List.mem_of_getElem? hpi)
  unfold PlcOk at this ⊢
  split at this
  · rename_i hT; rw [hT] at ho; cases ho
  · exact fun j c hj => hle _ _ _ (this j c hj)
end
end Go.Proofs.Ythcbemnflgjadaa
namespace Go.Proofs.Ythcbemnflgjadaa
open Go Go.RowKit
open Rep (rep)
open KRep (kv)
open VRep (rv)
section
variable {P : Program}
def eqV (P : Program) : Nat → TypeId → SA → SA → Option Bool
  | 0, _, _, _ => none
  | d + 1, T, x, y => match P.underlying T, x, y with
    | some (.int k), .c (.int _ a), .c (.int _ b) => some (a == b)
    | some .bool, .c (.bool a), .c (.bool b) => some (a == b)
    | some (.struct fs), .agg xs, .agg ys => if P.stoodInHeld T then none else
      fs.toList.foldr (fun f acc => if f.name = "_" then none else match part' P f.type xs f.offset, part' P f.type ys f.offset with
        | some a, some b => match eqV P d f.type a b, acc with
          | some p, some q => some (p && q)
          | _, _ => none
        | _, _ => none) (some true)
    | some (.array n E), .agg xs, .agg ys =>
      (List.range n).foldr (fun i acc => match part' P E xs (i * P.cellsOf E), part' P E ys (i * P.cellsOf E) with
        | some a, some b => match eqV P d E a b, acc with
          | some p, some q => some (p && q)
          | _, _ => none
        | _, _ => none) (some true)
    | _, _, _ => none
def kindV (P : Program) : Nat → TypeId → SA → Bool
  | 0, _, _ => false
  | d + 1, T, x => match P.underlying T, x with
    | some (.int k), .c (.int k' _) => k == k'
    | some .bool, .c (.bool _) => true
    | some (.struct fs), .agg xs => fs.toList.all fun f => match part' P f.type xs f.offset with
      | some a => kindV P d f.type a
      | none => false
    | some (.array n E), .agg xs => (P.info? E).isSome && (List.range n).all fun i => match part' P E xs (i * P.cellsOf E) with
      | some a => kindV P d E a
      | none => false
    | _, _ => false
theorem eqV_sound (e : Env) (k : Nat) : ∀ (d : Nat) {T : TypeId} {x y : SA} {b : Bool} (w : World), kindV P d T x = true → kindV P d T y = true → eqV P d T x y = some b → (Op.equalIn (k + d) T (x.den e) (y.den e)).run P w = .ok b w
  | 0, _, _, _, _, _, _, _, h => by simp [eqV] at h
  | d + 1, T, x, y, b, w, kx, ky, h => by
    unfold eqV at h
    unfold kindV at kx ky
    rw [show k + (d + 1) = (k + d) + 1 from rfl]
    split at h
    · rename_i kk k1 a k2 b' hu
      cases h
      simp only [hu] at kx ky
      have e1 := eq_of_beq kx
      have e2 := eq_of_beq ky
      subst e1; subst e2
      exact run_equalIn_int w (k + d) T _ _ a b' hu
    · rename_i a b' hu
      cases h
      exact run_equalIn_bool' w (k + d) T a b' hu
    · rename_i fs xs ys hu
      simp only [hu] at kx ky
      split at h
      · cases h
      · rename_i hst
        have hF : P.fieldsOf T = fs := by unfold Program.fieldsOf; rw [hu]
        show (Op.equalIn (k + d + 1) T (.agg _) (.agg _)).run P w = _
        rw [run_equalIn_struct w (k + d) T _ _ (by rw [hF]; exact hu) (by simpa using hst), hF]
        clear hF hu hst
        generalize fs.toList = l at h kx ky
        induction l generalizing b with
        | nil => simp at h; subst h; rfl
        | cons f fs' ih =>
          simp only [List.foldr_cons] at h
          simp only [List.all_cons, Bool.and_eq_true] at kx ky
          split at h
          · cases h
          · rename_i hn
            split at h
            · rename_i a c ha hc
              rw [ha] at kx
              rw [hc] at ky
              split at h
              · rename_i p q hp hq
                cases h
                unfold Op.eqFields
                rw [if_pos hn]
                simp only [Sem.run_bind, part'_sound e w ha, part'_sound e w hc, Result.andThen_ok, eqV_sound e k d w kx.1 ky.1 hp]
                cases p
                · rfl
                · simp only [Bool.not_true, Bool.false_eq_true, if_false, Bool.true_and]
                  exact ih q hq kx.2 ky.2
              · cases h
            · cases h
    · rename_i n E xs ys hu
      simp only [hu, Bool.and_eq_true] at kx ky
      obtain ⟨i, hi⟩ := Option.isSome_iff_exists.1 kx.1
      show (Op.equalIn (k + d + 1) T (.agg _) (.agg _)).run P w = _
      rw [run_equalIn_array w (k + d) _ _ hu hi]
      have kx := kx.2
      have ky := ky.2
      clear hu hi
      generalize List.range n = l at h kx ky
      induction l generalizing b with
      | nil => simp at h; subst h; rfl
      | cons j l' ih =>
        simp only [List.foldr_cons] at h
        simp only [List.all_cons, Bool.and_eq_true] at kx ky
        split at h
        · rename_i a c ha hc
          rw [ha] at kx
          rw [hc] at ky
          split at h
          · rename_i p q hp hq
            cases h
            unfold Op.eqItems
            simp only [Sem.run_bind, part'_sound e w ha, part'_sound e w hc, Result.andThen_ok, eqV_sound e k d w kx.1 ky.1 hp]
            cases p
            · rfl
            · simp only [Bool.not_true, Bool.false_eq_true, if_false, Bool.true_and]
              exact ih q hq kx.2 ky.2
          · cases h
        · cases h
    · cases h
theorem checkV_sound (e : Env) (em : Bool) (k : Nat) : ∀ (d : Nat) {T : TypeId} {x : SA} (w : World), kindV P d T x = true → (Instr.checkKey em (k + d) T (x.den e)).run P w = .ok () w
  | 0, _, _, _, h => by simp [kindV] at h
  | d + 1, T, x, w, h => by
    unfold kindV at h
    rw [show k + (d + 1) = (k + d) + 1 from rfl, Instr.checkKey]
    split at h
    · rename_i hu
      simp only [Sem.run_bind, run_underlying hu, Result.andThen_ok]
      rfl
    · rename_i hu
      simp only [Sem.run_bind, run_underlying hu, Result.andThen_ok]
      rfl
    · rename_i fs xs hu
      simp only [SA.den, Sem.run_bind, run_underlying hu, Result.andThen_ok]
      rw [← Array.forIn_toList]
      clear hu
      generalize fs.toList = l at h
      induction l generalizing w with
      | nil => simp
      | cons f fs' ih =>
        simp only [List.all_cons, Bool.and_eq_true] at h
        have h1 := h.1
        split at h1
        · rename_i a ha
          simp only [List.forIn_cons, Sem.run_bind, Sem.run_ite]
          split
          · simp only [Sem.run_bind, part'_sound e w ha, Result.andThen_ok, checkV_sound e em k d w h1, Sem.run_pure]
            exact ih w h.2
          · simp only [Sem.run_pure, Result.andThen_ok]
            exact ih w h.2
        · cases h1
    · rename_i n E xs hu
      simp only [Bool.and_eq_true] at h
      obtain ⟨i, hi⟩ := Option.isSome_iff_exists.1 h.1
      have h := h.2
      simp only [SA.den, Sem.run_bind, run_underlying hu, Result.andThen_ok]
      simp only [Std.Legacy.Range.forIn_eq_forIn_range', Std.Legacy.Range.size, Nat.sub_zero, Nat.add_one_sub_one, Nat.div_one]
      rw [List.range_eq_range'] at h
      generalize List.range' 0 n = l at h
      induction l with
      | nil => simp
      | cons j l' ih =>
        simp only [List.all_cons, Bool.and_eq_true] at h
        have h1 := h.1
        split at h1
        · rename_i a ha
          simp only [List.forIn_cons, Sem.run_bind, run_sizeOf w hi, Result.andThen_ok, part'_sound e w ha, checkV_sound e em k d w h1, Sem.run_pure]
          exact ih h.2
        · cases h1
    · cases h
def plainC : List SC → Bool
  | [] => true
  | .int _ _ :: r => plainC r
  | .bool _ :: r => plainC r
  | _ => false
theorem sameBits_plain (e : Env) (n : Nat) : ∀ {cs : List SC}, plainC cs = true → ((cs.map (SC.den e)).zip (cs.map (SC.den e))).all (fun (x, y) => Instr.sameBits n x y) = true
  | [], _ => rfl
  | .int k a :: r, h => by simp only [plainC] at h; simp only [List.map_cons, List.zip_cons_cons, List.all_cons, sameBits_plain e n h]; simp [SC.den, Instr.sameBits]
  | .bool b :: r, h => by simp only [plainC] at h; simp only [List.map_cons, List.zip_cons_cons, List.all_cons, sameBits_plain e n h]; simp [SC.den, Instr.sameBits]
theorem findAsking_spec {K : Type} [KRep K] [DecidableEq K] {KT : TypeId} (w : World) (heq : ∀ a b : K, (Op.equal KT (kv a) (kv b)).run P w = .ok (decide (a = b)) w) (k : K) : ∀ (es : List MapEntry) (i : Nat), (∀ e ∈ es, ∃ q : K, e.key = kv q) →
    ((Instr.findAsking KT (kv k) es i).run P w = .ok none w ∧ ∀ e ∈ es, e.key ≠ kv k) ∨ ∃ j e, (Instr.findAsking KT (kv k) es i).run P w = .ok (some (i + j, e.val)) w ∧ es[j]? = some e ∧ e.key = kv k
  | [], i, _ => .inl ⟨rfl, by simp⟩
  | e :: es, i, h => by
    obtain ⟨q, hq⟩ := h e (by simp)
    by_cases hk : k = q
    · subst hk
      refine .inr ⟨0, e, ?_, rfl, hq⟩
      unfold Instr.findAsking
      simp only [hq, Sem.run_bind, heq, Result.andThen_ok, decide_true, if_true, Sem.run_pure, Nat.add_zero]
    · have hne : e.key ≠ kv k := fun he => hk (KRep.inj (by rw [← he, hq]))
      have hrun : (Instr.findAsking KT (kv k) (e :: es) i).run P w = (Instr.findAsking KT (kv k) es (i + 1)).run P w := by
        rw [Instr.findAsking]
        simp only [hq, Sem.run_bind, heq, Result.andThen_ok, hk, decide_false, Bool.false_eq_true, if_false]
      rcases findAsking_spec w heq k es (i + 1) (fun e he => h e (by simp [he])) with ⟨h1, h2⟩ | ⟨j, e', h1, h2, h3⟩
      · exact .inl ⟨by rw [hrun]; exact h1, fun x hx => by
          rcases List.mem_cons.1 hx with rfl | hx
          · exact hne
          · exact h2 x hx⟩
      · exact .inr ⟨j + 1, e', by rw [hrun, h1]; congr 3; omega, by simpa using h2, h3⟩
theorem KL.struct {K : Type} [KRep K] [DecidableEq K] {KT : TypeId} (d : Nat) (hd : decide (d ≤ 10000) = true) (cs : K → List SC) (hkv : ∀ k : K, kv k = .agg ((cs k).map (SC.den [])).toArray) (hw : (match P.underlying KT with | some (.array _ _) | some (.struct _) => true | _ => false) = true)
    (hkind : ∀ k : K, kindV P d KT (.agg (cs k)) = true) (hp : ∀ k : K, plainC (cs k) = true) (heq : ∀ a b : K, ∃ r, eqV P d KT (.agg (cs a)) (.agg (cs b)) = some r ∧ (r = true ↔ a = b)) : KL P KT K := by
  have hd := of_decide_eq_true hd
  have h0 : ∀ (w : World) (a b : K), (Op.equal KT (kv a) (kv b)).run P w = .ok (decide (a = b)) w := fun w a b => by
    obtain ⟨r, hr, hiff⟩ := heq a b
    have := eqV_sound [] (10000 - d) d w (hkind a) (hkind b) hr
    rw [show 10000 - d + d = 10000 by omega] at this
    rw [hkv a, hkv b]
    have hr2 : decide (a = b) = r := by
      cases r
      · have : ¬ a = b := fun h => by have := hiff.2 h; cases this
        simp [this]
      · have := hiff.1 rfl
        simp [this]
    rw [hr2]
    exact this
  refine ⟨fun w em k => ?_, fun w k es he => ?_, fun w k => ?_⟩
  · have := checkV_sound (P := P) [] em (10000 - d) d w (hkind k)
    rw [show 10000 - d + d = 10000 by omega] at this
    rw [hkv k]
    exact this
  · rw [run_findKey_eq (P := P) w hw]
    have := findAsking_spec (P := P) w (h0 w) k es 0 he
    simpa using this
  · have : Instr.sameBits 10000 (kv k) (kv k) = true := by
      rw [hkv k]
      show Instr.sameBits (9999 + 1) _ _ = true
      simp only [Instr.sameBits, beq_self_eq_true, Bool.true_and]
      exact sameBits_plain [] 9999 (hp k)
    simp [Instr.keyThatStays, this]
end
end Go.Proofs.Ythcbemnflgjadaa
namespace Go.Proofs.Ythcbemnflgjadaa
open Go Go.RowKit
open Rep (rep)
open KRep (kv)
open VRep (rv)
theorem All2.split {α β : Type} {R : α → β → Prop} : ∀ {as1 : List α} {a : α} {as2 : List α} {bs : List β}, All2 R (as1 ++ a :: as2) bs → ∃ bs1 b bs2, bs = bs1 ++ b :: bs2 ∧ All2 R as1 bs1 ∧ R a b ∧ All2 R as2 bs2
  | [], _, _, _, .cons h1 h2 => ⟨[], _, _, rfl, .nil, h1, h2⟩
  | _ :: as1, a, as2, _, .cons h1 h2 => by
    obtain ⟨bs1, b, bs2, rfl, q1, q2, q3⟩ := All2.split h2
    exact ⟨_ :: bs1, b, bs2, rfl, .cons h1 q1, q2, q3⟩
section
variable {KK α : Type} [KRep KK] [VRep α]
def IterS (h : Heap) (es : Array MapEntry) (seen : Array Nat) (rem : List (KK × α)) : Prop :=
  ∃ l, All2 (fun (e : MapEntry) (p : KK × α) => e.key = kv p.1 ∧ rv h p.2 e.val) (leftOf es seen).toList l ∧ l.Perm rem
theorem IterS.mono {h h' : Heap} {es : Array MapEntry} {seen : Array Nat} {rem : List (KK × α)} (H : IterS h es seen rem) (hle : Heap.le h h') : IterS h' es seen rem := by
  obtain ⟨l, h1, h2⟩ := H
  exact ⟨l, h1.imp fun _ _ ⟨q1, q2⟩ => ⟨q1, VRep.mono hle q2⟩, h2⟩
theorem IterS.nil {h : Heap} {es : Array MapEntry} {seen : Array Nat} {rem : List (KK × α)} (H : IterS h es seen rem) (h0 : (leftOf es seen).size = 0) : rem = [] := by
  obtain ⟨l, h1, h2⟩ := H
  have : (leftOf es seen).toList = [] := by
    apply List.eq_nil_of_length_eq_zero
    simpa using h0
  rw [this] at h1
  cases h1
  exact List.nil_perm.1 h2
end
section
variable {P : Program} {Q : Exit → Act → World → Prop} {N : Nat} {F : Fr} {h : Heap} {e : Env} {pl : List Plc} {rw : List Row} {w w' : World} {m : TM} {t : Array Value} {dd : List Deferred} {o : Oper} {d : Nat} {K : Act → World → Prop} {KK α : Type} [KRep KK] [VRep α]
end
end Go.Proofs.Ythcbemnflgjadaa
namespace Go.Proofs.Ythcbemnflgjadaa
open Go Go.RowKit
open Rep (rep)
open KRep (kv)
open VRep (rv)
open Go.ChangeMaps (setBlock)
section
variable {P : Program} {Q : Exit → Act → World → Prop} {a : Act} {w : World} {N : Nat} {F : Fr} {h : Heap} {e : Env} {pl : List Plc} {rw : List Row} {m : TM} {t : Array Value} {d : List Deferred} {ops : Array Oper}
theorem wpIn_loop_n {F : Fence} {n0 : Nat} {c : Code} (I : Nat → Act → World → Prop) (n : Nat) (h0 : I n a w)
    (round : ∀ n a w, I n a w → c.wpIn F n0 P (Exit.then (fun a' w' => ∃ m, m < n ∧ I m a' w') Q) a w) : (Code.loop c).wpIn F n0 P Q a w := by
  intro b k cs hro hb hr
  have key : ∀ n a w, I n a w →
      ∃ e a' w', Q e a' w' ∧ ArrivesIn (Machine.fenced P F) P (lone (b.atR a (.code c :: .inLoop c :: k)) cs w) b k cs e a' w' := by
    intro n
    induction n using Nat.strongRecOn with
    | _ n ih =>
      intro a w hI
      obtain ⟨e, a₁, w₁, hq, harr⟩ := round n a w hI b (.inLoop c :: k) cs hro hb hr
      cases e with
      | normal =>
        obtain ⟨m, hlt, hI₁⟩ := hq
        obtain ⟨e₂, a₂, w₂, hq₂, harr₂⟩ := ih m hlt a₁ w₁ hI₁
        exact ⟨e₂, a₂, w₂, hq₂, .of_steps (StepsIn.trans harr (.one (fenced_calm hb hr rfl) stepR_inLoop)) harr₂⟩
      | exit id => exact ⟨_, a₁, w₁, hq, .pass (x := .inLoop c) rfl (fun _ _ => .inl (by simp)) harr⟩
      | goto l => exact ⟨_, a₁, w₁, hq, .pass (x := .inLoop c) rfl (fun _ _ => .inl (by simp)) harr⟩
      | ret => exact ⟨_, a₁, w₁, hq, .pass (x := .inLoop c) rfl (fun _ _ => .inl (by simp)) harr⟩
      | panic ch => exact ⟨_, a₁, w₁, hq, .pass (x := .inLoop c) rfl (fun _ _ => .inl (by simp)) harr⟩
      | outgrown => exact ⟨_, a₁, w₁, hq, .pass (x := .inLoop c) rfl (fun _ _ => .inl (by simp)) harr⟩
  obtain ⟨e, a', w', hq, harr⟩ := key n a w h0
  exact ⟨e, a', w', hq, .of_steps (.one (fenced_calm hb hr rfl) stepR_loop) harr⟩
structure ws (P : Program) (c : Code) (Q : Exit → Act → World → Prop) (a : Act) (w : World) : Prop where
  wp : c.wp P Q a w
  rd : ¬ LetsOut Q → ∀ l, c.wpIn (inR l) 0 P Q a w
theorem ws_monoQ {c : Code} {Q' : Exit → Act → World → Prop} (h : ws P c Q a w) (hq : ∀ e a w, Q e a w → Q' e a w) : ws P c Q' a w :=
  ⟨wp_mono h.wp hq, fun hl l => wpIn_mono (h.rd (fun ⟨a, w, h1⟩ => hl ⟨a, w, hq _ _ _ h1⟩) l) hq⟩
theorem ws_skip (h : Q .normal a w) : ws P .skip Q a w := ⟨wp_skip h, fun _ _ => wpIn_skip h⟩
theorem ws_exit {id : Nat} (h : Q (.exit id) a w) : ws P (.exit id) Q a w := ⟨wp_exit h, fun _ _ => wpIn_exit h⟩
theorem ws_seq {x y : Code} (h : ws P x (Exit.then (ws P y Q) Q) a w) : ws P (.seq x y) Q a w :=
  ⟨wp_seq (wp_mono h.wp fun e a w hq => by cases e <;> first | exact ws.wp hq | exact hq),
   fun hl l => wpIn_seq (wpIn_mono (h.rd (fun ⟨a, w, h1⟩ => hl ⟨a, w, h1⟩) l) fun e a w hq => by cases e <;> first | exact ws.rd hq hl l | exact hq)⟩
theorem ws_block {id : Nat} {c : Code} (h : ws P c (Exit.inBlock id Q) a w) : ws P (.block id c) Q a w :=
  ⟨wp_block h.wp, fun hl l => wpIn_block (h.rd (fun ⟨a, w, h1⟩ => hl ⟨a, w, h1⟩) l)⟩
theorem ws_loop_n {c : Code} (I : Nat → Act → World → Prop) (n : Nat) (h0 : I n a w)
    (round : ∀ n a w, I n a w → ws P c (Exit.then (fun a' w' => ∃ m, m < n ∧ I m a' w') Q) a w) : ws P (.loop c) Q a w :=
  ⟨wp_loop_n I n h0 fun n a w hI => (round n a w hI).wp, fun hl l => wpIn_loop_n I n h0 fun n a w hI => (round n a w hI).rd (fun ⟨a, w, h1⟩ => hl ⟨a, w, h1⟩) l⟩
theorem ws_mid' {c : Code} (M : Act → World → Prop) (h1 : ws P c (Exit.then M Q) a w) (h2 : ∀ a w, M a w → Q .normal a w) : ws P c Q a w :=
  ws_monoQ h1 fun e a w hq => by cases e <;> first | exact h2 _ _ hq | exact hq
theorem ws_cond_sv {c : Operand} {x y : Code} (b : Bool) (hk : Kn N e m t) (hc : evA m c = some (.c (.bool b)))
    (h1 : b = true → ws P x Q ⟨t, d⟩ w) (h2 : b = false → ws P y Q ⟨t, d⟩ w) : ws P (.cond c x y) Q ⟨t, d⟩ w :=
  ⟨wp_cond_split (evA_sound hk hc) (fun h => (h1 h).wp) (fun h => (h2 h).wp), fun hl l => wpIn_cond_split (evA_sound hk hc) (fun h => (h1 h).rd hl l) (fun h => (h2 h).rd hl l)⟩
theorem ws_region_from {id : Nat} (hd : noDefer ops = true) (h : wpFrom P ops Q 0 a w) : ws P (.region id ops false) Q a w := ⟨wp_region_from h, fun hl _ => wpR_region hl hd h⟩
theorem ws_region_G {id : Nat} (hd : noDefer ops = true) (hm : P.follows .mixedOrders = true) (h : wpG P ops Q [] a w.drew) : ws P (.region id ops true) Q a w := ⟨wp_region_G hm h, fun hl _ => wpR_region_G hl hd hm h⟩
structure RoundOf (r : Loop) (t : Array Value) (ps : Array Tmp) (assign body : Code) : Prop where
  state : r.state = .ready
  pending : r.pending = none
  tmps : r.tmps = t
  params : r.params = ps
  assign : r.assign = assign
  body : r.body = body
theorem RoundOf.eq {r : Loop} {ps : Array Tmp} {assign body : Code} (h : RoundOf r t ps assign body) : { r with state := .ready, pending := none } = r := by
  have h1 := h.state
  have h2 := h.pending
  cases r
  simp only at h1 h2
  subst h1; subst h2
  rfl
theorem yields1 {l : Nat} {r : Loop} {p0 : Tmp} {assign body : Code} {v0 : Value} {R : Bool → World → Prop} (hr : RoundOf r t #[p0] assign body) (hl : w.heap[l]? = some (.loop r))
    (H : ws P assign (Exit.then (fun a w => w.heap[l]? = some (.loop r) ∧ ws P body (roundEnd l r R) a (w.putObj l (.loop { r with state := .busy }))) (fun _ _ _ => False)) ⟨t.setIfInBounds p0 v0, []⟩ w) : Yields P l #[v0] w R := by
  obtain ⟨h1, h2, h3, h4, h5, h6⟩ := hr
  subst h3; subst h5; subst h6
  refine yields_of hl (by rw [h4]; rfl) ?_
  have hz : (r.params.zip #[v0]).foldl (fun tmps (t, a) => tmps.setIfInBounds t a) r.tmps = r.tmps.setIfInBounds p0 v0 := by rw [h4]; simp
  rw [hz]
  refine wpIn_mono (H.rd (fun ⟨_, _, h⟩ => h) l) fun e a w hq => ?_
  cases e with
  | normal => exact ⟨hq.1, h1, hq.2.rd (fun ⟨_, _, h⟩ => h) l⟩
  | _ => exact hq
structure Marks (F : Fr) (bs : List Nat) : Prop where
  nd : bs.Nodup
  X : ∀ b ∈ bs, F.X b = some (.deferred (some []))
theorem Marks.nil (F : Fr) : Marks F [] := ⟨List.nodup_nil, by simp⟩
structure Fr.Of (w0 : World) (h0 : Heap) (F : Fr) : Prop where
  w : F.w = w0
  h : F.h = h0
structure LoopFr (w0 : World) (h0 : Heap) (F : Fr) (l : Nat) (r : Loop) (bs : List Nat) : Prop where
  of : Fr.Of w0 h0 F
  loop : F.X l = some (.loop r)
  marks : Marks F bs
theorem Marks.put {ks : List Nat} {b : Nat} {x : Option Obj} (H : Marks F ks) (hX : F.X b ≠ some (.deferred (some []))) : Marks (F.put b x) ks :=
  ⟨H.nd, fun k hk => by
    have h1 := H.X k hk
    have hne : k ≠ b := fun hkb => hX (by rw [← hkb]; exact h1)
    rw [Fr.put_ne _ _ hne]
    exact h1⟩
theorem Mem.X_new (hm : Mem F h e pl rw w) {b : Nat} (hb : w.heap.size ≤ b) : F.X b = none := by
  rcases opt_cases (F.X b) with hx | ⟨x, hx⟩
  · exact hx
  · have := hm.extLt hx; omega
theorem Mem.loopBegin {bs : List Nat} {w0 : World} {h0 : Heap} (hm : Mem F h e pl rw w) (hk : Marks F bs) (ho : Fr.Of w0 h0 F) (r : Loop) :
    ∃ F' : Fr, LoopFr w0 h0 F' (w.heap.size + 1) r (w.heap.size :: bs) ∧ (∀ b o, F.X b = some o → F'.X b = some o) ∧ Mem F' h e pl rw (loopWorld w r) := by
  have h1 : F.X w.heap.size = none := hm.X_new (Nat.le_refl _)
  have h2 : F.X (w.heap.size + 1) = none := hm.X_new (by omega)
  refine ⟨(F.put w.heap.size (some (.deferred (some [])))).put (w.heap.size + 1) (some (.loop r)), ⟨⟨ho.w, ho.h⟩, Fr.put_X _ _ _, ?_⟩, fun b o hb => ?_, loopWorld_mem r hm⟩
  · refine ⟨List.nodup_cons.2 ⟨fun hb => ?_, hk.nd⟩, fun b hb => ?_⟩
    · have := hk.X _ hb
      rw [h1] at this
      cases this
    · rcases List.mem_cons.1 hb with rfl | hb
      · rw [Fr.put_ne _ _ (by omega)]; exact Fr.put_X _ _ _
      · have h3 := hk.X _ hb
        have e1 : b ≠ w.heap.size := fun hbe => by rw [hbe, h1] at h3; cases h3
        have e2 : b ≠ w.heap.size + 1 := fun hbe => by rw [hbe, h2] at h3; cases h3
        rw [Fr.put_ne _ _ e2, Fr.put_ne _ _ e1]
        exact h3
  · have e1 : b ≠ w.heap.size := fun hbe => by rw [hbe, h1] at hb; cases hb
    have e2 : b ≠ w.heap.size + 1 := fun hbe => by rw [hbe, h2] at hb; cases hb
    rw [Fr.put_ne _ _ e2, Fr.put_ne _ _ e1]
    exact hb
theorem Mem.loopStep {l : Nat} {r : Loop} {bs : List Nat} {w0 : World} {h0 : Heap} (hm : Mem F h e pl rw w) (hl : LoopFr w0 h0 F l r bs) (r' : Loop) :
    ∃ F' : Fr, LoopFr w0 h0 F' l r' bs ∧ (∀ b es c, F.X b = some (.map es c) → F'.X b = some (.map es c)) ∧ Mem F' h e pl rw (w.putObj l (.loop r')) := by
  refine ⟨F.put l (some (.loop r')), ⟨⟨hl.of.w, hl.of.h⟩, Fr.put_X _ _ _, hl.marks.put (by rw [hl.loop]; simp)⟩, fun b es c hb => ?_, hm.putLoop hl.loop rfl⟩
  have hne : b ≠ l := fun hbe => by rw [hbe, hl.loop] at hb; cases hb
  rw [Fr.put_ne _ _ hne]
  exact hb
theorem LoopFr.put {l b : Nat} {r : Loop} {bs : List Nat} {w0 : World} {h0 : Heap} {es : Array MapEntry} {c : Nat} {x : Option Obj} (hl : LoopFr w0 h0 F l r bs) (hX : F.X b = none ∨ F.X b = some (.map es c)) : LoopFr w0 h0 (F.put b x) l r bs := by
  refine ⟨⟨hl.of.w, hl.of.h⟩, ?_, hl.marks.put (by rcases hX with hX | hX <;> rw [hX] <;> simp)⟩
  have hne : l ≠ b := fun hbe => by
    have := hl.loop
    rw [hbe] at this
    rcases hX with hX | hX <;> rw [hX] at this <;> cases this
  rw [Fr.put_ne _ _ hne]
  exact hl.loop
theorem wp_rangeJ {g : Operand} {ps : Array Tmp} {assign body : Code} {f : FuncId} {first cap : Array Value} {d : List Deferred} (sv : SC) (hk : Kn N e m t) (hg : evA m g = some (.c sv)) (hsv : sv.den e = .func (.func f) first cap) (hent : ∀ as w, (callFunc f as).run P w = .ok (.enter f as) w)
    (H : ∀ r : Loop, RoundOf r t ps assign body → ∃ S : World → Prop, Calls P f (first ++ #[.func (.yield (w.heap.size + 1)) #[] #[]] ++ cap) (loopWorld w r) (fun en w' => en = .returned (.tuple #[]) ∧ S w') ∧
      ∀ w', S w' → w'.heap[w.heap.size + 1]? = some (.loop r) ∧ Q .normal ⟨t, mark w.heap.size :: d⟩ (w'.putObj (w.heap.size + 1) (.loop { r with state := .exhausted }))) :
    (Code.rangeFunc g ps assign body).wp P Q ⟨t, d⟩ w := by
  have hge := evA_sound (d := d) hk hg
  simp only [SA.den, hsv] at hge
  refine wp_range hge hent fun fn => ?_
  obtain ⟨S, h1, h2⟩ := H ⟨.ready, none, fn, t, ps, assign, body, w.heap.size⟩ ⟨rfl, rfl, rfl, rfl, rfl, rfl⟩
  refine h1.mono ?_
  rintro en w' ⟨rfl, hs⟩
  obtain ⟨h3, h4⟩ := h2 w' hs
  exact ⟨rfl, _, h3, by simp, rfl, h4⟩
theorem retMk_ok {fn : Func} {R : Heap → Value → Prop} {bs : List Nat} {w0 : World} {h0 : Heap} (sv : SV) (hk : Kn N e m t) (hm : Mem F h e pl rw w) (hb : Marks F bs) (ho : Fr.Of w0 h0 F) (hr : resS P m pl fn.results.toList = some sv) (hR : R h (sv.den e)) :
    bodyPostM Fence.wide 0 P fn (Ret R h0 w0) .ret ⟨t, bs.map mark⟩ w := by
  have := retM_ok sv bs hk hm hb.nd hb.X hr hR
  rw [ho.w, ho.h] at this
  exact this
end
end Go.Proofs.Ythcbemnflgjadaa
namespace Go.Proofs.Ythcbemnflgjadaa
open Go Go.RowKit
open Rep (rep)
open KRep (kv)
open VRep (rv)
section
variable {KK α : Type} [KRep KK] [DecidableEq KK] [VRep α]
structure MapFam (h : Heap) (F : Fr) (bs : List (Option Nat)) (ms : List (Option (List (KK × α)))) : Prop where
  len : bs.length = ms.length
  nd : ∀ (i j b : Nat), bs[i]? = some (some b) → bs[j]? = some (some b) → i = j
  non : ∀ (i : Nat), bs[i]? = some none → ms[i]? = some none
  ent : ∀ (i b : Nat), bs[i]? = some (some b) → ∃ m es c, ms[i]? = some (some m) ∧ F.X b = some (.map es c) ∧ Ents h es.toList c m
variable {h : Heap} {F : Fr} {bs : List (Option Nat)} {ms : List (Option (List (KK × α)))}
theorem MapFam.mono {h' : Heap} (H : MapFam h F bs ms) (hle : Heap.le h h') : MapFam h' F bs ms :=
  ⟨H.len, H.nd, H.non, fun i b hb => let ⟨m, es, c, h1, h2, h3⟩ := H.ent i b hb; ⟨m, es, c, h1, h2, h3.mono hle⟩⟩
theorem MapFam.nils (n : Nat) : MapFam h F (List.replicate n none) (List.replicate n (none : Option (List (KK × α)))) := by
  refine ⟨by simp, fun i j b hi _ => ?_, fun i hi => ?_, fun i b hi => ?_⟩
  · rw [List.getElem?_replicate] at hi; split at hi <;> simp at hi
  · rw [List.getElem?_replicate] at hi ⊢; split at hi <;> simp_all
  · rw [List.getElem?_replicate] at hi; split at hi <;> simp at hi
theorem MapFam.set {b : Nat} {es : Array MapEntry} {c : Nat} {m : List (KK × α)} {i : Nat} (H : MapFam h F bs ms) (hX : F.X b = none) (hE : Ents h es.toList c m) (hi : i < ms.length) : MapFam h (F.put b (some (.map es c))) (bs.set i (some b)) (ms.set i (some m)) := by
  have hnb : ∀ j, bs[j]? ≠ some (some b) := fun j hj => by
    obtain ⟨_, _, _, _, h2, _⟩ := H.ent j b hj
    rw [hX] at h2; cases h2
  have hl := H.len
  refine ⟨by simp [hl], fun j k b' hj hk => ?_, fun j hj => ?_, fun j b' hj => ?_⟩
  · by_cases hji : j = i
    · by_cases hki : k = i
      · rw [hji, hki]
      · subst hji
        rw [List.getElem?_set_self (by omega)] at hj
        rw [List.getElem?_set_ne (Ne.symm hki)] at hk
        cases hj
        exact absurd hk (hnb k)
    · rw [List.getElem?_set_ne (Ne.symm hji)] at hj
      by_cases hki : k = i
      · subst hki
        rw [List.getElem?_set_self (by omega)] at hk
        cases hk
        exact absurd hj (hnb j)
      · rw [List.getElem?_set_ne (Ne.symm hki)] at hk
        exact H.nd j k b' hj hk
  · by_cases hji : j = i
    · subst hji; rw [List.getElem?_set_self (by omega)] at hj; cases hj
    · rw [List.getElem?_set_ne (Ne.symm hji)] at hj ⊢; exact H.non j hj
  · by_cases hji : j = i
    · subst hji
      rw [List.getElem?_set_self (by omega)] at hj
      cases hj
      exact ⟨m, es, c, by rw [List.getElem?_set_self hi], Fr.put_X _ _ _, hE⟩
    · rw [List.getElem?_set_ne (Ne.symm hji)] at hj ⊢
      obtain ⟨m', es', c', h1, h2, h3⟩ := H.ent j b' hj
      have hne : b' ≠ b := fun hb => by rw [hb] at hj; exact hnb j hj
      exact ⟨m', es', c', h1, by rw [Fr.put_ne _ _ hne]; exact h2, h3⟩
theorem MapFam.upd {b : Nat} {es' : Array MapEntry} {c' : Nat} {m' : List (KK × α)} {i : Nat} (H : MapFam h F bs ms) (hb : bs[i]? = some (some b)) (hE : Ents h es'.toList c' m') : MapFam h (F.put b (some (.map es' c'))) bs (ms.set i (some m')) := by
  have hl := H.len
  have hi := (List.getElem?_eq_some_iff.1 hb).1
  refine ⟨by simp [hl], H.nd, fun j hj => ?_, fun j b' hj => ?_⟩
  · have hji : j ≠ i := fun hji => by rw [hji, hb] at hj; cases hj
    rw [List.getElem?_set_ne (Ne.symm hji)]; exact H.non j hj
  · by_cases hji : j = i
    · subst hji
      rw [hb] at hj
      cases hj
      exact ⟨m', es', c', by rw [List.getElem?_set_self (by omega)], Fr.put_X _ _ _, hE⟩
    · rw [List.getElem?_set_ne (Ne.symm hji)]
      obtain ⟨m2, es2, c2, h1, h2, h3⟩ := H.ent j b' hj
      have hne : b' ≠ b := fun hbb => hji (H.nd j i b (by rw [← hbb]; exact hj) hb)
      exact ⟨m2, es2, c2, h1, by rw [Fr.put_ne _ _ hne]; exact h2, h3⟩
theorem MapFam.get {i : Nat} {m : List (KK × α)} (H : MapFam h F bs ms) (hm : ms[i]? = some (some m)) : ∃ b es c, bs[i]? = some (some b) ∧ F.X b = some (.map es c) ∧ Ents h es.toList c m := by
  have hi := (List.getElem?_eq_some_iff.1 hm).1
  have hl := H.len
  have hb : bs[i]? = some bs[i] := List.getElem?_eq_getElem (by omega)
  cases hbi : bs[i] with
  | none => rw [hbi] at hb; rw [H.non i hb] at hm; cases hm
  | some b =>
    rw [hbi] at hb
    obtain ⟨m', es, c, h1, h2, h3⟩ := H.ent i b hb
    rw [hm] at h1
    cases h1
    exact ⟨b, es, c, hb, h2, h3⟩
end
section
variable {N : Nat} {F : Fr} {h : Heap} {e : Env} {pl : List Plc} {rw : List Row} {w w0 : World} {h0 : Heap} {KK α : Type} [KRep KK] [DecidableEq KK] [VRep α] {bs : List (Option Nat)} {ms : List (Option (List (KK × α)))} {ks : List Nat} {l : Nat} {r : Loop}
theorem MapFam.take {b : Nat} {es : Array MapEntry} {c : Nat} {m : List (KK × α)} {i : Nat} (H : MapFam h F bs ms) (hm : Mem (Fr.put F b (some (.map es c))) h e pl rw w) (hX : F.X b = none) (hE : Ents h es.toList c m) (hi : i < ms.length) (ho : Fr.Of w0 h0 F) (hk : Marks F ks) :
    ∃ F' : Fr, Fr.Of w0 h0 F' ∧ Marks F' ks ∧ MapFam h F' (bs.set i (some b)) (ms.set i (some m)) ∧ Mem F' h e pl rw w :=
  ⟨F.put b (some (.map es c)), ⟨ho.w, ho.h⟩, hk.put (by rw [hX]; simp), H.set hX hE hi, hm⟩
theorem MapFam.settle (H : MapFam h F bs ms) (hm : Mem F h e pl rw w) (ho : Fr.Of w0 h0 F) (hk : Marks F ks) : ∀ n, ∃ (h' : Heap) (F' : Fr), Heap.le h h' ∧ Fr.Of w0 h0 F' ∧ Marks F' ks ∧ Mem F' h' e pl rw w ∧ MapFam h' F bs ms ∧ (∀ (i b : Nat), n ≤ i → bs[i]? = some (some b) → F'.X b = F.X b) ∧
    ∀ (i b : Nat) (m : List (KK × α)), i < n → bs[i]? = some (some b) → ms[i]? = some (some m) → ∃ es c, h' b 0 = some (encMap es c) ∧ Ents h' es.toList c m
  | 0 => ⟨h, F, Heap.le_refl _, ho, hk, hm, H, fun _ _ _ _ => rfl, fun _ _ _ hi => by omega⟩
  | n + 1 => by
    obtain ⟨h1, F1, hle, ho1, hk1, hm1, H1, hX1, hs⟩ := MapFam.settle H hm ho hk n
    by_cases hb : ∃ b, bs[n]? = some (some b)
    · obtain ⟨b, hb⟩ := hb
      obtain ⟨m, es, c, q1, q2, q3⟩ := H1.ent n b hb
      have q2' : F1.X b = some (.map es c) := by rw [hX1 n b (Nat.le_refl _) hb]; exact q2
      obtain ⟨h2, hle2, q4, hm2⟩ := hm1.settleMap q2'
      refine ⟨h2, F1.put b none, Heap.le_trans hle hle2, ⟨ho1.w, ho1.h⟩, hk1.put (by rw [q2']; simp), hm2, H1.mono hle2, fun i b' hi hb' => ?_, fun i b' m' hi hb' hm' => ?_⟩
      · have hne : b' ≠ b := fun hbb => by have := H.nd i n b (by rw [← hbb]; exact hb') hb; omega
        rw [Fr.put_ne _ _ hne]
        exact hX1 i b' (by omega) hb'
      · by_cases hin : i = n
        · subst hin
          rw [hb] at hb'
          cases hb'
          rw [q1] at hm'
          cases hm'
          exact ⟨es, c, q4, q3.mono hle2⟩
        · obtain ⟨es', c', r1, r2⟩ := hs i b' m' (by omega) hb' hm'
          exact ⟨es', c', hle2 _ _ _ r1, r2.mono hle2⟩
    · exact ⟨h1, F1, hle, ho1, hk1, hm1, H1, fun i b' hi hb' => hX1 i b' (by omega) hb', fun i b' m' hi hb' hm' => hs i b' m' (by
        have : i ≠ n := fun hin => hb ⟨b', by rw [← hin]; exact hb'⟩
        omega) hb' hm'⟩
theorem mapM_id {α : Type} : ∀ {ms : List (Option α)} {l : List α}, ms.mapM id = some l → ms = l.map some
  | [], l, h => by simp at h; subst h; rfl
  | x :: ms, l, h => by
    rw [List.mapM_cons] at h
    obtain ⟨a, ha, h⟩ := Option.bind_eq_some_iff.1 h
    obtain ⟨l', hl, h⟩ := Option.bind_eq_some_iff.1 h
    cases h
    rw [mapM_id hl]
    simp only [id] at ha
    rw [ha]
    rfl
theorem cells_maps {h : Heap} : ∀ {bs : List (Option Nat)} {l : List (List (KK × α))}, bs.length = l.length → (∀ (i : Nat) (m : List (KK × α)), l[i]? = some m → ∃ (b : Nat) (es : Array MapEntry) (c : Nat), bs[i]? = some (some b) ∧ h b 0 = some (encMap es c) ∧ Ents h es.toList c m) → Cells h (l.map IMap.mk) (List.map Value.map bs)
  | [], [], _, _ => rfl
  | [], _ :: _, hl, _ => by simp at hl
  | _ :: _, [], hl, _ => by simp at hl
  | o :: bs, m :: l, hl, H => by
    obtain ⟨b, es, c, h1, h2, h3⟩ := H 0 m rfl
    simp at h1
    subst h1
    refine ⟨[.map (some b)], List.map Value.map bs, rfl, ⟨b, es, c, rfl, h2, h3⟩, cells_maps (by simpa using hl) fun i m' hm' => ?_⟩
    simpa using H (i + 1) m' (by simpa using hm')
theorem MapFam.settleAll {l : List (List (KK × α))} (H : MapFam h F bs ms) (hm : Mem F h e pl rw w) (ho : Fr.Of w0 h0 F) (hk : Marks F ks) (hl : ms.mapM id = some l) :
    ∃ (h' : Heap) (F' : Fr), Heap.le h h' ∧ Fr.Of w0 h0 F' ∧ Marks F' ks ∧ Mem F' h' e pl rw w ∧ Cells h' (l.map IMap.mk) (List.map Value.map bs) := by
  obtain ⟨h', F', h1, h2, h3, h4, h5, _, h6⟩ := H.settle hm ho hk bs.length
  have hms := mapM_id hl
  refine ⟨h', F', h1, h2, h3, h4, cells_maps (by rw [H.len, hms]; simp) fun i m hi => ?_⟩
  have hmi : ms[i]? = some (some m) := by rw [hms]; simp [hi]
  obtain ⟨b, es, c, q1, q2, q3⟩ := H.get hmi
  obtain ⟨es', c', q4, q5⟩ := h6 i b m (List.getElem?_eq_some_iff.1 q1).1 q1 hmi
  exact ⟨b, es', c', q1, q4, q5⟩
end
end Go.Proofs.Ythcbemnflgjadaa
namespace Go.Proofs.Ythcbemnflgjadaa
open Go Go.RowKit
open Rep (rep)
open KRep (kv)
open VRep (rv)
abbrev tI (k : Nat) (x : Int) : Nat × SV := (k, .one (.c (.int .i64 x)))
abbrev tS (k : Nat) (a : Option Addr) (n c : Nat) : Nat × SV := (k, .one (.c (.slice a n c)))
abbrev tP (k i o : Nat) : Nat × SV := (k, .one (.c (.ptr i o)))
abbrev tB (k : Nat) (x : Bool) : Nat × SV := (k, .one (.c (.bool x)))
abbrev tA (k : Nat) (cs : List SC) : Nat × SV := (k, .one (.agg cs))
def RetO (R : Heap → Value → List Row → Prop) (h : Heap) (w : World) (en : Ending) (w' : World) : Prop :=
  ∃ v h' rs, en = .returned v ∧ Mem ⟨w, h, noX⟩ h' [] [] rs w' ∧ R h' v rs
section
variable {P : Program} {Q : Exit → Act → World → Prop} {N : Nat} {F : Fr} {h h' : Heap} {e : Env} {pl : List Plc} {rw rs : List Row} {w w' : World} {m : TM} {t : Array Value} {o : Oper} {d : Nat} {dd : List Deferred} {K : Act → World → Prop}
theorem Mem.onlyRows (hm : Mem F h e pl rw w) (js : List Nat) (hj : nodupB js = true) (hl : lendOkR rw js = true) : Mem ⟨F.w, F.h, noX⟩ h [] [] (pick rw js rowD) w := by
  obtain ⟨ow, m⟩ := hm
  have hn := nodupB_sound hj
  refine ⟨fun b => match ow b with | some (.inr j) => (js.idxOf? j).map .inr | _ => none, m.below, m.le, m.old, m.has, fun b x hx => ?_, fun b o x i _ hx => ?_, by simp, fun k r hk => ?_, by simp [noX]⟩
  · skip
    split at hx
    · rename_i j hj'
      exact m.ows b _ hj'
    · cases hx
  · skip
    split at hx
    · obtain ⟨_, _, h2⟩ := Option.map_eq_some_iff.1 hx
      cases h2
    · cases hx
  · unfold pick at hk
    rw [List.getElem?_map] at hk
    obtain ⟨j, hj1, rfl⟩ := Option.map_eq_some_iff.1 hk
    have hlt : j < rw.length := by
      have := List.all_eq_true.1 hl j (List.mem_of_getElem? hj1)
      simpa using this
    have hr : rw[j]? = some (rw.getD j rowD) := by rw [List.getD_eq_getElem?_getD, List.getElem?_eq_getElem hlt]; rfl
    have := m.rws j _ hr
    refine ⟨this.own, this.frz, fun ad ha => ?_, this.one⟩
    obtain ⟨h1, h2, h3⟩ := this.blk ad ha
    refine ⟨?_, h2, h3⟩
    simp only [h1]
    rw [idxOf?_at hn hj1]
    rfl
theorem ownsRow_le {w : World} {b b' : Nat} {E : TypeId} {sz : Nat} {v : Value} {n : Nat} {xs : List Value} (h : w.ownsRow b E sz v n xs) (hb : b' ≤ b) : w.ownsRow b' E sz v n xs := by
  obtain ⟨h1, h2 | ⟨g, cap, cur, h2, h3, h4⟩⟩ := h
  · exact ⟨h1, .inl h2⟩
  · exact ⟨h1, .inr ⟨g, cap, cur, h2, Nat.le_trans hb h3, h4⟩⟩
theorem Mem.join (hm : Mem F h e pl rw w) (h2 : Mem ⟨w, h, noX⟩ h' [] [] rs w') : Mem F h' e pl (rw ++ rs) w' := by
  obtain ⟨ow, m⟩ := hm
  obtain ⟨o2, m2⟩ := h2
  have hold : ∀ b o, b < w.heap.size → h' b o = h b o := fun b o hbl => by
    cases hx : h b o with
    | some x => exact m2.le b o x hx
    | none =>
      cases hy : h' b o with
      | none => rfl
      | some y =>
        rcases m2.old b o y hy with h1 | h1
        · dsimp only at h1; rw [hx] at h1; cases h1
        · dsimp only at h1; omega
  have hsz : F.w.heap.size ≤ w.heap.size := m.below.size
  have hsz2 : w.heap.size ≤ w'.heap.size := m2.below.size
  have hblk : ∀ b, b < w.heap.size → w'.heap[b]? = w.heap[b]? := fun b hb => m2.below.block b hb
  refine ⟨fun b => if b < w.heap.size then ow b else match o2 b with | some (.inr k) => some (.inr (rw.length + k)) | _ => none,
    m.below.trans ⟨m2.below.os, m2.below.tape, m2.below.output, m2.below.size, fun k hk => hblk k (Nat.lt_of_lt_of_le hk hsz)⟩, Heap.le_trans m.le m2.le, fun b o x hx => ?_, m2.has, fun b x hx => ?_, fun b o x i hx hb => ?_, fun i p hp => ?_, fun i r hr => ?_, fun b x hx => ?_⟩
  · rcases m2.old b o x hx with h1 | h1
    · exact m.old b o x h1
    · exact .inr (Nat.le_trans hsz h1)
  · skip
    split at hx
    · obtain ⟨h1, h2⟩ := m.ows b x hx
      exact ⟨h1, by omega⟩
    · split at hx
      · rename_i k hk
        obtain ⟨h1, h2⟩ := m2.ows b _ hk
        exact ⟨Nat.le_trans hsz h1, h2⟩
      · cases hx
  · skip
    split at hb
    · rename_i hlt
      rw [hold b o hlt] at hx
      exact m.hown b o x i hx hb
    · split at hb <;> cases hb
  · have := m.pls i p hp
    unfold PlcOk at this ⊢
    split at this
    · rename_i T hT
      obtain ⟨h1, h2, h3, h4⟩ := this
      have hlt : (e.blk i).1 < w.heap.size := (m.ows _ _ h1).2
      refine ⟨by simp only [hlt, if_true]; exact h1, h2, by rw [hblk _ hlt]; exact h3, fun o => by rw [hold _ _ hlt]; exact h4 o⟩
    · exact fun j c hc => m2.le _ _ _ (this j c hc)
  · rcases Nat.lt_or_ge i rw.length with hi | hi
    · rw [List.getElem?_append_left hi] at hr
      have := m.rws i r hr
      refine ⟨?_, this.frz, fun ad ha => ?_, this.one⟩
      · obtain ⟨h1, h2 | ⟨g, cap, cur, h2, h3, h4, h5⟩⟩ := this.own
        · exact ⟨h1, .inl h2⟩
        · simp only [Value.slice.injEq] at h2
          obtain ⟨h21, h22, h23⟩ := h2
          have hlt : g < w.heap.size := (m.ows _ _ (this.blk _ h21).1).2
          exact ⟨h1, .inr ⟨g, cap, cur, by rw [h21, h23], h3, by rw [hblk _ hlt]; exact h4, h5⟩⟩
      · obtain ⟨h1, h2, h3⟩ := this.blk ad ha
        have hlt : ad.block < w.heap.size := (m.ows _ _ h1).2
        exact ⟨by simp only [hlt, if_true]; exact h1, fun o ho => by rw [hold _ _ hlt]; exact h2 o ho, fun o ho => by rw [hold _ _ hlt]; exact h3 o ho⟩
    · rw [List.getElem?_append_right hi] at hr
      have := m2.rws _ r hr
      refine ⟨ownsRow_le this.own hsz, this.frz, fun ad ha => ?_, this.one⟩
      obtain ⟨h1, h2, h3⟩ := this.blk ad ha
      have hge : ¬ ad.block < w.heap.size := by have := (m2.ows _ _ h1).1; dsimp only at this; omega
      refine ⟨?_, h2, h3⟩
      simp only [hge, if_false, h1]
      congr 2
      omega
  · obtain ⟨h1, h2, h3, h4, h5⟩ := m.ext b x hx
    exact ⟨h1, by omega, by rw [hblk _ h2]; exact h3, by simp only [h2, if_true]; exact h4, h5.same fun o => hold b o h2⟩
theorem retO_ok {fn : Func} {R : Heap → Value → List Row → Prop} (sv : SV) (js : List Nat) (hk : Kn N e m t) (hm : Mem F h e pl rw w) (hj : nodupB js = true) (hl : lendOkR rw js = true) (hr : resS P m pl fn.results.toList = some sv) (hR : R h (sv.den e) (pick rw js rowD)) :
    bodyPost P fn (RetO R F.h F.w) .ret ⟨t, []⟩ w := ⟨rfl, _, resS_sound hk hm.plOk hr, _, _, _, rfl, hm.onlyRows js hj hl, hR⟩
theorem wp_callO {f : FuncId} {args : Array Operand} {tys : Array TypeId} {R : Heap → Value → List Row → Prop} (vs : List SA) (vals : Array Value) (hk : Kn N e m t) (hm : Mem F h e pl rw w) (hop : o.op = .call ⟨.value (.func f), args, tys⟩) (hd : o.dst = some d) (hlt : d < N)
    (hargs : evAs m args.toList = some vs) (hvals : (vs.map (SA.den e)).toArray = vals) (hent : ∀ args w, (callFunc f args).run P w = .ok (.enter f args) w) (hcall : Calls P f vals w (RetO R h w))
    (hK : ∀ v h' w' rs, R h' v rs → Heap.le h h' → Mem F h' e pl (rw ++ rs) w' → ∃ sv : SV, sv.den e = v ∧ ∀ t', Kn N e (m.put d sv) t' → K ⟨t', dd⟩ w') : o.wp P ⟨t, dd⟩ w K Q := by
  refine wp_callM vs vals hk hop hd hlt hargs hvals hent (S := fun v w' => ∃ h' rs, Mem ⟨w, h, noX⟩ h' [] [] rs w' ∧ R h' v rs) (hcall.mono ?_) ?_
  · rintro en w' ⟨v, h', rs, rfl, h1, h2⟩
    exact ⟨v, rfl, h', rs, h1, h2⟩
  · rintro v w' ⟨h', rs, h1, h2⟩
    have hle : Heap.le h h' := by obtain ⟨_, m2⟩ := h1; exact m2.le
    exact hK v h' w' rs h2 hle (hm.join h1)
end
end Go.Proofs.Ythcbemnflgjadaa
namespace Go.Proofs.Ythcbemnflgjadaa
open Go Go.RowKit
abbrev dn : Nat → List Nat
  | 0 => [0]
  | n + 1 => (n + 1) :: dn n
section
variable {P : Program} {ops : Array Oper} {N : Nat} {F : Fr} {h : Heap} {e : Env} {pl : List Plc} {rw : List Row} {m m' : TM} {t : Array Value} {dd d : List Deferred} {w : World} {Q : Exit → Act → World → Prop} {K : Act → World → Prop} {o : Oper} {k : Nat}
theorem wf {i : Nat} {a : Act} (H : Q .normal a w) (hi : ops.size ≤ i := by decide) : wpFrom P ops Q i a w := wpFrom_end hi H
theorem wl {i : Nat} {a : Act} (H : ∀ K : Act → World → Prop, (∀ a' w', wpFrom P ops Q (i + 1) a' w' → K a' w') → o.wp P a w K Q) (hi : ops[i]? = some o := by rfl) (hw : Region.wanted o (yielded ops a.tmps) = true := by rfl) : wpFrom P ops Q i a w := wpFrom_loud o hi hw H
theorem Rk (i n : Nat) (m' : TM) (hk : Kn N e m t) (hm : Mem F h e pl rw w) (H : ∀ t', Kn N e m' t' → wpFrom P ops Q (i + n) ⟨t', d⟩ w) (hr : (qrun P ops N pl i n m).map (fun x => keepTM x (m'.map Prod.fst)) = some m' := by kernel_rfl) : wpFrom P ops Q i ⟨t, d⟩ w := R_runk i n _ m' hk hm.plOk hr H
theorem Kn.kp (hk : Kn N e m t) (H : keepTM m (m'.map Prod.fst) = m' := by rfl) : Kn N e m' t := hk.keep _ H
theorem wC {c : Operand} {x y : Code} (b : Bool) (hk : Kn N e m t) (h1 : b = true → x.wp P Q ⟨t, d⟩ w) (h2 : b = false → y.wp P Q ⟨t, d⟩ w) (hc : evA m c = some (.c (.bool b)) := by kernel_rfl) : (Code.cond c x y).wp P Q ⟨t, d⟩ w := wp_cond_sv b hk hc h1 h2
theorem rt {fn : Func} {R : Heap → Value → Prop} (sv : SV) (hk : Kn N e m t) (hm : Mem F h e pl rw w) (hR : R h (sv.den e)) (hr : resS P m pl fn.results.toList = some sv := by kernel_rfl) : bodyPost P fn (Ret R F.h F.w) .ret ⟨t, []⟩ w := ret_ok sv hk hm hr hR
theorem wc {f : FuncId} {args : Array Operand} {tys : Array TypeId} {R : Heap → Value → Prop} {vals : Array Value} (vs : List SA) (hk : Kn N e m t) (hm : Mem F h e pl rw w) (hcall : Calls P f vals w (Ret R h w))
    (hK : ∀ v h' w', R h' v → Heap.le h h' → Mem F h' e pl rw w' → ∃ sv : SV, sv.den e = v ∧ ∀ t', Kn N e (m.put k sv) t' → K ⟨t', dd⟩ w')
    (hop : o.op = .call ⟨.value (.func f), args, tys⟩ := by rfl) (hd : o.dst = some k := by rfl) (hlt : k < N := by decide)
    (hargs : evAs m args.toList = some vs := by rfl) (hvals : (vs.map (SA.den e)).toArray = vals := by rfl) (hent : ∀ args w, (callFunc f args).run P w = .ok (.enter f args) w := by exact fun _ _ => by kernel_rfl) : o.wp P ⟨t, dd⟩ w K Q := wp_call vs vals hk hm hop hd hlt hargs hvals hent hcall hK
theorem wb {T : TypeId} {x : Operand} (v : SA) (hk : Kn N e m t) (hm : Mem F h e pl rw w)
    (hK : ∀ b t' w', Kn N (e ++ [(b, 0)]) (m.put k (.one (.c (.ptr e.length 0)))) t' → Mem F h (e ++ [(b, 0)]) (pl ++ [⟨v.cells, some T⟩]) rw w' → K ⟨t', dd⟩ w')
    (hop : o.op = .box T x := by rfl) (hd : o.dst = some k := by rfl) (hlt : k < N := by decide) (hok : okAll e pl m = true := by kernel_rfl) (hx : evA m x = some v := by kernel_rfl) (hcs : okSC e.length v.cells = true := by kernel_rfl) : o.wp P ⟨t, dd⟩ w K Q := wp_box v hk hm hop hd hlt hok hx hcs hK
theorem wa {T : TypeId} (cs : List SC) (hk : Kn N e m t) (hm : Mem F h e pl rw w)
    (hK : ∀ b t' w', Kn N (e ++ [(b, 0)]) (m.put k (.one (.c (.ptr e.length 0)))) t' → Mem F h (e ++ [(b, 0)]) (pl ++ [⟨cs, some T⟩]) rw w' → K ⟨t', dd⟩ w')
    (hop : o.op = .alloc T := by rfl) (hd : o.dst = some k := by rfl) (hlt : k < N := by decide) (hok : okAll e pl m = true := by kernel_rfl) (hz : zeroSC P T = some cs := by kernel_rfl) (hcs : okSC e.length cs = true := by kernel_rfl) : o.wp P ⟨t, dd⟩ w K Q := wp_alloc cs hk hm hop hd hlt hok hz hcs hK
theorem wst {T : TypeId} {x y : Operand} (i off : Nat) (v : SA) (cs : List SC) {TT : TypeId} {p : List SC} (hk : Kn N e m t) (hm : Mem F h e pl rw w)
    (hK : ∀ w', Kn N e m t → Mem F h e (pl.set i ⟨cs, some TT⟩) rw w' → K ⟨t, dd⟩ w')
    (hop : o.op = .store T x y := by rfl) (hd : o.dst = none := by rfl) (hx : evA m x = some (.c (.ptr i off)) := by rfl) (hy : evA m y = some v := by rfl) (hp : pl[i]? = some ⟨p, some TT⟩ := by rfl) (hsz : tySz P T = some v.cells.length := by kernel_rfl) (hfit : decide (off + v.cells.length ≤ p.length) = true := by kernel_rfl)
    (hcs : p.take off ++ v.cells ++ p.drop (off + v.cells.length) = cs := by rfl) : o.wp P ⟨t, dd⟩ w K Q := wp_store i off v cs hk hm hop hd hx hy hp hsz hfit hcs hK
theorem wS {T : TypeId} {len : Nat} {parts : Array (Nat × Operand)} (E : TypeId) (sz : Nat) (cs : List SC) (hk : Kn N e m t) (hm : Mem F h e pl rw w)
    (hK : ∀ a t' w', Kn N e (m.put k (.one (.c (.slice a len len)))) t' → Mem F h e pl (rw ++ [⟨a, len, len, E, sz, cs.map (SC.den e), 0⟩]) w' → K ⟨t', dd⟩ w')
    (hop : o.op = .buildSlice T len parts := by rfl) (hd : o.dst = some k := by rfl) (hlt : k < N := by decide) (hq : qslice P m T len parts.toList = some cs := by kernel_rfl) (hT : P.underlying T = some (.slice E) := by rfl) (hsz : tySz P E = some sz := by rfl) (hl : cs.length = len * sz := by rfl) (hlen : decide (len ≤ 1000000000) = true := by decide) : o.wp P ⟨t, dd⟩ w K Q :=
  wp_buildSlice E sz cs hk hm hop hd hlt hq hT hsz hl hlen hK
end
section
variable {P : Program} {ops : Array Oper} {X : List Nat} {Q : Exit → Act → World → Prop} {N : Nat} {e : Env} {pl : List Plc} {rw : List Row} {w : World} {d : List Deferred} {m : TM} {t : Array Value} {done : List Nat} {F : Fr} {h : Heap}
theorem Dr (is done' : List Nat) (m' : TM) (hk : Kn N e m t) (hm : Mem F h e pl rw w) (H : ∀ t', Kn N e m' t' → wpD P ops X Q e pl done' ⟨t', d⟩ w) (hQ : Deaf Q := by exact fun _ _ _ _ _ h => h)
    (hs : Region.noSelect ops = true := by kernel_rfl) (hd : is.reverseAux done = done' := by rfl) (hr : (qrunD P ops X N pl is done m).map (fun x => keepTM x (m'.map Prod.fst)) = some m' := by kernel_rfl) : wpD P ops X Q e pl done ⟨t, d⟩ w := D_run is done' _ m' hQ hk hm.plOk hs hd hr H
theorem Dl {a : Act} (i : Nat) {oi : Oper} (H : ∀ K : Act → World → Prop, (∀ a' w', PlOk e pl w' → wpD P ops X Q e pl (i :: done) a' w' → K a' w') → oi.wp P a w K Q) (hi : ops[i]? = some oi := by rfl) (hr : Region.ready .any ops (listedOf ops.size done) = [i] := by kernel_rfl) (hl : done.length < ops.size := by first | decide | exact Nat.le_of_ble_eq_true rfl)
    (hw : Region.wanted oi (yielded ops a.tmps) = true := by rfl) : wpD P ops X Q e pl done a w := D_loud i hi hr hl hw H
end
end Go.Proofs.Ythcbemnflgjadaa
namespace Go.Proofs.Ythcbemnflgjadaa
open Go Go.RowKit
section
variable {P : Program} {N : Nat} {F : Fr} {h : Heap} {e : Env} {pl : List Plc} {rw : List Row} {m : TM} {t : Array Value} {dd : List Deferred} {w w' : World}
  {o : Oper} {K : Act → World → Prop} {Q : Exit → Act → World → Prop} {d : Nat}
end
end Go.Proofs.Ythcbemnflgjadaa
namespace Go.Proofs.Ythcbemnflgjadaa
open Go Go.RowKit
structure Fl where
  i : Nat
  d : Nat
  E : TypeId
  sz : Nat
  len : Nat
  cs : List SC
def Fl.row (f : Fl) (e : Env) (a : Option Addr) : Row := ⟨a, f.len, f.len, f.E, f.sz, f.cs.map (SC.den e), 0⟩
def Fl.nil (f : Fl) : Row := ⟨none, 0, 0, f.E, f.sz, [], 0⟩
def Fl.ent (f : Fl) (a : Option Addr) : Nat × SV := (f.d, .one (.c (.slice a f.len f.len)))
section
variable {P : Program} {ops : Array Oper} {X : List Nat} {Q : Exit → Act → World → Prop} {N : Nat} {F : Fr} {e : Env} {pl : List Plc} {dl : List Deferred}
end
end Go.Proofs.Ythcbemnflgjadaa
