/- Calls that write what they are lent. -/
import Derived.Test.YtokchpjijlebiaaSymS
set_option linter.all false
namespace Go.Proofs.Ytokchpjijlebiaa
open Go Go.RowKit
open Rep (rep)
open KRep (kv)
open VRep (rv)
section
variable {P : Program} {Q : Exit → Act → World → Prop} {N : Nat} {F : Fr} {h : Heap} {e : Env} {pl : List Plc} {rw : List Row} {w : World} {m : TM} {t : Array Value} {dd : List Deferred} {o : Oper} {d : Nat} {K : Act → World → Prop}
theorem opt_cases {α : Type} (x : Option α) : x = none ∨ ∃ y, x = some y := by cases x <;> simp
/-- Places and rows are lent; no object is. -/
theorem Mem.lend0 (is js : List Nat) (hm : Mem F h e pl rw w) (hi : lendOkP pl is = true) (hj : lendOkR rw js = true) (hni : nodupB is = true) (hnj : nodupB js = true) :
    ∃ Y, (∀ b o, F.X b = some o → Y b = some o) ∧ Mem ⟨F.w, h, Y⟩ h (blkOf e is) (pick pl is plcD) (pick rw js rowD) w ∧
      ∀ (h' : Heap) (w' : World) (pl' : List Plc) (rw' : List Row), Heap.le h h' → pl'.length = is.length → js.length ≤ rw'.length →
        (pl'.all fun (p : Plc) => p.own.isSome && noPtr p.cells) = true → Mem ⟨F.w, h, Y⟩ h' (blkOf e is) pl' rw' w' →
        Mem F h' e (putL pl is pl') (putL rw js rw' ++ rw'.drop js.length) w' := by
  obtain ⟨Y, h1, h2, h3⟩ := hm.lend is js hi hj hni hnj
  refine ⟨Y, h1, h2, fun h' w' pl' rw' hle hl1 hl2 hok hm' => ?_⟩
  have := h3 Y h' w' pl' rw' hle (fun _ _ => rfl) hl1 hl2 hok hm'
  have hF : (⟨F.w, F.h, fun b => if (F.X b).isSome then Y b else none⟩ : Fr) = F := by
    cases F with
    | mk w0 h0 X =>
      congr 1
      funext b
      rcases opt_cases (X b) with hx | ⟨x, hx⟩
      · simp [hx]
      · simp [hx, h1 b x hx]
  rw [hF] at this
  exact this
/-- Places and rows are lent, and an object. -/
theorem Mem.lend1 (bm : Nat) {o0 : Obj} (hX : F.X bm = some o0) (is js : List Nat) (hm : Mem F h e pl rw w) (hi : lendOkP pl is = true) (hj : lendOkR rw js = true) (hni : nodupB is = true) (hnj : nodupB js = true) :
    ∃ Y, (∀ b o, F.X b = some o → Y b = some o) ∧ Mem ⟨F.w, h, Y⟩ h (blkOf e is) (pick pl is plcD) (pick rw js rowD) w ∧
      ∀ (o' : Obj) (h' : Heap) (w' : World) (pl' : List Plc) (rw' : List Row), Heap.le h h' → pl'.length = is.length → js.length ≤ rw'.length →
        (pl'.all fun (p : Plc) => p.own.isSome && noPtr p.cells) = true → Mem ((⟨F.w, h, Y⟩ : Fr).put bm (some o')) h' (blkOf e is) pl' rw' w' →
        Mem (F.put bm (some o')) h' e (putL pl is pl') (putL rw js rw' ++ rw'.drop js.length) w' := by
  obtain ⟨Y, h1, h2, h3⟩ := hm.lend is js hi hj hni hnj
  refine ⟨Y, h1, h2, fun o' h' w' pl' rw' hle hl1 hl2 hok hm' => ?_⟩
  have := h3 (fun k => if k = bm then some o' else Y k) h' w' pl' rw' hle (fun b hb => by
    have : b ≠ bm := fun hbm => by rw [hbm, hX] at hb; cases hb
    simp [this]) hl1 hl2 hok hm'
  have hF : (⟨F.w, F.h, fun b => if (F.X b).isSome then (if b = bm then some o' else Y b) else none⟩ : Fr) = F.put bm (some o') := by
    cases F with
    | mk w0 h0 X =>
      unfold Fr.put
      congr 1
      funext b
      simp only at hX h1 ⊢
      by_cases hb : b = bm
      · subst hb; simp [hX]
      · rcases opt_cases (X b) with hx | ⟨x, hx⟩
        · simp [hb, hx]
        · simp [hb, hx, h1 b x hx]
  rw [hF] at this
  exact this
/-- What a call hands back, and how it leaves memory. -/
def RetM (S : Value → World → Prop) (en : Ending) (w' : World) : Prop := ∃ v, en = .returned v ∧ S v w'
theorem wp_callM {f : FuncId} {args : Array Operand} {tys : Array TypeId} {S : Value → World → Prop} (vs : List SA) (vals : Array Value) (hk : Kn N e m t) (hop : o.op = .call ⟨.value (.func f), args, tys⟩) (hd : o.dst = some d) (hlt : d < N)
    (hargs : evAs m args.toList = some vs) (hvals : (vs.map (SA.den e)).toArray = vals) (hent : ∀ args w, (callFunc f args).run P w = .ok (.enter f args) w) (hcall : Calls P f vals w (RetM S))
    (hK : ∀ v w', S v w' → ∃ sv : SV, sv.den e = v ∧ ∀ t', Kn N e (m.put d sv) t' → K ⟨t', dd⟩ w') : o.wp P ⟨t, dd⟩ w K Q := by
  subst hvals
  have h1 : args.map (Act.mk t dd).eval = (vs.map (SA.den e)).toArray := by
    rw [← evAs_sound (dd := dd) hk hargs]
    apply Array.ext'
    rw [Array.toList_map]
  unfold Oper.wp execOp
  simp only [hop, resolve, h1]
  simp only [Act.eval, Deferred.ofValue, Sem.run_bind, Sem.run_pure, Result.andThen_ok, invoke, Array.empty_append, Array.append_empty, hent, Oper.upon]
  refine hcall.mono ?_
  rintro en w' ⟨v, rfl, hS⟩
  obtain ⟨sv, hsv, hk'⟩ := hK v w' hS
  show K _ _
  rw [put_eq t dd hd, ← hsv]
  exact hk' _ (hk.put hlt sv)
theorem wp_callM0 {f : FuncId} {args : Array Operand} {tys : Array TypeId} {S : Value → World → Prop} (vs : List SA) (vals : Array Value) (hk : Kn N e m t) (hop : o.op = .call ⟨.value (.func f), args, tys⟩) (hd : o.dst = none)
    (hargs : evAs m args.toList = some vs) (hvals : (vs.map (SA.den e)).toArray = vals) (hent : ∀ args w, (callFunc f args).run P w = .ok (.enter f args) w) (hcall : Calls P f vals w (RetM S))
    (hK : ∀ v w', S v w' → Kn N e m t → K ⟨t, dd⟩ w') : o.wp P ⟨t, dd⟩ w K Q := by
  subst hvals
  have h1 : args.map (Act.mk t dd).eval = (vs.map (SA.den e)).toArray := by
    rw [← evAs_sound (dd := dd) hk hargs]
    apply Array.ext'
    rw [Array.toList_map]
  unfold Oper.wp execOp
  simp only [hop, resolve, h1]
  simp only [Act.eval, Deferred.ofValue, Sem.run_bind, Sem.run_pure, Result.andThen_ok, invoke, Array.empty_append, Array.append_empty, hent, Oper.upon]
  refine hcall.mono ?_
  rintro en w' ⟨v, rfl, hS⟩
  show K _ _
  rw [hd]
  exact hK v w' hS hk
theorem wp_callVM (v0 : SC) {x : Operand} {args : Array Operand} {tys : Array TypeId} {S : Value → World → Prop} (vs : List SA) (vals : Array Value) (hk : Kn N e m t) (hop : o.op = .call ⟨.value x, args, tys⟩) (hd : o.dst = some d) (hlt : d < N)
    (hx : evA m x = some (.c v0)) (hargs : evAs m args.toList = some vs) (hvals : (vs.map (SA.den e)).toArray = vals) (hcall : CallsV P (v0.den e) vals w (RetM S))
    (hK : ∀ v w', S v w' → ∃ sv : SV, sv.den e = v ∧ ∀ t', Kn N e (m.put d sv) t' → K ⟨t', dd⟩ w') : o.wp P ⟨t, dd⟩ w K Q := by
  subst hvals
  have h1 : args.map (Act.mk t dd).eval = (vs.map (SA.den e)).toArray := by
    rw [← evAs_sound (dd := dd) hk hargs]
    apply Array.ext'
    rw [Array.toList_map]
  obtain ⟨f, first, cap, hv, hent, hcall⟩ := hcall
  have hxe := evA_sound (d := dd) hk hx
  simp only [SA.den, hv] at hxe
  unfold Oper.wp execOp
  simp only [hop, resolve, h1, hxe]
  simp only [Deferred.ofValue, Sem.run_bind, Sem.run_pure, Result.andThen_ok, invoke, hent, Oper.upon]
  refine hcall.mono ?_
  rintro en w' ⟨v, rfl, hS⟩
  obtain ⟨sv, hsv, hk'⟩ := hK v w' hS
  show K _ _
  rw [put_eq t dd hd, ← hsv]
  exact hk' _ (hk.put hlt sv)
/-- The end of such a call. -/
theorem retM_of {fn : Func} {S : Value → World → Prop} (sv : SV) (hk : Kn N e m t) (hm : Mem F h e pl rw w) (hr : resS P m pl fn.results.toList = some sv) (hS : S (sv.den e) w) :
    bodyPost P fn (RetM S) .ret ⟨t, []⟩ w := ⟨rfl, _, resS_sound hk hm.plOk hr, _, rfl, hS⟩
/-- A call without results that falls off its end. -/
theorem endM_of {fn : Func} {S : Value → World → Prop} (hr : fn.results = #[]) (hS : S (.tuple #[]) w) :
    bodyPost P fn (RetM S) .normal ⟨t, []⟩ w := by
  refine ⟨rfl, _, ?_, _, rfl, hS⟩
  simp [results, hr]
theorem enterM' {f : FuncId} {fn : Func} {c : Code} {R : Ending → World → Prop} {vals : Array Value} (N : Nat) (vs : List SA) (hf : P.funcs[f]? = some fn) (hb : fn.body = some c) (hN : fn.ntmps = N) (hn : decide (vs.length ≤ N) = true) (hv : (vs.map (SA.den e)).toArray = vals)
    (H : ∀ t, Kn N e (argTM 0 vs) t → c.wp P (bodyPost P fn R) ⟨t, []⟩ w) : Calls P f vals w R := enter' N vs hf hb hN hn hv H
/-- A place becomes a held object. -/
theorem Mem.hide {b : Nat} {T : TypeId} {cs : List SC} {e : Env} {pl : List Plc} (vs : List Value) (hm : Mem F h (e ++ [(b, 0)]) (pl ++ [⟨cs, some T⟩]) rw w) (hl : pl.length = e.length) (h1 : okPl e.length pl = true) (hv : cs.map (SC.den (e ++ [(b, 0)])) = vs) :
    Mem (F.put b (some (.cells vs.toArray T (0, 0)))) h e pl rw w ∧ ∀ o, h b o = none := by
  obtain ⟨ow, m⟩ := hm
  have hb : Env.blk (e ++ [(b, 0)]) pl.length = (b, 0) := by rw [hl, blk_last]
  have hlast := m.pls pl.length ⟨cs, some T⟩ (by simp)
  simp only [PlcOk] at hlast
  rw [hb] at hlast
  obtain ⟨q1, _, q3, q4⟩ := hlast
  rw [hv] at q3
  refine ⟨⟨fun k => if k = b then none else ow k, m.below, m.le, m.old, m.has, ?_, ?_, ?_, ?_, ?_⟩, q4⟩
  · intro k x hx
    by_cases hk : k = b
    · simp [hk] at hx
    · simp only [hk, if_false] at hx; exact m.ows k x hx
  · intro k o x i hv hx
    by_cases hk : k = b
    · simp [hk] at hx
    · simp only [hk, if_false] at hx; exact m.hown k o x i hv hx
  · intro i p hp
    have hil : i < pl.length := (List.getElem?_eq_some_iff.1 hp).1
    have := m.pls i p (by rw [List.getElem?_append_left hil]; exact hp)
    have hbi : Env.blk (e ++ [(b, 0)]) i = e.blk i := blk_append e _ (by omega)
    have hok := okPl_get h1 hp
    unfold PlcOk at this ⊢
    split at this
    · obtain ⟨r1, r2, r3, r4⟩ := this
      rw [hbi] at r1 r2 r3 r4
      refine ⟨?_, r2, ?_, r4⟩
      · have hne : (e.blk i).1 ≠ b := fun hh => by rw [hh, q1] at r1; simp at r1; omega
        simp only [hne, if_false, r1]
      · rw [r3, map_den_append hok]
    · rw [hbi] at this
      intro j c hj
      rw [this j c hj, den_append (okSC_all hok c (List.mem_of_getElem? hj))]
  · intro i r hr
    obtain ⟨r1, r2, r3, r4⟩ := m.rws i r hr
    refine ⟨r1, r2, fun ad ha => ?_, r4⟩
    obtain ⟨s1, s2⟩ := r3 ad ha
    have hne : ad.block ≠ b := fun hh => by rw [hh, q1] at s1; simp at s1
    exact ⟨by simp only [hne, if_false, s1], s2⟩
  · intro k x hx
    simp only [Fr.put] at hx
    by_cases hk : k = b
    · subst hk
      simp only [if_true, Option.some.injEq] at hx
      subst hx
      have hows := m.ows k _ q1
      exact ⟨hows.1, hows.2, q3, by simp, ExtH.none q4⟩
    · simp only [hk, if_false] at hx
      obtain ⟨t1, t2, t3, t4, t5⟩ := m.ext k x hx
      exact ⟨t1, t2, t3, by simp only [hk, if_false, t4], t5⟩
/-- A held object becomes a place. -/
theorem Mem.unhide {b : Nat} {T : TypeId} {cs : List SC} (vs : List Value) (hm : Mem F h e pl rw w) (hX : F.X b = some (.cells vs.toArray T (0, 0))) (hn : ∀ o, F.h b o = none) (hl : pl.length = e.length) (h1 : okPl e.length pl = true) (h2 : okSC e.length cs = true) (hv : cs.map (SC.den (e ++ [(b, 0)])) = vs) :
    Mem (F.put b none) h (e ++ [(b, 0)]) (pl ++ [⟨cs, some T⟩]) rw w := by
  obtain ⟨ow, m⟩ := hm
  obtain ⟨x1, x2, x3, x4, x5⟩ := m.ext b _ hX
  have hh : ∀ o, h b o = none := fun o => by
    cases hx : h b o with
    | none => rfl
    | some v => have := x5.1 o v hx; rw [hn o] at this; cases this
  refine ⟨fun k => if k = b then some (.inl pl.length) else ow k, m.below, m.le, m.old, m.has, ?_, ?_, ?_, ?_, ?_⟩
  · intro k x hx
    by_cases hk : k = b
    · subst hk; exact ⟨x1, x2⟩
    · simp only [hk, if_false] at hx; exact m.ows k x hx
  · intro k o x i hv hx
    by_cases hk : k = b
    · rw [hk, hh o] at hv; cases hv
    · simp only [hk, if_false] at hx; exact m.hown k o x i hv hx
  · intro i p hp
    rcases getElem?_append_one hp with ⟨hi, hp⟩ | ⟨hi, rfl⟩
    · have := m.pls i p hp
      have hbi : Env.blk (e ++ [(b, 0)]) i = e.blk i := blk_append e _ (by omega)
      have hok := okPl_get h1 hp
      unfold PlcOk at this ⊢
      split at this
      · obtain ⟨r1, r2, r3, r4⟩ := this
        rw [hbi]
        refine ⟨?_, r2, ?_, r4⟩
        · have hne : (e.blk i).1 ≠ b := fun hh => by rw [hh, x4] at r1; cases r1
          simp only [hne, if_false, r1]
        · rw [r3, map_den_append hok]
      · rw [hbi]
        intro j c hj
        rw [this j c hj, den_append (okSC_all hok c (List.mem_of_getElem? hj))]
    · subst hi
      have hb : Env.blk (e ++ [(b, 0)]) pl.length = (b, 0) := by rw [hl, blk_last]
      simp only [PlcOk]
      rw [hb, hv]
      exact ⟨by simp, rfl, x3, hh⟩
  · intro i r hr
    obtain ⟨r1, r2, r3, r4⟩ := m.rws i r hr
    refine ⟨r1, r2, fun ad ha => ?_, r4⟩
    obtain ⟨s1, s2⟩ := r3 ad ha
    have hne : ad.block ≠ b := fun hh => by rw [hh, x4] at s1; cases s1
    exact ⟨by simp only [hne, if_false, s1], s2⟩
  · intro k x hx
    simp only [Fr.put] at hx
    by_cases hk : k = b
    · simp [hk] at hx
    · simp only [hk, if_false] at hx
      obtain ⟨t1, t2, t3, t4, t5⟩ := m.ext k x hx
      exact ⟨t1, t2, t3, by simp only [hk, if_false, t4], t5⟩
/-- Two places are two blocks. -/
theorem Mem.blk_ne (hm : Mem F h e pl rw w) {i j : Nat} {p q : Plc} (hp : pl[i]? = some p) (hq : pl[j]? = some q) (ho : p.own.isSome = true) (ho' : q.own.isSome = true) (hij : i ≠ j) : (e.blk i).1 ≠ (e.blk j).1 := by
  obtain ⟨ow, m⟩ := hm
  have h1 := m.pls i p hp
  have h2 := m.pls j q hq
  unfold PlcOk at h1 h2
  split at h1
  · split at h2
    · intro hb
      have := h1.1
      rw [hb, h2.1] at this
      simp at this
      exact hij this.symm
    · rename_i hT; rw [hT] at ho'; cases ho'
  · rename_i hT; rw [hT] at ho; cases ho
/-- The state of another call, in objects that are held. -/
structure SOk {σ : Type} (XS : σ → Fr → Heap → Prop) (B : Nat → Prop) : Prop where
  mono : ∀ s F F' h h', XS s F h → Heap.le h h' → (∀ b, B b → F'.X b = F.X b) → (∀ b, B b → ∀ o v, F'.h b o = some v → F.h b o = some v) → XS s F' h'
  dom : ∀ s F h, XS s F h → ∀ b, B b → (F.X b).isSome = true
theorem SOk.up {σ : Type} {XS : σ → Fr → Heap → Prop} {B : Nat → Prop} {s : σ} {h' : Heap} (hS : SOk XS B) (hs : XS s F h) (hle : Heap.le h h') : XS s F h' := hS.mono s F F h h' hs hle (fun _ _ => rfl) (fun _ _ _ _ hv => hv)
/-- Two frames that differ in the blocks B alone. -/
structure Fr.Sim (B : Nat → Prop) (F G : Fr) : Prop where
  w : G.w = F.w
  h : G.h = F.h
  X : ∀ b, ¬ B b → G.X b = F.X b
theorem Fr.Sim.refl (B : Nat → Prop) (F : Fr) : Fr.Sim B F F := ⟨rfl, rfl, fun _ _ => rfl⟩
theorem Fr.Sim.trans {B : Nat → Prop} {F G H : Fr} (a : Fr.Sim B F G) (b : Fr.Sim B G H) : Fr.Sim B F H := ⟨b.w.trans a.w, b.h.trans a.h, fun k hk => (b.X k hk).trans (a.X k hk)⟩
theorem Mem.lendS {σ : Type} {XS : σ → Fr → Heap → Prop} {B : Nat → Prop} {s : σ} (hS : SOk XS B) (hs : XS s F h) (hm : Mem F h e pl rw w) :
    ∃ Y, Mem ⟨F.w, h, Y⟩ h [] [] [] w ∧ XS s ⟨F.w, h, Y⟩ h ∧ ∀ (G : Fr) (h' : Heap) (w' : World) (s' : σ), Heap.le h h' → Fr.Sim B ⟨F.w, h, Y⟩ G → XS s' G h' → Mem G h' [] [] [] w' →
      ∃ F' : Fr, Fr.Sim B F F' ∧ XS s' F' h' ∧ Mem F' h' e pl rw w' := by
  have hext : ∀ b, (F.X b).isSome = true → ∀ o v, h b o = some v → F.h b o = some v := fun b hb => by
    obtain ⟨ow, m⟩ := hm
    obtain ⟨x, hx⟩ := Option.isSome_iff_exists.1 hb
    exact (m.ext b x hx).2.2.2.2.1
  obtain ⟨Y, h1, h2, h3⟩ := hm.lend [] [] rfl rfl rfl rfl
  refine ⟨Y, h2, hS.mono s F _ h h hs (Heap.le_refl _) (fun b hb => ?_) (fun b hb => hext b (hS.dom s F h hs b hb)), fun G h' w' s' hle hG0 hs' hm' => ?_⟩
  · obtain ⟨x, hx⟩ := Option.isSome_iff_exists.1 (hS.dom s F h hs b hb)
    simp only
    rw [hx, h1 b x hx]
  · obtain ⟨hGw, hGh, hG⟩ := hG0
    simp only at hGw hGh hG
    have hGe : G = ⟨F.w, h, G.X⟩ := by cases G; simp only at hGw hGh; subst hGw; subst hGh; rfl
    rw [hGe] at hm'
    have h4 := h3 G.X h' w' [] [] hle (fun b hb => hG b fun hB => by
      have := hS.dom s F h hs b hB
      rw [hb] at this; cases this) rfl (Nat.le_refl _) rfl hm'
    refine ⟨⟨F.w, F.h, fun b => if (F.X b).isSome then G.X b else none⟩, ⟨rfl, rfl, fun b hB => ?_⟩, ?_, by simpa [putL] using h4⟩
    · rcases opt_cases (F.X b) with hx | ⟨x, hx⟩
      · simp [hx]
      · simp [hx, hG b hB, h1 b x hx]
    · refine hS.mono s' G _ h' h' hs' (Heap.le_refl _) (fun b hb => ?_) (fun b hb o v hv => ?_)
      · have := hS.dom s F h hs b hb
        simp [this]
      · rw [hGh]
        obtain ⟨ow, m⟩ := hm
        exact m.le _ _ _ hv
/-- What a call with such a state leaves. -/
def SRet {σ : Type} (XS : σ → Fr → Heap → Prop) (B : Nat → Prop) (F : Fr) (h : Heap) (s' : σ) : Ending → World → Prop := RetM fun v w' => v = .tuple #[] ∧ ∃ (h' : Heap) (G : Fr), Heap.le h h' ∧ Fr.Sim B F G ∧ XS s' G h' ∧ Mem G h' [] [] [] w'
/-- A place's block is held by nobody else. -/
theorem Mem.placeX (hm : Mem F h e pl rw w) {i : Nat} {p : Plc} (hp : pl[i]? = some p) (ho : p.own.isSome = true) : F.X (e.blk i).1 = none := by
  obtain ⟨ow, m⟩ := hm
  have h1 := m.pls i p hp
  unfold PlcOk at h1
  split at h1
  · rcases opt_cases (F.X (e.blk i).1) with hx | ⟨x, hx⟩
    · exact hx
    · have := (m.ext _ x hx).2.2.2.1
      rw [this] at h1
      cases h1.1
  · rename_i hT; rw [hT] at ho; cases ho
theorem Fr.eqOf {F G : Fr} (hw : G.w = F.w) (hh : G.h = F.h) (hX : ∀ b, G.X b = F.X b) : G = F := by
  cases F; cases G; simp only at hw hh hX; subst hw; subst hh; congr 1; exact funext hX
theorem none_of {α : Type} {x y : Option α} (h : ∀ v, x = some v → y = some v) (hy : y = none) : x = none := by
  rcases opt_cases x with hx | ⟨v, hx⟩
  · exact hx
  · have := h v hx; rw [hy] at this; cases this
/-! maps -/
def lookD {KK α : Type} [DecidableEq KK] (l : List (KK × α)) (k : KK) (z : α) : α × Bool := match look? l k with
  | some x => (x, true)
  | none => (z, false)
theorem wp_lookup {KK α : Type} [KRep KK] [DecidableEq KK] [VRep α] {T KT E : TypeId} {mo ko : Operand} {ok : Bool} {b c : Nat} {es : Array MapEntry} {l : List (KK × α)} {k : KK} {zv : Value} (z0 : α) (kx : SA) (hk : Kn N e m t) (hop : o.op = .lookup T mo ko ok) (hd : o.dst = some d) (hlt : d < N)
    (h1 : evA m mo = some (.c (.map (some b)))) (h2 : evA m ko = some kx) (hT : P.underlying T = some (.map KT E)) (L : KL P KT KK) (hb : w.heap[b]? = some (.map es c)) (H : Ents h es.toList c l) (hkx : kx.den e = kv k)
    (hz : (P.info? E).bind (·.zero) = some zv) (hzr : rv h z0 zv)
    (hK : ∀ v, rv h (lookD l k z0).1 v → ∃ sv : SV, sv.den e = (if ok then .tuple #[v, .bool (lookD l k z0).2] else v) ∧ ∀ t', Kn N e (m.put d sv) t' → K ⟨t', dd⟩ w) : o.wp P ⟨t, dd⟩ w K Q := by
  have hz' : (zeroValue E).run P w = .ok zv w := by
    obtain ⟨i, hi, hzi⟩ := Option.bind_eq_some_iff.1 hz
    simp [zeroValue, typeInfo, hi, hzi]
  have key : ∀ v, (execOp (Act.mk t dd).eval o).run P w = .ok (.value v) w → (∃ sv : SV, sv.den e = v ∧ ∀ t', Kn N e (m.put d sv) t' → K ⟨t', dd⟩ w) → o.wp P ⟨t, dd⟩ w K Q := by
    intro v hrun ⟨sv, hsv, hk'⟩
    unfold Oper.wp
    simp only [hrun, Oper.upon]
    show K _ _
    rw [put_eq t dd hd, ← hsv]
    exact hk' _ (hk.put hlt sv)
  rcases run_lookOp (P := P) (dd := dd) kx hk hop h1 h2 hT L hb H hkx hz' with ⟨a1, a2⟩ | ⟨x, v, a1, a2, a3⟩
  · refine key _ a2 ?_
    have := hK zv (by simp only [lookD, a1]; exact hzr)
    simpa only [lookD, a1] using this
  · refine key _ a3 ?_
    have := hK v (by simp only [lookD, a1]; exact a2)
    simpa only [lookD, a1] using this
theorem wp_updateP {KK α : Type} [KRep KK] [DecidableEq KK] [VRep α] {T KT E : TypeId} {mo ko vo : Operand} {b c : Nat} {es : Array MapEntry} {l : List (KK × α)} {k : KK} {x : α} (kx vx : SA) (hk : Kn N e m t) (hm : Mem (Fr.put F b (some (.map es c))) h e pl rw w) (hop : o.op = .mapUpdate T mo ko vo) (hd : o.dst = none)
    (h1 : evA m mo = some (.c (.map (some b)))) (h2 : evA m ko = some kx) (h3 : evA m vo = some vx) (hT : P.underlying T = some (.map KT E)) (L : KL P KT KK)
    (H : Ents h es.toList c l) (hkx : kx.den e = kv k) (hx : rv h x (vx.den e))
    (hKK : ∀ es' c' w', Ents h es'.toList c' (put? l k x) → Kn N e m t → Mem (Fr.put F b (some (.map es' c'))) h e pl rw w' → K ⟨t, dd⟩ w') : o.wp P ⟨t, dd⟩ w K Q :=
  wp_update kx vx hk hm hop hd h1 h2 h3 hT L (Fr.put_X _ _ _) H hkx hx fun es' c' w' hE hm' => hKK es' c' w' hE hk (by rw [Fr.put_put] at hm'; exact hm')
theorem Mem.settleMapP {b : Nat} {es : Array MapEntry} {c : Nat} (hm : Mem (Fr.put F b (some (.map es c))) h e pl rw w) :
    ∃ h', Heap.le h h' ∧ h' b 0 = some (encMap es c) ∧ Mem (Fr.put F b none) h' e pl rw w := by
  obtain ⟨h', h1, h2, h3⟩ := hm.settleMap (Fr.put_X _ _ _)
  rw [Fr.put_put] at h3
  exact ⟨h', h1, h2, h3⟩
/-! arrays -/
def rng (n : Nat) (i : Int) : Option Unit := if 0 ≤ i ∧ i < n then some () else none
theorem rng_some {n : Nat} {i : Int} {u : Unit} (h : rng n i = some u) : 0 ≤ i ∧ i < n := by
  unfold rng at h
  split at h
  · assumption
  · cases h
theorem run_indexA {T E : TypeId} {s x : Operand} {n sz j off : Nat} {i : Int} {k : IntKind} {oi : Oper} {d : List Deferred} (hk : Kn N e m t) (hop : oi.op = .indexAddr T s x) (hT : P.underlying T = some (.array n E)) (hsz : tySz P E = some sz)
    (hs : evA m s = some (.c (.ptr j off))) (hx : evA m x = some (.c (.int k i))) (h0 : 0 ≤ i) (hn : i < n) :
    (execOp (Act.mk t d).eval oi).run P w = .ok (.value (SV.den e (.one (.c (.ptr j (off + i.toNat * sz)))))) w := by
  have q1 := evA_sound (d := d) hk hs
  have q2 := evA_sound (d := d) hk hx
  simp only [SA.den, SC.den] at q1 q2
  unfold execOp
  simp only [hop, q1, q2]
  have : (Instr.indexAt T (.pointer (some ⟨(e.blk j).1, (e.blk j).2 + off, none⟩)) (.int k i)).run P w = .ok (.pointer (some ⟨(e.blk j).1, (e.blk j).2 + (off + i.toNat * sz), none⟩)) w := by
    unfold Instr.indexAt
    simp only [asIntOf, Instr.sureAddr, Sem.run_bind, Sem.run_pure, Result.andThen_ok, run_underlying hT]
    rw [if_pos ⟨h0, hn⟩]
    simp only [Sem.run_bind, run_sizeOf' w hsz, Result.andThen_ok, Sem.run_pure]
    rw [add_eq _ _ rfl]
    simp only [Nat.add_assoc]
  simp only [Sem.run_bind, this, Result.andThen_ok, Sem.run_pure, SV.den, SA.den, SC.den]
/-- What lies at a place from some cell on. -/
theorem run_loadAt1 {T : TypeId} {x : Operand} {j O : Nat} {p : Plc} {c : SC} {oi : Oper} {d : List Deferred} (hk : Kn N e m t) (hS : PlOk e pl w) (hop : oi.op = .load T x) (hx : evA m x = some (.c (.ptr j O))) (hj : pl[j]? = some p) (hT : tyAgg P T = some false) (hc : (p.cells.drop O).take 1 = [c]) :
    (execOp (Act.mk t d).eval oi).run P w = .ok (.value (SV.den e (.one (.c c)))) w := by
  have hget : p.cells[O]? = some c := by
    have := congrArg (·[0]?) hc
    simpa [List.getElem?_take, List.getElem?_drop] using this
  have := hS j p hj O c hget
  have q1 := evA_sound (d := d) hk hx
  simp only [SA.den, SC.den] at q1
  unfold execOp
  simp only [hop, q1, Instr.loadAt, Instr.sureAddr, SV.den, SA.den, Sem.run_bind, Sem.run_pure, Result.andThen_ok, loadVar, run_isAgg' w hT, Bool.false_eq_true, if_false, run_load, this]
theorem run_loadAtN {T : TypeId} {x : Operand} {j O n : Nat} {p : Plc} {cs : List SC} {oi : Oper} {d : List Deferred} (hk : Kn N e m t) (hS : PlOk e pl w) (hop : oi.op = .load T x) (hx : evA m x = some (.c (.ptr j O))) (hj : pl[j]? = some p) (hT : tyAgg P T = some true) (hn : tySz P T = some n) (hc : (p.cells.drop O).take n = cs) (hl : cs.length = n) :
    (execOp (Act.mk t d).eval oi).run P w = .ok (.value (SV.den e (.one (.agg cs)))) w := by
  have hcell := hS j p hj
  have q1 := evA_sound (d := d) hk hx
  simp only [SA.den, SC.den] at q1
  have hld : (loadCells ⟨(e.blk j).1, (e.blk j).2 + O, none⟩ n).run P w = .ok (cs.map (SC.den e)).toArray w := by
    have := run_loadCells_list (P := P) w ⟨(e.blk j).1, (e.blk j).2 + O, none⟩ (cs.map (SC.den e)) (fun q v hq => by
      rw [List.getElem?_map] at hq
      obtain ⟨c, hc', rfl⟩ := Option.map_eq_some_iff.1 hq
      rw [← hc, List.getElem?_take] at hc'
      split at hc'
      · rw [List.getElem?_drop] at hc'
        have := hcell (O + q) c hc'
        unfold Addr.add
        split
        · subst_vars; simpa using this
        · simpa [Nat.add_assoc] using this
      · simp at hc')
    rw [List.length_map, hl] at this
    exact this
  unfold execOp
  simp only [hop, q1, Instr.loadAt, Instr.sureAddr, SV.den, SA.den, Sem.run_bind, Sem.run_pure, Result.andThen_ok, loadVar, run_isAgg' w hT, if_true, run_sizeOf' w hn, hld]
/-- Of some places nothing is said any more. -/
def forgetP : List Nat → List Plc → List Plc
  | [], pl => pl
  | i :: is, pl => forgetP is (match pl[i]? with | some p => pl.set i ⟨[], p.own⟩ | none => pl)
theorem PlOk.forget : ∀ (is : List Nat) {pl : List Plc}, PlOk e pl w → PlOk e (forgetP is pl) w
  | [], _, h => h
  | i :: is, pl, h => by
    unfold forgetP
    refine PlOk.forget is ?_
    split
    · rename_i p hp
      intro j q hq k c hc
      by_cases hji : j = i
      · subst hji
        rw [List.getElem?_set_self (List.getElem?_eq_some_iff.1 hp).1] at hq
        cases hq
        simp at hc
      · rw [List.getElem?_set_ne (Ne.symm hji)] at hq
        exact h j q hq k c hc
    · exact h
/-- A load of a drawn region whose value is shown by hand. -/
theorem D_oneP {ops : Array Oper} {X : List Nat} {m' : TM} {d : List Deferred} {done : List Nat} (i : Nat) {oi : Oper} {dd : Nat} (v : SV) (hQ : Deaf Q)
    (hi : ops[i]? = some oi) (hs : Region.noSelect ops = true) (hf : firstB ops X done i = true) (hmf : memFree oi = false) (hg : Region.wanted oi (yielded ops t) = true) (hdst : oi.dst = some dd) (hS : PlOk e pl w)
    (hv : ∀ w, PlOk e pl w → (execOp (Act.mk t d).eval oi).run P w = .ok (.value (v.den e)) w)
    (hk' : Kn N e m' (t.setIfInBounds dd (v.den e)))
    (H : ∀ t', Kn N e m' t' → wpD P ops X Q e pl (i :: done) ⟨t', d⟩ w) : wpD P ops X Q e pl done ⟨t, d⟩ w := by
  refine wpD_take hi hs hf (v := v.den e) ?_ hS (.inl ⟨hg, fun w hw => hv w hw⟩) (fun hm => by rw [hmf] at hm; cases hm) ?_
  · intro c a w hq
    rw [hdst] at hq
    exact hQ c _ _ _ _ hq
  · have := H _ hk'
    rw [hdst]
    exact this
/-- One element of an array is written. -/
theorem arr_set {α β : Type} (g : α → List β) (sz : Nat) (hg : ∀ x, (g x).length = sz) (pre post : List β) (la lb : List α) (k : Nat) (v : α) (hb : lb = la.set k v) (hk : k < la.length) {A A' : List β} (hA : A = pre ++ la.flatMap g ++ post) (hA' : A' = pre ++ lb.flatMap g ++ post) {O : Nat} (hO : O = pre.length + k * sz) :
    A.take O ++ g v ++ A.drop (O + sz) = A' := by
  subst hA; subst hA'; subst hb; subst hO
  have key : ∀ (la : List α) (k : Nat), k < la.length → (la.set k v).flatMap g = (la.flatMap g).take (k * sz) ++ g v ++ (la.flatMap g).drop (k * sz + sz) := by
    intro la
    induction la with
    | nil => intro k hk; simp at hk
    | cons a r ih =>
      intro k hk
      cases k with
      | zero => simp [List.drop_append, hg]
      | succ k =>
        have h1 : (k + 1) * sz = (g a).length + k * sz := by rw [hg, Nat.succ_mul]; omega
        simp only [List.set_cons_succ, List.flatMap_cons, ih k (by simpa using hk), h1]
        rw [List.take_length_add_append, show (g a).length + k * sz + sz = (g a).length + (k * sz + sz) by omega, List.drop_length_add_append]
        simp
  have hlen : ∀ la : List α, (la.flatMap g).length = la.length * sz := by
    intro la
    induction la with
    | nil => simp
    | cons a r ih => rw [List.flatMap_cons, List.length_append, hg, ih, List.length_cons, Nat.succ_mul]; omega
  have h2 : k * sz + sz ≤ (la.flatMap g).length := by
    rw [hlen]
    calc k * sz + sz = (k + 1) * sz := (Nat.succ_mul k sz).symm
      _ ≤ la.length * sz := Nat.mul_le_mul_right sz hk
  rw [key la k hk]
  rw [List.append_assoc pre, List.take_length_add_append, show pre.length + k * sz + sz = pre.length + (k * sz + sz) by omega, List.drop_length_add_append]
  rw [List.take_append_of_le_length (by omega), List.drop_append_of_le_length h2]
  simp
/-- One element of an array is read. -/
theorem arr_get {α β : Type} (g : α → List β) (sz : Nat) (hg : ∀ x, (g x).length = sz) (pre post : List β) (la : List α) (k : Nat) (v : α) (hk : la[k]? = some v) {A : List β} (hA : A = pre ++ la.flatMap g ++ post) {O : Nat} (hO : O = pre.length + k * sz) :
    (A.drop O).take sz = g v := by
  subst hA; subst hO
  have hlt := (List.getElem?_eq_some_iff.1 hk).1
  have hlen : ∀ la : List α, (la.flatMap g).length = la.length * sz := by
    intro la
    induction la with
    | nil => simp
    | cons a r ih => rw [List.flatMap_cons, List.length_append, hg, ih, List.length_cons, Nat.succ_mul]; omega
  have key : ∀ (la : List α) (k : Nat), la[k]? = some v → ((la.flatMap g).drop (k * sz)).take sz = g v := by
    intro la
    induction la with
    | nil => intro k hk; simp at hk
    | cons a r ih =>
      intro k hk
      cases k with
      | zero =>
        simp at hk
        subst hk
        rw [Nat.zero_mul, List.drop_zero, List.flatMap_cons, ← hg a, List.take_left]
      | succ k =>
        have h1 : (k + 1) * sz = (g a).length + k * sz := by rw [hg, Nat.succ_mul]; omega
        rw [List.flatMap_cons, h1, List.drop_length_add_append]
        exact ih k (by simpa using hk)
  have h2 : k * sz + sz ≤ (la.flatMap g).length := by
    rw [hlen]
    calc k * sz + sz = (k + 1) * sz := (Nat.succ_mul k sz).symm
      _ ≤ la.length * sz := Nat.mul_le_mul_right sz hlt
  rw [List.append_assoc pre, List.drop_length_add_append, List.drop_append_of_le_length (by omega), List.take_append_of_le_length (by rw [List.length_drop]; omega)]
  exact key la k hk
/-- What a state says, in a world: an iterator's caller. -/
structure JOk {σ : Type} (J : σ → Heap → World → Prop) : Prop where
  has : ∀ s h w, J s h w → Has h w
  grow : ∀ s h h' w w', J s h w → Below w.heap.size w w' → Heap.le h h' → (∀ b o x, h' b o = some x → h b o = some x ∨ (w.heap.size ≤ b ∧ b < w'.heap.size ∧ look w' b o = some x)) → J s h' w'
theorem Mem.new (hm : Mem F h e pl rw w) : ∀ b o x, h b o = some x → F.h b o = some x ∨ (F.w.heap.size ≤ b ∧ b < w.heap.size ∧ look w b o = some x) := fun b o x hx => by
  obtain ⟨ow, m⟩ := hm
  rcases m.old b o x hx with h1 | h1
  · exact .inl h1
  · exact .inr ⟨h1, m.has b o x hx⟩
theorem Mem.le (hm : Mem F h e pl rw w) : Heap.le F.h h := let ⟨_, m⟩ := hm; m.le
theorem Mem.J {σ : Type} {J : σ → Heap → World → Prop} {s : σ} (hJ : JOk J) (hm : Mem F h e pl rw w) (hj : J s F.h F.w) : J s h w := hJ.grow s _ _ _ _ hj hm.below hm.le hm.new
/-- What has settled stays, in a world that another has made. -/
theorem Mem.rebase {h' : Heap} {w' : World} (hm : Mem F h e pl rw w) (hle : Heap.le h h') (hh : Has h' w') (hp : (pl.all fun (p : Plc) => p.own.isNone) = true) : Mem ⟨w', h', noX⟩ h' e pl [] w' := by
  obtain ⟨ow, m⟩ := hm
  refine ⟨fun _ => none, Below.refl _ _, Heap.le_refl _, fun _ _ _ hx => .inl hx, hh, (by simp), (by simp), ?_, (by simp), (by simp [noX])⟩
  intro i p hpi
  have := m.pls i p hpi
  have ho := List.all_eq_true.1 hp p (List.mem_of_getElem? hpi)
  unfold PlcOk at this ⊢
  split at this
  · rename_i hT; rw [hT] at ho; cases ho
  · exact fun j c hj => hle _ _ _ (this j c hj)
end
end Go.Proofs.Ytokchpjijlebiaa
