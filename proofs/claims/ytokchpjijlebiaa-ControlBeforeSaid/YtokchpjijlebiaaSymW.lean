/- Code that is walked once, and serves in a call's frame and in a round's. The statement 'for .. := range f'. -/
import Derived.Test.YtokchpjijlebiaaSymV
set_option linter.all false
namespace Go.Proofs.Ytokchpjijlebiaa
open Go Go.RowKit
open Rep (rep)
open KRep (kv)
open VRep (rv)
open Go.ChangeMaps (setBlock)
section
variable {P : Program} {Q : Exit → Act → World → Prop} {a : Act} {w : World} {N : Nat} {F : Fr} {h : Heap} {e : Env} {pl : List Plc} {rw : List Row} {m : TM} {t : Array Value} {d : List Deferred} {ops : Array Oper}
theorem wpIn_loop_n {F : Fence} {n0 : Nat} {c : Code} (I : Nat → Act → World → Prop) (n : Nat) (h0 : I n a w)
    (round : ∀ n a w, I n a w → c.wpIn F n0 P (Exit.then (fun a' w' => ∃ m, m < n ∧ I m a' w') Q) a w) : (Code.loop c).wpIn F n0 P Q a w := by
  intro b k cs hro hb hr
  have key : ∀ n a w, I n a w →
      ∃ e a' w', Q e a' w' ∧ ArrivesIn (Machine.fenced P F) P (lone (b.atR a (.code c :: .inLoop c :: k)) cs w) b k cs e a' w' := by
    intro n
    induction n using Nat.strongRecOn with
    | _ n ih =>
      intro a w hI
      obtain ⟨e, a₁, w₁, hq, harr⟩ := round n a w hI b (.inLoop c :: k) cs hro hb hr
      cases e with
      | normal =>
        obtain ⟨m, hlt, hI₁⟩ := hq
        obtain ⟨e₂, a₂, w₂, hq₂, harr₂⟩ := ih m hlt a₁ w₁ hI₁
        exact ⟨e₂, a₂, w₂, hq₂, .of_steps (StepsIn.trans harr (.one (fenced_calm hb hr rfl) stepR_inLoop)) harr₂⟩
      | exit id => exact ⟨_, a₁, w₁, hq, .pass (x := .inLoop c) rfl (fun _ _ => .inl (by simp)) harr⟩
      | goto l => exact ⟨_, a₁, w₁, hq, .pass (x := .inLoop c) rfl (fun _ _ => .inl (by simp)) harr⟩
      | ret => exact ⟨_, a₁, w₁, hq, .pass (x := .inLoop c) rfl (fun _ _ => .inl (by simp)) harr⟩
      | panic ch => exact ⟨_, a₁, w₁, hq, .pass (x := .inLoop c) rfl (fun _ _ => .inl (by simp)) harr⟩
      | outgrown => exact ⟨_, a₁, w₁, hq, .pass (x := .inLoop c) rfl (fun _ _ => .inl (by simp)) harr⟩
  obtain ⟨e, a', w', hq, harr⟩ := key n a w h0
  exact ⟨e, a', w', hq, .of_steps (.one (fenced_calm hb hr rfl) stepR_loop) harr⟩
/-- A code's walk that serves in a call's frame and in a round's. -/
structure ws (P : Program) (c : Code) (Q : Exit → Act → World → Prop) (a : Act) (w : World) : Prop where
  wp : c.wp P Q a w
  rd : ¬ LetsOut Q → ∀ l, c.wpIn (inR l) 0 P Q a w
theorem ws_monoQ {c : Code} {Q' : Exit → Act → World → Prop} (h : ws P c Q a w) (hq : ∀ e a w, Q e a w → Q' e a w) : ws P c Q' a w :=
  ⟨wp_mono h.wp hq, fun hl l => wpIn_mono (h.rd (fun ⟨a, w, h1⟩ => hl ⟨a, w, hq _ _ _ h1⟩) l) hq⟩
theorem ws_skip (h : Q .normal a w) : ws P .skip Q a w := ⟨wp_skip h, fun _ _ => wpIn_skip h⟩
theorem ws_label {l : Nat} (h : Q .normal a w) : ws P (.label l) Q a w := ⟨wp_label h, fun _ _ => wpIn_label h⟩
theorem ws_exit {id : Nat} (h : Q (.exit id) a w) : ws P (.exit id) Q a w := ⟨wp_exit h, fun _ _ => wpIn_exit h⟩
theorem ws_ret (h : Q .ret a w) : ws P .ret Q a w := ⟨wp_ret h, fun _ _ => wpIn_ret h⟩
theorem ws_seq {x y : Code} (h : ws P x (Exit.then (ws P y Q) Q) a w) : ws P (.seq x y) Q a w :=
  ⟨wp_seq (wp_mono h.wp fun e a w hq => by cases e <;> first | exact ws.wp hq | exact hq),
   fun hl l => wpIn_seq (wpIn_mono (h.rd (fun ⟨a, w, h1⟩ => hl ⟨a, w, h1⟩) l) fun e a w hq => by cases e <;> first | exact ws.rd hq hl l | exact hq)⟩
theorem ws_block {id : Nat} {c : Code} (h : ws P c (Exit.inBlock id Q) a w) : ws P (.block id c) Q a w :=
  ⟨wp_block h.wp, fun hl l => wpIn_block (h.rd (fun ⟨a, w, h1⟩ => hl ⟨a, w, h1⟩) l)⟩
theorem ws_loop_n {c : Code} (I : Nat → Act → World → Prop) (n : Nat) (h0 : I n a w)
    (round : ∀ n a w, I n a w → ws P c (Exit.then (fun a' w' => ∃ m, m < n ∧ I m a' w') Q) a w) : ws P (.loop c) Q a w :=
  ⟨wp_loop_n I n h0 fun n a w hI => (round n a w hI).wp, fun hl l => wpIn_loop_n I n h0 fun n a w hI => (round n a w hI).rd (fun ⟨a, w, h1⟩ => hl ⟨a, w, h1⟩) l⟩
theorem ws_mid' {c : Code} (M : Act → World → Prop) (h1 : ws P c (Exit.then M Q) a w) (h2 : ∀ a w, M a w → Q .normal a w) : ws P c Q a w :=
  ws_monoQ h1 fun e a w hq => by cases e <;> first | exact h2 _ _ hq | exact hq
theorem ws_cond_sv {c : Operand} {x y : Code} (b : Bool) (hk : Kn N e m t) (hc : evA m c = some (.c (.bool b)))
    (h1 : b = true → ws P x Q ⟨t, d⟩ w) (h2 : b = false → ws P y Q ⟨t, d⟩ w) : ws P (.cond c x y) Q ⟨t, d⟩ w :=
  ⟨wp_cond_split (evA_sound hk hc) (fun h => (h1 h).wp) (fun h => (h2 h).wp), fun hl l => wpIn_cond_split (evA_sound hk hc) (fun h => (h1 h).rd hl l) (fun h => (h2 h).rd hl l)⟩
theorem ws_region_from {id : Nat} (hd : noDefer ops = true) (h : wpFrom P ops Q 0 a w) : ws P (.region id ops false) Q a w := ⟨wp_region_from h, fun hl _ => wpR_region hl hd h⟩
theorem ws_region_G {id : Nat} (hd : noDefer ops = true) (hm : P.follows .mixedOrders = true) (h : wpG P ops Q [] a w.drew) : ws P (.region id ops true) Q a w := ⟨wp_region_G hm h, fun hl _ => wpR_region_G hl hd hm h⟩
/-- a loop's record at a statement's beginning -/
structure RoundOf (r : Loop) (t : Array Value) (ps : Array Tmp) (assign body : Code) : Prop where
  state : r.state = .ready
  pending : r.pending = none
  tmps : r.tmps = t
  params : r.params = ps
  assign : r.assign = assign
  body : r.body = body
theorem RoundOf.eq {r : Loop} {ps : Array Tmp} {assign body : Code} (h : RoundOf r t ps assign body) : { r with state := .ready, pending := none } = r := by
  have h1 := h.state
  have h2 := h.pending
  cases r
  simp only at h1 h2
  subst h1; subst h2
  rfl
/-- A round of one value. -/
theorem yields1 {l : Nat} {r : Loop} {p0 : Tmp} {assign body : Code} {v0 : Value} {R : Bool → World → Prop} (hr : RoundOf r t #[p0] assign body) (hl : w.heap[l]? = some (.loop r))
    (H : ws P assign (Exit.then (fun a w => w.heap[l]? = some (.loop r) ∧ ws P body (roundEnd l r R) a (w.putObj l (.loop { r with state := .busy }))) (fun _ _ _ => False)) ⟨t.setIfInBounds p0 v0, []⟩ w) : Yields P l #[v0] w R := by
  obtain ⟨h1, h2, h3, h4, h5, h6⟩ := hr
  subst h3; subst h5; subst h6
  refine yields_of hl (by rw [h4]; rfl) ?_
  have hz : (r.params.zip #[v0]).foldl (fun tmps (t, a) => tmps.setIfInBounds t a) r.tmps = r.tmps.setIfInBounds p0 v0 := by rw [h4]; simp
  rw [hz]
  refine wpIn_mono (H.rd (fun ⟨_, _, h⟩ => h) l) fun e a w hq => ?_
  cases e with
  | normal => exact ⟨hq.1, h1, hq.2.rd (fun ⟨_, _, h⟩ => h) l⟩
  | _ => exact hq
/-- A round of two values. -/
theorem yields2 {l : Nat} {r : Loop} {p0 p1 : Tmp} {assign body : Code} {v0 v1 : Value} {R : Bool → World → Prop} (hr : RoundOf r t #[p0, p1] assign body) (hl : w.heap[l]? = some (.loop r))
    (H : ws P assign (Exit.then (fun a w => w.heap[l]? = some (.loop r) ∧ ws P body (roundEnd l r R) a (w.putObj l (.loop { r with state := .busy }))) (fun _ _ _ => False)) ⟨(t.setIfInBounds p0 v0).setIfInBounds p1 v1, []⟩ w) : Yields P l #[v0, v1] w R := by
  obtain ⟨h1, h2, h3, h4, h5, h6⟩ := hr
  subst h3; subst h5; subst h6
  refine yields_of hl (by rw [h4]; rfl) ?_
  have hz : (r.params.zip #[v0, v1]).foldl (fun tmps (t, a) => tmps.setIfInBounds t a) r.tmps = (r.tmps.setIfInBounds p0 v0).setIfInBounds p1 v1 := by rw [h4]; simp
  rw [hz]
  refine wpIn_mono (H.rd (fun ⟨_, _, h⟩ => h) l) fun e a w hq => ?_
  cases e with
  | normal => exact ⟨hq.1, h1, hq.2.rd (fun ⟨_, _, h⟩ => h) l⟩
  | _ => exact hq
/-- The marks of a call, all laid. -/
structure Marks (F : Fr) (bs : List Nat) : Prop where
  nd : bs.Nodup
  X : ∀ b ∈ bs, F.X b = some (.deferred (some []))
theorem Marks.nil (F : Fr) : Marks F [] := ⟨List.nodup_nil, by simp⟩
/-- A frame of the same call. -/
structure Fr.Of (w0 : World) (h0 : Heap) (F : Fr) : Prop where
  w : F.w = w0
  h : F.h = h0
/-- A frame in which a loop's record lies. -/
structure LoopFr (w0 : World) (h0 : Heap) (F : Fr) (l : Nat) (r : Loop) (bs : List Nat) : Prop where
  of : Fr.Of w0 h0 F
  loop : F.X l = some (.loop r)
  marks : Marks F bs
theorem Marks.put {ks : List Nat} {b : Nat} {x : Option Obj} (H : Marks F ks) (hX : F.X b ≠ some (.deferred (some []))) : Marks (F.put b x) ks :=
  ⟨H.nd, fun k hk => by
    have h1 := H.X k hk
    have hne : k ≠ b := fun hkb => hX (by rw [← hkb]; exact h1)
    rw [Fr.put_ne _ _ hne]
    exact h1⟩
theorem Mem.X_new (hm : Mem F h e pl rw w) {b : Nat} (hb : w.heap.size ≤ b) : F.X b = none := by
  rcases opt_cases (F.X b) with hx | ⟨x, hx⟩
  · exact hx
  · have := hm.extLt hx; omega
/-- The statement begins. -/
theorem Mem.loopBegin {bs : List Nat} {w0 : World} {h0 : Heap} (hm : Mem F h e pl rw w) (hk : Marks F bs) (ho : Fr.Of w0 h0 F) (r : Loop) :
    ∃ F' : Fr, LoopFr w0 h0 F' (w.heap.size + 1) r (w.heap.size :: bs) ∧ (∀ b o, F.X b = some o → F'.X b = some o) ∧ Mem F' h e pl rw (loopWorld w r) := by
  have h1 : F.X w.heap.size = none := hm.X_new (Nat.le_refl _)
  have h2 : F.X (w.heap.size + 1) = none := hm.X_new (by omega)
  refine ⟨(F.put w.heap.size (some (.deferred (some [])))).put (w.heap.size + 1) (some (.loop r)), ⟨⟨ho.w, ho.h⟩, Fr.put_X _ _ _, ?_⟩, fun b o hb => ?_, loopWorld_mem r hm⟩
  · refine ⟨List.nodup_cons.2 ⟨fun hb => ?_, hk.nd⟩, fun b hb => ?_⟩
    · have := hk.X _ hb
      rw [h1] at this
      cases this
    · rcases List.mem_cons.1 hb with rfl | hb
      · rw [Fr.put_ne _ _ (by omega)]; exact Fr.put_X _ _ _
      · have h3 := hk.X _ hb
        have e1 : b ≠ w.heap.size := fun hbe => by rw [hbe, h1] at h3; cases h3
        have e2 : b ≠ w.heap.size + 1 := fun hbe => by rw [hbe, h2] at h3; cases h3
        rw [Fr.put_ne _ _ e2, Fr.put_ne _ _ e1]
        exact h3
  · have e1 : b ≠ w.heap.size := fun hbe => by rw [hbe, h1] at hb; cases hb
    have e2 : b ≠ w.heap.size + 1 := fun hbe => by rw [hbe, h2] at hb; cases hb
    rw [Fr.put_ne _ _ e2, Fr.put_ne _ _ e1]
    exact hb
/-- The record changes. -/
theorem Mem.loopStep {l : Nat} {r : Loop} {bs : List Nat} {w0 : World} {h0 : Heap} (hm : Mem F h e pl rw w) (hl : LoopFr w0 h0 F l r bs) (r' : Loop) :
    ∃ F' : Fr, LoopFr w0 h0 F' l r' bs ∧ (∀ b es c, F.X b = some (.map es c) → F'.X b = some (.map es c)) ∧ Mem F' h e pl rw (w.putObj l (.loop r')) := by
  refine ⟨F.put l (some (.loop r')), ⟨⟨hl.of.w, hl.of.h⟩, Fr.put_X _ _ _, hl.marks.put (by rw [hl.loop]; simp)⟩, fun b es c hb => ?_, hm.putLoop hl.loop rfl⟩
  have hne : b ≠ l := fun hbe => by rw [hbe, hl.loop] at hb; cases hb
  rw [Fr.put_ne _ _ hne]
  exact hb
theorem LoopFr.put {l b : Nat} {r : Loop} {bs : List Nat} {w0 : World} {h0 : Heap} {es : Array MapEntry} {c : Nat} {x : Option Obj} (hl : LoopFr w0 h0 F l r bs) (hX : F.X b = none ∨ F.X b = some (.map es c)) : LoopFr w0 h0 (F.put b x) l r bs := by
  refine ⟨⟨hl.of.w, hl.of.h⟩, ?_, hl.marks.put (by rcases hX with hX | hX <;> rw [hX] <;> simp)⟩
  have hne : l ≠ b := fun hbe => by
    have := hl.loop
    rw [hbe] at this
    rcases hX with hX | hX <;> rw [hX] at this <;> cases this
  rw [Fr.put_ne _ _ hne]
  exact hl.loop
/-- The statement. -/
theorem wp_rangeJ {g : Operand} {ps : Array Tmp} {assign body : Code} {f : FuncId} {first cap : Array Value} {d : List Deferred} (sv : SC) (hk : Kn N e m t) (hg : evA m g = some (.c sv)) (hsv : sv.den e = .func (.func f) first cap) (hent : ∀ as w, (callFunc f as).run P w = .ok (.enter f as) w)
    (H : ∀ r : Loop, RoundOf r t ps assign body → ∃ S : World → Prop, Calls P f (first ++ #[.func (.yield (w.heap.size + 1)) #[] #[]] ++ cap) (loopWorld w r) (fun en w' => en = .returned (.tuple #[]) ∧ S w') ∧
      ∀ w', S w' → w'.heap[w.heap.size + 1]? = some (.loop r) ∧ Q .normal ⟨t, mark w.heap.size :: d⟩ (w'.putObj (w.heap.size + 1) (.loop { r with state := .exhausted }))) :
    (Code.rangeFunc g ps assign body).wp P Q ⟨t, d⟩ w := by
  have hge := evA_sound (d := d) hk hg
  simp only [SA.den, hsv] at hge
  refine wp_range hge hent fun fn => ?_
  obtain ⟨S, h1, h2⟩ := H ⟨.ready, none, fn, t, ps, assign, body, w.heap.size⟩ ⟨rfl, rfl, rfl, rfl, rfl, rfl⟩
  refine h1.mono ?_
  rintro en w' ⟨rfl, hs⟩
  obtain ⟨h3, h4⟩ := h2 w' hs
  exact ⟨rfl, _, h3, by simp, rfl, h4⟩
/-- The end of a call with marks. -/
theorem retMk_ok {fn : Func} {R : Heap → Value → Prop} {bs : List Nat} {w0 : World} {h0 : Heap} (sv : SV) (hk : Kn N e m t) (hm : Mem F h e pl rw w) (hb : Marks F bs) (ho : Fr.Of w0 h0 F) (hr : resS P m pl fn.results.toList = some sv) (hR : R h (sv.den e)) :
    bodyPostM Fence.wide 0 P fn (Ret R h0 w0) .ret ⟨t, bs.map mark⟩ w := by
  have := retM_ok sv bs hk hm hb.nd hb.X hr hR
  rw [ho.w, ho.h] at this
  exact this
end
end Go.Proofs.Ytokchpjijlebiaa
