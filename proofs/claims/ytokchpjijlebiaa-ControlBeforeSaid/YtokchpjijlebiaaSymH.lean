/- What memory holds of data: integers, bools, strings, structs, slices. -/
import Derived.Test.YtokchpjijlebiaaSymG
set_option linter.all false
namespace Go.Proofs.Ytokchpjijlebiaa
open Go Go.RowKit

class Rep (α : Type) where
  sz : Nat
  rep : Heap → α → List Value → Prop
  mono : ∀ {h h' : Heap} {x : α} {cs : List Value}, Heap.le h h' → rep h x cs → rep h' x cs
  len : ∀ {h : Heap} {x : α} {cs : List Value}, rep h x cs → cs.length = sz
  one : ∀ {h : Heap} {x : α} {cs : List Value}, rep h x cs → ∀ v ∈ cs, v.oneCell' = true
open Rep (rep)

/-- an integer of a kind that is not int -/
structure IK (k : IntKind) where
  n : Int
deriving DecidableEq, Inhabited

instance : Rep Int := ⟨1, fun _ x cs => cs = [.int .i64 x], fun _ h => h, fun h => by subst h; rfl, fun h v hv => by subst h; simp at hv; subst hv; rfl⟩
instance (k : IntKind) : Rep (IK k) := ⟨1, fun _ x cs => cs = [.int k x.n], fun _ h => h, fun h => by subst h; rfl, fun h v hv => by subst h; simp at hv; subst hv; rfl⟩
instance : Rep Bool := ⟨1, fun _ x cs => cs = [.bool x], fun _ h => h, fun h => by subst h; rfl, fun h v hv => by subst h; simp at hv; subst hv; rfl⟩
instance : Rep ByteArray := ⟨1, fun _ x cs => cs = [.string x], fun _ h => h, fun h => by subst h; rfl, fun h v hv => by subst h; simp at hv; subst hv; rfl⟩
instance {α β : Type} [Rep α] [Rep β] : Rep (α × β) :=
  ⟨Rep.sz α + Rep.sz β, fun h x cs => ∃ c1 c2, cs = c1 ++ c2 ∧ rep h x.1 c1 ∧ rep h x.2 c2,
   fun hle ⟨c1, c2, e, h1, h2⟩ => ⟨c1, c2, e, Rep.mono hle h1, Rep.mono hle h2⟩,
   fun ⟨c1, c2, e, h1, h2⟩ => by subst e; rw [List.length_append, Rep.len h1, Rep.len h2],
   fun ⟨c1, c2, e, h1, h2⟩ v hv => by subst e; exact (List.mem_append.1 hv).elim (fun hv => Rep.one h1 v hv) (fun hv => Rep.one h2 v hv)⟩
/-- a struct, by its fields -/
@[reducible] def Rep.via {α β : Type} [Rep β] (f : α → β) : Rep α :=
  ⟨Rep.sz β, fun h x cs => rep h (f x) cs, fun hle h => Rep.mono hle h, fun h => Rep.len h, fun h => Rep.one h⟩

/-- The cells of a list, one element behind the other. -/
def Cells {α : Type} [Rep α] (h : Heap) : List α → List Value → Prop
  | [], vs => vs = []
  | x :: r, vs => ∃ c1 c2, vs = c1 ++ c2 ∧ rep h x c1 ∧ Cells h r c2
section
variable {α : Type} [Rep α] {h h' : Heap}
theorem Cells.mono (hle : Heap.le h h') : ∀ {xs : List α} {vs : List Value}, Cells h xs vs → Cells h' xs vs
  | [], _, hc => hc
  | _ :: _, _, ⟨c1, c2, e, h1, h2⟩ => ⟨c1, c2, e, Rep.mono hle h1, Cells.mono hle h2⟩
theorem Cells.len : ∀ {xs : List α} {vs : List Value}, Cells h xs vs → vs.length = xs.length * Rep.sz α
  | [], _, hc => by rw [show _ = [] from hc]; simp
  | _ :: r, _, ⟨c1, c2, e, h1, h2⟩ => by subst e; rw [List.length_append, Rep.len h1, Cells.len h2, List.length_cons, Nat.add_mul]; omega
theorem Cells.one : ∀ {xs : List α} {vs : List Value}, Cells h xs vs → ∀ v ∈ vs, v.oneCell' = true
  | [], _, hc, v, hv => by rw [show _ = [] from hc] at hv; simp at hv
  | _ :: r, _, ⟨c1, c2, e, h1, h2⟩, v, hv => by subst e; exact (List.mem_append.1 hv).elim (fun hv => Rep.one h1 v hv) (fun hv => Cells.one h2 v hv)
theorem Cells.nil : Cells h ([] : List α) [] := rfl
theorem Cells.append : ∀ {xs : List α} {vs : List Value} {ys : List α} {us : List Value}, Cells h xs vs → Cells h ys us → Cells h (xs ++ ys) (vs ++ us)
  | [], _, _, _, hc, hy => by rw [show _ = [] from hc]; exact hy
  | x :: r, _, _, _, ⟨c1, c2, e, h1, h2⟩, hy => ⟨c1, _, by rw [e, List.append_assoc], h1, Cells.append h2 hy⟩
theorem Cells.single {x : α} {cs : List Value} (hx : rep h x cs) : Cells h [x] cs := ⟨cs, [], by simp, hx, rfl⟩
theorem Cells.get (hc : ∀ {xs : List α} {vs : List Value}, Cells h xs vs → True := fun _ => trivial) : ∀ {xs : List α} {vs : List Value}, Cells h xs vs → ∀ {k : Nat} {x : α}, xs[k]? = some x →
    ∃ cs, rep h x cs ∧ ∀ j c, cs[j]? = some c → vs[k * Rep.sz α + j]? = some c
  | [], _, _, k, x, hx => by simp at hx
  | y :: r, _, ⟨c1, c2, e, h1, h2⟩, 0, x, hx => by
    simp at hx; subst hx; subst e
    refine ⟨c1, h1, fun j c hj => ?_⟩
    rw [Nat.zero_mul, Nat.zero_add, List.getElem?_append_left]
    · exact hj
    · rcases Nat.lt_or_ge j c1.length with h' | h'
      · exact h'
      · rw [List.getElem?_eq_none h'] at hj; cases hj
  | y :: r, _, ⟨c1, c2, e, h1, h2⟩, k + 1, x, hx => by
    subst e
    obtain ⟨cs, h3, h4⟩ := Cells.get hc h2 (k := k) (x := x) (by simpa using hx)
    refine ⟨cs, h3, fun j c hj => ?_⟩
    have hl := Rep.len h1
    rw [List.getElem?_append_right (by rw [hl, Nat.add_mul]; omega), hl]
    rw [show (k + 1) * Rep.sz α + j - Rep.sz α = k * Rep.sz α + j by rw [Nat.add_mul]; omega]
    exact h4 j c hj
theorem Cells.set : ∀ {xs : List α} {vs : List Value} {k : Nat} {y : α} {cs : List Value}, Cells h xs vs → k < xs.length → rep h y cs →
    Cells h (xs.set k y) (vs.take (k * Rep.sz α) ++ cs ++ vs.drop (k * Rep.sz α + cs.length))
  | [], _, k, _, _, _, hk, _ => by simp at hk
  | x :: r, _, 0, y, cs, ⟨c1, c2, e, h1, h2⟩, _, hy => by
    subst e
    have hl1 := Rep.len h1
    have hl := Rep.len hy
    refine ⟨cs, c2, ?_, hy, h2⟩
    simp only [Nat.zero_mul, Nat.zero_add, List.take_zero, List.nil_append]
    congr 1
    rw [hl, ← hl1, List.drop_left]
  | x :: r, _, k + 1, y, cs, ⟨c1, c2, e, h1, h2⟩, hk, hy => by
    subst e
    have hl := Rep.len h1
    refine ⟨c1, _, ?_, h1, Cells.set h2 (k := k) (by simpa using hk) hy⟩
    have h1 : (k + 1) * Rep.sz α = c1.length + k * Rep.sz α := by rw [hl, Nat.add_mul]; omega
    rw [h1, List.take_append, List.drop_append, Nat.add_assoc]
    rw [List.take_of_length_le (by omega), List.drop_of_length_le (l := c1) (by omega)]
    simp [List.append_assoc]
theorem Cells.replicate {x : α} {cs : List Value} (hx : rep h x cs) : ∀ n, Cells h (List.replicate n x) (List.replicate n cs).flatten
  | 0 => rfl
  | n + 1 => by rw [List.replicate_succ, List.replicate_succ, List.flatten_cons]; exact ⟨cs, _, rfl, hx, Cells.replicate hx n⟩

/-- A settled slice that reads as xs. -/
def RepS (h : Heap) (a : Option Addr) (c : Nat) (xs : List α) : Prop := ∃ vs, Cells h xs vs ∧ SliceIn h a vs ∧ xs.length ≤ c
theorem RepS.mono {a : Option Addr} {c : Nat} {xs : List α} (hle : Heap.le h h') : RepS h a c xs → RepS h' a c xs := fun ⟨vs, h1, h2, h3⟩ => ⟨vs, h1.mono hle, h2.mono hle, h3⟩
theorem RepS.nil : RepS h none 0 ([] : List α) := ⟨[], rfl, fun o x hx => by simp at hx, Nat.le_refl _⟩
theorem RepS.get {a : Option Addr} {c : Nat} {xs : List α} (hr : RepS h a c xs) (hpos : 0 < Rep.sz α) {k : Nat} {x : α} (hx : xs[k]? = some x) :
    ∃ b ofs cs, a = some ⟨b, ofs, none⟩ ∧ rep h x cs ∧ ∀ j c, cs[j]? = some c → h b (ofs + k * Rep.sz α + j) = some c := by
  obtain ⟨vs, h1, h2, _⟩ := hr
  obtain ⟨cs, h3, h4⟩ := Cells.get (fun _ => trivial) h1 hx
  have hl := Rep.len h3
  have h0 : cs[0]? = some (cs[0]'(by omega)) := List.getElem?_eq_getElem _
  obtain ⟨ad, e1, e2, _⟩ := h2 _ _ (h4 0 _ h0)
  refine ⟨ad.block, ad.off, cs, by rw [e1]; cases ad; simp at e2; subst e2; rfl, h3, fun j c hj => ?_⟩
  obtain ⟨ad', e3, _, e5⟩ := h2 _ _ (h4 j c hj)
  rw [e1] at e3; cases e3
  rw [Nat.add_assoc]
  exact e5
end
instance {α : Type} [Rep α] : Rep (List α) :=
  ⟨1, fun h xs cs => ∃ a c, cs = [.slice a xs.length c] ∧ RepS h a c xs, fun hle ⟨a, c, e, hr⟩ => ⟨a, c, e, hr.mono hle⟩, fun ⟨a, c, e, _⟩ => by subst e; rfl, fun ⟨a, c, e, _⟩ v hv => by subst e; simp at hv; subst hv; rfl⟩

theorem rep_int {h : Heap} {x : Int} : rep h x [.int .i64 x] := rfl
theorem rep_ik {h : Heap} {k : IntKind} {x : IK k} : rep h x [.int k x.n] := rfl
theorem rep_bool {h : Heap} {x : Bool} : rep h x [.bool x] := rfl
theorem rep_str {h : Heap} {x : ByteArray} : rep h x [.string x] := rfl
theorem rep_pair {α β : Type} [Rep α] [Rep β] {h : Heap} {x : α} {y : β} {c1 c2 : List Value} (h1 : rep h x c1) (h2 : rep h y c2) : rep h (x, y) (c1 ++ c2) := ⟨c1, c2, rfl, h1, h2⟩
theorem rep_slice {α : Type} [Rep α] {h : Heap} {a : Option Addr} {c : Nat} {xs : List α} (hr : RepS h a c xs) : rep h xs [.slice a xs.length c] := ⟨a, c, rfl, hr⟩
/-- a struct value -/
def RepA {α : Type} [Rep α] (h : Heap) (x : α) (v : Value) : Prop := ∃ cs, v = .agg cs.toArray ∧ rep h x cs
/-- a value of one cell -/
def Rep1 {α : Type} [Rep α] (h : Heap) (x : α) (v : Value) : Prop := rep h x [v]

/- the pure side -/
def idx {α : Type} (xs : List α) (i : Int) : Option α := match i with
  | .ofNat n => xs[n]?
  | .negSucc _ => none
theorem idx_some {α : Type} {xs : List α} {i : Int} {x : α} (h : idx xs i = some x) : 0 ≤ i ∧ i < xs.length ∧ xs[i.toNat]? = some x := by
  unfold idx at h
  split at h
  · rename_i n
    refine ⟨by simp, ?_, by simpa using h⟩
    rcases Nat.lt_or_ge n xs.length with h' | h'
    · simpa using h'
    · rw [List.getElem?_eq_none h'] at h; cases h
  · cases h
/-- append -/
def app {α : Type} (xs ys : List α) : Option (List α) := if (xs ++ ys).length ≤ 1000000000 then some (xs ++ ys) else none
theorem app_some {α : Type} {xs ys zs : List α} (h : app xs ys = some zs) : zs = xs ++ ys ∧ (xs ++ ys).length ≤ 1000000000 := by
  unfold app at h
  split at h
  · rename_i h1; simp at h; exact ⟨h.symm, h1⟩
  · cases h
/-- xs[i] = y -/
def upd {α : Type} (xs : List α) (i : Int) (y : α) : Option (List α) := match i with
  | .ofNat n => if n < xs.length then some (xs.set n y) else none
  | .negSucc _ => none
theorem upd_some {α : Type} {xs zs : List α} {i : Int} {y : α} (h : upd xs i y = some zs) : 0 ≤ i ∧ i < xs.length ∧ zs = xs.set i.toNat y := by
  unfold upd at h
  split at h
  · rename_i n
    split at h
    · rename_i hn; simp at h; exact ⟨by simp, by simpa using hn, by simpa using h.symm⟩
    · cases h
  · cases h
/-- make -/
def mk {α : Type} (n : Int) (x : α) : Option (List α) := if 0 ≤ n ∧ n ≤ 1000000000 then some (List.replicate n.toNat x) else none
theorem mk_some {α : Type} {n : Int} {x : α} {zs : List α} (h : mk n x = some zs) : 0 ≤ n ∧ n ≤ 1000000000 ∧ zs = List.replicate n.toNat x := by
  unfold mk at h
  split at h
  · rename_i hc; simp at h; exact ⟨hc.1, hc.2, h.symm⟩
  · cases h
theorem bnd {α β : Type} {x : Option α} {f : α → Option β} {r : β} (h : x.bind f = some r) : ∃ v, x = some v ∧ f v = some r := Option.bind_eq_some_iff.1 h
/-- how a piece of code ends: the function returns, or it goes on -/
inductive Ex (ρ σ : Type) where
  | ret (r : ρ)
  | go (s : σ)

/- code -/
section
variable {P : Program} {Q : Exit → Act → World → Prop} {K : Act → World → Prop} {a : Act} {w : World}
theorem wp_mid {c : Code} (M : Act → World → Prop) (h1 : c.wp P (Exit.then M Q) a w) (h2 : ∀ a w, M a w → K a w) : c.wp P (Exit.then K Q) a w :=
  wp_mono h1 fun e a w hq => by cases e <;> first | exact h2 _ _ hq | exact hq
/-- the tail of a code is met under a letter -/
theorem wp_seq2 {x y : Code} (h : x.wp P (Exit.then (y.wp P Q) Q) a w) : (Code.seq x y).wp P Q a w := wp_seq h
theorem wp_loop_n {c : Code} (I : Nat → Act → World → Prop) (n : Nat) (h0 : I n a w)
    (round : ∀ n a w, I n a w → c.wp P (Exit.then (fun a' w' => ∃ m, m < n ∧ I m a' w') Q) a w) : (Code.loop c).wp P Q a w := by
  intro b k cs
  have key : ∀ n a w, I n a w →
      ∃ e a' w', Q e a' w' ∧ Arrives P (lone (b.at a (.code c :: .inLoop c :: k)) cs w) b k cs e a' w' := by
    intro n
    induction n using Nat.strongRecOn with
    | _ n ih =>
      intro a w hI
      obtain ⟨e, a₁, w₁, hq, harr⟩ := round n a w hI b (.inLoop c :: k) cs
      cases e with
      | normal =>
        obtain ⟨m, hlt, hI₁⟩ := hq
        obtain ⟨e₂, a₂, w₂, hq₂, harr₂⟩ := ih m hlt a₁ w₁ hI₁
        exact ⟨e₂, a₂, w₂, hq₂, .of_steps (Steps.trans harr (.one step_inLoop)) harr₂⟩
      | exit id => exact ⟨_, a₁, w₁, hq, .pass (x := .inLoop c) rfl (fun _ _ => .inl (by simp)) harr⟩
      | goto l => exact ⟨_, a₁, w₁, hq, .pass (x := .inLoop c) rfl (fun _ _ => .inl (by simp)) harr⟩
      | ret => exact ⟨_, a₁, w₁, hq, .pass (x := .inLoop c) rfl (fun _ _ => .inl (by simp)) harr⟩
      | panic ch => exact ⟨_, a₁, w₁, hq, .pass (x := .inLoop c) rfl (fun _ _ => .inl (by simp)) harr⟩
      | outgrown => exact ⟨_, a₁, w₁, hq, .pass (x := .inLoop c) rfl (fun _ _ => .inl (by simp)) harr⟩
  obtain ⟨e, a', w', hq, harr⟩ := key n a w h0
  exact ⟨e, a', w', hq, .of_steps (.one step_loop) harr⟩
theorem wp_cond_sv {N : Nat} {e : Env} {m : TM} {t : Array Value} {d : List Deferred} {c : Operand} {x y : Code} (b : Bool) (hk : Kn N e m t) (hc : evA m c = some (.c (.bool b)))
    (h1 : b = true → x.wp P Q ⟨t, d⟩ w) (h2 : b = false → y.wp P Q ⟨t, d⟩ w) : (Code.cond c x y).wp P Q ⟨t, d⟩ w :=
  wp_cond_split (evA_sound hk hc) h1 h2
theorem Kn.keep {N : Nat} {e : Env} {m m' : TM} {t : Array Value} (ks : List Nat) (hk : Kn N e m t) (h : keepTM m ks = m') : Kn N e m' t := by subst h; exact hk.sub (keepTM_sub _ _)
theorem Mem.cutRw {F : Fr} {h : Heap} {e : Env} {pl : List Plc} {rw : List Row} (k : Nat) (hm : Mem F h e pl rw w) : Mem F h e pl (rw.take k) w := by
  obtain ⟨ow, m⟩ := hm
  refine ⟨ow, m.below, m.le, m.old, m.has, m.ows, m.hown, m.pls, fun i r hr => m.rws i r ?_, m.ext⟩
  rw [List.getElem?_take] at hr
  split at hr
  · exact hr
  · cases hr
theorem blk_take (e : Env) (k : Nat) : ∀ {i : Nat}, i < k → Env.blk (e.take k) i = e.blk i := by
  induction e generalizing k with
  | nil => intro i _; rw [List.take_nil]
  | cons x r ih =>
    intro i hi
    cases k with
    | zero => omega
    | succ k => cases i with
      | zero => rfl
      | succ i => exact ih k (by omega)
theorem den_take {e : Env} {k : Nat} {c : SC} (h : c.okB k = true) : c.den (e.take k) = c.den e := by
  cases c <;> first | rfl | skip
  case ptr i off =>
    have hi : i < k := by simpa [SC.okB] using h
    simp [SC.den, blk_take e k hi]
theorem map_den_take {e : Env} {k : Nat} {cs : List SC} (h : okSC k cs = true) : cs.map (SC.den (e.take k)) = cs.map (SC.den e) :=
  List.map_congr_left fun c hc => den_take (okSC_all h c hc)
theorem Mem.cutPl {F : Fr} {h : Heap} {e : Env} {pl : List Plc} {rw : List Row} (k : Nat) (hm : Mem F h e pl rw w) (hok : okPl k (pl.take k) = true) : Mem F h (e.take k) (pl.take k) rw w := by
  obtain ⟨ow, m⟩ := hm
  refine ⟨ow, m.below, m.le, m.old, m.has, m.ows, m.hown, fun i p hp => ?_, m.rws, m.ext⟩
  have hc := okPl_get hok hp
  rw [List.getElem?_take] at hp
  split at hp
  · rename_i hi
    have := m.pls i p hp
    unfold PlcOk at this ⊢
    rw [blk_take e k hi, map_den_take hc]
    split at this
    · exact this
    · intro j c hj
      rw [den_take (okSC_all hc c (List.mem_of_getElem? hj))]
      exact this j c hj
  · cases hp
theorem denA_take {e : Env} {k : Nat} {c : SA} (h : c.okB k = true) : c.den (e.take k) = c.den e := by
  cases c with
  | c x => exact den_take h
  | agg xs => simp only [SA.den]; rw [map_den_take h]
theorem denV_take {e : Env} {k : Nat} {c : SV} (h : c.okB k = true) : c.den (e.take k) = c.den e := by
  cases c with
  | one x => exact denA_take h
  | tup xs =>
    simp only [SV.den]
    congr 2
    have : ∀ (xs : List SA), okSA k xs = true → xs.map (SA.den (e.take k)) = xs.map (SA.den e) := by
      intro xs
      induction xs with
      | nil => simp
      | cons y r ih =>
        intro h
        simp only [okSA, Bool.and_eq_true] at h
        simp [denA_take h.1, ih h.2]
    exact this xs h
  | undef => rfl
theorem Kn.cut {N : Nat} {e : Env} {m : TM} {t : Array Value} (k : Nat) (hk : Kn N e m t) (hok : okTM k m = true) : Kn N (e.take k) m t :=
  ⟨hk.size, fun j v hj => by rw [denV_take (okTM_get hok hj)]; exact hk.get j v hj⟩
end
end Go.Proofs.Ytokchpjijlebiaa
