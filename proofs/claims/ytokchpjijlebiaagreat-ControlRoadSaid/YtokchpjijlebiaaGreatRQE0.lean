/- ControlRoad, for every input. -/
import Derived.Test.YtokchpjijlebiaaGreatRQS9
import Derived.Test.YtokchpjijlebiaaGreatRows
import Derived.ProofKit
import Derived.KernelRfl
import Derived.Test.YtokchpjijlebiaaGreatRQWR1
import Derived.Test.YtokchpjijlebiaaGreatRQL0
set_option linter.all false
namespace Go.Proofs.YtokchpjijlebiaaGreat
open Go Go.RowKit Go.ChangeShapes Go.WideShapes Go.ChangeAt
open Rep (rep)
theorem V9 : ownKnob Tryz.prog.godebug = none := by kernel_rfl
theorem KF : laidOutB Tryz.prog = true := by kernel_rfl
theorem TV {n : Int} (h : (Lit.int .u8 n).wf = true) : 0 ≤ n ∧ n ≤ 255 := by
  simpa [Lit.wf, IntKind.min, IntKind.max, IntKind.bits, IntKind.signed] using h
theorem Ty {n : Int} (h : (Lit.int .u16 n).wf = true) : 0 ≤ n ∧ n ≤ 65535 := by
  simpa [Lit.wf, IntKind.min, IntKind.max, IntKind.bits, IntKind.signed] using h
def QX {α : Type} (_ : α) : Prop := True
theorem Cj.any {α : Type} [Rep α] {R : α → Prop} {P : Program} {T : TypeId} (h : Cj α R P T) : Cj α QX P T := ⟨fun enc w base spare held fuel cs x hx => by
  obtain ⟨y, hy, _⟩ := h.of enc w base spare held fuel cs x hx
  exact ⟨y, hy, trivial⟩⟩
theorem Kv : Cj Int QX Tryz.prog 3 := (Cj.int Tryz.underlying3).any
theorem TW : Cj (List Int) QX Tryz.prog 29 := (Cj.slice Tryz.underlying29 Kv (by kernel_rfl) (by decide)).any
theorem VA : Cj (List (IK .u16)) (fun l => ∀ x ∈ l, (Lit.int .u16 x.n).wf = true) Tryz.prog 33 := Cj.slice Tryz.underlying33 (Cj.ik Tryz.underlying128) (by kernel_rfl) (by decide)
theorem VB : Cj Rg QX Tryz.prog 24 := Cj.struct (fun x => (x.lo, x.hi)) (fun y => ⟨y.1, y.2⟩) (fun _ _ => trivial) (fun _ => rfl) (fun _ _ _ h => h) Tryz.underlying24 (by kernel_rfl)
  (Dg.cons Kv rfl (by kernel_rfl) (Dg.one Kv rfl (by kernel_rfl)))
theorem Wb : Cj CW QX Tryz.prog 83 := Cj.struct (fun x => (x.stop, x.tm)) (fun y => ⟨y.1, y.2⟩) (fun _ _ => trivial) (fun _ => rfl) (fun _ _ _ h => h) Tryz.underlying83 (by kernel_rfl)
  (Dg.cons Kv rfl (by kernel_rfl) (Dg.one VB rfl (by kernel_rfl)))
theorem Va : Cj AK QX Tryz.prog 89 := Cj.struct (fun x => (x.stop, x.tm)) (fun y => ⟨y.1, y.2⟩) (fun _ _ => trivial) (fun _ => rfl) (fun _ _ _ h => h) Tryz.underlying89 (by kernel_rfl)
  (Dg.cons Kv rfl (by kernel_rfl) (Dg.one Kv rfl (by kernel_rfl)))
theorem Vb : Cj Af QX Tryz.prog 28 := Cj.struct (fun x => (x.lA, x.turn, x.lB, x.lC, x.lI, x.gap, x.fr, x.to_)) (fun y => ⟨y.1, y.2.1, y.2.2.1, y.2.2.2.1, y.2.2.2.2.1, y.2.2.2.2.2.1, y.2.2.2.2.2.2.1, y.2.2.2.2.2.2.2⟩) (fun _ _ => trivial) (fun _ => rfl) (fun _ _ _ h => h) Tryz.underlying28 (by kernel_rfl)
  (Dg.cons (Cj.slice Tryz.underlying22 VB (by kernel_rfl) (by decide)).any rfl (by kernel_rfl)
  (Dg.cons VB rfl (by kernel_rfl)
  (Dg.cons (Cj.slice Tryz.underlying25 Wb (by kernel_rfl) (by decide)).any rfl (by kernel_rfl)
  (Dg.cons (Cj.slice Tryz.underlying26 Va (by kernel_rfl) (by decide)).any rfl (by kernel_rfl)
  (Dg.cons Kv rfl (by kernel_rfl) (Dg.cons Kv rfl (by kernel_rfl) (Dg.cons Kv rfl (by kernel_rfl) (Dg.one Kv rfl (by kernel_rfl)))))))))
theorem VC : Cj An QX Tryz.prog 32 := Cj.struct (fun x => (x.lD, x.lE, x.lC)) (fun y => ⟨y.1, y.2.1, y.2.2⟩) (fun _ _ => trivial) (fun _ => rfl) (fun _ _ _ h => h) Tryz.underlying32 (by kernel_rfl)
  (Dg.cons TW rfl (by kernel_rfl) (Dg.cons TW rfl (by kernel_rfl) (Dg.one (Cj.slice Tryz.underlying30 (Cj.bool Tryz.underlying4).any (by kernel_rfl) (by decide)).any rfl (by kernel_rfl))))
theorem QY {H : Type} {α : Type} [Rep α] {R : α → Prop} {enc : TypeId × Value → H} {P : Program} {T : TypeId} {fs : Array Field} (ho : Cj α R P T) (ht : P.underlying T = some (.struct fs)) {W : World} {base : Nat} {spare : Nat → Bool} {held : Bool} {r : Reach} {b0 : Nat} {v : Value} {d : DataW H} {ps : List MemPlace}
    (hval : Value.okWide P W r b0 T v) (hd : DataW.Trod enc P W base spare held T v d ps) : ∃ (y : α) (cs : List Value), v = .agg cs.toArray ∧ rep (RK W) y cs ∧ R y := by
  unfold Value.okWide at hval
  rw [ht] at hval
  obtain ⟨cs, rfl, _, _⟩ := hval
  obtain ⟨fuel, hf⟩ := hd
  obtain ⟨y, hy, hR⟩ := ho.of _ _ _ _ _ _ _ _ hf
  exact ⟨y, cs.toList, by simp, by simpa [Value.cells] using hy, hR⟩
theorem Vc {H : Type} {α : Type} [Rep α] {R : List α → Prop} {enc : TypeId × Value → H} {P : Program} {T E : TypeId} (ho : Cj (List α) R P T) (ht : P.underlying T = some (.slice E)) {W : World} {base : Nat} {spare : Nat → Bool} {held : Bool} {r : Reach} {b0 : Nat} {v : Value} {d : DataW H} {ps : List MemPlace}
    (hval : Value.okWide P W r b0 T v) (hd : DataW.Trod enc P W base spare held T v d ps) : ∃ (y : List α) (a : Option Addr) (c : Nat), v = .slice a y.length c ∧ A4 (RK W) a c y ∧ R y := by
  obtain ⟨a, n, c, rfl⟩ := okWide_slice ht hval
  obtain ⟨fuel, hf⟩ := hd
  obtain ⟨y, hy, hR⟩ := ho.of _ _ _ _ _ _ _ _ hf
  obtain ⟨a', c', h1, h2⟩ := hy
  simp only [Value.cells, List.cons.injEq, and_true] at h1
  cases h1
  exact ⟨y, a, c, rfl, h2, hR⟩
open Rep (rep)
theorem TX : Gf 300 = some true := by kernel_rfl
set_option maxHeartbeats 800000 in
set_option maxRecDepth 100000 in
theorem KG (os : Os) (started : os.Started) (H : Type) (enc : TypeId × Value → H) :
    ReturnsInHanded {} Tryz.checked os 5 .any (Rows.controlRoadSpec.pre6 enc Tryz.prog Tryz.f5 Rows.controlRoadRow.domain false) (Rows.controlRoadSpec.post enc Tryz.prog Tryz.f5 false true false false) := by
  refine returnsInHanded_of_change (C := Tryz.checked) V9 started (by kernel_rfl) Tryz.func5
    (ChangeSpec.witness6 (enc := enc) (C := Tryz.checked) false ⟨#[], #[.agg #[.slice none 0 0, .int .i64 0, .int .i64 0, .slice none 0 0, .slice none 0 0, .int .i64 0, .int .i64 0, .int .i64 0, .int .i64 0], .agg #[.slice none 0 0, .slice none 0 0, .slice none 0 0], .slice none 0 0, .int .u8 0], []⟩ 8 (by kernel_rfl) (by kernel_rfl) (by kernel_rfl) (by kernel_rfl)) ?_
  intro W base args ds gs before hval0 hW _ _
  have hval : ∀ (j : Nat) t v, Tryz.f5.params[j]? = some t → args[j]? = some v → Value.okWide Tryz.prog W .any base t v := hval0
  have hW' := hW
  obtain ⟨p, q, hA0, hV, rfl, _, _⟩ := hW
  have hA : DataW.TrodAll enc Tryz.prog W 0 (fun _ => true) true Tryz.f5.params.toList args.toList ds p := hA0
  rw [Tryz.params5] at hA hval
  obtain ⟨v0, vs0, d0, ds0, p0, q0, ha0, rfl, rfl, h0, hA⟩ := trodAll_cons hA
  obtain ⟨v1, vs1, d1, ds1, p1, q1, rfl, rfl, rfl, h1, hA⟩ := trodAll_cons hA
  obtain ⟨v2, vs2, d2, ds2, p2, q2, rfl, rfl, rfl, h2, hA⟩ := trodAll_cons hA
  obtain ⟨v3, vs3, d3, ds3, p3, q3, rfl, rfl, rfl, h3, hA⟩ := trodAll_cons hA
  obtain ⟨rfl, rfl, rfl⟩ := trodAll_nil hA
  obtain rfl : args = #[v0, v1, v2, v3] := by cases args; simp_all
  obtain ⟨rfl, rfl⟩ := trodVars_none hV
  obtain ⟨r, cr, rfl, hr, rr⟩ := QY Vb Tryz.underlying28 (hval 0 28 v0 rfl rfl) h0
  obtain ⟨a, ca, rfl, ha, ra⟩ := QY VC Tryz.underlying32 (hval 1 32 v1 rfl rfl) h1
  obtain ⟨words, awords, cwords, rfl, hwords, rwords⟩ := Vc VA Tryz.underlying33 (hval 2 33 v2 rfl rfl) h2
  obtain ⟨stop, rfl, rfl, rfl, wstop⟩ := open_int Tryz.underlying5 (hval 3 5 v3 rfl rfl) h3
  clear hA0 hval0
  simp only [List.append_nil] at hW'
  have hlt : ∀ z ∈ p0 ++ p1 ++ p2, z.block < W.heap.size := fun z hz => hW'.lt z (by simpa using hz)
  have bstop := TV wstop
  refine (Lh 300 (U9 W) r hr a ha words hwords ⟨stop⟩ (Nv 300 (by decide) (by decide) TX r a words ⟨stop⟩ (fun x hx => Ty (rwords x hx)) bstop.1 bstop.2)).mono fun e W' ⟨v, h', he, hb, _, _, hv⟩ => ?_
  obtain ⟨_, rfl, hv⟩ := hv
  subst he hv
  have harg0 : DataW.Trod enc Tryz.prog W' 0 (fun b => decide (b < W.heap.size)) true 28 (.agg cr.toArray) d0 p0 :=
    Below.trod KF (by kernel_rfl) (of_decide_eq_true (by kernel_rfl)) h0 hb (fun z hz => hlt z (by simp [hz]))
  have harg1 : DataW.Trod enc Tryz.prog W' 0 (fun b => decide (b < W.heap.size)) true 32 (.agg ca.toArray) d1 p1 :=
    Below.trod KF (by kernel_rfl) (of_decide_eq_true (by kernel_rfl)) h1 hb (fun z hz => hlt z (by simp [hz]))
  have harg2 : DataW.Trod enc Tryz.prog W' 0 (fun b => decide (b < W.heap.size)) true 33 (.slice awords words.length cwords) d2 p2 :=
    Below.trod KF (by kernel_rfl) (of_decide_eq_true (by kernel_rfl)) h2 hb (fun z hz => hlt z (by simp [hz]))
  refine ⟨_, rfl, _, _, _, [], p0 ++ (p1 ++ p2), [], hW', ?_, ?_, rfl, hb.frame _, fun h => by cases h⟩
  · exact trodAll_mk1 (shut_bool Tryz.underlying4 _)
  · exact ⟨p0, p1 ++ p2, harg0, ⟨p1, p2, harg1, ⟨p2, [], harg2, ⟨[], [], shut_int Tryz.underlying5 wstop, rfl, by simp⟩, by simp⟩, by simp⟩, by simp⟩
theorem controlRoad_holds : Rows.ControlRoadSaid :=
  OpenClaim.holds_of_wide 5 Tryz.f5 rfl rfl rfl rfl rfl rfl rfl ⟨rfl, rfl, rfl, rfl, rfl⟩ rfl rfl rfl rfl rfl (by kernel_rfl) Tryz.func5 (by kernel_rfl)
    (of_decide_eq_true (by kernel_rfl)) (by unfold Func.isWrapper; rw [if_neg (of_decide_eq_false (by kernel_rfl))]; exact ⟨rfl, rfl⟩)
    (fun os started H enc _ => KG os started H enc)
end Go.Proofs.YtokchpjijlebiaaGreat
