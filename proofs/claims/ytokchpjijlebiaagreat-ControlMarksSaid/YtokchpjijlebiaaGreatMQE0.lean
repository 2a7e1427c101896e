/- ControlMarks, for every input. -/
import Derived.Test.YtokchpjijlebiaaGreatMQP0
import Derived.Test.YtokchpjijlebiaaGreatMQS9
import Derived.Test.YtokchpjijlebiaaGreatRows
import Derived.ProofKit
import Derived.KernelRfl
import Derived.Test.YtokchpjijlebiaaGreatMQWP1
import Derived.Test.YtokchpjijlebiaaGreatMQL0
set_option linter.all false
namespace Go.Proofs.YtokchpjijlebiaaGreat
open Go Go.RowKit Go.ChangeShapes Go.WideShapes Go.ChangeAt
open Rep (rep)
theorem Sx : ownKnob Tryz.prog.godebug = none := by kernel_rfl
theorem J9 : laidOutB Tryz.prog = true := by kernel_rfl
def NL {α : Type} (_ : α) : Prop := True
theorem BG.any {α : Type} [Rep α] {R : α → Prop} {P : Program} {T : TypeId} (h : BG α R P T) : BG α NL P T := ⟨fun enc w base spare held fuel cs x hx => by
  obtain ⟨y, hy, _⟩ := h.of enc w base spare held fuel cs x hx
  exact ⟨y, hy, trivial⟩⟩
theorem Jm : BG Int NL Tryz.prog 3 := (BG.int Tryz.underlying3).any
theorem LM : BG (List Int) NL Tryz.prog 29 := (BG.slice Tryz.underlying29 Jm (by kernel_rfl) (by decide)).any
theorem Sy : BG Rg NL Tryz.prog 24 := BG.struct (fun x => (x.lo, x.hi)) (fun y => ⟨y.1, y.2⟩) (fun _ _ => trivial) (fun _ => rfl) (fun _ _ _ h => h) Tryz.underlying24 (by kernel_rfl)
  (Ck.cons Jm rfl (by kernel_rfl) (Ck.one Jm rfl (by kernel_rfl)))
theorem SM : BG C6 NL Tryz.prog 83 := BG.struct (fun x => (x.stop, x.tm)) (fun y => ⟨y.1, y.2⟩) (fun _ _ => trivial) (fun _ => rfl) (fun _ _ _ h => h) Tryz.underlying83 (by kernel_rfl)
  (Ck.cons Jm rfl (by kernel_rfl) (Ck.one Sy rfl (by kernel_rfl)))
theorem RO : BG A7 NL Tryz.prog 89 := BG.struct (fun x => (x.stop, x.tm)) (fun y => ⟨y.1, y.2⟩) (fun _ _ => trivial) (fun _ => rfl) (fun _ _ _ h => h) Tryz.underlying89 (by kernel_rfl)
  (Ck.cons Jm rfl (by kernel_rfl) (Ck.one Jm rfl (by kernel_rfl)))
theorem RP : BG Af NL Tryz.prog 28 := BG.struct (fun x => (x.legs, x.turn, x.buses, x.spares, x.unit, x.gap, x.fr, x.to_)) (fun y => ⟨y.1, y.2.1, y.2.2.1, y.2.2.2.1, y.2.2.2.2.1, y.2.2.2.2.2.1, y.2.2.2.2.2.2.1, y.2.2.2.2.2.2.2⟩) (fun _ _ => trivial) (fun _ => rfl) (fun _ _ _ h => h) Tryz.underlying28 (by kernel_rfl)
  (Ck.cons (BG.slice Tryz.underlying22 Sy (by kernel_rfl) (by decide)).any rfl (by kernel_rfl)
  (Ck.cons Sy rfl (by kernel_rfl)
  (Ck.cons (BG.slice Tryz.underlying25 SM (by kernel_rfl) (by decide)).any rfl (by kernel_rfl)
  (Ck.cons (BG.slice Tryz.underlying26 RO (by kernel_rfl) (by decide)).any rfl (by kernel_rfl)
  (Ck.cons Jm rfl (by kernel_rfl) (Ck.cons Jm rfl (by kernel_rfl) (Ck.cons Jm rfl (by kernel_rfl) (Ck.one Jm rfl (by kernel_rfl)))))))))
theorem Sz : BG Aw NL Tryz.prog 32 := BG.struct (fun x => (x.holds, x.turns, x.spares)) (fun y => ⟨y.1, y.2.1, y.2.2⟩) (fun _ _ => trivial) (fun _ => rfl) (fun _ _ _ h => h) Tryz.underlying32 (by kernel_rfl)
  (Ck.cons LM rfl (by kernel_rfl) (Ck.cons LM rfl (by kernel_rfl) (Ck.one (BG.slice Tryz.underlying30 (BG.bool Tryz.underlying4).any (by kernel_rfl) (by decide)).any rfl (by kernel_rfl))))
theorem RQ : BG Au NL Tryz.prog 38 := BG.struct (fun x => (x.tm, x.turns, x.legs)) (fun y => ⟨y.1, y.2.1, y.2.2⟩) (fun _ _ => trivial) (fun _ => rfl) (fun _ _ _ h => h) Tryz.underlying38 (by kernel_rfl)
  (Ck.cons LM rfl (by kernel_rfl) (Ck.cons LM rfl (by kernel_rfl) (Ck.one (BG.slice Tryz.underlying36 LM (by kernel_rfl) (by decide)).any rfl (by kernel_rfl))))
theorem LN {H : Type} {α : Type} [Rep α] {R : α → Prop} {enc : TypeId × Value → H} {P : Program} {T : TypeId} {fs : Array Field} (ho : BG α R P T) (ht : P.underlying T = some (.struct fs)) {W : World} {base : Nat} {spare : Nat → Bool} {held : Bool} {r : Reach} {b0 : Nat} {v : Value} {d : DataW H} {ps : List MemPlace}
    (hval : Value.okWide P W r b0 T v) (hd : DataW.Trod enc P W base spare held T v d ps) : ∃ (y : α) (cs : List Value), v = .agg cs.toArray ∧ rep (PZ W) y cs ∧ R y := by
  unfold Value.okWide at hval
  rw [ht] at hval
  obtain ⟨cs, rfl, _, _⟩ := hval
  obtain ⟨fuel, hf⟩ := hd
  obtain ⟨y, hy, hR⟩ := ho.of _ _ _ _ _ _ _ _ hf
  exact ⟨y, cs.toList, by simp, by simpa [Value.cells] using hy, hR⟩
end Go.Proofs.YtokchpjijlebiaaGreat
namespace Go.Proofs.YtokchpjijlebiaaGreat
open Go Go.RowKit Go.ChangeShapes Go.WideShapes Go.ChangeAt
open Rep (rep)
theorem QV : EE 300 = some true := by kernel_rfl
set_option maxHeartbeats 800000 in
set_option maxRecDepth 100000 in
theorem Jh (os : Os) (started : os.Started) (H : Type) (enc : TypeId × Value → H) :
    ReturnsInHanded {} Tryz.checked os 4 .any (Rows.controlMarksSpec.pre6 enc Tryz.prog Tryz.f4 Rows.controlMarksRow.domain false) (Rows.controlMarksSpec.post enc Tryz.prog Tryz.f4 false true false false) := by
  refine returnsInHanded_of_change (C := Tryz.checked) Sx started (by kernel_rfl) Tryz.func4
    (ChangeSpec.witness6 (enc := enc) (C := Tryz.checked) false ⟨#[], #[.agg #[.slice none 0 0, .int .i64 0, .int .i64 0, .slice none 0 0, .slice none 0 0, .int .i64 0, .int .i64 0, .int .i64 0, .int .i64 0], .agg #[.slice none 0 0, .slice none 0 0, .slice none 0 0], .agg #[.slice none 0 0, .slice none 0 0, .slice none 0 0]], []⟩ 8 (by kernel_rfl) (by kernel_rfl) (by kernel_rfl) (by kernel_rfl)) ?_
  intro W base args ds gs before hval0 hW _ _
  have hval : ∀ (j : Nat) t v, Tryz.f4.params[j]? = some t → args[j]? = some v → Value.okWide Tryz.prog W .any base t v := hval0
  have hW' := hW
  obtain ⟨p, q, hA0, hV, rfl, _, _⟩ := hW
  have hA : DataW.TrodAll enc Tryz.prog W 0 (fun _ => true) true Tryz.f4.params.toList args.toList ds p := hA0
  rw [Tryz.params4] at hA hval
  obtain ⟨v0, vs0, d0, ds0, p0, q0, ha0, rfl, rfl, h0, hA⟩ := trodAll_cons hA
  obtain ⟨v1, vs1, d1, ds1, p1, q1, rfl, rfl, rfl, h1, hA⟩ := trodAll_cons hA
  obtain ⟨v2, vs2, d2, ds2, p2, q2, rfl, rfl, rfl, h2, hA⟩ := trodAll_cons hA
  obtain ⟨rfl, rfl, rfl⟩ := trodAll_nil hA
  obtain rfl : args = #[v0, v1, v2] := by cases args; simp_all
  obtain ⟨rfl, rfl⟩ := trodVars_none hV
  obtain ⟨r, cr, rfl, hr, rr⟩ := LN RP Tryz.underlying28 (hval 0 28 v0 rfl rfl) h0
  obtain ⟨a, ca, rfl, ha, ra⟩ := LN Sz Tryz.underlying32 (hval 1 32 v1 rfl rfl) h1
  obtain ⟨t, ct, rfl, ht, rt⟩ := LN RQ Tryz.underlying38 (hval 2 38 v2 rfl rfl) h2
  clear hA0 hval0
  simp only [List.append_nil] at hW'
  have hlt : ∀ z ∈ p0 ++ p1 ++ p2, z.block < W.heap.size := fun z hz => hW'.lt z (by simpa using hz)
  refine (Jl 300 (R1 W) r hr a ha t ht (KG 300 (by decide) (by decide) QV r a t)).mono fun e W' ⟨v, h', he, hb, _, _, hv⟩ => ?_
  subst he hv
  have harg0 : DataW.Trod enc Tryz.prog W' 0 (fun b => decide (b < W.heap.size)) true 28 (.agg cr.toArray) d0 p0 :=
    Below.trod J9 (by kernel_rfl) (of_decide_eq_true (by kernel_rfl)) h0 hb (fun z hz => hlt z (by simp [hz]))
  have harg1 : DataW.Trod enc Tryz.prog W' 0 (fun b => decide (b < W.heap.size)) true 32 (.agg ca.toArray) d1 p1 :=
    Below.trod J9 (by kernel_rfl) (of_decide_eq_true (by kernel_rfl)) h1 hb (fun z hz => hlt z (by simp [hz]))
  have harg2 : DataW.Trod enc Tryz.prog W' 0 (fun b => decide (b < W.heap.size)) true 38 (.agg ct.toArray) d2 p2 :=
    Below.trod J9 (by kernel_rfl) (of_decide_eq_true (by kernel_rfl)) h2 hb (fun z hz => hlt z (by simp [hz]))
  refine ⟨_, rfl, _, _, _, [], p0 ++ (p1 ++ p2), [], hW', ?_, ?_, rfl, hb.frame _, fun h => by cases h⟩
  · exact trodAll_mk1 (shut_bool Tryz.underlying4 _)
  · exact ⟨p0, p1 ++ p2, harg0, ⟨p1, p2, harg1, ⟨p2, [], harg2, rfl, by simp⟩, by simp⟩, by simp⟩
theorem controlMarks_holds : Rows.ControlMarksSaid :=
  OpenClaim.holds_of_wide 4 Tryz.f4 rfl rfl rfl rfl rfl rfl rfl ⟨rfl, rfl, rfl, rfl, rfl⟩ rfl rfl rfl rfl rfl (by kernel_rfl) Tryz.func4 (by kernel_rfl)
    (of_decide_eq_true (by kernel_rfl)) (by unfold Func.isWrapper; rw [if_neg (of_decide_eq_false (by kernel_rfl))]; exact ⟨rfl, rfl⟩)
    (fun os started H enc _ => Jh os started H enc)
end Go.Proofs.YtokchpjijlebiaaGreat
