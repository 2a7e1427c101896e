/- TopBlocks, for every input. -/
import Derived.Test.YtinminkmefljbaaGreattcE0
import Derived.Test.YtinminkmefljbaaGreattcWS
import Derived.SizedLaws
set_option linter.all false
namespace Go.Proofs.YtinminkmefljbaaGreat
open Go Go.RowKit Go.ChangeShapes Go.WideShapes Go.ChangeAt
open Rep (rep)
set_option maxHeartbeats 800000 in
set_option maxRecDepth 100000 in
theorem M5 (os : Os) (started : os.Started) (H : Type) (enc : TypeId × Value → H) :
    ReturnsInHanded {} Tryz.checked os 3 .any (Rows.topBlocksSpec.pre6 enc Tryz.prog Tryz.f3 Rows.topBlocksRow.domain false) (Rows.topBlocksSpec.post enc Tryz.prog Tryz.f3 false true false false) := by
  refine returnsInHanded_of_change_sized (C := Tryz.checked) Xd started (by kernel_rfl) Tryz.func3
    (ChangeSpec.witness6 (enc := enc) (C := Tryz.checked) false ⟨#[], #[.agg #[.int .i64 0, .int .i64 0, .slice none 0 0, .slice none 0 0], .slice none 0 0, .slice none 0 0], []⟩ 8 (by kernel_rfl) (by kernel_rfl) (by kernel_rfl) (by kernel_rfl)) ?_
  intro W base args ds gs before hval0 hW _ hz0 _
  have hval : ∀ (j : Nat) t v, Tryz.f3.params[j]? = some t → args[j]? = some v → Value.okWide Tryz.prog W .any base t v := hval0
  have hz : (DataW.weightsEach Tryz.prog (Tryz.f3.params.toList ++ Rows.topBlocksSpec.plain.varTypes Tryz.prog) (ds ++ gs)).all (· ≤ reachBytes) = true := hz0
  have hW' := hW
  obtain ⟨p, q, hA0, hV, rfl, _, _⟩ := hW
  have hA : DataW.TrodAll enc Tryz.prog W 0 (fun _ => true) true Tryz.f3.params.toList args.toList ds p := hA0
  rw [Tryz.params3] at hA hval hz
  obtain ⟨v0, vs0, d0, ds0, p0, q0, ha0, rfl, rfl, h0, hA⟩ := trodAll_cons hA
  obtain ⟨v1, vs1, d1, ds1, p1, q1, rfl, rfl, rfl, h1, hA⟩ := trodAll_cons hA
  obtain ⟨v2, vs2, d2, ds2, p2, q2, rfl, rfl, rfl, h2, hA⟩ := trodAll_cons hA
  obtain ⟨rfl, rfl, rfl⟩ := trodAll_nil hA
  obtain rfl : args = #[v0, v1, v2] := by cases args; simp_all
  obtain ⟨rfl, rfl⟩ := trodVars_none hV
  obtain ⟨tt, ct, rfl, ht, rt⟩ := UZ Wg Tryz.underlying25 (hval 0 25 v0 rfl rfl) h0
  obtain ⟨room, aroom, croom, rfl, hroom, rroom⟩ := TA UX Tryz.underlying26 (hval 1 26 v1 rfl rfl) h1
  obtain ⟨words, awords, cwords, rfl, hwords, rwords⟩ := TA Xe Tryz.underlying27 (hval 2 27 v2 rfl rfl) h2
  clear hA0 hval0 hz0
  have hb : room.length ≤ 17592186044416 := by
    rcases UY Tryz.underlying26 h1 with hn | ⟨es, rs, rfl, hl⟩
    · omega
    have := sized_slice hz (j := 1) (t := 26) (e := 3) rfl rfl Tryz.underlying26
    rw [show Tryz.prog.bytesOf 3 = 8 by kernel_rfl, hl, show reachBytes = 140737488351232 from rfl] at this
    omega
  clear hz
  simp only [List.append_nil] at hW'
  have hlt : ∀ z ∈ p0 ++ (p1 ++ p2), z.block < W.heap.size := fun z hz => hW'.lt z (by simpa using hz)
  refine (Nc 700 (V8 W) tt ht room hroom words hwords (P8 tt room hb words fun x hx => Up (rwords x hx))).mono fun e W' ⟨v, h', he, hb, _, _, hv⟩ => ?_
  subst he hv
  have harg0 : DataW.Trod enc Tryz.prog W' 0 (fun b => decide (b < W.heap.size)) true 25 (.agg ct.toArray) d0 p0 :=
    Below.trod K6 (by kernel_rfl) (of_decide_eq_true (by kernel_rfl)) h0 hb (fun z hz => hlt z (by simp [hz]))
  have harg1 : DataW.Trod enc Tryz.prog W' 0 (fun b => decide (b < W.heap.size)) true 26 (.slice aroom room.length croom) d1 p1 :=
    Below.trod K6 (by kernel_rfl) (of_decide_eq_true (by kernel_rfl)) h1 hb (fun z hz => hlt z (by simp [hz]))
  have harg2 : DataW.Trod enc Tryz.prog W' 0 (fun b => decide (b < W.heap.size)) true 27 (.slice awords words.length cwords) d2 p2 :=
    Below.trod K6 (by kernel_rfl) (of_decide_eq_true (by kernel_rfl)) h2 hb (fun z hz => hlt z (by simp [hz]))
  refine ⟨_, rfl, _, _, _, [], p0 ++ (p1 ++ p2), [], hW', ?_, ?_, rfl, hb.frame _, fun h => by cases h⟩
  · exact trodAll_mk1 (shut_bool Tryz.underlying4 _)
  exact ⟨p0, p1 ++ p2, harg0, ⟨p1, p2, harg1, ⟨p2, [], harg2, rfl, by simp⟩, by simp⟩, by simp⟩
theorem topBlocks_holds : Rows.TopBlocksSaid :=
  OpenClaim.holds_of_wide 3 Tryz.f3 rfl rfl rfl rfl rfl rfl rfl ⟨rfl, rfl, rfl, rfl, rfl⟩ rfl rfl rfl rfl rfl (by kernel_rfl) Tryz.func3 (by kernel_rfl)
    (of_decide_eq_true (by kernel_rfl)) (by unfold Func.isWrapper; rw [if_neg (of_decide_eq_false (by kernel_rfl))]; exact ⟨rfl, rfl⟩)
    (fun os started H enc _ => M5 os started H enc)
end Go.Proofs.YtinminkmefljbaaGreat
