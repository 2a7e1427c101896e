/- The end of a function that ranges over functions: its marks. -/
import Derived.Test.YtokchpjijlebiaaSymO
set_option linter.all false
namespace Go.Proofs.Ytokchpjijlebiaa
open Go Go.RowKit
open Rep (rep)
open KRep (kv)
open VRep (rv)
open Go.ChangeMaps (setBlock)
/-- a mark -/
def mark (b : Nat) : Deferred := { target := .collected b, args := #[] }
section
variable {P : Program} {Q : Exit → Act → World → Prop} {N : Nat} {F : Fr} {h : Heap} {e : Env} {pl : List Plc} {rw : List Row} {w w' : World} {m : TM} {t : Array Value}
theorem putObj_grown (w : World) (b : Nat) (o : Obj) : w.grownBy (w.putObj b o) (some b) := setBlock_grown w b o
theorem leaves_marks {fn : Func} {R : Heap → Value → Prop} (sv : SV) (hk : Kn N e m t) (hr : resS P m pl fn.results.toList = some sv) (hR : R h (sv.den e)) :
    ∀ (bs : List Nat) (F : Fr) (w : World), Mem F h e pl rw w → bs.Nodup → (∀ b ∈ bs, F.X b = some (.deferred (some []))) → LeavesInM Fence.wide 0 P fn t (Ret R F.h F.w) (bs.map mark) .returning w
  | [], F, w, hm, _, _ => by
    show LeavesIn Fence.wide 0 P fn t _ [] .returning w
    unfold LeavesIn
    exact ⟨_, resS_sound hk hm.plOk hr, ret_of_mem hm hR⟩
  | b :: bs, F, w, hm, hn, hx => by
    have hb := hx b (by simp)
    obtain ⟨n1, n2⟩ := List.nodup_cons.1 hn
    refine ⟨by simp, .inl ⟨b, _, rfl, run_takeDeferred (hm.ext hb), ?_⟩⟩
    have hm2 := hm.setX (o' := .deferred none) hb rfl (putObj_grown w b _) (World.putObj_heap_same (hm.extLt hb))
    refine leaves_marks sv hk hr hR bs (F.put b (some (.deferred none))) _ hm2 n2 fun c hc => ?_
    have hcb : c ≠ b := fun hcb => n1 (hcb ▸ hc)
    simp only [Fr.put, hcb, if_false]
    exact hx c (by simp [hc])
/-- The end of a call with marks. -/
theorem retM_ok {fn : Func} {R : Heap → Value → Prop} (sv : SV) (bs : List Nat) (hk : Kn N e m t) (hm : Mem F h e pl rw w) (hn : bs.Nodup) (hx : ∀ b ∈ bs, F.X b = some (.deferred (some []))) (hr : resS P m pl fn.results.toList = some sv) (hR : R h (sv.den e)) :
    bodyPostM Fence.wide 0 P fn (Ret R F.h F.w) .ret ⟨t, bs.map mark⟩ w := leaves_marks sv hk hr hR bs F w hm hn hx
/-- A call with marks begins. -/
theorem enterM {f : FuncId} {fn : Func} {c : Code} {R : Ending → World → Prop} {vals : Array Value} (N : Nat) (vs : List SA) (hf : P.funcs[f]? = some fn) (hb : fn.body = some c) (hN : fn.ntmps = N) (hn : decide (vs.length ≤ N) = true) (hv : (vs.map (SA.den e)).toArray = vals)
    (H : ∀ t, Kn N e (argTM 0 vs) t → c.wp P (bodyPostM Fence.wide 0 P fn R) ⟨t, []⟩ w) : Calls P f vals w R := by
  subst hv
  have hn : vs.length ≤ N := by simpa using hn
  refine callsIn_wide.1 (callsIn_of_wp_marks (n := 0) hf hb trivial (wpIn_wide.2 (H _ ⟨by simp [hN]; omega, fun k v hk => ?_⟩)))
  obtain ⟨i, h1, h2⟩ := argTM_get e vs 0 k v hk
  obtain rfl : k = i := by omega
  have hlt : k < (vs.map (SA.den e)).length := by
    rcases Nat.lt_or_ge k (vs.map (SA.den e)).length with h' | h'
    · exact h'
    · rw [List.getElem?_eq_none h'] at h2; cases h2
  rw [Array.getElem?_append_left (by simpa using hlt)]
  simpa using h2
/-- a body that does not panic -/
def noPanic (Q : Exit → Act → World → Prop) : Exit → Act → World → Prop
  | .panic _, _, _ => False
  | x, a, w => Q x a w
/-- A call with marks begins; its body does not panic. -/
theorem enterMk {f : FuncId} {fn : Func} {c : Code} {R : Ending → World → Prop} {vals : Array Value} (N : Nat) (vs : List SA) (hf : P.funcs[f]? = some fn) (hb : fn.body = some c) (hN : fn.ntmps = N) (hn : decide (vs.length ≤ N) = true) (hv : (vs.map (SA.den e)).toArray = vals)
    (H : ∀ t, Kn N e (argTM 0 vs) t → c.wp P (noPanic (bodyPostM Fence.wide 0 P fn R)) ⟨t, []⟩ w) : Calls P f vals w R := by
  refine enterM N vs hf hb hN hn hv fun t hk => ?_
  refine wpIn_wide.1 (wpIn_mono (wpIn_wide (n := 0).2 (H t hk)) fun x a w h => ?_)
  cases x <;> first | exact h | exact h.elim
/-- The statement, in memory's words: the marks, the loop's record. -/
theorem loopWorld_mem (r : Loop) (hm : Mem F h e pl rw w) : Mem ((F.put w.heap.size (some (.deferred (some [])))).put (w.heap.size + 1) (some (.loop r))) h e pl rw (loopWorld w r) := by
  have h1 := (hm.allocX (.deferred (some []))).allocX (.loop r)
  simpa [loopWorld] using h1
/-- a loop's record changes -/
theorem Mem.putLoop {b : Nat} {o o' : Obj} (hm : Mem F h e pl rw w) (hx : F.X b = some o) (hc : isCells o = false) : Mem (F.put b (some o')) h e pl rw (w.putObj b o') :=
  hm.setX hx hc (putObj_grown w b _) (World.putObj_heap_same (hm.extLt hx))
end
end Go.Proofs.Ytokchpjijlebiaa
