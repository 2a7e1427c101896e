/- The theorem. -/
import Derived.Test.YtkpgggfibljflaaGreatDoorgQE00
import Derived.Test.YtkpgggfibljflaaGreatDoorCards
import Derived.Test.YtkpgggfibljflaaGreatDoorTie
import Derived.ProofKit
import Derived.LaidMore
import Derived.Lay
import Derived.LaidOnce
import Derived.SevenTiedAt
import Derived.SizedLaws
import Derived.Stop.LaidErr
import Derived.Stop.Joined
import Derived.Shelf.Vars
set_option linter.all false
set_option maxRecDepth 100000
namespace Go.Proofs.YtkpgggfibljflaaGreatDoor
open Go Go.RowKit Go.ChangeShapes Go.WideShapes Go.ChangeAt Go.Proofs Go.Proofs.YtkpgggfibljflaaGreatDoor
theorem AdG : ownKnob Tryz.prog.godebug = none := by kernel_rfl
theorem OO : laidOutB Tryz.prog = true := by kernel_rfl
def XE : List (String × DataW Unit) := [("math/bits.deBruijn32tab", Rows.laid_math_bits_deBruijn32tab), ("math/bits.deBruijn64tab", Rows.laid_math_bits_deBruijn64tab), ("internal/strconv.uint64pow10", Rows.laid_internal_strconv_uint64pow10), ("unicode/utf8.acceptRanges", Rows.laid_unicode_utf8_acceptRanges), ("strconv.ErrRange", Rows.laid_strconv_ErrRange), ("strconv.ErrSyntax", Rows.laid_strconv_ErrSyntax), ("unicode/utf8.first", Rows.laid_unicode_utf8_first)]
theorem MO {H : Type} {enc : TypeId × Value → H} {a : Assume} {C : Checked} {os : Os} {f : FuncId} {fn : Func} {s : ChangeSpec} {conds : List PathCond} {apart fresh handsOn again : Bool} {X : World → Array Value → Prop}
  (hX : ∀ (w w' : World) (args : Array Value), w.heap = w'.heap → X w args → X w' args)
  (own : ownKnob C.prog.godebug = none) (started : os.Started) (noInit : C.prog.inits.idxOf? f = none) (hfn : C.prog.funcs[f]? = some fn)
  (witness : ∃ (w : World) (tape : Tape) (i : Input), w.os = os ∧ (w.forCall tape i).Shaped C.prog ∧ i.vars = [] ∧ Input.okWide C.prog (w.forCall tape i) .any w.heap.size f i ∧
   ((s.pre enc C.prog fn conds apart (w.forCall tape i).memory i.args ∧ X (w.forCall tape i).memory i.args) ∧ sizedMet enc C.prog fn (OpenSpec.ofChange s) apart (w.forCall tape i).memory i.args) ∧ a.holds C.prog (lone (Frame.enter C.prog f i.args .normal) [] (w.forCall tape i)))
  (contract : ∀ (W : World) (base : Nat) (args : Array Value) (ds gs : List (DataW H)) (before : List MemPlace),
   (∀ (j : Nat) t v, fn.params[j]? = some t → args[j]? = some v → Value.okWide C.prog W .any base t v) →
   DataW.Whole enc C.prog fn.params.toList s.vars apart W args.toList ds gs before →
   (DataW.weightsEach C.prog (fn.params.toList ++ s.plain.varTypes C.prog) (ds ++ gs)).all (· ≤ reachBytes) = true → X W args → W.ShapedOpen C.prog →
   Calls C.prog f args W fun e W' => ∃ v, e = .returned v ∧ s.post enc C.prog fn apart fresh handsOn again W args v W') :
  ReturnsInHanded a C os f .any (fun w args => (s.pre enc C.prog fn conds apart w args ∧ X w args) ∧ sizedMet enc C.prog fn (OpenSpec.ofChange s) apart w args) (s.post enc C.prog fn apart fresh handsOn again) := by
 refine returnsInHanded_of_calls own started noInit witness ?_
 intro w tape i _ hsh _ hok hpre hholds
 obtain ⟨_, _, _, fn', hfn', _, _, _, _, hval⟩ := hok
 have e : fn' = fn := Option.some.inj (hfn'.symm.trans hfn)
 subst e
 obtain ⟨⟨⟨ds, gs, before, hw, hc⟩, hx⟩, hz⟩ := hpre
 have hw' := DataW.Whole.of_heap (w' := w.forCall tape i) (by rfl) hw
 refine (contract (w.forCall tape i) w.heap.size i.args ds gs before hval hw' (hz.weights hw) (hX _ _ _ (by rfl) hx) hsh).mono fun e W' ⟨v, he, hp⟩ => ?_
 subst he
 exact ChangeSpec.post_blind hp
theorem Wq {P : Program} {w : World} {g : Nat} {t : TypeId} {zero : Array Value} (h : w.ShapedOpen P) (hg : g < P.globals.size)
  (h0 : ((begin P (fun _ _ => 0) default).world.heap[g]?).bind Obj.row? = some (zero, t)) : g < w.heap.size := by
 obtain ⟨cs, hh, _, _⟩ := h.1 g zero t hg h0
 exact (Array.getElem?_eq_some_iff.1 hh).1
theorem Acl {P : Program} {w : World} {g : Nat} {t : TypeId} {zero : Array Value} {k : IntKind} {n : String} (h : w.ShapedOpen P) (hn : P.globalNamed n = some g) (hg : g < P.globals.size)
  (h0 : ((begin P (fun _ _ => 0) default).world.heap[g]?).bind Obj.row? = some (zero, t)) (hz : zero.size = 1)
  (hb : P.buildable t = true) (hc : P.cellTypes P.depth t = some [t]) (hu : P.underlying t = some (.int k)) : ∃ m, w.var? P n = some #[.int k m] := by
 obtain ⟨m, hm⟩ := cell_of_shapedOpen_int h hg h0 hz hb hc hu
 obtain ⟨cs, hh, hs, _⟩ := h.1 g zero t hg h0
 refine ⟨m, ?_⟩
 unfold World.var?
 rw [hn]
 simp only [Option.bind_some]
 rw [hh]
 have h1 : cs.size = 1 := by omega
 simp only [World.cell?, hh] at hm
 obtain ⟨l⟩ := cs
 match l, h1 with
 | [x], _ =>
  have hx : x = .int k m := by simpa using hm
  rw [hx]
theorem XF : "*" ++ "errors.errorString" = "*errors.errorString" := by decide
theorem ZR (u : TypeId) (h : Tryz.prog.typeName? 3 u = some "*errors.errorString") : u = 396 :=
 typeName_ptr_named (nm := "errors.errorString") (by rw [XF]; kernel_rfl) (by kernel_rfl) (by decide) u (by rw [XF]; exact h)
theorem AdH {W : World} (hL : laidMetH Tryz.prog XE W) (hsh : W.ShapedOpen Tryz.prog) : AeU W := by
 rw [MakeChecks.laidMetH_plain _ _ _ (by kernel_rfl)] at hL
 have h2 : laidMet Tryz.prog (("internal/strconv.uint64pow10", Lib.tabData .u64 Lib.pow10Tab) :: [("unicode/utf8.acceptRanges", Rows.laid_unicode_utf8_acceptRanges), ("strconv.ErrRange", Rows.laid_strconv_ErrRange), ("strconv.ErrSyntax", Rows.laid_strconv_ErrSyntax), ("unicode/utf8.first", Rows.laid_unicode_utf8_first)]) W := by
  have e : (Rows.laid_internal_strconv_uint64pow10 : DataW Unit) = Lib.tabData .u64 Lib.pow10Tab := by kernel_rfl
  rw [← e]; exact hL.tail.tail
 have h4 := h2.tail.tail
 refine ⟨?_, ?_, ?_, ?_, ?_⟩
 · exact Lib.tabIs_of_head (g := 2) (t := 391) (n := 20) (e := 311) (by kernel_rfl) (by kernel_rfl) Tryz.underlying391 Tryz.underlying311 (by kernel_rfl) (by kernel_rfl) h2
 · obtain ⟨a, s, h, _⟩ := laid_sentinel h4.tail (g := 0) (ti := 166) (tp := 396) (te := 398) (ts := 9) (by kernel_rfl) (by kernel_rfl) Tryz.underlying166 ZR Tryz.underlying396 Tryz.underlying398 rfl rfl Tryz.underlying9 (by kernel_rfl) (by kernel_rfl)
   exact ⟨_, _, h⟩
 · obtain ⟨a, s, h, _⟩ := laid_sentinel h4 (g := 1) (ti := 166) (tp := 396) (te := 398) (ts := 9) (by kernel_rfl) (by kernel_rfl) Tryz.underlying166 ZR Tryz.underlying396 Tryz.underlying398 rfl rfl Tryz.underlying9 (by kernel_rfl) (by kernel_rfl)
   exact ⟨_, _, h⟩
 · exact Acl (g := 3) (t := 3) (zero := #[.int .i64 0]) hsh (by kernel_rfl) (of_decide_eq_true (by kernel_rfl)) (by kernel_rfl) rfl (by kernel_rfl) (by kernel_rfl) Tryz.underlying3
 · exact Wq (g := 7) (t := ((Tryz.prog.globals[7]?).map (·.type)).getD 0) (zero := (((begin Tryz.prog (fun _ _ => 0) default).world.heap[7]?).bind Obj.row?).elim #[] (·.1)) hsh (of_decide_eq_true (by kernel_rfl)) (by kernel_rfl)
theorem AdI : EW (List ByteArray) (fun l => ∀ x ∈ l, True) Tryz.prog 22 := EW.slice Tryz.underlying22 (EW.string Tryz.underlying9) (by kernel_rfl) (by decide)
theorem ZS {H : Type} {enc : TypeId × Value → H} {P : Program} {T E : TypeId} (ht : P.underlying T = some (.slice E)) {W : World} {base : Nat} {spare : Nat → Bool} {held : Bool} {a : Option Addr} {n c : Nat} {d : DataW H} {ps : List MemPlace} (hd : DataW.Trod enc P W base spare held T (.slice a n c) d ps) : n = 0 ∨ ∃ es rs, d = .slice es rs ∧ es.length = n := by
 obtain ⟨fuel, hf⟩ := hd
 rcases Deep.open_slice ht hf with ⟨h, _⟩ | ⟨a', len, cap, m, k, D, Pl, h, _, _, _, _, hx, _⟩
 · simp [Value.cells] at h
   exact .inl h.2.1
 · simp [Value.cells] at h
   obtain ⟨rfl, rfl, rfl⟩ := h
   simp only [Prod.mk.injEq] at hx
   exact .inr ⟨_, _, hx.1, by simp⟩
theorem Acm {H : Type} {α : Type} [Rep α] {R : List α → Prop} {enc : TypeId × Value → H} {P : Program} {T E : TypeId} (ho : EW (List α) R P T) (ht : P.underlying T = some (.slice E)) {W : World} {base : Nat} {spare : Nat → Bool} {held : Bool} {r : Reach} {b0 : Nat} {v : Value} {d : DataW H} {ps : List MemPlace}
  (hval : Value.okWide P W r b0 T v) (hd : DataW.Trod enc P W base spare held T v d ps) : ∃ (y : List α) (a : Option Addr) (c : Nat), v = .slice a y.length c ∧ F0 (Rk W) a c y ∧ R y := by
 obtain ⟨a, n, c, rfl⟩ := okWide_slice ht hval
 obtain ⟨fuel, hf⟩ := hd
 obtain ⟨y, hy, hR⟩ := ho.of _ _ _ _ _ _ _ _ hf
 obtain ⟨a', c', h1, h2⟩ := hy
 simp only [Value.cells, List.cons.injEq, and_true] at h1
 cases h1
 exact ⟨y, a, c, rfl, h2, hR⟩
def gZ : GE := fun _ => { b := 0, n := 0, c := 0, nl := false }
theorem Y3 {f : FuncId} {l : FQ Ty} {args : List (V Ty)} {vals : List Value} {W : World} (hl : AX Tryz.prog f l) (hf : f ≠ An) (hg : AeU W) (hr : (l args 0 []).runK some = some ⟨false, .bool true, [], 0⟩) (hok : V.oksB (Cl 0) args = true)
  (hd : V.dens gZ (Rk W) args vals) : Calls Tryz.prog f vals.toArray W fun e W' => e = .returned (.bool true) ∧ Below W.heap.size W W' := by
 refine ((hl args 0 [] _ hr ⟨W, Rk W, Ad0⟩ (Rk W) gZ W vals (Ag.begin _ _ _ (ZP W) hg) (fun i c hi => by cases hi) hok hd).calls hf).mono fun e W' h => ?_
 obtain ⟨h', g', u, q1, q2, q3, q4, q5, q6, q7, q8⟩ := h
 unfold V.den at q7
 subst q7
 exact ⟨q8, q3.below⟩
theorem AdJ {g : GE} {h : Ad} : V.dens g h ([] : List (V Ty)) [] := by unfold V.dens; rfl
theorem ZT {g : GE} {h : Ad} {k : Nat} {l : List (Ty k)} {a : Option Addr} {c : Nat} {xs : List (V Ty)} {vals : List Value} (hr : F0 h a c l) (hd : V.dens g h xs vals) : V.dens g h (.lst k l :: xs) (.slice a l.length c :: vals) := by
 unfold V.dens
 refine ⟨_, _, rfl, ?_, hd⟩
 unfold V.den
 exact ⟨a, c, rfl, hr⟩
theorem Bn {a b : Bool} (ha : a = true) (hb : b = true) : (a && b) = true := by rw [ha, hb]; rfl
theorem Acn : mapsRowed Tryz.prog = true := by kernel_rfl
theorem ZU : (Tryz.prog.stops == []) = true := by kernel_rfl
theorem ZV : (Tryz.prog.stopKnobs == []) = true := by kernel_rfl
theorem ZW : (Rows.garagePlaysRow.plainKeys == Tryz.prog.plainKeys) = true := by kernel_rfl
theorem ZX : Tryz.prog.stopsHeard = true := by kernel_rfl
theorem ZY : Tryz.prog.mayEnter = true := by kernel_rfl
theorem ZZ : (Rows.garagePlaysRow.lifted == Tryz.prog.liftsFinal) = true := by kernel_rfl
theorem Aco : (Tryz.prog.make == some Rows.garagePlaysRow.make) = true := by kernel_rfl
theorem Aaa : true = Tryz.prog.looks [] := by kernel_rfl
theorem Acp : Tryz.prog.mainIs = some (Rows.garagePlaysCard.stood.harness.1, Rows.garagePlaysCard.stood.harness.2.toList) := by kernel_rfl
end Go.Proofs.YtkpgggfibljflaaGreatDoor
