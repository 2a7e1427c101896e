/- What a proof leans on: a machine that steps through code, and what functions compute. -/
import Derived.Test.YtkpgggfibljflaaGreatDoorGnS10
import Derived.Lib.SliceRun
set_option linter.all false
set_option maxRecDepth 100000
namespace Go.Proofs.YtkpgggfibljflaaGreatDoor
open Go Go.RowKit Go.Proofs
open Rep (rep)
def cloneB (S : TypeId) : Code := (Code.region 3
              #[{ dst := some 5, op := Op.buildSlice S 0 #[], type := S, pos := "slices.go:362", after := #[], guard := none },
                { dst := some 6, op := Op.move (Operand.tmp 0), type := S, pos := "slices.go:362", after := #[], guard := none },
                { dst := some 7, op := Op.call { callee := Callee.builtin Builtin.append, args := #[Operand.tmp 5, Operand.tmp 6], argTypes := #[S, S] },
                  type := S, pos := "slices.go:362", after := #[{ on := 0, ground := Ground.data }, { on := 1, ground := Ground.data }], guard := none },
                { dst := some 2, op := Op.assign (Operand.tmp 7), type := S, pos := "slices.go:362",
                  after := #[{ on := 2, ground := Ground.data }, { on := 2, ground := Ground.chain }, { on := 0, ground := Ground.phase }, { on := 1, ground := Ground.phase }, { on := 2, ground := Ground.phase }],
                  guard := none }]
              false).seq
          Code.ret
def cloneC (S : TypeId) : Code := (Code.region 0
          #[{ dst := some 2, op := Op.assign (Operand.const (Value.slice none 0 0)), type := S, pos := "slices.go:355", after := #[], guard := none }]
          false).seq
      (((Code.region 1
                #[{ dst := some 3, op := Op.move (Operand.tmp 0), type := S, pos := "slices.go:357", after := #[], guard := none },
                  { dst := some 4, op := Op.binOp BinOp.eql S (Operand.tmp 3) (Operand.const (Value.slice none 0 0)) S, type := 4,
                    pos := "slices.go:357", after := #[{ on := 0, ground := Ground.data }], guard := none }]
                false).seq
            (Code.cond (Operand.tmp 4)
              ((Code.region 2
                    #[{ dst := some 2, op := Op.assign (Operand.const (Value.slice none 0 0)), type := S, pos := "slices.go:358", after := #[], guard := none }]
                    false).seq
                Code.ret)
              Code.skip)).seq
        (cloneB S))
noncomputable def cloneLf (k : Nat) (l z : List (Ty k)) : Lf Ty := ⟨.ret, ⟨[(2, .hdr k 2128), (7, .hdr k 2128), (6, .lst k l), (5, .hdr k 2000), (0, .lst k l)], [(2128, .row k z)], 2256⟩⟩
noncomputable def cloneF (k : Nat) (y : C.Ds Ty (snds [(0, C.l k)])) : Option (YT Ty [⟨.ret, [], [], [.o k]⟩]) := (app [] (y.1 : List (Ty k))).bind fun z => some ((z, ()) : List (Ty k) × Unit)
theorem clone_body (S k : Nat) (fn : Func) (hn : fn.ntmps = 8) (hres : fn.results = #[.tmp 2]) (hu : Tryz.prog.underlying S = some (.slice k)) (hsz : 0 < Rep.sz (Ty k))
    (hB : ∀ l : List (Ty k), (exec Tryz.prog 8 (callT Tryz.prog [] []) (cutsOf []) (cloneB S) ⟨[(0, .lst k l)], [], 2000⟩).runK some = (app [] l).bind fun z => some (cloneLf k l z))
    (hN : typeRs 0 false ([.nils] : List (V Ty)) ⟨[], [], 2000⟩ [⟨.ret, [], [], [.o k]⟩] = some (([], ()) : List (Ty k) × Unit)) (hZ : ∀ z : List (Ty k), typeRs 0 false ([.hdr k 2128] : List (V Ty)) ⟨[], [(2128, .row k z)], 2256⟩ [⟨.ret, [], [], [.o k]⟩] = some ((z, ()) : List (Ty k) × Unit))
    (x : C.Ds Ty (snds [(0, C.l k)])) (y : YT Ty [⟨.ret, [], [], [.o k]⟩]) (hy : cloneF k x = some y) (F : Fr) (h : Heap) (g : GE) (t : Array Value) (w : World) (R : Ending → World → Prop) (hs : RS fn.ntmps F h g (2 * rowB) (embS [(0, C.l k)] x).m (embS [(0, C.l k)] x).s t w)
    (hfin : ∀ (F3 : Fr) (h2 : Heap) (g2 : GE) (w3 : World) (st : St Ty) (p : Bool) (rv : List (V Ty)) (rus : List Value), st.m = [] → FD F F3 [] [] → Heap.le h h2 → (∀ i, i < 2 * rowB → g2 i = g i) → 2 * rowB ≤ st.nx → MemV F3 h2 g2 (AL.get st.s) w3 → InS st.nx (AL.get st.s) → typeRs 0 p rv st [⟨.ret, [], [], [.o k]⟩] = some y → V.dens g2 h2 rv rus → V.oksB (ltN st.nx) rv = true → R (endOf p (tupU rus)) w3) :
    (cloneC S).wp Tryz.prog (bodyPostM Fence.wide 0 Tryz.prog fn R) ⟨t, []⟩ w := by
  rw [hn] at hs
  obtain ⟨l, ⟨⟩⟩ := x
  have hl : List (Ty k) := l
  obtain ⟨u, hu0, hd⟩ := hs.kn 0 (.lst k l) rfl
  unfold V.den at hd
  obtain ⟨a, c, rfl, hr⟩ := hd
  have q : ∀ (w : World) (a : Option Addr) (n c : Nat), (binOp .eql S (.slice a n c) (.slice none 0 0)).run Tryz.prog w = .ok (.bool a.isNone) w := fun w a n c => Lib.run_eql_slice_nil w _ _ a n c 0 0 hu
  have hts := hs.size
  have h0 : 0 < t.size := by omega
  have hu1 : t[0]'h0 = .slice a l.length c := by rw [Array.getElem?_eq_getElem h0] at hu0; exact Option.some.inj hu0
  have gq : ∀ w, (eqGuard .eql S (.tmp 3) (.const (.slice none 0 0)) (.slice a l.length c) (.slice none 0 0)).run Tryz.prog w = .ok () w := fun w => guard_no (P := Tryz.prog) .eql S (.tmp 3) (.const (.slice none 0 0)) _ _ w (by simp) (by simp)
  unfold cloneC
  refine wp_seq (wp_region ?_)
  simp [wpOps, go_sem, Region.wanted, Act.eval]
  refine .inl (wp_seq (wp_seq (wp_region ?_)))
  simp [wpOps, go_sem, Region.wanted, Act.eval, hu1, hts, q, gq]
  refine .inl (.inl (wp_cond_split (t := a.isNone) (by simp [Act.eval, hts]) (fun ha => ?_) (fun ha => ?_)))
  · have hl0 : l = [] := hr.isNil hsz ha
    refine wp_seq (wp_region ?_)
    simp [wpOps, go_sem, Region.wanted, Act.eval]
    refine .inl (wp_ret ?_)
    show LeavesInM Fence.wide 0 Tryz.prog fn _ R [] .returning w
    refine ⟨.slice none 0 0, ?_, ?_⟩
    · simp [results, hres, go_sem, hts]
    · refine hfin F h g w ⟨[], [], 2000⟩ false [.nils] [.slice none 0 0] rfl (FD.refl F []) (Heap.le_refl _) (fun _ _ => rfl) (by decide) (hs.mem.less (fun i c hi => by cases hi)) (fun i c hi => by cases hi) ?_ ?_ rfl
      · rw [hN, ← hy, hl0]; rfl
      · unfold V.dens V.dens; exact ⟨_, [], rfl, by unfold V.den; rfl, rfl⟩
  · refine wp_skip ?_
    show Code.wp Tryz.prog (cloneB S) _ _ w
    obtain ⟨z, hz, hy2⟩ := Option.bind_eq_some_iff.1 hy
    have hrun := hB l
    rw [hz] at hrun
    refine exec_sound (y := true) (call := callT Tryz.prog [] []) (cuts := cutsOf []) prog_noRow prog_mix (callT_ok (T := []) (I := []) prog_noRow prog_mix trivial trivial) (fun h => by cases h) (cloneB S) (fun h => by cases h) (fun _ _ _ hf => by cases hf) ⟨[(0, .lst k l)], [], 2000⟩ _ hrun F h g _ w _ [] ⟨by simp [hts], ?_, hs.mem.less (fun i c hi => by cases hi), ?_, fun i c hi => by cases hi⟩ ?_
    · intro j v hv
      have hv2 : (bif Nat.beq 0 j then some (V.lst k l) else none) = some v := hv
      cases hb : Nat.beq 0 j with
      | false => rw [hb] at hv2; cases hv2
      | true =>
        rw [hb] at hv2
        cases hv2
        have := Nat.eq_of_beq_eq_true hb
        subst this
        refine ⟨.slice a l.length c, ?_, by unfold V.den; exact ⟨a, c, rfl, hr⟩⟩
        simp [hts, hu1]
    · intro j v hv
      have hv2 : (bif Nat.beq 0 j then some (V.lst k l) else none) = some v := hv
      cases hb : Nat.beq 0 j with
      | false => rw [hb] at hv2; cases hv2
      | true => rw [hb] at hv2; cases hv2; rfl
    · intro F1 d1 h1 g1 t1 w1 q0 q1 q2 q3 q4
      obtain ⟨bs, hd1, nd, hX⟩ := q0.ds
      rw [List.append_nil] at hd1
      show LeavesInM Fence.wide 0 Tryz.prog fn t1 R d1 .returning w1
      rw [hd1]
      refine leaves_marks_V (F := F) (h := h1) (g := g1) (M := AL.get (cloneLf k l z).st.s) (by simp) (fun F3 w3 hf3 hm3 => ?_) bs F1 w1 q0.nil q4.mem nd hX
      obtain ⟨us, r1, r2⟩ := results_sound2 (P := Tryz.prog) (fn := fn) (vs := [.hdr k 2128]) q4.kn hm3 (by rw [hres]; rfl)
      refine ⟨tupU us, r2, ?_⟩
      refine hfin F3 h1 g1 w3 ⟨[], (cloneLf k l z).st.s, 2256⟩ false [.hdr k 2128] us rfl hf3 q1 (fun i hi => q2 i hi) (show 2 * rowB ≤ 2256 by decide) hm3 q4.is_ ?_ r1 rfl
      exact (hZ z).trans hy2
def clone60_D : List (Nat × C) := [(0, .l 60)]
def clone60_E : List Wo := [⟨.ret, [], [], [.o 60]⟩]
def clone60 (n : Nat) (l : List Out) : Option (List Out × Unit) := (app [] l).bind fun z => some (z, ())
noncomputable def clone60_law (n : Nat) : Law Ty := lawC clone60_D 0 clone60_E (fun y => clone60 n y.1)
theorem clone60_lawOk (n : Nat) : LawOk Tryz.prog 262 (clone60_law n) := law_body (c := cloneC 26) Tryz.func262 (by kernel_rfl) (by kernel_rfl) (by decide) rfl (clone_body 26 60 Tryz.f262 (by kernel_rfl) (by kernel_rfl) (by kernel_rfl) (by decide) (fun l => by kernel_rfl) (by kernel_rfl) (fun z => by kernel_rfl))
def clone3_D : List (Nat × C) := [(0, .l 3)]
def clone3_E : List Wo := [⟨.ret, [], [], [.o 3]⟩]
def clone3 (n : Nat) (l : List Int) : Option (List Int × Unit) := (app [] l).bind fun z => some (z, ())
noncomputable def clone3_law (n : Nat) : Law Ty := lawC clone3_D 0 clone3_E (fun y => clone3 n y.1)
theorem clone3_lawOk (n : Nat) : LawOk Tryz.prog 268 (clone3_law n) := law_body (c := cloneC 33) Tryz.func268 (by kernel_rfl) (by kernel_rfl) (by decide) rfl (clone_body 33 3 Tryz.f268 (by kernel_rfl) (by kernel_rfl) (by kernel_rfl) (by decide) (fun l => by kernel_rfl) (by kernel_rfl) (fun z => by kernel_rfl))
def clone62_D : List (Nat × C) := [(0, .l 62)]
def clone62_E : List Wo := [⟨.ret, [], [], [.o 62]⟩]
def clone62 (n : Nat) (l : List Run) : Option (List Run × Unit) := (app [] l).bind fun z => some (z, ())
noncomputable def clone62_law (n : Nat) : Law Ty := lawC clone62_D 0 clone62_E (fun y => clone62 n y.1)
theorem clone62_lawOk (n : Nat) : LawOk Tryz.prog 310 (clone62_law n) := law_body (c := cloneC 27) Tryz.func310 (by kernel_rfl) (by kernel_rfl) (by decide) rfl (clone_body 27 62 Tryz.f310 (by kernel_rfl) (by kernel_rfl) (by kernel_rfl) (by decide) (fun l => by kernel_rfl) (by kernel_rfl) (fun z => by kernel_rfl))
def clone186_D : List (Nat × C) := [(0, .l 186)]
def clone186_E : List Wo := [⟨.ret, [], [], [.o 186]⟩]
def clone186 (n : Nat) (l : List Driver) : Option (List Driver × Unit) := (app [] l).bind fun z => some (z, ())
noncomputable def clone186_law (n : Nat) : Law Ty := lawC clone186_D 0 clone186_E (fun y => clone186 n y.1)
theorem clone186_lawOk (n : Nat) : LawOk Tryz.prog 314 (clone186_law n) := law_body (c := cloneC 30) Tryz.func314 (by kernel_rfl) (by kernel_rfl) (by decide) rfl (clone_body 30 186 Tryz.f314 (by kernel_rfl) (by kernel_rfl) (by kernel_rfl) (by decide) (fun l => by kernel_rfl) (by kernel_rfl) (fun z => by kernel_rfl))
def clone184_D : List (Nat × C) := [(0, .l 184)]
def clone184_E : List Wo := [⟨.ret, [], [], [.o 184]⟩]
def clone184 (n : Nat) (l : List Duty) : Option (List Duty × Unit) := (app [] l).bind fun z => some (z, ())
noncomputable def clone184_law (n : Nat) : Law Ty := lawC clone184_D 0 clone184_E (fun y => clone184 n y.1)
theorem clone184_lawOk (n : Nat) : LawOk Tryz.prog 315 (clone184_law n) := law_body (c := cloneC 29) Tryz.func315 (by kernel_rfl) (by kernel_rfl) (by decide) rfl (clone_body 29 184 Tryz.f315 (by kernel_rfl) (by kernel_rfl) (by kernel_rfl) (by decide) (fun l => by kernel_rfl) (by kernel_rfl) (fun z => by kernel_rfl))
def clone180_D : List (Nat × C) := [(0, .l 180)]
def clone180_E : List Wo := [⟨.ret, [], [], [.o 180]⟩]
def clone180 (n : Nat) (l : List Card) : Option (List Card × Unit) := (app [] l).bind fun z => some (z, ())
noncomputable def clone180_law (n : Nat) : Law Ty := lawC clone180_D 0 clone180_E (fun y => clone180 n y.1)
theorem clone180_lawOk (n : Nat) : LawOk Tryz.prog 340 (clone180_law n) := law_body (c := cloneC 25) Tryz.func340 (by kernel_rfl) (by kernel_rfl) (by decide) rfl (clone_body 25 180 Tryz.f340 (by kernel_rfl) (by kernel_rfl) (by kernel_rfl) (by decide) (fun l => by kernel_rfl) (by kernel_rfl) (fun z => by kernel_rfl))
def clone93_D : List (Nat × C) := [(0, .l 93)]
def clone93_E : List Wo := [⟨.ret, [], [], [.o 93]⟩]
def clone93 (n : Nat) (l : List Record) : Option (List Record × Unit) := (app [] l).bind fun z => some (z, ())
noncomputable def clone93_law (n : Nat) : Law Ty := lawC clone93_D 0 clone93_E (fun y => clone93 n y.1)
theorem clone93_lawOk (n : Nat) : LawOk Tryz.prog 342 (clone93_law n) := law_body (c := cloneC 28) Tryz.func342 (by kernel_rfl) (by kernel_rfl) (by decide) rfl (clone_body 28 93 Tryz.f342 (by kernel_rfl) (by kernel_rfl) (by kernel_rfl) (by decide) (fun l => by kernel_rfl) (by kernel_rfl) (fun z => by kernel_rfl))
end Go.Proofs.YtkpgggfibljflaaGreatDoor
