/- What a proof leans on: a machine that steps through code, and what functions compute. -/
import Derived.Test.YtkpgggfibljflaaGreatDoorGaS17
set_option linter.all false
set_option maxRecDepth 100000
namespace Go.Proofs.YtkpgggfibljflaaGreatDoor
open Go Go.RowKit Go.Proofs
open Rep (rep)
def headC : Code → Code
  | .seq a _ => a
  | c => c
theorem nextS_code : codeOf Tryz.f84 = .seq (headC (codeOf Tryz.f84)) (.seq (headC (dropC 1 (codeOf Tryz.f84))) (dropC 2 (codeOf Tryz.f84))) := by kernel_rfl
def nextS_D : List (Nat × C) := [(0, .u 114), (1, .s 9)]
def nextS_E : List Wo := [⟨.ret, [.u 114], [], [.s 37]⟩]
def nextS (n : Nat) (g : Session) (text : ByteArray) : Option (Session × Int × Unit) := (nextB n g text 0).bind fun y => match y with
  | .inl a => some (a.1, a.2.1.1, ())
  | .inr a => some (a.1, a.2.2.2.1.errno, ())
def nextS_F (n : Nat) (y : C.Ds Ty (snds nextS_D)) : Option (YT Ty nextS_E) := nextS n y.1 y.2.1
noncomputable def nextS_law (n : Nat) : Law Ty := lawC nextS_D 1 nextS_E (nextS_F n)
noncomputable def nextS_st (x : C.Ds Ty (snds nextS_D)) : St Ty := ⟨[(4, .ptr 2000 0), (0, .ptr 0 0), (1, oneOf (UV.view 9 x.2.1))], [(0, .blk (UV.view 114 x.1)), (2000, .blk [.int .i64 0])], 2064⟩
theorem nextS_r0 (x : C.Ds Ty (snds nextS_D)) : (exec Tryz.prog 50 (callT Tryz.prog [] []) (cutsOf []) (headC (codeOf Tryz.f84)) (embS nextS_D x)).runK some = some ⟨.normal, nextS_st x⟩ := by kernel_rfl
theorem nextS_r1 (t : Array Value) (d : List Deferred) (w : World) (Q : Exit → Act → World → Prop) (p : Addr) (ht : t.size = 50) (hp : t[4]? = some (.pointer (some p)))
    (hQ : ∀ t', t'.size = 50 → (∀ k, k ≠ 11 → t'[k]? = t[k]?) → Q .normal ⟨t', ⟨.fn (.func 137) #[.pointer (some p)], #[]⟩ :: d⟩ w) : (headC (dropC 1 (codeOf Tryz.f84))).wp Tryz.prog Q ⟨t, d⟩ w := by
  have hc : headC (dropC 1 (codeOf Tryz.f84)) = Code.region 1
      #[{ dst := some 11, op := Op.makeFunc (Fn.func 137) #[] #[Operand.tmp 4], type := 1, pos := "garage.go:102",
          after := #[], guard := none },
        { dst := none, op := Op.defer { callee := Callee.value (Operand.tmp 11), args := #[], argTypes := #[] },
          type := 0, pos := "garage.go:102", after := #[{ on := 0, ground := Ground.data }], guard := none }]
      false := by kernel_rfl
  rw [hc]
  have hmf : ∀ (fn : Fn) (first cap : Array Value) (w : World), (Instr.makeFunc fn first cap).run Tryz.prog w = .ok (.func fn first cap) w := fun _ _ _ _ => rfl
  have h4 : 4 < t.size := by omega
  have h11 : 11 < t.size := by omega
  have he : t.getD 4 Go.undef = .pointer (some p) := by simp [Array.getD_eq_getD_getElem?, hp]
  refine wp_region ?_
  simp [wpOps, go_sem, hmf, Region.wanted, Act.eval, h11]
  rw [hp]
  exact .inl (.inl (hQ _ (by simp [ht]) fun k hk => by rw [Array.getElem?_setIfInBounds_ne (Ne.symm hk)]))
noncomputable def nextS_m1 (a : Session) (e : Int) : Sto Ty := [(2000, .blk [.int .i64 e]), (0, .blk (UV.view 114 a))]
noncomputable def nextS_lf (k : EK) (a : Session) (e r : Int) : Lf Ty := ⟨k.ext [.ifc 234 (.agg [.int .i64 r])], ⟨[(4, .ptr 2000 0)], nextS_m1 a e, 2064⟩⟩
theorem nextS_cut (Fn : C.Ds Ty (snds nextB_D) → Option (YT Ty nextB_E)) (x : C.Ds Ty (snds nextS_D)) : (cutC nextB_D 2 nextB_E Fn (nextS_st x)).runK some = (Fn (x.1, x.2.1, ((0 : Int), ()), ())).bind fun y => y.elim (fun a => some (nextS_lf .ret a.1 a.2.1.1 0)) (fun a => some (nextS_lf .pan a.1 a.2.1.1 a.2.2.2.1.errno)) := by kernel_rfl
theorem nextS_res {F : Fr} {h : Heap} {g : GE} {t : Array Value} {w : World} {a : Session} {e : Int} (hk : KnV g h ([(4, .ptr 2000 0)] : List (Nat × V Ty)) t) (hm : MemV F h g (AL.get (nextS_m1 a e)) w) : ∃ us, V.dens g h ([.int .i64 e] : List (V Ty)) us ∧ (results Tryz.f84 t).run Tryz.prog w = .ok (tupU us) w :=
  results_sound2 (P := Tryz.prog) (m := [(4, .ptr 2000 0)]) (s := nextS_m1 a e) (vs := [.int .i64 e]) hk hm (by kernel_rfl)
theorem nextS_ty (a : Session) (e : Int) : typeRs 1 false ([.int .i64 e] : List (V Ty)) ⟨[], nextS_m1 a e, 2064⟩ nextS_E = some (a, e, ()) := by kernel_rfl
theorem mem2000 (a : Session) (e : Int) : AL.get (nextS_m1 a e) 2000 = some (.blk [.int .i64 e]) := by kernel_rfl
theorem nextS_body (n : Nat) (x : C.Ds Ty (snds nextS_D)) (y : YT Ty nextS_E) (hy : nextS_F n x = some y) (F : Fr) (h : Heap) (g : GE) (t : Array Value) (w : World) (R : Ending → World → Prop) (hs : RS Tryz.f84.ntmps F h g (2 * rowB) (embS nextS_D x).m (embS nextS_D x).s t w)
    (hfin : ∀ (F3 : Fr) (h2 : Heap) (g2 : GE) (w3 : World) (st : St Ty) (p : Bool) (rv : List (V Ty)) (rus : List Value), st.m = [] → FD F F3 [] [] → Heap.le h h2 → (∀ i, i < 2 * rowB → g2 i = g i) → 2 * rowB ≤ st.nx → MemV F3 h2 g2 (AL.get st.s) w3 → InS st.nx (AL.get st.s) → typeRs 1 p rv st nextS_E = some y → V.dens g2 h2 rv rus → V.oksB (ltN st.nx) rv = true → R (endOf p (tupU rus)) w3) :
    (codeOf Tryz.f84).wp Tryz.prog (bodyPostM Fence.wide 0 Tryz.prog Tryz.f84 R) ⟨t, []⟩ w := by
  have hn : Tryz.f84.ntmps = 50 := by kernel_rfl
  rw [hn] at hs
  rw [nextS_code]
  refine wp_seq ?_
  refine exec_sound (y := true) (call := callT Tryz.prog [] []) (cuts := cutsOf []) prog_noRow prog_mix (callT_ok (T := []) (I := []) prog_noRow prog_mix trivial trivial) (fun h => by cases h) (headC (codeOf Tryz.f84)) (fun h => by cases h) (fun _ _ _ hf => by cases hf) (embS nextS_D x) _ (nextS_r0 x) F h g t w _ [] hs ?_
  intro F1 d1 h1 g1 t1 w1 q0 q1 q2 q3 q4
  have hnx : (embS nextS_D x).nx = 2 * rowB := rfl
  rw [hnx] at q2
  show Code.wp Tryz.prog _ (bodyPostM Fence.wide 0 Tryz.prog Tryz.f84 R) ⟨t1, d1⟩ w1
  refine wp_seq ?_
  obtain ⟨u, hu, hd⟩ := q4.kn 4 (.ptr 2000 0) rfl
  unfold V.den at hd
  subst hd
  refine nextS_r1 t1 d1 w1 _ ⟨(g1 2000).b, 0, none⟩ q4.size hu fun t2 ht2 hk2 => ?_
  show Code.wp Tryz.prog (dropC 2 (codeOf Tryz.f84)) (bodyPostM Fence.wide 0 Tryz.prog Tryz.f84 R) _ w1
  have hcut : CutOk true Tryz.prog 50 (cutC nextB_D 2 nextB_E (nextB_F n)) (dropC 2 (codeOf Tryz.f84)) := cut_ok fun x y hy => nextB_can n hy
  have hk3 : KnV g1 h1 (nextS_st x).m t2 := fun k v hv => by
    obtain ⟨u', e1, e2⟩ := q4.kn k v hv
    refine ⟨u', ?_, e2⟩
    rw [hk2 k ?_]; exact e1
    intro hh
    subst hh
    cases hv
  have hs2 : RS 50 F1 h1 g1 (nextS_st x).nx (nextS_st x).m (nextS_st x).s t2 w1 := ⟨ht2, hk3, q4.mem, q4.im, q4.is_⟩
  -- what comes behind the body
  have fin : ∀ (a : Session) (e : Int), (a, e, ()) = y → ∀ (F3 : Fr) (h2 : Heap) (g2 : GE) (t3 : Array Value) (w3 : World), FD F F3 [] [] → Heap.le h1 h2 → (∀ i, i < 2064 → g2 i = g1 i) → KnV g2 h2 ([(4, .ptr 2000 0)] : List (Nat × V Ty)) t3 → MemV F3 h2 g2 (AL.get (nextS_m1 a e)) w3 → InS 2064 (AL.get (nextS_m1 a e)) → LeavesInM Fence.wide 0 Tryz.prog Tryz.f84 t3 R [] .returning w3 := by
    intro a e hye F3 h2 g2 t3 w3 f1 f2 f3 f4 f5 f6
    obtain ⟨us, r1, r2⟩ := nextS_res f4 f5
    refine ⟨tupU us, r2, ?_⟩
    have hlt : 2 * rowB ≤ 2064 := by decide
    exact hfin F3 h2 g2 w3 ⟨[], nextS_m1 a e, 2064⟩ false [.int .i64 e] us rfl f1 (Heap.le_trans q1 f2) (fun i hi => by rw [f3 i (Nat.lt_of_lt_of_le hi hlt), q2 i hi]) hlt f5 f6 ((nextS_ty a e).trans (congrArg some hye)) r1 rfl
  obtain ⟨bs1, hd1, nd1, hX1⟩ := q0.ds
  rw [List.append_nil] at hd1
  have rest : ∀ (a : Session) (e : Int), (a, e, ()) = y → ∀ (F3 : Fr) (h2 : Heap) (g2 : GE) (t3 : Array Value) (w3 : World), FD F1 F3 [] [] → Heap.le h1 h2 → (∀ i, i < 2064 → g2 i = g1 i) → KnV g2 h2 ([(4, .ptr 2000 0)] : List (Nat × V Ty)) t3 → MemV F3 h2 g2 (AL.get (nextS_m1 a e)) w3 → InS 2064 (AL.get (nextS_m1 a e)) → LeavesInM Fence.wide 0 Tryz.prog Tryz.f84 t3 R d1 .returning w3 := by
    intro a e hye F3 h2 g2 t3 w3 f1 f2 f3 f4 f5 f6
    have := leaves_marks_then (P := Tryz.prog) (F := F) (h := h2) (g := g2) (M := AL.get (nextS_m1 a e)) (fn := Tryz.f84) (t := t3) (R := R) (u := .returning) (rest := []) (by simp) (fun F4 w4 k1 k2 => fin a e hye F4 h2 g2 t3 w4 k1 f2 f3 f4 k2 f6) bs1 F3 w3 ⟨by rw [f1.w, q0.w], by rw [f1.h, q0.h], fun b o hb => f1.X b o (q0.X b o hb), [], rfl, List.nodup_nil, by simp⟩ f5 nd1 fun b hb => ⟨(hX1 b hb).1, f1.X _ _ (hX1 b hb).2⟩
    rw [List.append_nil] at this
    rw [hd1]; exact this
  have hy2 : ((nextB n x.1 x.2.1 0).bind fun y => match y with
    | .inl a => some (a.1, a.2.1.1, ())
    | .inr a => some (a.1, a.2.2.2.1.errno, ())) = some y := hy
  obtain ⟨y0, hy0, hy3⟩ := Option.bind_eq_some_iff.1 hy2
  have hrun := nextS_cut (nextB_F n) x
  have hB : nextB_F n (x.1, x.2.1, ((0 : Int), ()), ()) = some y0 := hy0
  rw [hB] at hrun
  cases y0 with
  | inl a =>
    have hye := Option.some.inj hy3
    refine hcut (nextS_st x) _ hrun F1 h1 g1 t2 w1 _ _ hs2 ?_
    intro F2 d2 h2 g2 t3 w2 p0 p1 p2 p3 p4
    show LeavesInM Fence.wide 0 Tryz.prog Tryz.f84 t3 R d2 .returning w2
    obtain ⟨bs, hd2, nd, hX⟩ := p0.ds
    rw [hd2]
    refine leaves_marks_then (P := Tryz.prog) (F := F1) (h := h2) (g := g2) (M := AL.get (nextS_m1 a.1 a.2.1.1)) (by simp) (fun F4 w4 k1 k2 => ?_) bs F2 w2 p0.nil p4.mem nd hX
    refine ⟨by simp, .inr ⟨fun hh => by simp [Fence.wide] at hh, _, _, 137, #[.pointer (some ⟨(g1 2000).b, 0, none⟩)], rfl, by simp [go_sem], fun _ _ => trivial, ?_⟩⟩
    refine (catch_idle _ w4).mono ?_
    rintro e u' w' ⟨rfl, rfl, rfl⟩
    exact rest a.1 a.2.1.1 hye F4 h2 g2 t3 w' k1 p1 (fun i hi => p2 i hi) p4.kn k2 p4.is_
  | inr a =>
    have hye := Option.some.inj hy3
    refine hcut (nextS_st x) _ hrun F1 h1 g1 t2 w1 _ _ hs2 ?_
    intro F2 d2 h2 g2 t3 w2 p0 p1 p2 p3 p4
    intro v hv _
    show LeavesInM Fence.wide 0 Tryz.prog Tryz.f84 t3 R d2 (.panicking [{ v := v, recovered := false }]) w2
    have hvv : v = .iface 234 (.agg #[.int .i64 a.2.2.2.1.errno]) := by
      have hv : V.den g2 h2 (.ifc 234 (.agg [.int .i64 a.2.2.2.1.errno]) : V Ty) v := hv
      unfold V.den at hv
      obtain ⟨z, rfl, hz⟩ := hv
      unfold V.den at hz
      obtain ⟨us, rfl, hz⟩ := hz
      unfold V.dens at hz
      obtain ⟨u1, us1, rfl, hz1, hz2⟩ := hz
      unfold V.dens at hz2
      unfold V.den at hz1
      subst hz1 hz2
      rfl
    subst hvv
    obtain ⟨bs, hd2, nd, hX⟩ := p0.ds
    rw [hd2]
    refine leaves_marks_then (P := Tryz.prog) (F := F1) (h := h2) (g := g2) (M := AL.get (nextS_m1 a.1 a.2.1.1)) (by simp) (fun F4 w4 k1 k2 => ?_) bs F2 w2 p0.nil p4.mem nd hX
    refine ⟨by simp, .inr ⟨fun hh => by simp [Fence.wide] at hh, _, _, 137, #[.pointer (some ⟨(g1 2000).b, 0, none⟩)], rfl, by simp [go_sem], fun _ _ => trivial, ?_⟩⟩
    have hm20 := mem2000 a.1 a.2.1.1
    obtain ⟨us, T, b1, b2, b3, b4, b5⟩ := k2.blk hm20
    unfold V.dens at b2
    obtain ⟨u1, us1, rfl, b6, b7⟩ := b2
    unfold V.dens at b7
    unfold V.den at b6
    subst b6 b7
    have hg20 : (g2 2000).b = (g1 2000).b := by rw [p2 2000 (show (2000 : Nat) < 2064 by decide)]
    rw [hg20] at b1
    have hlt : (g1 2000).b < w4.heap.size := (Array.getElem?_eq_some_iff.1 b1).1
    have hfz : w4.frozen? ⟨(g1 2000).b, 0, none⟩ = false := by simp [World.frozen?, b1]
    have hcl : w4.cell? ⟨(g1 2000).b, 0, none⟩ = some (.int .i64 a.2.1.1) := by
      have := b5 0 _ rfl
      rw [hg20] at this
      exact this
    refine (catch_panicking ⟨(g1 2000).b, 0, none⟩ a.2.1.1 a.2.2.2.1.errno w4 hlt hcl hfz).mono ?_
    rintro e u' w' ⟨rfl, rfl, rfl⟩
    have ha : (w4.alloc (.cells #[.int .i64 a.2.2.2.1.errno] 234)).heap[(g1 2000).b]? = some (.cells #[.int .i64 a.2.1.1] T (0, 0)) := by
      rw [show (w4.alloc (.cells #[.int .i64 a.2.2.2.1.errno] 234)).heap = w4.heap.push (.cells #[.int .i64 a.2.2.2.1.errno] 234) from rfl, Array.getElem?_push, if_neg (by omega)]
      exact b1
    have hgr : w4.grownBy (w4.alloc (.cells #[.int .i64 a.2.2.2.1.errno] 234)) none := World.grownBy_alloc _ _ none
    have hm5 := (k2.grow hgr).set hm20 b4 (w' := (w4.alloc (.cells #[.int .i64 a.2.2.2.1.errno] 234)).setCell ⟨(g1 2000).b, 0, none⟩ (.int .i64 a.2.2.2.1.errno)) (by rw [hg20]; exact setCell_grown _ ⟨(g1 2000).b, 0, none⟩ _) (c' := .blk [.int .i64 a.2.2.2.1.errno]) ⟨b4, [.int .i64 a.2.2.2.1.errno], T, by rw [hg20]; exact setCell_zero ha, by unfold V.dens V.dens; exact ⟨_, [], rfl, by unfold V.den; rfl, rfl⟩, fun u hu => by simp at hu; subst hu; rfl⟩
    have hsame : Mo.put (AL.get (nextS_m1 a.1 a.2.1.1)) 2000 (some (.blk [.int .i64 a.2.2.2.1.errno])) = AL.get (nextS_m1 a.1 a.2.2.2.1.errno) := by
      funext j
      unfold Mo.put
      by_cases hj : j = 2000
      · subst hj; rw [if_pos rfl, mem2000]
      · rw [if_neg hj]
        show (bif Nat.beq 2000 j then _ else (bif Nat.beq 0 j then _ else none)) = (bif Nat.beq 2000 j then _ else (bif Nat.beq 0 j then _ else none))
        have : Nat.beq 2000 j = false := by
          cases hb : Nat.beq 2000 j with
          | false => rfl
          | true => exact absurd (Nat.eq_of_beq_eq_true hb).symm hj
        rw [this]; rfl
    rw [hsame] at hm5
    have his5 : InS 2064 (AL.get (nextS_m1 a.1 a.2.2.2.1.errno)) := fun i c hi => by
      rw [← hsame] at hi
      unfold Mo.put at hi
      split at hi
      · rename_i hj; subst hj; cases hi; exact ⟨rfl, rfl⟩
      · exact p4.is_ i c hi
    exact rest a.1 a.2.2.2.1.errno hye F4 h2 g2 t3 _ k1 p1 (fun i hi => p2 i hi) p4.kn hm5 his5
theorem nextS_lawOk (n : Nat) : LawOk Tryz.prog 84 (nextS_law n) := law_body Tryz.func84 rfl rfl (by decide) rfl (nextS_body n)
end Go.Proofs.YtkpgggfibljflaaGreatDoor
namespace Go.Proofs.YtkpgggfibljflaaGreatDoor
open Go Go.RowKit Go.Proofs
open Rep (rep)
def fgarage_check_l1_D : List (Nat × C) := [(8, .l 9), (9, .s 3), (10, .s 3)]
def fgarage_check_l1_E : List Wo := [⟨.exit 0, [], [], []⟩, ⟨.ret, [], [(2, .s 3)], []⟩]
def fgarage_check_D : List (Nat × C) := [(0, .l 9)]
def fgarage_check_E : List Wo := [⟨.ret, [], [], [.s 3]⟩]
def fgarage_check_l1 : Nat → (List ByteArray) → Int → Int → Option (Unit ⊕ ((Int × Unit)))
  | 0, _, _, _ => none
  | n + 1, x8, x9, x10 =>
    bif decide (x10 < x9) then ((idx x8 x10).bind fun v0 =>
    bif decide ((↑v0.size : Int) > 200) then (some (.inr (3, ()))) else
    fgarage_check_l1 n x8 x9 (IntKind.i64.wrap (x10 + 1))) else
    some (.inl ())
def fgarage_check_l1_F (n : Nat) (y : C.Ds Ty (snds fgarage_check_l1_D)) : Option (YT Ty fgarage_check_l1_E) := fgarage_check_l1 n y.1 y.2.1 y.2.2.1
noncomputable def fgarage_check_l1_cut (n : Nat) : St Ty → Tr (Lf Ty) := cutC fgarage_check_l1_D 0 fgarage_check_l1_E (fgarage_check_l1_F n)
def fgarage_check (n : Nat) (lines : List ByteArray) : Option ((Int × Unit)) :=
    bif decide ((↑lines.length : Int) > 50) then (some (3, ())) else
    (fgarage_check_l1 n lines (↑lines.length : Int) 0).bind fun v0 =>
    Sum.elim (fun v1 => some (0, ())) (fun v1 => some (v1.fst, ())) (v0)
def fgarage_check_F (n : Nat) (y : C.Ds Ty (snds fgarage_check_D)) : Option (YT Ty fgarage_check_E) := fgarage_check n y.1
noncomputable def fgarage_check_law (n : Nat) : Law Ty := readC (lawC fgarage_check_D 0 fgarage_check_E (fgarage_check_F n))
noncomputable def fgarage_check_T (n : Nat) : List (Nat × Law Ty) := []
theorem fgarage_check_Tok (n : Nat) : LawsOk Tryz.prog (fgarage_check_T n) := trivial
noncomputable def fgarage_check_l1_C (n : Nat) : CutL Ty := []
theorem fgarage_check_l1_rd (n : Nat) (x : C.Ds Ty (snds fgarage_check_l1_D)) : (exec Tryz.prog 18 (callT Tryz.prog (fgarage_check_T n) []) (cutsOf (fgarage_check_l1_C n)) (bodyAt 4 Tryz.f52) (embS fgarage_check_l1_D x)).runK (typeRd 0 fgarage_check_l1_D fgarage_check_l1_E (fgarage_check_l1_F n)) = fgarage_check_l1_F (n + 1) x := by kernel_rfl
theorem fgarage_check_l1_ok (n : Nat) : CutOk true Tryz.prog 18 (fgarage_check_l1_cut n) (.loop (bodyAt 4 Tryz.f52)) := cut_ok fun x y hy => can_loop (Fn := fgarage_check_l1_F) prog_noRow prog_mix (fun n => callT_ok prog_noRow prog_mix (fgarage_check_Tok n) insNil) (fun h => by cases h) (fun h => by cases h) (fun n => (cuts_ok (fn := Tryz.f52) (L := fgarage_check_l1_C n) (ks := []) trivial (by kernel_rfl) (by kernel_rfl))) (by decide) (fun _ => rfl) fgarage_check_l1_rd hy
noncomputable def fgarage_check_C (n : Nat) : CutL Ty := [(.loop 4, fgarage_check_l1_cut n)]
theorem fgarage_check_rd (n : Nat) (x : C.Ds Ty (snds fgarage_check_D)) : (exec Tryz.prog 18 (callT Tryz.prog (fgarage_check_T n) []) (cutsOf (fgarage_check_C n)) (codeOf Tryz.f52) (embS fgarage_check_D x)).runK (typeRt Tryz.prog Tryz.f52.results.toList 0 fgarage_check_E) = fgarage_check_F n x := by kernel_rfl
theorem fgarage_check_lawOk (n : Nat) : LawOk Tryz.prog 52 (fgarage_check_law n) := readC_ok (law_ok Tryz.func52 rfl rfl (by decide) rfl prog_noRow prog_mix (callT_ok prog_noRow prog_mix (fgarage_check_Tok n) insNil) (cuts_ok (fn := Tryz.f52) (L := fgarage_check_C n) (ks := [.loop 4]) ⟨fgarage_check_l1_ok n, trivial⟩ (by kernel_rfl) (by kernel_rfl)) (fgarage_check_rd n))
def flaw_ints_l1_D : List (Nat × C) := [(0, .l 3), (1, .l 3), (5, .s 3)]
def flaw_ints_l1_E : List Wo := [⟨.exit 0, [], [], []⟩, ⟨.ret, [], [(4, .s 4)], []⟩]
def flaw_ints_D : List (Nat × C) := [(0, .l 3), (1, .l 3)]
def flaw_ints_E : List Wo := [⟨.ret, [], [], [.s 4]⟩]
def flaw_ints_l1 : Nat → (List Int) → (List Int) → Int → Option (Unit ⊕ ((Bool × Unit)))
  | 0, _, _, _ => none
  | n + 1, a, b, i =>
    bif decide (i < (↑a.length : Int)) then ((idx a i).bind fun v0 =>
    (idx b i).bind fun v1 =>
    bif v0 != v1 then (some (.inr (false, ()))) else
    flaw_ints_l1 n a b (IntKind.i64.wrap (i + 1))) else
    some (.inl ())
def flaw_ints_l1_F (n : Nat) (y : C.Ds Ty (snds flaw_ints_l1_D)) : Option (YT Ty flaw_ints_l1_E) := flaw_ints_l1 n y.1 y.2.1 y.2.2.1
noncomputable def flaw_ints_l1_cut (n : Nat) : St Ty → Tr (Lf Ty) := cutC flaw_ints_l1_D 0 flaw_ints_l1_E (flaw_ints_l1_F n)
def flaw_ints (n : Nat) (a : List Int) (b : List Int) : Option ((Bool × Unit)) :=
    bif (↑a.length : Int) != (↑b.length : Int) then (some (false, ())) else
    (flaw_ints_l1 n a b 0).bind fun v0 =>
    Sum.elim (fun v1 => some (true, ())) (fun v1 => some (v1.fst, ())) (v0)
def flaw_ints_F (n : Nat) (y : C.Ds Ty (snds flaw_ints_D)) : Option (YT Ty flaw_ints_E) := flaw_ints n y.1 y.2.1
noncomputable def flaw_ints_law (n : Nat) : Law Ty := readC (lawC flaw_ints_D 0 flaw_ints_E (flaw_ints_F n))
noncomputable def flaw_ints_T (n : Nat) : List (Nat × Law Ty) := []
theorem flaw_ints_Tok (n : Nat) : LawsOk Tryz.prog (flaw_ints_T n) := trivial
noncomputable def flaw_ints_l1_C (n : Nat) : CutL Ty := []
theorem flaw_ints_l1_rd (n : Nat) (x : C.Ds Ty (snds flaw_ints_l1_D)) : (exec Tryz.prog 26 (callT Tryz.prog (flaw_ints_T n) []) (cutsOf (flaw_ints_l1_C n)) (bodyAt 4 Tryz.f32) (embS flaw_ints_l1_D x)).runK (typeRd 0 flaw_ints_l1_D flaw_ints_l1_E (flaw_ints_l1_F n)) = flaw_ints_l1_F (n + 1) x := by kernel_rfl
theorem flaw_ints_l1_ok (n : Nat) : CutOk true Tryz.prog 26 (flaw_ints_l1_cut n) (.loop (bodyAt 4 Tryz.f32)) := cut_ok fun x y hy => can_loop (Fn := flaw_ints_l1_F) prog_noRow prog_mix (fun n => callT_ok prog_noRow prog_mix (flaw_ints_Tok n) insNil) (fun h => by cases h) (fun h => by cases h) (fun n => (cuts_ok (fn := Tryz.f32) (L := flaw_ints_l1_C n) (ks := []) trivial (by kernel_rfl) (by kernel_rfl))) (by decide) (fun _ => rfl) flaw_ints_l1_rd hy
noncomputable def flaw_ints_C (n : Nat) : CutL Ty := [(.loop 4, flaw_ints_l1_cut n)]
theorem flaw_ints_rd (n : Nat) (x : C.Ds Ty (snds flaw_ints_D)) : (exec Tryz.prog 26 (callT Tryz.prog (flaw_ints_T n) []) (cutsOf (flaw_ints_C n)) (codeOf Tryz.f32) (embS flaw_ints_D x)).runK (typeRt Tryz.prog Tryz.f32.results.toList 0 flaw_ints_E) = flaw_ints_F n x := by kernel_rfl
theorem flaw_ints_lawOk (n : Nat) : LawOk Tryz.prog 32 (flaw_ints_law n) := readC_ok (law_ok Tryz.func32 rfl rfl (by decide) rfl prog_noRow prog_mix (callT_ok prog_noRow prog_mix (flaw_ints_Tok n) insNil) (cuts_ok (fn := Tryz.f32) (L := flaw_ints_C n) (ks := [.loop 4]) ⟨flaw_ints_l1_ok n, trivial⟩ (by kernel_rfl) (by kernel_rfl)) (flaw_ints_rd n))
def flaw_texts_l1_D : List (Nat × C) := [(0, .l 9), (1, .l 9), (5, .s 3)]
def flaw_texts_l1_E : List Wo := [⟨.exit 0, [], [], []⟩, ⟨.ret, [], [(4, .s 4)], []⟩]
def flaw_texts_D : List (Nat × C) := [(0, .l 9), (1, .l 9)]
def flaw_texts_E : List Wo := [⟨.ret, [], [], [.s 4]⟩]
def flaw_texts_l1 : Nat → (List ByteArray) → (List ByteArray) → Int → Option (Unit ⊕ ((Bool × Unit)))
  | 0, _, _, _ => none
  | n + 1, a, b, i =>
    bif decide (i < (↑a.length : Int)) then ((idx a i).bind fun v0 =>
    (idx b i).bind fun v1 =>
    bif !v0.beq v1 then (some (.inr (false, ()))) else
    flaw_texts_l1 n a b (IntKind.i64.wrap (i + 1))) else
    some (.inl ())
def flaw_texts_l1_F (n : Nat) (y : C.Ds Ty (snds flaw_texts_l1_D)) : Option (YT Ty flaw_texts_l1_E) := flaw_texts_l1 n y.1 y.2.1 y.2.2.1
noncomputable def flaw_texts_l1_cut (n : Nat) : St Ty → Tr (Lf Ty) := cutC flaw_texts_l1_D 0 flaw_texts_l1_E (flaw_texts_l1_F n)
def flaw_texts (n : Nat) (a : List ByteArray) (b : List ByteArray) : Option ((Bool × Unit)) :=
    bif (↑a.length : Int) != (↑b.length : Int) then (some (false, ())) else
    (flaw_texts_l1 n a b 0).bind fun v0 =>
    Sum.elim (fun v1 => some (true, ())) (fun v1 => some (v1.fst, ())) (v0)
def flaw_texts_F (n : Nat) (y : C.Ds Ty (snds flaw_texts_D)) : Option (YT Ty flaw_texts_E) := flaw_texts n y.1 y.2.1
noncomputable def flaw_texts_law (n : Nat) : Law Ty := readC (lawC flaw_texts_D 0 flaw_texts_E (flaw_texts_F n))
noncomputable def flaw_texts_T (n : Nat) : List (Nat × Law Ty) := []
theorem flaw_texts_Tok (n : Nat) : LawsOk Tryz.prog (flaw_texts_T n) := trivial
noncomputable def flaw_texts_l1_C (n : Nat) : CutL Ty := []
theorem flaw_texts_l1_rd (n : Nat) (x : C.Ds Ty (snds flaw_texts_l1_D)) : (exec Tryz.prog 26 (callT Tryz.prog (flaw_texts_T n) []) (cutsOf (flaw_texts_l1_C n)) (bodyAt 4 Tryz.f41) (embS flaw_texts_l1_D x)).runK (typeRd 0 flaw_texts_l1_D flaw_texts_l1_E (flaw_texts_l1_F n)) = flaw_texts_l1_F (n + 1) x := by kernel_rfl
theorem flaw_texts_l1_ok (n : Nat) : CutOk true Tryz.prog 26 (flaw_texts_l1_cut n) (.loop (bodyAt 4 Tryz.f41)) := cut_ok fun x y hy => can_loop (Fn := flaw_texts_l1_F) prog_noRow prog_mix (fun n => callT_ok prog_noRow prog_mix (flaw_texts_Tok n) insNil) (fun h => by cases h) (fun h => by cases h) (fun n => (cuts_ok (fn := Tryz.f41) (L := flaw_texts_l1_C n) (ks := []) trivial (by kernel_rfl) (by kernel_rfl))) (by decide) (fun _ => rfl) flaw_texts_l1_rd hy
noncomputable def flaw_texts_C (n : Nat) : CutL Ty := [(.loop 4, flaw_texts_l1_cut n)]
theorem flaw_texts_rd (n : Nat) (x : C.Ds Ty (snds flaw_texts_D)) : (exec Tryz.prog 26 (callT Tryz.prog (flaw_texts_T n) []) (cutsOf (flaw_texts_C n)) (codeOf Tryz.f41) (embS flaw_texts_D x)).runK (typeRt Tryz.prog Tryz.f41.results.toList 0 flaw_texts_E) = flaw_texts_F n x := by kernel_rfl
theorem flaw_texts_lawOk (n : Nat) : LawOk Tryz.prog 41 (flaw_texts_law n) := readC_ok (law_ok Tryz.func41 rfl rfl (by decide) rfl prog_noRow prog_mix (callT_ok prog_noRow prog_mix (flaw_texts_Tok n) insNil) (cuts_ok (fn := Tryz.f41) (L := flaw_texts_C n) (ks := [.loop 4]) ⟨flaw_texts_l1_ok n, trivial⟩ (by kernel_rfl) (by kernel_rfl)) (flaw_texts_rd n))
def flaw_files_l1_D : List (Nat × C) := [(0, .l 9), (3, .s 3)]
def flaw_files_l1_E : List Wo := [⟨.exit 0, [], [(0, .l 9)], []⟩, ⟨.ret, [], [(2, .s 4)], []⟩]
def flaw_files_D : List (Nat × C) := [(0, .l 9)]
def flaw_files_E : List Wo := [⟨.ret, [], [], [.s 4]⟩]
def flaw_files_l1 : Nat → (List ByteArray) → Int → Option ((List ByteArray × Unit) ⊕ ((Bool × Unit)))
  | 0, _, _ => none
  | n + 1, lines, i =>
    bif decide (i < (↑lines.length : Int)) then ((idx lines i).bind fun v0 =>
    bif decide ((↑v0.size : Int) > 150) then (some (.inr (false, ()))) else
    flaw_files_l1 n lines (IntKind.i64.wrap (i + 1))) else
    some (.inl (lines, ()))
def flaw_files_l1_F (n : Nat) (y : C.Ds Ty (snds flaw_files_l1_D)) : Option (YT Ty flaw_files_l1_E) := flaw_files_l1 n y.1 y.2.1
noncomputable def flaw_files_l1_cut (n : Nat) : St Ty → Tr (Lf Ty) := cutC flaw_files_l1_D 0 flaw_files_l1_E (flaw_files_l1_F n)
def flaw_files (n : Nat) (lines : List ByteArray) : Option ((Bool × Unit)) :=
    (flaw_files_l1 n lines 0).bind fun v0 =>
    Sum.elim (fun v1 => bif decide ((↑v1.fst.length : Int) > 0) then (some (decide ((↑v1.fst.length : Int) ≤ 25), ())) else
    some (false, ())) (fun v1 => some (v1.fst, ())) (v0)
def flaw_files_F (n : Nat) (y : C.Ds Ty (snds flaw_files_D)) : Option (YT Ty flaw_files_E) := flaw_files n y.1
noncomputable def flaw_files_law (n : Nat) : Law Ty := readC (lawC flaw_files_D 0 flaw_files_E (flaw_files_F n))
noncomputable def flaw_files_T (n : Nat) : List (Nat × Law Ty) := []
theorem flaw_files_Tok (n : Nat) : LawsOk Tryz.prog (flaw_files_T n) := trivial
noncomputable def flaw_files_l1_C (n : Nat) : CutL Ty := []
theorem flaw_files_l1_rd (n : Nat) (x : C.Ds Ty (snds flaw_files_l1_D)) : (exec Tryz.prog 24 (callT Tryz.prog (flaw_files_T n) []) (cutsOf (flaw_files_l1_C n)) (bodyAt 2 Tryz.f42) (embS flaw_files_l1_D x)).runK (typeRd 0 flaw_files_l1_D flaw_files_l1_E (flaw_files_l1_F n)) = flaw_files_l1_F (n + 1) x := by kernel_rfl
theorem flaw_files_l1_ok (n : Nat) : CutOk true Tryz.prog 24 (flaw_files_l1_cut n) (.loop (bodyAt 2 Tryz.f42)) := cut_ok fun x y hy => can_loop (Fn := flaw_files_l1_F) prog_noRow prog_mix (fun n => callT_ok prog_noRow prog_mix (flaw_files_Tok n) insNil) (fun h => by cases h) (fun h => by cases h) (fun n => (cuts_ok (fn := Tryz.f42) (L := flaw_files_l1_C n) (ks := []) trivial (by kernel_rfl) (by kernel_rfl))) (by decide) (fun _ => rfl) flaw_files_l1_rd hy
noncomputable def flaw_files_C (n : Nat) : CutL Ty := [(.loop 2, flaw_files_l1_cut n)]
theorem flaw_files_rd (n : Nat) (x : C.Ds Ty (snds flaw_files_D)) : (exec Tryz.prog 24 (callT Tryz.prog (flaw_files_T n) []) (cutsOf (flaw_files_C n)) (codeOf Tryz.f42) (embS flaw_files_D x)).runK (typeRt Tryz.prog Tryz.f42.results.toList 0 flaw_files_E) = flaw_files_F n x := by kernel_rfl
theorem flaw_files_lawOk (n : Nat) : LawOk Tryz.prog 42 (flaw_files_law n) := readC_ok (law_ok Tryz.func42 rfl rfl (by decide) rfl prog_noRow prog_mix (callT_ok prog_noRow prog_mix (flaw_files_Tok n) insNil) (cuts_ok (fn := Tryz.f42) (L := flaw_files_C n) (ks := [.loop 2]) ⟨flaw_files_l1_ok n, trivial⟩ (by kernel_rfl) (by kernel_rfl)) (flaw_files_rd n))
def flaw_list_D : List (Nat × C) := [(0, .l 9)]
def flaw_list_E : List Wo := [⟨.ret, [], [], [.o 9]⟩]
def flaw_list (n : Nat) (l : List ByteArray) : Option ((List ByteArray × Unit)) :=
    (app [] l).bind fun v0 =>
    some (v0, ())
def flaw_list_F (n : Nat) (y : C.Ds Ty (snds flaw_list_D)) : Option (YT Ty flaw_list_E) := flaw_list n y.1
noncomputable def flaw_list_law (n : Nat) : Law Ty := lawC flaw_list_D 0 flaw_list_E (flaw_list_F n)
noncomputable def flaw_list_T (n : Nat) : List (Nat × Law Ty) := []
theorem flaw_list_Tok (n : Nat) : LawsOk Tryz.prog (flaw_list_T n) := trivial
noncomputable def flaw_list_C (n : Nat) : CutL Ty := []
theorem flaw_list_rd (n : Nat) (x : C.Ds Ty (snds flaw_list_D)) : (exec Tryz.prog 6 (callT Tryz.prog (flaw_list_T n) []) (cutsOf (flaw_list_C n)) (codeOf Tryz.f22) (embS flaw_list_D x)).runK (typeRt Tryz.prog Tryz.f22.results.toList 0 flaw_list_E) = flaw_list_F n x := by kernel_rfl
theorem flaw_list_lawOk (n : Nat) : LawOk Tryz.prog 22 (flaw_list_law n) := law_ok Tryz.func22 rfl rfl (by decide) rfl prog_noRow prog_mix (callT_ok prog_noRow prog_mix (flaw_list_Tok n) insNil) (cuts_ok (fn := Tryz.f22) (L := flaw_list_C n) (ks := []) trivial (by kernel_rfl) (by kernel_rfl)) (flaw_list_rd n)
def fref_Digits_l1_D : List (Nat × C) := [(0, .s 3), (1, .s 3), (5, .s 9), (6, .s 3)]
def fref_Digits_l1_E : List Wo := [⟨.exit 0, [], [(5, .s 9)], []⟩]
def fref_Digits_D : List (Nat × C) := [(0, .s 3), (1, .s 3)]
def fref_Digits_E : List Wo := [⟨.ret, [], [], [.s 9]⟩]
def fref_Digits_l1 : Nat → Int → Int → ByteArray → Int → Option ((ByteArray × Unit))
  | 0, _, _, _, _ => none
  | n + 1, n_, many, s, i =>
    bif decide (i < many) then ((strAdd (strI [IK.mk (IntKind.u8.wrap (IntKind.i64.wrap (48 + n_.tmod 10)))]) s).bind fun v0 =>
    fref_Digits_l1 n (IntKind.i64.wrap (n_.tdiv 10)) many v0 (IntKind.i64.wrap (i + 1))) else
    some (s, ())
def fref_Digits_l1_F (n : Nat) (y : C.Ds Ty (snds fref_Digits_l1_D)) : Option (YT Ty fref_Digits_l1_E) := fref_Digits_l1 n y.1 y.2.1 y.2.2.1 y.2.2.2.1
noncomputable def fref_Digits_l1_cut (n : Nat) : St Ty → Tr (Lf Ty) := cutC fref_Digits_l1_D 0 fref_Digits_l1_E (fref_Digits_l1_F n)
def fref_Digits (n : Nat) (n_ : Int) (many : Int) : Option ((ByteArray × Unit)) :=
    (fref_Digits_l1 n n_ many (B []) 0).bind fun v0 =>
    some (v0.fst, ())
def fref_Digits_F (n : Nat) (y : C.Ds Ty (snds fref_Digits_D)) : Option (YT Ty fref_Digits_E) := fref_Digits n y.1 y.2.1
noncomputable def fref_Digits_law (n : Nat) : Law Ty := lawC fref_Digits_D 0 fref_Digits_E (fref_Digits_F n)
noncomputable def fref_Digits_T (n : Nat) : List (Nat × Law Ty) := []
theorem fref_Digits_Tok (n : Nat) : LawsOk Tryz.prog (fref_Digits_T n) := trivial
noncomputable def fref_Digits_l1_C (n : Nat) : CutL Ty := []
theorem fref_Digits_l1_rd (n : Nat) (x : C.Ds Ty (snds fref_Digits_l1_D)) : (exec Tryz.prog 23 (callT Tryz.prog (fref_Digits_T n) []) (cutsOf (fref_Digits_l1_C n)) (bodyAt 3 Tryz.f128) (embS fref_Digits_l1_D x)).runK (typeRd 0 fref_Digits_l1_D fref_Digits_l1_E (fref_Digits_l1_F n)) = fref_Digits_l1_F (n + 1) x := by kernel_rfl
theorem fref_Digits_l1_ok (n : Nat) : CutOk true Tryz.prog 23 (fref_Digits_l1_cut n) (.loop (bodyAt 3 Tryz.f128)) := cut_ok fun x y hy => can_loop (Fn := fref_Digits_l1_F) prog_noRow prog_mix (fun n => callT_ok prog_noRow prog_mix (fref_Digits_Tok n) insNil) (fun h => by cases h) (fun h => by cases h) (fun n => (cuts_ok (fn := Tryz.f128) (L := fref_Digits_l1_C n) (ks := []) trivial (by kernel_rfl) (by kernel_rfl))) (by decide) (fun _ => rfl) fref_Digits_l1_rd hy
noncomputable def fref_Digits_C (n : Nat) : CutL Ty := [(.loop 3, fref_Digits_l1_cut n)]
theorem fref_Digits_rd (n : Nat) (x : C.Ds Ty (snds fref_Digits_D)) : (exec Tryz.prog 23 (callT Tryz.prog (fref_Digits_T n) []) (cutsOf (fref_Digits_C n)) (codeOf Tryz.f128) (embS fref_Digits_D x)).runK (typeRt Tryz.prog Tryz.f128.results.toList 0 fref_Digits_E) = fref_Digits_F n x := by kernel_rfl
theorem fref_Digits_lawOk (n : Nat) : LawOk Tryz.prog 128 (fref_Digits_law n) := law_ok Tryz.func128 rfl rfl (by decide) rfl prog_noRow prog_mix (callT_ok prog_noRow prog_mix (fref_Digits_Tok n) insNil) (cuts_ok (fn := Tryz.f128) (L := fref_Digits_C n) (ks := [.loop 3]) ⟨fref_Digits_l1_ok n, trivial⟩ (by kernel_rfl) (by kernel_rfl)) (fref_Digits_rd n)
def fref_Check_l1_D : List (Nat × C) := [(0, .s 9), (5, .s 3), (6, .s 3)]
def fref_Check_l1_E : List Wo := [⟨.exit 0, [], [(5, .s 3)], []⟩]
def fref_Check_D : List (Nat × C) := [(0, .s 9), (1, .s 3)]
def fref_Check_E : List Wo := [⟨.ret, [], [], [.s 3]⟩]
def fref_Check_l1 : Nat → ByteArray → Int → Int → Option ((Int × Unit))
  | 0, _, _, _ => none
  | n + 1, line, sum, i =>
    bif decide (i < (↑line.size : Int)) then ((strAt line i).bind fun v0 =>
    fref_Check_l1 n line (IntKind.i64.wrap (sum + IntKind.i64.wrap (IntKind.i64.wrap (i + 1) * IntKind.i64.wrap (IntKind.i64.wrap v0.n + 1)))) (IntKind.i64.wrap (i + 1))) else
    some (sum, ())
def fref_Check_l1_F (n : Nat) (y : C.Ds Ty (snds fref_Check_l1_D)) : Option (YT Ty fref_Check_l1_E) := fref_Check_l1 n y.1 y.2.1 y.2.2.1
noncomputable def fref_Check_l1_cut (n : Nat) : St Ty → Tr (Lf Ty) := cutC fref_Check_l1_D 0 fref_Check_l1_E (fref_Check_l1_F n)
def fref_Check (n : Nat) (line : ByteArray) (index : Int) : Option ((Int × Unit)) :=
    (fref_Check_l1 n line (IntKind.i64.wrap (7 * IntKind.i64.wrap (index + 1))) 0).bind fun v0 =>
    some (v0.fst.tmod 99991, ())
def fref_Check_F (n : Nat) (y : C.Ds Ty (snds fref_Check_D)) : Option (YT Ty fref_Check_E) := fref_Check n y.1 y.2.1
noncomputable def fref_Check_law (n : Nat) : Law Ty := lawC fref_Check_D 0 fref_Check_E (fref_Check_F n)
noncomputable def fref_Check_T (n : Nat) : List (Nat × Law Ty) := []
theorem fref_Check_Tok (n : Nat) : LawsOk Tryz.prog (fref_Check_T n) := trivial
noncomputable def fref_Check_l1_C (n : Nat) : CutL Ty := []
theorem fref_Check_l1_rd (n : Nat) (x : C.Ds Ty (snds fref_Check_l1_D)) : (exec Tryz.prog 28 (callT Tryz.prog (fref_Check_T n) []) (cutsOf (fref_Check_l1_C n)) (bodyAt 3 Tryz.f129) (embS fref_Check_l1_D x)).runK (typeRd 0 fref_Check_l1_D fref_Check_l1_E (fref_Check_l1_F n)) = fref_Check_l1_F (n + 1) x := by kernel_rfl
theorem fref_Check_l1_ok (n : Nat) : CutOk true Tryz.prog 28 (fref_Check_l1_cut n) (.loop (bodyAt 3 Tryz.f129)) := cut_ok fun x y hy => can_loop (Fn := fref_Check_l1_F) prog_noRow prog_mix (fun n => callT_ok prog_noRow prog_mix (fref_Check_Tok n) insNil) (fun h => by cases h) (fun h => by cases h) (fun n => (cuts_ok (fn := Tryz.f129) (L := fref_Check_l1_C n) (ks := []) trivial (by kernel_rfl) (by kernel_rfl))) (by decide) (fun _ => rfl) fref_Check_l1_rd hy
noncomputable def fref_Check_C (n : Nat) : CutL Ty := [(.loop 3, fref_Check_l1_cut n)]
theorem fref_Check_rd (n : Nat) (x : C.Ds Ty (snds fref_Check_D)) : (exec Tryz.prog 28 (callT Tryz.prog (fref_Check_T n) []) (cutsOf (fref_Check_C n)) (codeOf Tryz.f129) (embS fref_Check_D x)).runK (typeRt Tryz.prog Tryz.f129.results.toList 0 fref_Check_E) = fref_Check_F n x := by kernel_rfl
theorem fref_Check_lawOk (n : Nat) : LawOk Tryz.prog 129 (fref_Check_law n) := law_ok Tryz.func129 rfl rfl (by decide) rfl prog_noRow prog_mix (callT_ok prog_noRow prog_mix (fref_Check_Tok n) insNil) (cuts_ok (fn := Tryz.f129) (L := fref_Check_C n) (ks := [.loop 3]) ⟨fref_Check_l1_ok n, trivial⟩ (by kernel_rfl) (by kernel_rfl)) (fref_Check_rd n)
def fref_Right_l1_D : List (Nat × C) := [(0, .l 9), (3, .s 3)]
def fref_Right_l1_E : List Wo := [⟨.exit 0, [], [(0, .l 9)], []⟩, ⟨.ret, [], [(2, .s 4)], []⟩]
def fref_Right_D : List (Nat × C) := [(0, .l 9)]
def fref_Right_E : List Wo := [⟨.ret, [], [], [.s 4]⟩]
def fref_Right_l1 : Nat → (List ByteArray) → Int → Option ((List ByteArray × Unit) ⊕ ((Bool × Unit)))
  | 0, _, _ => none
  | n + 1, lines, i =>
    bif decide (i < (↑lines.length : Int)) then ((idx lines i).bind fun v0 =>
    bif decide ((↑v0.size : Int) > 200) then (some (.inr (false, ()))) else
    fref_Right_l1 n lines (IntKind.i64.wrap (i + 1))) else
    some (.inl (lines, ()))
def fref_Right_l1_F (n : Nat) (y : C.Ds Ty (snds fref_Right_l1_D)) : Option (YT Ty fref_Right_l1_E) := fref_Right_l1 n y.1 y.2.1
noncomputable def fref_Right_l1_cut (n : Nat) : St Ty → Tr (Lf Ty) := cutC fref_Right_l1_D 0 fref_Right_l1_E (fref_Right_l1_F n)
def fref_Right (n : Nat) (lines : List ByteArray) : Option ((Bool × Unit)) :=
    (fref_Right_l1 n lines 0).bind fun v0 =>
    Sum.elim (fun v1 => some (decide ((↑v1.fst.length : Int) ≤ 50), ())) (fun v1 => some (v1.fst, ())) (v0)
def fref_Right_F (n : Nat) (y : C.Ds Ty (snds fref_Right_D)) : Option (YT Ty fref_Right_E) := fref_Right n y.1
noncomputable def fref_Right_law (n : Nat) : Law Ty := readC (lawC fref_Right_D 0 fref_Right_E (fref_Right_F n))
noncomputable def fref_Right_T (n : Nat) : List (Nat × Law Ty) := []
theorem fref_Right_Tok (n : Nat) : LawsOk Tryz.prog (fref_Right_T n) := trivial
noncomputable def fref_Right_l1_C (n : Nat) : CutL Ty := []
theorem fref_Right_l1_rd (n : Nat) (x : C.Ds Ty (snds fref_Right_l1_D)) : (exec Tryz.prog 19 (callT Tryz.prog (fref_Right_T n) []) (cutsOf (fref_Right_l1_C n)) (bodyAt 2 Tryz.f23) (embS fref_Right_l1_D x)).runK (typeRd 0 fref_Right_l1_D fref_Right_l1_E (fref_Right_l1_F n)) = fref_Right_l1_F (n + 1) x := by kernel_rfl
theorem fref_Right_l1_ok (n : Nat) : CutOk true Tryz.prog 19 (fref_Right_l1_cut n) (.loop (bodyAt 2 Tryz.f23)) := cut_ok fun x y hy => can_loop (Fn := fref_Right_l1_F) prog_noRow prog_mix (fun n => callT_ok prog_noRow prog_mix (fref_Right_Tok n) insNil) (fun h => by cases h) (fun h => by cases h) (fun n => (cuts_ok (fn := Tryz.f23) (L := fref_Right_l1_C n) (ks := []) trivial (by kernel_rfl) (by kernel_rfl))) (by decide) (fun _ => rfl) fref_Right_l1_rd hy
noncomputable def fref_Right_C (n : Nat) : CutL Ty := [(.loop 2, fref_Right_l1_cut n)]
theorem fref_Right_rd (n : Nat) (x : C.Ds Ty (snds fref_Right_D)) : (exec Tryz.prog 19 (callT Tryz.prog (fref_Right_T n) []) (cutsOf (fref_Right_C n)) (codeOf Tryz.f23) (embS fref_Right_D x)).runK (typeRt Tryz.prog Tryz.f23.results.toList 0 fref_Right_E) = fref_Right_F n x := by kernel_rfl
theorem fref_Right_lawOk (n : Nat) : LawOk Tryz.prog 23 (fref_Right_law n) := readC_ok (law_ok Tryz.func23 rfl rfl (by decide) rfl prog_noRow prog_mix (callT_ok prog_noRow prog_mix (fref_Right_Tok n) insNil) (cuts_ok (fn := Tryz.f23) (L := fref_Right_C n) (ks := [.loop 2]) ⟨fref_Right_l1_ok n, trivial⟩ (by kernel_rfl) (by kernel_rfl)) (fref_Right_rd n))
def fgarage_begin_D : List (Nat × C) := []
def fgarage_begin_E : List Wo := [⟨.ret, [], [], [.u 114]⟩]
def fgarage_begin (n : Nat) : Option ((Session × Unit)) :=
    some (Session.mk (State.mk [] [] [] [] (Week.mk 7 [] [] 600 5 3000) []), ())
def fgarage_begin_F (n : Nat) (y : C.Ds Ty (snds fgarage_begin_D)) : Option (YT Ty fgarage_begin_E) := fgarage_begin n
noncomputable def fgarage_begin_law (n : Nat) : Law Ty := lawC fgarage_begin_D 0 fgarage_begin_E (fgarage_begin_F n)
noncomputable def fgarage_begin_T (n : Nat) : List (Nat × Law Ty) := []
theorem fgarage_begin_Tok (n : Nat) : LawsOk Tryz.prog (fgarage_begin_T n) := trivial
noncomputable def fgarage_begin_C (n : Nat) : CutL Ty := []
theorem fgarage_begin_rd (n : Nat) (x : C.Ds Ty (snds fgarage_begin_D)) : (exec Tryz.prog 5 (callT Tryz.prog (fgarage_begin_T n) []) (cutsOf (fgarage_begin_C n)) (codeOf Tryz.f101) (embS fgarage_begin_D x)).runK (typeRt Tryz.prog Tryz.f101.results.toList 0 fgarage_begin_E) = fgarage_begin_F n x := by kernel_rfl
theorem fgarage_begin_lawOk (n : Nat) : LawOk Tryz.prog 101 (fgarage_begin_law n) := law_ok Tryz.func101 rfl rfl (by decide) rfl prog_noRow prog_mix (callT_ok prog_noRow prog_mix (fgarage_begin_Tok n) insNil) (cuts_ok (fn := Tryz.f101) (L := fgarage_begin_C n) (ks := []) trivial (by kernel_rfl) (by kernel_rfl)) (fgarage_begin_rd n)
def fgarage_play_l1_D : List (Nat × C) := [(4, .u 114), (5, .f 84 [.q 0] []), (6, .o 37), (12, .l 9), (13, .s 3), (14, .s 3)]
def fgarage_play_l1_E : List Wo := [⟨.exit 0, [.u 114], [(4, .q 0), (6, .o 37)], []⟩]
def fgarage_play_D : List (Nat × C) := [(0, .l 9)]
def fgarage_play_E : List Wo := [⟨.ret, [], [], [.u 114, .l 37]⟩]
def fgarage_play_l1 : Nat → Session → (List Int) → (List ByteArray) → Int → Int → Option ((Session × Unit × List Int × Unit))
  | 0, _, _, _, _, _ => none
  | n + 1, g, errors, x12, x13, x14 =>
    bif decide (x14 < x13) then ((idx x12 x14).bind fun v0 =>
    (nextS n g v0).bind fun v1 =>
    (app errors [v1.snd.fst]).bind fun v2 =>
    fgarage_play_l1 n v1.fst v2 x12 x13 (IntKind.i64.wrap (x14 + 1))) else
    some (g, ((), (errors, ())))
def fgarage_play_l1_F (n : Nat) (y : C.Ds Ty (snds fgarage_play_l1_D)) : Option (YT Ty fgarage_play_l1_E) := fgarage_play_l1 n y.1 y.2.2.1 y.2.2.2.1 y.2.2.2.2.1 y.2.2.2.2.2.1
noncomputable def fgarage_play_l1_cut (n : Nat) : St Ty → Tr (Lf Ty) := cutC fgarage_play_l1_D 1 fgarage_play_l1_E (fgarage_play_l1_F n)
def fgarage_play (n : Nat) (lines : List ByteArray) : Option ((Session × List Int × Unit)) :=
    (fgarage_begin n).bind fun v0 =>
    (fgarage_play_l1 n v0.fst [] lines (↑lines.length : Int) 0).bind fun v1 =>
    some (v1.fst, (v1.snd.snd.fst, ()))
def fgarage_play_F (n : Nat) (y : C.Ds Ty (snds fgarage_play_D)) : Option (YT Ty fgarage_play_E) := fgarage_play n y.1
noncomputable def fgarage_play_law (n : Nat) : Law Ty := lendS (lawC fgarage_play_D 0 fgarage_play_E (fgarage_play_F n))
noncomputable def fgarage_play_T (n : Nat) : List (Nat × Law Ty) := [(101, fgarage_begin_law n), (84, nextS_law n)]
theorem fgarage_play_Tok (n : Nat) : LawsOk Tryz.prog (fgarage_play_T n) := ⟨fgarage_begin_lawOk n, ⟨nextS_lawOk n, trivial⟩⟩
noncomputable def fgarage_play_l1_C (n : Nat) : CutL Ty := []
theorem fgarage_play_l1_rd (n : Nat) (x : C.Ds Ty (snds fgarage_play_l1_D)) : (exec Tryz.prog 27 (callT Tryz.prog (fgarage_play_T n) []) (cutsOf (fgarage_play_l1_C n)) (bodyAt 5 Tryz.f53) (embS fgarage_play_l1_D x)).runK (typeRd 1 fgarage_play_l1_D fgarage_play_l1_E (fgarage_play_l1_F n)) = fgarage_play_l1_F (n + 1) x := by kernel_rfl
theorem fgarage_play_l1_ok (n : Nat) : CutOk true Tryz.prog 27 (fgarage_play_l1_cut n) (.loop (bodyAt 5 Tryz.f53)) := cut_ok fun x y hy => can_loop (Fn := fgarage_play_l1_F) prog_noRow prog_mix (fun n => callT_ok prog_noRow prog_mix (fgarage_play_Tok n) insNil) (fun h => by cases h) (fun h => by cases h) (fun n => (cuts_ok (fn := Tryz.f53) (L := fgarage_play_l1_C n) (ks := []) trivial (by kernel_rfl) (by kernel_rfl))) (by decide) (fun _ => rfl) fgarage_play_l1_rd hy
noncomputable def fgarage_play_C (n : Nat) : CutL Ty := [(.loop 5, fgarage_play_l1_cut n)]
theorem fgarage_play_rd (n : Nat) (x : C.Ds Ty (snds fgarage_play_D)) : (exec Tryz.prog 27 (callT Tryz.prog (fgarage_play_T n) []) (cutsOf (fgarage_play_C n)) (codeOf Tryz.f53) (embS fgarage_play_D x)).runK (typeRt Tryz.prog Tryz.f53.results.toList 0 fgarage_play_E) = fgarage_play_F n x := by kernel_rfl
theorem fgarage_play_lawOk (n : Nat) : LawOk Tryz.prog 53 (fgarage_play_law n) := lendS_ok (by decide) (law_ok Tryz.func53 rfl rfl (by decide) rfl prog_noRow prog_mix (callT_ok prog_noRow prog_mix (fgarage_play_Tok n) insNil) (cuts_ok (fn := Tryz.f53) (L := fgarage_play_C n) (ks := [.loop 5]) ⟨fgarage_play_l1_ok n, trivial⟩ (by kernel_rfl) (by kernel_rfl)) (fgarage_play_rd n))
def fgarage_Play_D : List (Nat × C) := [(0, .l 9)]
def fgarage_Play_E : List Wo := [⟨.ret, [], [], [.g 35, .l 37, .s 37]⟩]
def fgarage_Play (n : Nat) (lines : List ByteArray) : Option ((State × List Int × Int × Unit)) :=
    (fgarage_check n lines).bind fun v0 =>
    bif v0.fst != 0 then (some (State.mk [] [] [] [] (Week.mk 0 [] [] 0 0 0) [], ([], (v0.fst, ())))) else
    (fgarage_play n lines).bind fun v1 =>
    some (v1.fst.state, (v1.snd.fst, (0, ())))
def fgarage_Play_F (n : Nat) (y : C.Ds Ty (snds fgarage_Play_D)) : Option (YT Ty fgarage_Play_E) := fgarage_Play n y.1
noncomputable def fgarage_Play_law (n : Nat) : Law Ty := lawC fgarage_Play_D 0 fgarage_Play_E (fgarage_Play_F n)
noncomputable def fgarage_Play_T (n : Nat) : List (Nat × Law Ty) := [(52, fgarage_check_law n), (53, fgarage_play_law n)]
theorem fgarage_Play_Tok (n : Nat) : LawsOk Tryz.prog (fgarage_Play_T n) := ⟨fgarage_check_lawOk n, ⟨fgarage_play_lawOk n, trivial⟩⟩
noncomputable def fgarage_Play_C (n : Nat) : CutL Ty := []
theorem fgarage_Play_rd (n : Nat) (x : C.Ds Ty (snds fgarage_Play_D)) : (exec Tryz.prog 24 (callT Tryz.prog (fgarage_Play_T n) []) (cutsOf (fgarage_Play_C n)) (codeOf Tryz.f21) (embS fgarage_Play_D x)).runK (typeRt Tryz.prog Tryz.f21.results.toList 0 fgarage_Play_E) = fgarage_Play_F n x := by kernel_rfl
theorem fgarage_Play_lawOk (n : Nat) : LawOk Tryz.prog 21 (fgarage_Play_law n) := law_ok Tryz.func21 rfl rfl (by decide) rfl prog_noRow prog_mix (callT_ok prog_noRow prog_mix (fgarage_Play_Tok n) insNil) (cuts_ok (fn := Tryz.f21) (L := fgarage_Play_C n) (ks := []) trivial (by kernel_rfl) (by kernel_rfl)) (fgarage_Play_rd n)
def fgarage_late_1_D : List (Nat × C) := [(0, .s 9), (1, .p [.u 114])]
def fgarage_late_1_E : List Wo := [⟨.ret, [.p [.u 114], .q 1], [], [.s 4]⟩]
def fgarage_late_1 (n : Nat) (text : ByteArray) (x1 : Session) : Option (((Session × Unit) × Unit × Bool × Unit)) :=
    (splitS n text (B [32])).bind fun v0 =>
    (idx v0.fst 0).bind fun v1 =>
    bif !v1.beq (B [111, 117, 116]) then (some ((x1, ()), ((), (false, ())))) else
    (idx v0.fst 1).bind fun v2 =>
    (atoiP v2).bind fun v3 =>
    Sum.elim (fun v4 => (idx v0.fst 2).bind fun v5 =>
    (atoiP v5).bind fun v6 =>
    Sum.elim (fun v7 => (fpit_Open n x1.state.cards v4 v7).bind fun v8 =>
    some ((x1, ()), ((), (decide ((↑v8.fst.length : Int) > 0), ())))) (fun v7 => (fpit_Open n x1.state.cards v4 v7).bind fun v8 =>
    some ((x1, ()), ((), (decide ((↑v8.fst.length : Int) > 0), ())))) (v6)) (fun v4 => (idx v0.fst 2).bind fun v5 =>
    (atoiP v5).bind fun v6 =>
    Sum.elim (fun v7 => (fpit_Open n x1.state.cards v4 v7).bind fun v8 =>
    some ((x1, ()), ((), (decide ((↑v8.fst.length : Int) > 0), ())))) (fun v7 => (fpit_Open n x1.state.cards v4 v7).bind fun v8 =>
    some ((x1, ()), ((), (decide ((↑v8.fst.length : Int) > 0), ())))) (v6)) (v3)
def fgarage_late_1_F (n : Nat) (y : C.Ds Ty (snds fgarage_late_1_D)) : Option (YT Ty fgarage_late_1_E) := fgarage_late_1 n y.1 y.2.1.1
noncomputable def fgarage_late_1_law (n : Nat) : Law Ty := lawC fgarage_late_1_D 2 fgarage_late_1_E (fgarage_late_1_F n)
noncomputable def fgarage_late_1_T (n : Nat) : List (Nat × Law Ty) := [(112, splitS_law n), (113, atoiS_law n), (29, fpit_Open_law n)]
theorem fgarage_late_1_Tok (n : Nat) : LawsOk Tryz.prog (fgarage_late_1_T n) := ⟨splitS_lawOk n, ⟨atoiS_lawOk n, ⟨fpit_Open_lawOk n, trivial⟩⟩⟩
noncomputable def fgarage_late_1_C (n : Nat) : CutL Ty := []
theorem fgarage_late_1_rd (n : Nat) (x : C.Ds Ty (snds fgarage_late_1_D)) : (exec Tryz.prog 45 (callT Tryz.prog (fgarage_late_1_T n) []) (cutsOf (fgarage_late_1_C n)) (codeOf Tryz.f111) (embS fgarage_late_1_D x)).runK (typeRt Tryz.prog Tryz.f111.results.toList 2 fgarage_late_1_E) = fgarage_late_1_F n x := by kernel_rfl
theorem fgarage_late_1_lawOk (n : Nat) : LawOk Tryz.prog 111 (fgarage_late_1_law n) := law_ok Tryz.func111 rfl rfl (by decide) rfl prog_noRow prog_mix (callT_ok prog_noRow prog_mix (fgarage_late_1_Tok n) insNil) (cuts_ok (fn := Tryz.f111) (L := fgarage_late_1_C n) (ks := []) trivial (by kernel_rfl) (by kernel_rfl)) (fgarage_late_1_rd n)
def fgarage_late_l1_D : List (Nat × C) := [(2, .l 37), (6, .o 3), (7, .f 111 [] [.p [.u 114]]), (11, .l 9), (12, .s 3), (13, .s 3)]
def fgarage_late_l1_E : List Wo := [⟨.exit 0, [.p [.u 114], .q 1], [(6, .o 3)], []⟩]
def fgarage_late_D : List (Nat × C) := [(0, .l 9), (1, .u 114), (2, .l 37)]
def fgarage_late_E : List Wo := [⟨.ret, [.u 114], [], [.o 3]⟩]
def fgarage_late_l1 : Nat → (List Int) → (List Int) → Session → (List ByteArray) → Int → Int → Option (((Session × Unit) × Unit × List Int × Unit))
  | 0, _, _, _, _, _, _ => none
  | n + 1, errors, out, is, x11, x12, x13 =>
    bif decide (x13 < x12) then ((idx x11 x13).bind fun v0 =>
    (idx errors x13).bind fun v1 =>
    bif decide (v1 = 0) then ((fgarage_late_1 n v0 is).bind fun v2 =>
    bif v2.snd.snd.fst then ((app out [x13]).bind fun v3 =>
    fgarage_late_l1 n errors v3 v2.fst.fst x11 x12 (IntKind.i64.wrap (x13 + 1))) else
    fgarage_late_l1 n errors out v2.fst.fst x11 x12 (IntKind.i64.wrap (x13 + 1))) else
    fgarage_late_l1 n errors out is x11 x12 (IntKind.i64.wrap (x13 + 1))) else
    some ((is, ()), ((), (out, ())))
def fgarage_late_l1_F (n : Nat) (y : C.Ds Ty (snds fgarage_late_l1_D)) : Option (YT Ty fgarage_late_l1_E) := fgarage_late_l1 n y.1 y.2.1 y.2.2.1.2.1.1 y.2.2.2.1 y.2.2.2.2.1 y.2.2.2.2.2.1
noncomputable def fgarage_late_l1_cut (n : Nat) : St Ty → Tr (Lf Ty) := cutC fgarage_late_l1_D 2 fgarage_late_l1_E (fgarage_late_l1_F n)
def fgarage_late (n : Nat) (lines : List ByteArray) (g : Session) (errors : List Int) : Option ((Session × List Int × Unit)) :=
    (fgarage_late_l1 n errors [] g lines (↑lines.length : Int) 0).bind fun v0 =>
    some (v0.fst.fst, (v0.snd.snd.fst, ()))
def fgarage_late_F (n : Nat) (y : C.Ds Ty (snds fgarage_late_D)) : Option (YT Ty fgarage_late_E) := fgarage_late n y.1 y.2.1 y.2.2.1
noncomputable def fgarage_late_law (n : Nat) : Law Ty := lawC fgarage_late_D 1 fgarage_late_E (fgarage_late_F n)
noncomputable def fgarage_late_T (n : Nat) : List (Nat × Law Ty) := [(111, fgarage_late_1_law n)]
theorem fgarage_late_Tok (n : Nat) : LawsOk Tryz.prog (fgarage_late_T n) := ⟨fgarage_late_1_lawOk n, trivial⟩
noncomputable def fgarage_late_l1_C (n : Nat) : CutL Ty := []
theorem fgarage_late_l1_rd (n : Nat) (x : C.Ds Ty (snds fgarage_late_l1_D)) : (exec Tryz.prog 34 (callT Tryz.prog (fgarage_late_T n) []) (cutsOf (fgarage_late_l1_C n)) (bodyAt 3 Tryz.f70) (embS fgarage_late_l1_D x)).runK (typeRd 2 fgarage_late_l1_D fgarage_late_l1_E (fgarage_late_l1_F n)) = fgarage_late_l1_F (n + 1) x := by kernel_rfl
theorem fgarage_late_l1_ok (n : Nat) : CutOk true Tryz.prog 34 (fgarage_late_l1_cut n) (.loop (bodyAt 3 Tryz.f70)) := cut_ok fun x y hy => can_loop (Fn := fgarage_late_l1_F) prog_noRow prog_mix (fun n => callT_ok prog_noRow prog_mix (fgarage_late_Tok n) insNil) (fun h => by cases h) (fun h => by cases h) (fun n => (cuts_ok (fn := Tryz.f70) (L := fgarage_late_l1_C n) (ks := []) trivial (by kernel_rfl) (by kernel_rfl))) (by decide) (fun _ => rfl) fgarage_late_l1_rd hy
noncomputable def fgarage_late_C (n : Nat) : CutL Ty := [(.loop 3, fgarage_late_l1_cut n)]
theorem fgarage_late_rd (n : Nat) (x : C.Ds Ty (snds fgarage_late_D)) : (exec Tryz.prog 34 (callT Tryz.prog (fgarage_late_T n) []) (cutsOf (fgarage_late_C n)) (codeOf Tryz.f70) (embS fgarage_late_D x)).runK (typeRt Tryz.prog Tryz.f70.results.toList 1 fgarage_late_E) = fgarage_late_F n x := by kernel_rfl
theorem fgarage_late_lawOk (n : Nat) : LawOk Tryz.prog 70 (fgarage_late_law n) := law_ok Tryz.func70 rfl rfl (by decide) rfl prog_noRow prog_mix (callT_ok prog_noRow prog_mix (fgarage_late_Tok n) insNil) (cuts_ok (fn := Tryz.f70) (L := fgarage_late_C n) (ks := [.loop 3]) ⟨fgarage_late_l1_ok n, trivial⟩ (by kernel_rfl) (by kernel_rfl)) (fgarage_late_rd n)
def fgarage_Late_D : List (Nat × C) := [(0, .l 9)]
def fgarage_Late_E : List Wo := [⟨.ret, [], [], [.l 3, .s 37]⟩]
def fgarage_Late (n : Nat) (lines : List ByteArray) : Option ((List Int × Int × Unit)) :=
    (fgarage_check n lines).bind fun v0 =>
    bif v0.fst != 0 then (some ([], (v0.fst, ()))) else
    (fgarage_play n lines).bind fun v1 =>
    (fgarage_late n lines v1.fst v1.snd.fst).bind fun v2 =>
    some (v2.snd.fst, (0, ()))
def fgarage_Late_F (n : Nat) (y : C.Ds Ty (snds fgarage_Late_D)) : Option (YT Ty fgarage_Late_E) := fgarage_Late n y.1
noncomputable def fgarage_Late_law (n : Nat) : Law Ty := lawC fgarage_Late_D 0 fgarage_Late_E (fgarage_Late_F n)
noncomputable def fgarage_Late_T (n : Nat) : List (Nat × Law Ty) := [(52, fgarage_check_law n), (53, fgarage_play_law n), (70, fgarage_late_law n)]
theorem fgarage_Late_Tok (n : Nat) : LawsOk Tryz.prog (fgarage_Late_T n) := ⟨fgarage_check_lawOk n, ⟨fgarage_play_lawOk n, ⟨fgarage_late_lawOk n, trivial⟩⟩⟩
noncomputable def fgarage_Late_C (n : Nat) : CutL Ty := []
theorem fgarage_Late_rd (n : Nat) (x : C.Ds Ty (snds fgarage_Late_D)) : (exec Tryz.prog 21 (callT Tryz.prog (fgarage_Late_T n) []) (cutsOf (fgarage_Late_C n)) (codeOf Tryz.f31) (embS fgarage_Late_D x)).runK (typeRt Tryz.prog Tryz.f31.results.toList 0 fgarage_Late_E) = fgarage_Late_F n x := by kernel_rfl
theorem fgarage_Late_lawOk (n : Nat) : LawOk Tryz.prog 31 (fgarage_Late_law n) := law_ok Tryz.func31 rfl rfl (by decide) rfl prog_noRow prog_mix (callT_ok prog_noRow prog_mix (fgarage_Late_Tok n) insNil) (cuts_ok (fn := Tryz.f31) (L := fgarage_Late_C n) (ks := []) trivial (by kernel_rfl) (by kernel_rfl)) (fgarage_Late_rd n)
def fgarage_digits_D : List (Nat × C) := [(0, .s 3), (1, .s 3)]
def fgarage_digits_E : List Wo := [⟨.ret, [], [], [.s 9]⟩]
def fgarage_digits (n : Nat) (n_ : Int) (many : Int) : Option ((ByteArray × Unit)) :=
    (itoaS n n_).bind fun v0 =>
    (repeatS n (B [48]) (if IntKind.i64.wrap (many - (↑v0.fst.size : Int)) > 0 then IntKind.i64.wrap (many - (↑v0.fst.size : Int)) else 0)).bind fun v1 =>
    (strAdd v1.fst v0.fst).bind fun v2 =>
    some (v2, ())
def fgarage_digits_F (n : Nat) (y : C.Ds Ty (snds fgarage_digits_D)) : Option (YT Ty fgarage_digits_E) := fgarage_digits n y.1 y.2.1
noncomputable def fgarage_digits_law (n : Nat) : Law Ty := lawC fgarage_digits_D 0 fgarage_digits_E (fgarage_digits_F n)
noncomputable def fgarage_digits_T (n : Nat) : List (Nat × Law Ty) := [(89, itoaS_law n), (244, repeatS_law n)]
theorem fgarage_digits_Tok (n : Nat) : LawsOk Tryz.prog (fgarage_digits_T n) := ⟨itoaS_lawOk n, ⟨repeatS_lawOk n, trivial⟩⟩
noncomputable def fgarage_digits_C (n : Nat) : CutL Ty := []
theorem fgarage_digits_rd (n : Nat) (x : C.Ds Ty (snds fgarage_digits_D)) : (exec Tryz.prog 16 (callT Tryz.prog (fgarage_digits_T n) []) (cutsOf (fgarage_digits_C n)) (codeOf Tryz.f181) (embS fgarage_digits_D x)).runK (typeRt Tryz.prog Tryz.f181.results.toList 0 fgarage_digits_E) = fgarage_digits_F n x := by kernel_rfl
theorem fgarage_digits_lawOk (n : Nat) : LawOk Tryz.prog 181 (fgarage_digits_law n) := law_ok Tryz.func181 rfl rfl (by decide) rfl prog_noRow prog_mix (callT_ok prog_noRow prog_mix (fgarage_digits_Tok n) insNil) (cuts_ok (fn := Tryz.f181) (L := fgarage_digits_C n) (ks := []) trivial (by kernel_rfl) (by kernel_rfl)) (fgarage_digits_rd n)
def fgarage_record_l1_D : List (Nat × C) := [(0, .s 9), (5, .s 3), (12, .l 5), (13, .s 3), (14, .s 3)]
def fgarage_record_l1_E : List Wo := [⟨.exit 0, [], [(0, .s 9), (5, .s 3)], []⟩]
def fgarage_record_D : List (Nat × C) := [(0, .s 9), (1, .s 3)]
def fgarage_record_E : List Wo := [⟨.ret, [], [], [.s 9]⟩]
def fgarage_record_l1 : Nat → ByteArray → Int → (List (IK .u8)) → Int → Int → Option ((ByteArray × Int × Unit))
  | 0, _, _, _, _, _ => none
  | n + 1, s, check, x12, x13, x14 =>
    bif decide (x14 < x13) then ((idx x12 x14).bind fun v0 =>
    fgarage_record_l1 n s (IntKind.i64.wrap (check + IntKind.i64.wrap (IntKind.i64.wrap (x14 + 1) * IntKind.i64.wrap (IntKind.i64.wrap v0.n + 1)))) x12 x13 (IntKind.i64.wrap (x14 + 1))) else
    some (s, (check, ()))
def fgarage_record_l1_F (n : Nat) (y : C.Ds Ty (snds fgarage_record_l1_D)) : Option (YT Ty fgarage_record_l1_E) := fgarage_record_l1 n y.1 y.2.1 y.2.2.1 y.2.2.2.1 y.2.2.2.2.1
noncomputable def fgarage_record_l1_cut (n : Nat) : St Ty → Tr (Lf Ty) := cutC fgarage_record_l1_D 0 fgarage_record_l1_E (fgarage_record_l1_F n)
def fgarage_record (n : Nat) (s : ByteArray) (index : Int) : Option ((ByteArray × Unit)) :=
    (fgarage_record_l1 n s (IntKind.i64.wrap (7 * IntKind.i64.wrap (index + 1))) (btsI s) (↑(btsI s).length : Int) 0).bind fun v0 =>
    (fgarage_digits n (↑v0.fst.size : Int) 3).bind fun v1 =>
    (strAdd (B [91]) v1.fst).bind fun v2 =>
    (strAdd v2 (B [47])).bind fun v3 =>
    (fgarage_digits n (IntKind.i64.wrap (999 - (↑v0.fst.size : Int))) 3).bind fun v4 =>
    (strAdd v3 v4.fst).bind fun v5 =>
    (strAdd v5 (B [47])).bind fun v6 =>
    (fgarage_digits n (v0.snd.fst.tmod 99991) 5).bind fun v7 =>
    (strAdd v6 v7.fst).bind fun v8 =>
    (strAdd v8 (B [93])).bind fun v9 =>
    (strAdd v9 v0.fst).bind fun v10 =>
    (strAdd v10 (B [10])).bind fun v11 =>
    some (v11, ())
def fgarage_record_F (n : Nat) (y : C.Ds Ty (snds fgarage_record_D)) : Option (YT Ty fgarage_record_E) := fgarage_record n y.1 y.2.1
noncomputable def fgarage_record_law (n : Nat) : Law Ty := lawC fgarage_record_D 0 fgarage_record_E (fgarage_record_F n)
noncomputable def fgarage_record_T (n : Nat) : List (Nat × Law Ty) := [(181, fgarage_digits_law n)]
theorem fgarage_record_Tok (n : Nat) : LawsOk Tryz.prog (fgarage_record_T n) := ⟨fgarage_digits_lawOk n, trivial⟩
noncomputable def fgarage_record_l1_C (n : Nat) : CutL Ty := []
theorem fgarage_record_l1_rd (n : Nat) (x : C.Ds Ty (snds fgarage_record_l1_D)) : (exec Tryz.prog 47 (callT Tryz.prog (fgarage_record_T n) []) (cutsOf (fgarage_record_l1_C n)) (bodyAt 3 Tryz.f125) (embS fgarage_record_l1_D x)).runK (typeRd 0 fgarage_record_l1_D fgarage_record_l1_E (fgarage_record_l1_F n)) = fgarage_record_l1_F (n + 1) x := by kernel_rfl
theorem fgarage_record_l1_ok (n : Nat) : CutOk true Tryz.prog 47 (fgarage_record_l1_cut n) (.loop (bodyAt 3 Tryz.f125)) := cut_ok fun x y hy => can_loop (Fn := fgarage_record_l1_F) prog_noRow prog_mix (fun n => callT_ok prog_noRow prog_mix (fgarage_record_Tok n) insNil) (fun h => by cases h) (fun h => by cases h) (fun n => (cuts_ok (fn := Tryz.f125) (L := fgarage_record_l1_C n) (ks := []) trivial (by kernel_rfl) (by kernel_rfl))) (by decide) (fun _ => rfl) fgarage_record_l1_rd hy
noncomputable def fgarage_record_C (n : Nat) : CutL Ty := [(.loop 3, fgarage_record_l1_cut n)]
theorem fgarage_record_rd (n : Nat) (x : C.Ds Ty (snds fgarage_record_D)) : (exec Tryz.prog 47 (callT Tryz.prog (fgarage_record_T n) []) (cutsOf (fgarage_record_C n)) (codeOf Tryz.f125) (embS fgarage_record_D x)).runK (typeRt Tryz.prog Tryz.f125.results.toList 0 fgarage_record_E) = fgarage_record_F n x := by kernel_rfl
theorem fgarage_record_lawOk (n : Nat) : LawOk Tryz.prog 125 (fgarage_record_law n) := law_ok Tryz.func125 rfl rfl (by decide) rfl prog_noRow prog_mix (callT_ok prog_noRow prog_mix (fgarage_record_Tok n) insNil) (cuts_ok (fn := Tryz.f125) (L := fgarage_record_C n) (ks := [.loop 3]) ⟨fgarage_record_l1_ok n, trivial⟩ (by kernel_rfl) (by kernel_rfl)) (fgarage_record_rd n)
def fgarage_written_l1_D : List (Nat × C) := [(2, .o 5), (5, .l 9), (6, .s 3), (7, .s 3)]
def fgarage_written_l1_E : List Wo := [⟨.exit 0, [], [(2, .o 5)], []⟩]
def fgarage_written_D : List (Nat × C) := [(0, .l 9)]
def fgarage_written_E : List Wo := [⟨.ret, [], [], [.l 5]⟩]
def fgarage_written_l1 : Nat → (List (IK .u8)) → (List ByteArray) → Int → Int → Option ((List (IK .u8) × Unit))
  | 0, _, _, _, _ => none
  | n + 1, out, x5, x6, x7 =>
    bif decide (x7 < x6) then ((idx x5 x7).bind fun v0 =>
    (fgarage_record n v0 x7).bind fun v1 =>
    (app out (btsI v1.fst)).bind fun v2 =>
    fgarage_written_l1 n v2 x5 x6 (IntKind.i64.wrap (x7 + 1))) else
    some (out, ())
def fgarage_written_l1_F (n : Nat) (y : C.Ds Ty (snds fgarage_written_l1_D)) : Option (YT Ty fgarage_written_l1_E) := fgarage_written_l1 n y.1 y.2.1 y.2.2.1 y.2.2.2.1
noncomputable def fgarage_written_l1_cut (n : Nat) : St Ty → Tr (Lf Ty) := cutC fgarage_written_l1_D 0 fgarage_written_l1_E (fgarage_written_l1_F n)
def fgarage_written (n : Nat) (lines : List ByteArray) : Option ((List (IK .u8) × Unit)) :=
    (fgarage_written_l1 n [] lines (↑lines.length : Int) 0).bind fun v0 =>
    some (v0.fst, ())
def fgarage_written_F (n : Nat) (y : C.Ds Ty (snds fgarage_written_D)) : Option (YT Ty fgarage_written_E) := fgarage_written n y.1
noncomputable def fgarage_written_law (n : Nat) : Law Ty := lawC fgarage_written_D 0 fgarage_written_E (fgarage_written_F n)
noncomputable def fgarage_written_T (n : Nat) : List (Nat × Law Ty) := [(125, fgarage_record_law n)]
theorem fgarage_written_Tok (n : Nat) : LawsOk Tryz.prog (fgarage_written_T n) := ⟨fgarage_record_lawOk n, trivial⟩
noncomputable def fgarage_written_l1_C (n : Nat) : CutL Ty := []
theorem fgarage_written_l1_rd (n : Nat) (x : C.Ds Ty (snds fgarage_written_l1_D)) : (exec Tryz.prog 19 (callT Tryz.prog (fgarage_written_T n) []) (cutsOf (fgarage_written_l1_C n)) (bodyAt 2 Tryz.f78) (embS fgarage_written_l1_D x)).runK (typeRd 0 fgarage_written_l1_D fgarage_written_l1_E (fgarage_written_l1_F n)) = fgarage_written_l1_F (n + 1) x := by kernel_rfl
theorem fgarage_written_l1_ok (n : Nat) : CutOk true Tryz.prog 19 (fgarage_written_l1_cut n) (.loop (bodyAt 2 Tryz.f78)) := cut_ok fun x y hy => can_loop (Fn := fgarage_written_l1_F) prog_noRow prog_mix (fun n => callT_ok prog_noRow prog_mix (fgarage_written_Tok n) insNil) (fun h => by cases h) (fun h => by cases h) (fun n => (cuts_ok (fn := Tryz.f78) (L := fgarage_written_l1_C n) (ks := []) trivial (by kernel_rfl) (by kernel_rfl))) (by decide) (fun _ => rfl) fgarage_written_l1_rd hy
noncomputable def fgarage_written_C (n : Nat) : CutL Ty := [(.loop 2, fgarage_written_l1_cut n)]
theorem fgarage_written_rd (n : Nat) (x : C.Ds Ty (snds fgarage_written_D)) : (exec Tryz.prog 19 (callT Tryz.prog (fgarage_written_T n) []) (cutsOf (fgarage_written_C n)) (codeOf Tryz.f78) (embS fgarage_written_D x)).runK (typeRt Tryz.prog Tryz.f78.results.toList 0 fgarage_written_E) = fgarage_written_F n x := by kernel_rfl
theorem fgarage_written_lawOk (n : Nat) : LawOk Tryz.prog 78 (fgarage_written_law n) := law_ok Tryz.func78 rfl rfl (by decide) rfl prog_noRow prog_mix (callT_ok prog_noRow prog_mix (fgarage_written_Tok n) insNil) (cuts_ok (fn := Tryz.f78) (L := fgarage_written_C n) (ks := [.loop 2]) ⟨fgarage_written_l1_ok n, trivial⟩ (by kernel_rfl) (by kernel_rfl)) (fgarage_written_rd n)
def fgarage_Write_D : List (Nat × C) := [(0, .l 9)]
def fgarage_Write_E : List Wo := [⟨.ret, [], [], [.l 5, .s 37]⟩]
def fgarage_Write (n : Nat) (lines : List ByteArray) : Option ((List (IK .u8) × Int × Unit)) :=
    (fgarage_check n lines).bind fun v0 =>
    bif v0.fst != 0 then (some ([], (v0.fst, ()))) else
    (fgarage_written n lines).bind fun v1 =>
    some (v1.fst, (0, ()))
def fgarage_Write_F (n : Nat) (y : C.Ds Ty (snds fgarage_Write_D)) : Option (YT Ty fgarage_Write_E) := fgarage_Write n y.1
noncomputable def fgarage_Write_law (n : Nat) : Law Ty := lawC fgarage_Write_D 0 fgarage_Write_E (fgarage_Write_F n)
noncomputable def fgarage_Write_T (n : Nat) : List (Nat × Law Ty) := [(52, fgarage_check_law n), (78, fgarage_written_law n)]
theorem fgarage_Write_Tok (n : Nat) : LawsOk Tryz.prog (fgarage_Write_T n) := ⟨fgarage_check_lawOk n, ⟨fgarage_written_lawOk n, trivial⟩⟩
noncomputable def fgarage_Write_C (n : Nat) : CutL Ty := []
theorem fgarage_Write_rd (n : Nat) (x : C.Ds Ty (snds fgarage_Write_D)) : (exec Tryz.prog 12 (callT Tryz.prog (fgarage_Write_T n) []) (cutsOf (fgarage_Write_C n)) (codeOf Tryz.f37) (embS fgarage_Write_D x)).runK (typeRt Tryz.prog Tryz.f37.results.toList 0 fgarage_Write_E) = fgarage_Write_F n x := by kernel_rfl
theorem fgarage_Write_lawOk (n : Nat) : LawOk Tryz.prog 37 (fgarage_Write_law n) := law_ok Tryz.func37 rfl rfl (by decide) rfl prog_noRow prog_mix (callT_ok prog_noRow prog_mix (fgarage_Write_Tok n) insNil) (cuts_ok (fn := Tryz.f37) (L := fgarage_Write_C n) (ks := []) trivial (by kernel_rfl) (by kernel_rfl)) (fgarage_Write_rd n)
def fgarage_length_l1_D : List (Nat × C) := [(3, .s 3), (6, .l 5), (7, .s 3), (8, .s 3)]
def fgarage_length_l1_E : List Wo := [⟨.exit 0, [], [(3, .s 3)], []⟩, ⟨.ret, [], [(2, .s 3)], []⟩]
def fgarage_length_D : List (Nat × C) := [(0, .l 5)]
def fgarage_length_E : List Wo := [⟨.ret, [], [], [.s 3]⟩]
def fgarage_length_l1 : Nat → Int → (List (IK .u8)) → Int → Int → Option ((Int × Unit) ⊕ ((Int × Unit)))
  | 0, _, _, _, _ => none
  | n + 1, n_, x6, x7, x8 =>
    bif decide (x8 < x7) then ((idx x6 x8).bind fun v0 =>
    bif !decide (v0.n < 48) then (bif decide (v0.n > 57) then (some (.inr (-1, ()))) else
    fgarage_length_l1 n (IntKind.i64.wrap (IntKind.i64.wrap (10 * n_) + IntKind.i64.wrap (IntKind.u8.wrap (v0.n - 48)))) x6 x7 (IntKind.i64.wrap (x8 + 1))) else
    some (.inr (-1, ()))) else
    some (.inl (n_, ()))
def fgarage_length_l1_F (n : Nat) (y : C.Ds Ty (snds fgarage_length_l1_D)) : Option (YT Ty fgarage_length_l1_E) := fgarage_length_l1 n y.1 y.2.1 y.2.2.1 y.2.2.2.1
noncomputable def fgarage_length_l1_cut (n : Nat) : St Ty → Tr (Lf Ty) := cutC fgarage_length_l1_D 0 fgarage_length_l1_E (fgarage_length_l1_F n)
def fgarage_length (n : Nat) (l : List (IK .u8)) : Option ((Int × Unit)) :=
    (fgarage_length_l1 n 0 l (↑l.length : Int) 0).bind fun v0 =>
    Sum.elim (fun v1 => some (v1.fst, ())) (fun v1 => some (v1.fst, ())) (v0)
def fgarage_length_F (n : Nat) (y : C.Ds Ty (snds fgarage_length_D)) : Option (YT Ty fgarage_length_E) := fgarage_length n y.1
noncomputable def fgarage_length_law (n : Nat) : Law Ty := readC (lawC fgarage_length_D 0 fgarage_length_E (fgarage_length_F n))
noncomputable def fgarage_length_T (n : Nat) : List (Nat × Law Ty) := []
theorem fgarage_length_Tok (n : Nat) : LawsOk Tryz.prog (fgarage_length_T n) := trivial
noncomputable def fgarage_length_l1_C (n : Nat) : CutL Ty := []
theorem fgarage_length_l1_rd (n : Nat) (x : C.Ds Ty (snds fgarage_length_l1_D)) : (exec Tryz.prog 26 (callT Tryz.prog (fgarage_length_T n) []) (cutsOf (fgarage_length_l1_C n)) (bodyAt 3 Tryz.f127) (embS fgarage_length_l1_D x)).runK (typeRd 0 fgarage_length_l1_D fgarage_length_l1_E (fgarage_length_l1_F n)) = fgarage_length_l1_F (n + 1) x := by kernel_rfl
theorem fgarage_length_l1_ok (n : Nat) : CutOk true Tryz.prog 26 (fgarage_length_l1_cut n) (.loop (bodyAt 3 Tryz.f127)) := cut_ok fun x y hy => can_loop (Fn := fgarage_length_l1_F) prog_noRow prog_mix (fun n => callT_ok prog_noRow prog_mix (fgarage_length_Tok n) insNil) (fun h => by cases h) (fun h => by cases h) (fun n => (cuts_ok (fn := Tryz.f127) (L := fgarage_length_l1_C n) (ks := []) trivial (by kernel_rfl) (by kernel_rfl))) (by decide) (fun _ => rfl) fgarage_length_l1_rd hy
noncomputable def fgarage_length_C (n : Nat) : CutL Ty := [(.loop 3, fgarage_length_l1_cut n)]
theorem fgarage_length_rd (n : Nat) (x : C.Ds Ty (snds fgarage_length_D)) : (exec Tryz.prog 26 (callT Tryz.prog (fgarage_length_T n) []) (cutsOf (fgarage_length_C n)) (codeOf Tryz.f127) (embS fgarage_length_D x)).runK (typeRt Tryz.prog Tryz.f127.results.toList 0 fgarage_length_E) = fgarage_length_F n x := by kernel_rfl
theorem fgarage_length_lawOk (n : Nat) : LawOk Tryz.prog 127 (fgarage_length_law n) := readC_ok (law_ok Tryz.func127 rfl rfl (by decide) rfl prog_noRow prog_mix (callT_ok prog_noRow prog_mix (fgarage_length_Tok n) insNil) (cuts_ok (fn := Tryz.f127) (L := fgarage_length_C n) (ks := [.loop 3]) ⟨fgarage_length_l1_ok n, trivial⟩ (by kernel_rfl) (by kernel_rfl)) (fgarage_length_rd n))
def flaw_shift_D : List (Nat × C) := []
def flaw_shift_E : List Wo := [⟨.ret, [], [], [.l 9]⟩]
def flaw_shift (n : Nat) : Option ((List ByteArray × Unit)) :=
    some ([B [102, 111, 117, 110, 100, 32, 55, 32, 49, 32, 49, 48, 48, 32, 51], B [111, 117, 116, 32, 55, 32, 49, 53, 48], B [111, 117, 116, 32, 56, 32, 49, 53, 48], B [105, 110, 32, 56, 32, 50, 48, 48, 32, 51, 48], B [115, 105, 103, 110, 101, 100, 32, 55, 32, 50, 32, 49, 54, 48, 32, 49], B [111, 117, 116, 32, 55, 32, 49, 55, 48], B [104, 101, 108, 100, 32, 56, 32, 51, 32, 49, 52, 48, 32, 50], B [111, 117, 116, 32, 56, 32, 51, 48, 48], B [115, 97, 108, 101, 32, 53, 32, 50, 32, 49, 53, 32, 49, 32, 51, 48, 48], B [99, 108, 111, 115, 101, 32, 53, 32, 52, 32, 51, 48, 32, 50, 32, 53, 48, 48], B [100, 114, 105, 118, 101, 114, 32, 49, 32, 45, 57, 48, 48], B [100, 117, 116, 121, 32, 48, 32, 51, 48, 48, 32, 57, 48, 48, 32, 49, 48, 48, 48, 32, 49], B [100, 117, 116, 121, 32, 49, 32, 49, 48, 48, 32, 53, 48, 48, 32, 53, 48, 48, 32, 49], B [103, 105, 118, 101, 32, 48, 32, 48], B [103, 105, 118, 101, 32, 49, 32, 48], B [105, 110, 32, 55, 32, 49, 54, 53, 32, 53]], ())
def flaw_shift_F (n : Nat) (y : C.Ds Ty (snds flaw_shift_D)) : Option (YT Ty flaw_shift_E) := flaw_shift n
noncomputable def flaw_shift_law (n : Nat) : Law Ty := lawC flaw_shift_D 0 flaw_shift_E (flaw_shift_F n)
noncomputable def flaw_shift_T (n : Nat) : List (Nat × Law Ty) := []
theorem flaw_shift_Tok (n : Nat) : LawsOk Tryz.prog (flaw_shift_T n) := trivial
noncomputable def flaw_shift_C (n : Nat) : CutL Ty := []
theorem flaw_shift_rd (n : Nat) (x : C.Ds Ty (snds flaw_shift_D)) : (exec Tryz.prog 2 (callT Tryz.prog (flaw_shift_T n) []) (cutsOf (flaw_shift_C n)) (codeOf Tryz.f51) (embS flaw_shift_D x)).runK (typeRt Tryz.prog Tryz.f51.results.toList 0 flaw_shift_E) = flaw_shift_F n x := by kernel_rfl
theorem flaw_shift_lawOk (n : Nat) : LawOk Tryz.prog 51 (flaw_shift_law n) := law_ok Tryz.func51 rfl rfl (by decide) rfl prog_noRow prog_mix (callT_ok prog_noRow prog_mix (flaw_shift_Tok n) insNil) (cuts_ok (fn := Tryz.f51) (L := flaw_shift_C n) (ks := []) trivial (by kernel_rfl) (by kernel_rfl)) (flaw_shift_rd n)
def flaw_wakes_D : List (Nat × C) := []
def flaw_wakes_E : List Wo := [⟨.ret, [], [], [.s 4]⟩]
def flaw_wakes (n : Nat) : Option ((Bool × Unit)) :=
    (flaw_shift n).bind fun v0 =>
    (fgarage_Play n v0.fst).bind fun v1 =>
    (flaw_shift n).bind fun v2 =>
    (fgarage_Late n v2.fst).bind fun v3 =>
    (fgarage_Write n [B [97]]).bind fun v4 =>
    bif !v1.snd.snd.fst != 0 then (bif !v3.snd.fst != 0 then (bif !v4.snd.fst != 0 then (bif (↑v1.snd.fst.length : Int) != 16 then (some (false, ())) else
    (idx v1.snd.fst 1).bind fun v5 =>
    bif decide (v5 = 11) then ((idx v1.snd.fst 7).bind fun v6 =>
    bif decide (v6 = 11) then ((idx v1.snd.fst 14).bind fun v7 =>
    bif decide (v7 = 10) then ((idx v1.snd.fst 15).bind fun v8 =>
    bif decide (v8 = 2) then (bif decide ((↑v1.fst.runs.length : Int) = 1) then ((idx v1.fst.runs 0).bind fun v9 =>
    bif decide (v9.bus = 8) && (decide (v9.fr = 150) && (decide (v9.to_ = 200) && (decide (v9.miles = 30) && true))) then (bif decide ((↑v1.fst.outs.length : Int) = 1) then ((idx v1.fst.outs 0).bind fun v10 =>
    bif decide (v10.bus = 7) && (decide (v10.fr = 170) && true) then ((flaw_ints n v1.fst.roster [0, -1]).bind fun v11 =>
    bif v11.fst then ((flaw_ints n v3.fst [2]).bind fun v12 =>
    bif v12.fst then (some ((strI v4.fst).beq (B [91, 48, 48, 49, 47, 57, 57, 56, 47, 48, 48, 49, 48, 53, 93, 97, 10]), ())) else
    some (false, ())) else
    some (false, ())) else
    some (false, ())) else
    some (false, ())) else
    some (false, ())) else
    some (false, ())) else
    some (false, ())) else
    some (false, ())) else
    some (false, ())) else
    some (false, ())) else
    some (false, ())) else
    some (false, ())) else
    some (false, ())
def flaw_wakes_F (n : Nat) (y : C.Ds Ty (snds flaw_wakes_D)) : Option (YT Ty flaw_wakes_E) := flaw_wakes n
noncomputable def flaw_wakes_law (n : Nat) : Law Ty := lawC flaw_wakes_D 0 flaw_wakes_E (flaw_wakes_F n)
noncomputable def flaw_wakes_T (n : Nat) : List (Nat × Law Ty) := [(51, flaw_shift_law n), (21, fgarage_Play_law n), (31, fgarage_Late_law n), (37, fgarage_Write_law n), (32, flaw_ints_law n)]
theorem flaw_wakes_Tok (n : Nat) : LawsOk Tryz.prog (flaw_wakes_T n) := ⟨flaw_shift_lawOk n, ⟨fgarage_Play_lawOk n, ⟨fgarage_Late_lawOk n, ⟨fgarage_Write_lawOk n, ⟨flaw_ints_lawOk n, trivial⟩⟩⟩⟩⟩
noncomputable def flaw_wakes_C (n : Nat) : CutL Ty := []
theorem flaw_wakes_rd (n : Nat) (x : C.Ds Ty (snds flaw_wakes_D)) : (exec Tryz.prog 105 (callT Tryz.prog (flaw_wakes_T n) []) (cutsOf (flaw_wakes_C n)) (codeOf Tryz.f20) (embS flaw_wakes_D x)).runK (typeRt Tryz.prog Tryz.f20.results.toList 0 flaw_wakes_E) = flaw_wakes_F n x := by kernel_rfl
theorem flaw_wakes_lawOk (n : Nat) : LawOk Tryz.prog 20 (flaw_wakes_law n) := law_ok Tryz.func20 rfl rfl (by decide) rfl prog_noRow prog_mix (callT_ok prog_noRow prog_mix (flaw_wakes_Tok n) insNil) (cuts_ok (fn := Tryz.f20) (L := flaw_wakes_C n) (ks := []) trivial (by kernel_rfl) (by kernel_rfl)) (flaw_wakes_rd n)
def fgarage_Recover_i1_D : List (Nat × C) := [(0, .y 0 38 [2, 3] [.p [.o 9], .p [.s 3]]), (1, .p [.l 5]), (3, .s 3), (4, .s 3)]
def fgarage_Recover_i1_E : List Wo := [⟨.exit 0, [.y 0 38 [2, 3] [.p [.o 9], .p [.s 3]], .q 1, .q 2, .p [.l 5]], [], []⟩, ⟨.ret, [.y 0 38 [2, 3] [.p [.o 9], .p [.s 3]], .q 1, .q 2, .p [.l 5]], [], []⟩, ⟨.ret, [.y 2 38 [2, 3] [.p [.o 9], .p [.s 3]], .q 1, .q 2, .p [.l 5]], [], []⟩]
def fgarage_Recover_D : List (Nat × C) := [(0, .l 5)]
def fgarage_Recover_E : List Wo := [⟨.ret, [], [], [.o 9, .s 3]⟩]
def fgarage_Recover_i1 : Nat → (List ByteArray) → Int → (List (IK .u8)) → Int → Int → Option ((((List ByteArray × Unit) × (Int × Unit) × Unit) × Unit × Unit × (List (IK .u8) × Unit) × Unit) ⊕ ((((List ByteArray × Unit) × (Int × Unit) × Unit) × Unit × Unit × (List (IK .u8) × Unit) × Unit) ⊕ ((((List ByteArray × Unit) × (Int × Unit) × Unit) × Unit × Unit × (List (IK .u8) × Unit) × Unit))))
  | 0, _, _, _, _, _ => none
  | n + 1, yield1, yield2, x1, at_, index =>
    bif decide (IntKind.i64.wrap ((↑x1.length : Int) - at_) ≥ 16) then ((lstSub x1 (IntKind.i64.wrap (at_ + 1)) (IntKind.i64.wrap (IntKind.i64.wrap (at_ + 1) + 3))).bind fun v0 =>
    (fgarage_length n v0).bind fun v1 =>
    (fgarage_within n v1.fst 0 200).bind fun v2 =>
    bif !!v2.fst then (bif decide (IntKind.i64.wrap ((↑x1.length : Int) - at_) < IntKind.i64.wrap (16 + v1.fst)) then (some (.inr (.inl (((yield1, ()), ((yield2, ()), ())), ((), ((), ((x1, ()), ()))))))) else
    (lstSub x1 (IntKind.i64.wrap (at_ + 15)) (IntKind.i64.wrap (IntKind.i64.wrap (IntKind.i64.wrap (at_ + 16) + v1.fst) - 1))).bind fun v3 =>
    (fgarage_record n (strI v3) index).bind fun v4 =>
    (lstSub x1 at_ (IntKind.i64.wrap (IntKind.i64.wrap (at_ + 16) + v1.fst))).bind fun v5 =>
    bif !!v4.fst.beq (strI v5) then (bif decide ((↑yield1.length : Int) = 50) then (some (.inr (.inr (((yield1, ()), ((yield2, ()), ())), ((), ((), ((x1, ()), ()))))))) else
    (app yield1 [strI v3]).bind fun v6 =>
    fgarage_Recover_i1 n v6 (IntKind.i64.wrap (IntKind.i64.wrap (at_ + 16) + v1.fst)) x1 (IntKind.i64.wrap (IntKind.i64.wrap (at_ + 16) + v1.fst)) (IntKind.i64.wrap (index + 1))) else
    some (.inr (.inl (((yield1, ()), ((yield2, ()), ())), ((), ((), ((x1, ()), ()))))))) else
    some (.inr (.inl (((yield1, ()), ((yield2, ()), ())), ((), ((), ((x1, ()), ()))))))) else
    some (.inl (((yield1, ()), ((yield2, ()), ())), ((), ((), ((x1, ()), ())))))
def fgarage_Recover_i1_F (n : Nat) (y : C.Ds Ty (snds fgarage_Recover_i1_D)) : Option (YT Ty fgarage_Recover_i1_E) := fgarage_Recover_i1 n y.1.1.1 y.1.2.1.1 y.2.1.1 y.2.2.1 y.2.2.2.1
noncomputable def fgarage_Recover_i1_cut (n : Nat) : St Ty → Tr (Lf Ty) := cutC fgarage_Recover_i1_D 4 fgarage_Recover_i1_E (fgarage_Recover_i1_F n)
def fgarage_Recover (n : Nat) (b : List (IK .u8)) : Option ((List ByteArray × Int × Unit)) :=
    (fgarage_Recover_i1 n [] 0 b 0 0).bind fun v0 =>
    Sum.elim (fun v1 => some (v1.fst.fst.fst, (v1.fst.snd.fst.fst, ()))) (fun v1 => Sum.elim (fun v2 => some (v2.fst.fst.fst, (v2.fst.snd.fst.fst, ()))) (fun v2 => some (v2.fst.fst.fst, (v2.fst.snd.fst.fst, ()))) (v1)) (v0)
def fgarage_Recover_F (n : Nat) (y : C.Ds Ty (snds fgarage_Recover_D)) : Option (YT Ty fgarage_Recover_E) := fgarage_Recover n y.1
noncomputable def fgarage_Recover_law (n : Nat) : Law Ty := lawC fgarage_Recover_D 0 fgarage_Recover_E (fgarage_Recover_F n)
noncomputable def fgarage_Recover_T (n : Nat) : List (Nat × Law Ty) := [(127, fgarage_length_law n), (75, fgarage_within_law n), (125, fgarage_record_law n)]
theorem fgarage_Recover_Tok (n : Nat) : LawsOk Tryz.prog (fgarage_Recover_T n) := ⟨fgarage_length_lawOk n, ⟨fgarage_within_lawOk n, ⟨fgarage_record_lawOk n, trivial⟩⟩⟩
noncomputable def fgarage_Recover_B (n : Nat) : CutL Ty := []
noncomputable def fgarage_Recover_Y (n : Nat) : List (Nat × Law Ty) := (yieldF, ybC Tryz.prog (callT Tryz.prog (fgarage_Recover_T n) []) (cutsOf []) (cutsOf (fgarage_Recover_B n)) 38) :: fgarage_Recover_T n
theorem fgarage_Recover_Yok (n : Nat) : LawsOk Tryz.prog (fgarage_Recover_Y n) := ⟨ybC_ok prog_noRow prog_mix (callT_ok prog_noRow prog_mix (fgarage_Recover_Tok n) insNil) (fun _ _ _ h => by cases h) (cuts_ok (fn := Tryz.f38) (c := (RFs.rf 38).body) (N := (RFs.rf 38).n) (L := fgarage_Recover_B n) (ks := []) trivial (by kernel_rfl) (by kernel_rfl)), fgarage_Recover_Tok n⟩
noncomputable def fgarage_Recover_i1_C (n : Nat) : CutL Ty := []
theorem fgarage_Recover_i1_rd (n : Nat) (x : C.Ds Ty (snds fgarage_Recover_i1_D)) : (exec Tryz.prog 63 (callT Tryz.prog (fgarage_Recover_Y n) []) (cutsOf (fgarage_Recover_i1_C n)) (bodyAt 2 Tryz.f126) (embS fgarage_Recover_i1_D x)).runK (typeRd 4 fgarage_Recover_i1_D fgarage_Recover_i1_E (fgarage_Recover_i1_F n)) = fgarage_Recover_i1_F (n + 1) x := by kernel_rfl
theorem fgarage_Recover_i1_ok (n : Nat) : CutOk true Tryz.prog 63 (fgarage_Recover_i1_cut n) (.loop (bodyAt 2 Tryz.f126)) := cut_ok fun x y hy => can_loop (Fn := fgarage_Recover_i1_F) prog_noRow prog_mix (fun n => callT_ok prog_noRow prog_mix (fgarage_Recover_Yok n) insNil) (fun h => by cases h) (fun h => by cases h) (fun n => (cuts_ok (fn := Tryz.f126) (L := fgarage_Recover_i1_C n) (ks := []) trivial (by kernel_rfl) (by kernel_rfl))) (by decide) (fun _ => rfl) fgarage_Recover_i1_rd hy
noncomputable def fgarage_Recover_K (n : Nat) : InsL Ty := [(126, [(.loop 2, fgarage_Recover_i1_cut n)])]
theorem fgarage_Recover_Kok (n : Nat) : InsOk Tryz.prog (fgarage_Recover_K n) := ⟨ins_one (f := 126) Tryz.func126 rfl (cuts_ok (fn := Tryz.f126) (L := [(.loop 2, fgarage_Recover_i1_cut n)]) (ks := [.loop 2]) ⟨fgarage_Recover_i1_ok n, trivial⟩ (by kernel_rfl) (by kernel_rfl)), trivial⟩
noncomputable def fgarage_Recover_rf (n : Nat) : St Ty → Tr (Lf Ty) := rfC Tryz.prog (callT Tryz.prog (fgarage_Recover_Y n) (fgarage_Recover_K n)) (.tmp 7) 38 [2, 3]
theorem fgarage_Recover_rfok (n : Nat) : CutOk true Tryz.prog 20 (fgarage_Recover_rf n) (nodeAt (.rf 4) Tryz.f38) := rf_cut (callT_ok prog_noRow prog_mix (fgarage_Recover_Yok n) (fgarage_Recover_Kok n)) (by kernel_rfl) (by kernel_rfl)
noncomputable def fgarage_Recover_C (n : Nat) : CutL Ty := [(.rf 4, fgarage_Recover_rf n)]
theorem fgarage_Recover_rd (n : Nat) (x : C.Ds Ty (snds fgarage_Recover_D)) : (exec Tryz.prog 20 (callT Tryz.prog (fgarage_Recover_T n) []) (cutsOf (fgarage_Recover_C n)) (codeOf Tryz.f38) (embS fgarage_Recover_D x)).runK (typeRt Tryz.prog Tryz.f38.results.toList 0 fgarage_Recover_E) = fgarage_Recover_F n x := by kernel_rfl
theorem fgarage_Recover_lawOk (n : Nat) : LawOk Tryz.prog 38 (fgarage_Recover_law n) := law_ok Tryz.func38 rfl rfl (by decide) rfl prog_noRow prog_mix (callT_ok prog_noRow prog_mix (fgarage_Recover_Tok n) insNil) (cuts_ok (fn := Tryz.f38) (L := fgarage_Recover_C n) (ks := [.rf 4]) ⟨fgarage_Recover_rfok n, trivial⟩ (by kernel_rfl) (by kernel_rfl)) (fgarage_Recover_rd n)
def fref_Framed_D : List (Nat × C) := [(0, .s 9), (1, .s 3)]
def fref_Framed_E : List Wo := [⟨.ret, [], [], [.s 9]⟩]
def fref_Framed (n : Nat) (line : ByteArray) (index : Int) : Option ((ByteArray × Unit)) :=
    bif decide ((↑line.size : Int) > 999) then (some (B [], ())) else
    (fref_Digits n (↑line.size : Int) 3).bind fun v0 =>
    (strAdd (B [91]) v0.fst).bind fun v1 =>
    (strAdd v1 (B [47])).bind fun v2 =>
    (fref_Digits n (IntKind.i64.wrap (999 - (↑line.size : Int))) 3).bind fun v3 =>
    (strAdd v2 v3.fst).bind fun v4 =>
    (strAdd v4 (B [47])).bind fun v5 =>
    (fref_Check n line index).bind fun v6 =>
    (fref_Digits n v6.fst 5).bind fun v7 =>
    (strAdd v5 v7.fst).bind fun v8 =>
    (strAdd v8 (B [93])).bind fun v9 =>
    (strAdd v9 line).bind fun v10 =>
    (strAdd v10 (B [10])).bind fun v11 =>
    some (v11, ())
def fref_Framed_F (n : Nat) (y : C.Ds Ty (snds fref_Framed_D)) : Option (YT Ty fref_Framed_E) := fref_Framed n y.1 y.2.1
noncomputable def fref_Framed_law (n : Nat) : Law Ty := lawC fref_Framed_D 0 fref_Framed_E (fref_Framed_F n)
noncomputable def fref_Framed_T (n : Nat) : List (Nat × Law Ty) := [(128, fref_Digits_law n), (129, fref_Check_law n)]
theorem fref_Framed_Tok (n : Nat) : LawsOk Tryz.prog (fref_Framed_T n) := ⟨fref_Digits_lawOk n, ⟨fref_Check_lawOk n, trivial⟩⟩
noncomputable def fref_Framed_C (n : Nat) : CutL Ty := []
theorem fref_Framed_rd (n : Nat) (x : C.Ds Ty (snds fref_Framed_D)) : (exec Tryz.prog 28 (callT Tryz.prog (fref_Framed_T n) []) (cutsOf (fref_Framed_C n)) (codeOf Tryz.f80) (embS fref_Framed_D x)).runK (typeRt Tryz.prog Tryz.f80.results.toList 0 fref_Framed_E) = fref_Framed_F n x := by kernel_rfl
theorem fref_Framed_lawOk (n : Nat) : LawOk Tryz.prog 80 (fref_Framed_law n) := law_ok Tryz.func80 rfl rfl (by decide) rfl prog_noRow prog_mix (callT_ok prog_noRow prog_mix (fref_Framed_Tok n) insNil) (cuts_ok (fn := Tryz.f80) (L := fref_Framed_C n) (ks := []) trivial (by kernel_rfl) (by kernel_rfl)) (fref_Framed_rd n)
def fref_File_l1_D : List (Nat × C) := [(0, .l 9), (3, .s 9), (4, .s 3)]
def fref_File_l1_E : List Wo := [⟨.exit 0, [], [(3, .s 9)], []⟩]
def fref_File_D : List (Nat × C) := [(0, .l 9)]
def fref_File_E : List Wo := [⟨.ret, [], [], [.s 9]⟩]
def fref_File_l1 : Nat → (List ByteArray) → ByteArray → Int → Option ((ByteArray × Unit))
  | 0, _, _, _ => none
  | n + 1, lines, out, i =>
    bif decide (i < (↑lines.length : Int)) then ((idx lines i).bind fun v0 =>
    (fref_Framed n v0 i).bind fun v1 =>
    (strAdd out v1.fst).bind fun v2 =>
    fref_File_l1 n lines v2 (IntKind.i64.wrap (i + 1))) else
    some (out, ())
def fref_File_l1_F (n : Nat) (y : C.Ds Ty (snds fref_File_l1_D)) : Option (YT Ty fref_File_l1_E) := fref_File_l1 n y.1 y.2.1 y.2.2.1
noncomputable def fref_File_l1_cut (n : Nat) : St Ty → Tr (Lf Ty) := cutC fref_File_l1_D 0 fref_File_l1_E (fref_File_l1_F n)
def fref_File (n : Nat) (lines : List ByteArray) : Option ((ByteArray × Unit)) :=
    (fref_File_l1 n lines (B []) 0).bind fun v0 =>
    some (v0.fst, ())
def fref_File_F (n : Nat) (y : C.Ds Ty (snds fref_File_D)) : Option (YT Ty fref_File_E) := fref_File n y.1
noncomputable def fref_File_law (n : Nat) : Law Ty := readC (lawC fref_File_D 0 fref_File_E (fref_File_F n))
noncomputable def fref_File_T (n : Nat) : List (Nat × Law Ty) := [(80, fref_Framed_law n)]
theorem fref_File_Tok (n : Nat) : LawsOk Tryz.prog (fref_File_T n) := ⟨fref_Framed_lawOk n, trivial⟩
noncomputable def fref_File_l1_C (n : Nat) : CutL Ty := []
theorem fref_File_l1_rd (n : Nat) (x : C.Ds Ty (snds fref_File_l1_D)) : (exec Tryz.prog 20 (callT Tryz.prog (fref_File_T n) []) (cutsOf (fref_File_l1_C n)) (bodyAt 3 Tryz.f39) (embS fref_File_l1_D x)).runK (typeRd 0 fref_File_l1_D fref_File_l1_E (fref_File_l1_F n)) = fref_File_l1_F (n + 1) x := by kernel_rfl
theorem fref_File_l1_ok (n : Nat) : CutOk true Tryz.prog 20 (fref_File_l1_cut n) (.loop (bodyAt 3 Tryz.f39)) := cut_ok fun x y hy => can_loop (Fn := fref_File_l1_F) prog_noRow prog_mix (fun n => callT_ok prog_noRow prog_mix (fref_File_Tok n) insNil) (fun h => by cases h) (fun h => by cases h) (fun n => (cuts_ok (fn := Tryz.f39) (L := fref_File_l1_C n) (ks := []) trivial (by kernel_rfl) (by kernel_rfl))) (by decide) (fun _ => rfl) fref_File_l1_rd hy
noncomputable def fref_File_C (n : Nat) : CutL Ty := [(.loop 3, fref_File_l1_cut n)]
theorem fref_File_rd (n : Nat) (x : C.Ds Ty (snds fref_File_D)) : (exec Tryz.prog 20 (callT Tryz.prog (fref_File_T n) []) (cutsOf (fref_File_C n)) (codeOf Tryz.f39) (embS fref_File_D x)).runK (typeRt Tryz.prog Tryz.f39.results.toList 0 fref_File_E) = fref_File_F n x := by kernel_rfl
theorem fref_File_lawOk (n : Nat) : LawOk Tryz.prog 39 (fref_File_law n) := readC_ok (law_ok Tryz.func39 rfl rfl (by decide) rfl prog_noRow prog_mix (callT_ok prog_noRow prog_mix (fref_File_Tok n) insNil) (cuts_ok (fn := Tryz.f39) (L := fref_File_C n) (ks := [.loop 3]) ⟨fref_File_l1_ok n, trivial⟩ (by kernel_rfl) (by kernel_rfl)) (fref_File_rd n))
def fref_Recover_l2_D : List (Nat × C) := [(0, .s 9), (4, .o 9), (5, .s 3), (6, .s 3), (7, .s 3)]
def fref_Recover_l2_E : List Wo := [⟨.exit 2, [], [(0, .s 9), (4, .o 9), (5, .s 3), (6, .s 3)], []⟩, ⟨.ret, [], [(2, .l 9), (3, .s 3)], []⟩]
def fref_Recover_l1_D : List (Nat × C) := [(0, .s 9), (4, .o 9), (5, .s 3)]
def fref_Recover_l1_E : List Wo := [⟨.exit 0, [], [(4, .o 9), (5, .s 3)], []⟩, ⟨.ret, [], [(2, .l 9), (3, .s 3)], []⟩]
def fref_Recover_D : List (Nat × C) := [(0, .s 9)]
def fref_Recover_E : List Wo := [⟨.ret, [], [], [.l 9, .s 3]⟩]
def fref_Recover_l2 : Nat → ByteArray → (List ByteArray) → Int → Int → Int → Option ((ByteArray × List ByteArray × Int × Int × Unit) ⊕ ((List ByteArray × Int × Unit)))
  | 0, _, _, _, _, _ => none
  | n + 1, b, out, at_, n_, k =>
    bif decide (k ≤ IntKind.i64.wrap (at_ + 3)) then ((strAt b k).bind fun v0 =>
    bif !decide (v0.n < 48) then ((strAt b k).bind fun v1 =>
    bif decide (v1.n > 57) then (some (.inr (out, (at_, ())))) else
    (strAt b k).bind fun v2 =>
    fref_Recover_l2 n b out at_ (IntKind.i64.wrap (IntKind.i64.wrap (10 * n_) + IntKind.i64.wrap (IntKind.u8.wrap (v2.n - 48)))) (IntKind.i64.wrap (k + 1))) else
    some (.inr (out, (at_, ())))) else
    some (.inl (b, (out, (at_, (n_, ())))))
def fref_Recover_l2_F (n : Nat) (y : C.Ds Ty (snds fref_Recover_l2_D)) : Option (YT Ty fref_Recover_l2_E) := fref_Recover_l2 n y.1 y.2.1 y.2.2.1 y.2.2.2.1 y.2.2.2.2.1
noncomputable def fref_Recover_l2_cut (n : Nat) : St Ty → Tr (Lf Ty) := cutC fref_Recover_l2_D 0 fref_Recover_l2_E (fref_Recover_l2_F n)
def fref_Recover_l1 : Nat → ByteArray → (List ByteArray) → Int → Option ((List ByteArray × Int × Unit) ⊕ ((List ByteArray × Int × Unit)))
  | 0, _, _, _ => none
  | n + 1, b, out, at_ =>
    bif decide ((↑out.length : Int) < 50) then (bif decide (IntKind.i64.wrap (at_ + 16) ≤ (↑b.size : Int)) then ((fref_Recover_l2 n b out at_ 0 (IntKind.i64.wrap (at_ + 1))).bind fun v0 =>
    Sum.elim (fun v1 => bif !decide (v1.snd.snd.snd.fst > 200) then (bif decide (IntKind.i64.wrap (IntKind.i64.wrap (v1.snd.snd.fst + 16) + v1.snd.snd.snd.fst) > (↑v1.fst.size : Int)) then (some (.inr (v1.snd.fst, (v1.snd.snd.fst, ())))) else
    (strSub v1.fst (IntKind.i64.wrap (v1.snd.snd.fst + 15)) (IntKind.i64.wrap (IntKind.i64.wrap (v1.snd.snd.fst + 15) + v1.snd.snd.snd.fst))).bind fun v2 =>
    (fref_Framed n v2 (↑v1.snd.fst.length : Int)).bind fun v3 =>
    (strSub v1.fst v1.snd.snd.fst (IntKind.i64.wrap (IntKind.i64.wrap (v1.snd.snd.fst + 16) + v1.snd.snd.snd.fst))).bind fun v4 =>
    bif !v3.fst.beq v4 then (some (.inr (v1.snd.fst, (v1.snd.snd.fst, ())))) else
    (app v1.snd.fst [v2]).bind fun v5 =>
    fref_Recover_l1 n v1.fst v5 (IntKind.i64.wrap (IntKind.i64.wrap (v1.snd.snd.fst + 16) + v1.snd.snd.snd.fst))) else
    some (.inr (v1.snd.fst, (v1.snd.snd.fst, ())))) (fun v1 => some (.inr (v1.fst, (v1.snd.fst, ())))) (v0)) else
    some (.inl (out, (at_, ())))) else
    some (.inl (out, (at_, ())))
def fref_Recover_l1_F (n : Nat) (y : C.Ds Ty (snds fref_Recover_l1_D)) : Option (YT Ty fref_Recover_l1_E) := fref_Recover_l1 n y.1 y.2.1 y.2.2.1
noncomputable def fref_Recover_l1_cut (n : Nat) : St Ty → Tr (Lf Ty) := cutC fref_Recover_l1_D 0 fref_Recover_l1_E (fref_Recover_l1_F n)
def fref_Recover (n : Nat) (b : ByteArray) : Option ((List ByteArray × Int × Unit)) :=
    (fref_Recover_l1 n b [] 0).bind fun v0 =>
    Sum.elim (fun v1 => some (v1.fst, (v1.snd.fst, ()))) (fun v1 => some (v1.fst, (v1.snd.fst, ()))) (v0)
def fref_Recover_F (n : Nat) (y : C.Ds Ty (snds fref_Recover_D)) : Option (YT Ty fref_Recover_E) := fref_Recover n y.1
noncomputable def fref_Recover_law (n : Nat) : Law Ty := lawC fref_Recover_D 0 fref_Recover_E (fref_Recover_F n)
noncomputable def fref_Recover_T (n : Nat) : List (Nat × Law Ty) := [(80, fref_Framed_law n)]
theorem fref_Recover_Tok (n : Nat) : LawsOk Tryz.prog (fref_Recover_T n) := ⟨fref_Framed_lawOk n, trivial⟩
noncomputable def fref_Recover_l2_C (n : Nat) : CutL Ty := []
theorem fref_Recover_l2_rd (n : Nat) (x : C.Ds Ty (snds fref_Recover_l2_D)) : (exec Tryz.prog 92 (callT Tryz.prog (fref_Recover_T n) []) (cutsOf (fref_Recover_l2_C n)) (bodyAt 6 Tryz.f40) (embS fref_Recover_l2_D x)).runK (typeRd 0 fref_Recover_l2_D fref_Recover_l2_E (fref_Recover_l2_F n)) = fref_Recover_l2_F (n + 1) x := by kernel_rfl
theorem fref_Recover_l2_ok (n : Nat) : CutOk true Tryz.prog 92 (fref_Recover_l2_cut n) (.loop (bodyAt 6 Tryz.f40)) := cut_ok fun x y hy => can_loop (Fn := fref_Recover_l2_F) prog_noRow prog_mix (fun n => callT_ok prog_noRow prog_mix (fref_Recover_Tok n) insNil) (fun h => by cases h) (fun h => by cases h) (fun n => (cuts_ok (fn := Tryz.f40) (L := fref_Recover_l2_C n) (ks := []) trivial (by kernel_rfl) (by kernel_rfl))) (by decide) (fun _ => rfl) fref_Recover_l2_rd hy
noncomputable def fref_Recover_l1_C (n : Nat) : CutL Ty := [(.loop 6, fref_Recover_l2_cut n)]
theorem fref_Recover_l1_rd (n : Nat) (x : C.Ds Ty (snds fref_Recover_l1_D)) : (exec Tryz.prog 92 (callT Tryz.prog (fref_Recover_T n) []) (cutsOf (fref_Recover_l1_C n)) (bodyAt 3 Tryz.f40) (embS fref_Recover_l1_D x)).runK (typeRd 0 fref_Recover_l1_D fref_Recover_l1_E (fref_Recover_l1_F n)) = fref_Recover_l1_F (n + 1) x := by kernel_rfl
theorem fref_Recover_l1_ok (n : Nat) : CutOk true Tryz.prog 92 (fref_Recover_l1_cut n) (.loop (bodyAt 3 Tryz.f40)) := cut_ok fun x y hy => can_loop (Fn := fref_Recover_l1_F) prog_noRow prog_mix (fun n => callT_ok prog_noRow prog_mix (fref_Recover_Tok n) insNil) (fun h => by cases h) (fun h => by cases h) (fun n => (cuts_ok (fn := Tryz.f40) (L := fref_Recover_l1_C n) (ks := [.loop 6]) ⟨fref_Recover_l2_ok n, trivial⟩ (by kernel_rfl) (by kernel_rfl))) (by decide) (fun _ => rfl) fref_Recover_l1_rd hy
noncomputable def fref_Recover_C (n : Nat) : CutL Ty := [(.loop 3, fref_Recover_l1_cut n)]
theorem fref_Recover_rd (n : Nat) (x : C.Ds Ty (snds fref_Recover_D)) : (exec Tryz.prog 92 (callT Tryz.prog (fref_Recover_T n) []) (cutsOf (fref_Recover_C n)) (codeOf Tryz.f40) (embS fref_Recover_D x)).runK (typeRt Tryz.prog Tryz.f40.results.toList 0 fref_Recover_E) = fref_Recover_F n x := by kernel_rfl
theorem fref_Recover_lawOk (n : Nat) : LawOk Tryz.prog 40 (fref_Recover_law n) := law_ok Tryz.func40 rfl rfl (by decide) rfl prog_noRow prog_mix (callT_ok prog_noRow prog_mix (fref_Recover_Tok n) insNil) (cuts_ok (fn := Tryz.f40) (L := fref_Recover_C n) (ks := [.loop 3]) ⟨fref_Recover_l1_ok n, trivial⟩ (by kernel_rfl) (by kernel_rfl)) (fref_Recover_rd n)
def flaw_GarageWrites_l1_D : List (Nat × C) := [(0, .l 9), (1, .l 5), (5, .s 3), (6, .s 3)]
def flaw_GarageWrites_l1_E : List Wo := [⟨.exit 0, [], [(0, .l 9), (1, .l 5), (5, .s 3)], []⟩]
def flaw_GarageWrites_D : List (Nat × C) := [(0, .l 9), (1, .l 5)]
def flaw_GarageWrites_E : List Wo := [⟨.ret, [], [], [.s 4]⟩]
def flaw_GarageWrites_l1 : Nat → (List ByteArray) → (List (IK .u8)) → Int → Int → Option ((List ByteArray × List (IK .u8) × Int × Unit))
  | 0, _, _, _, _ => none
  | n + 1, lines, b, n_, i =>
    bif decide (i < (↑lines.length : Int)) then ((idx lines i).bind fun v0 =>
    flaw_GarageWrites_l1 n lines b (IntKind.i64.wrap (n_ + (↑v0.size : Int))) (IntKind.i64.wrap (i + 1))) else
    some (lines, (b, (n_, ())))
def flaw_GarageWrites_l1_F (n : Nat) (y : C.Ds Ty (snds flaw_GarageWrites_l1_D)) : Option (YT Ty flaw_GarageWrites_l1_E) := flaw_GarageWrites_l1 n y.1 y.2.1 y.2.2.1 y.2.2.2.1
noncomputable def flaw_GarageWrites_l1_cut (n : Nat) : St Ty → Tr (Lf Ty) := cutC flaw_GarageWrites_l1_D 0 flaw_GarageWrites_l1_E (flaw_GarageWrites_l1_F n)
def flaw_GarageWrites (n : Nat) (lines : List ByteArray) (b : List (IK .u8)) : Option ((Bool × Unit)) :=
    (flaw_GarageWrites_l1 n lines b 0 0).bind fun v0 =>
    bif !decide ((↑v0.fst.length : Int) > 52) then (bif !decide (v0.snd.snd.fst > 3000) then (bif decide ((↑v0.snd.fst.length : Int) > 3000) then ((flaw_wakes n).bind fun v1 =>
    some (v1.fst, ())) else
    (flaw_list n v0.fst).bind fun v1 =>
    (fgarage_Write n v1.fst).bind fun v2 =>
    (app [] v0.snd.fst).bind fun v3 =>
    (fgarage_Recover n v3).bind fun v4 =>
    (fref_Right n v0.fst).bind fun v5 =>
    bif !v5.fst then (bif !v2.snd.fst != 3 then (bif (↑v2.fst.length : Int) != 0 then (some (false, ())) else
    (fref_Recover n (strI v0.snd.fst)).bind fun v6 =>
    (flaw_texts n v4.fst v6.fst).bind fun v7 =>
    bif v7.fst then (bif decide (v4.snd.fst = v6.snd.fst) then ((flaw_wakes n).bind fun v8 =>
    some (v8.fst, ())) else
    some (false, ())) else
    some (false, ())) else
    some (false, ())) else
    bif !v2.snd.fst != 0 then ((fref_File n v0.fst).bind fun v6 =>
    bif !(strI v2.fst).beq v6.fst then (some (false, ())) else
    (fref_Recover n (strI v0.snd.fst)).bind fun v7 =>
    (flaw_texts n v4.fst v7.fst).bind fun v8 =>
    bif v8.fst then (bif decide (v4.snd.fst = v7.snd.fst) then ((flaw_wakes n).bind fun v9 =>
    some (v9.fst, ())) else
    some (false, ())) else
    some (false, ())) else
    some (false, ())) else
    (flaw_wakes n).bind fun v1 =>
    some (v1.fst, ())) else
    (flaw_wakes n).bind fun v1 =>
    some (v1.fst, ())
def flaw_GarageWrites_F (n : Nat) (y : C.Ds Ty (snds flaw_GarageWrites_D)) : Option (YT Ty flaw_GarageWrites_E) := flaw_GarageWrites n y.1 y.2.1
noncomputable def flaw_GarageWrites_law (n : Nat) : Law Ty := readC (lawC flaw_GarageWrites_D 0 flaw_GarageWrites_E (flaw_GarageWrites_F n))
noncomputable def flaw_GarageWrites_T (n : Nat) : List (Nat × Law Ty) := [(20, flaw_wakes_law n), (22, flaw_list_law n), (37, fgarage_Write_law n), (38, fgarage_Recover_law n), (23, fref_Right_law n), (39, fref_File_law n), (40, fref_Recover_law n), (41, flaw_texts_law n)]
theorem flaw_GarageWrites_Tok (n : Nat) : LawsOk Tryz.prog (flaw_GarageWrites_T n) := ⟨flaw_wakes_lawOk n, ⟨flaw_list_lawOk n, ⟨fgarage_Write_lawOk n, ⟨fgarage_Recover_lawOk n, ⟨fref_Right_lawOk n, ⟨fref_File_lawOk n, ⟨fref_Recover_lawOk n, ⟨flaw_texts_lawOk n, trivial⟩⟩⟩⟩⟩⟩⟩⟩
noncomputable def flaw_GarageWrites_l1_C (n : Nat) : CutL Ty := []
theorem flaw_GarageWrites_l1_rd (n : Nat) (x : C.Ds Ty (snds flaw_GarageWrites_l1_D)) : (exec Tryz.prog 88 (callT Tryz.prog (flaw_GarageWrites_T n) []) (cutsOf (flaw_GarageWrites_l1_C n)) (bodyAt 3 Tryz.f10) (embS flaw_GarageWrites_l1_D x)).runK (typeRd 0 flaw_GarageWrites_l1_D flaw_GarageWrites_l1_E (flaw_GarageWrites_l1_F n)) = flaw_GarageWrites_l1_F (n + 1) x := by kernel_rfl
theorem flaw_GarageWrites_l1_ok (n : Nat) : CutOk true Tryz.prog 88 (flaw_GarageWrites_l1_cut n) (.loop (bodyAt 3 Tryz.f10)) := cut_ok fun x y hy => can_loop (Fn := flaw_GarageWrites_l1_F) prog_noRow prog_mix (fun n => callT_ok prog_noRow prog_mix (flaw_GarageWrites_Tok n) insNil) (fun h => by cases h) (fun h => by cases h) (fun n => (cuts_ok (fn := Tryz.f10) (L := flaw_GarageWrites_l1_C n) (ks := []) trivial (by kernel_rfl) (by kernel_rfl))) (by decide) (fun _ => rfl) flaw_GarageWrites_l1_rd hy
noncomputable def flaw_GarageWrites_C (n : Nat) : CutL Ty := [(.loop 3, flaw_GarageWrites_l1_cut n)]
theorem flaw_GarageWrites_rd (n : Nat) (x : C.Ds Ty (snds flaw_GarageWrites_D)) : (exec Tryz.prog 88 (callT Tryz.prog (flaw_GarageWrites_T n) []) (cutsOf (flaw_GarageWrites_C n)) (codeOf Tryz.f10) (embS flaw_GarageWrites_D x)).runK (typeRt Tryz.prog Tryz.f10.results.toList 0 flaw_GarageWrites_E) = flaw_GarageWrites_F n x := by kernel_rfl
theorem flaw_GarageWrites_lawOk (n : Nat) : LawOk Tryz.prog 10 (flaw_GarageWrites_law n) := readC_ok (law_ok Tryz.func10 rfl rfl (by decide) rfl prog_noRow prog_mix (callT_ok prog_noRow prog_mix (flaw_GarageWrites_Tok n) insNil) (cuts_ok (fn := Tryz.f10) (L := flaw_GarageWrites_C n) (ks := [.loop 3]) ⟨flaw_GarageWrites_l1_ok n, trivial⟩ (by kernel_rfl) (by kernel_rfl)) (flaw_GarageWrites_rd n))
def flaw_GarageStops_l1_D : List (Nat × C) := [(0, .l 9), (2, .s 87), (7, .l 5), (9, .s 3), (10, .s 3), (11, .s 3)]
def flaw_GarageStops_l1_E : List Wo := [⟨.exit 0, [], [(0, .l 9), (2, .s 87), (7, .l 5), (9, .s 3), (10, .s 3), (11, .s 3)], []⟩, ⟨.ret, [], [(6, .s 4)], []⟩]
def flaw_GarageStops_D : List (Nat × C) := [(0, .l 9), (1, .s 87), (2, .s 87)]
def flaw_GarageStops_E : List Wo := [⟨.ret, [], [], [.s 4]⟩]
def flaw_GarageStops_l1 : Nat → (List ByteArray) → (IK .u16) → (List (IK .u8)) → Int → Int → Int → Option ((List ByteArray × IK .u16 × List (IK .u8) × Int × Int × Int × Unit) ⊕ ((Bool × Unit)))
  | 0, _, _, _, _, _, _ => none
  | n + 1, lines, change, b, cut, n_, end_ =>
    bif decide (n_ < (↑lines.length : Int)) then ((lstSub lines 0 (IntKind.i64.wrap (n_ + 1))).bind fun v0 =>
    (flaw_list n v0).bind fun v1 =>
    (fgarage_Write n v1.fst).bind fun v2 =>
    bif v2.snd.fst != 0 then (some (.inr (false, ()))) else
    bif decide ((↑v2.fst.length : Int) > cut) then (some (.inl (lines, (change, (b, (cut, (n_, (end_, ())))))))) else
    flaw_GarageStops_l1 n lines change b cut (IntKind.i64.wrap (n_ + 1)) (↑v2.fst.length : Int)) else
    some (.inl (lines, (change, (b, (cut, (n_, (end_, ())))))))
def flaw_GarageStops_l1_F (n : Nat) (y : C.Ds Ty (snds flaw_GarageStops_l1_D)) : Option (YT Ty flaw_GarageStops_l1_E) := flaw_GarageStops_l1 n y.1 y.2.1 y.2.2.1 y.2.2.2.1 y.2.2.2.2.1 y.2.2.2.2.2.1
noncomputable def flaw_GarageStops_l1_cut (n : Nat) : St Ty → Tr (Lf Ty) := cutC flaw_GarageStops_l1_D 0 flaw_GarageStops_l1_E (flaw_GarageStops_l1_F n)
def flaw_GarageStops (n : Nat) (lines : List ByteArray) (at_ : IK .u16) (change : IK .u16) : Option ((Bool × Unit)) :=
    (flaw_files n lines).bind fun v0 =>
    bif !v0.fst then ((flaw_wakes n).bind fun v1 =>
    some (v1.fst, ())) else
    (flaw_list n lines).bind fun v1 =>
    (fgarage_Write n v1.fst).bind fun v2 =>
    bif !v2.snd.fst != 0 then (bif decide ((↑v2.fst.length : Int) = 0) then (some (false, ())) else
    (remQ (IntKind.i64.wrap at_.n) (↑v2.fst.length : Int)).bind fun v3 =>
    (flaw_GarageStops_l1 n lines change v2.fst v3 0 0).bind fun v4 =>
    Sum.elim (fun v5 => (lstSub v5.snd.snd.fst 0 v5.snd.snd.snd.fst).bind fun v6 =>
    (app [] v6).bind fun v7 =>
    (fgarage_Recover n v7).bind fun v8 =>
    (lstSub v5.fst 0 v5.snd.snd.snd.snd.fst).bind fun v9 =>
    (flaw_texts n v8.fst v9).bind fun v10 =>
    bif !!v10.fst then (bif v8.snd.fst != v5.snd.snd.snd.snd.snd.fst then (some (false, ())) else
    (app [] v5.snd.snd.fst).bind fun v11 =>
    (idx v11 v5.snd.snd.snd.fst).bind fun v12 =>
    (v11.get?Internal v5.snd.snd.snd.fst.toNat).bind fun v13 =>
    (idx v11 v5.snd.snd.snd.fst).bind fun v14 =>
    (v11.get?Internal v5.snd.snd.snd.fst.toNat).bind fun v15 =>
    (fgarage_Recover n (v11.set v5.snd.snd.snd.fst.toNat (IK.mk (IntKind.u8.wrap (v13.n + IntKind.u8.wrap (IntKind.u16.wrap (1 + v5.snd.fst.n.tmod 255))))))).bind fun v16 =>
    (lstSub v5.fst 0 v5.snd.snd.snd.snd.fst).bind fun v17 =>
    (flaw_texts n v16.fst v17).bind fun v18 =>
    bif !!v18.fst then (bif v16.snd.fst != v5.snd.snd.snd.snd.snd.fst then (some (false, ())) else
    (app [] v5.snd.snd.fst).bind fun v19 =>
    (fgarage_Recover n v19).bind fun v20 =>
    (flaw_texts n v20.fst v5.fst).bind fun v21 =>
    bif v21.fst then (bif decide (v20.snd.fst = (↑v5.snd.snd.fst.length : Int)) then ((flaw_wakes n).bind fun v22 =>
    some (v22.fst, ())) else
    some (false, ())) else
    some (false, ())) else
    some (false, ())) else
    some (false, ())) (fun v5 => some (v5.fst, ())) (v4)) else
    some (false, ())
def flaw_GarageStops_F (n : Nat) (y : C.Ds Ty (snds flaw_GarageStops_D)) : Option (YT Ty flaw_GarageStops_E) := flaw_GarageStops n y.1 y.2.1 y.2.2.1
noncomputable def flaw_GarageStops_law (n : Nat) : Law Ty := readC (lawC flaw_GarageStops_D 0 flaw_GarageStops_E (flaw_GarageStops_F n))
noncomputable def flaw_GarageStops_T (n : Nat) : List (Nat × Law Ty) := [(42, flaw_files_law n), (20, flaw_wakes_law n), (22, flaw_list_law n), (37, fgarage_Write_law n), (38, fgarage_Recover_law n), (41, flaw_texts_law n)]
theorem flaw_GarageStops_Tok (n : Nat) : LawsOk Tryz.prog (flaw_GarageStops_T n) := ⟨flaw_files_lawOk n, ⟨flaw_wakes_lawOk n, ⟨flaw_list_lawOk n, ⟨fgarage_Write_lawOk n, ⟨fgarage_Recover_lawOk n, ⟨flaw_texts_lawOk n, trivial⟩⟩⟩⟩⟩⟩
noncomputable def flaw_GarageStops_l1_C (n : Nat) : CutL Ty := []
theorem flaw_GarageStops_l1_rd (n : Nat) (x : C.Ds Ty (snds flaw_GarageStops_l1_D)) : (exec Tryz.prog 130 (callT Tryz.prog (flaw_GarageStops_T n) []) (cutsOf (flaw_GarageStops_l1_C n)) (bodyAt 8 Tryz.f11) (embS flaw_GarageStops_l1_D x)).runK (typeRd 0 flaw_GarageStops_l1_D flaw_GarageStops_l1_E (flaw_GarageStops_l1_F n)) = flaw_GarageStops_l1_F (n + 1) x := by kernel_rfl
theorem flaw_GarageStops_l1_ok (n : Nat) : CutOk true Tryz.prog 130 (flaw_GarageStops_l1_cut n) (.loop (bodyAt 8 Tryz.f11)) := cut_ok fun x y hy => can_loop (Fn := flaw_GarageStops_l1_F) prog_noRow prog_mix (fun n => callT_ok prog_noRow prog_mix (flaw_GarageStops_Tok n) insNil) (fun h => by cases h) (fun h => by cases h) (fun n => (cuts_ok (fn := Tryz.f11) (L := flaw_GarageStops_l1_C n) (ks := []) trivial (by kernel_rfl) (by kernel_rfl))) (by decide) (fun _ => rfl) flaw_GarageStops_l1_rd hy
noncomputable def flaw_GarageStops_C (n : Nat) : CutL Ty := [(.loop 8, flaw_GarageStops_l1_cut n)]
theorem flaw_GarageStops_rd (n : Nat) (x : C.Ds Ty (snds flaw_GarageStops_D)) : (exec Tryz.prog 130 (callT Tryz.prog (flaw_GarageStops_T n) []) (cutsOf (flaw_GarageStops_C n)) (codeOf Tryz.f11) (embS flaw_GarageStops_D x)).runK (typeRt Tryz.prog Tryz.f11.results.toList 0 flaw_GarageStops_E) = flaw_GarageStops_F n x := by kernel_rfl
theorem flaw_GarageStops_lawOk (n : Nat) : LawOk Tryz.prog 11 (flaw_GarageStops_law n) := readC_ok (law_ok Tryz.func11 rfl rfl (by decide) rfl prog_noRow prog_mix (callT_ok prog_noRow prog_mix (flaw_GarageStops_Tok n) insNil) (cuts_ok (fn := Tryz.f11) (L := flaw_GarageStops_C n) (ks := [.loop 8]) ⟨flaw_GarageStops_l1_ok n, trivial⟩ (by kernel_rfl) (by kernel_rfl)) (flaw_GarageStops_rd n))
def flaw_GaragePlace_D : List (Nat × C) := [(0, .l 9), (1, .s 5)]
def flaw_GaragePlace_E : List Wo := [⟨.ret, [], [], [.s 4]⟩]
def flaw_GaragePlace (n : Nat) (lines : List ByteArray) (at_ : IK .u8) : Option ((Bool × Unit)) :=
    (flaw_files n lines).bind fun v0 =>
    bif !!v0.fst then (bif decide ((↑lines.length : Int) < 2) then ((flaw_wakes n).bind fun v1 =>
    some (v1.fst, ())) else
    (remQ (IntKind.i64.wrap at_.n) (IntKind.i64.wrap ((↑lines.length : Int) - 1))).bind fun v1 =>
    (lstSub lines 0 v1).bind fun v2 =>
    (flaw_list n v2).bind fun v3 =>
    (fgarage_Write n v3.fst).bind fun v4 =>
    (lstSub lines 0 (IntKind.i64.wrap (v1 + 1))).bind fun v5 =>
    (flaw_list n v5).bind fun v6 =>
    (fgarage_Write n v6.fst).bind fun v7 =>
    (lstSub lines 0 (IntKind.i64.wrap (v1 + 2))).bind fun v8 =>
    (flaw_list n v8).bind fun v9 =>
    (fgarage_Write n v9.fst).bind fun v10 =>
    (flaw_list n lines).bind fun v11 =>
    (fgarage_Write n v11.fst).bind fun v12 =>
    bif !v4.snd.fst != 0 then (bif !v7.snd.fst != 0 then (bif !v10.snd.fst != 0 then (bif !v12.snd.fst != 0 then (bif !decide ((↑v4.fst.length : Int) ≥ (↑v7.fst.length : Int)) then (bif !decide ((↑v7.fst.length : Int) ≥ (↑v10.fst.length : Int)) then (bif decide ((↑v10.fst.length : Int) > (↑v12.fst.length : Int)) then (some (false, ())) else
    (app [] v4.fst).bind fun v13 =>
    (lstSub v10.fst (↑v7.fst.length : Int) (↑v10.fst.length : Int)).bind fun v14 =>
    (app v13 v14).bind fun v15 =>
    (lstSub v7.fst (↑v4.fst.length : Int) (↑v7.fst.length : Int)).bind fun v16 =>
    (app v15 v16).bind fun v17 =>
    (lstSub v12.fst (↑v10.fst.length : Int) (↑v12.fst.length : Int)).bind fun v18 =>
    (app v17 v18).bind fun v19 =>
    (fgarage_Recover n v19).bind fun v20 =>
    (lstSub lines 0 v1).bind fun v21 =>
    (flaw_texts n v20.fst v21).bind fun v22 =>
    bif !!v22.fst then (bif v20.snd.fst != (↑v4.fst.length : Int) then (some (false, ())) else
    (app [] v4.fst).bind fun v23 =>
    (lstSub v12.fst (↑v7.fst.length : Int) (↑v12.fst.length : Int)).bind fun v24 =>
    (app v23 v24).bind fun v25 =>
    (fgarage_Recover n v25).bind fun v26 =>
    (lstSub lines 0 v1).bind fun v27 =>
    (flaw_texts n v26.fst v27).bind fun v28 =>
    bif v28.fst then (bif decide (v26.snd.fst = (↑v4.fst.length : Int)) then ((flaw_wakes n).bind fun v29 =>
    some (v29.fst, ())) else
    some (false, ())) else
    some (false, ())) else
    some (false, ())) else
    some (false, ())) else
    some (false, ())) else
    some (false, ())) else
    some (false, ())) else
    some (false, ())) else
    some (false, ())) else
    (flaw_wakes n).bind fun v1 =>
    some (v1.fst, ())
def flaw_GaragePlace_F (n : Nat) (y : C.Ds Ty (snds flaw_GaragePlace_D)) : Option (YT Ty flaw_GaragePlace_E) := flaw_GaragePlace n y.1 y.2.1
noncomputable def flaw_GaragePlace_law (n : Nat) : Law Ty := readC (lawC flaw_GaragePlace_D 0 flaw_GaragePlace_E (flaw_GaragePlace_F n))
noncomputable def flaw_GaragePlace_T (n : Nat) : List (Nat × Law Ty) := [(42, flaw_files_law n), (20, flaw_wakes_law n), (22, flaw_list_law n), (37, fgarage_Write_law n), (38, fgarage_Recover_law n), (41, flaw_texts_law n)]
theorem flaw_GaragePlace_Tok (n : Nat) : LawsOk Tryz.prog (flaw_GaragePlace_T n) := ⟨flaw_files_lawOk n, ⟨flaw_wakes_lawOk n, ⟨flaw_list_lawOk n, ⟨fgarage_Write_lawOk n, ⟨fgarage_Recover_lawOk n, ⟨flaw_texts_lawOk n, trivial⟩⟩⟩⟩⟩⟩
noncomputable def flaw_GaragePlace_C (n : Nat) : CutL Ty := []
theorem flaw_GaragePlace_rd (n : Nat) (x : C.Ds Ty (snds flaw_GaragePlace_D)) : (exec Tryz.prog 160 (callT Tryz.prog (flaw_GaragePlace_T n) []) (cutsOf (flaw_GaragePlace_C n)) (codeOf Tryz.f12) (embS flaw_GaragePlace_D x)).runK (typeRt Tryz.prog Tryz.f12.results.toList 0 flaw_GaragePlace_E) = flaw_GaragePlace_F n x := by kernel_rfl
theorem flaw_GaragePlace_lawOk (n : Nat) : LawOk Tryz.prog 12 (flaw_GaragePlace_law n) := readC_ok (law_ok Tryz.func12 rfl rfl (by decide) rfl prog_noRow prog_mix (callT_ok prog_noRow prog_mix (flaw_GaragePlace_Tok n) insNil) (cuts_ok (fn := Tryz.f12) (L := flaw_GaragePlace_C n) (ks := []) trivial (by kernel_rfl) (by kernel_rfl)) (flaw_GaragePlace_rd n))
end Go.Proofs.YtkpgggfibljflaaGreatDoor
namespace Go.Proofs.YtkpgggfibljflaaGreatDoor
open Go Go.RowKit Go.Proofs
theorem wakes_ok (k : Nat) : flaw_wakes (k + 60) = some (true, ()) := by kernel_rfl
end Go.Proofs.YtkpgggfibljflaaGreatDoor
