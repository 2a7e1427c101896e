/- What a proof leans on: a machine that steps through code, and what functions compute. -/
import Derived.Test.YtkpgggfibljflaaGreatDoorGnS17
set_option linter.all false
set_option maxRecDepth 100000
namespace Go.Proofs.YtkpgggfibljflaaGreatDoor
open Go Go.RowKit Go.Proofs
open Rep (rep)
def headC : Code → Code
  | .seq a _ => a
  | c => c
theorem nextS_code : codeOf Tryz.f84 = .seq (headC (codeOf Tryz.f84)) (.seq (headC (dropC 1 (codeOf Tryz.f84))) (dropC 2 (codeOf Tryz.f84))) := by kernel_rfl
def nextS_D : List (Nat × C) := [(0, .u 114), (1, .s 9)]
def nextS_E : List Wo := [⟨.ret, [.u 114], [], [.s 37]⟩]
def nextS (n : Nat) (g : Session) (text : ByteArray) : Option (Session × Int × Unit) := (nextB n g text 0).bind fun y => match y with
  | .inl a => some (a.1, a.2.1.1, ())
  | .inr a => some (a.1, a.2.2.2.1.errno, ())
def nextS_F (n : Nat) (y : C.Ds Ty (snds nextS_D)) : Option (YT Ty nextS_E) := nextS n y.1 y.2.1
noncomputable def nextS_law (n : Nat) : Law Ty := lawC nextS_D 1 nextS_E (nextS_F n)
noncomputable def nextS_st (x : C.Ds Ty (snds nextS_D)) : St Ty := ⟨[(4, .ptr 2000 0), (0, .ptr 0 0), (1, oneOf (UV.view 9 x.2.1))], [(0, .blk 0 (UV.view 114 x.1)), (2000, .blk 37 [.int .i64 0])], 2064⟩
theorem nextS_r0 (x : C.Ds Ty (snds nextS_D)) : (exec Tryz.prog 50 (callT Tryz.prog [] []) (cutsOf []) (headC (codeOf Tryz.f84)) (embS nextS_D x)).runK some = some ⟨.normal, nextS_st x⟩ := by kernel_rfl
theorem nextS_r1 (t : Array Value) (d : List Deferred) (w : World) (Q : Exit → Act → World → Prop) (p : Addr) (ht : t.size = 50) (hp : t[4]? = some (.pointer (some p)))
    (hQ : ∀ t', t'.size = 50 → (∀ k, k ≠ 11 → t'[k]? = t[k]?) → Q .normal ⟨t', ⟨.fn (.func 137) #[.pointer (some p)], #[]⟩ :: d⟩ w) : (headC (dropC 1 (codeOf Tryz.f84))).wp Tryz.prog Q ⟨t, d⟩ w := by
  have hc : headC (dropC 1 (codeOf Tryz.f84)) = Code.region 1
      #[{ dst := some 11, op := Op.makeFunc (Fn.func 137) #[] #[Operand.tmp 4], type := 1, pos := "garage.go:102",
          after := #[], guard := none },
        { dst := none, op := Op.defer { callee := Callee.value (Operand.tmp 11), args := #[], argTypes := #[] },
          type := 0, pos := "garage.go:102", after := #[{ on := 0, ground := Ground.data }], guard := none }]
      false := by kernel_rfl
  rw [hc]
  have hmf : ∀ (fn : Fn) (first cap : Array Value) (w : World), (Instr.makeFunc fn first cap).run Tryz.prog w = .ok (.func fn first cap) w := fun _ _ _ _ => rfl
  have h4 : 4 < t.size := by omega
  have h11 : 11 < t.size := by omega
  have he : t.getD 4 Go.undef = .pointer (some p) := by simp [Array.getD_eq_getD_getElem?, hp]
  refine wp_region ?_
  simp [wpOps, go_sem, hmf, Region.wanted, Act.eval, h11]
  rw [hp]
  exact .inl (.inl (hQ _ (by simp [ht]) fun k hk => by rw [Array.getElem?_setIfInBounds_ne (Ne.symm hk)]))
noncomputable def nextS_m1 (a : Session) (e : Int) : Sto Ty := [(2000, .blk 0 [.int .i64 e]), (0, .blk 0 (UV.view 114 a))]
noncomputable def nextS_lf (k : EK) (a : Session) (e r : Int) : Lf Ty := ⟨k.ext [.ifc 234 (.agg [.int .i64 r])], ⟨[(4, .ptr 2000 0)], nextS_m1 a e, 2064⟩⟩
theorem nextS_cut (Fn : C.Ds Ty (snds nextB_D) → Option (YT Ty nextB_E)) (x : C.Ds Ty (snds nextS_D)) : (cutC nextB_D 2 nextB_E Fn (nextS_st x)).runK some = (Fn (x.1, x.2.1, ((0 : Int), ()), ())).bind fun y => y.elim (fun a => some (nextS_lf .ret a.1 a.2.1.1 0)) (fun a => some (nextS_lf .pan a.1 a.2.1.1 a.2.2.2.1.errno)) := by kernel_rfl
theorem nextS_res {F : Fr} {h : Heap} {g : GE} {t : Array Value} {w : World} {a : Session} {e : Int} (hk : KnV g h ([(4, .ptr 2000 0)] : List (Nat × V Ty)) t) (hm : MemV F h g (AL.get (nextS_m1 a e)) w) : ∃ us, V.dens g h ([.int .i64 e] : List (V Ty)) us ∧ (results Tryz.f84 t).run Tryz.prog w = .ok (tupU us) w :=
  results_sound2 (P := Tryz.prog) (m := [(4, .ptr 2000 0)]) (s := nextS_m1 a e) (vs := [.int .i64 e]) hk hm (by kernel_rfl)
theorem nextS_ty (a : Session) (e : Int) : typeRs 1 false ([.int .i64 e] : List (V Ty)) ⟨[], nextS_m1 a e, 2064⟩ nextS_E = some (a, e, ()) := by kernel_rfl
theorem mem2000 (a : Session) (e : Int) : AL.get (nextS_m1 a e) 2000 = some (.blk 0 [.int .i64 e]) := by kernel_rfl
theorem nextS_body (n : Nat) (x : C.Ds Ty (snds nextS_D)) (y : YT Ty nextS_E) (hy : nextS_F n x = some y) (F : Fr) (h : Heap) (g : GE) (t : Array Value) (w : World) (R : Ending → World → Prop) (hs : RS Tryz.f84.ntmps F h g (2 * rowB) (embS nextS_D x).m (embS nextS_D x).s t w)
    (hfin : ∀ (F3 : Fr) (h2 : Heap) (g2 : GE) (w3 : World) (st : St Ty) (p : Bool) (rv : List (V Ty)) (rus : List Value), st.m = [] → FD F F3 [] [] → Heap.le h h2 → (∀ i, i < 2 * rowB → g2 i = g i) → 2 * rowB ≤ st.nx → MemV F3 h2 g2 (AL.get st.s) w3 → InS st.nx (AL.get st.s) → typeRs 1 p rv st nextS_E = some y → V.dens g2 h2 rv rus → V.oksB (ltN st.nx) rv = true → R (endOf p (tupU rus)) w3) :
    (codeOf Tryz.f84).wp Tryz.prog (bodyPostM Fence.wide 0 Tryz.prog Tryz.f84 R) ⟨t, []⟩ w := by
  have hn : Tryz.f84.ntmps = 50 := by kernel_rfl
  rw [hn] at hs
  rw [nextS_code]
  refine wp_seq ?_
  refine exec_sound (y := true) (call := callT Tryz.prog [] []) (cuts := cutsOf []) prog_noRow prog_mix (callT_ok (T := []) (I := []) prog_noRow prog_mix trivial trivial) (fun h => by cases h) (headC (codeOf Tryz.f84)) (fun h => by cases h) (fun _ _ _ hf => by cases hf) (embS nextS_D x) _ (nextS_r0 x) F h g t w _ [] hs ?_
  intro F1 d1 h1 g1 t1 w1 q0 q1 q2 q3 q4
  have hnx : (embS nextS_D x).nx = 2 * rowB := rfl
  rw [hnx] at q2
  show Code.wp Tryz.prog _ (bodyPostM Fence.wide 0 Tryz.prog Tryz.f84 R) ⟨t1, d1⟩ w1
  refine wp_seq ?_
  obtain ⟨u, hu, hd⟩ := q4.kn 4 (.ptr 2000 0) rfl
  unfold V.den at hd
  subst hd
  refine nextS_r1 t1 d1 w1 _ ⟨(g1 2000).b, 0, none⟩ q4.size hu fun t2 ht2 hk2 => ?_
  show Code.wp Tryz.prog (dropC 2 (codeOf Tryz.f84)) (bodyPostM Fence.wide 0 Tryz.prog Tryz.f84 R) _ w1
  have hcut : CutOk true Tryz.prog 50 (cutC nextB_D 2 nextB_E (nextB_F n)) (dropC 2 (codeOf Tryz.f84)) := cut_ok fun x y hy => nextB_can n hy
  have hk3 : KnV g1 h1 (nextS_st x).m t2 := fun k v hv => by
    obtain ⟨u', e1, e2⟩ := q4.kn k v hv
    refine ⟨u', ?_, e2⟩
    rw [hk2 k ?_]; exact e1
    intro hh
    subst hh
    cases hv
  have hs2 : RS 50 F1 h1 g1 (nextS_st x).nx (nextS_st x).m (nextS_st x).s t2 w1 := ⟨ht2, hk3, q4.mem, q4.im, q4.is_⟩
  -- what comes behind the body
  have fin : ∀ (a : Session) (e : Int), (a, e, ()) = y → ∀ (F3 : Fr) (h2 : Heap) (g2 : GE) (t3 : Array Value) (w3 : World), FD F F3 [] [] → Heap.le h1 h2 → (∀ i, i < 2064 → g2 i = g1 i) → KnV g2 h2 ([(4, .ptr 2000 0)] : List (Nat × V Ty)) t3 → MemV F3 h2 g2 (AL.get (nextS_m1 a e)) w3 → InS 2064 (AL.get (nextS_m1 a e)) → LeavesInM Fence.wide 0 Tryz.prog Tryz.f84 t3 R [] .returning w3 := by
    intro a e hye F3 h2 g2 t3 w3 f1 f2 f3 f4 f5 f6
    obtain ⟨us, r1, r2⟩ := nextS_res f4 f5
    refine ⟨tupU us, r2, ?_⟩
    have hlt : 2 * rowB ≤ 2064 := by decide
    exact hfin F3 h2 g2 w3 ⟨[], nextS_m1 a e, 2064⟩ false [.int .i64 e] us rfl f1 (Heap.le_trans q1 f2) (fun i hi => by rw [f3 i (Nat.lt_of_lt_of_le hi hlt), q2 i hi]) hlt f5 f6 ((nextS_ty a e).trans (congrArg some hye)) r1 rfl
  obtain ⟨bs1, hd1, nd1, hX1⟩ := q0.ds
  rw [List.append_nil] at hd1
  have rest : ∀ (a : Session) (e : Int), (a, e, ()) = y → ∀ (F3 : Fr) (h2 : Heap) (g2 : GE) (t3 : Array Value) (w3 : World), FD F1 F3 [] [] → Heap.le h1 h2 → (∀ i, i < 2064 → g2 i = g1 i) → KnV g2 h2 ([(4, .ptr 2000 0)] : List (Nat × V Ty)) t3 → MemV F3 h2 g2 (AL.get (nextS_m1 a e)) w3 → InS 2064 (AL.get (nextS_m1 a e)) → LeavesInM Fence.wide 0 Tryz.prog Tryz.f84 t3 R d1 .returning w3 := by
    intro a e hye F3 h2 g2 t3 w3 f1 f2 f3 f4 f5 f6
    have := leaves_marks_then (P := Tryz.prog) (F := F) (h := h2) (g := g2) (M := AL.get (nextS_m1 a e)) (fn := Tryz.f84) (t := t3) (R := R) (u := .returning) (rest := []) (by simp) (fun F4 w4 k1 k2 => fin a e hye F4 h2 g2 t3 w4 k1 f2 f3 f4 k2 f6) bs1 F3 w3 ⟨by rw [f1.w, q0.w], by rw [f1.h, q0.h], fun b o hb => f1.X b o (q0.X b o hb), [], rfl, List.nodup_nil, by simp⟩ f5 nd1 fun b hb => ⟨(hX1 b hb).1, f1.X _ _ (hX1 b hb).2⟩
    rw [List.append_nil] at this
    rw [hd1]; exact this
  have hy2 : ((nextB n x.1 x.2.1 0).bind fun y => match y with
    | .inl a => some (a.1, a.2.1.1, ())
    | .inr a => some (a.1, a.2.2.2.1.errno, ())) = some y := hy
  obtain ⟨y0, hy0, hy3⟩ := Option.bind_eq_some_iff.1 hy2
  have hrun := nextS_cut (nextB_F n) x
  have hB : nextB_F n (x.1, x.2.1, ((0 : Int), ()), ()) = some y0 := hy0
  rw [hB] at hrun
  cases y0 with
  | inl a =>
    have hye := Option.some.inj hy3
    refine hcut (nextS_st x) _ hrun F1 h1 g1 t2 w1 _ _ hs2 ?_
    intro F2 d2 h2 g2 t3 w2 p0 p1 p2 p3 p4
    show LeavesInM Fence.wide 0 Tryz.prog Tryz.f84 t3 R d2 .returning w2
    obtain ⟨bs, hd2, nd, hX⟩ := p0.ds
    rw [hd2]
    refine leaves_marks_then (P := Tryz.prog) (F := F1) (h := h2) (g := g2) (M := AL.get (nextS_m1 a.1 a.2.1.1)) (by simp) (fun F4 w4 k1 k2 => ?_) bs F2 w2 p0.nil p4.mem nd hX
    refine ⟨by simp, .inr ⟨fun hh => by simp [Fence.wide] at hh, _, _, 137, #[.pointer (some ⟨(g1 2000).b, 0, none⟩)], rfl, by simp [go_sem], fun _ _ => trivial, ?_⟩⟩
    refine (catch_idle _ w4).mono ?_
    rintro e u' w' ⟨rfl, rfl, rfl⟩
    exact rest a.1 a.2.1.1 hye F4 h2 g2 t3 w' k1 p1 (fun i hi => p2 i hi) p4.kn k2 p4.is_
  | inr a =>
    have hye := Option.some.inj hy3
    refine hcut (nextS_st x) _ hrun F1 h1 g1 t2 w1 _ _ hs2 ?_
    intro F2 d2 h2 g2 t3 w2 p0 p1 p2 p3 p4
    intro v hv _
    show LeavesInM Fence.wide 0 Tryz.prog Tryz.f84 t3 R d2 (.panicking [{ v := v, recovered := false }]) w2
    have hvv : v = .iface 234 (.agg #[.int .i64 a.2.2.2.1.errno]) := by
      have hv : V.den g2 h2 (.ifc 234 (.agg [.int .i64 a.2.2.2.1.errno]) : V Ty) v := hv
      unfold V.den at hv
      obtain ⟨z, rfl, hz⟩ := hv
      unfold V.den at hz
      obtain ⟨us, rfl, hz⟩ := hz
      unfold V.dens at hz
      obtain ⟨u1, us1, rfl, hz1, hz2⟩ := hz
      unfold V.dens at hz2
      unfold V.den at hz1
      subst hz1 hz2
      rfl
    subst hvv
    obtain ⟨bs, hd2, nd, hX⟩ := p0.ds
    rw [hd2]
    refine leaves_marks_then (P := Tryz.prog) (F := F1) (h := h2) (g := g2) (M := AL.get (nextS_m1 a.1 a.2.1.1)) (by simp) (fun F4 w4 k1 k2 => ?_) bs F2 w2 p0.nil p4.mem nd hX
    refine ⟨by simp, .inr ⟨fun hh => by simp [Fence.wide] at hh, _, _, 137, #[.pointer (some ⟨(g1 2000).b, 0, none⟩)], rfl, by simp [go_sem], fun _ _ => trivial, ?_⟩⟩
    have hm20 := mem2000 a.1 a.2.1.1
    obtain ⟨us, T, b1, b2, b3, b4, b5⟩ := k2.blk hm20
    unfold V.dens at b2
    obtain ⟨u1, us1, rfl, b6, b7⟩ := b2
    unfold V.dens at b7
    unfold V.den at b6
    subst b6 b7
    have hg20 : (g2 2000).b = (g1 2000).b := by rw [p2 2000 (show (2000 : Nat) < 2064 by decide)]
    rw [hg20] at b1
    have hlt : (g1 2000).b < w4.heap.size := (Array.getElem?_eq_some_iff.1 b1).1
    have hfz : w4.frozen? ⟨(g1 2000).b, 0, none⟩ = false := by simp [World.frozen?, b1]
    have hcl : w4.cell? ⟨(g1 2000).b, 0, none⟩ = some (.int .i64 a.2.1.1) := by
      have := b5 0 _ rfl
      rw [hg20] at this
      exact this
    refine (catch_panicking ⟨(g1 2000).b, 0, none⟩ a.2.1.1 a.2.2.2.1.errno w4 hlt hcl hfz).mono ?_
    rintro e u' w' ⟨rfl, rfl, rfl⟩
    have ha : (w4.alloc (.cells #[.int .i64 a.2.2.2.1.errno] 234)).heap[(g1 2000).b]? = some (.cells #[.int .i64 a.2.1.1] T (0, 0)) := by
      rw [show (w4.alloc (.cells #[.int .i64 a.2.2.2.1.errno] 234)).heap = w4.heap.push (.cells #[.int .i64 a.2.2.2.1.errno] 234) from rfl, Array.getElem?_push, if_neg (by omega)]
      exact b1
    have hgr : w4.grownBy (w4.alloc (.cells #[.int .i64 a.2.2.2.1.errno] 234)) none := World.grownBy_alloc _ _ none
    have hm5 := (k2.grow hgr).set hm20 b4 (w' := (w4.alloc (.cells #[.int .i64 a.2.2.2.1.errno] 234)).setCell ⟨(g1 2000).b, 0, none⟩ (.int .i64 a.2.2.2.1.errno)) (by rw [hg20]; exact setCell_grown _ ⟨(g1 2000).b, 0, none⟩ _) (c' := .blk 0 [.int .i64 a.2.2.2.1.errno]) ⟨b4, [.int .i64 a.2.2.2.1.errno], T, by rw [hg20]; exact setCell_zero ha, by unfold V.dens V.dens; exact ⟨_, [], rfl, by unfold V.den; rfl, rfl⟩, fun u hu => by simp at hu; subst hu; rfl, .inl rfl⟩
    have hsame : Mo.put (AL.get (nextS_m1 a.1 a.2.1.1)) 2000 (some (.blk 0 [.int .i64 a.2.2.2.1.errno])) = AL.get (nextS_m1 a.1 a.2.2.2.1.errno) := by
      funext j
      unfold Mo.put
      by_cases hj : j = 2000
      · subst hj; rw [if_pos rfl, mem2000]
      · rw [if_neg hj]
        show (bif Nat.beq 2000 j then _ else (bif Nat.beq 0 j then _ else none)) = (bif Nat.beq 2000 j then _ else (bif Nat.beq 0 j then _ else none))
        have : Nat.beq 2000 j = false := by
          cases hb : Nat.beq 2000 j with
          | false => rfl
          | true => exact absurd (Nat.eq_of_beq_eq_true hb).symm hj
        rw [this]; rfl
    rw [hsame] at hm5
    have his5 : InS 2064 (AL.get (nextS_m1 a.1 a.2.2.2.1.errno)) := fun i c hi => by
      rw [← hsame] at hi
      unfold Mo.put at hi
      split at hi
      · rename_i hj; subst hj; cases hi; exact ⟨rfl, rfl⟩
      · exact p4.is_ i c hi
    exact rest a.1 a.2.2.2.1.errno hye F4 h2 g2 t3 _ k1 p1 (fun i hi => p2 i hi) p4.kn hm5 his5
theorem nextS_lawOk (n : Nat) : LawOk Tryz.prog 84 (nextS_law n) := law_body Tryz.func84 rfl rfl (by decide) rfl (nextS_body n)
end Go.Proofs.YtkpgggfibljflaaGreatDoor
namespace Go.Proofs.YtkpgggfibljflaaGreatDoor
open Go Go.RowKit Go.Proofs
open Rep (rep)
def fgarage_check_l1_D : List (Nat × C) := [(8, .l 9), (9, .s 3), (10, .s 3)]
def fgarage_check_l1_E : List Wo := [⟨.exit 0, [], [], []⟩, ⟨.ret, [], [(2, .s 3)], []⟩]
def fgarage_check_D : List (Nat × C) := [(0, .l 9)]
def fgarage_check_E : List Wo := [⟨.ret, [], [], [.s 3]⟩]
def fgarage_check_l1 : Nat → (List ByteArray) → Int → Int → Option (Unit ⊕ ((Int × Unit)))
  | 0, _, _, _ => none
  | n + 1, x8, x9, x10 =>
    bif decide (x10 < x9) then ((idx x8 x10).bind fun v0 =>
    bif decide ((↑v0.size : Int) > 200) then (some (.inr (3, ()))) else
    fgarage_check_l1 n x8 x9 (IntKind.i64.wrap (x10 + 1))) else
    some (.inl ())
def fgarage_check_l1_F (n : Nat) (y : C.Ds Ty (snds fgarage_check_l1_D)) : Option (YT Ty fgarage_check_l1_E) := fgarage_check_l1 n y.1 y.2.1 y.2.2.1
noncomputable def fgarage_check_l1_cut (n : Nat) : St Ty → Tr (Lf Ty) := cutC fgarage_check_l1_D 0 fgarage_check_l1_E (fgarage_check_l1_F n)
def fgarage_check (n : Nat) (lines : List ByteArray) : Option ((Int × Unit)) :=
    bif decide ((↑lines.length : Int) > 50) then (some (3, ())) else
    (fgarage_check_l1 n lines (↑lines.length : Int) 0).bind fun v0 =>
    Sum.elim (fun v1 => some (0, ())) (fun v1 => some (v1.fst, ())) (v0)
def fgarage_check_F (n : Nat) (y : C.Ds Ty (snds fgarage_check_D)) : Option (YT Ty fgarage_check_E) := fgarage_check n y.1
noncomputable def fgarage_check_law (n : Nat) : Law Ty := readC (lawC fgarage_check_D 0 fgarage_check_E (fgarage_check_F n))
noncomputable def fgarage_check_T (n : Nat) : List (Nat × Law Ty) := []
theorem fgarage_check_Tok (n : Nat) : LawsOk Tryz.prog (fgarage_check_T n) := trivial
noncomputable def fgarage_check_l1_C (n : Nat) : CutL Ty := []
theorem fgarage_check_l1_rd (n : Nat) (x : C.Ds Ty (snds fgarage_check_l1_D)) : (exec Tryz.prog 18 (callT Tryz.prog (fgarage_check_T n) []) (cutsOf (fgarage_check_l1_C n)) (bodyAt 4 Tryz.f52) (embS fgarage_check_l1_D x)).runK (typeRd 0 fgarage_check_l1_D fgarage_check_l1_E (fgarage_check_l1_F n)) = fgarage_check_l1_F (n + 1) x := by kernel_rfl
theorem fgarage_check_l1_ok (n : Nat) : CutOk true Tryz.prog 18 (fgarage_check_l1_cut n) (.loop (bodyAt 4 Tryz.f52)) := cut_ok fun x y hy => can_loop (Fn := fgarage_check_l1_F) prog_noRow prog_mix (fun n => callT_ok prog_noRow prog_mix (fgarage_check_Tok n) insNil) (fun h => by cases h) (fun h => by cases h) (fun n => (cuts_ok (fn := Tryz.f52) (L := fgarage_check_l1_C n) (ks := []) trivial (by kernel_rfl) (by kernel_rfl))) (by decide) (fun _ => rfl) fgarage_check_l1_rd hy
noncomputable def fgarage_check_C (n : Nat) : CutL Ty := [(.loop 4, fgarage_check_l1_cut n)]
theorem fgarage_check_rd (n : Nat) (x : C.Ds Ty (snds fgarage_check_D)) : (exec Tryz.prog 18 (callT Tryz.prog (fgarage_check_T n) []) (cutsOf (fgarage_check_C n)) (codeOf Tryz.f52) (embS fgarage_check_D x)).runK (typeRt Tryz.prog Tryz.f52.results.toList 0 fgarage_check_E) = fgarage_check_F n x := by kernel_rfl
theorem fgarage_check_lawOk (n : Nat) : LawOk Tryz.prog 52 (fgarage_check_law n) := readC_ok (law_ok Tryz.func52 rfl rfl (by decide) rfl prog_noRow prog_mix (callT_ok prog_noRow prog_mix (fgarage_check_Tok n) insNil) (cuts_ok (fn := Tryz.f52) (L := fgarage_check_C n) (ks := [.loop 4]) ⟨fgarage_check_l1_ok n, trivial⟩ (by kernel_rfl) (by kernel_rfl)) (fgarage_check_rd n))
def fgarage_session_miles_l1_D : List (Nat × C) := [(1, .s 3), (4, .s 3), (5, .s 3), (12, .l 62), (13, .s 3), (14, .s 3)]
def fgarage_session_miles_l1_E : List Wo := [⟨.exit 0, [], [(4, .s 3), (5, .s 3)], []⟩]
def fgarage_session_miles_D : List (Nat × C) := [(0, .u 114), (1, .s 3)]
def fgarage_session_miles_E : List Wo := [⟨.ret, [.u 114], [], [.s 3, .s 3]⟩]
def fgarage_session_miles_l1 : Nat → Int → Int → Int → (List Run) → Int → Int → Option ((Int × Int × Unit))
  | 0, _, _, _, _, _, _ => none
  | n + 1, bus, n_, runs, x12, x13, x14 =>
    bif decide (x14 < x13) then ((idx x12 x14).bind fun v0 =>
    bif decide (v0.bus = bus) then (fgarage_session_miles_l1 n bus (IntKind.i64.wrap (n_ + v0.miles)) (IntKind.i64.wrap (runs + 1)) x12 x13 (IntKind.i64.wrap (x14 + 1))) else
    fgarage_session_miles_l1 n bus n_ runs x12 x13 (IntKind.i64.wrap (x14 + 1))) else
    some (n_, (runs, ()))
def fgarage_session_miles_l1_F (n : Nat) (y : C.Ds Ty (snds fgarage_session_miles_l1_D)) : Option (YT Ty fgarage_session_miles_l1_E) := fgarage_session_miles_l1 n y.1 y.2.1 y.2.2.1 y.2.2.2.1 y.2.2.2.2.1 y.2.2.2.2.2.1
noncomputable def fgarage_session_miles_l1_cut (n : Nat) : St Ty → Tr (Lf Ty) := cutC fgarage_session_miles_l1_D 0 fgarage_session_miles_l1_E (fgarage_session_miles_l1_F n)
def fgarage_session_miles (n : Nat) (g : Session) (bus : Int) : Option ((Session × Int × Int × Unit)) :=
    (fgarage_session_miles_l1 n bus 0 0 g.state.runs (↑g.state.runs.length : Int) 0).bind fun v0 =>
    some (g, (v0.fst, (v0.snd.fst, ())))
def fgarage_session_miles_F (n : Nat) (y : C.Ds Ty (snds fgarage_session_miles_D)) : Option (YT Ty fgarage_session_miles_E) := fgarage_session_miles n y.1 y.2.1
noncomputable def fgarage_session_miles_law (n : Nat) : Law Ty := lawC fgarage_session_miles_D 1 fgarage_session_miles_E (fgarage_session_miles_F n)
noncomputable def fgarage_session_miles_T (n : Nat) : List (Nat × Law Ty) := []
theorem fgarage_session_miles_Tok (n : Nat) : LawsOk Tryz.prog (fgarage_session_miles_T n) := trivial
noncomputable def fgarage_session_miles_l1_C (n : Nat) : CutL Ty := []
theorem fgarage_session_miles_l1_rd (n : Nat) (x : C.Ds Ty (snds fgarage_session_miles_l1_D)) : (exec Tryz.prog 31 (callT Tryz.prog (fgarage_session_miles_T n) []) (cutsOf (fgarage_session_miles_l1_C n)) (bodyAt 2 Tryz.f76) (embS fgarage_session_miles_l1_D x)).runK (typeRd 0 fgarage_session_miles_l1_D fgarage_session_miles_l1_E (fgarage_session_miles_l1_F n)) = fgarage_session_miles_l1_F (n + 1) x := by kernel_rfl
theorem fgarage_session_miles_l1_ok (n : Nat) : CutOk true Tryz.prog 31 (fgarage_session_miles_l1_cut n) (.loop (bodyAt 2 Tryz.f76)) := cut_ok fun x y hy => can_loop (Fn := fgarage_session_miles_l1_F) prog_noRow prog_mix (fun n => callT_ok prog_noRow prog_mix (fgarage_session_miles_Tok n) insNil) (fun h => by cases h) (fun h => by cases h) (fun n => (cuts_ok (fn := Tryz.f76) (L := fgarage_session_miles_l1_C n) (ks := []) trivial (by kernel_rfl) (by kernel_rfl))) (by decide) (fun _ => rfl) fgarage_session_miles_l1_rd hy
noncomputable def fgarage_session_miles_C (n : Nat) : CutL Ty := [(.loop 2, fgarage_session_miles_l1_cut n)]
theorem fgarage_session_miles_rd (n : Nat) (x : C.Ds Ty (snds fgarage_session_miles_D)) : (exec Tryz.prog 31 (callT Tryz.prog (fgarage_session_miles_T n) []) (cutsOf (fgarage_session_miles_C n)) (codeOf Tryz.f76) (embS fgarage_session_miles_D x)).runK (typeRt Tryz.prog Tryz.f76.results.toList 1 fgarage_session_miles_E) = fgarage_session_miles_F n x := by kernel_rfl
theorem fgarage_session_miles_lawOk (n : Nat) : LawOk Tryz.prog 76 (fgarage_session_miles_law n) := law_ok Tryz.func76 rfl rfl (by decide) rfl prog_noRow prog_mix (callT_ok prog_noRow prog_mix (fgarage_session_miles_Tok n) insNil) (cuts_ok (fn := Tryz.f76) (L := fgarage_session_miles_C n) (ks := [.loop 2]) ⟨fgarage_session_miles_l1_ok n, trivial⟩ (by kernel_rfl) (by kernel_rfl)) (fgarage_session_miles_rd n)
def flaw_ints_l1_D : List (Nat × C) := [(0, .l 3), (1, .l 3), (5, .s 3)]
def flaw_ints_l1_E : List Wo := [⟨.exit 0, [], [], []⟩, ⟨.ret, [], [(4, .s 4)], []⟩]
def flaw_ints_D : List (Nat × C) := [(0, .l 3), (1, .l 3)]
def flaw_ints_E : List Wo := [⟨.ret, [], [], [.s 4]⟩]
def flaw_ints_l1 : Nat → (List Int) → (List Int) → Int → Option (Unit ⊕ ((Bool × Unit)))
  | 0, _, _, _ => none
  | n + 1, a, b, i =>
    bif decide (i < (↑a.length : Int)) then ((idx a i).bind fun v0 =>
    (idx b i).bind fun v1 =>
    bif v0 != v1 then (some (.inr (false, ()))) else
    flaw_ints_l1 n a b (IntKind.i64.wrap (i + 1))) else
    some (.inl ())
def flaw_ints_l1_F (n : Nat) (y : C.Ds Ty (snds flaw_ints_l1_D)) : Option (YT Ty flaw_ints_l1_E) := flaw_ints_l1 n y.1 y.2.1 y.2.2.1
noncomputable def flaw_ints_l1_cut (n : Nat) : St Ty → Tr (Lf Ty) := cutC flaw_ints_l1_D 0 flaw_ints_l1_E (flaw_ints_l1_F n)
def flaw_ints (n : Nat) (a : List Int) (b : List Int) : Option ((Bool × Unit)) :=
    bif (↑a.length : Int) != (↑b.length : Int) then (some (false, ())) else
    (flaw_ints_l1 n a b 0).bind fun v0 =>
    Sum.elim (fun v1 => some (true, ())) (fun v1 => some (v1.fst, ())) (v0)
def flaw_ints_F (n : Nat) (y : C.Ds Ty (snds flaw_ints_D)) : Option (YT Ty flaw_ints_E) := flaw_ints n y.1 y.2.1
noncomputable def flaw_ints_law (n : Nat) : Law Ty := readC (lawC flaw_ints_D 0 flaw_ints_E (flaw_ints_F n))
noncomputable def flaw_ints_T (n : Nat) : List (Nat × Law Ty) := []
theorem flaw_ints_Tok (n : Nat) : LawsOk Tryz.prog (flaw_ints_T n) := trivial
noncomputable def flaw_ints_l1_C (n : Nat) : CutL Ty := []
theorem flaw_ints_l1_rd (n : Nat) (x : C.Ds Ty (snds flaw_ints_l1_D)) : (exec Tryz.prog 26 (callT Tryz.prog (flaw_ints_T n) []) (cutsOf (flaw_ints_l1_C n)) (bodyAt 4 Tryz.f32) (embS flaw_ints_l1_D x)).runK (typeRd 0 flaw_ints_l1_D flaw_ints_l1_E (flaw_ints_l1_F n)) = flaw_ints_l1_F (n + 1) x := by kernel_rfl
theorem flaw_ints_l1_ok (n : Nat) : CutOk true Tryz.prog 26 (flaw_ints_l1_cut n) (.loop (bodyAt 4 Tryz.f32)) := cut_ok fun x y hy => can_loop (Fn := flaw_ints_l1_F) prog_noRow prog_mix (fun n => callT_ok prog_noRow prog_mix (flaw_ints_Tok n) insNil) (fun h => by cases h) (fun h => by cases h) (fun n => (cuts_ok (fn := Tryz.f32) (L := flaw_ints_l1_C n) (ks := []) trivial (by kernel_rfl) (by kernel_rfl))) (by decide) (fun _ => rfl) flaw_ints_l1_rd hy
noncomputable def flaw_ints_C (n : Nat) : CutL Ty := [(.loop 4, flaw_ints_l1_cut n)]
theorem flaw_ints_rd (n : Nat) (x : C.Ds Ty (snds flaw_ints_D)) : (exec Tryz.prog 26 (callT Tryz.prog (flaw_ints_T n) []) (cutsOf (flaw_ints_C n)) (codeOf Tryz.f32) (embS flaw_ints_D x)).runK (typeRt Tryz.prog Tryz.f32.results.toList 0 flaw_ints_E) = flaw_ints_F n x := by kernel_rfl
theorem flaw_ints_lawOk (n : Nat) : LawOk Tryz.prog 32 (flaw_ints_law n) := readC_ok (law_ok Tryz.func32 rfl rfl (by decide) rfl prog_noRow prog_mix (callT_ok prog_noRow prog_mix (flaw_ints_Tok n) insNil) (cuts_ok (fn := Tryz.f32) (L := flaw_ints_C n) (ks := [.loop 4]) ⟨flaw_ints_l1_ok n, trivial⟩ (by kernel_rfl) (by kernel_rfl)) (flaw_ints_rd n))
def flaw_texts_l1_D : List (Nat × C) := [(0, .l 9), (1, .l 9), (5, .s 3)]
def flaw_texts_l1_E : List Wo := [⟨.exit 0, [], [], []⟩, ⟨.ret, [], [(4, .s 4)], []⟩]
def flaw_texts_D : List (Nat × C) := [(0, .l 9), (1, .l 9)]
def flaw_texts_E : List Wo := [⟨.ret, [], [], [.s 4]⟩]
def flaw_texts_l1 : Nat → (List ByteArray) → (List ByteArray) → Int → Option (Unit ⊕ ((Bool × Unit)))
  | 0, _, _, _ => none
  | n + 1, a, b, i =>
    bif decide (i < (↑a.length : Int)) then ((idx a i).bind fun v0 =>
    (idx b i).bind fun v1 =>
    bif !v0.beq v1 then (some (.inr (false, ()))) else
    flaw_texts_l1 n a b (IntKind.i64.wrap (i + 1))) else
    some (.inl ())
def flaw_texts_l1_F (n : Nat) (y : C.Ds Ty (snds flaw_texts_l1_D)) : Option (YT Ty flaw_texts_l1_E) := flaw_texts_l1 n y.1 y.2.1 y.2.2.1
noncomputable def flaw_texts_l1_cut (n : Nat) : St Ty → Tr (Lf Ty) := cutC flaw_texts_l1_D 0 flaw_texts_l1_E (flaw_texts_l1_F n)
def flaw_texts (n : Nat) (a : List ByteArray) (b : List ByteArray) : Option ((Bool × Unit)) :=
    bif (↑a.length : Int) != (↑b.length : Int) then (some (false, ())) else
    (flaw_texts_l1 n a b 0).bind fun v0 =>
    Sum.elim (fun v1 => some (true, ())) (fun v1 => some (v1.fst, ())) (v0)
def flaw_texts_F (n : Nat) (y : C.Ds Ty (snds flaw_texts_D)) : Option (YT Ty flaw_texts_E) := flaw_texts n y.1 y.2.1
noncomputable def flaw_texts_law (n : Nat) : Law Ty := readC (lawC flaw_texts_D 0 flaw_texts_E (flaw_texts_F n))
noncomputable def flaw_texts_T (n : Nat) : List (Nat × Law Ty) := []
theorem flaw_texts_Tok (n : Nat) : LawsOk Tryz.prog (flaw_texts_T n) := trivial
noncomputable def flaw_texts_l1_C (n : Nat) : CutL Ty := []
theorem flaw_texts_l1_rd (n : Nat) (x : C.Ds Ty (snds flaw_texts_l1_D)) : (exec Tryz.prog 26 (callT Tryz.prog (flaw_texts_T n) []) (cutsOf (flaw_texts_l1_C n)) (bodyAt 4 Tryz.f41) (embS flaw_texts_l1_D x)).runK (typeRd 0 flaw_texts_l1_D flaw_texts_l1_E (flaw_texts_l1_F n)) = flaw_texts_l1_F (n + 1) x := by kernel_rfl
theorem flaw_texts_l1_ok (n : Nat) : CutOk true Tryz.prog 26 (flaw_texts_l1_cut n) (.loop (bodyAt 4 Tryz.f41)) := cut_ok fun x y hy => can_loop (Fn := flaw_texts_l1_F) prog_noRow prog_mix (fun n => callT_ok prog_noRow prog_mix (flaw_texts_Tok n) insNil) (fun h => by cases h) (fun h => by cases h) (fun n => (cuts_ok (fn := Tryz.f41) (L := flaw_texts_l1_C n) (ks := []) trivial (by kernel_rfl) (by kernel_rfl))) (by decide) (fun _ => rfl) flaw_texts_l1_rd hy
noncomputable def flaw_texts_C (n : Nat) : CutL Ty := [(.loop 4, flaw_texts_l1_cut n)]
theorem flaw_texts_rd (n : Nat) (x : C.Ds Ty (snds flaw_texts_D)) : (exec Tryz.prog 26 (callT Tryz.prog (flaw_texts_T n) []) (cutsOf (flaw_texts_C n)) (codeOf Tryz.f41) (embS flaw_texts_D x)).runK (typeRt Tryz.prog Tryz.f41.results.toList 0 flaw_texts_E) = flaw_texts_F n x := by kernel_rfl
theorem flaw_texts_lawOk (n : Nat) : LawOk Tryz.prog 41 (flaw_texts_law n) := readC_ok (law_ok Tryz.func41 rfl rfl (by decide) rfl prog_noRow prog_mix (callT_ok prog_noRow prog_mix (flaw_texts_Tok n) insNil) (cuts_ok (fn := Tryz.f41) (L := flaw_texts_C n) (ks := [.loop 4]) ⟨flaw_texts_l1_ok n, trivial⟩ (by kernel_rfl) (by kernel_rfl)) (flaw_texts_rd n))
def fgarage_begin_D : List (Nat × C) := []
def fgarage_begin_E : List Wo := [⟨.ret, [], [], [.u 114]⟩]
def fgarage_begin (n : Nat) : Option ((Session × Unit)) :=
    some (Session.mk (State.mk [] [] [] [] (Week.mk 7 [] [] 600 5 3000) []), ())
def fgarage_begin_F (n : Nat) (y : C.Ds Ty (snds fgarage_begin_D)) : Option (YT Ty fgarage_begin_E) := fgarage_begin n
noncomputable def fgarage_begin_law (n : Nat) : Law Ty := lawC fgarage_begin_D 0 fgarage_begin_E (fgarage_begin_F n)
noncomputable def fgarage_begin_T (n : Nat) : List (Nat × Law Ty) := []
theorem fgarage_begin_Tok (n : Nat) : LawsOk Tryz.prog (fgarage_begin_T n) := trivial
noncomputable def fgarage_begin_C (n : Nat) : CutL Ty := []
theorem fgarage_begin_rd (n : Nat) (x : C.Ds Ty (snds fgarage_begin_D)) : (exec Tryz.prog 5 (callT Tryz.prog (fgarage_begin_T n) []) (cutsOf (fgarage_begin_C n)) (codeOf Tryz.f101) (embS fgarage_begin_D x)).runK (typeRt Tryz.prog Tryz.f101.results.toList 0 fgarage_begin_E) = fgarage_begin_F n x := by kernel_rfl
theorem fgarage_begin_lawOk (n : Nat) : LawOk Tryz.prog 101 (fgarage_begin_law n) := law_ok Tryz.func101 rfl rfl (by decide) rfl prog_noRow prog_mix (callT_ok prog_noRow prog_mix (fgarage_begin_Tok n) insNil) (cuts_ok (fn := Tryz.f101) (L := fgarage_begin_C n) (ks := []) trivial (by kernel_rfl) (by kernel_rfl)) (fgarage_begin_rd n)
def fsheet_stretch_lack_l1_D : List (Nat × C) := [(1, .u 154), (2, .u 98), (4, .u 98), (33, .l 93), (34, .s 3), (35, .s 3)]
def fsheet_stretch_lack_l1_E : List Wo := [⟨.exit 0, [.u 154, .u 98, .u 98], [(1, .q 0), (2, .q 1), (4, .q 2)], []⟩]
def fsheet_stretch_lack_D : List (Nat × C) := [(0, .g 154)]
def fsheet_stretch_lack_E : List Wo := [⟨.ret, [], [], [.g 98, .s 4]⟩]
def fsheet_stretch_lack_l1 : Nat → Stretch → Lack → Lack → (List Record) → Int → Int → Option ((Stretch × Lack × Lack × Unit × Unit × Unit × Unit))
  | 0, _, _, _, _, _, _ => none
  | n + 1, s, x2, out, x33, x34, x35 =>
    bif decide (x35 < x34) then ((idx x33 x35).bind fun v0 =>
    bif decide (v0.kind.n = 0) then (fsheet_stretch_lack_l1 n s x2 (Lack.mk out.machine out.fr out.to_ (IntKind.i64.wrap (out.sales - 1)) (IntKind.i64.wrap (out.coins - v0.b))) x33 x34 (IntKind.i64.wrap (x35 + 1))) else
    fsheet_stretch_lack_l1 n s x2 out x33 x34 (IntKind.i64.wrap (x35 + 1))) else
    some (s, (x2, (out, ((), ((), ((), ()))))))
def fsheet_stretch_lack_l1_F (n : Nat) (y : C.Ds Ty (snds fsheet_stretch_lack_l1_D)) : Option (YT Ty fsheet_stretch_lack_l1_E) := fsheet_stretch_lack_l1 n y.1 y.2.1 y.2.2.1 y.2.2.2.1 y.2.2.2.2.1 y.2.2.2.2.2.1
noncomputable def fsheet_stretch_lack_l1_cut (n : Nat) : St Ty → Tr (Lf Ty) := cutC fsheet_stretch_lack_l1_D 3 fsheet_stretch_lack_l1_E (fsheet_stretch_lack_l1_F n)
def fsheet_stretch_lack (n : Nat) (s : Stretch) : Option ((Lack × Bool × Unit)) :=
    (fsheet_stretch_lack_l1 n s (Lack.mk 0 0 0 0 0) (Lack.mk s.to_.machine s.fr.seq s.to_.seq (IntKind.i64.wrap (s.to_.a - s.fr.a)) (IntKind.i64.wrap (s.to_.b - s.fr.b))) s.between (↑s.between.length : Int) 0).bind fun v0 =>
    bif decide (0 ≤ v0.snd.snd.fst.sales) then (bif decide (v0.snd.snd.fst.sales ≤ IntKind.i64.wrap (IntKind.i64.wrap (IntKind.i64.wrap (v0.fst.to_.seq - v0.fst.fr.seq) - 1) - (↑v0.fst.between.length : Int))) then (bif decide (0 ≤ v0.snd.snd.fst.coins) then (some (v0.snd.snd.fst, (decide (v0.snd.snd.fst.coins ≤ IntKind.i64.wrap (10000 * v0.snd.snd.fst.sales)), ()))) else
    some (v0.snd.snd.fst, (false, ()))) else
    some (v0.snd.snd.fst, (false, ()))) else
    some (v0.snd.snd.fst, (false, ()))
def fsheet_stretch_lack_F (n : Nat) (y : C.Ds Ty (snds fsheet_stretch_lack_D)) : Option (YT Ty fsheet_stretch_lack_E) := fsheet_stretch_lack n y.1
noncomputable def fsheet_stretch_lack_law (n : Nat) : Law Ty := readC (lawC fsheet_stretch_lack_D 0 fsheet_stretch_lack_E (fsheet_stretch_lack_F n))
noncomputable def fsheet_stretch_lack_T (n : Nat) : List (Nat × Law Ty) := []
theorem fsheet_stretch_lack_Tok (n : Nat) : LawsOk Tryz.prog (fsheet_stretch_lack_T n) := trivial
noncomputable def fsheet_stretch_lack_l1_C (n : Nat) : CutL Ty := []
theorem fsheet_stretch_lack_l1_rd (n : Nat) (x : C.Ds Ty (snds fsheet_stretch_lack_l1_D)) : (exec Tryz.prog 78 (callT Tryz.prog (fsheet_stretch_lack_T n) []) (cutsOf (fsheet_stretch_lack_l1_C n)) (bodyAt 3 Tryz.f83) (embS fsheet_stretch_lack_l1_D x)).runK (typeRd 3 fsheet_stretch_lack_l1_D fsheet_stretch_lack_l1_E (fsheet_stretch_lack_l1_F n)) = fsheet_stretch_lack_l1_F (n + 1) x := by kernel_rfl
theorem fsheet_stretch_lack_l1_ok (n : Nat) : CutOk true Tryz.prog 78 (fsheet_stretch_lack_l1_cut n) (.loop (bodyAt 3 Tryz.f83)) := cut_ok fun x y hy => can_loop (Fn := fsheet_stretch_lack_l1_F) prog_noRow prog_mix (fun n => callT_ok prog_noRow prog_mix (fsheet_stretch_lack_Tok n) insNil) (fun h => by cases h) (fun h => by cases h) (fun n => (cuts_ok (fn := Tryz.f83) (L := fsheet_stretch_lack_l1_C n) (ks := []) trivial (by kernel_rfl) (by kernel_rfl))) (by decide) (fun _ => rfl) fsheet_stretch_lack_l1_rd hy
noncomputable def fsheet_stretch_lack_C (n : Nat) : CutL Ty := [(.loop 3, fsheet_stretch_lack_l1_cut n)]
theorem fsheet_stretch_lack_rd (n : Nat) (x : C.Ds Ty (snds fsheet_stretch_lack_D)) : (exec Tryz.prog 78 (callT Tryz.prog (fsheet_stretch_lack_T n) []) (cutsOf (fsheet_stretch_lack_C n)) (codeOf Tryz.f83) (embS fsheet_stretch_lack_D x)).runK (typeRt Tryz.prog Tryz.f83.results.toList 0 fsheet_stretch_lack_E) = fsheet_stretch_lack_F n x := by kernel_rfl
theorem fsheet_stretch_lack_lawOk (n : Nat) : LawOk Tryz.prog 83 (fsheet_stretch_lack_law n) := readC_ok (law_ok Tryz.func83 rfl rfl (by decide) rfl prog_noRow prog_mix (callT_ok prog_noRow prog_mix (fsheet_stretch_lack_Tok n) insNil) (cuts_ok (fn := Tryz.f83) (L := fsheet_stretch_lack_C n) (ks := [.loop 3]) ⟨fsheet_stretch_lack_l1_ok n, trivial⟩ (by kernel_rfl) (by kernel_rfl)) (fsheet_stretch_lack_rd n))
def fsheet_Lacks_i1_D : List (Nat × C) := [(0, .y 0 44 [2, 3, 5] [.p 0 [.l 98], .p 0 [.s 37], .p 0 [.o 98]]), (1, .p 0 [.l 93]), (3, .p 0 [.s 3, .s 3, .s 3, .s 5, .s 3, .s 3, .s 3, .s 3, .s 3, .s 5, .s 3, .s 3, .o 93]), (6, .l 93), (7, .s 3), (8, .s 3)]
def fsheet_Lacks_i1_E : List Wo := [⟨.exit 0, [.y 0 44 [2, 3, 5] [.p 0 [.l 98], .p 0 [.s 37], .p 0 [.o 98]], .q 1, .q 2, .q 3, .p 0 [.l 93], .p 0 [.s 3, .s 3, .s 3, .s 5, .s 3, .s 3, .s 3, .s 3, .s 3, .s 5, .s 3, .s 3, .o 93]], [], []⟩, ⟨.ret, [.y 1 44 [2, 3, 5] [.p 0 [.l 98], .p 0 [.s 37], .p 0 [.o 98]], .q 1, .q 2, .q 3, .p 0 [.l 93], .p 0 [.s 3, .s 3, .s 3, .s 5, .s 3, .s 3, .s 3, .s 3, .s 3, .s 5, .s 3, .s 3, .o 93]], [], []⟩]
def fsheet_Lacks_D : List (Nat × C) := [(0, .l 93)]
def fsheet_Lacks_E : List Wo := [⟨.ret, [], [], [.l 98, .s 37]⟩]
def fsheet_Lacks_i1 : Nat → (List Lack) → Int → (List Lack) → (List Record) → Int → Int → Int → (IK .u8) → Int → Int → Int → Int → Int → (IK .u8) → Int → Int → (List Record) → (List Record) → Int → Int → Option ((((List Lack × Unit) × (Int × Unit) × (List Lack × Unit) × Unit) × Unit × Unit × Unit × (List Record × Unit) × (Int × Int × Int × IK .u8 × Int × Int × Int × Int × Int × IK .u8 × Int × Int × List Record × Unit) × Unit) ⊕ ((((List Lack × Unit) × (Int × Unit) × (List Lack × Unit) × Unit) × Unit × Unit × Unit × (List Record × Unit) × (Int × Int × Int × IK .u8 × Int × Int × Int × Int × Int × IK .u8 × Int × Int × List Record × Unit) × Unit)))
  | 0, _, _, _, _, _, _, _, _, _, _, _, _, _, _, _, _, _, _, _, _ => none
  | n + 1, yield1, yield2, yield3, x1, s1, s2, s3, s4, s5, s6, s7, s8, s9, s10, s11, s12, s13, x6, x7, x8 =>
    bif decide (x8 < x7) then ((idx x6 x8).bind fun v0 =>
    bif !decide (x8 = 0) then ((idx x1 (IntKind.i64.wrap (x8 - 1))).bind fun v1 =>
    bif v1.machine != v0.machine then (bif v0.kind.n != 2 then (fsheet_Lacks_i1 n yield1 yield2 yield3 x1 v0.machine 0 0 (IK.mk 0) 0 0 0 0 0 (IK.mk 0) 0 0 ([].append [v0]) x6 x7 (IntKind.i64.wrap (x8 + 1))) else
    (fsheet_stretch_lack n (Stretch.mk (Record.mk v0.machine 0 0 (IK.mk 0) 0 0) v0 [])).bind fun v2 =>
    bif !v2.snd.fst then (some (.inr ((([], ()), ((9, ()), ((yield3, ()), ()))), ((), ((), ((), ((x1, ()), ((v0.machine, (0, (0, (IK.mk 0, (0, (0, (v0.machine, (v0.seq, (v0.minute, (v0.kind, (v0.a, (v0.b, ([], ()))))))))))))), ())))))))) else
    bif decide (v2.fst.sales > 0) then ((app yield3 [v2.fst]).bind fun v3 =>
    fsheet_Lacks_i1 n yield1 yield2 v3 x1 v0.machine v0.seq v0.minute v0.kind v0.a v0.b 0 0 0 (IK.mk 0) 0 0 [] x6 x7 (IntKind.i64.wrap (x8 + 1))) else
    fsheet_Lacks_i1 n yield1 yield2 yield3 x1 v0.machine v0.seq v0.minute v0.kind v0.a v0.b 0 0 0 (IK.mk 0) 0 0 [] x6 x7 (IntKind.i64.wrap (x8 + 1))) else
    bif v0.kind.n != 2 then ((app s13 [v0]).bind fun v2 =>
    fsheet_Lacks_i1 n yield1 yield2 yield3 x1 s1 s2 s3 s4 s5 s6 s7 s8 s9 s10 s11 s12 v2 x6 x7 (IntKind.i64.wrap (x8 + 1))) else
    (fsheet_stretch_lack n (Stretch.mk (Record.mk s1 s2 s3 s4 s5 s6) v0 s13)).bind fun v2 =>
    bif !v2.snd.fst then (some (.inr ((([], ()), ((9, ()), ((yield3, ()), ()))), ((), ((), ((), ((x1, ()), ((s1, (s2, (s3, (s4, (s5, (s6, (v0.machine, (v0.seq, (v0.minute, (v0.kind, (v0.a, (v0.b, (s13, ()))))))))))))), ())))))))) else
    bif decide (v2.fst.sales > 0) then ((app yield3 [v2.fst]).bind fun v3 =>
    fsheet_Lacks_i1 n yield1 yield2 v3 x1 v0.machine v0.seq v0.minute v0.kind v0.a v0.b 0 0 0 (IK.mk 0) 0 0 [] x6 x7 (IntKind.i64.wrap (x8 + 1))) else
    fsheet_Lacks_i1 n yield1 yield2 yield3 x1 v0.machine v0.seq v0.minute v0.kind v0.a v0.b 0 0 0 (IK.mk 0) 0 0 [] x6 x7 (IntKind.i64.wrap (x8 + 1))) else
    bif v0.kind.n != 2 then (fsheet_Lacks_i1 n yield1 yield2 yield3 x1 v0.machine 0 0 (IK.mk 0) 0 0 0 0 0 (IK.mk 0) 0 0 ([].append [v0]) x6 x7 (IntKind.i64.wrap (x8 + 1))) else
    (fsheet_stretch_lack n (Stretch.mk (Record.mk v0.machine 0 0 (IK.mk 0) 0 0) v0 [])).bind fun v1 =>
    bif !v1.snd.fst then (some (.inr ((([], ()), ((9, ()), ((yield3, ()), ()))), ((), ((), ((), ((x1, ()), ((v0.machine, (0, (0, (IK.mk 0, (0, (0, (v0.machine, (v0.seq, (v0.minute, (v0.kind, (v0.a, (v0.b, ([], ()))))))))))))), ())))))))) else
    bif decide (v1.fst.sales > 0) then ((app yield3 [v1.fst]).bind fun v2 =>
    fsheet_Lacks_i1 n yield1 yield2 v2 x1 v0.machine v0.seq v0.minute v0.kind v0.a v0.b 0 0 0 (IK.mk 0) 0 0 [] x6 x7 (IntKind.i64.wrap (x8 + 1))) else
    fsheet_Lacks_i1 n yield1 yield2 yield3 x1 v0.machine v0.seq v0.minute v0.kind v0.a v0.b 0 0 0 (IK.mk 0) 0 0 [] x6 x7 (IntKind.i64.wrap (x8 + 1))) else
    some (.inl (((yield1, ()), ((yield2, ()), ((yield3, ()), ()))), ((), ((), ((), ((x1, ()), ((s1, (s2, (s3, (s4, (s5, (s6, (s7, (s8, (s9, (s10, (s11, (s12, (s13, ()))))))))))))), ())))))))
def fsheet_Lacks_i1_F (n : Nat) (y : C.Ds Ty (snds fsheet_Lacks_i1_D)) : Option (YT Ty fsheet_Lacks_i1_E) := fsheet_Lacks_i1 n y.1.1.1 y.1.2.1.1 y.1.2.2.1.1 y.2.1.1 y.2.2.1.1 y.2.2.1.2.1 y.2.2.1.2.2.1 y.2.2.1.2.2.2.1 y.2.2.1.2.2.2.2.1 y.2.2.1.2.2.2.2.2.1 y.2.2.1.2.2.2.2.2.2.1 y.2.2.1.2.2.2.2.2.2.2.1 y.2.2.1.2.2.2.2.2.2.2.2.1 y.2.2.1.2.2.2.2.2.2.2.2.2.1 y.2.2.1.2.2.2.2.2.2.2.2.2.2.1 y.2.2.1.2.2.2.2.2.2.2.2.2.2.2.1 y.2.2.1.2.2.2.2.2.2.2.2.2.2.2.2.1 y.2.2.2.1 y.2.2.2.2.1 y.2.2.2.2.2.1
noncomputable def fsheet_Lacks_i1_cut (n : Nat) : St Ty → Tr (Lf Ty) := cutC fsheet_Lacks_i1_D 6 fsheet_Lacks_i1_E (fsheet_Lacks_i1_F n)
def fsheet_Lacks (n : Nat) (l : List Record) : Option ((List Lack × Int × Unit)) :=
    (fsheet_merged n [l]).bind fun v0 =>
    bif v0.snd.fst != 0 then (some ([], (v0.snd.fst, ()))) else
    (fsheet_Lacks_i1 n [] 0 [] v0.fst 0 0 0 (IK.mk 0) 0 0 0 0 0 (IK.mk 0) 0 0 [] v0.fst (↑v0.fst.length : Int) 0).bind fun v1 =>
    Sum.elim (fun v2 => some (v2.fst.snd.snd.fst.fst, (0, ()))) (fun v2 => some (v2.fst.fst.fst, (v2.fst.snd.fst.fst, ()))) (v1)
def fsheet_Lacks_F (n : Nat) (y : C.Ds Ty (snds fsheet_Lacks_D)) : Option (YT Ty fsheet_Lacks_E) := fsheet_Lacks n y.1
noncomputable def fsheet_Lacks_law (n : Nat) : Law Ty := lawC fsheet_Lacks_D 0 fsheet_Lacks_E (fsheet_Lacks_F n)
noncomputable def fsheet_Lacks_T (n : Nat) : List (Nat × Law Ty) := [(81, fsheet_merged_law n), (83, fsheet_stretch_lack_law n)]
theorem fsheet_Lacks_Tok (n : Nat) : LawsOk Tryz.prog (fsheet_Lacks_T n) := ⟨fsheet_merged_lawOk n, ⟨fsheet_stretch_lack_lawOk n, trivial⟩⟩
noncomputable def fsheet_Lacks_B (n : Nat) : CutL Ty := []
noncomputable def fsheet_Lacks_Y (n : Nat) : List (Nat × Law Ty) := (yieldF, ybC Tryz.prog (callT Tryz.prog (fsheet_Lacks_T n) []) (cutsOf []) (cutsOf (fsheet_Lacks_B n)) 44) :: fsheet_Lacks_T n
theorem fsheet_Lacks_Yok (n : Nat) : LawsOk Tryz.prog (fsheet_Lacks_Y n) := ⟨ybC_ok prog_noRow prog_mix (callT_ok prog_noRow prog_mix (fsheet_Lacks_Tok n) insNil) (fun _ _ _ h => by cases h) (cuts_ok (fn := Tryz.f44) (c := (RFs.rf 44).body) (N := (RFs.rf 44).n) (L := fsheet_Lacks_B n) (ks := []) trivial (by kernel_rfl) (by kernel_rfl)), fsheet_Lacks_Tok n⟩
noncomputable def fsheet_Lacks_i1_C (n : Nat) : CutL Ty := []
theorem fsheet_Lacks_i1_rd (n : Nat) (x : C.Ds Ty (snds fsheet_Lacks_i1_D)) : (exec Tryz.prog 48 (callT Tryz.prog (fsheet_Lacks_Y n) []) (cutsOf (fsheet_Lacks_i1_C n)) (bodyAt 2 Tryz.f135) (embS fsheet_Lacks_i1_D x)).runK (typeRd 6 fsheet_Lacks_i1_D fsheet_Lacks_i1_E (fsheet_Lacks_i1_F n)) = fsheet_Lacks_i1_F (n + 1) x := by kernel_rfl
theorem fsheet_Lacks_i1_ok (n : Nat) : CutOk true Tryz.prog 48 (fsheet_Lacks_i1_cut n) (.loop (bodyAt 2 Tryz.f135)) := cut_ok fun x y hy => can_loop (Fn := fsheet_Lacks_i1_F) prog_noRow prog_mix (fun n => callT_ok prog_noRow prog_mix (fsheet_Lacks_Yok n) insNil) (fun h => by cases h) (fun h => by cases h) (fun n => (cuts_ok (fn := Tryz.f135) (L := fsheet_Lacks_i1_C n) (ks := []) trivial (by kernel_rfl) (by kernel_rfl))) (by decide) (fun _ => rfl) fsheet_Lacks_i1_rd hy
noncomputable def fsheet_Lacks_K (n : Nat) : InsL Ty := [(135, [(.loop 2, fsheet_Lacks_i1_cut n)])]
theorem fsheet_Lacks_Kok (n : Nat) : InsOk Tryz.prog (fsheet_Lacks_K n) := ⟨ins_one (f := 135) Tryz.func135 rfl (cuts_ok (fn := Tryz.f135) (L := [(.loop 2, fsheet_Lacks_i1_cut n)]) (ks := [.loop 2]) ⟨fsheet_Lacks_i1_ok n, trivial⟩ (by kernel_rfl) (by kernel_rfl)), trivial⟩
noncomputable def fsheet_Lacks_rf (n : Nat) : St Ty → Tr (Lf Ty) := rfC Tryz.prog (callT Tryz.prog (fsheet_Lacks_Y n) (fsheet_Lacks_K n)) (.tmp 19) 44 [2, 3, 5]
theorem fsheet_Lacks_rfok (n : Nat) : CutOk true Tryz.prog 36 (fsheet_Lacks_rf n) (nodeAt (.rf 7) Tryz.f44) := rf_cut (callT_ok prog_noRow prog_mix (fsheet_Lacks_Yok n) (fsheet_Lacks_Kok n)) (by kernel_rfl) (by kernel_rfl)
noncomputable def fsheet_Lacks_C (n : Nat) : CutL Ty := [(.rf 7, fsheet_Lacks_rf n)]
theorem fsheet_Lacks_rd (n : Nat) (x : C.Ds Ty (snds fsheet_Lacks_D)) : (exec Tryz.prog 36 (callT Tryz.prog (fsheet_Lacks_T n) []) (cutsOf (fsheet_Lacks_C n)) (codeOf Tryz.f44) (embS fsheet_Lacks_D x)).runK (typeRt Tryz.prog Tryz.f44.results.toList 0 fsheet_Lacks_E) = fsheet_Lacks_F n x := by kernel_rfl
theorem fsheet_Lacks_lawOk (n : Nat) : LawOk Tryz.prog 44 (fsheet_Lacks_law n) := law_ok Tryz.func44 rfl rfl (by decide) rfl prog_noRow prog_mix (callT_ok prog_noRow prog_mix (fsheet_Lacks_Tok n) insNil) (cuts_ok (fn := Tryz.f44) (L := fsheet_Lacks_C n) (ks := [.rf 7]) ⟨fsheet_Lacks_rfok n, trivial⟩ (by kernel_rfl) (by kernel_rfl)) (fsheet_Lacks_rd n)
def fgarage_play_l1_D : List (Nat × C) := [(4, .u 114), (5, .f 84 [.q 0] []), (6, .o 37), (12, .l 9), (13, .s 3), (14, .s 3)]
def fgarage_play_l1_E : List Wo := [⟨.exit 0, [.u 114], [(4, .q 0), (6, .o 37)], []⟩]
def fgarage_play_D : List (Nat × C) := [(0, .l 9)]
def fgarage_play_E : List Wo := [⟨.ret, [], [], [.u 114, .l 37]⟩]
def fgarage_play_l1 : Nat → Session → (List Int) → (List ByteArray) → Int → Int → Option ((Session × Unit × List Int × Unit))
  | 0, _, _, _, _, _ => none
  | n + 1, g, errors, x12, x13, x14 =>
    bif decide (x14 < x13) then ((idx x12 x14).bind fun v0 =>
    (nextS n g v0).bind fun v1 =>
    (app errors [v1.snd.fst]).bind fun v2 =>
    fgarage_play_l1 n v1.fst v2 x12 x13 (IntKind.i64.wrap (x14 + 1))) else
    some (g, ((), (errors, ())))
def fgarage_play_l1_F (n : Nat) (y : C.Ds Ty (snds fgarage_play_l1_D)) : Option (YT Ty fgarage_play_l1_E) := fgarage_play_l1 n y.1 y.2.2.1 y.2.2.2.1 y.2.2.2.2.1 y.2.2.2.2.2.1
noncomputable def fgarage_play_l1_cut (n : Nat) : St Ty → Tr (Lf Ty) := cutC fgarage_play_l1_D 1 fgarage_play_l1_E (fgarage_play_l1_F n)
def fgarage_play (n : Nat) (lines : List ByteArray) : Option ((Session × List Int × Unit)) :=
    (fgarage_begin n).bind fun v0 =>
    (fgarage_play_l1 n v0.fst [] lines (↑lines.length : Int) 0).bind fun v1 =>
    some (v1.fst, (v1.snd.snd.fst, ()))
def fgarage_play_F (n : Nat) (y : C.Ds Ty (snds fgarage_play_D)) : Option (YT Ty fgarage_play_E) := fgarage_play n y.1
noncomputable def fgarage_play_law (n : Nat) : Law Ty := lendS (lawC fgarage_play_D 0 fgarage_play_E (fgarage_play_F n))
noncomputable def fgarage_play_T (n : Nat) : List (Nat × Law Ty) := [(101, fgarage_begin_law n), (84, nextS_law n)]
theorem fgarage_play_Tok (n : Nat) : LawsOk Tryz.prog (fgarage_play_T n) := ⟨fgarage_begin_lawOk n, ⟨nextS_lawOk n, trivial⟩⟩
noncomputable def fgarage_play_l1_C (n : Nat) : CutL Ty := []
theorem fgarage_play_l1_rd (n : Nat) (x : C.Ds Ty (snds fgarage_play_l1_D)) : (exec Tryz.prog 27 (callT Tryz.prog (fgarage_play_T n) []) (cutsOf (fgarage_play_l1_C n)) (bodyAt 5 Tryz.f53) (embS fgarage_play_l1_D x)).runK (typeRd 1 fgarage_play_l1_D fgarage_play_l1_E (fgarage_play_l1_F n)) = fgarage_play_l1_F (n + 1) x := by kernel_rfl
theorem fgarage_play_l1_ok (n : Nat) : CutOk true Tryz.prog 27 (fgarage_play_l1_cut n) (.loop (bodyAt 5 Tryz.f53)) := cut_ok fun x y hy => can_loop (Fn := fgarage_play_l1_F) prog_noRow prog_mix (fun n => callT_ok prog_noRow prog_mix (fgarage_play_Tok n) insNil) (fun h => by cases h) (fun h => by cases h) (fun n => (cuts_ok (fn := Tryz.f53) (L := fgarage_play_l1_C n) (ks := []) trivial (by kernel_rfl) (by kernel_rfl))) (by decide) (fun _ => rfl) fgarage_play_l1_rd hy
noncomputable def fgarage_play_C (n : Nat) : CutL Ty := [(.loop 5, fgarage_play_l1_cut n)]
theorem fgarage_play_rd (n : Nat) (x : C.Ds Ty (snds fgarage_play_D)) : (exec Tryz.prog 27 (callT Tryz.prog (fgarage_play_T n) []) (cutsOf (fgarage_play_C n)) (codeOf Tryz.f53) (embS fgarage_play_D x)).runK (typeRt Tryz.prog Tryz.f53.results.toList 0 fgarage_play_E) = fgarage_play_F n x := by kernel_rfl
theorem fgarage_play_lawOk (n : Nat) : LawOk Tryz.prog 53 (fgarage_play_law n) := lendS_ok (by decide) (law_ok Tryz.func53 rfl rfl (by decide) rfl prog_noRow prog_mix (callT_ok prog_noRow prog_mix (fgarage_play_Tok n) insNil) (cuts_ok (fn := Tryz.f53) (L := fgarage_play_C n) (ks := [.loop 5]) ⟨fgarage_play_l1_ok n, trivial⟩ (by kernel_rfl) (by kernel_rfl)) (fgarage_play_rd n))
def fgarage_Play_D : List (Nat × C) := [(0, .l 9)]
def fgarage_Play_E : List Wo := [⟨.ret, [], [], [.g 35, .l 37, .s 37]⟩]
def fgarage_Play (n : Nat) (lines : List ByteArray) : Option ((State × List Int × Int × Unit)) :=
    (fgarage_check n lines).bind fun v0 =>
    bif v0.fst != 0 then (some (State.mk [] [] [] [] (Week.mk 0 [] [] 0 0 0) [], ([], (v0.fst, ())))) else
    (fgarage_play n lines).bind fun v1 =>
    some (v1.fst.state, (v1.snd.fst, (0, ())))
def fgarage_Play_F (n : Nat) (y : C.Ds Ty (snds fgarage_Play_D)) : Option (YT Ty fgarage_Play_E) := fgarage_Play n y.1
noncomputable def fgarage_Play_law (n : Nat) : Law Ty := lawC fgarage_Play_D 0 fgarage_Play_E (fgarage_Play_F n)
noncomputable def fgarage_Play_T (n : Nat) : List (Nat × Law Ty) := [(52, fgarage_check_law n), (53, fgarage_play_law n)]
theorem fgarage_Play_Tok (n : Nat) : LawsOk Tryz.prog (fgarage_Play_T n) := ⟨fgarage_check_lawOk n, ⟨fgarage_play_lawOk n, trivial⟩⟩
noncomputable def fgarage_Play_C (n : Nat) : CutL Ty := []
theorem fgarage_Play_rd (n : Nat) (x : C.Ds Ty (snds fgarage_Play_D)) : (exec Tryz.prog 24 (callT Tryz.prog (fgarage_Play_T n) []) (cutsOf (fgarage_Play_C n)) (codeOf Tryz.f21) (embS fgarage_Play_D x)).runK (typeRt Tryz.prog Tryz.f21.results.toList 0 fgarage_Play_E) = fgarage_Play_F n x := by kernel_rfl
theorem fgarage_Play_lawOk (n : Nat) : LawOk Tryz.prog 21 (fgarage_Play_law n) := law_ok Tryz.func21 rfl rfl (by decide) rfl prog_noRow prog_mix (callT_ok prog_noRow prog_mix (fgarage_Play_Tok n) insNil) (cuts_ok (fn := Tryz.f21) (L := fgarage_Play_C n) (ks := []) trivial (by kernel_rfl) (by kernel_rfl)) (fgarage_Play_rd n)
def fgarage_late_1_D : List (Nat × C) := [(0, .s 9), (1, .p 0 [.u 114])]
def fgarage_late_1_E : List Wo := [⟨.ret, [.p 0 [.u 114], .q 1], [], [.s 4]⟩]
def fgarage_late_1 (n : Nat) (text : ByteArray) (x1 : Session) : Option (((Session × Unit) × Unit × Bool × Unit)) :=
    (splitS n text (B [32])).bind fun v0 =>
    (idx v0.fst 0).bind fun v1 =>
    bif !v1.beq (B [111, 117, 116]) then (some ((x1, ()), ((), (false, ())))) else
    (idx v0.fst 1).bind fun v2 =>
    (atoiP v2).bind fun v3 =>
    Sum.elim (fun v4 => (idx v0.fst 2).bind fun v5 =>
    (atoiP v5).bind fun v6 =>
    Sum.elim (fun v7 => (fpit_Open n x1.state.cards v4 v7).bind fun v8 =>
    some ((x1, ()), ((), (decide ((↑v8.fst.length : Int) > 0), ())))) (fun v7 => (fpit_Open n x1.state.cards v4 v7).bind fun v8 =>
    some ((x1, ()), ((), (decide ((↑v8.fst.length : Int) > 0), ())))) (v6)) (fun v4 => (idx v0.fst 2).bind fun v5 =>
    (atoiP v5).bind fun v6 =>
    Sum.elim (fun v7 => (fpit_Open n x1.state.cards v4 v7).bind fun v8 =>
    some ((x1, ()), ((), (decide ((↑v8.fst.length : Int) > 0), ())))) (fun v7 => (fpit_Open n x1.state.cards v4 v7).bind fun v8 =>
    some ((x1, ()), ((), (decide ((↑v8.fst.length : Int) > 0), ())))) (v6)) (v3)
def fgarage_late_1_F (n : Nat) (y : C.Ds Ty (snds fgarage_late_1_D)) : Option (YT Ty fgarage_late_1_E) := fgarage_late_1 n y.1 y.2.1.1
noncomputable def fgarage_late_1_law (n : Nat) : Law Ty := lawC fgarage_late_1_D 2 fgarage_late_1_E (fgarage_late_1_F n)
noncomputable def fgarage_late_1_T (n : Nat) : List (Nat × Law Ty) := [(112, splitS_law n), (113, atoiS_law n), (29, fpit_Open_law n)]
theorem fgarage_late_1_Tok (n : Nat) : LawsOk Tryz.prog (fgarage_late_1_T n) := ⟨splitS_lawOk n, ⟨atoiS_lawOk n, ⟨fpit_Open_lawOk n, trivial⟩⟩⟩
noncomputable def fgarage_late_1_C (n : Nat) : CutL Ty := []
theorem fgarage_late_1_rd (n : Nat) (x : C.Ds Ty (snds fgarage_late_1_D)) : (exec Tryz.prog 45 (callT Tryz.prog (fgarage_late_1_T n) []) (cutsOf (fgarage_late_1_C n)) (codeOf Tryz.f111) (embS fgarage_late_1_D x)).runK (typeRt Tryz.prog Tryz.f111.results.toList 2 fgarage_late_1_E) = fgarage_late_1_F n x := by kernel_rfl
theorem fgarage_late_1_lawOk (n : Nat) : LawOk Tryz.prog 111 (fgarage_late_1_law n) := law_ok Tryz.func111 rfl rfl (by decide) rfl prog_noRow prog_mix (callT_ok prog_noRow prog_mix (fgarage_late_1_Tok n) insNil) (cuts_ok (fn := Tryz.f111) (L := fgarage_late_1_C n) (ks := []) trivial (by kernel_rfl) (by kernel_rfl)) (fgarage_late_1_rd n)
def fgarage_late_l1_D : List (Nat × C) := [(2, .l 37), (6, .o 3), (7, .f 111 [] [.p 0 [.u 114]]), (11, .l 9), (12, .s 3), (13, .s 3)]
def fgarage_late_l1_E : List Wo := [⟨.exit 0, [.p 0 [.u 114], .q 1], [(6, .o 3)], []⟩]
def fgarage_late_D : List (Nat × C) := [(0, .l 9), (1, .u 114), (2, .l 37)]
def fgarage_late_E : List Wo := [⟨.ret, [.u 114], [], [.o 3]⟩]
def fgarage_late_l1 : Nat → (List Int) → (List Int) → Session → (List ByteArray) → Int → Int → Option (((Session × Unit) × Unit × List Int × Unit))
  | 0, _, _, _, _, _, _ => none
  | n + 1, errors, out, is, x11, x12, x13 =>
    bif decide (x13 < x12) then ((idx x11 x13).bind fun v0 =>
    (idx errors x13).bind fun v1 =>
    bif decide (v1 = 0) then ((fgarage_late_1 n v0 is).bind fun v2 =>
    bif v2.snd.snd.fst then ((app out [x13]).bind fun v3 =>
    fgarage_late_l1 n errors v3 v2.fst.fst x11 x12 (IntKind.i64.wrap (x13 + 1))) else
    fgarage_late_l1 n errors out v2.fst.fst x11 x12 (IntKind.i64.wrap (x13 + 1))) else
    fgarage_late_l1 n errors out is x11 x12 (IntKind.i64.wrap (x13 + 1))) else
    some ((is, ()), ((), (out, ())))
def fgarage_late_l1_F (n : Nat) (y : C.Ds Ty (snds fgarage_late_l1_D)) : Option (YT Ty fgarage_late_l1_E) := fgarage_late_l1 n y.1 y.2.1 y.2.2.1.2.1.1 y.2.2.2.1 y.2.2.2.2.1 y.2.2.2.2.2.1
noncomputable def fgarage_late_l1_cut (n : Nat) : St Ty → Tr (Lf Ty) := cutC fgarage_late_l1_D 2 fgarage_late_l1_E (fgarage_late_l1_F n)
def fgarage_late (n : Nat) (lines : List ByteArray) (g : Session) (errors : List Int) : Option ((Session × List Int × Unit)) :=
    (fgarage_late_l1 n errors [] g lines (↑lines.length : Int) 0).bind fun v0 =>
    some (v0.fst.fst, (v0.snd.snd.fst, ()))
def fgarage_late_F (n : Nat) (y : C.Ds Ty (snds fgarage_late_D)) : Option (YT Ty fgarage_late_E) := fgarage_late n y.1 y.2.1 y.2.2.1
noncomputable def fgarage_late_law (n : Nat) : Law Ty := lawC fgarage_late_D 1 fgarage_late_E (fgarage_late_F n)
noncomputable def fgarage_late_T (n : Nat) : List (Nat × Law Ty) := [(111, fgarage_late_1_law n)]
theorem fgarage_late_Tok (n : Nat) : LawsOk Tryz.prog (fgarage_late_T n) := ⟨fgarage_late_1_lawOk n, trivial⟩
noncomputable def fgarage_late_l1_C (n : Nat) : CutL Ty := []
theorem fgarage_late_l1_rd (n : Nat) (x : C.Ds Ty (snds fgarage_late_l1_D)) : (exec Tryz.prog 34 (callT Tryz.prog (fgarage_late_T n) []) (cutsOf (fgarage_late_l1_C n)) (bodyAt 3 Tryz.f70) (embS fgarage_late_l1_D x)).runK (typeRd 2 fgarage_late_l1_D fgarage_late_l1_E (fgarage_late_l1_F n)) = fgarage_late_l1_F (n + 1) x := by kernel_rfl
theorem fgarage_late_l1_ok (n : Nat) : CutOk true Tryz.prog 34 (fgarage_late_l1_cut n) (.loop (bodyAt 3 Tryz.f70)) := cut_ok fun x y hy => can_loop (Fn := fgarage_late_l1_F) prog_noRow prog_mix (fun n => callT_ok prog_noRow prog_mix (fgarage_late_Tok n) insNil) (fun h => by cases h) (fun h => by cases h) (fun n => (cuts_ok (fn := Tryz.f70) (L := fgarage_late_l1_C n) (ks := []) trivial (by kernel_rfl) (by kernel_rfl))) (by decide) (fun _ => rfl) fgarage_late_l1_rd hy
noncomputable def fgarage_late_C (n : Nat) : CutL Ty := [(.loop 3, fgarage_late_l1_cut n)]
theorem fgarage_late_rd (n : Nat) (x : C.Ds Ty (snds fgarage_late_D)) : (exec Tryz.prog 34 (callT Tryz.prog (fgarage_late_T n) []) (cutsOf (fgarage_late_C n)) (codeOf Tryz.f70) (embS fgarage_late_D x)).runK (typeRt Tryz.prog Tryz.f70.results.toList 1 fgarage_late_E) = fgarage_late_F n x := by kernel_rfl
theorem fgarage_late_lawOk (n : Nat) : LawOk Tryz.prog 70 (fgarage_late_law n) := law_ok Tryz.func70 rfl rfl (by decide) rfl prog_noRow prog_mix (callT_ok prog_noRow prog_mix (fgarage_late_Tok n) insNil) (cuts_ok (fn := Tryz.f70) (L := fgarage_late_C n) (ks := [.loop 3]) ⟨fgarage_late_l1_ok n, trivial⟩ (by kernel_rfl) (by kernel_rfl)) (fgarage_late_rd n)
def fgarage_Late_D : List (Nat × C) := [(0, .l 9)]
def fgarage_Late_E : List Wo := [⟨.ret, [], [], [.l 3, .s 37]⟩]
def fgarage_Late (n : Nat) (lines : List ByteArray) : Option ((List Int × Int × Unit)) :=
    (fgarage_check n lines).bind fun v0 =>
    bif v0.fst != 0 then (some ([], (v0.fst, ()))) else
    (fgarage_play n lines).bind fun v1 =>
    (fgarage_late n lines v1.fst v1.snd.fst).bind fun v2 =>
    some (v2.snd.fst, (0, ()))
def fgarage_Late_F (n : Nat) (y : C.Ds Ty (snds fgarage_Late_D)) : Option (YT Ty fgarage_Late_E) := fgarage_Late n y.1
noncomputable def fgarage_Late_law (n : Nat) : Law Ty := lawC fgarage_Late_D 0 fgarage_Late_E (fgarage_Late_F n)
noncomputable def fgarage_Late_T (n : Nat) : List (Nat × Law Ty) := [(52, fgarage_check_law n), (53, fgarage_play_law n), (70, fgarage_late_law n)]
theorem fgarage_Late_Tok (n : Nat) : LawsOk Tryz.prog (fgarage_Late_T n) := ⟨fgarage_check_lawOk n, ⟨fgarage_play_lawOk n, ⟨fgarage_late_lawOk n, trivial⟩⟩⟩
noncomputable def fgarage_Late_C (n : Nat) : CutL Ty := []
theorem fgarage_Late_rd (n : Nat) (x : C.Ds Ty (snds fgarage_Late_D)) : (exec Tryz.prog 21 (callT Tryz.prog (fgarage_Late_T n) []) (cutsOf (fgarage_Late_C n)) (codeOf Tryz.f31) (embS fgarage_Late_D x)).runK (typeRt Tryz.prog Tryz.f31.results.toList 0 fgarage_Late_E) = fgarage_Late_F n x := by kernel_rfl
theorem fgarage_Late_lawOk (n : Nat) : LawOk Tryz.prog 31 (fgarage_Late_law n) := law_ok Tryz.func31 rfl rfl (by decide) rfl prog_noRow prog_mix (callT_ok prog_noRow prog_mix (fgarage_Late_Tok n) insNil) (cuts_ok (fn := Tryz.f31) (L := fgarage_Late_C n) (ks := []) trivial (by kernel_rfl) (by kernel_rfl)) (fgarage_Late_rd n)
def fgarage_Miles_D : List (Nat × C) := [(0, .l 9), (1, .s 3)]
def fgarage_Miles_E : List Wo := [⟨.ret, [], [], [.s 3, .s 3]⟩]
def fgarage_Miles (n : Nat) (lines : List ByteArray) (bus : Int) : Option ((Int × Int × Unit)) :=
    (fgarage_check n lines).bind fun v0 =>
    bif v0.fst != 0 then (some (0, (v0.fst, ()))) else
    (fgarage_within n bus 0 99).bind fun v1 =>
    bif !v1.fst then (some (0, (2, ()))) else
    (fgarage_play n lines).bind fun v2 =>
    (fgarage_session_miles n v2.fst bus).bind fun v3 =>
    bif decide (v3.snd.snd.fst = 0) then (some (0, (7, ()))) else
    some (v3.snd.fst, (0, ()))
def fgarage_Miles_F (n : Nat) (y : C.Ds Ty (snds fgarage_Miles_D)) : Option (YT Ty fgarage_Miles_E) := fgarage_Miles n y.1 y.2.1
noncomputable def fgarage_Miles_law (n : Nat) : Law Ty := readC (lawC fgarage_Miles_D 0 fgarage_Miles_E (fgarage_Miles_F n))
noncomputable def fgarage_Miles_T (n : Nat) : List (Nat × Law Ty) := [(52, fgarage_check_law n), (75, fgarage_within_law n), (53, fgarage_play_law n), (76, fgarage_session_miles_law n)]
theorem fgarage_Miles_Tok (n : Nat) : LawsOk Tryz.prog (fgarage_Miles_T n) := ⟨fgarage_check_lawOk n, ⟨fgarage_within_lawOk n, ⟨fgarage_play_lawOk n, ⟨fgarage_session_miles_lawOk n, trivial⟩⟩⟩⟩
noncomputable def fgarage_Miles_C (n : Nat) : CutL Ty := []
theorem fgarage_Miles_rd (n : Nat) (x : C.Ds Ty (snds fgarage_Miles_D)) : (exec Tryz.prog 33 (callT Tryz.prog (fgarage_Miles_T n) []) (cutsOf (fgarage_Miles_C n)) (codeOf Tryz.f34) (embS fgarage_Miles_D x)).runK (typeRt Tryz.prog Tryz.f34.results.toList 0 fgarage_Miles_E) = fgarage_Miles_F n x := by kernel_rfl
theorem fgarage_Miles_lawOk (n : Nat) : LawOk Tryz.prog 34 (fgarage_Miles_law n) := readC_ok (law_ok Tryz.func34 rfl rfl (by decide) rfl prog_noRow prog_mix (callT_ok prog_noRow prog_mix (fgarage_Miles_Tok n) insNil) (cuts_ok (fn := Tryz.f34) (L := fgarage_Miles_C n) (ks := []) trivial (by kernel_rfl) (by kernel_rfl)) (fgarage_Miles_rd n))
def fgarage_session_known_i1_D : List (Nat × C) := [(0, .l 180), (1, .f 153 [] [.p 0 [.s 3]]), (7, .s 3), (8, .s 3)]
def fgarage_session_known_i1_E : List Wo := [⟨.exit 0, [.p 0 [.s 3]], [], []⟩, ⟨.ret, [.p 0 [.s 3]], [(4, .s 3)], []⟩]
def fgarage_session_known_D : List (Nat × C) := [(0, .u 114), (1, .s 3)]
def fgarage_session_known_E : List Wo := [⟨.ret, [.u 114], [], [.s 4]⟩]
def fgarage_session_known_i1 : Nat → (List Card) → Int → Int → Int → Option (((Int × Unit) × Unit) ⊕ (((Int × Unit) × Int × Unit)))
  | 0, _, _, _, _ => none
  | n + 1, s, f, x7, x8 =>
    bif decide (x8 < x7) then ((idx s x8).bind fun v0 =>
    bif decide (v0.bus = f) then (some (.inr ((f, ()), (x8, ())))) else
    fgarage_session_known_i1 n s f x7 (IntKind.i64.wrap (x8 + 1))) else
    some (.inl ((f, ()), ()))
def fgarage_session_known_i1_F (n : Nat) (y : C.Ds Ty (snds fgarage_session_known_i1_D)) : Option (YT Ty fgarage_session_known_i1_E) := fgarage_session_known_i1 n y.1 y.2.1.2.1.1 y.2.2.1 y.2.2.2.1
noncomputable def fgarage_session_known_i1_cut (n : Nat) : St Ty → Tr (Lf Ty) := cutC fgarage_session_known_i1_D 1 fgarage_session_known_i1_E (fgarage_session_known_i1_F n)
def fgarage_session_known (n : Nat) (g : Session) (bus : Int) : Option ((Session × Bool × Unit)) :=
    (fgarage_session_miles n g bus).bind fun v0 =>
    bif !decide (v0.snd.snd.fst > 0) then ((gone n v0.fst bus).bind fun v1 =>
    bif !decide (v1.snd.fst ≥ 0) then ((fgarage_session_known_i1 n v1.fst.state.cards bus (↑v1.fst.state.cards.length : Int) 0).bind fun v2 =>
    Sum.elim (fun v3 => some (v1.fst, (decide (-1 ≥ 0), ()))) (fun v3 => some (v1.fst, (decide (v3.snd.fst ≥ 0), ()))) (v2)) else
    some (v1.fst, (true, ()))) else
    some (v0.fst, (true, ()))
def fgarage_session_known_F (n : Nat) (y : C.Ds Ty (snds fgarage_session_known_D)) : Option (YT Ty fgarage_session_known_E) := fgarage_session_known n y.1 y.2.1
noncomputable def fgarage_session_known_law (n : Nat) : Law Ty := lawC fgarage_session_known_D 1 fgarage_session_known_E (fgarage_session_known_F n)
noncomputable def fgarage_session_known_T (n : Nat) : List (Nat × Law Ty) := [(76, fgarage_session_miles_law n), (94, gone_law n)]
theorem fgarage_session_known_Tok (n : Nat) : LawsOk Tryz.prog (fgarage_session_known_T n) := ⟨fgarage_session_miles_lawOk n, ⟨gone_lawOk n, trivial⟩⟩
noncomputable def fgarage_session_known_i1_C (n : Nat) : CutL Ty := []
theorem fgarage_session_known_i1_rd (n : Nat) (x : C.Ds Ty (snds fgarage_session_known_i1_D)) : (exec Tryz.prog 19 (callT Tryz.prog (fgarage_session_known_T n) []) (cutsOf (fgarage_session_known_i1_C n)) (bodyAt 2 Tryz.f210) (embS fgarage_session_known_i1_D x)).runK (typeRd 1 fgarage_session_known_i1_D fgarage_session_known_i1_E (fgarage_session_known_i1_F n)) = fgarage_session_known_i1_F (n + 1) x := by kernel_rfl
theorem fgarage_session_known_i1_ok (n : Nat) : CutOk true Tryz.prog 19 (fgarage_session_known_i1_cut n) (.loop (bodyAt 2 Tryz.f210)) := cut_ok fun x y hy => can_loop (Fn := fgarage_session_known_i1_F) prog_noRow prog_mix (fun n => callT_ok prog_noRow prog_mix (fgarage_session_known_Tok n) insNil) (fun h => by cases h) (fun h => by cases h) (fun n => (cuts_ok (fn := Tryz.f210) (L := fgarage_session_known_i1_C n) (ks := []) trivial (by kernel_rfl) (by kernel_rfl))) (by decide) (fun _ => rfl) fgarage_session_known_i1_rd hy
noncomputable def fgarage_session_known_J1 (n : Nat) : InsL Ty := [(210, [(.loop 2, fgarage_session_known_i1_cut n)])]
theorem fgarage_session_known_J1ok (n : Nat) : InsOk Tryz.prog (fgarage_session_known_J1 n) := ⟨ins_one (f := 210) Tryz.func210 rfl (cuts_ok (fn := Tryz.f210) (L := [(.loop 2, fgarage_session_known_i1_cut n)]) (ks := [.loop 2]) ⟨fgarage_session_known_i1_ok n, trivial⟩ (by kernel_rfl) (by kernel_rfl)), trivial⟩
noncomputable def fgarage_session_known_C (n : Nat) : CutL Ty := []
theorem fgarage_session_known_rd (n : Nat) (x : C.Ds Ty (snds fgarage_session_known_D)) : (exec Tryz.prog 32 (callT Tryz.prog (fgarage_session_known_T n) (fgarage_session_known_J1 n)) (cutsOf (fgarage_session_known_C n)) (codeOf Tryz.f93) (embS fgarage_session_known_D x)).runK (typeRt Tryz.prog Tryz.f93.results.toList 1 fgarage_session_known_E) = fgarage_session_known_F n x := by kernel_rfl
theorem fgarage_session_known_lawOk (n : Nat) : LawOk Tryz.prog 93 (fgarage_session_known_law n) := law_ok Tryz.func93 rfl rfl (by decide) rfl prog_noRow prog_mix (callT_ok prog_noRow prog_mix (fgarage_session_known_Tok n) (fgarage_session_known_J1ok n)) (cuts_ok (fn := Tryz.f93) (L := fgarage_session_known_C n) (ks := []) trivial (by kernel_rfl) (by kernel_rfl)) (fgarage_session_known_rd n)
def fgarage_digits_D : List (Nat × C) := [(0, .s 3), (1, .s 3)]
def fgarage_digits_E : List Wo := [⟨.ret, [], [], [.s 9]⟩]
def fgarage_digits (n : Nat) (n_ : Int) (many : Int) : Option ((ByteArray × Unit)) :=
    (itoaS n n_).bind fun v0 =>
    (repeatS n (B [48]) (if IntKind.i64.wrap (many - (↑v0.fst.size : Int)) > 0 then IntKind.i64.wrap (many - (↑v0.fst.size : Int)) else 0)).bind fun v1 =>
    (strAdd v1.fst v0.fst).bind fun v2 =>
    some (v2, ())
def fgarage_digits_F (n : Nat) (y : C.Ds Ty (snds fgarage_digits_D)) : Option (YT Ty fgarage_digits_E) := fgarage_digits n y.1 y.2.1
noncomputable def fgarage_digits_law (n : Nat) : Law Ty := lawC fgarage_digits_D 0 fgarage_digits_E (fgarage_digits_F n)
noncomputable def fgarage_digits_T (n : Nat) : List (Nat × Law Ty) := [(89, itoaS_law n), (244, repeatS_law n)]
theorem fgarage_digits_Tok (n : Nat) : LawsOk Tryz.prog (fgarage_digits_T n) := ⟨itoaS_lawOk n, ⟨repeatS_lawOk n, trivial⟩⟩
noncomputable def fgarage_digits_C (n : Nat) : CutL Ty := []
theorem fgarage_digits_rd (n : Nat) (x : C.Ds Ty (snds fgarage_digits_D)) : (exec Tryz.prog 16 (callT Tryz.prog (fgarage_digits_T n) []) (cutsOf (fgarage_digits_C n)) (codeOf Tryz.f181) (embS fgarage_digits_D x)).runK (typeRt Tryz.prog Tryz.f181.results.toList 0 fgarage_digits_E) = fgarage_digits_F n x := by kernel_rfl
theorem fgarage_digits_lawOk (n : Nat) : LawOk Tryz.prog 181 (fgarage_digits_law n) := law_ok Tryz.func181 rfl rfl (by decide) rfl prog_noRow prog_mix (callT_ok prog_noRow prog_mix (fgarage_digits_Tok n) insNil) (cuts_ok (fn := Tryz.f181) (L := fgarage_digits_C n) (ks := []) trivial (by kernel_rfl) (by kernel_rfl)) (fgarage_digits_rd n)
def fgarage_record_l1_D : List (Nat × C) := [(0, .s 9), (5, .s 3), (12, .l 5), (13, .s 3), (14, .s 3)]
def fgarage_record_l1_E : List Wo := [⟨.exit 0, [], [(0, .s 9), (5, .s 3)], []⟩]
def fgarage_record_D : List (Nat × C) := [(0, .s 9), (1, .s 3)]
def fgarage_record_E : List Wo := [⟨.ret, [], [], [.s 9]⟩]
def fgarage_record_l1 : Nat → ByteArray → Int → (List (IK .u8)) → Int → Int → Option ((ByteArray × Int × Unit))
  | 0, _, _, _, _, _ => none
  | n + 1, s, check, x12, x13, x14 =>
    bif decide (x14 < x13) then ((idx x12 x14).bind fun v0 =>
    fgarage_record_l1 n s (IntKind.i64.wrap (check + IntKind.i64.wrap (IntKind.i64.wrap (x14 + 1) * IntKind.i64.wrap (IntKind.i64.wrap v0.n + 1)))) x12 x13 (IntKind.i64.wrap (x14 + 1))) else
    some (s, (check, ()))
def fgarage_record_l1_F (n : Nat) (y : C.Ds Ty (snds fgarage_record_l1_D)) : Option (YT Ty fgarage_record_l1_E) := fgarage_record_l1 n y.1 y.2.1 y.2.2.1 y.2.2.2.1 y.2.2.2.2.1
noncomputable def fgarage_record_l1_cut (n : Nat) : St Ty → Tr (Lf Ty) := cutC fgarage_record_l1_D 0 fgarage_record_l1_E (fgarage_record_l1_F n)
def fgarage_record (n : Nat) (s : ByteArray) (index : Int) : Option ((ByteArray × Unit)) :=
    (fgarage_record_l1 n s (IntKind.i64.wrap (7 * IntKind.i64.wrap (index + 1))) (btsI s) (↑(btsI s).length : Int) 0).bind fun v0 =>
    (fgarage_digits n (↑v0.fst.size : Int) 3).bind fun v1 =>
    (strAdd (B [91]) v1.fst).bind fun v2 =>
    (strAdd v2 (B [47])).bind fun v3 =>
    (fgarage_digits n (IntKind.i64.wrap (999 - (↑v0.fst.size : Int))) 3).bind fun v4 =>
    (strAdd v3 v4.fst).bind fun v5 =>
    (strAdd v5 (B [47])).bind fun v6 =>
    (fgarage_digits n (v0.snd.fst.tmod 99991) 5).bind fun v7 =>
    (strAdd v6 v7.fst).bind fun v8 =>
    (strAdd v8 (B [93])).bind fun v9 =>
    (strAdd v9 v0.fst).bind fun v10 =>
    (strAdd v10 (B [10])).bind fun v11 =>
    some (v11, ())
def fgarage_record_F (n : Nat) (y : C.Ds Ty (snds fgarage_record_D)) : Option (YT Ty fgarage_record_E) := fgarage_record n y.1 y.2.1
noncomputable def fgarage_record_law (n : Nat) : Law Ty := lawC fgarage_record_D 0 fgarage_record_E (fgarage_record_F n)
noncomputable def fgarage_record_T (n : Nat) : List (Nat × Law Ty) := [(181, fgarage_digits_law n)]
theorem fgarage_record_Tok (n : Nat) : LawsOk Tryz.prog (fgarage_record_T n) := ⟨fgarage_digits_lawOk n, trivial⟩
noncomputable def fgarage_record_l1_C (n : Nat) : CutL Ty := []
theorem fgarage_record_l1_rd (n : Nat) (x : C.Ds Ty (snds fgarage_record_l1_D)) : (exec Tryz.prog 47 (callT Tryz.prog (fgarage_record_T n) []) (cutsOf (fgarage_record_l1_C n)) (bodyAt 3 Tryz.f125) (embS fgarage_record_l1_D x)).runK (typeRd 0 fgarage_record_l1_D fgarage_record_l1_E (fgarage_record_l1_F n)) = fgarage_record_l1_F (n + 1) x := by kernel_rfl
theorem fgarage_record_l1_ok (n : Nat) : CutOk true Tryz.prog 47 (fgarage_record_l1_cut n) (.loop (bodyAt 3 Tryz.f125)) := cut_ok fun x y hy => can_loop (Fn := fgarage_record_l1_F) prog_noRow prog_mix (fun n => callT_ok prog_noRow prog_mix (fgarage_record_Tok n) insNil) (fun h => by cases h) (fun h => by cases h) (fun n => (cuts_ok (fn := Tryz.f125) (L := fgarage_record_l1_C n) (ks := []) trivial (by kernel_rfl) (by kernel_rfl))) (by decide) (fun _ => rfl) fgarage_record_l1_rd hy
noncomputable def fgarage_record_C (n : Nat) : CutL Ty := [(.loop 3, fgarage_record_l1_cut n)]
theorem fgarage_record_rd (n : Nat) (x : C.Ds Ty (snds fgarage_record_D)) : (exec Tryz.prog 47 (callT Tryz.prog (fgarage_record_T n) []) (cutsOf (fgarage_record_C n)) (codeOf Tryz.f125) (embS fgarage_record_D x)).runK (typeRt Tryz.prog Tryz.f125.results.toList 0 fgarage_record_E) = fgarage_record_F n x := by kernel_rfl
theorem fgarage_record_lawOk (n : Nat) : LawOk Tryz.prog 125 (fgarage_record_law n) := law_ok Tryz.func125 rfl rfl (by decide) rfl prog_noRow prog_mix (callT_ok prog_noRow prog_mix (fgarage_record_Tok n) insNil) (cuts_ok (fn := Tryz.f125) (L := fgarage_record_C n) (ks := [.loop 3]) ⟨fgarage_record_l1_ok n, trivial⟩ (by kernel_rfl) (by kernel_rfl)) (fgarage_record_rd n)
def fgarage_written_l1_D : List (Nat × C) := [(2, .o 5), (5, .l 9), (6, .s 3), (7, .s 3)]
def fgarage_written_l1_E : List Wo := [⟨.exit 0, [], [(2, .o 5)], []⟩]
def fgarage_written_D : List (Nat × C) := [(0, .l 9)]
def fgarage_written_E : List Wo := [⟨.ret, [], [], [.l 5]⟩]
def fgarage_written_l1 : Nat → (List (IK .u8)) → (List ByteArray) → Int → Int → Option ((List (IK .u8) × Unit))
  | 0, _, _, _, _ => none
  | n + 1, out, x5, x6, x7 =>
    bif decide (x7 < x6) then ((idx x5 x7).bind fun v0 =>
    (fgarage_record n v0 x7).bind fun v1 =>
    (app out (btsI v1.fst)).bind fun v2 =>
    fgarage_written_l1 n v2 x5 x6 (IntKind.i64.wrap (x7 + 1))) else
    some (out, ())
def fgarage_written_l1_F (n : Nat) (y : C.Ds Ty (snds fgarage_written_l1_D)) : Option (YT Ty fgarage_written_l1_E) := fgarage_written_l1 n y.1 y.2.1 y.2.2.1 y.2.2.2.1
noncomputable def fgarage_written_l1_cut (n : Nat) : St Ty → Tr (Lf Ty) := cutC fgarage_written_l1_D 0 fgarage_written_l1_E (fgarage_written_l1_F n)
def fgarage_written (n : Nat) (lines : List ByteArray) : Option ((List (IK .u8) × Unit)) :=
    (fgarage_written_l1 n [] lines (↑lines.length : Int) 0).bind fun v0 =>
    some (v0.fst, ())
def fgarage_written_F (n : Nat) (y : C.Ds Ty (snds fgarage_written_D)) : Option (YT Ty fgarage_written_E) := fgarage_written n y.1
noncomputable def fgarage_written_law (n : Nat) : Law Ty := lawC fgarage_written_D 0 fgarage_written_E (fgarage_written_F n)
noncomputable def fgarage_written_T (n : Nat) : List (Nat × Law Ty) := [(125, fgarage_record_law n)]
theorem fgarage_written_Tok (n : Nat) : LawsOk Tryz.prog (fgarage_written_T n) := ⟨fgarage_record_lawOk n, trivial⟩
noncomputable def fgarage_written_l1_C (n : Nat) : CutL Ty := []
theorem fgarage_written_l1_rd (n : Nat) (x : C.Ds Ty (snds fgarage_written_l1_D)) : (exec Tryz.prog 19 (callT Tryz.prog (fgarage_written_T n) []) (cutsOf (fgarage_written_l1_C n)) (bodyAt 2 Tryz.f78) (embS fgarage_written_l1_D x)).runK (typeRd 0 fgarage_written_l1_D fgarage_written_l1_E (fgarage_written_l1_F n)) = fgarage_written_l1_F (n + 1) x := by kernel_rfl
theorem fgarage_written_l1_ok (n : Nat) : CutOk true Tryz.prog 19 (fgarage_written_l1_cut n) (.loop (bodyAt 2 Tryz.f78)) := cut_ok fun x y hy => can_loop (Fn := fgarage_written_l1_F) prog_noRow prog_mix (fun n => callT_ok prog_noRow prog_mix (fgarage_written_Tok n) insNil) (fun h => by cases h) (fun h => by cases h) (fun n => (cuts_ok (fn := Tryz.f78) (L := fgarage_written_l1_C n) (ks := []) trivial (by kernel_rfl) (by kernel_rfl))) (by decide) (fun _ => rfl) fgarage_written_l1_rd hy
noncomputable def fgarage_written_C (n : Nat) : CutL Ty := [(.loop 2, fgarage_written_l1_cut n)]
theorem fgarage_written_rd (n : Nat) (x : C.Ds Ty (snds fgarage_written_D)) : (exec Tryz.prog 19 (callT Tryz.prog (fgarage_written_T n) []) (cutsOf (fgarage_written_C n)) (codeOf Tryz.f78) (embS fgarage_written_D x)).runK (typeRt Tryz.prog Tryz.f78.results.toList 0 fgarage_written_E) = fgarage_written_F n x := by kernel_rfl
theorem fgarage_written_lawOk (n : Nat) : LawOk Tryz.prog 78 (fgarage_written_law n) := law_ok Tryz.func78 rfl rfl (by decide) rfl prog_noRow prog_mix (callT_ok prog_noRow prog_mix (fgarage_written_Tok n) insNil) (cuts_ok (fn := Tryz.f78) (L := fgarage_written_C n) (ks := [.loop 2]) ⟨fgarage_written_l1_ok n, trivial⟩ (by kernel_rfl) (by kernel_rfl)) (fgarage_written_rd n)
def fgarage_Write_D : List (Nat × C) := [(0, .l 9)]
def fgarage_Write_E : List Wo := [⟨.ret, [], [], [.l 5, .s 37]⟩]
def fgarage_Write (n : Nat) (lines : List ByteArray) : Option ((List (IK .u8) × Int × Unit)) :=
    (fgarage_check n lines).bind fun v0 =>
    bif v0.fst != 0 then (some ([], (v0.fst, ()))) else
    (fgarage_written n lines).bind fun v1 =>
    some (v1.fst, (0, ()))
def fgarage_Write_F (n : Nat) (y : C.Ds Ty (snds fgarage_Write_D)) : Option (YT Ty fgarage_Write_E) := fgarage_Write n y.1
noncomputable def fgarage_Write_law (n : Nat) : Law Ty := lawC fgarage_Write_D 0 fgarage_Write_E (fgarage_Write_F n)
noncomputable def fgarage_Write_T (n : Nat) : List (Nat × Law Ty) := [(52, fgarage_check_law n), (78, fgarage_written_law n)]
theorem fgarage_Write_Tok (n : Nat) : LawsOk Tryz.prog (fgarage_Write_T n) := ⟨fgarage_check_lawOk n, ⟨fgarage_written_lawOk n, trivial⟩⟩
noncomputable def fgarage_Write_C (n : Nat) : CutL Ty := []
theorem fgarage_Write_rd (n : Nat) (x : C.Ds Ty (snds fgarage_Write_D)) : (exec Tryz.prog 12 (callT Tryz.prog (fgarage_Write_T n) []) (cutsOf (fgarage_Write_C n)) (codeOf Tryz.f37) (embS fgarage_Write_D x)).runK (typeRt Tryz.prog Tryz.f37.results.toList 0 fgarage_Write_E) = fgarage_Write_F n x := by kernel_rfl
theorem fgarage_Write_lawOk (n : Nat) : LawOk Tryz.prog 37 (fgarage_Write_law n) := law_ok Tryz.func37 rfl rfl (by decide) rfl prog_noRow prog_mix (callT_ok prog_noRow prog_mix (fgarage_Write_Tok n) insNil) (cuts_ok (fn := Tryz.f37) (L := fgarage_Write_C n) (ks := []) trivial (by kernel_rfl) (by kernel_rfl)) (fgarage_Write_rd n)
def fgarage_length_l1_D : List (Nat × C) := [(3, .s 3), (6, .l 5), (7, .s 3), (8, .s 3)]
def fgarage_length_l1_E : List Wo := [⟨.exit 0, [], [(3, .s 3)], []⟩, ⟨.ret, [], [(2, .s 3)], []⟩]
def fgarage_length_D : List (Nat × C) := [(0, .l 5)]
def fgarage_length_E : List Wo := [⟨.ret, [], [], [.s 3]⟩]
def fgarage_length_l1 : Nat → Int → (List (IK .u8)) → Int → Int → Option ((Int × Unit) ⊕ ((Int × Unit)))
  | 0, _, _, _, _ => none
  | n + 1, n_, x6, x7, x8 =>
    bif decide (x8 < x7) then ((idx x6 x8).bind fun v0 =>
    bif !decide (v0.n < 48) then (bif decide (v0.n > 57) then (some (.inr (-1, ()))) else
    fgarage_length_l1 n (IntKind.i64.wrap (IntKind.i64.wrap (10 * n_) + IntKind.i64.wrap (IntKind.u8.wrap (v0.n - 48)))) x6 x7 (IntKind.i64.wrap (x8 + 1))) else
    some (.inr (-1, ()))) else
    some (.inl (n_, ()))
def fgarage_length_l1_F (n : Nat) (y : C.Ds Ty (snds fgarage_length_l1_D)) : Option (YT Ty fgarage_length_l1_E) := fgarage_length_l1 n y.1 y.2.1 y.2.2.1 y.2.2.2.1
noncomputable def fgarage_length_l1_cut (n : Nat) : St Ty → Tr (Lf Ty) := cutC fgarage_length_l1_D 0 fgarage_length_l1_E (fgarage_length_l1_F n)
def fgarage_length (n : Nat) (l : List (IK .u8)) : Option ((Int × Unit)) :=
    (fgarage_length_l1 n 0 l (↑l.length : Int) 0).bind fun v0 =>
    Sum.elim (fun v1 => some (v1.fst, ())) (fun v1 => some (v1.fst, ())) (v0)
def fgarage_length_F (n : Nat) (y : C.Ds Ty (snds fgarage_length_D)) : Option (YT Ty fgarage_length_E) := fgarage_length n y.1
noncomputable def fgarage_length_law (n : Nat) : Law Ty := readC (lawC fgarage_length_D 0 fgarage_length_E (fgarage_length_F n))
noncomputable def fgarage_length_T (n : Nat) : List (Nat × Law Ty) := []
theorem fgarage_length_Tok (n : Nat) : LawsOk Tryz.prog (fgarage_length_T n) := trivial
noncomputable def fgarage_length_l1_C (n : Nat) : CutL Ty := []
theorem fgarage_length_l1_rd (n : Nat) (x : C.Ds Ty (snds fgarage_length_l1_D)) : (exec Tryz.prog 26 (callT Tryz.prog (fgarage_length_T n) []) (cutsOf (fgarage_length_l1_C n)) (bodyAt 3 Tryz.f127) (embS fgarage_length_l1_D x)).runK (typeRd 0 fgarage_length_l1_D fgarage_length_l1_E (fgarage_length_l1_F n)) = fgarage_length_l1_F (n + 1) x := by kernel_rfl
theorem fgarage_length_l1_ok (n : Nat) : CutOk true Tryz.prog 26 (fgarage_length_l1_cut n) (.loop (bodyAt 3 Tryz.f127)) := cut_ok fun x y hy => can_loop (Fn := fgarage_length_l1_F) prog_noRow prog_mix (fun n => callT_ok prog_noRow prog_mix (fgarage_length_Tok n) insNil) (fun h => by cases h) (fun h => by cases h) (fun n => (cuts_ok (fn := Tryz.f127) (L := fgarage_length_l1_C n) (ks := []) trivial (by kernel_rfl) (by kernel_rfl))) (by decide) (fun _ => rfl) fgarage_length_l1_rd hy
noncomputable def fgarage_length_C (n : Nat) : CutL Ty := [(.loop 3, fgarage_length_l1_cut n)]
theorem fgarage_length_rd (n : Nat) (x : C.Ds Ty (snds fgarage_length_D)) : (exec Tryz.prog 26 (callT Tryz.prog (fgarage_length_T n) []) (cutsOf (fgarage_length_C n)) (codeOf Tryz.f127) (embS fgarage_length_D x)).runK (typeRt Tryz.prog Tryz.f127.results.toList 0 fgarage_length_E) = fgarage_length_F n x := by kernel_rfl
theorem fgarage_length_lawOk (n : Nat) : LawOk Tryz.prog 127 (fgarage_length_law n) := readC_ok (law_ok Tryz.func127 rfl rfl (by decide) rfl prog_noRow prog_mix (callT_ok prog_noRow prog_mix (fgarage_length_Tok n) insNil) (cuts_ok (fn := Tryz.f127) (L := fgarage_length_C n) (ks := [.loop 3]) ⟨fgarage_length_l1_ok n, trivial⟩ (by kernel_rfl) (by kernel_rfl)) (fgarage_length_rd n))
def flaw_shift_D : List (Nat × C) := []
def flaw_shift_E : List Wo := [⟨.ret, [], [], [.o 9]⟩]
def flaw_shift (n : Nat) : Option ((List ByteArray × Unit)) :=
    some ([B [102, 111, 117, 110, 100, 32, 55, 32, 49, 32, 49, 48, 48, 32, 51], B [111, 117, 116, 32, 55, 32, 49, 53, 48], B [111, 117, 116, 32, 56, 32, 49, 53, 48], B [105, 110, 32, 56, 32, 50, 48, 48, 32, 51, 48], B [115, 105, 103, 110, 101, 100, 32, 55, 32, 50, 32, 49, 54, 48, 32, 49], B [111, 117, 116, 32, 55, 32, 49, 55, 48], B [104, 101, 108, 100, 32, 56, 32, 51, 32, 49, 52, 48, 32, 50], B [111, 117, 116, 32, 56, 32, 51, 48, 48], B [115, 97, 108, 101, 32, 53, 32, 50, 32, 49, 53, 32, 49, 32, 51, 48, 48], B [99, 108, 111, 115, 101, 32, 53, 32, 52, 32, 51, 48, 32, 50, 32, 53, 48, 48], B [100, 114, 105, 118, 101, 114, 32, 49, 32, 45, 57, 48, 48], B [100, 117, 116, 121, 32, 48, 32, 51, 48, 48, 32, 57, 48, 48, 32, 49, 48, 48, 48, 32, 49], B [100, 117, 116, 121, 32, 49, 32, 49, 48, 48, 32, 53, 48, 48, 32, 53, 48, 48, 32, 49], B [103, 105, 118, 101, 32, 48, 32, 48], B [103, 105, 118, 101, 32, 49, 32, 48], B [105, 110, 32, 55, 32, 49, 54, 53, 32, 53]], ())
def flaw_shift_F (n : Nat) (y : C.Ds Ty (snds flaw_shift_D)) : Option (YT Ty flaw_shift_E) := flaw_shift n
noncomputable def flaw_shift_law (n : Nat) : Law Ty := lawC flaw_shift_D 0 flaw_shift_E (flaw_shift_F n)
noncomputable def flaw_shift_T (n : Nat) : List (Nat × Law Ty) := []
theorem flaw_shift_Tok (n : Nat) : LawsOk Tryz.prog (flaw_shift_T n) := trivial
noncomputable def flaw_shift_C (n : Nat) : CutL Ty := []
theorem flaw_shift_rd (n : Nat) (x : C.Ds Ty (snds flaw_shift_D)) : (exec Tryz.prog 2 (callT Tryz.prog (flaw_shift_T n) []) (cutsOf (flaw_shift_C n)) (codeOf Tryz.f51) (embS flaw_shift_D x)).runK (typeRt Tryz.prog Tryz.f51.results.toList 0 flaw_shift_E) = flaw_shift_F n x := by kernel_rfl
theorem flaw_shift_lawOk (n : Nat) : LawOk Tryz.prog 51 (flaw_shift_law n) := law_ok Tryz.func51 rfl rfl (by decide) rfl prog_noRow prog_mix (callT_ok prog_noRow prog_mix (flaw_shift_Tok n) insNil) (cuts_ok (fn := Tryz.f51) (L := flaw_shift_C n) (ks := []) trivial (by kernel_rfl) (by kernel_rfl)) (flaw_shift_rd n)
def flaw_wakes_D : List (Nat × C) := []
def flaw_wakes_E : List Wo := [⟨.ret, [], [], [.s 4]⟩]
def flaw_wakes (n : Nat) : Option ((Bool × Unit)) :=
    (flaw_shift n).bind fun v0 =>
    (fgarage_Play n v0.fst).bind fun v1 =>
    (flaw_shift n).bind fun v2 =>
    (fgarage_Late n v2.fst).bind fun v3 =>
    (fgarage_Write n [B [97]]).bind fun v4 =>
    bif !v1.snd.snd.fst != 0 then (bif !v3.snd.fst != 0 then (bif !v4.snd.fst != 0 then (bif (↑v1.snd.fst.length : Int) != 16 then (some (false, ())) else
    (idx v1.snd.fst 1).bind fun v5 =>
    bif decide (v5 = 11) then ((idx v1.snd.fst 7).bind fun v6 =>
    bif decide (v6 = 11) then ((idx v1.snd.fst 14).bind fun v7 =>
    bif decide (v7 = 10) then ((idx v1.snd.fst 15).bind fun v8 =>
    bif decide (v8 = 2) then (bif decide ((↑v1.fst.runs.length : Int) = 1) then ((idx v1.fst.runs 0).bind fun v9 =>
    bif decide (v9.bus = 8) && (decide (v9.fr = 150) && (decide (v9.to_ = 200) && (decide (v9.miles = 30) && true))) then (bif decide ((↑v1.fst.outs.length : Int) = 1) then ((idx v1.fst.outs 0).bind fun v10 =>
    bif decide (v10.bus = 7) && (decide (v10.fr = 170) && true) then ((flaw_ints n v1.fst.roster [0, -1]).bind fun v11 =>
    bif v11.fst then ((flaw_ints n v3.fst [2]).bind fun v12 =>
    bif v12.fst then (some ((strI v4.fst).beq (B [91, 48, 48, 49, 47, 57, 57, 56, 47, 48, 48, 49, 48, 53, 93, 97, 10]), ())) else
    some (false, ())) else
    some (false, ())) else
    some (false, ())) else
    some (false, ())) else
    some (false, ())) else
    some (false, ())) else
    some (false, ())) else
    some (false, ())) else
    some (false, ())) else
    some (false, ())) else
    some (false, ())) else
    some (false, ())) else
    some (false, ())
def flaw_wakes_F (n : Nat) (y : C.Ds Ty (snds flaw_wakes_D)) : Option (YT Ty flaw_wakes_E) := flaw_wakes n
noncomputable def flaw_wakes_law (n : Nat) : Law Ty := lawC flaw_wakes_D 0 flaw_wakes_E (flaw_wakes_F n)
noncomputable def flaw_wakes_T (n : Nat) : List (Nat × Law Ty) := [(51, flaw_shift_law n), (21, fgarage_Play_law n), (31, fgarage_Late_law n), (37, fgarage_Write_law n), (32, flaw_ints_law n)]
theorem flaw_wakes_Tok (n : Nat) : LawsOk Tryz.prog (flaw_wakes_T n) := ⟨flaw_shift_lawOk n, ⟨fgarage_Play_lawOk n, ⟨fgarage_Late_lawOk n, ⟨fgarage_Write_lawOk n, ⟨flaw_ints_lawOk n, trivial⟩⟩⟩⟩⟩
noncomputable def flaw_wakes_C (n : Nat) : CutL Ty := []
theorem flaw_wakes_rd (n : Nat) (x : C.Ds Ty (snds flaw_wakes_D)) : (exec Tryz.prog 105 (callT Tryz.prog (flaw_wakes_T n) []) (cutsOf (flaw_wakes_C n)) (codeOf Tryz.f20) (embS flaw_wakes_D x)).runK (typeRt Tryz.prog Tryz.f20.results.toList 0 flaw_wakes_E) = flaw_wakes_F n x := by kernel_rfl
theorem flaw_wakes_lawOk (n : Nat) : LawOk Tryz.prog 20 (flaw_wakes_law n) := law_ok Tryz.func20 rfl rfl (by decide) rfl prog_noRow prog_mix (callT_ok prog_noRow prog_mix (flaw_wakes_Tok n) insNil) (cuts_ok (fn := Tryz.f20) (L := flaw_wakes_C n) (ks := []) trivial (by kernel_rfl) (by kernel_rfl)) (flaw_wakes_rd n)
def fgarage_Recover_i1_D : List (Nat × C) := [(0, .y 0 38 [2, 3] [.p 0 [.o 9], .p 0 [.s 3]]), (1, .p 0 [.l 5]), (3, .s 3), (4, .s 3)]
def fgarage_Recover_i1_E : List Wo := [⟨.exit 0, [.y 0 38 [2, 3] [.p 0 [.o 9], .p 0 [.s 3]], .q 1, .q 2, .p 0 [.l 5]], [], []⟩, ⟨.ret, [.y 0 38 [2, 3] [.p 0 [.o 9], .p 0 [.s 3]], .q 1, .q 2, .p 0 [.l 5]], [], []⟩, ⟨.ret, [.y 2 38 [2, 3] [.p 0 [.o 9], .p 0 [.s 3]], .q 1, .q 2, .p 0 [.l 5]], [], []⟩]
def fgarage_Recover_D : List (Nat × C) := [(0, .l 5)]
def fgarage_Recover_E : List Wo := [⟨.ret, [], [], [.o 9, .s 3]⟩]
def fgarage_Recover_i1 : Nat → (List ByteArray) → Int → (List (IK .u8)) → Int → Int → Option ((((List ByteArray × Unit) × (Int × Unit) × Unit) × Unit × Unit × (List (IK .u8) × Unit) × Unit) ⊕ ((((List ByteArray × Unit) × (Int × Unit) × Unit) × Unit × Unit × (List (IK .u8) × Unit) × Unit) ⊕ ((((List ByteArray × Unit) × (Int × Unit) × Unit) × Unit × Unit × (List (IK .u8) × Unit) × Unit))))
  | 0, _, _, _, _, _ => none
  | n + 1, yield1, yield2, x1, at_, index =>
    bif decide (IntKind.i64.wrap ((↑x1.length : Int) - at_) ≥ 16) then ((lstSub x1 (IntKind.i64.wrap (at_ + 1)) (IntKind.i64.wrap (IntKind.i64.wrap (at_ + 1) + 3))).bind fun v0 =>
    (fgarage_length n v0).bind fun v1 =>
    (fgarage_within n v1.fst 0 200).bind fun v2 =>
    bif !!v2.fst then (bif decide (IntKind.i64.wrap ((↑x1.length : Int) - at_) < IntKind.i64.wrap (16 + v1.fst)) then (some (.inr (.inl (((yield1, ()), ((yield2, ()), ())), ((), ((), ((x1, ()), ()))))))) else
    (lstSub x1 (IntKind.i64.wrap (at_ + 15)) (IntKind.i64.wrap (IntKind.i64.wrap (IntKind.i64.wrap (at_ + 16) + v1.fst) - 1))).bind fun v3 =>
    (fgarage_record n (strI v3) index).bind fun v4 =>
    (lstSub x1 at_ (IntKind.i64.wrap (IntKind.i64.wrap (at_ + 16) + v1.fst))).bind fun v5 =>
    bif !!v4.fst.beq (strI v5) then (bif decide ((↑yield1.length : Int) = 50) then (some (.inr (.inr (((yield1, ()), ((yield2, ()), ())), ((), ((), ((x1, ()), ()))))))) else
    (app yield1 [strI v3]).bind fun v6 =>
    fgarage_Recover_i1 n v6 (IntKind.i64.wrap (IntKind.i64.wrap (at_ + 16) + v1.fst)) x1 (IntKind.i64.wrap (IntKind.i64.wrap (at_ + 16) + v1.fst)) (IntKind.i64.wrap (index + 1))) else
    some (.inr (.inl (((yield1, ()), ((yield2, ()), ())), ((), ((), ((x1, ()), ()))))))) else
    some (.inr (.inl (((yield1, ()), ((yield2, ()), ())), ((), ((), ((x1, ()), ()))))))) else
    some (.inl (((yield1, ()), ((yield2, ()), ())), ((), ((), ((x1, ()), ())))))
def fgarage_Recover_i1_F (n : Nat) (y : C.Ds Ty (snds fgarage_Recover_i1_D)) : Option (YT Ty fgarage_Recover_i1_E) := fgarage_Recover_i1 n y.1.1.1 y.1.2.1.1 y.2.1.1 y.2.2.1 y.2.2.2.1
noncomputable def fgarage_Recover_i1_cut (n : Nat) : St Ty → Tr (Lf Ty) := cutC fgarage_Recover_i1_D 4 fgarage_Recover_i1_E (fgarage_Recover_i1_F n)
def fgarage_Recover (n : Nat) (b : List (IK .u8)) : Option ((List ByteArray × Int × Unit)) :=
    (fgarage_Recover_i1 n [] 0 b 0 0).bind fun v0 =>
    Sum.elim (fun v1 => some (v1.fst.fst.fst, (v1.fst.snd.fst.fst, ()))) (fun v1 => Sum.elim (fun v2 => some (v2.fst.fst.fst, (v2.fst.snd.fst.fst, ()))) (fun v2 => some (v2.fst.fst.fst, (v2.fst.snd.fst.fst, ()))) (v1)) (v0)
def fgarage_Recover_F (n : Nat) (y : C.Ds Ty (snds fgarage_Recover_D)) : Option (YT Ty fgarage_Recover_E) := fgarage_Recover n y.1
noncomputable def fgarage_Recover_law (n : Nat) : Law Ty := lawC fgarage_Recover_D 0 fgarage_Recover_E (fgarage_Recover_F n)
noncomputable def fgarage_Recover_T (n : Nat) : List (Nat × Law Ty) := [(127, fgarage_length_law n), (75, fgarage_within_law n), (125, fgarage_record_law n)]
theorem fgarage_Recover_Tok (n : Nat) : LawsOk Tryz.prog (fgarage_Recover_T n) := ⟨fgarage_length_lawOk n, ⟨fgarage_within_lawOk n, ⟨fgarage_record_lawOk n, trivial⟩⟩⟩
noncomputable def fgarage_Recover_B (n : Nat) : CutL Ty := []
noncomputable def fgarage_Recover_Y (n : Nat) : List (Nat × Law Ty) := (yieldF, ybC Tryz.prog (callT Tryz.prog (fgarage_Recover_T n) []) (cutsOf []) (cutsOf (fgarage_Recover_B n)) 38) :: fgarage_Recover_T n
theorem fgarage_Recover_Yok (n : Nat) : LawsOk Tryz.prog (fgarage_Recover_Y n) := ⟨ybC_ok prog_noRow prog_mix (callT_ok prog_noRow prog_mix (fgarage_Recover_Tok n) insNil) (fun _ _ _ h => by cases h) (cuts_ok (fn := Tryz.f38) (c := (RFs.rf 38).body) (N := (RFs.rf 38).n) (L := fgarage_Recover_B n) (ks := []) trivial (by kernel_rfl) (by kernel_rfl)), fgarage_Recover_Tok n⟩
noncomputable def fgarage_Recover_i1_C (n : Nat) : CutL Ty := []
theorem fgarage_Recover_i1_rd (n : Nat) (x : C.Ds Ty (snds fgarage_Recover_i1_D)) : (exec Tryz.prog 63 (callT Tryz.prog (fgarage_Recover_Y n) []) (cutsOf (fgarage_Recover_i1_C n)) (bodyAt 2 Tryz.f126) (embS fgarage_Recover_i1_D x)).runK (typeRd 4 fgarage_Recover_i1_D fgarage_Recover_i1_E (fgarage_Recover_i1_F n)) = fgarage_Recover_i1_F (n + 1) x := by kernel_rfl
theorem fgarage_Recover_i1_ok (n : Nat) : CutOk true Tryz.prog 63 (fgarage_Recover_i1_cut n) (.loop (bodyAt 2 Tryz.f126)) := cut_ok fun x y hy => can_loop (Fn := fgarage_Recover_i1_F) prog_noRow prog_mix (fun n => callT_ok prog_noRow prog_mix (fgarage_Recover_Yok n) insNil) (fun h => by cases h) (fun h => by cases h) (fun n => (cuts_ok (fn := Tryz.f126) (L := fgarage_Recover_i1_C n) (ks := []) trivial (by kernel_rfl) (by kernel_rfl))) (by decide) (fun _ => rfl) fgarage_Recover_i1_rd hy
noncomputable def fgarage_Recover_K (n : Nat) : InsL Ty := [(126, [(.loop 2, fgarage_Recover_i1_cut n)])]
theorem fgarage_Recover_Kok (n : Nat) : InsOk Tryz.prog (fgarage_Recover_K n) := ⟨ins_one (f := 126) Tryz.func126 rfl (cuts_ok (fn := Tryz.f126) (L := [(.loop 2, fgarage_Recover_i1_cut n)]) (ks := [.loop 2]) ⟨fgarage_Recover_i1_ok n, trivial⟩ (by kernel_rfl) (by kernel_rfl)), trivial⟩
noncomputable def fgarage_Recover_rf (n : Nat) : St Ty → Tr (Lf Ty) := rfC Tryz.prog (callT Tryz.prog (fgarage_Recover_Y n) (fgarage_Recover_K n)) (.tmp 7) 38 [2, 3]
theorem fgarage_Recover_rfok (n : Nat) : CutOk true Tryz.prog 20 (fgarage_Recover_rf n) (nodeAt (.rf 4) Tryz.f38) := rf_cut (callT_ok prog_noRow prog_mix (fgarage_Recover_Yok n) (fgarage_Recover_Kok n)) (by kernel_rfl) (by kernel_rfl)
noncomputable def fgarage_Recover_C (n : Nat) : CutL Ty := [(.rf 4, fgarage_Recover_rf n)]
theorem fgarage_Recover_rd (n : Nat) (x : C.Ds Ty (snds fgarage_Recover_D)) : (exec Tryz.prog 20 (callT Tryz.prog (fgarage_Recover_T n) []) (cutsOf (fgarage_Recover_C n)) (codeOf Tryz.f38) (embS fgarage_Recover_D x)).runK (typeRt Tryz.prog Tryz.f38.results.toList 0 fgarage_Recover_E) = fgarage_Recover_F n x := by kernel_rfl
theorem fgarage_Recover_lawOk (n : Nat) : LawOk Tryz.prog 38 (fgarage_Recover_law n) := law_ok Tryz.func38 rfl rfl (by decide) rfl prog_noRow prog_mix (callT_ok prog_noRow prog_mix (fgarage_Recover_Tok n) insNil) (cuts_ok (fn := Tryz.f38) (L := fgarage_Recover_C n) (ks := [.rf 4]) ⟨fgarage_Recover_rfok n, trivial⟩ (by kernel_rfl) (by kernel_rfl)) (fgarage_Recover_rd n)
def fgarage_Report_l1_D : List (Nat × C) := [(0, .l 9), (5, .u 114), (6, .l 37), (7, .p 163 [.q 1, .o 5]), (8, .f 89 [] []), (9, .f 90 [] [.q 1]), (38, .s 3)]
def fgarage_Report_l1_E : List Wo := [⟨.exit 0, [.u 114, .p 163 [.z, .o 5]], [(0, .l 9), (5, .q 0), (6, .l 37), (7, .q 1), (8, .f 89 [] []), (9, .f 90 [] [.q 1])], []⟩, ⟨.exit 0, [.u 114, .p 163 [.q 1, .o 5]], [(0, .l 9), (5, .q 0), (6, .l 37), (7, .q 1), (8, .f 89 [] []), (9, .f 90 [] [.q 1])], []⟩]
def fgarage_Report_l2_D : List (Nat × C) := [(0, .l 9), (5, .u 114), (6, .l 37), (7, .p 163 [.z, .o 5]), (8, .f 89 [] []), (9, .f 90 [] [.q 1]), (38, .s 3)]
def fgarage_Report_l2_E : List Wo := [⟨.exit 0, [.u 114, .p 163 [.z, .o 5]], [(0, .l 9), (5, .q 0), (6, .l 37), (7, .q 1), (8, .f 89 [] []), (9, .f 90 [] [.q 1])], []⟩, ⟨.exit 0, [.u 114, .p 163 [.q 1, .o 5]], [(0, .l 9), (5, .q 0), (6, .l 37), (7, .q 1), (8, .f 89 [] []), (9, .f 90 [] [.q 1])], []⟩]
def fgarage_Report_l3_D : List (Nat × C) := [(5, .u 114), (7, .p 163 [.q 1, .o 5]), (8, .f 89 [] []), (9, .f 90 [] [.q 1]), (16, .s 3), (17, .s 3), (97, .l 93), (98, .s 3), (99, .s 3)]
def fgarage_Report_l3_E : List Wo := [⟨.exit 2, [.u 114, .p 163 [.q 1, .o 5]], [(5, .q 0), (7, .q 1), (8, .f 89 [] []), (9, .f 90 [] [.q 1]), (16, .s 3), (17, .s 3)], []⟩]
def fgarage_Report_l4_D : List (Nat × C) := [(5, .u 114), (7, .p 163 [.q 1, .o 5]), (8, .f 89 [] []), (9, .f 90 [] [.q 1]), (16, .s 3), (17, .s 3), (21, .s 3), (131, .l 98), (132, .s 3), (133, .s 3)]
def fgarage_Report_l4_E : List Wo := [⟨.exit 4, [.u 114, .p 163 [.q 1, .o 5]], [(5, .q 0), (7, .q 1), (8, .f 89 [] []), (9, .f 90 [] [.q 1]), (16, .s 3), (17, .s 3), (21, .s 3)], []⟩]
def fgarage_Report_l5_D : List (Nat × C) := [(5, .u 114), (7, .p 163 [.q 1, .o 5]), (8, .f 89 [] []), (9, .f 90 [] [.q 1]), (24, .s 3), (164, .l 3), (165, .s 3), (166, .s 3)]
def fgarage_Report_l5_E : List Wo := [⟨.exit 6, [.u 114, .p 163 [.q 1, .o 5]], [(5, .q 0), (7, .q 1), (8, .f 89 [] []), (9, .f 90 [] [.q 1]), (24, .s 3)], []⟩]
def fgarage_Report_D : List (Nat × C) := [(0, .l 9)]
def fgarage_Report_E : List Wo := [⟨.ret, [], [], [.s 9, .s 37]⟩]
def fgarage_Report_l1 : Nat → (List ByteArray) → Session → (List Int) → (List (IK .u8)) → Int → Option ((Session × (Unit × List (IK .u8) × Unit) × List ByteArray × Unit × List Int × Unit × (Unit × Unit) × (Unit × (Unit × Unit)) × Unit) ⊕ ((Session × (Unit × List (IK .u8) × Unit) × List ByteArray × Unit × List Int × Unit × (Unit × Unit) × (Unit × (Unit × Unit)) × Unit)))
  | 0, _, _, _, _, _ => none
  | n + 1, lines, g, errors, out, x38 =>
    bif decide (x38 < 100) then ((fgarage_session_known n g x38).bind fun v0 =>
    bif !v0.snd.fst then (fgarage_Report_l1 n lines v0.fst errors out (IntKind.i64.wrap (x38 + 1))) else
    (fgarage_session_miles n v0.fst x38).bind fun v1 =>
    (fpit_Open n v1.fst.state.cards x38 1000000).bind fun v2 =>
    (itoaS n x38).bind fun v3 =>
    (itoaS n v1.snd.fst).bind fun v4 =>
    (itoaS n (↑v2.fst.length : Int)).bind fun v5 =>
    (gone n v1.fst x38).bind fun v6 =>
    bif decide (v6.snd.fst ≥ 0) then ((joinS n ([B [98, 117, 115], v3.fst, B [109, 105, 108, 101, 115], v4.fst, B [111, 112, 101, 110], v5.fst].append [B [111, 117, 116]]) (B [32])).bind fun v7 =>
    (strAdd v7.fst (B [10])).bind fun v8 =>
    (app out (btsI v8)).bind fun v9 =>
    fgarage_Report_l1 n lines v6.fst errors v9 (IntKind.i64.wrap (x38 + 1))) else
    (joinS n [B [98, 117, 115], v3.fst, B [109, 105, 108, 101, 115], v4.fst, B [111, 112, 101, 110], v5.fst] (B [32])).bind fun v7 =>
    (strAdd v7.fst (B [10])).bind fun v8 =>
    (app out (btsI v8)).bind fun v9 =>
    fgarage_Report_l1 n lines v6.fst errors v9 (IntKind.i64.wrap (x38 + 1))) else
    some (.inr (g, (((), (out, ())), (lines, ((), (errors, ((), (((), ()), (((), ((), ())), ())))))))))
def fgarage_Report_l1_F (n : Nat) (y : C.Ds Ty (snds fgarage_Report_l1_D)) : Option (YT Ty fgarage_Report_l1_E) := fgarage_Report_l1 n y.1 y.2.1 y.2.2.1 y.2.2.2.1.2.1 y.2.2.2.2.2.2.1
noncomputable def fgarage_Report_l1_cut (n : Nat) : St Ty → Tr (Lf Ty) := cutC fgarage_Report_l1_D 2 fgarage_Report_l1_E (fgarage_Report_l1_F n)
def fgarage_Report_l2 : Nat → (List ByteArray) → Session → (List Int) → (List (IK .u8)) → Int → Option ((Session × (Unit × List (IK .u8) × Unit) × List ByteArray × Unit × List Int × Unit × (Unit × Unit) × (Unit × (Unit × Unit)) × Unit) ⊕ ((Session × (Unit × List (IK .u8) × Unit) × List ByteArray × Unit × List Int × Unit × (Unit × Unit) × (Unit × (Unit × Unit)) × Unit)))
  | 0, _, _, _, _, _ => none
  | n + 1, lines, g, errors, out, x38 =>
    bif decide (x38 < 100) then ((fgarage_session_known n g x38).bind fun v0 =>
    bif !v0.snd.fst then (fgarage_Report_l2 n lines v0.fst errors out (IntKind.i64.wrap (x38 + 1))) else
    (fgarage_session_miles n v0.fst x38).bind fun v1 =>
    (fpit_Open n v1.fst.state.cards x38 1000000).bind fun v2 =>
    (itoaS n x38).bind fun v3 =>
    (itoaS n v1.snd.fst).bind fun v4 =>
    (itoaS n (↑v2.fst.length : Int)).bind fun v5 =>
    (gone n v1.fst x38).bind fun v6 =>
    bif decide (v6.snd.fst ≥ 0) then ((joinS n ([B [98, 117, 115], v3.fst, B [109, 105, 108, 101, 115], v4.fst, B [111, 112, 101, 110], v5.fst].append [B [111, 117, 116]]) (B [32])).bind fun v7 =>
    (strAdd v7.fst (B [10])).bind fun v8 =>
    (app out (btsI v8)).bind fun v9 =>
    fgarage_Report_l1 n lines v6.fst errors v9 (IntKind.i64.wrap (x38 + 1))) else
    (joinS n [B [98, 117, 115], v3.fst, B [109, 105, 108, 101, 115], v4.fst, B [111, 112, 101, 110], v5.fst] (B [32])).bind fun v7 =>
    (strAdd v7.fst (B [10])).bind fun v8 =>
    (app out (btsI v8)).bind fun v9 =>
    fgarage_Report_l1 n lines v6.fst errors v9 (IntKind.i64.wrap (x38 + 1))) else
    some (.inl (g, (((), (out, ())), (lines, ((), (errors, ((), (((), ()), (((), ((), ())), ())))))))))
def fgarage_Report_l2_F (n : Nat) (y : C.Ds Ty (snds fgarage_Report_l2_D)) : Option (YT Ty fgarage_Report_l2_E) := fgarage_Report_l2 n y.1 y.2.1 y.2.2.1 y.2.2.2.1.2.1 y.2.2.2.2.2.2.1
noncomputable def fgarage_Report_l2_cut (n : Nat) : St Ty → Tr (Lf Ty) := cutC fgarage_Report_l2_D 2 fgarage_Report_l2_E (fgarage_Report_l2_F n)
def fgarage_Report_l3 : Nat → Session → (List (IK .u8)) → Int → Int → (List Record) → Int → Int → Option ((Session × (Unit × List (IK .u8) × Unit) × Unit × Unit × (Unit × Unit) × (Unit × (Unit × Unit)) × Int × Int × Unit))
  | 0, _, _, _, _, _, _, _ => none
  | n + 1, g, out, sales, coins, x97, x98, x99 =>
    bif decide (x99 < x98) then ((idx x97 x99).bind fun v0 =>
    bif decide (v0.kind.n = 0) then (fgarage_Report_l3 n g out (IntKind.i64.wrap (sales + 1)) (IntKind.i64.wrap (coins + v0.b)) x97 x98 (IntKind.i64.wrap (x99 + 1))) else
    fgarage_Report_l3 n g out sales coins x97 x98 (IntKind.i64.wrap (x99 + 1))) else
    some (g, (((), (out, ())), ((), ((), (((), ()), (((), ((), ())), (sales, (coins, ()))))))))
def fgarage_Report_l3_F (n : Nat) (y : C.Ds Ty (snds fgarage_Report_l3_D)) : Option (YT Ty fgarage_Report_l3_E) := fgarage_Report_l3 n y.1 y.2.1.2.1 y.2.2.2.2.1 y.2.2.2.2.2.1 y.2.2.2.2.2.2.1 y.2.2.2.2.2.2.2.1 y.2.2.2.2.2.2.2.2.1
noncomputable def fgarage_Report_l3_cut (n : Nat) : St Ty → Tr (Lf Ty) := cutC fgarage_Report_l3_D 2 fgarage_Report_l3_E (fgarage_Report_l3_F n)
def fgarage_Report_l4 : Nat → Session → (List (IK .u8)) → Int → Int → Int → (List Lack) → Int → Int → Option ((Session × (Unit × List (IK .u8) × Unit) × Unit × Unit × (Unit × Unit) × (Unit × (Unit × Unit)) × Int × Int × Int × Unit))
  | 0, _, _, _, _, _, _, _, _ => none
  | n + 1, g, out, sales, coins, e, x131, x132, x133 =>
    bif decide (x133 < x132) then ((idx x131 x133).bind fun v0 =>
    fgarage_Report_l4 n g out (IntKind.i64.wrap (sales + v0.sales)) (IntKind.i64.wrap (coins + v0.coins)) e x131 x132 (IntKind.i64.wrap (x133 + 1))) else
    some (g, (((), (out, ())), ((), ((), (((), ()), (((), ((), ())), (sales, (coins, (e, ())))))))))
def fgarage_Report_l4_F (n : Nat) (y : C.Ds Ty (snds fgarage_Report_l4_D)) : Option (YT Ty fgarage_Report_l4_E) := fgarage_Report_l4 n y.1 y.2.1.2.1 y.2.2.2.2.1 y.2.2.2.2.2.1 y.2.2.2.2.2.2.1 y.2.2.2.2.2.2.2.1 y.2.2.2.2.2.2.2.2.1 y.2.2.2.2.2.2.2.2.2.1
noncomputable def fgarage_Report_l4_cut (n : Nat) : St Ty → Tr (Lf Ty) := cutC fgarage_Report_l4_D 2 fgarage_Report_l4_E (fgarage_Report_l4_F n)
def fgarage_Report_l5 : Nat → Session → (List (IK .u8)) → Int → (List Int) → Int → Int → Option ((Session × (Unit × List (IK .u8) × Unit) × Unit × Unit × (Unit × Unit) × (Unit × (Unit × Unit)) × Int × Unit))
  | 0, _, _, _, _, _, _ => none
  | n + 1, g, out, given, x164, x165, x166 =>
    bif decide (x166 < x165) then ((idx x164 x166).bind fun v0 =>
    bif v0 != -1 then (fgarage_Report_l5 n g out (IntKind.i64.wrap (given + 1)) x164 x165 (IntKind.i64.wrap (x166 + 1))) else
    fgarage_Report_l5 n g out given x164 x165 (IntKind.i64.wrap (x166 + 1))) else
    some (g, (((), (out, ())), ((), ((), (((), ()), (((), ((), ())), (given, ())))))))
def fgarage_Report_l5_F (n : Nat) (y : C.Ds Ty (snds fgarage_Report_l5_D)) : Option (YT Ty fgarage_Report_l5_E) := fgarage_Report_l5 n y.1 y.2.1.2.1 y.2.2.2.2.1 y.2.2.2.2.2.1 y.2.2.2.2.2.2.1 y.2.2.2.2.2.2.2.1
noncomputable def fgarage_Report_l5_cut (n : Nat) : St Ty → Tr (Lf Ty) := cutC fgarage_Report_l5_D 2 fgarage_Report_l5_E (fgarage_Report_l5_F n)
def fgarage_Report (n : Nat) (lines : List ByteArray) : Option ((ByteArray × Int × Unit)) :=
    (fgarage_check n lines).bind fun v0 =>
    bif v0.fst != 0 then (some (B [], (v0.fst, ()))) else
    (fgarage_play n lines).bind fun v1 =>
    (fgarage_Report_l2 n lines v1.fst v1.snd.fst [] 0).bind fun v2 =>
    Sum.elim (fun v3 => (fgarage_late n v3.snd.snd.fst v3.fst v3.snd.snd.snd.snd.fst).bind fun v4 =>
    (itoaS n (↑v4.snd.fst.length : Int)).bind fun v5 =>
    (joinS n [B [108, 97, 116, 101], v5.fst] (B [32])).bind fun v6 =>
    (strAdd v6.fst (B [10])).bind fun v7 =>
    (app v3.snd.fst.snd.fst (btsI v7)).bind fun v8 =>
    (fgarage_Report_l3 n v4.fst v8 0 0 v4.fst.state.records (↑v4.fst.state.records.length : Int) 0).bind fun v9 =>
    (itoaS n v9.snd.snd.snd.snd.snd.snd.fst).bind fun v10 =>
    (itoaS n v9.snd.snd.snd.snd.snd.snd.snd.fst).bind fun v11 =>
    (joinS n [B [115, 97, 108, 101, 115], v10.fst, B [99, 111, 105, 110, 115], v11.fst] (B [32])).bind fun v12 =>
    (strAdd v12.fst (B [10])).bind fun v13 =>
    (app v9.snd.fst.snd.fst (btsI v13)).bind fun v14 =>
    (fsheet_Lacks n v9.fst.state.records).bind fun v15 =>
    (fgarage_Report_l4 n v9.fst v14 0 0 v15.snd.fst v15.fst (↑v15.fst.length : Int) 0).bind fun v16 =>
    bif decide (v16.snd.snd.snd.snd.snd.snd.snd.snd.fst = 0) then ((itoaS n v16.snd.snd.snd.snd.snd.snd.fst).bind fun v17 =>
    (itoaS n v16.snd.snd.snd.snd.snd.snd.snd.fst).bind fun v18 =>
    (joinS n [B [108, 97, 99, 107], v17.fst, B [99, 111, 105, 110, 115], v18.fst] (B [32])).bind fun v19 =>
    (strAdd v19.fst (B [10])).bind fun v20 =>
    (app v16.snd.fst.snd.fst (btsI v20)).bind fun v21 =>
    (fgarage_Report_l5 n v16.fst v21 0 v16.fst.state.roster (↑v16.fst.state.roster.length : Int) 0).bind fun v22 =>
    (itoaS n v22.snd.snd.snd.snd.snd.snd.fst).bind fun v23 =>
    (itoaS n (↑v22.fst.state.roster.length : Int)).bind fun v24 =>
    (joinS n [B [100, 117, 116, 105, 101, 115], v23.fst, B [111, 102], v24.fst] (B [32])).bind fun v25 =>
    (strAdd v25.fst (B [10])).bind fun v26 =>
    (app v22.snd.fst.snd.fst (btsI v26)).bind fun v27 =>
    (bstrO v27).bind fun v28 =>
    some (v28, (0, ()))) else
    (joinS n [B [108, 97, 99, 107], B [117, 110, 107, 110, 111, 119, 110]] (B [32])).bind fun v17 =>
    (strAdd v17.fst (B [10])).bind fun v18 =>
    (app v16.snd.fst.snd.fst (btsI v18)).bind fun v19 =>
    (fgarage_Report_l5 n v16.fst v19 0 v16.fst.state.roster (↑v16.fst.state.roster.length : Int) 0).bind fun v20 =>
    (itoaS n v20.snd.snd.snd.snd.snd.snd.fst).bind fun v21 =>
    (itoaS n (↑v20.fst.state.roster.length : Int)).bind fun v22 =>
    (joinS n [B [100, 117, 116, 105, 101, 115], v21.fst, B [111, 102], v22.fst] (B [32])).bind fun v23 =>
    (strAdd v23.fst (B [10])).bind fun v24 =>
    (app v20.snd.fst.snd.fst (btsI v24)).bind fun v25 =>
    (bstrO v25).bind fun v26 =>
    some (v26, (0, ()))) (fun v3 => (fgarage_late n v3.snd.snd.fst v3.fst v3.snd.snd.snd.snd.fst).bind fun v4 =>
    (itoaS n (↑v4.snd.fst.length : Int)).bind fun v5 =>
    (joinS n [B [108, 97, 116, 101], v5.fst] (B [32])).bind fun v6 =>
    (strAdd v6.fst (B [10])).bind fun v7 =>
    (app v3.snd.fst.snd.fst (btsI v7)).bind fun v8 =>
    (fgarage_Report_l3 n v4.fst v8 0 0 v4.fst.state.records (↑v4.fst.state.records.length : Int) 0).bind fun v9 =>
    (itoaS n v9.snd.snd.snd.snd.snd.snd.fst).bind fun v10 =>
    (itoaS n v9.snd.snd.snd.snd.snd.snd.snd.fst).bind fun v11 =>
    (joinS n [B [115, 97, 108, 101, 115], v10.fst, B [99, 111, 105, 110, 115], v11.fst] (B [32])).bind fun v12 =>
    (strAdd v12.fst (B [10])).bind fun v13 =>
    (app v9.snd.fst.snd.fst (btsI v13)).bind fun v14 =>
    (fsheet_Lacks n v9.fst.state.records).bind fun v15 =>
    (fgarage_Report_l4 n v9.fst v14 0 0 v15.snd.fst v15.fst (↑v15.fst.length : Int) 0).bind fun v16 =>
    bif decide (v16.snd.snd.snd.snd.snd.snd.snd.snd.fst = 0) then ((itoaS n v16.snd.snd.snd.snd.snd.snd.fst).bind fun v17 =>
    (itoaS n v16.snd.snd.snd.snd.snd.snd.snd.fst).bind fun v18 =>
    (joinS n [B [108, 97, 99, 107], v17.fst, B [99, 111, 105, 110, 115], v18.fst] (B [32])).bind fun v19 =>
    (strAdd v19.fst (B [10])).bind fun v20 =>
    (app v16.snd.fst.snd.fst (btsI v20)).bind fun v21 =>
    (fgarage_Report_l5 n v16.fst v21 0 v16.fst.state.roster (↑v16.fst.state.roster.length : Int) 0).bind fun v22 =>
    (itoaS n v22.snd.snd.snd.snd.snd.snd.fst).bind fun v23 =>
    (itoaS n (↑v22.fst.state.roster.length : Int)).bind fun v24 =>
    (joinS n [B [100, 117, 116, 105, 101, 115], v23.fst, B [111, 102], v24.fst] (B [32])).bind fun v25 =>
    (strAdd v25.fst (B [10])).bind fun v26 =>
    (app v22.snd.fst.snd.fst (btsI v26)).bind fun v27 =>
    (bstrO v27).bind fun v28 =>
    some (v28, (0, ()))) else
    (joinS n [B [108, 97, 99, 107], B [117, 110, 107, 110, 111, 119, 110]] (B [32])).bind fun v17 =>
    (strAdd v17.fst (B [10])).bind fun v18 =>
    (app v16.snd.fst.snd.fst (btsI v18)).bind fun v19 =>
    (fgarage_Report_l5 n v16.fst v19 0 v16.fst.state.roster (↑v16.fst.state.roster.length : Int) 0).bind fun v20 =>
    (itoaS n v20.snd.snd.snd.snd.snd.snd.fst).bind fun v21 =>
    (itoaS n (↑v20.fst.state.roster.length : Int)).bind fun v22 =>
    (joinS n [B [100, 117, 116, 105, 101, 115], v21.fst, B [111, 102], v22.fst] (B [32])).bind fun v23 =>
    (strAdd v23.fst (B [10])).bind fun v24 =>
    (app v20.snd.fst.snd.fst (btsI v24)).bind fun v25 =>
    (bstrO v25).bind fun v26 =>
    some (v26, (0, ()))) (v2)
def fgarage_Report_F (n : Nat) (y : C.Ds Ty (snds fgarage_Report_D)) : Option (YT Ty fgarage_Report_E) := fgarage_Report n y.1
noncomputable def fgarage_Report_law (n : Nat) : Law Ty := readC (lawC fgarage_Report_D 0 fgarage_Report_E (fgarage_Report_F n))
noncomputable def fgarage_Report_T (n : Nat) : List (Nat × Law Ty) := [(52, fgarage_check_law n), (53, fgarage_play_law n), (89, itoaS_law n), (92, joinS_law n), (151, copyS_law n), (93, fgarage_session_known_law n), (76, fgarage_session_miles_law n), (29, fpit_Open_law n), (94, gone_law n), (70, fgarage_late_law n), (44, fsheet_Lacks_law n), (95, bstrS_law n)]
theorem fgarage_Report_Tok (n : Nat) : LawsOk Tryz.prog (fgarage_Report_T n) := ⟨fgarage_check_lawOk n, ⟨fgarage_play_lawOk n, ⟨itoaS_lawOk n, ⟨joinS_lawOk n, ⟨copyS_lawOk n, ⟨fgarage_session_known_lawOk n, ⟨fgarage_session_miles_lawOk n, ⟨fpit_Open_lawOk n, ⟨gone_lawOk n, ⟨fgarage_late_lawOk n, ⟨fsheet_Lacks_lawOk n, ⟨bstrS_lawOk n, trivial⟩⟩⟩⟩⟩⟩⟩⟩⟩⟩⟩⟩
noncomputable def fgarage_Report_l1_C (n : Nat) : CutL Ty := []
theorem fgarage_Report_l1_rd (n : Nat) (x : C.Ds Ty (snds fgarage_Report_l1_D)) : (exec Tryz.prog 190 (callT Tryz.prog (fgarage_Report_T n) []) (cutsOf (fgarage_Report_l1_C n)) (bodyAt 9 Tryz.f48) (embS fgarage_Report_l1_D x)).runK (typeRd 2 fgarage_Report_l1_D fgarage_Report_l1_E (fgarage_Report_l1_F n)) = fgarage_Report_l1_F (n + 1) x := by kernel_rfl
theorem fgarage_Report_l1_ok (n : Nat) : CutOk true Tryz.prog 190 (fgarage_Report_l1_cut n) (.loop (bodyAt 9 Tryz.f48)) := cut_ok fun x y hy => can_loop (Fn := fgarage_Report_l1_F) prog_noRow prog_mix (fun n => callT_ok prog_noRow prog_mix (fgarage_Report_Tok n) insNil) (fun h => by cases h) (fun h => by cases h) (fun n => (cuts_ok (fn := Tryz.f48) (L := fgarage_Report_l1_C n) (ks := []) trivial (by kernel_rfl) (by kernel_rfl))) (by decide) (fun _ => rfl) fgarage_Report_l1_rd hy
noncomputable def fgarage_Report_l2_C (n : Nat) : CutL Ty := []
theorem fgarage_Report_l2_rd (n : Nat) (x : C.Ds Ty (snds fgarage_Report_l2_D)) : (exec Tryz.prog 190 (callT Tryz.prog (fgarage_Report_T n) []) (cutsOf (fgarage_Report_l2_C n)) (bodyAt 9 Tryz.f48) (embS fgarage_Report_l2_D x)).runK (typeRd2 2 fgarage_Report_l2_D fgarage_Report_l1_D fgarage_Report_l2_E (fgarage_Report_l2_F n) (fgarage_Report_l1_F n)) = fgarage_Report_l2_F (n + 1) x := by kernel_rfl
theorem fgarage_Report_l2_ok (n : Nat) : CutOk true Tryz.prog 190 (fgarage_Report_l2_cut n) (.loop (bodyAt 9 Tryz.f48)) := cut_ok fun x y hy => can_loop2 (Fn := fgarage_Report_l2_F) (F2 := fgarage_Report_l1_F) prog_noRow prog_mix (fun n => callT_ok prog_noRow prog_mix (fgarage_Report_Tok n) insNil) (fun n => callT_ok prog_noRow prog_mix (fgarage_Report_Tok n) insNil) (fun h => by cases h) (fun h => by cases h) (fun h => by cases h) (fun n => (cuts_ok (fn := Tryz.f48) (L := fgarage_Report_l2_C n) (ks := []) trivial (by kernel_rfl) (by kernel_rfl))) (fun n => (cuts_ok (fn := Tryz.f48) (L := fgarage_Report_l1_C n) (ks := []) trivial (by kernel_rfl) (by kernel_rfl))) (by decide) (fun _ => rfl) (fun _ => rfl) fgarage_Report_l2_rd fgarage_Report_l1_rd hy
noncomputable def fgarage_Report_l3_C (n : Nat) : CutL Ty := []
theorem fgarage_Report_l3_rd (n : Nat) (x : C.Ds Ty (snds fgarage_Report_l3_D)) : (exec Tryz.prog 190 (callT Tryz.prog (fgarage_Report_T n) []) (cutsOf (fgarage_Report_l3_C n)) (bodyAt 22 Tryz.f48) (embS fgarage_Report_l3_D x)).runK (typeRd 2 fgarage_Report_l3_D fgarage_Report_l3_E (fgarage_Report_l3_F n)) = fgarage_Report_l3_F (n + 1) x := by kernel_rfl
theorem fgarage_Report_l3_ok (n : Nat) : CutOk true Tryz.prog 190 (fgarage_Report_l3_cut n) (.loop (bodyAt 22 Tryz.f48)) := cut_ok fun x y hy => can_loop (Fn := fgarage_Report_l3_F) prog_noRow prog_mix (fun n => callT_ok prog_noRow prog_mix (fgarage_Report_Tok n) insNil) (fun h => by cases h) (fun h => by cases h) (fun n => (cuts_ok (fn := Tryz.f48) (L := fgarage_Report_l3_C n) (ks := []) trivial (by kernel_rfl) (by kernel_rfl))) (by decide) (fun _ => rfl) fgarage_Report_l3_rd hy
noncomputable def fgarage_Report_l4_C (n : Nat) : CutL Ty := []
theorem fgarage_Report_l4_rd (n : Nat) (x : C.Ds Ty (snds fgarage_Report_l4_D)) : (exec Tryz.prog 190 (callT Tryz.prog (fgarage_Report_T n) []) (cutsOf (fgarage_Report_l4_C n)) (bodyAt 32 Tryz.f48) (embS fgarage_Report_l4_D x)).runK (typeRd 2 fgarage_Report_l4_D fgarage_Report_l4_E (fgarage_Report_l4_F n)) = fgarage_Report_l4_F (n + 1) x := by kernel_rfl
theorem fgarage_Report_l4_ok (n : Nat) : CutOk true Tryz.prog 190 (fgarage_Report_l4_cut n) (.loop (bodyAt 32 Tryz.f48)) := cut_ok fun x y hy => can_loop (Fn := fgarage_Report_l4_F) prog_noRow prog_mix (fun n => callT_ok prog_noRow prog_mix (fgarage_Report_Tok n) insNil) (fun h => by cases h) (fun h => by cases h) (fun n => (cuts_ok (fn := Tryz.f48) (L := fgarage_Report_l4_C n) (ks := []) trivial (by kernel_rfl) (by kernel_rfl))) (by decide) (fun _ => rfl) fgarage_Report_l4_rd hy
noncomputable def fgarage_Report_l5_C (n : Nat) : CutL Ty := []
theorem fgarage_Report_l5_rd (n : Nat) (x : C.Ds Ty (snds fgarage_Report_l5_D)) : (exec Tryz.prog 190 (callT Tryz.prog (fgarage_Report_T n) []) (cutsOf (fgarage_Report_l5_C n)) (bodyAt 42 Tryz.f48) (embS fgarage_Report_l5_D x)).runK (typeRd 2 fgarage_Report_l5_D fgarage_Report_l5_E (fgarage_Report_l5_F n)) = fgarage_Report_l5_F (n + 1) x := by kernel_rfl
theorem fgarage_Report_l5_ok (n : Nat) : CutOk true Tryz.prog 190 (fgarage_Report_l5_cut n) (.loop (bodyAt 42 Tryz.f48)) := cut_ok fun x y hy => can_loop (Fn := fgarage_Report_l5_F) prog_noRow prog_mix (fun n => callT_ok prog_noRow prog_mix (fgarage_Report_Tok n) insNil) (fun h => by cases h) (fun h => by cases h) (fun n => (cuts_ok (fn := Tryz.f48) (L := fgarage_Report_l5_C n) (ks := []) trivial (by kernel_rfl) (by kernel_rfl))) (by decide) (fun _ => rfl) fgarage_Report_l5_rd hy
noncomputable def fgarage_Report_C (n : Nat) : CutL Ty := [(.loop 9, altC (fgarage_Report_l1_cut n) (fgarage_Report_l2_cut n)), (.loop 22, fgarage_Report_l3_cut n), (.loop 32, fgarage_Report_l4_cut n), (.loop 42, fgarage_Report_l5_cut n)]
theorem fgarage_Report_rd (n : Nat) (x : C.Ds Ty (snds fgarage_Report_D)) : (exec Tryz.prog 190 (callT Tryz.prog (fgarage_Report_T n) []) (cutsOf (fgarage_Report_C n)) (codeOf Tryz.f48) (embS fgarage_Report_D x)).runK (typeRt Tryz.prog Tryz.f48.results.toList 0 fgarage_Report_E) = fgarage_Report_F n x := by kernel_rfl
theorem fgarage_Report_lawOk (n : Nat) : LawOk Tryz.prog 48 (fgarage_Report_law n) := readC_ok (law_ok Tryz.func48 rfl rfl (by decide) rfl prog_noRow prog_mix (callT_ok prog_noRow prog_mix (fgarage_Report_Tok n) insNil) (cuts_ok (fn := Tryz.f48) (L := fgarage_Report_C n) (ks := [.loop 9, .loop 22, .loop 32, .loop 42]) ⟨altC_ok (fgarage_Report_l1_ok n) (fgarage_Report_l2_ok n), ⟨fgarage_Report_l3_ok n, ⟨fgarage_Report_l4_ok n, ⟨fgarage_Report_l5_ok n, trivial⟩⟩⟩⟩ (by kernel_rfl) (by kernel_rfl)) (fgarage_Report_rd n))
def flaw_GarageNames_l1_D : List (Nat × C) := [(10, .l 37), (12, .o 37), (13, .s 3)]
def flaw_GarageNames_l1_E : List Wo := [⟨.exit 0, [], [], []⟩, ⟨.ret, [], [(0, .s 4)], []⟩]
def flaw_GarageNames_D : List (Nat × C) := []
def flaw_GarageNames_E : List Wo := [⟨.ret, [], [], [.s 4]⟩]
def flaw_GarageNames_l1 : Nat → (List Int) → (List Int) → Int → Option (Unit ⊕ ((Bool × Unit)))
  | 0, _, _, _ => none
  | n + 1, errors, want, k =>
    bif decide (k < (↑want.length : Int)) then ((idx errors (IntKind.i64.wrap (16 + k))).bind fun v0 =>
    (idx want k).bind fun v1 =>
    (want.get?Internal k.toNat).bind fun v2 =>
    bif v0 != v2 then (some (.inr (false, ()))) else
    flaw_GarageNames_l1 n errors want (IntKind.i64.wrap (k + 1))) else
    some (.inl ())
def flaw_GarageNames_l1_F (n : Nat) (y : C.Ds Ty (snds flaw_GarageNames_l1_D)) : Option (YT Ty flaw_GarageNames_l1_E) := flaw_GarageNames_l1 n y.1 y.2.1 y.2.2.1
noncomputable def flaw_GarageNames_l1_cut (n : Nat) : St Ty → Tr (Lf Ty) := cutC flaw_GarageNames_l1_D 0 flaw_GarageNames_l1_E (flaw_GarageNames_l1_F n)
def flaw_GarageNames (n : Nat) : Option ((Bool × Unit)) :=
    (flaw_shift n).bind fun v0 =>
    (fgarage_Report n v0.fst).bind fun v1 =>
    (flaw_shift n).bind fun v2 =>
    (fgarage_Miles n v2.fst 8).bind fun v3 =>
    (flaw_shift n).bind fun v4 =>
    (fgarage_Miles n v4.fst 7).bind fun v5 =>
    (flaw_shift n).bind fun v6 =>
    (fgarage_Miles n v6.fst 100).bind fun v7 =>
    bif !v1.snd.fst != 0 then (bif !!v1.fst.beq (B [98, 117, 115, 32, 55, 32, 109, 105, 108, 101, 115, 32, 48, 32, 111, 112, 101, 110, 32, 48, 32, 111, 117, 116, 10, 98, 117, 115, 32, 56, 32, 109, 105, 108, 101, 115, 32, 51, 48, 32, 111, 112, 101, 110, 32, 49, 10, 108, 97, 116, 101, 32, 49, 10, 115, 97, 108, 101, 115, 32, 49, 32, 99, 111, 105, 110, 115, 32, 51, 48, 48, 10, 108, 97, 99, 107, 32, 49, 32, 99, 111, 105, 110, 115, 32, 50, 48, 48, 10, 100, 117, 116, 105, 101, 115, 32, 49, 32, 111, 102, 32, 50, 10]) then (bif !v3.snd.fst != 0 then (bif !v3.fst != 30 then (bif !v5.snd.fst != 7 then (bif v7.snd.fst != 2 then (some (false, ())) else
    (flaw_shift n).bind fun v8 =>
    (app v8.fst [B [102, 111, 117, 110, 100, 32, 55, 32, 49, 32, 49, 48, 48, 32, 51], B [102, 111, 117, 110, 100, 32, 55, 32, 49, 32, 49, 48, 48, 32, 52], B [102, 111, 117, 110, 100, 32, 49, 48, 48, 32, 57, 32, 49, 32, 49], B [115, 105, 103, 110, 101, 100, 32, 55, 32, 57, 32, 49, 32, 48], B [99, 104, 101, 99, 107, 101, 100, 32, 55, 32, 57, 32, 49], B [111, 117, 116, 32, 55, 32, 53, 48, 48], B [111, 117, 116, 32, 49, 48, 48, 32, 49], B [105, 110, 32, 57, 32, 49, 32, 49], B [105, 110, 32, 55, 32, 50, 48, 48, 32, 49, 48, 48, 49], B [105, 110, 32, 55, 32, 50, 48, 48, 32, 53], B [111, 117, 116, 32, 55, 32, 49, 57, 57], B [111, 117, 116, 32, 55, 32, 50, 48, 48], B [115, 97, 108, 101, 32, 53, 32, 50, 32, 49, 53, 32, 49, 32, 51, 48, 48], B [115, 97, 108, 101, 32, 53, 32, 51, 32, 51, 49, 32, 49, 32, 49], B [115, 97, 108, 101, 32, 53, 32, 51, 32, 50, 48, 32, 49, 32, 49], B [115, 121, 110, 99, 32, 53, 32, 57, 32, 53, 48, 32, 49, 48, 48, 48, 48, 48, 49], B [100, 114, 105, 118, 101, 114, 32, 49, 54, 32, 48], B [100, 117, 116, 121, 32, 55, 32, 49, 32, 50, 32, 50, 32, 49], B [103, 105, 118, 101, 32, 50, 32, 48], B [103, 105, 118, 101, 32, 48, 32, 49], B [103, 105, 118, 101, 32, 48, 32, 45, 49], B [111, 117, 116, 32, 49], B [111, 117, 116, 32, 49, 32, 48, 49], B [103, 111, 32, 49, 32, 49]]).bind fun v9 =>
    (fgarage_Play n v9).bind fun v10 =>
    bif !v10.snd.snd.fst != 0 then (bif (↑v10.snd.fst.length : Int) != IntKind.i64.wrap (16 + (↑[6, 6, 1, 1, 0, 8, 2, 8, 2, 0, 8, 0, 6, 6, 0, 1, 1, 1, 2, 2, 0, 4, 4, 4].length : Int)) then (some (false, ())) else
    (flaw_GarageNames_l1 n v10.snd.fst [6, 6, 1, 1, 0, 8, 2, 8, 2, 0, 8, 0, 6, 6, 0, 1, 1, 1, 2, 2, 0, 4, 4, 4] 0).bind fun v11 =>
    Sum.elim (fun v12 => (fgarage_Play n (List.replicate (Int.toNat 51) (B []))).bind fun v13 =>
    (fgarage_Late n (List.replicate (Int.toNat 51) (B []))).bind fun v14 =>
    (fgarage_Recover n [IK.mk 91, IK.mk 48, IK.mk 48, IK.mk 49, IK.mk 47, IK.mk 57, IK.mk 57, IK.mk 56, IK.mk 47, IK.mk 48, IK.mk 48, IK.mk 49, IK.mk 48, IK.mk 53, IK.mk 93, IK.mk 97, IK.mk 10, IK.mk 91, IK.mk 48, IK.mk 48, IK.mk 49, IK.mk 47, IK.mk 57, IK.mk 57, IK.mk 56, IK.mk 47, IK.mk 48, IK.mk 48, IK.mk 49, IK.mk 48, IK.mk 53, IK.mk 93, IK.mk 97, IK.mk 10]).bind fun v15 =>
    bif decide (v13.snd.snd.fst = 3) then (bif decide (v14.snd.fst = 3) then ((flaw_texts n v15.fst [B [97]]).bind fun v16 =>
    bif v16.fst then (bif decide (v15.snd.fst = 17) then ((flaw_wakes n).bind fun v17 =>
    some (v17.fst, ())) else
    some (false, ())) else
    some (false, ())) else
    some (false, ())) else
    some (false, ())) (fun v12 => some (v12.fst, ())) (v11)) else
    some (false, ())) else
    some (false, ())) else
    some (false, ())) else
    some (false, ())) else
    some (false, ())) else
    some (false, ())
def flaw_GarageNames_F (n : Nat) (y : C.Ds Ty (snds flaw_GarageNames_D)) : Option (YT Ty flaw_GarageNames_E) := flaw_GarageNames n
noncomputable def flaw_GarageNames_law (n : Nat) : Law Ty := lawC flaw_GarageNames_D 0 flaw_GarageNames_E (flaw_GarageNames_F n)
noncomputable def flaw_GarageNames_T (n : Nat) : List (Nat × Law Ty) := [(51, flaw_shift_law n), (48, fgarage_Report_law n), (34, fgarage_Miles_law n), (21, fgarage_Play_law n), (31, fgarage_Late_law n), (38, fgarage_Recover_law n), (41, flaw_texts_law n), (20, flaw_wakes_law n)]
theorem flaw_GarageNames_Tok (n : Nat) : LawsOk Tryz.prog (flaw_GarageNames_T n) := ⟨flaw_shift_lawOk n, ⟨fgarage_Report_lawOk n, ⟨fgarage_Miles_lawOk n, ⟨fgarage_Play_lawOk n, ⟨fgarage_Late_lawOk n, ⟨fgarage_Recover_lawOk n, ⟨flaw_texts_lawOk n, ⟨flaw_wakes_lawOk n, trivial⟩⟩⟩⟩⟩⟩⟩⟩
noncomputable def flaw_GarageNames_l1_C (n : Nat) : CutL Ty := []
theorem flaw_GarageNames_l1_rd (n : Nat) (x : C.Ds Ty (snds flaw_GarageNames_l1_D)) : (exec Tryz.prog 128 (callT Tryz.prog (flaw_GarageNames_T n) []) (cutsOf (flaw_GarageNames_l1_C n)) (bodyAt 12 Tryz.f18) (embS flaw_GarageNames_l1_D x)).runK (typeRd 0 flaw_GarageNames_l1_D flaw_GarageNames_l1_E (flaw_GarageNames_l1_F n)) = flaw_GarageNames_l1_F (n + 1) x := by kernel_rfl
theorem flaw_GarageNames_l1_ok (n : Nat) : CutOk true Tryz.prog 128 (flaw_GarageNames_l1_cut n) (.loop (bodyAt 12 Tryz.f18)) := cut_ok fun x y hy => can_loop (Fn := flaw_GarageNames_l1_F) prog_noRow prog_mix (fun n => callT_ok prog_noRow prog_mix (flaw_GarageNames_Tok n) insNil) (fun h => by cases h) (fun h => by cases h) (fun n => (cuts_ok (fn := Tryz.f18) (L := flaw_GarageNames_l1_C n) (ks := []) trivial (by kernel_rfl) (by kernel_rfl))) (by decide) (fun _ => rfl) flaw_GarageNames_l1_rd hy
noncomputable def flaw_GarageNames_C (n : Nat) : CutL Ty := [(.loop 12, flaw_GarageNames_l1_cut n)]
theorem flaw_GarageNames_rd (n : Nat) (x : C.Ds Ty (snds flaw_GarageNames_D)) : (exec Tryz.prog 128 (callT Tryz.prog (flaw_GarageNames_T n) []) (cutsOf (flaw_GarageNames_C n)) (codeOf Tryz.f18) (embS flaw_GarageNames_D x)).runK (typeRt Tryz.prog Tryz.f18.results.toList 0 flaw_GarageNames_E) = flaw_GarageNames_F n x := by kernel_rfl
theorem flaw_GarageNames_lawOk (n : Nat) : LawOk Tryz.prog 18 (flaw_GarageNames_law n) := law_ok Tryz.func18 rfl rfl (by decide) rfl prog_noRow prog_mix (callT_ok prog_noRow prog_mix (flaw_GarageNames_Tok n) insNil) (cuts_ok (fn := Tryz.f18) (L := flaw_GarageNames_C n) (ks := [.loop 12]) ⟨flaw_GarageNames_l1_ok n, trivial⟩ (by kernel_rfl) (by kernel_rfl)) (flaw_GarageNames_rd n)
end Go.Proofs.YtkpgggfibljflaaGreatDoor
