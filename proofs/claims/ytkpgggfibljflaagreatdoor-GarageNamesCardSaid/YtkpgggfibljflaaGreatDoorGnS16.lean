/- What a proof leans on: a machine that steps through code, and what functions compute. -/
import Derived.Test.YtkpgggfibljflaaGreatDoorGnS15
import Derived.Shelf.Strings.OnBuilder
set_option linter.all false
set_option maxRecDepth 100000
namespace Go.Proofs
def Tryz.laysJoin_ren : Go.Shelf.Ren := ⟨fun | 156 => 92 | 165 => 152 | 166 => 91 | 169 => 95 | 240 => 151 | 241 => 209 | 276 => 208 | 277 => 274 | n => n, fun | 31 => 22 | 9 => 9 | 3 => 3 | 4 => 4 | 0 => 0 | 20 => 20 | 72 => 163 | 76 => 167 | 70 => 161 | 37 => 78 | 75 => 166 | 127 => 253 | 164 => 297 | 5 => 5 | 80 => 172 | n => n, fun | n => n⟩
theorem Tryz.laysJoin : Go.Proofs.Lays.n156 Tryz.prog Tryz.laysJoin_ren := {
  mixed := by kernel_rfl
  f156 := Tryz.func92.trans (congrArg some (by kernel_rfl))
  f165 := Tryz.func152.trans (congrArg some (by kernel_rfl))
  f166 := Tryz.func91.trans (congrArg some (by kernel_rfl))
  f169 := Tryz.func95.trans (congrArg some (by kernel_rfl))
  f240 := Tryz.func151.trans (congrArg some (by kernel_rfl))
  f241 := Tryz.func209.trans (congrArg some (by kernel_rfl))
  f276 := Tryz.func208.trans (congrArg some (by kernel_rfl))
  f277 := Tryz.func274.trans (congrArg some (by kernel_rfl))
  t0 := Tryz.underlying0
  a0 := Tryz.isAgg0
  z0 := Tryz.sizeOf0
  v0 := Tryz.zeroValue0
  t3 := Tryz.underlying3
  a3 := Tryz.isAgg3
  z3 := Tryz.sizeOf3
  v3 := Tryz.zeroValue3
  t4 := Tryz.underlying4
  a4 := Tryz.isAgg4
  z4 := Tryz.sizeOf4
  v4 := Tryz.zeroValue4
  t9 := Tryz.underlying9
  a9 := Tryz.isAgg9
  z9 := Tryz.sizeOf9
  v9 := Tryz.zeroValue9
  t20 := Tryz.underlying20
  a20 := Tryz.isAgg20
  z20 := Tryz.sizeOf20
  v20 := Tryz.zeroValue20
  t31 := Tryz.underlying22
  a31 := Tryz.isAgg22
  z31 := Tryz.sizeOf22
  v31 := Tryz.zeroValue22
  t37 := Tryz.underlying78
  a37 := Tryz.isAgg78
  z37 := Tryz.sizeOf78
  v37 := Tryz.zeroValue78
  t70 := Tryz.underlying161
  a70 := Tryz.isAgg161
  z70 := Tryz.sizeOf161
  v70 := Tryz.zeroValue161
  t72 := Tryz.underlying163
  a72 := Tryz.isAgg163
  z72 := Tryz.sizeOf163
  v72 := Tryz.zeroValue163
  t75 := Tryz.underlying166
  a75 := Tryz.isAgg166
  z75 := Tryz.sizeOf166
  v75 := Tryz.zeroValue166
  t76 := Tryz.underlying167
  a76 := Tryz.isAgg167
  z76 := Tryz.sizeOf167
  v76 := Tryz.zeroValue167
  t127 := Tryz.underlying253
  a127 := Tryz.isAgg253
  z127 := Tryz.sizeOf253
  v127 := Tryz.zeroValue253
  t164 := Tryz.underlying297
  a164 := Tryz.isAgg297
  z164 := Tryz.sizeOf297
  v164 := Tryz.zeroValue297 }
theorem Tryz.extraJoin : Builder.Extra Tryz.prog Tryz.laysJoin_ren where
  sizeBuilder := by kernel_rfl
  liesBuilder := by kernel_rfl
  t5 := Tryz.underlying5
  a5 := Tryz.isAgg5
  z5 := Tryz.sizeOf5
  v5 := Tryz.zeroValue5
  infoByte := by kernel_rfl
  cellsByte := by kernel_rfl
  sizeByte := by kernel_rfl
  neB5 := by decide
namespace YtkpgggfibljflaaGreatDoor
open Go Go.RowKit Go.Proofs
open Rep (rep)
def joinP (l : List ByteArray) (sep : ByteArray) : ByteArray := mkB (sep.data.toList.intercalate (l.map (·.data.toList)))
def joinS_D : List (Nat × C) := [(0, .l 9), (1, .s 9)]
def joinS_E : List Wo := [⟨.ret, [], [], [.s 9]⟩]
def joinS (n : Nat) (l : List ByteArray) (sep : ByteArray) : Option (ByteArray × Unit) := bif Nat.ble (lenN l) 100000 && Nat.ble (lenN (joinP l sep).data.toList) 100000 then some (joinP l sep, ()) else none
noncomputable def joinS_law (n : Nat) : Law Ty := readC (lawC joinS_D 0 joinS_E fun y => joinS n y.1 y.2.1)
theorem join_calls {M : Mo Ty} {F : Fr} {h : Heap} {g : GE} {w : World} (hm : MemV F h g M w) (l : List ByteArray) (sep : ByteArray) (a : Option Addr) (c : Nat) (hr : RepS h a c l) (h1 : l.length ≤ 100000) (h2 : (joinP l sep).data.toList.length ≤ 100000) :
    Calls Tryz.prog 92 #[.slice a l.length c, .string sep] w fun e w' => e = .returned (.string (joinP l sep)) ∧ w.grownBy w' none := by
  obtain ⟨vs, hc, hs, hlc⟩ := hr
  have hlen : (Lib.join (l.map (·.data.toList)) sep.data.toList).length ≤ 140737488355328 := by
    have : (joinP l sep).data.toList.length = (Lib.join (l.map (·.data.toList)) sep.data.toList).length := rfl
    omega
  cases l with
  | nil =>
    refine (Any.strings_Join_none Tryz.laysJoin Tryz.extraJoin a c sep w).mono ?_
    rintro e w' ⟨rfl, rfl⟩
    exact ⟨rfl, below_grown (Below.refl _ _)⟩
  | cons x r =>
    have hvs : vs = (x :: r).map Value.string := by
      clear hs hlc h1 h2 hlen
      generalize x :: r = l at hc
      induction l generalizing vs with
      | nil => exact hc
      | cons y q ih =>
        obtain ⟨c1, c2, rfl, e1, e2⟩ := hc
        have e1 : c1 = [.string y] := e1
        rw [e1, ih _ e2]; rfl
    obtain ⟨ad, rfl, hsp, hcl⟩ := hs 0 (.string x) (by rw [hvs]; rfl)
    obtain ⟨bk, o, sp⟩ := ad
    have hsp : sp = none := hsp
    subst hsp
    have hcells : ∀ (j : Nat) y, (x :: r)[j]? = some y → w.cell? ⟨bk, o + j, none⟩ = some (.string y) := fun j y hj => by
      obtain ⟨ad, e1, _, e3⟩ := hs j (.string y) (by rw [hvs, List.getElem?_map, hj]; rfl)
      cases e1
      exact look_cell (hm.has _ _ _ e3).2 rfl
    have hlt : bk < w.heap.size := (hm.has _ _ _ hcl).1
    refine (Any.strings_Join Tryz.laysJoin Tryz.extraJoin bk o c (x :: r) sep w hcells hlt (by omega) hlc hlen).mono ?_
    rintro e w' ⟨rfl, hb⟩
    exact ⟨rfl, below_grown hb⟩
theorem joinS_lawOk (n : Nat) : LawOk Tryz.prog 92 (joinS_law n) := readC_ok (law_call rfl fun x y hy F h g w vals R hm hin hd fin => by
  obtain ⟨l, sep, ⟨⟩⟩ := x
  change List ByteArray at l
  change ByteArray at sep
  change (bif Nat.ble (lenN l) 100000 && Nat.ble (lenN (joinP l sep).data.toList) 100000 then some (joinP l sep, ()) else none) = some y at hy
  cases hb : (Nat.ble (lenN l) 100000 && Nat.ble (lenN (joinP l sep).data.toList) 100000) with
  | false => rw [hb] at hy; cases hy
  | true =>
    rw [hb, cond_true] at hy
    obtain ⟨b1, b2⟩ := band hb
    rw [lenN_eq] at b1 b2
    have b1 : l.length ≤ 100000 := Nat.le_of_ble_eq_true b1
    have b2 : (joinP l sep).data.toList.length ≤ 100000 := Nat.le_of_ble_eq_true b2
    change V.dens g h [(V.lst 9 (show List (Ty 9) from l) : V Ty), .str sep] vals at hd
    unfold V.dens at hd
    obtain ⟨u1, r1, e1, hu, hd1⟩ := hd
    obtain ⟨v2, e2, hd2⟩ := str_dens hd1
    unfold V.den at hu
    obtain ⟨a, c, e3, hr⟩ := hu
    rw [e1, e2, nil_dens hd2, e3]
    refine (join_calls hm l sep a c hr b1 b2).mono ?_
    rintro e w' ⟨rfl, hg⟩
    refine fin F h g w' ⟨[], [], 2000⟩ false [.str (joinP l sep)] [.string (joinP l sep)] rfl (FD.refl F []) (Heap.le_refl h) (fun _ _ => rfl) (by show 2000 ≤ 2000; omega) ((hm.grow hg).less (fun i c hi => by cases hi)) (fun i c hi => by cases hi) ?_ (one_dens (by unfold V.den; rfl)) rfl
    rw [← hy]; kernel_rfl)
end YtkpgggfibljflaaGreatDoor
end Go.Proofs
namespace Go.Proofs.YtkpgggfibljflaaGreatDoor
open Go Go.RowKit Go.Proofs Go.Shelf
open Rep (rep)
theorem put_less {F : Fr} {h : Heap} {g : GE} {w : World} {s : Sto Ty} {i : Nat} {c : Cell Ty} (hm : MemV F h g (Mo.put (AL.get s) i (some c)) w) : MemV F h g (AL.get (AL.put s i c)) w := hm.less fun j d hj => by
  rw [AL.get_put] at hj
  unfold Mo.put
  split at hj
  · rename_i h; rw [if_pos h.symm]; exact hj
  · rename_i h; rw [if_neg (fun hh => h hh.symm)]; exact hj
theorem copyS_lawOk (n : Nat) : LawOk Tryz.prog 151 (copyS_law n) := by
  intro args k s r hr F h g w vals hm hin hargs hden
  unfold copyS_law at hr
  split at hr
  · rename_i i off
    cases hb : Nat.beq off 0 with
    | false => rw [hb] at hr; cases hr
    | true =>
      rw [hb, cond_true] at hr
      have h0 := Nat.eq_of_beq_eq_true hb
      subst h0
      have hv : vals = [.pointer (some ⟨(g i).b, 0, none⟩)] := by
        unfold V.dens at hden
        obtain ⟨u1, r1, rfl, e1, hd⟩ := hden
        rw [nil_dens hd]
        unfold V.den at e1
        rw [e1]
      rw [hv]
      split at hr
      · rename_i t x hs
        cases hb2 : Nat.beq t 163 with
        | false => rw [hb2] at hr; cases hr
        | true =>
          rw [hb2, cond_true] at hr
          have ht := Nat.eq_of_beq_eq_true hb2
          subst ht
          cases hr
          obtain ⟨us, T, b1, b2, b3, b4, b5⟩ := hm.blkT hs
          have hT : T = 163 := b5.elim (fun h => by cases h) id
          subst hT
          unfold V.dens at b2
          obtain ⟨u1, us1, rfl, d1, d2⟩ := b2
          unfold V.dens at d2
          obtain ⟨u2, us2, rfl, d3, d4⟩ := d2
          have d4 := nil_dens d4
          subst d4
          unfold V.den at d1
          subst d1
          have hok := (hin _ _ hs).2
          have hi := (hin _ _ hs).1
          refine .of rfl ((Any.Builder_copyCheck_fresh { Tryz.laysJoin with } Tryz.extraJoin.toX72 (g i).b w ?_ ?_ ?_).mono ?_)
          · unfold World.cell?; simp only [b1]; rfl
          · unfold World.shape?; rw [b1]; rfl
          · unfold World.frozen?; simp [b1]
          · rintro en w' ⟨rfl, rfl⟩
            refine ⟨h, g, .tuple #[], Heap.le_refl _, fun _ _ => rfl, put_less (hm.set hs b4 (setCell_grown w ⟨(g i).b, 0, none⟩ _) ⟨b4, [.pointer (some ⟨(g i).b, 0, none⟩), u2], 163, ?_, ?_, ?_, .inr rfl⟩), InS.putC hin (ltN_iff.1 hi) ?_, Nat.le_refl _, rfl, ?_, rfl⟩
            · unfold World.setCell
              simp [Array.getElem?_modify, b1]
            · unfold V.dens V.dens V.dens
              exact ⟨_, _, rfl, by unfold V.den; rfl, _, _, rfl, d3, rfl⟩
            · intro u hu
              rcases List.mem_cons.1 hu with rfl | hu
              · rfl
              · exact b3 u (List.mem_cons_of_mem _ hu)
            · have e1 : V.oksB (ltN k) [(.nilp : V Ty), x] = true := hok
              unfold V.oksB at e1
              show V.oksB (ltN k) [(.ptr i 0 : V Ty), x] = true
              unfold V.oksB
              rw [(band e1).2, Bool.and_true]
              unfold V.okB
              exact hi
            · unfold V.den; exact ⟨[], rfl, rfl⟩
      · rename_i t j o x hs
        cases hb2 : (Nat.beq j i && Nat.beq o 0) with
        | false => rw [hb2] at hr; cases hr
        | true =>
          rw [hb2, cond_true] at hr
          obtain ⟨hj, ho⟩ := band hb2
          have hj := Nat.eq_of_beq_eq_true hj
          have ho := Nat.eq_of_beq_eq_true ho
          subst hj ho
          cases hr
          obtain ⟨us, T, b1, b2, b3, b4, b5⟩ := hm.blk hs
          unfold V.dens at b2
          obtain ⟨u1, us1, rfl, d1, d2⟩ := b2
          unfold V.den at d1
          subst d1
          refine .of rfl ((Any.Builder_copyCheck_used { Tryz.laysJoin with } Tryz.extraJoin.toX72 (g j).b w (b5 0 _ rfl)).mono ?_)
          rintro en w' ⟨rfl, rfl⟩
          exact ⟨h, g, .tuple #[], Heap.le_refl _, fun _ _ => rfl, hm, hin, Nat.le_refl _, rfl, by unfold V.den; exact ⟨[], rfl, rfl⟩, rfl⟩
      · cases hr
  · cases hr
set_option maxHeartbeats 2000000 in
theorem bstr_calls (b : Nat) (T : TypeId) (p v : Value) (l : List UInt8) (w : World) (hbk : w.heap[b]? = some (.cells #[p, v] T (0, 0)))
    (hv : (v = .slice none 0 0 ∧ l = []) ∨ ∃ (g cap : Nat) (cur : Array Value), v = .slice (some ⟨g, 0, none⟩) l.length cap ∧ w.heap[g]? = some (.cells cur 5 (0, 0)) ∧ l.length ≤ cap ∧ cap ≤ maxLen ∧ cur.size = cap ∧ ∀ (j : Nat) (x : UInt8), l[j]? = some x → cur[j]? = some (.int .u8 x.toNat)) :
    Calls Tryz.prog 95 #[.pointer (some ⟨b, 0, none⟩)] w fun e w' => e = .returned (.string ⟨l.toArray⟩) ∧ (w.grownBy w' none ∨ ∃ g n c, v = .slice (some ⟨g, 0, none⟩) n c ∧ w.grownBy w' (some g)) := by
  have c1 : w.drew.cell? ⟨b, 1, none⟩ = some v := by
    have : w.drew.heap[b]? = some (.cells #[p, v] T (0, 0)) := hbk
    rw [Lib.cell_of_heap this]; rfl
  have hd : w.grownBy w.drew none := ⟨rfl, rfl, rfl, Nat.le_refl _, fun _ _ _ => rfl⟩
  have hUS : ∀ (W : World) (q : Option Addr), (Builtin.unsafeString_ #[253, 3] 9 #[.pointer q, .int .i64 0]).run Tryz.prog W = .ok (.string .empty) W := fun W q => Any.unsafeString_none (P := Tryz.prog) (ρ := Tryz.laysJoin_ren) { Tryz.laysJoin with } Tryz.extraJoin W q
  rcases hv with ⟨rfl, rfl⟩ | ⟨g, cap, cur, rfl, hg, h1, h2, h3, h4⟩
  · have hSD : (Builtin.unsafeSliceData_ #[78] 253 #[.slice none 0 0]).run Tryz.prog w.drew = .ok (.pointer none) w.drew := rfl
    go_enter Tryz.func95, Tryz.ntmps95
    go_wp2
    go_region
    all_goals (go_wp2; go_ret; exact ⟨rfl, .inl hd⟩)
  · have hg' : w.drew.heap[g]? = some (.cells cur 5 (0, 0)) := hg
    rcases Nat.eq_zero_or_pos l.length with hl | hl
    · have hl : l = [] := List.eq_nil_of_length_eq_zero hl
      subst hl
      rcases Nat.eq_zero_or_pos cap with rfl | hc0
      · have hSD : (Builtin.unsafeSliceData_ #[78] 253 #[.slice (some ⟨g, 0, none⟩) 0 0]).run Tryz.prog w.drew = .ok (.pointer (some ⟨w.drew.heap.size, 0, none⟩)) (w.drew.alloc (.view ⟨g, 0, none⟩ 5)) :=
          Lib.run_unsafeSliceData_zero w.drew _ _ 5 Tryz.underlying253 ⟨g, 0, none⟩ 0 (5, cur.size) (by simp [World.shape?, hg'])
        have hlt : b < w.heap.size := (Array.getElem?_eq_some_iff.1 hbk).1
        have c2 : (w.drew.alloc (.view ⟨g, 0, none⟩ 5)).cell? ⟨b, 1, none⟩ = some (.slice (some ⟨g, 0, none⟩) 0 0) := by
          have : (w.drew.alloc (.view ⟨g, 0, none⟩ 5)).heap[b]? = some (.cells #[p, .slice (some ⟨g, 0, none⟩) 0 0] T (0, 0)) := (Lib.alloc_old w.drew _ b hlt).trans hbk
          rw [Lib.cell_of_heap this]; rfl
        have c3 : (w.alloc (.view ⟨g, 0, none⟩ 5)).drew.cell? ⟨b, 1, none⟩ = some (.slice (some ⟨g, 0, none⟩) 0 0) := c2
        have c0 : w.cell? ⟨b, 1, none⟩ = some (.slice (some ⟨g, 0, none⟩) 0 0) := c1
        have hda : w.grownBy (w.drew.alloc (.view ⟨g, 0, none⟩ 5)) none := hd.trans (World.grownBy_alloc _ _ none)
        go_enter Tryz.func95, Tryz.ntmps95
        go_wp2
        go_region
        all_goals (go_wp2; go_ret; exact ⟨rfl, .inl hda⟩)
      · have hSD : (Builtin.unsafeSliceData_ #[78] 253 #[.slice (some ⟨g, 0, none⟩) 0 cap]).run Tryz.prog w.drew = .ok (.pointer (some ⟨g, 0, none⟩)) w.drew :=
          Lib.run_unsafeSliceData_row _ _ _ _ _ _ (by omega)
        go_enter Tryz.func95, Tryz.ntmps95
        go_wp2
        go_region
        all_goals (go_wp2; go_ret; exact ⟨rfl, .inl hd⟩)
    · have hSD : (Builtin.unsafeSliceData_ #[78] 253 #[.slice (some ⟨g, 0, none⟩) l.length cap]).run Tryz.prog w.drew = .ok (.pointer (some ⟨g, 0, none⟩)) w.drew :=
        Lib.run_unsafeSliceData_row _ _ _ _ _ _ (by omega)
      have hUS2 : (Builtin.unsafeString_ #[253, 3] 9 #[.pointer (some ⟨g, 0, none⟩), .int .i64 l.length]).run Tryz.prog w.drew = .ok (.string ⟨l.toArray⟩) (w.drew.freeze ⟨g, 0, none⟩ l.length) := by
        refine Lib.run_unsafeString_row w.drew 253 3 9 5 Tryz.underlying253 Tryz.extraJoin.cellsByte g cur.size (by simp [World.shape?, hg']) l (fun hh => by rw [hh] at hl; cases hl) (by omega) (by unfold maxLen at h2; omega) ?_
        intro j x hx
        rw [show (⟨g, 0, none⟩ : Addr).add j = ⟨g, j, none⟩ by unfold Addr.add; split <;> simp_all, cell_of_row w.drew _ j _ _ _ hg']
        exact h4 j x hx
      have hfr : w.grownBy (w.drew.freeze ⟨g, 0, none⟩ l.length) (some g) := (show w.grownBy w.drew (some g) from ⟨rfl, rfl, rfl, Nat.le_refl _, fun _ _ _ => rfl⟩).trans (freeze_grown w.drew ⟨g, 0, none⟩ l.length)
      go_enter Tryz.func95, Tryz.ntmps95
      go_wp2
      go_region
      all_goals (go_wp2; go_ret; exact ⟨rfl, .inr ⟨g, _, _, rfl, hfr⟩⟩)
theorem bstrS_lawOk (n : Nat) : LawOk Tryz.prog 95 (bstrS_law n) := by
  intro args k s r hr F h g w vals hm hin hargs hden
  unfold bstrS_law at hr
  split at hr
  · rename_i i off
    cases hb : Nat.beq off 0 with
    | false => rw [hb] at hr; cases hr
    | true =>
      rw [hb, cond_true] at hr
      have h0 := Nat.eq_of_beq_eq_true hb
      subst h0
      have hv : vals = [.pointer (some ⟨(g i).b, 0, none⟩)] := by
        unfold V.dens at hden
        obtain ⟨u1, r1, rfl, e1, hd⟩ := hden
        rw [nil_dens hd]
        unfold V.den at e1
        rw [e1]
      rw [hv]
      split at hr
      · rename_i t a k5 j hs
        cases hb2 : Nat.beq k5 5 with
        | false => rw [hb2] at hr; cases hr
        | true =>
          rw [hb2, cond_true] at hr
          have hk := Nat.eq_of_beq_eq_true hb2
          subst hk
          split at hr
          · rename_i k2 l hj
            split at hr
            · rename_i hk2
              subst hk2
              rw [Tr.runK_ask] at hr
              obtain ⟨bb, hbb, hr⟩ := Option.bind_eq_some_iff.1 hr
              cases hr
              obtain ⟨us, T, b1, b2, b3, b4, b5⟩ := hm.blk hs
              unfold V.dens at b2
              obtain ⟨u1, us1, rfl, d1, d2⟩ := b2
              unfold V.dens at d2
              obtain ⟨u2, us2, rfl, d3, d4⟩ := d2
              have d4 := nil_dens d4
              subst d4
              unfold V.den at d3
              obtain ⟨r1, r2⟩ := hm.row hj
              unfold bstrO at hbb
              change List (IK .u8) at l
              cases hall : (l.all fun x => decide (0 ≤ x.n) && decide (x.n < 256)) with
              | false => rw [show (bif l.all (fun x => decide (0 ≤ x.n) && decide (x.n < 256)) then some (strI l) else none) = none from by rw [hall]; rfl] at hbb; cases hbb
              | true =>
                have hbb : some (strI l) = some bb := by rw [← hbb]; show _ = (bif l.all (fun x => decide (0 ≤ x.n) && decide (x.n < 256)) then some (strI l) else none); rw [hall]; rfl
                cases hbb
                have hle : (l.map fun x => UInt8.ofNat x.n.toNat).length = (g j).n := by rw [List.length_map]; exact r1
                have hm0 : MemV F h g (AL.get ([] : Sto Ty)) w := hm.less fun i c hi => by cases hi
                have hrow : (u2 = .slice none 0 0 ∧ (l.map fun x => UInt8.ofNat x.n.toNat) = []) ∨ ∃ (gb cap : Nat) (cur : Array Value), u2 = .slice (some ⟨gb, 0, none⟩) (l.map fun x => UInt8.ofNat x.n.toNat).length cap ∧ w.heap[gb]? = some (.cells cur 5 (0, 0)) ∧ (l.map fun x => UInt8.ofNat x.n.toNat).length ≤ cap ∧ cap ≤ maxLen ∧ cur.size = cap ∧ ∀ (q : Nat) (x : UInt8), (l.map fun x => UInt8.ofNat x.n.toNat)[q]? = some x → cur[q]? = some (.int .u8 x.toNat) := by
                  rcases r2 with ⟨n1, rfl⟩ | ⟨n1, vs, sp, n2, n3, n4, n5, n6, n7⟩
                  · rw [if_pos n1] at d3
                    exact .inl ⟨d3, rfl⟩
                  · rw [if_neg (by rw [n1]; exact Bool.false_ne_true)] at d3
                    have n4' : (vs ++ sp).length = (g j).c * 1 := n4
                    refine .inr ⟨(g j).b, (g j).c, (vs ++ sp).toArray, by rw [hle]; exact d3, n2, by rw [hle]; exact n5, n6, by simpa using n4', fun q x hq => ?_⟩
                    rw [List.getElem?_map] at hq
                    obtain ⟨y, hy, rfl⟩ := Option.map_eq_some_iff.1 hq
                    have hyr : 0 ≤ y.n ∧ y.n < 256 := by simpa using List.all_eq_true.1 hall y (List.mem_of_getElem? hy)
                    have hvs : ∀ (l : List (IK .u8)) (vs : List Value), Cells h l vs → vs = l.map fun x => .int .u8 x.n := by
                      intro l
                      induction l with
                      | nil => intro vs hc; exact hc
                      | cons z r ih =>
                        intro vs hc
                        obtain ⟨c1, c2, rfl, e1, e2⟩ := hc
                        have e1 : c1 = [.int .u8 z.n] := e1
                        rw [e1, ih _ e2]; rfl
                    have hvs := hvs l vs n3
                    have hlt : q < vs.length := by rw [hvs, List.length_map]; exact (List.getElem?_eq_some_iff.1 hy).1
                    rw [List.getElem?_toArray, List.getElem?_append_left hlt, hvs, List.getElem?_map, hy]
                    show some (Value.int .u8 y.n) = some (.int .u8 _)
                    rw [UInt8.toNat_ofNat', Nat.mod_eq_of_lt (by omega), Int.toNat_of_nonneg hyr.1]
                refine .of rfl ((bstr_calls (g i).b T u1 u2 _ w b1 hrow).mono ?_)
                rintro en w' ⟨rfl, hw⟩
                have hmw : MemV F h g (AL.get ([] : Sto Ty)) w' := by
                  rcases hw with hw | ⟨gb, n1, c1, e1, hw⟩
                  · exact hm0.grow hw
                  · obtain ⟨rfl⟩ : gb = (g j).b := by
                      cases hnl : (g j).nl with
                      | true => rw [if_pos hnl, e1] at d3; cases d3
                      | false => rw [if_neg (by rw [hnl]; exact Bool.false_ne_true), e1] at d3; cases d3; rfl
                    have hnl : (g j).nl = false := by
                      cases hnl : (g j).nl with
                      | true => rw [if_pos hnl, e1] at d3; cases d3
                      | false => rfl
                    obtain ⟨o1, o2, o3, o4⟩ := hm.own j _ hj hnl
                    exact hm0.setFree hw o1 o3 o4 fun q d hq => by cases hq
                exact ⟨h, g, .string (strI l), Heap.le_refl _, fun _ _ => rfl, hmw, (show InS k (AL.get ([] : Sto Ty)) from fun q d hq => by cases hq), Nat.le_refl _, rfl, by unfold V.den; rfl, rfl⟩
            · cases hr
          · cases hr
      · cases hr
  · cases hr
end Go.Proofs.YtkpgggfibljflaaGreatDoor
namespace Go.Proofs.YtkpgggfibljflaaGreatDoor
open Go Go.RowKit Go.Proofs
open Rep (rep)
def concatR_l1_D : List (Nat × C) := [(0, .l 28), (3, .s 3), (9, .l 28), (10, .s 3), (11, .s 3)]
def concatR_l1_E : List Wo := [⟨.exit 0, [], [(0, .l 28), (3, .s 3)], []⟩]
def concatR_l2_D : List (Nat × C) := [(6, .o 93), (25, .l 28), (26, .s 3), (27, .s 3)]
def concatR_l2_E : List Wo := [⟨.exit 2, [], [(6, .o 93)], []⟩]
def concatR_D : List (Nat × C) := [(0, .l 28)]
def concatR_E : List Wo := [⟨.ret, [], [], [.o 93]⟩]
def concatR_l1 : Nat → (List (List Record)) → Int → (List (List Record)) → Int → Int → Option ((List (List Record) × Int × Unit))
  | 0, _, _, _, _, _ => none
  | n + 1, slices, size, x9, x10, x11 =>
    bif decide (x11 < x10) then ((idx x9 x11).bind fun v0 =>
    bif decide (IntKind.i64.wrap (size + (↑v0.length : Int)) < 0) then (none) else
    concatR_l1 n slices (IntKind.i64.wrap (size + (↑v0.length : Int))) x9 x10 (IntKind.i64.wrap (x11 + 1))) else
    some (slices, (size, ()))
def concatR_l1_F (n : Nat) (y : C.Ds Ty (snds concatR_l1_D)) : Option (YT Ty concatR_l1_E) := concatR_l1 n y.1 y.2.1 y.2.2.1 y.2.2.2.1 y.2.2.2.2.1
noncomputable def concatR_l1_cut (n : Nat) : St Ty → Tr (Lf Ty) := cutC concatR_l1_D 0 concatR_l1_E (concatR_l1_F n)
def concatR_l2 : Nat → (List Record) → (List (List Record)) → Int → Int → Option ((List Record × Unit))
  | 0, _, _, _, _ => none
  | n + 1, newslice, x25, x26, x27 =>
    bif decide (x27 < x26) then ((idx x25 x27).bind fun v0 =>
    (app newslice v0).bind fun v1 =>
    concatR_l2 n v1 x25 x26 (IntKind.i64.wrap (x27 + 1))) else
    some (newslice, ())
def concatR_l2_F (n : Nat) (y : C.Ds Ty (snds concatR_l2_D)) : Option (YT Ty concatR_l2_E) := concatR_l2 n y.1 y.2.1 y.2.2.1 y.2.2.2.1
noncomputable def concatR_l2_cut (n : Nat) : St Ty → Tr (Lf Ty) := cutC concatR_l2_D 0 concatR_l2_E (concatR_l2_F n)
def concatR (n : Nat) (slices : List (List Record)) : Option ((List Record × Unit)) :=
    (concatR_l1 n slices 0 slices (↑slices.length : Int) 0).bind fun v0 =>
    (bif decide (0 ≤ v0.snd.fst) && decide (v0.snd.fst ≤ 1000000000) then some () else none).bind fun v1 =>
    (concatR_l2 n [] v0.fst (↑v0.fst.length : Int) 0).bind fun v2 =>
    some (v2.fst, ())
def concatR_F (n : Nat) (y : C.Ds Ty (snds concatR_D)) : Option (YT Ty concatR_E) := concatR n y.1
noncomputable def concatR_law (n : Nat) : Law Ty := lawC concatR_D 0 concatR_E (concatR_F n)
noncomputable def concatR_T (n : Nat) : List (Nat × Law Ty) := [(187, growS_law n)]
theorem concatR_Tok (n : Nat) : LawsOk Tryz.prog (concatR_T n) := ⟨growS_lawOk n, trivial⟩
noncomputable def concatR_l1_C (n : Nat) : CutL Ty := []
theorem concatR_l1_rd (n : Nat) (x : C.Ds Ty (snds concatR_l1_D)) : (exec Tryz.prog 36 (callT Tryz.prog (concatR_T n) []) (cutsOf (concatR_l1_C n)) (bodyAt 3 Tryz.f131) (embS concatR_l1_D x)).runK (typeRd 0 concatR_l1_D concatR_l1_E (concatR_l1_F n)) = concatR_l1_F (n + 1) x := by kernel_rfl
theorem concatR_l1_ok (n : Nat) : CutOk true Tryz.prog 36 (concatR_l1_cut n) (.loop (bodyAt 3 Tryz.f131)) := cut_ok fun x y hy => can_loop (Fn := concatR_l1_F) prog_noRow prog_mix (fun n => callT_ok prog_noRow prog_mix (concatR_Tok n) insNil) (fun h => by cases h) (fun h => by cases h) (fun n => (cuts_ok (fn := Tryz.f131) (L := concatR_l1_C n) (ks := []) trivial (by kernel_rfl) (by kernel_rfl))) (by decide) (fun _ => rfl) concatR_l1_rd hy
noncomputable def concatR_l2_C (n : Nat) : CutL Ty := []
theorem concatR_l2_rd (n : Nat) (x : C.Ds Ty (snds concatR_l2_D)) : (exec Tryz.prog 36 (callT Tryz.prog (concatR_T n) []) (cutsOf (concatR_l2_C n)) (bodyAt 11 Tryz.f131) (embS concatR_l2_D x)).runK (typeRd 0 concatR_l2_D concatR_l2_E (concatR_l2_F n)) = concatR_l2_F (n + 1) x := by kernel_rfl
theorem concatR_l2_ok (n : Nat) : CutOk true Tryz.prog 36 (concatR_l2_cut n) (.loop (bodyAt 11 Tryz.f131)) := cut_ok fun x y hy => can_loop (Fn := concatR_l2_F) prog_noRow prog_mix (fun n => callT_ok prog_noRow prog_mix (concatR_Tok n) insNil) (fun h => by cases h) (fun h => by cases h) (fun n => (cuts_ok (fn := Tryz.f131) (L := concatR_l2_C n) (ks := []) trivial (by kernel_rfl) (by kernel_rfl))) (by decide) (fun _ => rfl) concatR_l2_rd hy
noncomputable def concatR_C (n : Nat) : CutL Ty := [(.loop 3, concatR_l1_cut n), (.loop 11, concatR_l2_cut n)]
theorem concatR_rd (n : Nat) (x : C.Ds Ty (snds concatR_D)) : (exec Tryz.prog 36 (callT Tryz.prog (concatR_T n) []) (cutsOf (concatR_C n)) (codeOf Tryz.f131) (embS concatR_D x)).runK (typeRt Tryz.prog Tryz.f131.results.toList 0 concatR_E) = concatR_F n x := by kernel_rfl
theorem concatR_lawOk (n : Nat) : LawOk Tryz.prog 131 (concatR_law n) := law_ok Tryz.func131 rfl rfl (by decide) rfl prog_noRow prog_mix (callT_ok prog_noRow prog_mix (concatR_Tok n) insNil) (cuts_ok (fn := Tryz.f131) (L := concatR_C n) (ks := [.loop 3, .loop 11]) ⟨concatR_l1_ok n, ⟨concatR_l2_ok n, trivial⟩⟩ (by kernel_rfl) (by kernel_rfl)) (concatR_rd n)
def fgarage_ask_D : List (Nat × C) := [(0, .s 4), (1, .s 3)]
def fgarage_ask_E : List Wo := [⟨.ret, [], [], []⟩, ⟨.pan, [], [], [.i 234 (.g 234)]⟩]
def fgarage_ask (n : Nat) (is : Bool) (e : Int) : Option (Unit ⊕ ((Refused × Unit))) :=
    bif !is then (some (.inr (Refused.mk e, ()))) else
    some (.inl ())
def fgarage_ask_F (n : Nat) (y : C.Ds Ty (snds fgarage_ask_D)) : Option (YT Ty fgarage_ask_E) := fgarage_ask n y.1 y.2.1
noncomputable def fgarage_ask_law (n : Nat) : Law Ty := lawC fgarage_ask_D 0 fgarage_ask_E (fgarage_ask_F n)
noncomputable def fgarage_ask_T (n : Nat) : List (Nat × Law Ty) := []
theorem fgarage_ask_Tok (n : Nat) : LawsOk Tryz.prog (fgarage_ask_T n) := trivial
noncomputable def fgarage_ask_C (n : Nat) : CutL Ty := []
theorem fgarage_ask_rd (n : Nat) (x : C.Ds Ty (snds fgarage_ask_D)) : (exec Tryz.prog 9 (callT Tryz.prog (fgarage_ask_T n) []) (cutsOf (fgarage_ask_C n)) (codeOf Tryz.f139) (embS fgarage_ask_D x)).runK (typeRt Tryz.prog Tryz.f139.results.toList 0 fgarage_ask_E) = fgarage_ask_F n x := by kernel_rfl
theorem fgarage_ask_lawOk (n : Nat) : LawOk Tryz.prog 139 (fgarage_ask_law n) := law_ok Tryz.func139 rfl rfl (by decide) rfl prog_noRow prog_mix (callT_ok prog_noRow prog_mix (fgarage_ask_Tok n) insNil) (cuts_ok (fn := Tryz.f139) (L := fgarage_ask_C n) (ks := []) trivial (by kernel_rfl) (by kernel_rfl)) (fgarage_ask_rd n)
def fgarage_with_Card_D : List (Nat × C) := [(0, .l 180), (1, .g 180)]
def fgarage_with_Card_E : List Wo := [⟨.ret, [], [], [.l 180]⟩]
def fgarage_with_Card (n : Nat) (l : List Card) (x : Card) : Option ((List Card × Unit)) :=
    (clone180 n l).bind fun v0 =>
    (app v0.fst [x]).bind fun v1 =>
    some (v1, ())
def fgarage_with_Card_F (n : Nat) (y : C.Ds Ty (snds fgarage_with_Card_D)) : Option (YT Ty fgarage_with_Card_E) := fgarage_with_Card n y.1 y.2.1
noncomputable def fgarage_with_Card_law (n : Nat) : Law Ty := lawC fgarage_with_Card_D 0 fgarage_with_Card_E (fgarage_with_Card_F n)
noncomputable def fgarage_with_Card_T (n : Nat) : List (Nat × Law Ty) := [(340, clone180_law n)]
theorem fgarage_with_Card_Tok (n : Nat) : LawsOk Tryz.prog (fgarage_with_Card_T n) := ⟨clone180_lawOk n, trivial⟩
noncomputable def fgarage_with_Card_C (n : Nat) : CutL Ty := []
theorem fgarage_with_Card_rd (n : Nat) (x : C.Ds Ty (snds fgarage_with_Card_D)) : (exec Tryz.prog 10 (callT Tryz.prog (fgarage_with_Card_T n) []) (cutsOf (fgarage_with_Card_C n)) (codeOf Tryz.f308) (embS fgarage_with_Card_D x)).runK (typeRt Tryz.prog Tryz.f308.results.toList 0 fgarage_with_Card_E) = fgarage_with_Card_F n x := by kernel_rfl
theorem fgarage_with_Card_lawOk (n : Nat) : LawOk Tryz.prog 308 (fgarage_with_Card_law n) := law_ok Tryz.func308 rfl rfl (by decide) rfl prog_noRow prog_mix (callT_ok prog_noRow prog_mix (fgarage_with_Card_Tok n) insNil) (cuts_ok (fn := Tryz.f308) (L := fgarage_with_Card_C n) (ks := []) trivial (by kernel_rfl) (by kernel_rfl)) (fgarage_with_Card_rd n)
def fpit_Card_valid_D : List (Nat × C) := [(0, .g 180)]
def fpit_Card_valid_E : List Wo := [⟨.ret, [], [], [.s 4]⟩]
def fpit_Card_valid (n : Nat) (c : Card) : Option ((Bool × Unit)) :=
    bif decide (0 ≤ c.bus) then (bif decide (c.bus ≤ 99) then (bif decide (1 ≤ c.number) then (bif decide (c.number ≤ 999) then (bif decide (0 ≤ c.minute) then (bif decide (c.minute ≤ 1000000) then (bif decide (IntKind.i64.wrap c.kind.n < (↑[Kind.mk (Fp.mk (↑212 : Int)), Kind.mk (Fp.mk (↑212 : Int)), Kind.mk (Fp.mk (↑213 : Int)), Kind.mk (Fp.mk (↑214 : Int))].length : Int)) then ((idx [Kind.mk (Fp.mk (↑212 : Int)), Kind.mk (Fp.mk (↑212 : Int)), Kind.mk (Fp.mk (↑213 : Int)), Kind.mk (Fp.mk (↑214 : Int))] c.kind.n).bind fun v0 =>
    ([Kind.mk (Fp.mk (↑212 : Int)), Kind.mk (Fp.mk (↑212 : Int)), Kind.mk (Fp.mk (↑213 : Int)), Kind.mk (Fp.mk (↑214 : Int))].get?Internal c.kind.n.toNat).bind fun v1 =>
    bif decide (v1.right.f = (↑212 : Int)) then (bif decide (0 ≤ c.part) then (bif decide (c.part ≤ 15) then (some (decide (c.sg = 0), ())) else
    some (false, ())) else
    some (false, ())) else
    bif decide (v1.right.f = (↑213 : Int)) then (bif decide (c.part = 0) then (bif decide (1 ≤ c.sg) then (some (decide (c.sg ≤ 999), ())) else
    some (false, ())) else
    some (false, ())) else
    bif decide (v1.right.f = (↑214 : Int)) then (bif decide (c.part = 0) then (some (decide (c.sg = 0), ())) else
    some (false, ())) else
    none) else
    some (false, ())) else
    some (false, ())) else
    some (false, ())) else
    some (false, ())) else
    some (false, ())) else
    some (false, ())) else
    some (false, ())
def fpit_Card_valid_F (n : Nat) (y : C.Ds Ty (snds fpit_Card_valid_D)) : Option (YT Ty fpit_Card_valid_E) := fpit_Card_valid n y.1
noncomputable def fpit_Card_valid_law (n : Nat) : Law Ty := lawC fpit_Card_valid_D 0 fpit_Card_valid_E (fpit_Card_valid_F n)
noncomputable def fpit_Card_valid_T (n : Nat) : List (Nat × Law Ty) := []
theorem fpit_Card_valid_Tok (n : Nat) : LawsOk Tryz.prog (fpit_Card_valid_T n) := trivial
noncomputable def fpit_Card_valid_C (n : Nat) : CutL Ty := []
theorem fpit_Card_valid_rd (n : Nat) (x : C.Ds Ty (snds fpit_Card_valid_D)) : (exec Tryz.prog 34 (callT Tryz.prog (fpit_Card_valid_T n) []) (cutsOf (fpit_Card_valid_C n)) (codeOf Tryz.f106) (embS fpit_Card_valid_D x)).runK (typeRt Tryz.prog Tryz.f106.results.toList 0 fpit_Card_valid_E) = fpit_Card_valid_F n x := by kernel_rfl
theorem fpit_Card_valid_lawOk (n : Nat) : LawOk Tryz.prog 106 (fpit_Card_valid_law n) := law_ok Tryz.func106 rfl rfl (by decide) rfl prog_noRow prog_mix (callT_ok prog_noRow prog_mix (fpit_Card_valid_Tok n) insNil) (cuts_ok (fn := Tryz.f106) (L := fpit_Card_valid_C n) (ks := []) trivial (by kernel_rfl) (by kernel_rfl)) (fpit_Card_valid_rd n)
def fpit_read_i2_D : List (Nat × C) := [(0, .l 180), (1, .f 158 [] [.p 0 [.f 106 [] []]]), (7, .s 3), (8, .s 3)]
def fpit_read_i2_E : List Wo := [⟨.exit 0, [.p 0 [.f 106 [] []]], [], []⟩, ⟨.ret, [.p 0 [.f 106 [] []]], [(4, .s 3)], []⟩]
def fpit_read_l1_D : List (Nat × C) := [(4, .p 0 [.m 3 180, .o 3]), (20, .l 180), (21, .s 3), (22, .s 3)]
def fpit_read_l1_E : List Wo := [⟨.exit 1, [.p 0 [.m 3 180, .o 3], .q 1], [(4, .q 0)], []⟩, ⟨.ret, [.p 0 [.m 3 180, .o 3], .q 1], [(2, .z), (3, .s 3)], []⟩]
def fpit_read_D : List (Nat × C) := [(0, .l 180)]
def fpit_read_E : List Wo := [⟨.ret, [], [], [.z, .s 3]⟩, ⟨.ret, [], [], [.p 0 [.m 3 180, .l 3], .s 3]⟩]
def fpit_read_i2 : Nat → (List Card) → Int → Int → Option ((((Unit × Unit) × Unit) × Unit) ⊕ ((((Unit × Unit) × Unit) × Int × Unit)))
  | 0, _, _, _ => none
  | n + 1, s, x7, x8 =>
    bif decide (x8 < x7) then ((idx s x8).bind fun v0 =>
    (fpit_Card_valid n v0).bind fun v1 =>
    bif !v1.fst then (some (.inr ((((), ()), ()), (x8, ())))) else
    fpit_read_i2 n s x7 (IntKind.i64.wrap (x8 + 1))) else
    some (.inl ((((), ()), ()), ()))
def fpit_read_i2_F (n : Nat) (y : C.Ds Ty (snds fpit_read_i2_D)) : Option (YT Ty fpit_read_i2_E) := fpit_read_i2 n y.1 y.2.2.1 y.2.2.2.1
noncomputable def fpit_read_i2_cut (n : Nat) : St Ty → Tr (Lf Ty) := cutC fpit_read_i2_D 1 fpit_read_i2_E (fpit_read_i2_F n)
def fpit_read_l1 : Nat → (List (Int × Card)) → (List Int) → (List Card) → Int → Int → Option ((((List (Int × Card)) × List Int × Unit) × Unit × Unit × Unit) ⊕ ((((List (Int × Card)) × List Int × Unit) × Unit × Unit × Int × Unit)))
  | 0, _, _, _, _, _ => none
  | n + 1, b1, b2, x20, x21, x22 =>
    bif decide (x22 < x21) then ((idx x20 x22).bind fun v0 =>
    bif mhas keq3 b1 v0.number then (bif !(decide ((mgetD keq3 b1 v0.number (Card.mk 0 0 0 (IK.mk 0) 0 0)).bus = v0.bus) && (decide ((mgetD keq3 b1 v0.number (Card.mk 0 0 0 (IK.mk 0) 0 0)).number = v0.number) && (decide ((mgetD keq3 b1 v0.number (Card.mk 0 0 0 (IK.mk 0) 0 0)).minute = v0.minute) && (decide ((mgetD keq3 b1 v0.number (Card.mk 0 0 0 (IK.mk 0) 0 0)).kind.n = v0.kind.n) && (decide ((mgetD keq3 b1 v0.number (Card.mk 0 0 0 (IK.mk 0) 0 0)).part = v0.part) && (decide ((mgetD keq3 b1 v0.number (Card.mk 0 0 0 (IK.mk 0) 0 0)).sg = v0.sg) && true)))))) then (some (.inr ((b1, (b2, ())), ((), ((), (6, ())))))) else
    bif !mhas keq3 b1 v0.number then ((app b2 [v0.number]).bind fun v1 =>
    fpit_read_l1 n (mput keq3 b1 v0.number v0) v1 x20 x21 (IntKind.i64.wrap (x22 + 1))) else
    fpit_read_l1 n b1 b2 x20 x21 (IntKind.i64.wrap (x22 + 1))) else
    bif !mhas keq3 b1 v0.number then ((app b2 [v0.number]).bind fun v1 =>
    fpit_read_l1 n (mput keq3 b1 v0.number v0) v1 x20 x21 (IntKind.i64.wrap (x22 + 1))) else
    fpit_read_l1 n b1 b2 x20 x21 (IntKind.i64.wrap (x22 + 1))) else
    some (.inl ((b1, (b2, ())), ((), ((), ()))))
def fpit_read_l1_F (n : Nat) (y : C.Ds Ty (snds fpit_read_l1_D)) : Option (YT Ty fpit_read_l1_E) := fpit_read_l1 n y.1.1 y.1.2.1 y.2.1 y.2.2.1 y.2.2.2.1
noncomputable def fpit_read_l1_cut (n : Nat) : St Ty → Tr (Lf Ty) := cutC fpit_read_l1_D 2 fpit_read_l1_E (fpit_read_l1_F n)
def fpit_read (n : Nat) (l : List Card) : Option ((Unit × Int × Unit) ⊕ ((((List (Int × Card)) × List Int × Unit) × Int × Unit))) :=
    bif decide ((↑l.length : Int) > 40) then (some (.inl ((), (3, ())))) else
    (fpit_read_i2 n l (↑l.length : Int) 0).bind fun v0 =>
    Sum.elim (fun v1 => (fpit_read_l1 n [] [] l (↑l.length : Int) 0).bind fun v2 =>
    Sum.elim (fun v3 => (srtI v3.fst.snd.fst).bind fun v4 =>
    some (.inr ((v3.fst.fst, (v4, ())), (0, ())))) (fun v3 => some (.inl ((), (v3.snd.snd.snd.fst, ())))) (v2)) (fun v1 => bif !!decide (v1.snd.fst ≥ 0) then (some (.inl ((), (1, ())))) else
    (fpit_read_l1 n [] [] l (↑l.length : Int) 0).bind fun v2 =>
    Sum.elim (fun v3 => (srtI v3.fst.snd.fst).bind fun v4 =>
    some (.inr ((v3.fst.fst, (v4, ())), (0, ())))) (fun v3 => some (.inl ((), (v3.snd.snd.snd.fst, ())))) (v2)) (v0)
def fpit_read_F (n : Nat) (y : C.Ds Ty (snds fpit_read_D)) : Option (YT Ty fpit_read_E) := fpit_read n y.1
noncomputable def fpit_read_law (n : Nat) : Law Ty := lawC fpit_read_D 0 fpit_read_E (fpit_read_F n)
noncomputable def fpit_read_T (n : Nat) : List (Nat × Law Ty) := [(106, fpit_Card_valid_law n), (108, sortI_law n)]
theorem fpit_read_Tok (n : Nat) : LawsOk Tryz.prog (fpit_read_T n) := ⟨fpit_Card_valid_lawOk n, ⟨sortI_lawOk n, trivial⟩⟩
noncomputable def fpit_read_i2_C (n : Nat) : CutL Ty := []
theorem fpit_read_i2_rd (n : Nat) (x : C.Ds Ty (snds fpit_read_i2_D)) : (exec Tryz.prog 19 (callT Tryz.prog (fpit_read_T n) []) (cutsOf (fpit_read_i2_C n)) (bodyAt 2 Tryz.f210) (embS fpit_read_i2_D x)).runK (typeRd 1 fpit_read_i2_D fpit_read_i2_E (fpit_read_i2_F n)) = fpit_read_i2_F (n + 1) x := by kernel_rfl
theorem fpit_read_i2_ok (n : Nat) : CutOk true Tryz.prog 19 (fpit_read_i2_cut n) (.loop (bodyAt 2 Tryz.f210)) := cut_ok fun x y hy => can_loop (Fn := fpit_read_i2_F) prog_noRow prog_mix (fun n => callT_ok prog_noRow prog_mix (fpit_read_Tok n) insNil) (fun h => by cases h) (fun h => by cases h) (fun n => (cuts_ok (fn := Tryz.f210) (L := fpit_read_i2_C n) (ks := []) trivial (by kernel_rfl) (by kernel_rfl))) (by decide) (fun _ => rfl) fpit_read_i2_rd hy
noncomputable def fpit_read_J1 (n : Nat) : InsL Ty := [(210, [(.loop 2, fpit_read_i2_cut n)])]
theorem fpit_read_J1ok (n : Nat) : InsOk Tryz.prog (fpit_read_J1 n) := ⟨ins_one (f := 210) Tryz.func210 rfl (cuts_ok (fn := Tryz.f210) (L := [(.loop 2, fpit_read_i2_cut n)]) (ks := [.loop 2]) ⟨fpit_read_i2_ok n, trivial⟩ (by kernel_rfl) (by kernel_rfl)), trivial⟩
noncomputable def fpit_read_l1_C (n : Nat) : CutL Ty := []
theorem fpit_read_l1_rd (n : Nat) (x : C.Ds Ty (snds fpit_read_l1_D)) : (exec Tryz.prog 69 (callT Tryz.prog (fpit_read_T n) (fpit_read_J1 n)) (cutsOf (fpit_read_l1_C n)) (bodyAt 7 Tryz.f66) (embS fpit_read_l1_D x)).runK (typeRd 2 fpit_read_l1_D fpit_read_l1_E (fpit_read_l1_F n)) = fpit_read_l1_F (n + 1) x := by kernel_rfl
theorem fpit_read_l1_ok (n : Nat) : CutOk true Tryz.prog 69 (fpit_read_l1_cut n) (.loop (bodyAt 7 Tryz.f66)) := cut_ok fun x y hy => can_loop (Fn := fpit_read_l1_F) prog_noRow prog_mix (fun n => callT_ok prog_noRow prog_mix (fpit_read_Tok n) (fpit_read_J1ok n)) (fun h => by cases h) (fun h => by cases h) (fun n => (cuts_ok (fn := Tryz.f66) (L := fpit_read_l1_C n) (ks := []) trivial (by kernel_rfl) (by kernel_rfl))) (by decide) (fun _ => rfl) fpit_read_l1_rd hy
noncomputable def fpit_read_C (n : Nat) : CutL Ty := [(.loop 7, fpit_read_l1_cut n)]
theorem fpit_read_rd (n : Nat) (x : C.Ds Ty (snds fpit_read_D)) : (exec Tryz.prog 69 (callT Tryz.prog (fpit_read_T n) (fpit_read_J1 n)) (cutsOf (fpit_read_C n)) (codeOf Tryz.f66) (embS fpit_read_D x)).runK (typeRt Tryz.prog Tryz.f66.results.toList 0 fpit_read_E) = fpit_read_F n x := by kernel_rfl
theorem fpit_read_lawOk (n : Nat) : LawOk Tryz.prog 66 (fpit_read_law n) := law_ok Tryz.func66 rfl rfl (by decide) rfl prog_noRow prog_mix (callT_ok prog_noRow prog_mix (fpit_read_Tok n) (fpit_read_J1ok n)) (cuts_ok (fn := Tryz.f66) (L := fpit_read_C n) (ks := [.loop 7]) ⟨fpit_read_l1_ok n, trivial⟩ (by kernel_rfl) (by kernel_rfl)) (fpit_read_rd n)
def fpit_CheckCards_D : List (Nat × C) := [(0, .l 180)]
def fpit_CheckCards_E : List Wo := [⟨.ret, [], [], [.s 3]⟩]
def fpit_CheckCards (n : Nat) (l : List Card) : Option ((Int × Unit)) :=
    (fpit_read n l).bind fun v0 =>
    Sum.elim (fun v1 => some (v1.snd.fst, ())) (fun v1 => some (v1.snd.fst, ())) (v0)
def fpit_CheckCards_F (n : Nat) (y : C.Ds Ty (snds fpit_CheckCards_D)) : Option (YT Ty fpit_CheckCards_E) := fpit_CheckCards n y.1
noncomputable def fpit_CheckCards_law (n : Nat) : Law Ty := readC (lawC fpit_CheckCards_D 0 fpit_CheckCards_E (fpit_CheckCards_F n))
noncomputable def fpit_CheckCards_T (n : Nat) : List (Nat × Law Ty) := [(66, fpit_read_law n)]
theorem fpit_CheckCards_Tok (n : Nat) : LawsOk Tryz.prog (fpit_CheckCards_T n) := ⟨fpit_read_lawOk n, trivial⟩
noncomputable def fpit_CheckCards_C (n : Nat) : CutL Ty := []
theorem fpit_CheckCards_rd (n : Nat) (x : C.Ds Ty (snds fpit_CheckCards_D)) : (exec Tryz.prog 11 (callT Tryz.prog (fpit_CheckCards_T n) []) (cutsOf (fpit_CheckCards_C n)) (codeOf Tryz.f309) (embS fpit_CheckCards_D x)).runK (typeRt Tryz.prog Tryz.f309.results.toList 0 fpit_CheckCards_E) = fpit_CheckCards_F n x := by kernel_rfl
theorem fpit_CheckCards_lawOk (n : Nat) : LawOk Tryz.prog 309 (fpit_CheckCards_law n) := readC_ok (law_ok Tryz.func309 rfl rfl (by decide) rfl prog_noRow prog_mix (callT_ok prog_noRow prog_mix (fpit_CheckCards_Tok n) insNil) (cuts_ok (fn := Tryz.f309) (L := fpit_CheckCards_C n) (ks := []) trivial (by kernel_rfl) (by kernel_rfl)) (fpit_CheckCards_rd n))
def fgarage_must_D : List (Nat × C) := [(0, .s 3)]
def fgarage_must_E : List Wo := [⟨.ret, [], [], []⟩, ⟨.pan, [], [], [.i 234 (.g 234)]⟩]
def fgarage_must (n : Nat) (e : Int) : Option (Unit ⊕ ((Refused × Unit))) :=
    (fgarage_ask n (decide (e = 0)) e).bind fun v0 =>
    Sum.elim (fun v1 => some (.inl ())) (fun v1 => some (.inr (v1.fst, ()))) (v0)
def fgarage_must_F (n : Nat) (y : C.Ds Ty (snds fgarage_must_D)) : Option (YT Ty fgarage_must_E) := fgarage_must n y.1
noncomputable def fgarage_must_law (n : Nat) : Law Ty := lawC fgarage_must_D 0 fgarage_must_E (fgarage_must_F n)
noncomputable def fgarage_must_T (n : Nat) : List (Nat × Law Ty) := [(139, fgarage_ask_law n)]
theorem fgarage_must_Tok (n : Nat) : LawsOk Tryz.prog (fgarage_must_T n) := ⟨fgarage_ask_lawOk n, trivial⟩
noncomputable def fgarage_must_C (n : Nat) : CutL Ty := []
theorem fgarage_must_rd (n : Nat) (x : C.Ds Ty (snds fgarage_must_D)) : (exec Tryz.prog 6 (callT Tryz.prog (fgarage_must_T n) []) (cutsOf (fgarage_must_C n)) (codeOf Tryz.f259) (embS fgarage_must_D x)).runK (typeRt Tryz.prog Tryz.f259.results.toList 0 fgarage_must_E) = fgarage_must_F n x := by kernel_rfl
theorem fgarage_must_lawOk (n : Nat) : LawOk Tryz.prog 259 (fgarage_must_law n) := law_ok Tryz.func259 rfl rfl (by decide) rfl prog_noRow prog_mix (callT_ok prog_noRow prog_mix (fgarage_must_Tok n) insNil) (cuts_ok (fn := Tryz.f259) (L := fgarage_must_C n) (ks := []) trivial (by kernel_rfl) (by kernel_rfl)) (fgarage_must_rd n)
def fgarage_session_card_l1_D : List (Nat × C) := [(0, .u 114), (3, .u 180), (11, .l 180), (12, .s 3), (13, .s 3)]
def fgarage_session_card_l1_E : List Wo := [⟨.exit 0, [.u 114, .u 180], [(0, .q 0), (3, .q 1)], []⟩, ⟨.pan, [.u 114, .u 180], [], [.i 234 (.g 234)]⟩]
def fgarage_session_card_D : List (Nat × C) := [(0, .u 114), (1, .g 180)]
def fgarage_session_card_E : List Wo := [⟨.ret, [.u 114], [], []⟩, ⟨.pan, [.u 114], [], [.i 234 (.g 234)]⟩]
def fgarage_session_card_l1 : Nat → Session → Card → (List Card) → Int → Int → Option ((Session × Card × Unit × Unit × Unit) ⊕ ((Session × Card × Refused × Unit)))
  | 0, _, _, _, _, _ => none
  | n + 1, g, c, x11, x12, x13 =>
    bif decide (x13 < x12) then ((idx x11 x13).bind fun v0 =>
    (fgarage_ask n (!(decide (v0.bus = c.bus) && (decide (v0.number = c.number) && (decide (v0.minute = c.minute) && (decide (v0.kind.n = c.kind.n) && (decide (v0.part = c.part) && (decide (v0.sg = c.sg) && true))))))) 6).bind fun v1 =>
    Sum.elim (fun v2 => fgarage_session_card_l1 n g c x11 x12 (IntKind.i64.wrap (x13 + 1))) (fun v2 => some (.inr (g, (c, (v2.fst, ()))))) (v1)) else
    some (.inl (g, (c, ((), ((), ())))))
def fgarage_session_card_l1_F (n : Nat) (y : C.Ds Ty (snds fgarage_session_card_l1_D)) : Option (YT Ty fgarage_session_card_l1_E) := fgarage_session_card_l1 n y.1 y.2.1 y.2.2.1 y.2.2.2.1 y.2.2.2.2.1
noncomputable def fgarage_session_card_l1_cut (n : Nat) : St Ty → Tr (Lf Ty) := cutC fgarage_session_card_l1_D 2 fgarage_session_card_l1_E (fgarage_session_card_l1_F n)
def fgarage_session_card (n : Nat) (g : Session) (c : Card) : Option ((Session × Unit) ⊕ ((Session × Refused × Unit))) :=
    (fgarage_session_card_l1 n g c g.state.cards (↑g.state.cards.length : Int) 0).bind fun v0 =>
    Sum.elim (fun v1 => (fgarage_with_Card n v1.fst.state.cards v1.snd.fst).bind fun v2 =>
    (fpit_CheckCards n v2.fst).bind fun v3 =>
    (fgarage_must n v3.fst).bind fun v4 =>
    Sum.elim (fun v5 => some (.inl (Session.mk (State.mk v2.fst v1.fst.state.outs v1.fst.state.runs v1.fst.state.records v1.fst.state.week v1.fst.state.roster), ()))) (fun v5 => some (.inr (v1.fst, (v5.fst, ())))) (v4)) (fun v1 => some (.inr (v1.fst, (v1.snd.snd.fst, ())))) (v0)
def fgarage_session_card_F (n : Nat) (y : C.Ds Ty (snds fgarage_session_card_D)) : Option (YT Ty fgarage_session_card_E) := fgarage_session_card n y.1 y.2.1
noncomputable def fgarage_session_card_law (n : Nat) : Law Ty := lawC fgarage_session_card_D 1 fgarage_session_card_E (fgarage_session_card_F n)
noncomputable def fgarage_session_card_T (n : Nat) : List (Nat × Law Ty) := [(139, fgarage_ask_law n), (308, fgarage_with_Card_law n), (309, fpit_CheckCards_law n), (259, fgarage_must_law n)]
theorem fgarage_session_card_Tok (n : Nat) : LawsOk Tryz.prog (fgarage_session_card_T n) := ⟨fgarage_ask_lawOk n, ⟨fgarage_with_Card_lawOk n, ⟨fpit_CheckCards_lawOk n, ⟨fgarage_must_lawOk n, trivial⟩⟩⟩⟩
noncomputable def fgarage_session_card_l1_C (n : Nat) : CutL Ty := []
theorem fgarage_session_card_l1_rd (n : Nat) (x : C.Ds Ty (snds fgarage_session_card_l1_D)) : (exec Tryz.prog 37 (callT Tryz.prog (fgarage_session_card_T n) []) (cutsOf (fgarage_session_card_l1_C n)) (bodyAt 2 Tryz.f258) (embS fgarage_session_card_l1_D x)).runK (typeRd 2 fgarage_session_card_l1_D fgarage_session_card_l1_E (fgarage_session_card_l1_F n)) = fgarage_session_card_l1_F (n + 1) x := by kernel_rfl
theorem fgarage_session_card_l1_ok (n : Nat) : CutOk true Tryz.prog 37 (fgarage_session_card_l1_cut n) (.loop (bodyAt 2 Tryz.f258)) := cut_ok fun x y hy => can_loop (Fn := fgarage_session_card_l1_F) prog_noRow prog_mix (fun n => callT_ok prog_noRow prog_mix (fgarage_session_card_Tok n) insNil) (fun h => by cases h) (fun h => by cases h) (fun n => (cuts_ok (fn := Tryz.f258) (L := fgarage_session_card_l1_C n) (ks := []) trivial (by kernel_rfl) (by kernel_rfl))) (by decide) (fun _ => rfl) fgarage_session_card_l1_rd hy
noncomputable def fgarage_session_card_C (n : Nat) : CutL Ty := [(.loop 2, fgarage_session_card_l1_cut n)]
theorem fgarage_session_card_rd (n : Nat) (x : C.Ds Ty (snds fgarage_session_card_D)) : (exec Tryz.prog 37 (callT Tryz.prog (fgarage_session_card_T n) []) (cutsOf (fgarage_session_card_C n)) (codeOf Tryz.f258) (embS fgarage_session_card_D x)).runK (typeRt Tryz.prog Tryz.f258.results.toList 1 fgarage_session_card_E) = fgarage_session_card_F n x := by kernel_rfl
theorem fgarage_session_card_lawOk (n : Nat) : LawOk Tryz.prog 258 (fgarage_session_card_law n) := law_ok Tryz.func258 rfl rfl (by decide) rfl prog_noRow prog_mix (callT_ok prog_noRow prog_mix (fgarage_session_card_Tok n) insNil) (cuts_ok (fn := Tryz.f258) (L := fgarage_session_card_C n) (ks := [.loop 2]) ⟨fgarage_session_card_l1_ok n, trivial⟩ (by kernel_rfl) (by kernel_rfl)) (fgarage_session_card_rd n)
def fgarage_session_found_D : List (Nat × C) := [(0, .u 114), (1, .v 3)]
def fgarage_session_found_E : List Wo := [⟨.ret, [.u 114], [], []⟩, ⟨.pan, [.u 114], [], [.i 234 (.g 234)]⟩]
def fgarage_session_found (n : Nat) (g : Session) (n_ : List Int) : Option ((Session × Unit) ⊕ ((Session × Refused × Unit))) :=
    bif n_.length.beq 5 then ((idx n_ 0).bind fun v0 =>
    (n_.get?Internal (Int.toNat 0)).bind fun v1 =>
    bif n_.length.beq 5 then ((idx n_ 1).bind fun v2 =>
    (n_.get?Internal (Int.toNat 1)).bind fun v3 =>
    bif n_.length.beq 5 then ((idx n_ 2).bind fun v4 =>
    (n_.get?Internal (Int.toNat 2)).bind fun v5 =>
    bif n_.length.beq 5 then ((idx n_ 3).bind fun v6 =>
    (n_.get?Internal (Int.toNat 3)).bind fun v7 =>
    (fgarage_session_card n g (Card.mk v1 v3 v5 (IK.mk 0) v7 0)).bind fun v8 =>
    Sum.elim (fun v9 => some (.inl (v9.fst, ()))) (fun v9 => some (.inr (v9.fst, (v9.snd.fst, ())))) (v8)) else
    none) else
    none) else
    none) else
    none
def fgarage_session_found_F (n : Nat) (y : C.Ds Ty (snds fgarage_session_found_D)) : Option (YT Ty fgarage_session_found_E) := fgarage_session_found n y.1 y.2.1
noncomputable def fgarage_session_found_law (n : Nat) : Law Ty := lawC fgarage_session_found_D 1 fgarage_session_found_E (fgarage_session_found_F n)
noncomputable def fgarage_session_found_T (n : Nat) : List (Nat × Law Ty) := [(258, fgarage_session_card_law n)]
theorem fgarage_session_found_Tok (n : Nat) : LawsOk Tryz.prog (fgarage_session_found_T n) := ⟨fgarage_session_card_lawOk n, trivial⟩
noncomputable def fgarage_session_found_C (n : Nat) : CutL Ty := []
theorem fgarage_session_found_rd (n : Nat) (x : C.Ds Ty (snds fgarage_session_found_D)) : (exec Tryz.prog 15 (callT Tryz.prog (fgarage_session_found_T n) []) (cutsOf (fgarage_session_found_C n)) (codeOf Tryz.f189) (embS fgarage_session_found_D x)).runK (typeRt Tryz.prog Tryz.f189.results.toList 1 fgarage_session_found_E) = fgarage_session_found_F n x := by kernel_rfl
theorem fgarage_session_found_lawOk (n : Nat) : LawOk Tryz.prog 189 (fgarage_session_found_law n) := law_ok Tryz.func189 rfl rfl (by decide) rfl prog_noRow prog_mix (callT_ok prog_noRow prog_mix (fgarage_session_found_Tok n) insNil) (cuts_ok (fn := Tryz.f189) (L := fgarage_session_found_C n) (ks := []) trivial (by kernel_rfl) (by kernel_rfl)) (fgarage_session_found_rd n)
def fgarage_session_held_D : List (Nat × C) := [(0, .u 114), (1, .v 3)]
def fgarage_session_held_E : List Wo := [⟨.ret, [.u 114], [], []⟩, ⟨.pan, [.u 114], [], [.i 234 (.g 234)]⟩]
def fgarage_session_held (n : Nat) (g : Session) (n_ : List Int) : Option ((Session × Unit) ⊕ ((Session × Refused × Unit))) :=
    bif n_.length.beq 5 then ((idx n_ 0).bind fun v0 =>
    (n_.get?Internal (Int.toNat 0)).bind fun v1 =>
    bif n_.length.beq 5 then ((idx n_ 1).bind fun v2 =>
    (n_.get?Internal (Int.toNat 1)).bind fun v3 =>
    bif n_.length.beq 5 then ((idx n_ 2).bind fun v4 =>
    (n_.get?Internal (Int.toNat 2)).bind fun v5 =>
    bif n_.length.beq 5 then ((idx n_ 3).bind fun v6 =>
    (n_.get?Internal (Int.toNat 3)).bind fun v7 =>
    (fgarage_session_card n g (Card.mk v1 v3 v5 (IK.mk 1) v7 0)).bind fun v8 =>
    Sum.elim (fun v9 => some (.inl (v9.fst, ()))) (fun v9 => some (.inr (v9.fst, (v9.snd.fst, ())))) (v8)) else
    none) else
    none) else
    none) else
    none
def fgarage_session_held_F (n : Nat) (y : C.Ds Ty (snds fgarage_session_held_D)) : Option (YT Ty fgarage_session_held_E) := fgarage_session_held n y.1 y.2.1
noncomputable def fgarage_session_held_law (n : Nat) : Law Ty := lawC fgarage_session_held_D 1 fgarage_session_held_E (fgarage_session_held_F n)
noncomputable def fgarage_session_held_T (n : Nat) : List (Nat × Law Ty) := [(258, fgarage_session_card_law n)]
theorem fgarage_session_held_Tok (n : Nat) : LawsOk Tryz.prog (fgarage_session_held_T n) := ⟨fgarage_session_card_lawOk n, trivial⟩
noncomputable def fgarage_session_held_C (n : Nat) : CutL Ty := []
theorem fgarage_session_held_rd (n : Nat) (x : C.Ds Ty (snds fgarage_session_held_D)) : (exec Tryz.prog 15 (callT Tryz.prog (fgarage_session_held_T n) []) (cutsOf (fgarage_session_held_C n)) (codeOf Tryz.f190) (embS fgarage_session_held_D x)).runK (typeRt Tryz.prog Tryz.f190.results.toList 1 fgarage_session_held_E) = fgarage_session_held_F n x := by kernel_rfl
theorem fgarage_session_held_lawOk (n : Nat) : LawOk Tryz.prog 190 (fgarage_session_held_law n) := law_ok Tryz.func190 rfl rfl (by decide) rfl prog_noRow prog_mix (callT_ok prog_noRow prog_mix (fgarage_session_held_Tok n) insNil) (cuts_ok (fn := Tryz.f190) (L := fgarage_session_held_C n) (ks := []) trivial (by kernel_rfl) (by kernel_rfl)) (fgarage_session_held_rd n)
def fgarage_session_signed_D : List (Nat × C) := [(0, .u 114), (1, .v 3)]
def fgarage_session_signed_E : List Wo := [⟨.ret, [.u 114], [], []⟩, ⟨.pan, [.u 114], [], [.i 234 (.g 234)]⟩]
def fgarage_session_signed (n : Nat) (g : Session) (n_ : List Int) : Option ((Session × Unit) ⊕ ((Session × Refused × Unit))) :=
    bif n_.length.beq 5 then ((idx n_ 0).bind fun v0 =>
    (n_.get?Internal (Int.toNat 0)).bind fun v1 =>
    bif n_.length.beq 5 then ((idx n_ 1).bind fun v2 =>
    (n_.get?Internal (Int.toNat 1)).bind fun v3 =>
    bif n_.length.beq 5 then ((idx n_ 2).bind fun v4 =>
    (n_.get?Internal (Int.toNat 2)).bind fun v5 =>
    bif n_.length.beq 5 then ((idx n_ 3).bind fun v6 =>
    (n_.get?Internal (Int.toNat 3)).bind fun v7 =>
    (fgarage_session_card n g (Card.mk v1 v3 v5 (IK.mk 2) 0 v7)).bind fun v8 =>
    Sum.elim (fun v9 => some (.inl (v9.fst, ()))) (fun v9 => some (.inr (v9.fst, (v9.snd.fst, ())))) (v8)) else
    none) else
    none) else
    none) else
    none
def fgarage_session_signed_F (n : Nat) (y : C.Ds Ty (snds fgarage_session_signed_D)) : Option (YT Ty fgarage_session_signed_E) := fgarage_session_signed n y.1 y.2.1
noncomputable def fgarage_session_signed_law (n : Nat) : Law Ty := lawC fgarage_session_signed_D 1 fgarage_session_signed_E (fgarage_session_signed_F n)
noncomputable def fgarage_session_signed_T (n : Nat) : List (Nat × Law Ty) := [(258, fgarage_session_card_law n)]
theorem fgarage_session_signed_Tok (n : Nat) : LawsOk Tryz.prog (fgarage_session_signed_T n) := ⟨fgarage_session_card_lawOk n, trivial⟩
noncomputable def fgarage_session_signed_C (n : Nat) : CutL Ty := []
theorem fgarage_session_signed_rd (n : Nat) (x : C.Ds Ty (snds fgarage_session_signed_D)) : (exec Tryz.prog 15 (callT Tryz.prog (fgarage_session_signed_T n) []) (cutsOf (fgarage_session_signed_C n)) (codeOf Tryz.f191) (embS fgarage_session_signed_D x)).runK (typeRt Tryz.prog Tryz.f191.results.toList 1 fgarage_session_signed_E) = fgarage_session_signed_F n x := by kernel_rfl
theorem fgarage_session_signed_lawOk (n : Nat) : LawOk Tryz.prog 191 (fgarage_session_signed_law n) := law_ok Tryz.func191 rfl rfl (by decide) rfl prog_noRow prog_mix (callT_ok prog_noRow prog_mix (fgarage_session_signed_Tok n) insNil) (cuts_ok (fn := Tryz.f191) (L := fgarage_session_signed_C n) (ks := []) trivial (by kernel_rfl) (by kernel_rfl)) (fgarage_session_signed_rd n)
def fgarage_session_checked_D : List (Nat × C) := [(0, .u 114), (1, .v 3)]
def fgarage_session_checked_E : List Wo := [⟨.ret, [.u 114], [], []⟩, ⟨.pan, [.u 114], [], [.i 234 (.g 234)]⟩]
def fgarage_session_checked (n : Nat) (g : Session) (n_ : List Int) : Option ((Session × Unit) ⊕ ((Session × Refused × Unit))) :=
    bif n_.length.beq 5 then ((idx n_ 0).bind fun v0 =>
    (n_.get?Internal (Int.toNat 0)).bind fun v1 =>
    bif n_.length.beq 5 then ((idx n_ 1).bind fun v2 =>
    (n_.get?Internal (Int.toNat 1)).bind fun v3 =>
    bif n_.length.beq 5 then ((idx n_ 2).bind fun v4 =>
    (n_.get?Internal (Int.toNat 2)).bind fun v5 =>
    (fgarage_session_card n g (Card.mk v1 v3 v5 (IK.mk 3) 0 0)).bind fun v6 =>
    Sum.elim (fun v7 => some (.inl (v7.fst, ()))) (fun v7 => some (.inr (v7.fst, (v7.snd.fst, ())))) (v6)) else
    none) else
    none) else
    none
def fgarage_session_checked_F (n : Nat) (y : C.Ds Ty (snds fgarage_session_checked_D)) : Option (YT Ty fgarage_session_checked_E) := fgarage_session_checked n y.1 y.2.1
noncomputable def fgarage_session_checked_law (n : Nat) : Law Ty := lawC fgarage_session_checked_D 1 fgarage_session_checked_E (fgarage_session_checked_F n)
noncomputable def fgarage_session_checked_T (n : Nat) : List (Nat × Law Ty) := [(258, fgarage_session_card_law n)]
theorem fgarage_session_checked_Tok (n : Nat) : LawsOk Tryz.prog (fgarage_session_checked_T n) := ⟨fgarage_session_card_lawOk n, trivial⟩
noncomputable def fgarage_session_checked_C (n : Nat) : CutL Ty := []
theorem fgarage_session_checked_rd (n : Nat) (x : C.Ds Ty (snds fgarage_session_checked_D)) : (exec Tryz.prog 13 (callT Tryz.prog (fgarage_session_checked_T n) []) (cutsOf (fgarage_session_checked_C n)) (codeOf Tryz.f192) (embS fgarage_session_checked_D x)).runK (typeRt Tryz.prog Tryz.f192.results.toList 1 fgarage_session_checked_E) = fgarage_session_checked_F n x := by kernel_rfl
theorem fgarage_session_checked_lawOk (n : Nat) : LawOk Tryz.prog 192 (fgarage_session_checked_law n) := law_ok Tryz.func192 rfl rfl (by decide) rfl prog_noRow prog_mix (callT_ok prog_noRow prog_mix (fgarage_session_checked_Tok n) insNil) (cuts_ok (fn := Tryz.f192) (L := fgarage_session_checked_C n) (ks := []) trivial (by kernel_rfl) (by kernel_rfl)) (fgarage_session_checked_rd n)
def fgarage_within_D : List (Nat × C) := [(0, .s 3), (1, .s 3), (2, .s 3)]
def fgarage_within_E : List Wo := [⟨.ret, [], [], [.s 4]⟩]
def fgarage_within (n : Nat) (n_ : Int) (low : Int) (high : Int) : Option ((Bool × Unit)) :=
    bif decide (low ≤ n_) then (some (decide (n_ ≤ high), ())) else
    some (false, ())
def fgarage_within_F (n : Nat) (y : C.Ds Ty (snds fgarage_within_D)) : Option (YT Ty fgarage_within_E) := fgarage_within n y.1 y.2.1 y.2.2.1
noncomputable def fgarage_within_law (n : Nat) : Law Ty := lawC fgarage_within_D 0 fgarage_within_E (fgarage_within_F n)
noncomputable def fgarage_within_T (n : Nat) : List (Nat × Law Ty) := []
theorem fgarage_within_Tok (n : Nat) : LawsOk Tryz.prog (fgarage_within_T n) := trivial
noncomputable def fgarage_within_C (n : Nat) : CutL Ty := []
theorem fgarage_within_rd (n : Nat) (x : C.Ds Ty (snds fgarage_within_D)) : (exec Tryz.prog 15 (callT Tryz.prog (fgarage_within_T n) []) (cutsOf (fgarage_within_C n)) (codeOf Tryz.f75) (embS fgarage_within_D x)).runK (typeRt Tryz.prog Tryz.f75.results.toList 0 fgarage_within_E) = fgarage_within_F n x := by kernel_rfl
theorem fgarage_within_lawOk (n : Nat) : LawOk Tryz.prog 75 (fgarage_within_law n) := law_ok Tryz.func75 rfl rfl (by decide) rfl prog_noRow prog_mix (callT_ok prog_noRow prog_mix (fgarage_within_Tok n) insNil) (cuts_ok (fn := Tryz.f75) (L := fgarage_within_C n) (ks := []) trivial (by kernel_rfl) (by kernel_rfl)) (fgarage_within_rd n)
def gone_l1_D : List (Nat × C) := [(1, .s 3), (5, .s 3), (12, .l 60), (13, .s 3), (14, .s 3)]
def gone_l1_E : List Wo := [⟨.exit 0, [], [(5, .s 3)], []⟩]
def gone_D : List (Nat × C) := [(0, .u 114), (1, .s 3)]
def gone_E : List Wo := [⟨.ret, [.u 114], [], [.s 3]⟩]
def gone_l1 : Nat → Int → Int → (List Out) → Int → Int → Option ((Int × Unit))
  | 0, _, _, _, _, _ => none
  | n + 1, bus, at_, x12, x13, x14 =>
    bif decide (x14 < x13) then ((idx x12 x14).bind fun v0 =>
    bif decide (v0.bus = bus) then (some (x14, ())) else
    gone_l1 n bus at_ x12 x13 (IntKind.i64.wrap (x14 + 1))) else
    some (at_, ())
def gone_l1_F (n : Nat) (y : C.Ds Ty (snds gone_l1_D)) : Option (YT Ty gone_l1_E) := gone_l1 n y.1 y.2.1 y.2.2.1 y.2.2.2.1 y.2.2.2.2.1
noncomputable def gone_l1_cut (n : Nat) : St Ty → Tr (Lf Ty) := cutC gone_l1_D 0 gone_l1_E (gone_l1_F n)
def gone (n : Nat) (g : Session) (bus : Int) : Option ((Session × Int × Unit)) :=
    (gone_l1 n bus (-1) g.state.outs (↑g.state.outs.length : Int) 0).bind fun v0 =>
    some (g, (v0.fst, ()))
def gone_F (n : Nat) (y : C.Ds Ty (snds gone_D)) : Option (YT Ty gone_E) := gone n y.1 y.2.1
noncomputable def gone_law (n : Nat) : Law Ty := lawC gone_D 1 gone_E (gone_F n)
noncomputable def gone_T (n : Nat) : List (Nat × Law Ty) := []
theorem gone_Tok (n : Nat) : LawsOk Tryz.prog (gone_T n) := trivial
noncomputable def gone_l1_C (n : Nat) : CutL Ty := []
theorem gone_l1_rd (n : Nat) (x : C.Ds Ty (snds gone_l1_D)) : (exec Tryz.prog 26 (callT Tryz.prog (gone_T n) []) (cutsOf (gone_l1_C n)) (bodyAt 3 Tryz.f94) (embS gone_l1_D x)).runK (typeRd 0 gone_l1_D gone_l1_E (gone_l1_F n)) = gone_l1_F (n + 1) x := by kernel_rfl
theorem gone_l1_ok (n : Nat) : CutOk true Tryz.prog 26 (gone_l1_cut n) (.loop (bodyAt 3 Tryz.f94)) := cut_ok fun x y hy => can_loop (Fn := gone_l1_F) prog_noRow prog_mix (fun n => callT_ok prog_noRow prog_mix (gone_Tok n) insNil) (fun h => by cases h) (fun h => by cases h) (fun n => (cuts_ok (fn := Tryz.f94) (L := gone_l1_C n) (ks := []) trivial (by kernel_rfl) (by kernel_rfl))) (by decide) (fun _ => rfl) gone_l1_rd hy
noncomputable def gone_C (n : Nat) : CutL Ty := [(.loop 3, gone_l1_cut n)]
theorem gone_rd (n : Nat) (x : C.Ds Ty (snds gone_D)) : (exec Tryz.prog 26 (callT Tryz.prog (gone_T n) []) (cutsOf (gone_C n)) (codeOf Tryz.f94) (embS gone_D x)).runK (typeRt Tryz.prog Tryz.f94.results.toList 1 gone_E) = gone_F n x := by kernel_rfl
theorem gone_lawOk (n : Nat) : LawOk Tryz.prog 94 (gone_law n) := law_ok Tryz.func94 rfl rfl (by decide) rfl prog_noRow prog_mix (callT_ok prog_noRow prog_mix (gone_Tok n) insNil) (cuts_ok (fn := Tryz.f94) (L := gone_C n) (ks := [.loop 3]) ⟨gone_l1_ok n, trivial⟩ (by kernel_rfl) (by kernel_rfl)) (gone_rd n)
def fpit_book_opens_i1_D : List (Nat × C) := [(0, .y 0 69 [5, 6, 7] [.p 0 [.s 3], .p 0 [.o 3], .p 0 [.f 109 [.p 0 [.m 3 180, .l 3]] []]]), (1, .p 0 [.q 4]), (2, .p 0 [.s 3]), (10, .l 3), (11, .s 3), (12, .s 3)]
def fpit_book_opens_i1_E : List Wo := [⟨.exit 0, [.y 0 69 [5, 6, 7] [.p 0 [.s 3], .p 0 [.o 3], .p 0 [.f 109 [.p 0 [.m 3 180, .l 3]] []]], .q 1, .q 2, .q 3, .q 4, .q 5, .p 0 [.q 4], .p 0 [.s 3]], [], []⟩, ⟨.ret, [.y 0 69 [5, 6, 7] [.p 0 [.s 3], .p 0 [.o 3], .p 0 [.f 109 [.p 0 [.m 3 180, .l 3]] []]], .q 1, .q 2, .q 3, .q 4, .q 5, .p 0 [.q 4], .p 0 [.s 3]], [], []⟩]
def fpit_book_opens_D : List (Nat × C) := [(0, .p 0 [.m 3 180, .l 3]), (1, .s 3), (2, .s 3)]
def fpit_book_opens_E : List Wo := [⟨.ret, [.p 0 [.m 3 180, .l 3], .q 1], [], [.o 3]⟩]
def fpit_book_opens_i1 : Nat → Int → (List Int) → (List (Int × Card)) → (List Int) → Int → (List Int) → Int → Int → Option ((((Int × Unit) × (List Int × Unit) × (((((List (Int × Card)) × List Int × Unit) × Unit) × Unit) × Unit) × Unit) × Unit × Unit × Unit × Unit × Unit × (Unit × Unit) × (Int × Unit) × Unit) ⊕ ((((Int × Unit) × (List Int × Unit) × (((((List (Int × Card)) × List Int × Unit) × Unit) × Unit) × Unit) × Unit) × Unit × Unit × Unit × Unit × Unit × (Unit × Unit) × (Int × Unit) × Unit)))
  | 0, _, _, _, _, _, _, _, _ => none
  | n + 1, yield1, yield2, yield3, yield4, x2, x10, x11, x12 =>
    bif decide (x12 < x11) then ((idx x10 x12).bind fun v0 =>
    bif decide ((mgetD keq3 yield3 v0 (Card.mk 0 0 0 (IK.mk 0) 0 0)).bus = x2) then (bif !decide ((mgetD keq3 yield3 v0 (Card.mk 0 0 0 (IK.mk 0) 0 0)).kind.n = 0) then (bif decide ((mgetD keq3 yield3 v0 (Card.mk 0 0 0 (IK.mk 0) 0 0)).kind.n = 1) then ((openB n yield3 yield4 (mgetD keq3 yield3 v0 (Card.mk 0 0 0 (IK.mk 0) 0 0)) yield1).bind fun v1 =>
    bif v1.snd.snd.fst then ((app yield2 [(mgetD keq3 yield3 v0 (Card.mk 0 0 0 (IK.mk 0) 0 0)).number]).bind fun v2 =>
    fpit_book_opens_i1 n yield1 v2 v1.fst.fst v1.fst.snd.fst x2 x10 x11 (IntKind.i64.wrap (x12 + 1))) else
    fpit_book_opens_i1 n yield1 yield2 v1.fst.fst v1.fst.snd.fst x2 x10 x11 (IntKind.i64.wrap (x12 + 1))) else
    fpit_book_opens_i1 n yield1 yield2 yield3 yield4 x2 x10 x11 (IntKind.i64.wrap (x12 + 1))) else
    (openB n yield3 yield4 (mgetD keq3 yield3 v0 (Card.mk 0 0 0 (IK.mk 0) 0 0)) yield1).bind fun v1 =>
    bif v1.snd.snd.fst then ((app yield2 [(mgetD keq3 yield3 v0 (Card.mk 0 0 0 (IK.mk 0) 0 0)).number]).bind fun v2 =>
    fpit_book_opens_i1 n yield1 v2 v1.fst.fst v1.fst.snd.fst x2 x10 x11 (IntKind.i64.wrap (x12 + 1))) else
    fpit_book_opens_i1 n yield1 yield2 v1.fst.fst v1.fst.snd.fst x2 x10 x11 (IntKind.i64.wrap (x12 + 1))) else
    fpit_book_opens_i1 n yield1 yield2 yield3 yield4 x2 x10 x11 (IntKind.i64.wrap (x12 + 1))) else
    some (.inl (((yield1, ()), ((yield2, ()), (((((yield3, (yield4, ())), ()), ()), ()), ()))), ((), ((), ((), ((), ((), (((), ()), ((x2, ()), ())))))))))
def fpit_book_opens_i1_F (n : Nat) (y : C.Ds Ty (snds fpit_book_opens_i1_D)) : Option (YT Ty fpit_book_opens_i1_E) := fpit_book_opens_i1 n y.1.1.1 y.1.2.1.1 y.1.2.2.1.1.1.1.1 y.1.2.2.1.1.1.1.2.1 y.2.2.1.1 y.2.2.2.1 y.2.2.2.2.1 y.2.2.2.2.2.1
noncomputable def fpit_book_opens_i1_cut (n : Nat) : St Ty → Tr (Lf Ty) := cutC fpit_book_opens_i1_D 8 fpit_book_opens_i1_E (fpit_book_opens_i1_F n)
def fpit_book_opens (n : Nat) (b1 : List (Int × Card)) (b2 : List Int) (bus : Int) (at_ : Int) : Option ((((List (Int × Card)) × List Int × Unit) × Unit × List Int × Unit)) :=
    (fpit_book_opens_i1 n at_ [] b1 b2 bus b2 (↑b2.length : Int) 0).bind fun v0 =>
    Sum.elim (fun v1 => some ((v1.fst.snd.snd.fst.fst.fst.fst.fst, (v1.fst.snd.snd.fst.fst.fst.fst.snd.fst, ())), ((), (v1.fst.snd.fst.fst, ())))) (fun v1 => some ((v1.fst.snd.snd.fst.fst.fst.fst.fst, (v1.fst.snd.snd.fst.fst.fst.fst.snd.fst, ())), ((), (v1.fst.snd.fst.fst, ())))) (v0)
def fpit_book_opens_F (n : Nat) (y : C.Ds Ty (snds fpit_book_opens_D)) : Option (YT Ty fpit_book_opens_E) := fpit_book_opens n y.1.1 y.1.2.1 y.2.1 y.2.2.1
noncomputable def fpit_book_opens_law (n : Nat) : Law Ty := lawC fpit_book_opens_D 2 fpit_book_opens_E (fpit_book_opens_F n)
noncomputable def fpit_book_opens_T (n : Nat) : List (Nat × Law Ty) := [(109, openB_law n)]
theorem fpit_book_opens_Tok (n : Nat) : LawsOk Tryz.prog (fpit_book_opens_T n) := ⟨openB_lawOk n, trivial⟩
noncomputable def fpit_book_opens_B (n : Nat) : CutL Ty := []
noncomputable def fpit_book_opens_Y (n : Nat) : List (Nat × Law Ty) := (yieldF, ybC Tryz.prog (callT Tryz.prog (fpit_book_opens_T n) []) (cutsOf []) (cutsOf (fpit_book_opens_B n)) 69) :: fpit_book_opens_T n
theorem fpit_book_opens_Yok (n : Nat) : LawsOk Tryz.prog (fpit_book_opens_Y n) := ⟨ybC_ok prog_noRow prog_mix (callT_ok prog_noRow prog_mix (fpit_book_opens_Tok n) insNil) (fun _ _ _ h => by cases h) (cuts_ok (fn := Tryz.f69) (c := (RFs.rf 69).body) (N := (RFs.rf 69).n) (L := fpit_book_opens_B n) (ks := []) trivial (by kernel_rfl) (by kernel_rfl)), fpit_book_opens_Tok n⟩
noncomputable def fpit_book_opens_i1_C (n : Nat) : CutL Ty := []
theorem fpit_book_opens_i1_rd (n : Nat) (x : C.Ds Ty (snds fpit_book_opens_i1_D)) : (exec Tryz.prog 37 (callT Tryz.prog (fpit_book_opens_Y n) []) (cutsOf (fpit_book_opens_i1_C n)) (bodyAt 1 Tryz.f163) (embS fpit_book_opens_i1_D x)).runK (typeRd 8 fpit_book_opens_i1_D fpit_book_opens_i1_E (fpit_book_opens_i1_F n)) = fpit_book_opens_i1_F (n + 1) x := by kernel_rfl
theorem fpit_book_opens_i1_ok (n : Nat) : CutOk true Tryz.prog 37 (fpit_book_opens_i1_cut n) (.loop (bodyAt 1 Tryz.f163)) := cut_ok fun x y hy => can_loop (Fn := fpit_book_opens_i1_F) prog_noRow prog_mix (fun n => callT_ok prog_noRow prog_mix (fpit_book_opens_Yok n) insNil) (fun h => by cases h) (fun h => by cases h) (fun n => (cuts_ok (fn := Tryz.f163) (L := fpit_book_opens_i1_C n) (ks := []) trivial (by kernel_rfl) (by kernel_rfl))) (by decide) (fun _ => rfl) fpit_book_opens_i1_rd hy
noncomputable def fpit_book_opens_K (n : Nat) : InsL Ty := [(163, [(.loop 1, fpit_book_opens_i1_cut n)])]
theorem fpit_book_opens_Kok (n : Nat) : InsOk Tryz.prog (fpit_book_opens_K n) := ⟨ins_one (f := 163) Tryz.func163 rfl (cuts_ok (fn := Tryz.f163) (L := [(.loop 1, fpit_book_opens_i1_cut n)]) (ks := [.loop 1]) ⟨fpit_book_opens_i1_ok n, trivial⟩ (by kernel_rfl) (by kernel_rfl)), trivial⟩
noncomputable def fpit_book_opens_rf (n : Nat) : St Ty → Tr (Lf Ty) := rfC Tryz.prog (callT Tryz.prog (fpit_book_opens_Y n) (fpit_book_opens_K n)) (.tmp 13) 69 [5, 6, 7]
theorem fpit_book_opens_rfok (n : Nat) : CutOk true Tryz.prog 25 (fpit_book_opens_rf n) (nodeAt (.rf 4) Tryz.f69) := rf_cut (callT_ok prog_noRow prog_mix (fpit_book_opens_Yok n) (fpit_book_opens_Kok n)) (by kernel_rfl) (by kernel_rfl)
noncomputable def fpit_book_opens_C (n : Nat) : CutL Ty := [(.rf 4, fpit_book_opens_rf n)]
theorem fpit_book_opens_rd (n : Nat) (x : C.Ds Ty (snds fpit_book_opens_D)) : (exec Tryz.prog 25 (callT Tryz.prog (fpit_book_opens_T n) []) (cutsOf (fpit_book_opens_C n)) (codeOf Tryz.f69) (embS fpit_book_opens_D x)).runK (typeRt Tryz.prog Tryz.f69.results.toList 2 fpit_book_opens_E) = fpit_book_opens_F n x := by kernel_rfl
theorem fpit_book_opens_lawOk (n : Nat) : LawOk Tryz.prog 69 (fpit_book_opens_law n) := law_ok Tryz.func69 rfl rfl (by decide) rfl prog_noRow prog_mix (callT_ok prog_noRow prog_mix (fpit_book_opens_Tok n) insNil) (cuts_ok (fn := Tryz.f69) (L := fpit_book_opens_C n) (ks := [.rf 4]) ⟨fpit_book_opens_rfok n, trivial⟩ (by kernel_rfl) (by kernel_rfl)) (fpit_book_opens_rd n)
def fpit_Open_D : List (Nat × C) := [(0, .l 180), (1, .s 3), (2, .s 3)]
def fpit_Open_E : List Wo := [⟨.ret, [], [], [.l 3, .s 3]⟩]
def fpit_Open (n : Nat) (l : List Card) (bus : Int) (at_ : Int) : Option ((List Int × Int × Unit)) :=
    (fpit_read n l).bind fun v0 =>
    Sum.elim (fun v1 => bif v1.snd.fst != 0 then (some ([], (v1.snd.fst, ()))) else
    bif decide (0 ≤ bus) then (bif !!decide (bus ≤ 99) then (bif decide (0 ≤ at_) then (bif !decide (at_ ≤ 1000000) then (some ([], (2, ()))) else
    none) else
    some ([], (2, ()))) else
    some ([], (2, ()))) else
    some ([], (2, ()))) (fun v1 => bif v1.snd.fst != 0 then (some ([], (v1.snd.fst, ()))) else
    bif decide (0 ≤ bus) then (bif !!decide (bus ≤ 99) then (bif decide (0 ≤ at_) then (bif !decide (at_ ≤ 1000000) then (some ([], (2, ()))) else
    (fpit_book_opens n v1.fst.fst v1.fst.snd.fst bus at_).bind fun v2 =>
    some (v2.snd.snd.fst, (0, ()))) else
    some ([], (2, ()))) else
    some ([], (2, ()))) else
    some ([], (2, ()))) (v0)
def fpit_Open_F (n : Nat) (y : C.Ds Ty (snds fpit_Open_D)) : Option (YT Ty fpit_Open_E) := fpit_Open n y.1 y.2.1 y.2.2.1
noncomputable def fpit_Open_law (n : Nat) : Law Ty := lawC fpit_Open_D 0 fpit_Open_E (fpit_Open_F n)
noncomputable def fpit_Open_T (n : Nat) : List (Nat × Law Ty) := [(66, fpit_read_law n), (69, fpit_book_opens_law n)]
theorem fpit_Open_Tok (n : Nat) : LawsOk Tryz.prog (fpit_Open_T n) := ⟨fpit_read_lawOk n, ⟨fpit_book_opens_lawOk n, trivial⟩⟩
noncomputable def fpit_Open_C (n : Nat) : CutL Ty := []
theorem fpit_Open_rd (n : Nat) (x : C.Ds Ty (snds fpit_Open_D)) : (exec Tryz.prog 32 (callT Tryz.prog (fpit_Open_T n) []) (cutsOf (fpit_Open_C n)) (codeOf Tryz.f29) (embS fpit_Open_D x)).runK (typeRt Tryz.prog Tryz.f29.results.toList 0 fpit_Open_E) = fpit_Open_F n x := by kernel_rfl
theorem fpit_Open_lawOk (n : Nat) : LawOk Tryz.prog 29 (fpit_Open_law n) := law_ok Tryz.func29 rfl rfl (by decide) rfl prog_noRow prog_mix (callT_ok prog_noRow prog_mix (fpit_Open_Tok n) insNil) (cuts_ok (fn := Tryz.f29) (L := fpit_Open_C n) (ks := []) trivial (by kernel_rfl) (by kernel_rfl)) (fpit_Open_rd n)
def fgarage_with_Out_D : List (Nat × C) := [(0, .l 60), (1, .g 60)]
def fgarage_with_Out_E : List Wo := [⟨.ret, [], [], [.l 60]⟩]
def fgarage_with_Out (n : Nat) (l : List Out) (x : Out) : Option ((List Out × Unit)) :=
    (clone60 n l).bind fun v0 =>
    (app v0.fst [x]).bind fun v1 =>
    some (v1, ())
def fgarage_with_Out_F (n : Nat) (y : C.Ds Ty (snds fgarage_with_Out_D)) : Option (YT Ty fgarage_with_Out_E) := fgarage_with_Out n y.1 y.2.1
noncomputable def fgarage_with_Out_law (n : Nat) : Law Ty := lawC fgarage_with_Out_D 0 fgarage_with_Out_E (fgarage_with_Out_F n)
noncomputable def fgarage_with_Out_T (n : Nat) : List (Nat × Law Ty) := [(262, clone60_law n)]
theorem fgarage_with_Out_Tok (n : Nat) : LawsOk Tryz.prog (fgarage_with_Out_T n) := ⟨clone60_lawOk n, trivial⟩
noncomputable def fgarage_with_Out_C (n : Nat) : CutL Ty := []
theorem fgarage_with_Out_rd (n : Nat) (x : C.Ds Ty (snds fgarage_with_Out_D)) : (exec Tryz.prog 10 (callT Tryz.prog (fgarage_with_Out_T n) []) (cutsOf (fgarage_with_Out_C n)) (codeOf Tryz.f260) (embS fgarage_with_Out_D x)).runK (typeRt Tryz.prog Tryz.f260.results.toList 0 fgarage_with_Out_E) = fgarage_with_Out_F n x := by kernel_rfl
theorem fgarage_with_Out_lawOk (n : Nat) : LawOk Tryz.prog 260 (fgarage_with_Out_law n) := law_ok Tryz.func260 rfl rfl (by decide) rfl prog_noRow prog_mix (callT_ok prog_noRow prog_mix (fgarage_with_Out_Tok n) insNil) (cuts_ok (fn := Tryz.f260) (L := fgarage_with_Out_C n) (ks := []) trivial (by kernel_rfl) (by kernel_rfl)) (fgarage_with_Out_rd n)
def fgarage_session_out_l1_D : List (Nat × C) := [(0, .u 114), (4, .s 3), (5, .s 3), (30, .l 62), (31, .s 3), (32, .s 3)]
def fgarage_session_out_l1_E : List Wo := [⟨.exit 0, [.u 114], [(0, .q 0), (4, .s 3), (5, .s 3)], []⟩, ⟨.pan, [.u 114], [], [.i 234 (.g 234)]⟩]
def fgarage_session_out_D : List (Nat × C) := [(0, .u 114), (1, .v 3)]
def fgarage_session_out_E : List Wo := [⟨.ret, [.u 114], [], []⟩, ⟨.pan, [.u 114], [], [.i 234 (.g 234)]⟩]
def fgarage_session_out_l1 : Nat → Session → Int → Int → (List Run) → Int → Int → Option ((Session × Unit × Int × Int × Unit) ⊕ ((Session × Refused × Unit)))
  | 0, _, _, _, _, _, _ => none
  | n + 1, g, bus, at_, x30, x31, x32 =>
    bif decide (x32 < x31) then ((idx x30 x32).bind fun v0 =>
    bif !v0.bus != bus then ((fgarage_ask n (decide (v0.to_ ≤ at_)) 8).bind fun v1 =>
    Sum.elim (fun v2 => fgarage_session_out_l1 n g bus at_ x30 x31 (IntKind.i64.wrap (x32 + 1))) (fun v2 => some (.inr (g, (v2.fst, ())))) (v1)) else
    (fgarage_ask n true 8).bind fun v1 =>
    Sum.elim (fun v2 => fgarage_session_out_l1 n g bus at_ x30 x31 (IntKind.i64.wrap (x32 + 1))) (fun v2 => some (.inr (g, (v2.fst, ())))) (v1)) else
    some (.inl (g, ((), (bus, (at_, ())))))
def fgarage_session_out_l1_F (n : Nat) (y : C.Ds Ty (snds fgarage_session_out_l1_D)) : Option (YT Ty fgarage_session_out_l1_E) := fgarage_session_out_l1 n y.1 y.2.1 y.2.2.1 y.2.2.2.1 y.2.2.2.2.1 y.2.2.2.2.2.1
noncomputable def fgarage_session_out_l1_cut (n : Nat) : St Ty → Tr (Lf Ty) := cutC fgarage_session_out_l1_D 1 fgarage_session_out_l1_E (fgarage_session_out_l1_F n)
def fgarage_session_out (n : Nat) (g : Session) (n_ : List Int) : Option ((Session × Unit) ⊕ ((Session × Refused × Unit))) :=
    bif n_.length.beq 5 then ((idx n_ 0).bind fun v0 =>
    (n_.get?Internal (Int.toNat 0)).bind fun v1 =>
    bif n_.length.beq 5 then ((idx n_ 1).bind fun v2 =>
    (n_.get?Internal (Int.toNat 1)).bind fun v3 =>
    (fgarage_within n v1 0 99).bind fun v4 =>
    bif v4.fst then ((fgarage_within n v3 0 1000000).bind fun v5 =>
    (fgarage_ask n v5.fst 2).bind fun v6 =>
    Sum.elim (fun v7 => (gone n g v1).bind fun v8 =>
    (fgarage_ask n (decide (v8.snd.fst < 0)) 8).bind fun v9 =>
    Sum.elim (fun v10 => (fgarage_session_out_l1 n v8.fst v1 v3 v8.fst.state.runs (↑v8.fst.state.runs.length : Int) 0).bind fun v11 =>
    Sum.elim (fun v12 => (fpit_Open n v12.fst.state.cards v12.snd.snd.fst v12.snd.snd.snd.fst).bind fun v13 =>
    (fgarage_must n v13.snd.fst).bind fun v14 =>
    Sum.elim (fun v15 => (fgarage_ask n (decide ((↑v13.fst.length : Int) = 0)) 11).bind fun v16 =>
    Sum.elim (fun v17 => (fgarage_with_Out n v12.fst.state.outs (Out.mk v12.snd.snd.fst v12.snd.snd.snd.fst)).bind fun v18 =>
    some (.inl (Session.mk (State.mk v12.fst.state.cards v18.fst v12.fst.state.runs v12.fst.state.records v12.fst.state.week v12.fst.state.roster), ()))) (fun v17 => some (.inr (v12.fst, (v17.fst, ())))) (v16)) (fun v15 => some (.inr (v12.fst, (v15.fst, ())))) (v14)) (fun v12 => some (.inr (v12.fst, (v12.snd.fst, ())))) (v11)) (fun v10 => some (.inr (v8.fst, (v10.fst, ())))) (v9)) (fun v7 => some (.inr (g, (v7.fst, ())))) (v6)) else
    (fgarage_ask n false 2).bind fun v5 =>
    Sum.elim (fun v6 => (gone n g v1).bind fun v7 =>
    (fgarage_ask n (decide (v7.snd.fst < 0)) 8).bind fun v8 =>
    Sum.elim (fun v9 => (fgarage_session_out_l1 n v7.fst v1 v3 v7.fst.state.runs (↑v7.fst.state.runs.length : Int) 0).bind fun v10 =>
    Sum.elim (fun v11 => (fpit_Open n v11.fst.state.cards v11.snd.snd.fst v11.snd.snd.snd.fst).bind fun v12 =>
    (fgarage_must n v12.snd.fst).bind fun v13 =>
    Sum.elim (fun v14 => (fgarage_ask n (decide ((↑v12.fst.length : Int) = 0)) 11).bind fun v15 =>
    Sum.elim (fun v16 => (fgarage_with_Out n v11.fst.state.outs (Out.mk v11.snd.snd.fst v11.snd.snd.snd.fst)).bind fun v17 =>
    some (.inl (Session.mk (State.mk v11.fst.state.cards v17.fst v11.fst.state.runs v11.fst.state.records v11.fst.state.week v11.fst.state.roster), ()))) (fun v16 => some (.inr (v11.fst, (v16.fst, ())))) (v15)) (fun v14 => some (.inr (v11.fst, (v14.fst, ())))) (v13)) (fun v11 => some (.inr (v11.fst, (v11.snd.fst, ())))) (v10)) (fun v9 => some (.inr (v7.fst, (v9.fst, ())))) (v8)) (fun v6 => some (.inr (g, (v6.fst, ())))) (v5)) else
    none) else
    none
def fgarage_session_out_F (n : Nat) (y : C.Ds Ty (snds fgarage_session_out_D)) : Option (YT Ty fgarage_session_out_E) := fgarage_session_out n y.1 y.2.1
noncomputable def fgarage_session_out_law (n : Nat) : Law Ty := lawC fgarage_session_out_D 1 fgarage_session_out_E (fgarage_session_out_F n)
noncomputable def fgarage_session_out_T (n : Nat) : List (Nat × Law Ty) := [(75, fgarage_within_law n), (139, fgarage_ask_law n), (94, gone_law n), (29, fpit_Open_law n), (259, fgarage_must_law n), (260, fgarage_with_Out_law n)]
theorem fgarage_session_out_Tok (n : Nat) : LawsOk Tryz.prog (fgarage_session_out_T n) := ⟨fgarage_within_lawOk n, ⟨fgarage_ask_lawOk n, ⟨gone_lawOk n, ⟨fpit_Open_lawOk n, ⟨fgarage_must_lawOk n, ⟨fgarage_with_Out_lawOk n, trivial⟩⟩⟩⟩⟩⟩
noncomputable def fgarage_session_out_l1_C (n : Nat) : CutL Ty := []
theorem fgarage_session_out_l1_rd (n : Nat) (x : C.Ds Ty (snds fgarage_session_out_l1_D)) : (exec Tryz.prog 78 (callT Tryz.prog (fgarage_session_out_T n) []) (cutsOf (fgarage_session_out_l1_C n)) (bodyAt 5 Tryz.f193) (embS fgarage_session_out_l1_D x)).runK (typeRd 1 fgarage_session_out_l1_D fgarage_session_out_l1_E (fgarage_session_out_l1_F n)) = fgarage_session_out_l1_F (n + 1) x := by kernel_rfl
theorem fgarage_session_out_l1_ok (n : Nat) : CutOk true Tryz.prog 78 (fgarage_session_out_l1_cut n) (.loop (bodyAt 5 Tryz.f193)) := cut_ok fun x y hy => can_loop (Fn := fgarage_session_out_l1_F) prog_noRow prog_mix (fun n => callT_ok prog_noRow prog_mix (fgarage_session_out_Tok n) insNil) (fun h => by cases h) (fun h => by cases h) (fun n => (cuts_ok (fn := Tryz.f193) (L := fgarage_session_out_l1_C n) (ks := []) trivial (by kernel_rfl) (by kernel_rfl))) (by decide) (fun _ => rfl) fgarage_session_out_l1_rd hy
noncomputable def fgarage_session_out_C (n : Nat) : CutL Ty := [(.loop 5, fgarage_session_out_l1_cut n)]
theorem fgarage_session_out_rd (n : Nat) (x : C.Ds Ty (snds fgarage_session_out_D)) : (exec Tryz.prog 78 (callT Tryz.prog (fgarage_session_out_T n) []) (cutsOf (fgarage_session_out_C n)) (codeOf Tryz.f193) (embS fgarage_session_out_D x)).runK (typeRt Tryz.prog Tryz.f193.results.toList 1 fgarage_session_out_E) = fgarage_session_out_F n x := by kernel_rfl
theorem fgarage_session_out_lawOk (n : Nat) : LawOk Tryz.prog 193 (fgarage_session_out_law n) := law_ok Tryz.func193 rfl rfl (by decide) rfl prog_noRow prog_mix (callT_ok prog_noRow prog_mix (fgarage_session_out_Tok n) insNil) (cuts_ok (fn := Tryz.f193) (L := fgarage_session_out_C n) (ks := [.loop 5]) ⟨fgarage_session_out_l1_ok n, trivial⟩ (by kernel_rfl) (by kernel_rfl)) (fgarage_session_out_rd n)
def fgarage_with_Run_D : List (Nat × C) := [(0, .l 62), (1, .g 62)]
def fgarage_with_Run_E : List Wo := [⟨.ret, [], [], [.l 62]⟩]
def fgarage_with_Run (n : Nat) (l : List Run) (x : Run) : Option ((List Run × Unit)) :=
    (clone62 n l).bind fun v0 =>
    (app v0.fst [x]).bind fun v1 =>
    some (v1, ())
def fgarage_with_Run_F (n : Nat) (y : C.Ds Ty (snds fgarage_with_Run_D)) : Option (YT Ty fgarage_with_Run_E) := fgarage_with_Run n y.1 y.2.1
noncomputable def fgarage_with_Run_law (n : Nat) : Law Ty := lawC fgarage_with_Run_D 0 fgarage_with_Run_E (fgarage_with_Run_F n)
noncomputable def fgarage_with_Run_T (n : Nat) : List (Nat × Law Ty) := [(310, clone62_law n)]
theorem fgarage_with_Run_Tok (n : Nat) : LawsOk Tryz.prog (fgarage_with_Run_T n) := ⟨clone62_lawOk n, trivial⟩
noncomputable def fgarage_with_Run_C (n : Nat) : CutL Ty := []
theorem fgarage_with_Run_rd (n : Nat) (x : C.Ds Ty (snds fgarage_with_Run_D)) : (exec Tryz.prog 10 (callT Tryz.prog (fgarage_with_Run_T n) []) (cutsOf (fgarage_with_Run_C n)) (codeOf Tryz.f263) (embS fgarage_with_Run_D x)).runK (typeRt Tryz.prog Tryz.f263.results.toList 0 fgarage_with_Run_E) = fgarage_with_Run_F n x := by kernel_rfl
theorem fgarage_with_Run_lawOk (n : Nat) : LawOk Tryz.prog 263 (fgarage_with_Run_law n) := law_ok Tryz.func263 rfl rfl (by decide) rfl prog_noRow prog_mix (callT_ok prog_noRow prog_mix (fgarage_with_Run_Tok n) insNil) (cuts_ok (fn := Tryz.f263) (L := fgarage_with_Run_C n) (ks := []) trivial (by kernel_rfl) (by kernel_rfl)) (fgarage_with_Run_rd n)
def fgarage_session_in_D : List (Nat × C) := [(0, .u 114), (1, .v 3)]
def fgarage_session_in_E : List Wo := [⟨.ret, [.u 114], [], []⟩, ⟨.pan, [.u 114], [], [.i 234 (.g 234)]⟩]
def fgarage_session_in (n : Nat) (g : Session) (n_ : List Int) : Option ((Session × Unit) ⊕ ((Session × Refused × Unit))) :=
    bif n_.length.beq 5 then ((idx n_ 0).bind fun v0 =>
    (n_.get?Internal (Int.toNat 0)).bind fun v1 =>
    (gone n g v1).bind fun v2 =>
    (fgarage_ask n (decide (v2.snd.fst ≥ 0)) 8).bind fun v3 =>
    Sum.elim (fun v4 => (idx v2.fst.state.outs v2.snd.fst).bind fun v5 =>
    bif n_.length.beq 5 then ((idx n_ 1).bind fun v6 =>
    (n_.get?Internal (Int.toNat 1)).bind fun v7 =>
    (fgarage_within n v7 v5.fr 1000000).bind fun v8 =>
    bif v8.fst then (bif n_.length.beq 5 then ((idx n_ 2).bind fun v9 =>
    (n_.get?Internal (Int.toNat 2)).bind fun v10 =>
    (fgarage_within n v10 0 1000).bind fun v11 =>
    (fgarage_ask n v11.fst 2).bind fun v12 =>
    Sum.elim (fun v13 => (clone60 n v2.fst.state.outs).bind fun v14 =>
    (delOut n v14.fst v2.snd.fst (IntKind.i64.wrap (v2.snd.fst + 1))).bind fun v15 =>
    bif n_.length.beq 5 then ((idx n_ 1).bind fun v16 =>
    (n_.get?Internal (Int.toNat 1)).bind fun v17 =>
    bif n_.length.beq 5 then ((idx n_ 2).bind fun v18 =>
    (n_.get?Internal (Int.toNat 2)).bind fun v19 =>
    (fgarage_with_Run n v2.fst.state.runs (Run.mk v5.bus v5.fr v17 v19)).bind fun v20 =>
    some (.inl (Session.mk (State.mk v2.fst.state.cards v15.fst v20.fst v2.fst.state.records v2.fst.state.week v2.fst.state.roster), ()))) else
    none) else
    none) (fun v13 => some (.inr (v2.fst, (v13.fst, ())))) (v12)) else
    none) else
    (fgarage_ask n false 2).bind fun v9 =>
    Sum.elim (fun v10 => (clone60 n v2.fst.state.outs).bind fun v11 =>
    (delOut n v11.fst v2.snd.fst (IntKind.i64.wrap (v2.snd.fst + 1))).bind fun v12 =>
    bif n_.length.beq 5 then ((idx n_ 1).bind fun v13 =>
    (n_.get?Internal (Int.toNat 1)).bind fun v14 =>
    bif n_.length.beq 5 then ((idx n_ 2).bind fun v15 =>
    (n_.get?Internal (Int.toNat 2)).bind fun v16 =>
    (fgarage_with_Run n v2.fst.state.runs (Run.mk v5.bus v5.fr v14 v16)).bind fun v17 =>
    some (.inl (Session.mk (State.mk v2.fst.state.cards v12.fst v17.fst v2.fst.state.records v2.fst.state.week v2.fst.state.roster), ()))) else
    none) else
    none) (fun v10 => some (.inr (v2.fst, (v10.fst, ())))) (v9)) else
    none) (fun v4 => some (.inr (v2.fst, (v4.fst, ())))) (v3)) else
    none
def fgarage_session_in_F (n : Nat) (y : C.Ds Ty (snds fgarage_session_in_D)) : Option (YT Ty fgarage_session_in_E) := fgarage_session_in n y.1 y.2.1
noncomputable def fgarage_session_in_law (n : Nat) : Law Ty := lawC fgarage_session_in_D 1 fgarage_session_in_E (fgarage_session_in_F n)
noncomputable def fgarage_session_in_T (n : Nat) : List (Nat × Law Ty) := [(94, gone_law n), (139, fgarage_ask_law n), (75, fgarage_within_law n), (262, clone60_law n), (261, delOut_law n), (263, fgarage_with_Run_law n)]
theorem fgarage_session_in_Tok (n : Nat) : LawsOk Tryz.prog (fgarage_session_in_T n) := ⟨gone_lawOk n, ⟨fgarage_ask_lawOk n, ⟨fgarage_within_lawOk n, ⟨clone60_lawOk n, ⟨delOut_lawOk n, ⟨fgarage_with_Run_lawOk n, trivial⟩⟩⟩⟩⟩⟩
noncomputable def fgarage_session_in_C (n : Nat) : CutL Ty := []
theorem fgarage_session_in_rd (n : Nat) (x : C.Ds Ty (snds fgarage_session_in_D)) : (exec Tryz.prog 65 (callT Tryz.prog (fgarage_session_in_T n) []) (cutsOf (fgarage_session_in_C n)) (codeOf Tryz.f194) (embS fgarage_session_in_D x)).runK (typeRt Tryz.prog Tryz.f194.results.toList 1 fgarage_session_in_E) = fgarage_session_in_F n x := by kernel_rfl
theorem fgarage_session_in_lawOk (n : Nat) : LawOk Tryz.prog 194 (fgarage_session_in_law n) := law_ok Tryz.func194 rfl rfl (by decide) rfl prog_noRow prog_mix (callT_ok prog_noRow prog_mix (fgarage_session_in_Tok n) insNil) (cuts_ok (fn := Tryz.f194) (L := fgarage_session_in_C n) (ks := []) trivial (by kernel_rfl) (by kernel_rfl)) (fgarage_session_in_rd n)
def fslices_Index_Record_l1_D : List (Nat × C) := [(0, .l 93), (3, .u 93), (7, .s 3), (8, .s 3)]
def fslices_Index_Record_l1_E : List Wo := [⟨.exit 0, [.u 93], [], []⟩, ⟨.ret, [.u 93], [(4, .s 3)], []⟩]
def fslices_Index_Record_D : List (Nat × C) := [(0, .l 93), (1, .g 93)]
def fslices_Index_Record_E : List Wo := [⟨.ret, [], [], [.s 3]⟩]
def fslices_Index_Record_l1 : Nat → (List Record) → Record → Int → Int → Option ((Record × Unit) ⊕ ((Record × Int × Unit)))
  | 0, _, _, _, _ => none
  | n + 1, s, v, x7, x8 =>
    bif decide (x8 < x7) then ((idx s x8).bind fun v0 =>
    bif decide (v.machine = v0.machine) && (decide (v.seq = v0.seq) && (decide (v.minute = v0.minute) && (decide (v.kind.n = v0.kind.n) && (decide (v.a = v0.a) && (decide (v.b = v0.b) && true))))) then (some (.inr (v, (x8, ())))) else
    fslices_Index_Record_l1 n s v x7 (IntKind.i64.wrap (x8 + 1))) else
    some (.inl (v, ()))
def fslices_Index_Record_l1_F (n : Nat) (y : C.Ds Ty (snds fslices_Index_Record_l1_D)) : Option (YT Ty fslices_Index_Record_l1_E) := fslices_Index_Record_l1 n y.1 y.2.1 y.2.2.1 y.2.2.2.1
noncomputable def fslices_Index_Record_l1_cut (n : Nat) : St Ty → Tr (Lf Ty) := cutC fslices_Index_Record_l1_D 1 fslices_Index_Record_l1_E (fslices_Index_Record_l1_F n)
def fslices_Index_Record (n : Nat) (s : List Record) (v : Record) : Option ((Int × Unit)) :=
    (fslices_Index_Record_l1 n s v (↑s.length : Int) 0).bind fun v0 =>
    Sum.elim (fun v1 => some (-1, ())) (fun v1 => some (v1.snd.fst, ())) (v0)
def fslices_Index_Record_F (n : Nat) (y : C.Ds Ty (snds fslices_Index_Record_D)) : Option (YT Ty fslices_Index_Record_E) := fslices_Index_Record n y.1 y.2.1
noncomputable def fslices_Index_Record_law (n : Nat) : Law Ty := readC (lawC fslices_Index_Record_D 0 fslices_Index_Record_E (fslices_Index_Record_F n))
noncomputable def fslices_Index_Record_T (n : Nat) : List (Nat × Law Ty) := []
theorem fslices_Index_Record_Tok (n : Nat) : LawsOk Tryz.prog (fslices_Index_Record_T n) := trivial
noncomputable def fslices_Index_Record_l1_C (n : Nat) : CutL Ty := []
theorem fslices_Index_Record_l1_rd (n : Nat) (x : C.Ds Ty (snds fslices_Index_Record_l1_D)) : (exec Tryz.prog 19 (callT Tryz.prog (fslices_Index_Record_T n) []) (cutsOf (fslices_Index_Record_l1_C n)) (bodyAt 2 Tryz.f341) (embS fslices_Index_Record_l1_D x)).runK (typeRd 1 fslices_Index_Record_l1_D fslices_Index_Record_l1_E (fslices_Index_Record_l1_F n)) = fslices_Index_Record_l1_F (n + 1) x := by kernel_rfl
theorem fslices_Index_Record_l1_ok (n : Nat) : CutOk true Tryz.prog 19 (fslices_Index_Record_l1_cut n) (.loop (bodyAt 2 Tryz.f341)) := cut_ok fun x y hy => can_loop (Fn := fslices_Index_Record_l1_F) prog_noRow prog_mix (fun n => callT_ok prog_noRow prog_mix (fslices_Index_Record_Tok n) insNil) (fun h => by cases h) (fun h => by cases h) (fun n => (cuts_ok (fn := Tryz.f341) (L := fslices_Index_Record_l1_C n) (ks := []) trivial (by kernel_rfl) (by kernel_rfl))) (by decide) (fun _ => rfl) fslices_Index_Record_l1_rd hy
noncomputable def fslices_Index_Record_C (n : Nat) : CutL Ty := [(.loop 2, fslices_Index_Record_l1_cut n)]
theorem fslices_Index_Record_rd (n : Nat) (x : C.Ds Ty (snds fslices_Index_Record_D)) : (exec Tryz.prog 19 (callT Tryz.prog (fslices_Index_Record_T n) []) (cutsOf (fslices_Index_Record_C n)) (codeOf Tryz.f341) (embS fslices_Index_Record_D x)).runK (typeRt Tryz.prog Tryz.f341.results.toList 0 fslices_Index_Record_E) = fslices_Index_Record_F n x := by kernel_rfl
theorem fslices_Index_Record_lawOk (n : Nat) : LawOk Tryz.prog 341 (fslices_Index_Record_law n) := readC_ok (law_ok Tryz.func341 rfl rfl (by decide) rfl prog_noRow prog_mix (callT_ok prog_noRow prog_mix (fslices_Index_Record_Tok n) insNil) (cuts_ok (fn := Tryz.f341) (L := fslices_Index_Record_C n) (ks := [.loop 2]) ⟨fslices_Index_Record_l1_ok n, trivial⟩ (by kernel_rfl) (by kernel_rfl)) (fslices_Index_Record_rd n))
def fslices_Contains_Record_D : List (Nat × C) := [(0, .l 93), (1, .g 93)]
def fslices_Contains_Record_E : List Wo := [⟨.ret, [], [], [.s 4]⟩]
def fslices_Contains_Record (n : Nat) (s : List Record) (v : Record) : Option ((Bool × Unit)) :=
    (fslices_Index_Record n s v).bind fun v0 =>
    some (decide (v0.fst ≥ 0), ())
def fslices_Contains_Record_F (n : Nat) (y : C.Ds Ty (snds fslices_Contains_Record_D)) : Option (YT Ty fslices_Contains_Record_E) := fslices_Contains_Record n y.1 y.2.1
noncomputable def fslices_Contains_Record_law (n : Nat) : Law Ty := readC (lawC fslices_Contains_Record_D 0 fslices_Contains_Record_E (fslices_Contains_Record_F n))
noncomputable def fslices_Contains_Record_T (n : Nat) : List (Nat × Law Ty) := [(341, fslices_Index_Record_law n)]
theorem fslices_Contains_Record_Tok (n : Nat) : LawsOk Tryz.prog (fslices_Contains_Record_T n) := ⟨fslices_Index_Record_lawOk n, trivial⟩
noncomputable def fslices_Contains_Record_C (n : Nat) : CutL Ty := []
theorem fslices_Contains_Record_rd (n : Nat) (x : C.Ds Ty (snds fslices_Contains_Record_D)) : (exec Tryz.prog 9 (callT Tryz.prog (fslices_Contains_Record_T n) []) (cutsOf (fslices_Contains_Record_C n)) (codeOf Tryz.f311) (embS fslices_Contains_Record_D x)).runK (typeRt Tryz.prog Tryz.f311.results.toList 0 fslices_Contains_Record_E) = fslices_Contains_Record_F n x := by kernel_rfl
theorem fslices_Contains_Record_lawOk (n : Nat) : LawOk Tryz.prog 311 (fslices_Contains_Record_law n) := readC_ok (law_ok Tryz.func311 rfl rfl (by decide) rfl prog_noRow prog_mix (callT_ok prog_noRow prog_mix (fslices_Contains_Record_Tok n) insNil) (cuts_ok (fn := Tryz.f311) (L := fslices_Contains_Record_C n) (ks := []) trivial (by kernel_rfl) (by kernel_rfl)) (fslices_Contains_Record_rd n))
def fsheet_Record_valid_D : List (Nat × C) := [(0, .g 93)]
def fsheet_Record_valid_E : List Wo := [⟨.ret, [], [], [.s 4]⟩]
def fsheet_Record_valid (n : Nat) (r : Record) : Option ((Bool × Unit)) :=
    bif decide (0 ≤ r.machine) then (bif decide (r.machine ≤ 999) then (bif decide (1 ≤ r.seq) then (bif decide (r.seq ≤ 9999) then (bif decide (0 ≤ r.minute) then (bif decide (r.minute ≤ 1000000) then (bif decide (IntKind.i64.wrap r.kind.n < (↑[Kind.mk (Fp.mk (↑302 : Int)), Kind.mk (Fp.mk (↑303 : Int)), Kind.mk (Fp.mk (↑304 : Int))].length : Int)) then ((idx [Kind.mk (Fp.mk (↑302 : Int)), Kind.mk (Fp.mk (↑303 : Int)), Kind.mk (Fp.mk (↑304 : Int))] r.kind.n).bind fun v0 =>
    ([Kind.mk (Fp.mk (↑302 : Int)), Kind.mk (Fp.mk (↑303 : Int)), Kind.mk (Fp.mk (↑304 : Int))].get?Internal r.kind.n.toNat).bind fun v1 =>
    bif decide (v1.right.f = (↑302 : Int)) then (bif decide (0 ≤ r.a) then (bif decide (r.a ≤ 99) then (bif decide (0 ≤ r.b) then (some (decide (r.b ≤ 10000), ())) else
    some (false, ())) else
    some (false, ())) else
    some (false, ())) else
    bif decide (v1.right.f = (↑303 : Int)) then (bif decide (0 ≤ r.a) then (bif decide (r.a ≤ 1000000) then (some (decide (r.b = 0), ())) else
    some (false, ())) else
    some (false, ())) else
    bif decide (v1.right.f = (↑304 : Int)) then (bif decide (0 ≤ r.a) then (bif decide (r.a ≤ 9999) then (bif decide (0 ≤ r.b) then (some (decide (r.b ≤ 10000000), ())) else
    some (false, ())) else
    some (false, ())) else
    some (false, ())) else
    none) else
    some (false, ())) else
    some (false, ())) else
    some (false, ())) else
    some (false, ())) else
    some (false, ())) else
    some (false, ())) else
    some (false, ())
def fsheet_Record_valid_F (n : Nat) (y : C.Ds Ty (snds fsheet_Record_valid_D)) : Option (YT Ty fsheet_Record_valid_E) := fsheet_Record_valid n y.1
noncomputable def fsheet_Record_valid_law (n : Nat) : Law Ty := lawC fsheet_Record_valid_D 0 fsheet_Record_valid_E (fsheet_Record_valid_F n)
noncomputable def fsheet_Record_valid_T (n : Nat) : List (Nat × Law Ty) := []
theorem fsheet_Record_valid_Tok (n : Nat) : LawsOk Tryz.prog (fsheet_Record_valid_T n) := trivial
noncomputable def fsheet_Record_valid_C (n : Nat) : CutL Ty := []
theorem fsheet_Record_valid_rd (n : Nat) (x : C.Ds Ty (snds fsheet_Record_valid_D)) : (exec Tryz.prog 34 (callT Tryz.prog (fsheet_Record_valid_T n) []) (cutsOf (fsheet_Record_valid_C n)) (codeOf Tryz.f186) (embS fsheet_Record_valid_D x)).runK (typeRt Tryz.prog Tryz.f186.results.toList 0 fsheet_Record_valid_E) = fsheet_Record_valid_F n x := by kernel_rfl
theorem fsheet_Record_valid_lawOk (n : Nat) : LawOk Tryz.prog 186 (fsheet_Record_valid_law n) := law_ok Tryz.func186 rfl rfl (by decide) rfl prog_noRow prog_mix (callT_ok prog_noRow prog_mix (fsheet_Record_valid_Tok n) insNil) (cuts_ok (fn := Tryz.f186) (L := fsheet_Record_valid_C n) (ks := []) trivial (by kernel_rfl) (by kernel_rfl)) (fsheet_Record_valid_rd n)
def fsheet_checked_i1_D : List (Nat × C) := [(0, .l 93), (1, .f 248 [] [.p 0 [.f 186 [] []]]), (7, .s 3), (8, .s 3)]
def fsheet_checked_i1_E : List Wo := [⟨.exit 0, [.p 0 [.f 186 [] []]], [], []⟩, ⟨.ret, [.p 0 [.f 186 [] []]], [(4, .s 3)], []⟩]
def fsheet_checked_i2_D : List (Nat × C) := [(0, .l 28), (1, .f 246 [] [.p 0 [.f 183 [] []]]), (7, .s 3), (8, .s 3)]
def fsheet_checked_i2_E : List Wo := [⟨.exit 0, [.p 0 [.f 183 [] []]], [], []⟩, ⟨.ret, [.p 0 [.f 183 [] []]], [(4, .s 3)], []⟩]
def fsheet_checked_i3_D : List (Nat × C) := [(0, .l 28), (1, .f 246 [] [.p 0 [.f 184 [] []]]), (7, .s 3), (8, .s 3)]
def fsheet_checked_i3_E : List Wo := [⟨.exit 0, [.p 0 [.f 184 [] []]], [], []⟩, ⟨.ret, [.p 0 [.f 184 [] []]], [(4, .s 3)], []⟩]
def fsheet_checked_D : List (Nat × C) := [(0, .l 28)]
def fsheet_checked_E : List Wo := [⟨.ret, [], [], [.s 3]⟩]
def fsheet_checked_i1 : Nat → (List Record) → Int → Int → Option ((((Unit × Unit) × Unit) × Unit) ⊕ ((((Unit × Unit) × Unit) × Int × Unit)))
  | 0, _, _, _ => none
  | n + 1, s, x7, x8 =>
    bif decide (x8 < x7) then ((idx s x8).bind fun v0 =>
    (fsheet_Record_valid n v0).bind fun v1 =>
    bif !v1.fst then (some (.inr ((((), ()), ()), (x8, ())))) else
    fsheet_checked_i1 n s x7 (IntKind.i64.wrap (x8 + 1))) else
    some (.inl ((((), ()), ()), ()))
def fsheet_checked_i1_F (n : Nat) (y : C.Ds Ty (snds fsheet_checked_i1_D)) : Option (YT Ty fsheet_checked_i1_E) := fsheet_checked_i1 n y.1 y.2.2.1 y.2.2.2.1
noncomputable def fsheet_checked_i1_cut (n : Nat) : St Ty → Tr (Lf Ty) := cutC fsheet_checked_i1_D 1 fsheet_checked_i1_E (fsheet_checked_i1_F n)
def fsheet_checked_i2 : Nat → (List (List Record)) → Int → Int → Option ((((Unit × Unit) × Unit) × Unit) ⊕ ((((Unit × Unit) × Unit) × Int × Unit)))
  | 0, _, _, _ => none
  | n + 1, s, x7, x8 =>
    bif decide (x8 < x7) then ((idx s x8).bind fun v0 =>
    bif !decide ((↑v0.length : Int) ≤ 60) then (some (.inr ((((), ()), ()), (x8, ())))) else
    fsheet_checked_i2 n s x7 (IntKind.i64.wrap (x8 + 1))) else
    some (.inl ((((), ()), ()), ()))
def fsheet_checked_i2_F (n : Nat) (y : C.Ds Ty (snds fsheet_checked_i2_D)) : Option (YT Ty fsheet_checked_i2_E) := fsheet_checked_i2 n y.1 y.2.2.1 y.2.2.2.1
noncomputable def fsheet_checked_i2_cut (n : Nat) : St Ty → Tr (Lf Ty) := cutC fsheet_checked_i2_D 1 fsheet_checked_i2_E (fsheet_checked_i2_F n)
def fsheet_checked_i3 : Nat → (List (List Record)) → Int → Int → Option ((((Unit × Unit) × Unit) × Unit) ⊕ ((((Unit × Unit) × Unit) × Int × Unit)))
  | 0, _, _, _ => none
  | n + 1, s, x7, x8 =>
    bif decide (x8 < x7) then ((idx s x8).bind fun v0 =>
    (fsheet_checked_i1 n v0 (↑v0.length : Int) 0).bind fun v1 =>
    Sum.elim (fun v2 => fsheet_checked_i3 n s x7 (IntKind.i64.wrap (x8 + 1))) (fun v2 => bif !!decide (v2.snd.fst ≥ 0) then (some (.inr ((((), ()), ()), (x8, ())))) else
    fsheet_checked_i3 n s x7 (IntKind.i64.wrap (x8 + 1))) (v1)) else
    some (.inl ((((), ()), ()), ()))
def fsheet_checked_i3_F (n : Nat) (y : C.Ds Ty (snds fsheet_checked_i3_D)) : Option (YT Ty fsheet_checked_i3_E) := fsheet_checked_i3 n y.1 y.2.2.1 y.2.2.2.1
noncomputable def fsheet_checked_i3_cut (n : Nat) : St Ty → Tr (Lf Ty) := cutC fsheet_checked_i3_D 1 fsheet_checked_i3_E (fsheet_checked_i3_F n)
def fsheet_checked (n : Nat) (lists : List (List Record)) : Option ((Int × Unit)) :=
    bif !decide ((↑lists.length : Int) > 6) then ((fsheet_checked_i2 n lists (↑lists.length : Int) 0).bind fun v0 =>
    Sum.elim (fun v1 => (fsheet_checked_i3 n lists (↑lists.length : Int) 0).bind fun v2 =>
    Sum.elim (fun v3 => some (0, ())) (fun v3 => bif !!decide (v3.snd.fst ≥ 0) then (some (1, ())) else
    some (0, ())) (v2)) (fun v1 => bif !!decide (v1.snd.fst ≥ 0) then (some (3, ())) else
    (fsheet_checked_i3 n lists (↑lists.length : Int) 0).bind fun v2 =>
    Sum.elim (fun v3 => some (0, ())) (fun v3 => bif !!decide (v3.snd.fst ≥ 0) then (some (1, ())) else
    some (0, ())) (v2)) (v0)) else
    some (3, ())
def fsheet_checked_F (n : Nat) (y : C.Ds Ty (snds fsheet_checked_D)) : Option (YT Ty fsheet_checked_E) := fsheet_checked n y.1
noncomputable def fsheet_checked_law (n : Nat) : Law Ty := readC (lawC fsheet_checked_D 0 fsheet_checked_E (fsheet_checked_F n))
noncomputable def fsheet_checked_T (n : Nat) : List (Nat × Law Ty) := [(186, fsheet_Record_valid_law n)]
theorem fsheet_checked_Tok (n : Nat) : LawsOk Tryz.prog (fsheet_checked_T n) := ⟨fsheet_Record_valid_lawOk n, trivial⟩
noncomputable def fsheet_checked_i1_C (n : Nat) : CutL Ty := []
theorem fsheet_checked_i1_rd (n : Nat) (x : C.Ds Ty (snds fsheet_checked_i1_D)) : (exec Tryz.prog 19 (callT Tryz.prog (fsheet_checked_T n) []) (cutsOf (fsheet_checked_i1_C n)) (bodyAt 2 Tryz.f301) (embS fsheet_checked_i1_D x)).runK (typeRd 1 fsheet_checked_i1_D fsheet_checked_i1_E (fsheet_checked_i1_F n)) = fsheet_checked_i1_F (n + 1) x := by kernel_rfl
theorem fsheet_checked_i1_ok (n : Nat) : CutOk true Tryz.prog 19 (fsheet_checked_i1_cut n) (.loop (bodyAt 2 Tryz.f301)) := cut_ok fun x y hy => can_loop (Fn := fsheet_checked_i1_F) prog_noRow prog_mix (fun n => callT_ok prog_noRow prog_mix (fsheet_checked_Tok n) insNil) (fun h => by cases h) (fun h => by cases h) (fun n => (cuts_ok (fn := Tryz.f301) (L := fsheet_checked_i1_C n) (ks := []) trivial (by kernel_rfl) (by kernel_rfl))) (by decide) (fun _ => rfl) fsheet_checked_i1_rd hy
noncomputable def fsheet_checked_J1 (n : Nat) : InsL Ty := [(301, [(.loop 2, fsheet_checked_i1_cut n)])]
theorem fsheet_checked_J1ok (n : Nat) : InsOk Tryz.prog (fsheet_checked_J1 n) := ⟨ins_one (f := 301) Tryz.func301 rfl (cuts_ok (fn := Tryz.f301) (L := [(.loop 2, fsheet_checked_i1_cut n)]) (ks := [.loop 2]) ⟨fsheet_checked_i1_ok n, trivial⟩ (by kernel_rfl) (by kernel_rfl)), trivial⟩
noncomputable def fsheet_checked_i2_C (n : Nat) : CutL Ty := []
theorem fsheet_checked_i2_rd (n : Nat) (x : C.Ds Ty (snds fsheet_checked_i2_D)) : (exec Tryz.prog 19 (callT Tryz.prog (fsheet_checked_T n) (fsheet_checked_J1 n)) (cutsOf (fsheet_checked_i2_C n)) (bodyAt 2 Tryz.f300) (embS fsheet_checked_i2_D x)).runK (typeRd 1 fsheet_checked_i2_D fsheet_checked_i2_E (fsheet_checked_i2_F n)) = fsheet_checked_i2_F (n + 1) x := by kernel_rfl
theorem fsheet_checked_i2_ok (n : Nat) : CutOk true Tryz.prog 19 (fsheet_checked_i2_cut n) (.loop (bodyAt 2 Tryz.f300)) := cut_ok fun x y hy => can_loop (Fn := fsheet_checked_i2_F) prog_noRow prog_mix (fun n => callT_ok prog_noRow prog_mix (fsheet_checked_Tok n) (fsheet_checked_J1ok n)) (fun h => by cases h) (fun h => by cases h) (fun n => (cuts_ok (fn := Tryz.f300) (L := fsheet_checked_i2_C n) (ks := []) trivial (by kernel_rfl) (by kernel_rfl))) (by decide) (fun _ => rfl) fsheet_checked_i2_rd hy
noncomputable def fsheet_checked_i3_C (n : Nat) : CutL Ty := []
theorem fsheet_checked_i3_rd (n : Nat) (x : C.Ds Ty (snds fsheet_checked_i3_D)) : (exec Tryz.prog 19 (callT Tryz.prog (fsheet_checked_T n) (fsheet_checked_J1 n)) (cutsOf (fsheet_checked_i3_C n)) (bodyAt 2 Tryz.f300) (embS fsheet_checked_i3_D x)).runK (typeRd 1 fsheet_checked_i3_D fsheet_checked_i3_E (fsheet_checked_i3_F n)) = fsheet_checked_i3_F (n + 1) x := by kernel_rfl
theorem fsheet_checked_i3_ok (n : Nat) : CutOk true Tryz.prog 19 (fsheet_checked_i3_cut n) (.loop (bodyAt 2 Tryz.f300)) := cut_ok fun x y hy => can_loop (Fn := fsheet_checked_i3_F) prog_noRow prog_mix (fun n => callT_ok prog_noRow prog_mix (fsheet_checked_Tok n) (fsheet_checked_J1ok n)) (fun h => by cases h) (fun h => by cases h) (fun n => (cuts_ok (fn := Tryz.f300) (L := fsheet_checked_i3_C n) (ks := []) trivial (by kernel_rfl) (by kernel_rfl))) (by decide) (fun _ => rfl) fsheet_checked_i3_rd hy
noncomputable def fsheet_checked_J2 (n : Nat) : InsL Ty := [(301, [(.loop 2, fsheet_checked_i1_cut n)]), (300, [(.loop 2, altC (fsheet_checked_i2_cut n) (fsheet_checked_i3_cut n))])]
theorem fsheet_checked_J2ok (n : Nat) : InsOk Tryz.prog (fsheet_checked_J2 n) := ⟨ins_one (f := 301) Tryz.func301 rfl (cuts_ok (fn := Tryz.f301) (L := [(.loop 2, fsheet_checked_i1_cut n)]) (ks := [.loop 2]) ⟨fsheet_checked_i1_ok n, trivial⟩ (by kernel_rfl) (by kernel_rfl)), ⟨ins_one (f := 300) Tryz.func300 rfl (cuts_ok (fn := Tryz.f300) (L := [(.loop 2, altC (fsheet_checked_i2_cut n) (fsheet_checked_i3_cut n))]) (ks := [.loop 2]) ⟨altC_ok (fsheet_checked_i2_ok n) (fsheet_checked_i3_ok n), trivial⟩ (by kernel_rfl) (by kernel_rfl)), trivial⟩⟩
noncomputable def fsheet_checked_C (n : Nat) : CutL Ty := []
theorem fsheet_checked_rd (n : Nat) (x : C.Ds Ty (snds fsheet_checked_D)) : (exec Tryz.prog 16 (callT Tryz.prog (fsheet_checked_T n) (fsheet_checked_J2 n)) (cutsOf (fsheet_checked_C n)) (codeOf Tryz.f130) (embS fsheet_checked_D x)).runK (typeRt Tryz.prog Tryz.f130.results.toList 0 fsheet_checked_E) = fsheet_checked_F n x := by kernel_rfl
theorem fsheet_checked_lawOk (n : Nat) : LawOk Tryz.prog 130 (fsheet_checked_law n) := readC_ok (law_ok Tryz.func130 rfl rfl (by decide) rfl prog_noRow prog_mix (callT_ok prog_noRow prog_mix (fsheet_checked_Tok n) (fsheet_checked_J2ok n)) (cuts_ok (fn := Tryz.f130) (L := fsheet_checked_C n) (ks := []) trivial (by kernel_rfl) (by kernel_rfl)) (fsheet_checked_rd n))
def fsheet_merged_l1_D : List (Nat × C) := [(5, .m 227 93), (6, .o 93), (21, .l 93), (22, .s 3), (23, .s 3)]
def fsheet_merged_l1_E : List Wo := [⟨.exit 0, [.m 227 93], [(6, .o 93)], []⟩, ⟨.ret, [.m 227 93], [(2, .l 93), (3, .s 3)], []⟩]
def fsheet_merged_l2_D : List (Nat × C) := [(6, .o 93), (56, .r 93 0), (57, .s 3), (58, .s 3)]
def fsheet_merged_l2_E : List Wo := [⟨.exit 2, [], [(6, .o 93)], []⟩, ⟨.ret, [], [(2, .l 93), (3, .s 3)], []⟩]
def fsheet_merged_D : List (Nat × C) := [(0, .l 28)]
def fsheet_merged_E : List Wo := [⟨.ret, [], [], [.l 93, .s 3]⟩]
def fsheet_merged_l1 : Nat → (List (Who × Record)) → (List Record) → (List Record) → Int → Int → Option (((List (Who × Record)) × List Record × Unit) ⊕ (((List (Who × Record)) × List Record × Int × Unit)))
  | 0, _, _, _, _, _ => none
  | n + 1, known, out, x21, x22, x23 =>
    bif decide (x23 < x22) then ((idx x21 x23).bind fun v0 =>
    bif mhas keq227 known (Who.mk v0.machine v0.seq) then (bif !(decide ((mgetD keq227 known (Who.mk v0.machine v0.seq) (Record.mk 0 0 0 (IK.mk 0) 0 0)).machine = v0.machine) && (decide ((mgetD keq227 known (Who.mk v0.machine v0.seq) (Record.mk 0 0 0 (IK.mk 0) 0 0)).seq = v0.seq) && (decide ((mgetD keq227 known (Who.mk v0.machine v0.seq) (Record.mk 0 0 0 (IK.mk 0) 0 0)).minute = v0.minute) && (decide ((mgetD keq227 known (Who.mk v0.machine v0.seq) (Record.mk 0 0 0 (IK.mk 0) 0 0)).kind.n = v0.kind.n) && (decide ((mgetD keq227 known (Who.mk v0.machine v0.seq) (Record.mk 0 0 0 (IK.mk 0) 0 0)).a = v0.a) && (decide ((mgetD keq227 known (Who.mk v0.machine v0.seq) (Record.mk 0 0 0 (IK.mk 0) 0 0)).b = v0.b) && true)))))) then (some (.inr (known, ([], (6, ()))))) else
    bif !mhas keq227 known (Who.mk v0.machine v0.seq) then ((app out [v0]).bind fun v1 =>
    fsheet_merged_l1 n (mput keq227 known (Who.mk v0.machine v0.seq) v0) v1 x21 x22 (IntKind.i64.wrap (x23 + 1))) else
    fsheet_merged_l1 n known out x21 x22 (IntKind.i64.wrap (x23 + 1))) else
    bif !mhas keq227 known (Who.mk v0.machine v0.seq) then ((app out [v0]).bind fun v1 =>
    fsheet_merged_l1 n (mput keq227 known (Who.mk v0.machine v0.seq) v0) v1 x21 x22 (IntKind.i64.wrap (x23 + 1))) else
    fsheet_merged_l1 n known out x21 x22 (IntKind.i64.wrap (x23 + 1))) else
    some (.inl (known, (out, ())))
def fsheet_merged_l1_F (n : Nat) (y : C.Ds Ty (snds fsheet_merged_l1_D)) : Option (YT Ty fsheet_merged_l1_E) := fsheet_merged_l1 n y.1 y.2.1 y.2.2.1 y.2.2.2.1 y.2.2.2.2.1
noncomputable def fsheet_merged_l1_cut (n : Nat) : St Ty → Tr (Lf Ty) := cutC fsheet_merged_l1_D 1 fsheet_merged_l1_E (fsheet_merged_l1_F n)
def fsheet_merged_l2 : Nat → (List Record) → Int → Int → Option ((List Record × Unit) ⊕ ((List Record × Int × Unit)))
  | 0, _, _, _ => none
  | n + 1, out, x57, x58 =>
    bif decide (x58 < x57) then ((idx out x58).bind fun v0 =>
    (out.get?Internal x58.toNat).bind fun v1 =>
    bif decide (x58 > 0) then ((idx out (IntKind.i64.wrap (x58 - 1))).bind fun v2 =>
    (out.get?Internal (IntKind.i64.wrap (x58 - 1)).toNat).bind fun v3 =>
    bif decide (v3.machine = v1.machine) then ((idx out (IntKind.i64.wrap (x58 - 1))).bind fun v4 =>
    (out.get?Internal (IntKind.i64.wrap (x58 - 1)).toNat).bind fun v5 =>
    bif decide (v5.minute > v1.minute) then (some (.inr ([], (6, ())))) else
    fsheet_merged_l2 n out x57 (IntKind.i64.wrap (x58 + 1))) else
    fsheet_merged_l2 n out x57 (IntKind.i64.wrap (x58 + 1))) else
    fsheet_merged_l2 n out x57 (IntKind.i64.wrap (x58 + 1))) else
    some (.inl (out, ()))
def fsheet_merged_l2_F (n : Nat) (y : C.Ds Ty (snds fsheet_merged_l2_D)) : Option (YT Ty fsheet_merged_l2_E) := fsheet_merged_l2 n y.1 y.2.2.1 y.2.2.2.1
noncomputable def fsheet_merged_l2_cut (n : Nat) : St Ty → Tr (Lf Ty) := cutC fsheet_merged_l2_D 0 fsheet_merged_l2_E (fsheet_merged_l2_F n)
def fsheet_merged (n : Nat) (lists : List (List Record)) : Option ((List Record × Int × Unit)) :=
    (fsheet_checked n lists).bind fun v0 =>
    bif v0.fst != 0 then (some ([], (v0.fst, ()))) else
    (concatR n lists).bind fun v1 =>
    (fsheet_merged_l1 n [] [] v1.fst (↑v1.fst.length : Int) 0).bind fun v2 =>
    Sum.elim (fun v3 => (srtR v3.snd.fst).bind fun v4 =>
    (fsheet_merged_l2 n v4 (↑v4.length : Int) 0).bind fun v5 =>
    Sum.elim (fun v6 => some (v6.fst, (0, ()))) (fun v6 => some (v6.fst, (v6.snd.fst, ()))) (v5)) (fun v3 => some (v3.snd.fst, (v3.snd.snd.fst, ()))) (v2)
def fsheet_merged_F (n : Nat) (y : C.Ds Ty (snds fsheet_merged_D)) : Option (YT Ty fsheet_merged_E) := fsheet_merged n y.1
noncomputable def fsheet_merged_law (n : Nat) : Law Ty := lawC fsheet_merged_D 0 fsheet_merged_E (fsheet_merged_F n)
noncomputable def fsheet_merged_T (n : Nat) : List (Nat × Law Ty) := [(130, fsheet_checked_law n), (131, concatR_law n), (132, sortR_law n)]
theorem fsheet_merged_Tok (n : Nat) : LawsOk Tryz.prog (fsheet_merged_T n) := ⟨fsheet_checked_lawOk n, ⟨concatR_lawOk n, ⟨sortR_lawOk n, trivial⟩⟩⟩
noncomputable def fsheet_merged_l1_C (n : Nat) : CutL Ty := []
theorem fsheet_merged_l1_rd (n : Nat) (x : C.Ds Ty (snds fsheet_merged_l1_D)) : (exec Tryz.prog 89 (callT Tryz.prog (fsheet_merged_T n) []) (cutsOf (fsheet_merged_l1_C n)) (bodyAt 7 Tryz.f81) (embS fsheet_merged_l1_D x)).runK (typeRd 1 fsheet_merged_l1_D fsheet_merged_l1_E (fsheet_merged_l1_F n)) = fsheet_merged_l1_F (n + 1) x := by kernel_rfl
theorem fsheet_merged_l1_ok (n : Nat) : CutOk true Tryz.prog 89 (fsheet_merged_l1_cut n) (.loop (bodyAt 7 Tryz.f81)) := cut_ok fun x y hy => can_loop (Fn := fsheet_merged_l1_F) prog_noRow prog_mix (fun n => callT_ok prog_noRow prog_mix (fsheet_merged_Tok n) insNil) (fun h => by cases h) (fun h => by cases h) (fun n => (cuts_ok (fn := Tryz.f81) (L := fsheet_merged_l1_C n) (ks := []) trivial (by kernel_rfl) (by kernel_rfl))) (by decide) (fun _ => rfl) fsheet_merged_l1_rd hy
noncomputable def fsheet_merged_l2_C (n : Nat) : CutL Ty := []
theorem fsheet_merged_l2_rd (n : Nat) (x : C.Ds Ty (snds fsheet_merged_l2_D)) : (exec Tryz.prog 89 (callT Tryz.prog (fsheet_merged_T n) []) (cutsOf (fsheet_merged_l2_C n)) (bodyAt 19 Tryz.f81) (embS fsheet_merged_l2_D x)).runK (typeRd 0 fsheet_merged_l2_D fsheet_merged_l2_E (fsheet_merged_l2_F n)) = fsheet_merged_l2_F (n + 1) x := by kernel_rfl
theorem fsheet_merged_l2_ok (n : Nat) : CutOk true Tryz.prog 89 (fsheet_merged_l2_cut n) (.loop (bodyAt 19 Tryz.f81)) := cut_ok fun x y hy => can_loop (Fn := fsheet_merged_l2_F) prog_noRow prog_mix (fun n => callT_ok prog_noRow prog_mix (fsheet_merged_Tok n) insNil) (fun h => by cases h) (fun h => by cases h) (fun n => (cuts_ok (fn := Tryz.f81) (L := fsheet_merged_l2_C n) (ks := []) trivial (by kernel_rfl) (by kernel_rfl))) (by decide) (fun _ => rfl) fsheet_merged_l2_rd hy
noncomputable def fsheet_merged_C (n : Nat) : CutL Ty := [(.loop 7, fsheet_merged_l1_cut n), (.loop 19, fsheet_merged_l2_cut n)]
theorem fsheet_merged_rd (n : Nat) (x : C.Ds Ty (snds fsheet_merged_D)) : (exec Tryz.prog 89 (callT Tryz.prog (fsheet_merged_T n) []) (cutsOf (fsheet_merged_C n)) (codeOf Tryz.f81) (embS fsheet_merged_D x)).runK (typeRt Tryz.prog Tryz.f81.results.toList 0 fsheet_merged_E) = fsheet_merged_F n x := by kernel_rfl
theorem fsheet_merged_lawOk (n : Nat) : LawOk Tryz.prog 81 (fsheet_merged_law n) := law_ok Tryz.func81 rfl rfl (by decide) rfl prog_noRow prog_mix (callT_ok prog_noRow prog_mix (fsheet_merged_Tok n) insNil) (cuts_ok (fn := Tryz.f81) (L := fsheet_merged_C n) (ks := [.loop 7, .loop 19]) ⟨fsheet_merged_l1_ok n, ⟨fsheet_merged_l2_ok n, trivial⟩⟩ (by kernel_rfl) (by kernel_rfl)) (fsheet_merged_rd n)
def fsheet_Merge_D : List (Nat × C) := [(0, .l 28)]
def fsheet_Merge_E : List Wo := [⟨.ret, [], [], [.l 93, .s 3]⟩]
def fsheet_Merge (n : Nat) (lists : List (List Record)) : Option ((List Record × Int × Unit)) :=
    (fsheet_merged n lists).bind fun v0 =>
    bif v0.snd.fst != 0 then (some ([], (v0.snd.fst, ()))) else
    bif decide ((↑v0.fst.length : Int) > 60) then (some ([], (3, ()))) else
    some (v0.fst, (0, ()))
def fsheet_Merge_F (n : Nat) (y : C.Ds Ty (snds fsheet_Merge_D)) : Option (YT Ty fsheet_Merge_E) := fsheet_Merge n y.1
noncomputable def fsheet_Merge_law (n : Nat) : Law Ty := lawC fsheet_Merge_D 0 fsheet_Merge_E (fsheet_Merge_F n)
noncomputable def fsheet_Merge_T (n : Nat) : List (Nat × Law Ty) := [(81, fsheet_merged_law n)]
theorem fsheet_Merge_Tok (n : Nat) : LawsOk Tryz.prog (fsheet_Merge_T n) := ⟨fsheet_merged_lawOk n, trivial⟩
noncomputable def fsheet_Merge_C (n : Nat) : CutL Ty := []
theorem fsheet_Merge_rd (n : Nat) (x : C.Ds Ty (snds fsheet_Merge_D)) : (exec Tryz.prog 20 (callT Tryz.prog (fsheet_Merge_T n) []) (cutsOf (fsheet_Merge_C n)) (codeOf Tryz.f312) (embS fsheet_Merge_D x)).runK (typeRt Tryz.prog Tryz.f312.results.toList 0 fsheet_Merge_E) = fsheet_Merge_F n x := by kernel_rfl
theorem fsheet_Merge_lawOk (n : Nat) : LawOk Tryz.prog 312 (fsheet_Merge_law n) := law_ok Tryz.func312 rfl rfl (by decide) rfl prog_noRow prog_mix (callT_ok prog_noRow prog_mix (fsheet_Merge_Tok n) insNil) (cuts_ok (fn := Tryz.f312) (L := fsheet_Merge_C n) (ks := []) trivial (by kernel_rfl) (by kernel_rfl)) (fsheet_Merge_rd n)
def fgarage_with_Record_D : List (Nat × C) := [(0, .l 93), (1, .g 93)]
def fgarage_with_Record_E : List Wo := [⟨.ret, [], [], [.l 93]⟩]
def fgarage_with_Record (n : Nat) (l : List Record) (x : Record) : Option ((List Record × Unit)) :=
    (clone93 n l).bind fun v0 =>
    (app v0.fst [x]).bind fun v1 =>
    some (v1, ())
def fgarage_with_Record_F (n : Nat) (y : C.Ds Ty (snds fgarage_with_Record_D)) : Option (YT Ty fgarage_with_Record_E) := fgarage_with_Record n y.1 y.2.1
noncomputable def fgarage_with_Record_law (n : Nat) : Law Ty := lawC fgarage_with_Record_D 0 fgarage_with_Record_E (fgarage_with_Record_F n)
noncomputable def fgarage_with_Record_T (n : Nat) : List (Nat × Law Ty) := [(342, clone93_law n)]
theorem fgarage_with_Record_Tok (n : Nat) : LawsOk Tryz.prog (fgarage_with_Record_T n) := ⟨clone93_lawOk n, trivial⟩
noncomputable def fgarage_with_Record_C (n : Nat) : CutL Ty := []
theorem fgarage_with_Record_rd (n : Nat) (x : C.Ds Ty (snds fgarage_with_Record_D)) : (exec Tryz.prog 10 (callT Tryz.prog (fgarage_with_Record_T n) []) (cutsOf (fgarage_with_Record_C n)) (codeOf Tryz.f313) (embS fgarage_with_Record_D x)).runK (typeRt Tryz.prog Tryz.f313.results.toList 0 fgarage_with_Record_E) = fgarage_with_Record_F n x := by kernel_rfl
theorem fgarage_with_Record_lawOk (n : Nat) : LawOk Tryz.prog 313 (fgarage_with_Record_law n) := law_ok Tryz.func313 rfl rfl (by decide) rfl prog_noRow prog_mix (callT_ok prog_noRow prog_mix (fgarage_with_Record_Tok n) insNil) (cuts_ok (fn := Tryz.f313) (L := fgarage_with_Record_C n) (ks := []) trivial (by kernel_rfl) (by kernel_rfl)) (fgarage_with_Record_rd n)
def fgarage_session_record_D : List (Nat × C) := [(0, .u 114), (1, .g 93)]
def fgarage_session_record_E : List Wo := [⟨.ret, [.u 114], [], []⟩, ⟨.pan, [.u 114], [], [.i 234 (.g 234)]⟩]
def fgarage_session_record (n : Nat) (g : Session) (r : Record) : Option ((Session × Unit) ⊕ ((Session × Refused × Unit))) :=
    (fslices_Contains_Record n g.state.records r).bind fun v0 =>
    (fgarage_ask n (!v0.fst) 6).bind fun v1 =>
    Sum.elim (fun v2 => (fsheet_Merge n [g.state.records, [r]]).bind fun v3 =>
    (fgarage_must n v3.snd.fst).bind fun v4 =>
    Sum.elim (fun v5 => (fgarage_with_Record n g.state.records r).bind fun v6 =>
    some (.inl (Session.mk (State.mk g.state.cards g.state.outs g.state.runs v6.fst g.state.week g.state.roster), ()))) (fun v5 => some (.inr (g, (v5.fst, ())))) (v4)) (fun v2 => some (.inr (g, (v2.fst, ())))) (v1)
def fgarage_session_record_F (n : Nat) (y : C.Ds Ty (snds fgarage_session_record_D)) : Option (YT Ty fgarage_session_record_E) := fgarage_session_record n y.1 y.2.1
noncomputable def fgarage_session_record_law (n : Nat) : Law Ty := lawC fgarage_session_record_D 1 fgarage_session_record_E (fgarage_session_record_F n)
noncomputable def fgarage_session_record_T (n : Nat) : List (Nat × Law Ty) := [(311, fslices_Contains_Record_law n), (139, fgarage_ask_law n), (312, fsheet_Merge_law n), (259, fgarage_must_law n), (313, fgarage_with_Record_law n)]
theorem fgarage_session_record_Tok (n : Nat) : LawsOk Tryz.prog (fgarage_session_record_T n) := ⟨fslices_Contains_Record_lawOk n, ⟨fgarage_ask_lawOk n, ⟨fsheet_Merge_lawOk n, ⟨fgarage_must_lawOk n, ⟨fgarage_with_Record_lawOk n, trivial⟩⟩⟩⟩⟩
noncomputable def fgarage_session_record_C (n : Nat) : CutL Ty := []
theorem fgarage_session_record_rd (n : Nat) (x : C.Ds Ty (snds fgarage_session_record_D)) : (exec Tryz.prog 40 (callT Tryz.prog (fgarage_session_record_T n) []) (cutsOf (fgarage_session_record_C n)) (codeOf Tryz.f264) (embS fgarage_session_record_D x)).runK (typeRt Tryz.prog Tryz.f264.results.toList 1 fgarage_session_record_E) = fgarage_session_record_F n x := by kernel_rfl
theorem fgarage_session_record_lawOk (n : Nat) : LawOk Tryz.prog 264 (fgarage_session_record_law n) := law_ok Tryz.func264 rfl rfl (by decide) rfl prog_noRow prog_mix (callT_ok prog_noRow prog_mix (fgarage_session_record_Tok n) insNil) (cuts_ok (fn := Tryz.f264) (L := fgarage_session_record_C n) (ks := []) trivial (by kernel_rfl) (by kernel_rfl)) (fgarage_session_record_rd n)
def fgarage_session_sale_D : List (Nat × C) := [(0, .u 114), (1, .v 3)]
def fgarage_session_sale_E : List Wo := [⟨.ret, [.u 114], [], []⟩, ⟨.pan, [.u 114], [], [.i 234 (.g 234)]⟩]
def fgarage_session_sale (n : Nat) (g : Session) (n_ : List Int) : Option ((Session × Unit) ⊕ ((Session × Refused × Unit))) :=
    bif n_.length.beq 5 then ((idx n_ 0).bind fun v0 =>
    (n_.get?Internal (Int.toNat 0)).bind fun v1 =>
    bif n_.length.beq 5 then ((idx n_ 1).bind fun v2 =>
    (n_.get?Internal (Int.toNat 1)).bind fun v3 =>
    bif n_.length.beq 5 then ((idx n_ 2).bind fun v4 =>
    (n_.get?Internal (Int.toNat 2)).bind fun v5 =>
    bif n_.length.beq 5 then ((idx n_ 3).bind fun v6 =>
    (n_.get?Internal (Int.toNat 3)).bind fun v7 =>
    bif n_.length.beq 5 then ((idx n_ 4).bind fun v8 =>
    (n_.get?Internal (Int.toNat 4)).bind fun v9 =>
    (fgarage_session_record n g (Record.mk v1 v3 v5 (IK.mk 0) v7 v9)).bind fun v10 =>
    Sum.elim (fun v11 => some (.inl (v11.fst, ()))) (fun v11 => some (.inr (v11.fst, (v11.snd.fst, ())))) (v10)) else
    none) else
    none) else
    none) else
    none) else
    none
def fgarage_session_sale_F (n : Nat) (y : C.Ds Ty (snds fgarage_session_sale_D)) : Option (YT Ty fgarage_session_sale_E) := fgarage_session_sale n y.1 y.2.1
noncomputable def fgarage_session_sale_law (n : Nat) : Law Ty := lawC fgarage_session_sale_D 1 fgarage_session_sale_E (fgarage_session_sale_F n)
noncomputable def fgarage_session_sale_T (n : Nat) : List (Nat × Law Ty) := [(264, fgarage_session_record_law n)]
theorem fgarage_session_sale_Tok (n : Nat) : LawsOk Tryz.prog (fgarage_session_sale_T n) := ⟨fgarage_session_record_lawOk n, trivial⟩
noncomputable def fgarage_session_sale_C (n : Nat) : CutL Ty := []
theorem fgarage_session_sale_rd (n : Nat) (x : C.Ds Ty (snds fgarage_session_sale_D)) : (exec Tryz.prog 17 (callT Tryz.prog (fgarage_session_sale_T n) []) (cutsOf (fgarage_session_sale_C n)) (codeOf Tryz.f195) (embS fgarage_session_sale_D x)).runK (typeRt Tryz.prog Tryz.f195.results.toList 1 fgarage_session_sale_E) = fgarage_session_sale_F n x := by kernel_rfl
theorem fgarage_session_sale_lawOk (n : Nat) : LawOk Tryz.prog 195 (fgarage_session_sale_law n) := law_ok Tryz.func195 rfl rfl (by decide) rfl prog_noRow prog_mix (callT_ok prog_noRow prog_mix (fgarage_session_sale_Tok n) insNil) (cuts_ok (fn := Tryz.f195) (L := fgarage_session_sale_C n) (ks := []) trivial (by kernel_rfl) (by kernel_rfl)) (fgarage_session_sale_rd n)
def fgarage_session_sync_D : List (Nat × C) := [(0, .u 114), (1, .v 3)]
def fgarage_session_sync_E : List Wo := [⟨.ret, [.u 114], [], []⟩, ⟨.pan, [.u 114], [], [.i 234 (.g 234)]⟩]
def fgarage_session_sync (n : Nat) (g : Session) (n_ : List Int) : Option ((Session × Unit) ⊕ ((Session × Refused × Unit))) :=
    bif n_.length.beq 5 then ((idx n_ 0).bind fun v0 =>
    (n_.get?Internal (Int.toNat 0)).bind fun v1 =>
    bif n_.length.beq 5 then ((idx n_ 1).bind fun v2 =>
    (n_.get?Internal (Int.toNat 1)).bind fun v3 =>
    bif n_.length.beq 5 then ((idx n_ 2).bind fun v4 =>
    (n_.get?Internal (Int.toNat 2)).bind fun v5 =>
    bif n_.length.beq 5 then ((idx n_ 3).bind fun v6 =>
    (n_.get?Internal (Int.toNat 3)).bind fun v7 =>
    (fgarage_session_record n g (Record.mk v1 v3 v5 (IK.mk 1) v7 0)).bind fun v8 =>
    Sum.elim (fun v9 => some (.inl (v9.fst, ()))) (fun v9 => some (.inr (v9.fst, (v9.snd.fst, ())))) (v8)) else
    none) else
    none) else
    none) else
    none
def fgarage_session_sync_F (n : Nat) (y : C.Ds Ty (snds fgarage_session_sync_D)) : Option (YT Ty fgarage_session_sync_E) := fgarage_session_sync n y.1 y.2.1
noncomputable def fgarage_session_sync_law (n : Nat) : Law Ty := lawC fgarage_session_sync_D 1 fgarage_session_sync_E (fgarage_session_sync_F n)
noncomputable def fgarage_session_sync_T (n : Nat) : List (Nat × Law Ty) := [(264, fgarage_session_record_law n)]
theorem fgarage_session_sync_Tok (n : Nat) : LawsOk Tryz.prog (fgarage_session_sync_T n) := ⟨fgarage_session_record_lawOk n, trivial⟩
noncomputable def fgarage_session_sync_C (n : Nat) : CutL Ty := []
theorem fgarage_session_sync_rd (n : Nat) (x : C.Ds Ty (snds fgarage_session_sync_D)) : (exec Tryz.prog 15 (callT Tryz.prog (fgarage_session_sync_T n) []) (cutsOf (fgarage_session_sync_C n)) (codeOf Tryz.f196) (embS fgarage_session_sync_D x)).runK (typeRt Tryz.prog Tryz.f196.results.toList 1 fgarage_session_sync_E) = fgarage_session_sync_F n x := by kernel_rfl
theorem fgarage_session_sync_lawOk (n : Nat) : LawOk Tryz.prog 196 (fgarage_session_sync_law n) := law_ok Tryz.func196 rfl rfl (by decide) rfl prog_noRow prog_mix (callT_ok prog_noRow prog_mix (fgarage_session_sync_Tok n) insNil) (cuts_ok (fn := Tryz.f196) (L := fgarage_session_sync_C n) (ks := []) trivial (by kernel_rfl) (by kernel_rfl)) (fgarage_session_sync_rd n)
def fgarage_session_close_D : List (Nat × C) := [(0, .u 114), (1, .v 3)]
def fgarage_session_close_E : List Wo := [⟨.ret, [.u 114], [], []⟩, ⟨.pan, [.u 114], [], [.i 234 (.g 234)]⟩]
def fgarage_session_close (n : Nat) (g : Session) (n_ : List Int) : Option ((Session × Unit) ⊕ ((Session × Refused × Unit))) :=
    bif n_.length.beq 5 then ((idx n_ 0).bind fun v0 =>
    (n_.get?Internal (Int.toNat 0)).bind fun v1 =>
    bif n_.length.beq 5 then ((idx n_ 1).bind fun v2 =>
    (n_.get?Internal (Int.toNat 1)).bind fun v3 =>
    bif n_.length.beq 5 then ((idx n_ 2).bind fun v4 =>
    (n_.get?Internal (Int.toNat 2)).bind fun v5 =>
    bif n_.length.beq 5 then ((idx n_ 3).bind fun v6 =>
    (n_.get?Internal (Int.toNat 3)).bind fun v7 =>
    bif n_.length.beq 5 then ((idx n_ 4).bind fun v8 =>
    (n_.get?Internal (Int.toNat 4)).bind fun v9 =>
    (fgarage_session_record n g (Record.mk v1 v3 v5 (IK.mk 2) v7 v9)).bind fun v10 =>
    Sum.elim (fun v11 => some (.inl (v11.fst, ()))) (fun v11 => some (.inr (v11.fst, (v11.snd.fst, ())))) (v10)) else
    none) else
    none) else
    none) else
    none) else
    none
def fgarage_session_close_F (n : Nat) (y : C.Ds Ty (snds fgarage_session_close_D)) : Option (YT Ty fgarage_session_close_E) := fgarage_session_close n y.1 y.2.1
noncomputable def fgarage_session_close_law (n : Nat) : Law Ty := lawC fgarage_session_close_D 1 fgarage_session_close_E (fgarage_session_close_F n)
noncomputable def fgarage_session_close_T (n : Nat) : List (Nat × Law Ty) := [(264, fgarage_session_record_law n)]
theorem fgarage_session_close_Tok (n : Nat) : LawsOk Tryz.prog (fgarage_session_close_T n) := ⟨fgarage_session_record_lawOk n, trivial⟩
noncomputable def fgarage_session_close_C (n : Nat) : CutL Ty := []
theorem fgarage_session_close_rd (n : Nat) (x : C.Ds Ty (snds fgarage_session_close_D)) : (exec Tryz.prog 17 (callT Tryz.prog (fgarage_session_close_T n) []) (cutsOf (fgarage_session_close_C n)) (codeOf Tryz.f197) (embS fgarage_session_close_D x)).runK (typeRt Tryz.prog Tryz.f197.results.toList 1 fgarage_session_close_E) = fgarage_session_close_F n x := by kernel_rfl
theorem fgarage_session_close_lawOk (n : Nat) : LawOk Tryz.prog 197 (fgarage_session_close_law n) := law_ok Tryz.func197 rfl rfl (by decide) rfl prog_noRow prog_mix (callT_ok prog_noRow prog_mix (fgarage_session_close_Tok n) insNil) (cuts_ok (fn := Tryz.f197) (L := fgarage_session_close_C n) (ks := []) trivial (by kernel_rfl) (by kernel_rfl)) (fgarage_session_close_rd n)
def fgarage_with_Driver_D : List (Nat × C) := [(0, .l 186), (1, .g 186)]
def fgarage_with_Driver_E : List Wo := [⟨.ret, [], [], [.l 186]⟩]
def fgarage_with_Driver (n : Nat) (l : List Driver) (x : Driver) : Option ((List Driver × Unit)) :=
    (clone186 n l).bind fun v0 =>
    (app v0.fst [x]).bind fun v1 =>
    some (v1, ())
def fgarage_with_Driver_F (n : Nat) (y : C.Ds Ty (snds fgarage_with_Driver_D)) : Option (YT Ty fgarage_with_Driver_E) := fgarage_with_Driver n y.1 y.2.1
noncomputable def fgarage_with_Driver_law (n : Nat) : Law Ty := lawC fgarage_with_Driver_D 0 fgarage_with_Driver_E (fgarage_with_Driver_F n)
noncomputable def fgarage_with_Driver_T (n : Nat) : List (Nat × Law Ty) := [(314, clone186_law n)]
theorem fgarage_with_Driver_Tok (n : Nat) : LawsOk Tryz.prog (fgarage_with_Driver_T n) := ⟨clone186_lawOk n, trivial⟩
noncomputable def fgarage_with_Driver_C (n : Nat) : CutL Ty := []
theorem fgarage_with_Driver_rd (n : Nat) (x : C.Ds Ty (snds fgarage_with_Driver_D)) : (exec Tryz.prog 10 (callT Tryz.prog (fgarage_with_Driver_T n) []) (cutsOf (fgarage_with_Driver_C n)) (codeOf Tryz.f265) (embS fgarage_with_Driver_D x)).runK (typeRt Tryz.prog Tryz.f265.results.toList 0 fgarage_with_Driver_E) = fgarage_with_Driver_F n x := by kernel_rfl
theorem fgarage_with_Driver_lawOk (n : Nat) : LawOk Tryz.prog 265 (fgarage_with_Driver_law n) := law_ok Tryz.func265 rfl rfl (by decide) rfl prog_noRow prog_mix (callT_ok prog_noRow prog_mix (fgarage_with_Driver_Tok n) insNil) (cuts_ok (fn := Tryz.f265) (L := fgarage_with_Driver_C n) (ks := []) trivial (by kernel_rfl) (by kernel_rfl)) (fgarage_with_Driver_rd n)
def froster_Week_duty_D : List (Nat × C) := [(0, .g 32), (1, .g 184)]
def froster_Week_duty_E : List Wo := [⟨.ret, [], [], [.s 4]⟩]
def froster_Week_duty (n : Nat) (w : Week) (d : Duty) : Option ((Bool × Unit)) :=
    bif decide (0 ≤ d.day) then (bif decide (d.day ≤ IntKind.i64.wrap (w.days - 1)) then (bif decide (0 ≤ d.on) then (bif decide (d.on ≤ 1439) then (bif decide (d.on ≤ d.off.lo) then (bif decide (d.off.lo ≤ d.off.hi) then (bif decide (d.off.hi ≤ IntKind.i64.wrap (d.on + 1440)) then (bif decide (0 ≤ d.route) then (some (decide (d.route ≤ 15), ())) else
    some (false, ())) else
    some (false, ())) else
    some (false, ())) else
    some (false, ())) else
    some (false, ())) else
    some (false, ())) else
    some (false, ())) else
    some (false, ())
def froster_Week_duty_F (n : Nat) (y : C.Ds Ty (snds froster_Week_duty_D)) : Option (YT Ty froster_Week_duty_E) := froster_Week_duty n y.1 y.2.1
noncomputable def froster_Week_duty_law (n : Nat) : Law Ty := lawC froster_Week_duty_D 0 froster_Week_duty_E (froster_Week_duty_F n)
noncomputable def froster_Week_duty_T (n : Nat) : List (Nat × Law Ty) := []
theorem froster_Week_duty_Tok (n : Nat) : LawsOk Tryz.prog (froster_Week_duty_T n) := trivial
noncomputable def froster_Week_duty_C (n : Nat) : CutL Ty := []
theorem froster_Week_duty_rd (n : Nat) (x : C.Ds Ty (snds froster_Week_duty_D)) : (exec Tryz.prog 47 (callT Tryz.prog (froster_Week_duty_T n) []) (cutsOf (froster_Week_duty_C n)) (codeOf Tryz.f116) (embS froster_Week_duty_D x)).runK (typeRt Tryz.prog Tryz.f116.results.toList 0 froster_Week_duty_E) = froster_Week_duty_F n x := by kernel_rfl
theorem froster_Week_duty_lawOk (n : Nat) : LawOk Tryz.prog 116 (froster_Week_duty_law n) := law_ok Tryz.func116 rfl rfl (by decide) rfl prog_noRow prog_mix (callT_ok prog_noRow prog_mix (froster_Week_duty_Tok n) insNil) (cuts_ok (fn := Tryz.f116) (L := froster_Week_duty_C n) (ks := []) trivial (by kernel_rfl) (by kernel_rfl)) (froster_Week_duty_rd n)
def froster_rises_l1_D : List (Nat × C) := [(0, .l 3), (1, .s 3), (2, .s 3), (9, .l 3), (10, .s 3), (11, .s 3)]
def froster_rises_l1_E : List Wo := [⟨.exit 0, [], [], []⟩, ⟨.ret, [], [(6, .s 4)], []⟩]
def froster_rises_D : List (Nat × C) := [(0, .l 3), (1, .s 3), (2, .s 3)]
def froster_rises_E : List Wo := [⟨.ret, [], [], [.s 4]⟩]
def froster_rises_l1 : Nat → (List Int) → Int → Int → (List Int) → Int → Int → Option (Unit ⊕ ((Bool × Unit)))
  | 0, _, _, _, _, _, _ => none
  | n + 1, l, low, high, x9, x10, x11 =>
    bif decide (x11 < x10) then ((idx x9 x11).bind fun v0 =>
    bif decide (low ≤ v0) then (bif !!decide (v0 ≤ high) then (bif decide (x11 > 0) then ((idx l (IntKind.i64.wrap (x11 - 1))).bind fun v1 =>
    bif decide (v0 ≤ v1) then (some (.inr (false, ()))) else
    froster_rises_l1 n l low high x9 x10 (IntKind.i64.wrap (x11 + 1))) else
    froster_rises_l1 n l low high x9 x10 (IntKind.i64.wrap (x11 + 1))) else
    some (.inr (false, ()))) else
    some (.inr (false, ()))) else
    some (.inl ())
def froster_rises_l1_F (n : Nat) (y : C.Ds Ty (snds froster_rises_l1_D)) : Option (YT Ty froster_rises_l1_E) := froster_rises_l1 n y.1 y.2.1 y.2.2.1 y.2.2.2.1 y.2.2.2.2.1 y.2.2.2.2.2.1
noncomputable def froster_rises_l1_cut (n : Nat) : St Ty → Tr (Lf Ty) := cutC froster_rises_l1_D 0 froster_rises_l1_E (froster_rises_l1_F n)
def froster_rises (n : Nat) (l : List Int) (low : Int) (high : Int) : Option ((Bool × Unit)) :=
    (froster_rises_l1 n l low high l (↑l.length : Int) 0).bind fun v0 =>
    Sum.elim (fun v1 => some (true, ())) (fun v1 => some (v1.fst, ())) (v0)
def froster_rises_F (n : Nat) (y : C.Ds Ty (snds froster_rises_D)) : Option (YT Ty froster_rises_E) := froster_rises n y.1 y.2.1 y.2.2.1
noncomputable def froster_rises_law (n : Nat) : Law Ty := readC (lawC froster_rises_D 0 froster_rises_E (froster_rises_F n))
noncomputable def froster_rises_T (n : Nat) : List (Nat × Law Ty) := []
theorem froster_rises_Tok (n : Nat) : LawsOk Tryz.prog (froster_rises_T n) := trivial
noncomputable def froster_rises_l1_C (n : Nat) : CutL Ty := []
theorem froster_rises_l1_rd (n : Nat) (x : C.Ds Ty (snds froster_rises_l1_D)) : (exec Tryz.prog 35 (callT Tryz.prog (froster_rises_T n) []) (cutsOf (froster_rises_l1_C n)) (bodyAt 2 Tryz.f172) (embS froster_rises_l1_D x)).runK (typeRd 0 froster_rises_l1_D froster_rises_l1_E (froster_rises_l1_F n)) = froster_rises_l1_F (n + 1) x := by kernel_rfl
theorem froster_rises_l1_ok (n : Nat) : CutOk true Tryz.prog 35 (froster_rises_l1_cut n) (.loop (bodyAt 2 Tryz.f172)) := cut_ok fun x y hy => can_loop (Fn := froster_rises_l1_F) prog_noRow prog_mix (fun n => callT_ok prog_noRow prog_mix (froster_rises_Tok n) insNil) (fun h => by cases h) (fun h => by cases h) (fun n => (cuts_ok (fn := Tryz.f172) (L := froster_rises_l1_C n) (ks := []) trivial (by kernel_rfl) (by kernel_rfl))) (by decide) (fun _ => rfl) froster_rises_l1_rd hy
noncomputable def froster_rises_C (n : Nat) : CutL Ty := [(.loop 2, froster_rises_l1_cut n)]
theorem froster_rises_rd (n : Nat) (x : C.Ds Ty (snds froster_rises_D)) : (exec Tryz.prog 35 (callT Tryz.prog (froster_rises_T n) []) (cutsOf (froster_rises_C n)) (codeOf Tryz.f172) (embS froster_rises_D x)).runK (typeRt Tryz.prog Tryz.f172.results.toList 0 froster_rises_E) = froster_rises_F n x := by kernel_rfl
theorem froster_rises_lawOk (n : Nat) : LawOk Tryz.prog 172 (froster_rises_law n) := readC_ok (law_ok Tryz.func172 rfl rfl (by decide) rfl prog_noRow prog_mix (callT_ok prog_noRow prog_mix (froster_rises_Tok n) insNil) (cuts_ok (fn := Tryz.f172) (L := froster_rises_C n) (ks := [.loop 2]) ⟨froster_rises_l1_ok n, trivial⟩ (by kernel_rfl) (by kernel_rfl)) (froster_rises_rd n))
def froster_Week_driver_D : List (Nat × C) := [(0, .g 32), (1, .g 186)]
def froster_Week_driver_E : List Wo := [⟨.ret, [], [], [.s 4]⟩]
def froster_Week_driver (n : Nat) (w : Week) (d : Driver) : Option ((Bool × Unit)) :=
    (froster_rises n d.knows 0 15).bind fun v0 =>
    bif v0.fst then ((froster_rises n d.leave 0 (IntKind.i64.wrap (w.days - 1))).bind fun v1 =>
    bif v1.fst then ((froster_rises n d.wish 0 (IntKind.i64.wrap (w.days - 1))).bind fun v2 =>
    bif v2.fst then (bif decide (-10080 ≤ d.off) then (bif decide (d.off ≤ 1440) then (bif decide (0 ≤ d.row) then (bif decide (d.row ≤ 14) then (bif decide (0 ≤ d.used) then (some (decide (d.used ≤ w.hours), ())) else
    some (false, ())) else
    some (false, ())) else
    some (false, ())) else
    some (false, ())) else
    some (false, ())) else
    some (false, ())) else
    some (false, ())) else
    some (false, ())
def froster_Week_driver_F (n : Nat) (y : C.Ds Ty (snds froster_Week_driver_D)) : Option (YT Ty froster_Week_driver_E) := froster_Week_driver n y.1 y.2.1
noncomputable def froster_Week_driver_law (n : Nat) : Law Ty := lawC froster_Week_driver_D 0 froster_Week_driver_E (froster_Week_driver_F n)
noncomputable def froster_Week_driver_T (n : Nat) : List (Nat × Law Ty) := [(172, froster_rises_law n)]
theorem froster_Week_driver_Tok (n : Nat) : LawsOk Tryz.prog (froster_Week_driver_T n) := ⟨froster_rises_lawOk n, trivial⟩
noncomputable def froster_Week_driver_C (n : Nat) : CutL Ty := []
theorem froster_Week_driver_rd (n : Nat) (x : C.Ds Ty (snds froster_Week_driver_D)) : (exec Tryz.prog 41 (callT Tryz.prog (froster_Week_driver_T n) []) (cutsOf (froster_Week_driver_C n)) (codeOf Tryz.f118) (embS froster_Week_driver_D x)).runK (typeRt Tryz.prog Tryz.f118.results.toList 0 froster_Week_driver_E) = froster_Week_driver_F n x := by kernel_rfl
theorem froster_Week_driver_lawOk (n : Nat) : LawOk Tryz.prog 118 (froster_Week_driver_law n) := law_ok Tryz.func118 rfl rfl (by decide) rfl prog_noRow prog_mix (callT_ok prog_noRow prog_mix (froster_Week_driver_Tok n) insNil) (cuts_ok (fn := Tryz.f118) (L := froster_Week_driver_C n) (ks := []) trivial (by kernel_rfl) (by kernel_rfl)) (froster_Week_driver_rd n)
def froster_CheckWeek_i1_D : List (Nat × C) := [(0, .l 184), (1, .f 169 [] [.p 0 [.f 116 [.g 32] []]]), (7, .s 3), (8, .s 3)]
def froster_CheckWeek_i1_E : List Wo := [⟨.exit 0, [.p 0 [.f 116 [.g 32] []]], [], []⟩, ⟨.ret, [.p 0 [.f 116 [.g 32] []]], [(4, .s 3)], []⟩]
def froster_CheckWeek_i2_D : List (Nat × C) := [(0, .l 186), (1, .f 171 [] [.p 0 [.f 118 [.g 32] []]]), (7, .s 3), (8, .s 3)]
def froster_CheckWeek_i2_E : List Wo := [⟨.exit 0, [.p 0 [.f 118 [.g 32] []]], [], []⟩, ⟨.ret, [.p 0 [.f 118 [.g 32] []]], [(4, .s 3)], []⟩]
def froster_CheckWeek_D : List (Nat × C) := [(0, .g 32)]
def froster_CheckWeek_E : List Wo := [⟨.ret, [], [], [.s 3]⟩]
def froster_CheckWeek_i1 : Nat → (List Duty) → Week → Int → Int → Option (((((Week × Unit) × Unit) × Unit) × Unit) ⊕ (((((Week × Unit) × Unit) × Unit) × Int × Unit)))
  | 0, _, _, _, _ => none
  | n + 1, s, f, x7, x8 =>
    bif decide (x8 < x7) then ((idx s x8).bind fun v0 =>
    (froster_Week_duty n f v0).bind fun v1 =>
    bif !v1.fst then (some (.inr ((((f, ()), ()), ()), (x8, ())))) else
    froster_CheckWeek_i1 n s f x7 (IntKind.i64.wrap (x8 + 1))) else
    some (.inl ((((f, ()), ()), ()), ()))
def froster_CheckWeek_i1_F (n : Nat) (y : C.Ds Ty (snds froster_CheckWeek_i1_D)) : Option (YT Ty froster_CheckWeek_i1_E) := froster_CheckWeek_i1 n y.1 y.2.1.2.1.1.1.1 y.2.2.1 y.2.2.2.1
noncomputable def froster_CheckWeek_i1_cut (n : Nat) : St Ty → Tr (Lf Ty) := cutC froster_CheckWeek_i1_D 1 froster_CheckWeek_i1_E (froster_CheckWeek_i1_F n)
def froster_CheckWeek_i2 : Nat → (List Driver) → Week → Int → Int → Option (((((Week × Unit) × Unit) × Unit) × Unit) ⊕ (((((Week × Unit) × Unit) × Unit) × Int × Unit)))
  | 0, _, _, _, _ => none
  | n + 1, s, f, x7, x8 =>
    bif decide (x8 < x7) then ((idx s x8).bind fun v0 =>
    (froster_Week_driver n f v0).bind fun v1 =>
    bif !v1.fst then (some (.inr ((((f, ()), ()), ()), (x8, ())))) else
    froster_CheckWeek_i2 n s f x7 (IntKind.i64.wrap (x8 + 1))) else
    some (.inl ((((f, ()), ()), ()), ()))
def froster_CheckWeek_i2_F (n : Nat) (y : C.Ds Ty (snds froster_CheckWeek_i2_D)) : Option (YT Ty froster_CheckWeek_i2_E) := froster_CheckWeek_i2 n y.1 y.2.1.2.1.1.1.1 y.2.2.1 y.2.2.2.1
noncomputable def froster_CheckWeek_i2_cut (n : Nat) : St Ty → Tr (Lf Ty) := cutC froster_CheckWeek_i2_D 1 froster_CheckWeek_i2_E (froster_CheckWeek_i2_F n)
def froster_CheckWeek (n : Nat) (w : Week) : Option ((Int × Unit)) :=
    bif !decide ((↑w.duties.length : Int) > 12) then (bif decide ((↑w.drivers.length : Int) > 6) then (some (3, ())) else
    bif decide (1 ≤ w.days) then (bif !!decide (w.days ≤ 7) then (bif decide (0 ≤ w.rest) then (bif !!decide (w.rest ≤ 3000) then (bif decide (1 ≤ w.run) then (bif !!decide (w.run ≤ 14) then (bif decide (0 ≤ w.hours) then (bif !decide (w.hours ≤ 20000) then (some (1, ())) else
    (froster_CheckWeek_i1 n w.duties w (↑w.duties.length : Int) 0).bind fun v0 =>
    Sum.elim (fun v1 => (froster_CheckWeek_i2 n w.drivers w (↑w.drivers.length : Int) 0).bind fun v2 =>
    Sum.elim (fun v3 => some (0, ())) (fun v3 => bif !!decide (v3.snd.fst ≥ 0) then (some (1, ())) else
    some (0, ())) (v2)) (fun v1 => bif !!!decide (v1.snd.fst ≥ 0) then ((froster_CheckWeek_i2 n w.drivers w (↑w.drivers.length : Int) 0).bind fun v2 =>
    Sum.elim (fun v3 => some (0, ())) (fun v3 => bif !!decide (v3.snd.fst ≥ 0) then (some (1, ())) else
    some (0, ())) (v2)) else
    some (1, ())) (v0)) else
    some (1, ())) else
    some (1, ())) else
    some (1, ())) else
    some (1, ())) else
    some (1, ())) else
    some (1, ())) else
    some (1, ())) else
    some (3, ())
def froster_CheckWeek_F (n : Nat) (y : C.Ds Ty (snds froster_CheckWeek_D)) : Option (YT Ty froster_CheckWeek_E) := froster_CheckWeek n y.1
noncomputable def froster_CheckWeek_law (n : Nat) : Law Ty := lawC froster_CheckWeek_D 0 froster_CheckWeek_E (froster_CheckWeek_F n)
noncomputable def froster_CheckWeek_T (n : Nat) : List (Nat × Law Ty) := [(116, froster_Week_duty_law n), (118, froster_Week_driver_law n)]
theorem froster_CheckWeek_Tok (n : Nat) : LawsOk Tryz.prog (froster_CheckWeek_T n) := ⟨froster_Week_duty_lawOk n, ⟨froster_Week_driver_lawOk n, trivial⟩⟩
noncomputable def froster_CheckWeek_i1_C (n : Nat) : CutL Ty := []
theorem froster_CheckWeek_i1_rd (n : Nat) (x : C.Ds Ty (snds froster_CheckWeek_i1_D)) : (exec Tryz.prog 19 (callT Tryz.prog (froster_CheckWeek_T n) []) (cutsOf (froster_CheckWeek_i1_C n)) (bodyAt 2 Tryz.f234) (embS froster_CheckWeek_i1_D x)).runK (typeRd 1 froster_CheckWeek_i1_D froster_CheckWeek_i1_E (froster_CheckWeek_i1_F n)) = froster_CheckWeek_i1_F (n + 1) x := by kernel_rfl
theorem froster_CheckWeek_i1_ok (n : Nat) : CutOk true Tryz.prog 19 (froster_CheckWeek_i1_cut n) (.loop (bodyAt 2 Tryz.f234)) := cut_ok fun x y hy => can_loop (Fn := froster_CheckWeek_i1_F) prog_noRow prog_mix (fun n => callT_ok prog_noRow prog_mix (froster_CheckWeek_Tok n) insNil) (fun h => by cases h) (fun h => by cases h) (fun n => (cuts_ok (fn := Tryz.f234) (L := froster_CheckWeek_i1_C n) (ks := []) trivial (by kernel_rfl) (by kernel_rfl))) (by decide) (fun _ => rfl) froster_CheckWeek_i1_rd hy
noncomputable def froster_CheckWeek_J1 (n : Nat) : InsL Ty := [(234, [(.loop 2, froster_CheckWeek_i1_cut n)])]
theorem froster_CheckWeek_J1ok (n : Nat) : InsOk Tryz.prog (froster_CheckWeek_J1 n) := ⟨ins_one (f := 234) Tryz.func234 rfl (cuts_ok (fn := Tryz.f234) (L := [(.loop 2, froster_CheckWeek_i1_cut n)]) (ks := [.loop 2]) ⟨froster_CheckWeek_i1_ok n, trivial⟩ (by kernel_rfl) (by kernel_rfl)), trivial⟩
noncomputable def froster_CheckWeek_i2_C (n : Nat) : CutL Ty := []
theorem froster_CheckWeek_i2_rd (n : Nat) (x : C.Ds Ty (snds froster_CheckWeek_i2_D)) : (exec Tryz.prog 19 (callT Tryz.prog (froster_CheckWeek_T n) (froster_CheckWeek_J1 n)) (cutsOf (froster_CheckWeek_i2_C n)) (bodyAt 2 Tryz.f235) (embS froster_CheckWeek_i2_D x)).runK (typeRd 1 froster_CheckWeek_i2_D froster_CheckWeek_i2_E (froster_CheckWeek_i2_F n)) = froster_CheckWeek_i2_F (n + 1) x := by kernel_rfl
theorem froster_CheckWeek_i2_ok (n : Nat) : CutOk true Tryz.prog 19 (froster_CheckWeek_i2_cut n) (.loop (bodyAt 2 Tryz.f235)) := cut_ok fun x y hy => can_loop (Fn := froster_CheckWeek_i2_F) prog_noRow prog_mix (fun n => callT_ok prog_noRow prog_mix (froster_CheckWeek_Tok n) (froster_CheckWeek_J1ok n)) (fun h => by cases h) (fun h => by cases h) (fun n => (cuts_ok (fn := Tryz.f235) (L := froster_CheckWeek_i2_C n) (ks := []) trivial (by kernel_rfl) (by kernel_rfl))) (by decide) (fun _ => rfl) froster_CheckWeek_i2_rd hy
noncomputable def froster_CheckWeek_J2 (n : Nat) : InsL Ty := [(234, [(.loop 2, froster_CheckWeek_i1_cut n)]), (235, [(.loop 2, froster_CheckWeek_i2_cut n)])]
theorem froster_CheckWeek_J2ok (n : Nat) : InsOk Tryz.prog (froster_CheckWeek_J2 n) := ⟨ins_one (f := 234) Tryz.func234 rfl (cuts_ok (fn := Tryz.f234) (L := [(.loop 2, froster_CheckWeek_i1_cut n)]) (ks := [.loop 2]) ⟨froster_CheckWeek_i1_ok n, trivial⟩ (by kernel_rfl) (by kernel_rfl)), ⟨ins_one (f := 235) Tryz.func235 rfl (cuts_ok (fn := Tryz.f235) (L := [(.loop 2, froster_CheckWeek_i2_cut n)]) (ks := [.loop 2]) ⟨froster_CheckWeek_i2_ok n, trivial⟩ (by kernel_rfl) (by kernel_rfl)), trivial⟩⟩
noncomputable def froster_CheckWeek_C (n : Nat) : CutL Ty := []
theorem froster_CheckWeek_rd (n : Nat) (x : C.Ds Ty (snds froster_CheckWeek_D)) : (exec Tryz.prog 52 (callT Tryz.prog (froster_CheckWeek_T n) (froster_CheckWeek_J2 n)) (cutsOf (froster_CheckWeek_C n)) (codeOf Tryz.f71) (embS froster_CheckWeek_D x)).runK (typeRt Tryz.prog Tryz.f71.results.toList 0 froster_CheckWeek_E) = froster_CheckWeek_F n x := by kernel_rfl
theorem froster_CheckWeek_lawOk (n : Nat) : LawOk Tryz.prog 71 (froster_CheckWeek_law n) := law_ok Tryz.func71 rfl rfl (by decide) rfl prog_noRow prog_mix (callT_ok prog_noRow prog_mix (froster_CheckWeek_Tok n) (froster_CheckWeek_J2ok n)) (cuts_ok (fn := Tryz.f71) (L := froster_CheckWeek_C n) (ks := []) trivial (by kernel_rfl) (by kernel_rfl)) (froster_CheckWeek_rd n)
def fgarage_session_driver_D : List (Nat × C) := [(0, .u 114), (1, .v 3)]
def fgarage_session_driver_E : List Wo := [⟨.ret, [.u 114], [], []⟩, ⟨.pan, [.u 114], [], [.i 234 (.g 234)]⟩]
def fgarage_session_driver (n : Nat) (g : Session) (n_ : List Int) : Option ((Session × Unit) ⊕ ((Session × Refused × Unit))) :=
    bif n_.length.beq 5 then ((idx n_ 0).bind fun v0 =>
    (n_.get?Internal (Int.toNat 0)).bind fun v1 =>
    bif n_.length.beq 5 then ((idx n_ 1).bind fun v2 =>
    (n_.get?Internal (Int.toNat 1)).bind fun v3 =>
    (fgarage_with_Driver n g.state.week.drivers (Driver.mk [v1] [] [] v3 0 0)).bind fun v4 =>
    (froster_CheckWeek n (Week.mk g.state.week.days g.state.week.duties v4.fst g.state.week.rest g.state.week.run g.state.week.hours)).bind fun v5 =>
    (fgarage_must n v5.fst).bind fun v6 =>
    Sum.elim (fun v7 => some (.inl (Session.mk (State.mk g.state.cards g.state.outs g.state.runs g.state.records (Week.mk g.state.week.days g.state.week.duties v4.fst g.state.week.rest g.state.week.run g.state.week.hours) g.state.roster), ()))) (fun v7 => some (.inr (g, (v7.fst, ())))) (v6)) else
    none) else
    none
def fgarage_session_driver_F (n : Nat) (y : C.Ds Ty (snds fgarage_session_driver_D)) : Option (YT Ty fgarage_session_driver_E) := fgarage_session_driver n y.1 y.2.1
noncomputable def fgarage_session_driver_law (n : Nat) : Law Ty := lawC fgarage_session_driver_D 1 fgarage_session_driver_E (fgarage_session_driver_F n)
noncomputable def fgarage_session_driver_T (n : Nat) : List (Nat × Law Ty) := [(265, fgarage_with_Driver_law n), (71, froster_CheckWeek_law n), (259, fgarage_must_law n)]
theorem fgarage_session_driver_Tok (n : Nat) : LawsOk Tryz.prog (fgarage_session_driver_T n) := ⟨fgarage_with_Driver_lawOk n, ⟨froster_CheckWeek_lawOk n, ⟨fgarage_must_lawOk n, trivial⟩⟩⟩
noncomputable def fgarage_session_driver_C (n : Nat) : CutL Ty := []
theorem fgarage_session_driver_rd (n : Nat) (x : C.Ds Ty (snds fgarage_session_driver_D)) : (exec Tryz.prog 28 (callT Tryz.prog (fgarage_session_driver_T n) []) (cutsOf (fgarage_session_driver_C n)) (codeOf Tryz.f198) (embS fgarage_session_driver_D x)).runK (typeRt Tryz.prog Tryz.f198.results.toList 1 fgarage_session_driver_E) = fgarage_session_driver_F n x := by kernel_rfl
theorem fgarage_session_driver_lawOk (n : Nat) : LawOk Tryz.prog 198 (fgarage_session_driver_law n) := law_ok Tryz.func198 rfl rfl (by decide) rfl prog_noRow prog_mix (callT_ok prog_noRow prog_mix (fgarage_session_driver_Tok n) insNil) (cuts_ok (fn := Tryz.f198) (L := fgarage_session_driver_C n) (ks := []) trivial (by kernel_rfl) (by kernel_rfl)) (fgarage_session_driver_rd n)
def fgarage_with_Duty_D : List (Nat × C) := [(0, .l 184), (1, .g 184)]
def fgarage_with_Duty_E : List Wo := [⟨.ret, [], [], [.l 184]⟩]
def fgarage_with_Duty (n : Nat) (l : List Duty) (x : Duty) : Option ((List Duty × Unit)) :=
    (clone184 n l).bind fun v0 =>
    (app v0.fst [x]).bind fun v1 =>
    some (v1, ())
def fgarage_with_Duty_F (n : Nat) (y : C.Ds Ty (snds fgarage_with_Duty_D)) : Option (YT Ty fgarage_with_Duty_E) := fgarage_with_Duty n y.1 y.2.1
noncomputable def fgarage_with_Duty_law (n : Nat) : Law Ty := lawC fgarage_with_Duty_D 0 fgarage_with_Duty_E (fgarage_with_Duty_F n)
noncomputable def fgarage_with_Duty_T (n : Nat) : List (Nat × Law Ty) := [(315, clone184_law n)]
theorem fgarage_with_Duty_Tok (n : Nat) : LawsOk Tryz.prog (fgarage_with_Duty_T n) := ⟨clone184_lawOk n, trivial⟩
noncomputable def fgarage_with_Duty_C (n : Nat) : CutL Ty := []
theorem fgarage_with_Duty_rd (n : Nat) (x : C.Ds Ty (snds fgarage_with_Duty_D)) : (exec Tryz.prog 10 (callT Tryz.prog (fgarage_with_Duty_T n) []) (cutsOf (fgarage_with_Duty_C n)) (codeOf Tryz.f266) (embS fgarage_with_Duty_D x)).runK (typeRt Tryz.prog Tryz.f266.results.toList 0 fgarage_with_Duty_E) = fgarage_with_Duty_F n x := by kernel_rfl
theorem fgarage_with_Duty_lawOk (n : Nat) : LawOk Tryz.prog 266 (fgarage_with_Duty_law n) := law_ok Tryz.func266 rfl rfl (by decide) rfl prog_noRow prog_mix (callT_ok prog_noRow prog_mix (fgarage_with_Duty_Tok n) insNil) (cuts_ok (fn := Tryz.f266) (L := fgarage_with_Duty_C n) (ks := []) trivial (by kernel_rfl) (by kernel_rfl)) (fgarage_with_Duty_rd n)
def fgarage_with_int_D : List (Nat × C) := [(0, .l 3), (1, .s 3)]
def fgarage_with_int_E : List Wo := [⟨.ret, [], [], [.l 3]⟩]
def fgarage_with_int (n : Nat) (l : List Int) (x : Int) : Option ((List Int × Unit)) :=
    (clone3 n l).bind fun v0 =>
    (app v0.fst [x]).bind fun v1 =>
    some (v1, ())
def fgarage_with_int_F (n : Nat) (y : C.Ds Ty (snds fgarage_with_int_D)) : Option (YT Ty fgarage_with_int_E) := fgarage_with_int n y.1 y.2.1
noncomputable def fgarage_with_int_law (n : Nat) : Law Ty := lawC fgarage_with_int_D 0 fgarage_with_int_E (fgarage_with_int_F n)
noncomputable def fgarage_with_int_T (n : Nat) : List (Nat × Law Ty) := [(268, clone3_law n)]
theorem fgarage_with_int_Tok (n : Nat) : LawsOk Tryz.prog (fgarage_with_int_T n) := ⟨clone3_lawOk n, trivial⟩
noncomputable def fgarage_with_int_C (n : Nat) : CutL Ty := []
theorem fgarage_with_int_rd (n : Nat) (x : C.Ds Ty (snds fgarage_with_int_D)) : (exec Tryz.prog 10 (callT Tryz.prog (fgarage_with_int_T n) []) (cutsOf (fgarage_with_int_C n)) (codeOf Tryz.f267) (embS fgarage_with_int_D x)).runK (typeRt Tryz.prog Tryz.f267.results.toList 0 fgarage_with_int_E) = fgarage_with_int_F n x := by kernel_rfl
theorem fgarage_with_int_lawOk (n : Nat) : LawOk Tryz.prog 267 (fgarage_with_int_law n) := law_ok Tryz.func267 rfl rfl (by decide) rfl prog_noRow prog_mix (callT_ok prog_noRow prog_mix (fgarage_with_int_Tok n) insNil) (cuts_ok (fn := Tryz.f267) (L := fgarage_with_int_C n) (ks := []) trivial (by kernel_rfl) (by kernel_rfl)) (fgarage_with_int_rd n)
def fgarage_session_duty_D : List (Nat × C) := [(0, .u 114), (1, .v 3)]
def fgarage_session_duty_E : List Wo := [⟨.ret, [.u 114], [], []⟩, ⟨.pan, [.u 114], [], [.i 234 (.g 234)]⟩]
def fgarage_session_duty (n : Nat) (g : Session) (n_ : List Int) : Option ((Session × Unit) ⊕ ((Session × Refused × Unit))) :=
    bif n_.length.beq 5 then ((idx n_ 0).bind fun v0 =>
    (n_.get?Internal (Int.toNat 0)).bind fun v1 =>
    bif n_.length.beq 5 then ((idx n_ 1).bind fun v2 =>
    (n_.get?Internal (Int.toNat 1)).bind fun v3 =>
    bif n_.length.beq 5 then ((idx n_ 2).bind fun v4 =>
    (n_.get?Internal (Int.toNat 2)).bind fun v5 =>
    bif n_.length.beq 5 then ((idx n_ 3).bind fun v6 =>
    (n_.get?Internal (Int.toNat 3)).bind fun v7 =>
    bif n_.length.beq 5 then ((idx n_ 4).bind fun v8 =>
    (n_.get?Internal (Int.toNat 4)).bind fun v9 =>
    (fgarage_with_Duty n g.state.week.duties (Duty.mk v1 v3 (Rg.mk v5 v7) v9)).bind fun v10 =>
    (froster_CheckWeek n (Week.mk g.state.week.days v10.fst g.state.week.drivers g.state.week.rest g.state.week.run g.state.week.hours)).bind fun v11 =>
    (fgarage_must n v11.fst).bind fun v12 =>
    Sum.elim (fun v13 => (fgarage_with_int n g.state.roster (-1)).bind fun v14 =>
    some (.inl (Session.mk (State.mk g.state.cards g.state.outs g.state.runs g.state.records (Week.mk g.state.week.days v10.fst g.state.week.drivers g.state.week.rest g.state.week.run g.state.week.hours) v14.fst), ()))) (fun v13 => some (.inr (g, (v13.fst, ())))) (v12)) else
    none) else
    none) else
    none) else
    none) else
    none
def fgarage_session_duty_F (n : Nat) (y : C.Ds Ty (snds fgarage_session_duty_D)) : Option (YT Ty fgarage_session_duty_E) := fgarage_session_duty n y.1 y.2.1
noncomputable def fgarage_session_duty_law (n : Nat) : Law Ty := lawC fgarage_session_duty_D 1 fgarage_session_duty_E (fgarage_session_duty_F n)
noncomputable def fgarage_session_duty_T (n : Nat) : List (Nat × Law Ty) := [(266, fgarage_with_Duty_law n), (71, froster_CheckWeek_law n), (259, fgarage_must_law n), (267, fgarage_with_int_law n)]
theorem fgarage_session_duty_Tok (n : Nat) : LawsOk Tryz.prog (fgarage_session_duty_T n) := ⟨fgarage_with_Duty_lawOk n, ⟨froster_CheckWeek_lawOk n, ⟨fgarage_must_lawOk n, ⟨fgarage_with_int_lawOk n, trivial⟩⟩⟩⟩
noncomputable def fgarage_session_duty_C (n : Nat) : CutL Ty := []
theorem fgarage_session_duty_rd (n : Nat) (x : C.Ds Ty (snds fgarage_session_duty_D)) : (exec Tryz.prog 44 (callT Tryz.prog (fgarage_session_duty_T n) []) (cutsOf (fgarage_session_duty_C n)) (codeOf Tryz.f199) (embS fgarage_session_duty_D x)).runK (typeRt Tryz.prog Tryz.f199.results.toList 1 fgarage_session_duty_E) = fgarage_session_duty_F n x := by kernel_rfl
theorem fgarage_session_duty_lawOk (n : Nat) : LawOk Tryz.prog 199 (fgarage_session_duty_law n) := law_ok Tryz.func199 rfl rfl (by decide) rfl prog_noRow prog_mix (callT_ok prog_noRow prog_mix (fgarage_session_duty_Tok n) insNil) (cuts_ok (fn := Tryz.f199) (L := fgarage_session_duty_C n) (ks := []) trivial (by kernel_rfl) (by kernel_rfl)) (fgarage_session_duty_rd n)
def froster_Week_roster_i1_D : List (Nat × C) := [(0, .l 3), (1, .f 174 [] [.p 0 [.f 120 [] [.u 32]]]), (7, .s 3), (8, .s 3)]
def froster_Week_roster_i1_E : List Wo := [⟨.exit 0, [.p 0 [.f 120 [] [.u 32]], .q 1], [], []⟩, ⟨.ret, [.p 0 [.f 120 [] [.u 32]], .q 1], [(4, .s 3)], []⟩]
def froster_Week_roster_D : List (Nat × C) := [(0, .g 32), (1, .l 3)]
def froster_Week_roster_E : List Wo := [⟨.ret, [], [], [.s 4]⟩]
def froster_Week_roster_i1 : Nat → (List Int) → Week → Int → Int → Option ((((Unit × (Week × Unit)) × Unit) × Unit × Unit) ⊕ ((((Unit × (Week × Unit)) × Unit) × Unit × Int × Unit)))
  | 0, _, _, _, _ => none
  | n + 1, s, f, x7, x8 =>
    bif decide (x8 < x7) then ((idx s x8).bind fun v0 =>
    bif decide (-1 ≤ v0) then (bif !decide (v0 ≤ IntKind.i64.wrap ((↑f.drivers.length : Int) - 1)) then (some (.inr ((((), (f, ())), ()), ((), (x8, ()))))) else
    froster_Week_roster_i1 n s f x7 (IntKind.i64.wrap (x8 + 1))) else
    some (.inr ((((), (f, ())), ()), ((), (x8, ()))))) else
    some (.inl ((((), (f, ())), ()), ((), ())))
def froster_Week_roster_i1_F (n : Nat) (y : C.Ds Ty (snds froster_Week_roster_i1_D)) : Option (YT Ty froster_Week_roster_i1_E) := froster_Week_roster_i1 n y.1 y.2.1.2.1.1.2.1 y.2.2.1 y.2.2.2.1
noncomputable def froster_Week_roster_i1_cut (n : Nat) : St Ty → Tr (Lf Ty) := cutC froster_Week_roster_i1_D 2 froster_Week_roster_i1_E (froster_Week_roster_i1_F n)
def froster_Week_roster (n : Nat) (w : Week) (l : List Int) : Option ((Bool × Unit)) :=
    bif decide ((↑l.length : Int) = (↑w.duties.length : Int)) then ((froster_Week_roster_i1 n l w (↑l.length : Int) 0).bind fun v0 =>
    Sum.elim (fun v1 => some (!decide (-1 ≥ 0), ())) (fun v1 => some (!decide (v1.snd.snd.fst ≥ 0), ())) (v0)) else
    some (false, ())
def froster_Week_roster_F (n : Nat) (y : C.Ds Ty (snds froster_Week_roster_D)) : Option (YT Ty froster_Week_roster_E) := froster_Week_roster n y.1 y.2.1
noncomputable def froster_Week_roster_law (n : Nat) : Law Ty := readC (lawC froster_Week_roster_D 0 froster_Week_roster_E (froster_Week_roster_F n))
noncomputable def froster_Week_roster_T (n : Nat) : List (Nat × Law Ty) := []
theorem froster_Week_roster_Tok (n : Nat) : LawsOk Tryz.prog (froster_Week_roster_T n) := trivial
noncomputable def froster_Week_roster_i1_C (n : Nat) : CutL Ty := []
theorem froster_Week_roster_i1_rd (n : Nat) (x : C.Ds Ty (snds froster_Week_roster_i1_D)) : (exec Tryz.prog 19 (callT Tryz.prog (froster_Week_roster_T n) []) (cutsOf (froster_Week_roster_i1_C n)) (bodyAt 2 Tryz.f236) (embS froster_Week_roster_i1_D x)).runK (typeRd 2 froster_Week_roster_i1_D froster_Week_roster_i1_E (froster_Week_roster_i1_F n)) = froster_Week_roster_i1_F (n + 1) x := by kernel_rfl
theorem froster_Week_roster_i1_ok (n : Nat) : CutOk true Tryz.prog 19 (froster_Week_roster_i1_cut n) (.loop (bodyAt 2 Tryz.f236)) := cut_ok fun x y hy => can_loop (Fn := froster_Week_roster_i1_F) prog_noRow prog_mix (fun n => callT_ok prog_noRow prog_mix (froster_Week_roster_Tok n) insNil) (fun h => by cases h) (fun h => by cases h) (fun n => (cuts_ok (fn := Tryz.f236) (L := froster_Week_roster_i1_C n) (ks := []) trivial (by kernel_rfl) (by kernel_rfl))) (by decide) (fun _ => rfl) froster_Week_roster_i1_rd hy
noncomputable def froster_Week_roster_J1 (n : Nat) : InsL Ty := [(236, [(.loop 2, froster_Week_roster_i1_cut n)])]
theorem froster_Week_roster_J1ok (n : Nat) : InsOk Tryz.prog (froster_Week_roster_J1 n) := ⟨ins_one (f := 236) Tryz.func236 rfl (cuts_ok (fn := Tryz.f236) (L := [(.loop 2, froster_Week_roster_i1_cut n)]) (ks := [.loop 2]) ⟨froster_Week_roster_i1_ok n, trivial⟩ (by kernel_rfl) (by kernel_rfl)), trivial⟩
noncomputable def froster_Week_roster_C (n : Nat) : CutL Ty := []
theorem froster_Week_roster_rd (n : Nat) (x : C.Ds Ty (snds froster_Week_roster_D)) : (exec Tryz.prog 16 (callT Tryz.prog (froster_Week_roster_T n) (froster_Week_roster_J1 n)) (cutsOf (froster_Week_roster_C n)) (codeOf Tryz.f72) (embS froster_Week_roster_D x)).runK (typeRt Tryz.prog Tryz.f72.results.toList 0 froster_Week_roster_E) = froster_Week_roster_F n x := by kernel_rfl
theorem froster_Week_roster_lawOk (n : Nat) : LawOk Tryz.prog 72 (froster_Week_roster_law n) := readC_ok (law_ok Tryz.func72 rfl rfl (by decide) rfl prog_noRow prog_mix (callT_ok prog_noRow prog_mix (froster_Week_roster_Tok n) (froster_Week_roster_J1ok n)) (cuts_ok (fn := Tryz.f72) (L := froster_Week_roster_C n) (ks := []) trivial (by kernel_rfl) (by kernel_rfl)) (froster_Week_roster_rd n))
def froster_Week_ends_l1_D : List (Nat × C) := [(2, .o 3), (6, .l 184), (7, .s 3), (8, .s 3)]
def froster_Week_ends_l1_E : List Wo := [⟨.exit 0, [], [(2, .o 3)], []⟩]
def froster_Week_ends_D : List (Nat × C) := [(0, .g 32)]
def froster_Week_ends_E : List Wo := [⟨.ret, [], [], [.l 3]⟩]
def froster_Week_ends_l1 : Nat → (List Int) → (List Duty) → Int → Int → Option ((List Int × Unit))
  | 0, _, _, _, _ => none
  | n + 1, out, x6, x7, x8 =>
    bif decide (x8 < x7) then ((idx x6 x8).bind fun v0 =>
    (app out [v0.off.hi]).bind fun v1 =>
    froster_Week_ends_l1 n v1 x6 x7 (IntKind.i64.wrap (x8 + 1))) else
    some (out, ())
def froster_Week_ends_l1_F (n : Nat) (y : C.Ds Ty (snds froster_Week_ends_l1_D)) : Option (YT Ty froster_Week_ends_l1_E) := froster_Week_ends_l1 n y.1 y.2.1 y.2.2.1 y.2.2.2.1
noncomputable def froster_Week_ends_l1_cut (n : Nat) : St Ty → Tr (Lf Ty) := cutC froster_Week_ends_l1_D 0 froster_Week_ends_l1_E (froster_Week_ends_l1_F n)
def froster_Week_ends (n : Nat) (w : Week) : Option ((List Int × Unit)) :=
    (froster_Week_ends_l1 n [] w.duties (↑w.duties.length : Int) 0).bind fun v0 =>
    some (v0.fst, ())
def froster_Week_ends_F (n : Nat) (y : C.Ds Ty (snds froster_Week_ends_D)) : Option (YT Ty froster_Week_ends_E) := froster_Week_ends n y.1
noncomputable def froster_Week_ends_law (n : Nat) : Law Ty := lawC froster_Week_ends_D 0 froster_Week_ends_E (froster_Week_ends_F n)
noncomputable def froster_Week_ends_T (n : Nat) : List (Nat × Law Ty) := []
theorem froster_Week_ends_Tok (n : Nat) : LawsOk Tryz.prog (froster_Week_ends_T n) := trivial
noncomputable def froster_Week_ends_l1_C (n : Nat) : CutL Ty := []
theorem froster_Week_ends_l1_rd (n : Nat) (x : C.Ds Ty (snds froster_Week_ends_l1_D)) : (exec Tryz.prog 20 (callT Tryz.prog (froster_Week_ends_T n) []) (cutsOf (froster_Week_ends_l1_C n)) (bodyAt 2 Tryz.f122) (embS froster_Week_ends_l1_D x)).runK (typeRd 0 froster_Week_ends_l1_D froster_Week_ends_l1_E (froster_Week_ends_l1_F n)) = froster_Week_ends_l1_F (n + 1) x := by kernel_rfl
theorem froster_Week_ends_l1_ok (n : Nat) : CutOk true Tryz.prog 20 (froster_Week_ends_l1_cut n) (.loop (bodyAt 2 Tryz.f122)) := cut_ok fun x y hy => can_loop (Fn := froster_Week_ends_l1_F) prog_noRow prog_mix (fun n => callT_ok prog_noRow prog_mix (froster_Week_ends_Tok n) insNil) (fun h => by cases h) (fun h => by cases h) (fun n => (cuts_ok (fn := Tryz.f122) (L := froster_Week_ends_l1_C n) (ks := []) trivial (by kernel_rfl) (by kernel_rfl))) (by decide) (fun _ => rfl) froster_Week_ends_l1_rd hy
noncomputable def froster_Week_ends_C (n : Nat) : CutL Ty := [(.loop 2, froster_Week_ends_l1_cut n)]
theorem froster_Week_ends_rd (n : Nat) (x : C.Ds Ty (snds froster_Week_ends_D)) : (exec Tryz.prog 20 (callT Tryz.prog (froster_Week_ends_T n) []) (cutsOf (froster_Week_ends_C n)) (codeOf Tryz.f122) (embS froster_Week_ends_D x)).runK (typeRt Tryz.prog Tryz.f122.results.toList 0 froster_Week_ends_E) = froster_Week_ends_F n x := by kernel_rfl
theorem froster_Week_ends_lawOk (n : Nat) : LawOk Tryz.prog 122 (froster_Week_ends_law n) := law_ok Tryz.func122 rfl rfl (by decide) rfl prog_noRow prog_mix (callT_ok prog_noRow prog_mix (froster_Week_ends_Tok n) insNil) (cuts_ok (fn := Tryz.f122) (L := froster_Week_ends_C n) (ks := [.loop 2]) ⟨froster_Week_ends_l1_ok n, trivial⟩ (by kernel_rfl) (by kernel_rfl)) (froster_Week_ends_rd n)
def froster_Week_before_l1_D : List (Nat × C) := [(2, .a 267), (6, .l 186), (7, .s 3), (8, .s 3)]
def froster_Week_before_l1_E : List Wo := [⟨.exit 0, [.a 267], [(2, .q 0)], []⟩]
def froster_Week_before_D : List (Nat × C) := [(0, .g 32)]
def froster_Week_before_E : List Wo := [⟨.ret, [], [], [.v 267]⟩]
def froster_Week_before_l1 : Nat → (List Stand) → (List Driver) → Int → Int → Option ((List Stand × Unit × Unit))
  | 0, _, _, _, _ => none
  | n + 1, out, x6, x7, x8 =>
    bif decide (x8 < x7) then ((idx x6 x8).bind fun v0 =>
    bif out.length.beq 6 then ((idx out x8).bind fun v1 =>
    (out.get?Internal x8.toNat).bind fun v2 =>
    froster_Week_before_l1 n (out.set x8.toNat (Stand.mk v0.off v0.row v0.used (-1))) x6 x7 (IntKind.i64.wrap (x8 + 1))) else
    none) else
    some (out, ((), ()))
def froster_Week_before_l1_F (n : Nat) (y : C.Ds Ty (snds froster_Week_before_l1_D)) : Option (YT Ty froster_Week_before_l1_E) := froster_Week_before_l1 n y.1 y.2.1 y.2.2.1 y.2.2.2.1
noncomputable def froster_Week_before_l1_cut (n : Nat) : St Ty → Tr (Lf Ty) := cutC froster_Week_before_l1_D 1 froster_Week_before_l1_E (froster_Week_before_l1_F n)
def froster_Week_before (n : Nat) (w : Week) : Option ((List Stand × Unit)) :=
    (froster_Week_before_l1 n [Stand.mk 0 0 0 0, Stand.mk 0 0 0 0, Stand.mk 0 0 0 0, Stand.mk 0 0 0 0, Stand.mk 0 0 0 0, Stand.mk 0 0 0 0] w.drivers (↑w.drivers.length : Int) 0).bind fun v0 =>
    bif v0.fst.length.beq 6 then (bif v0.fst.length.beq 6 && v0.fst.length.beq 6 then (bif v0.fst.length.beq 6 then (some (v0.fst, ())) else
    none) else
    none) else
    none
def froster_Week_before_F (n : Nat) (y : C.Ds Ty (snds froster_Week_before_D)) : Option (YT Ty froster_Week_before_E) := froster_Week_before n y.1
noncomputable def froster_Week_before_law (n : Nat) : Law Ty := lawC froster_Week_before_D 0 froster_Week_before_E (froster_Week_before_F n)
noncomputable def froster_Week_before_T (n : Nat) : List (Nat × Law Ty) := []
theorem froster_Week_before_Tok (n : Nat) : LawsOk Tryz.prog (froster_Week_before_T n) := trivial
noncomputable def froster_Week_before_l1_C (n : Nat) : CutL Ty := []
theorem froster_Week_before_l1_rd (n : Nat) (x : C.Ds Ty (snds froster_Week_before_l1_D)) : (exec Tryz.prog 24 (callT Tryz.prog (froster_Week_before_T n) []) (cutsOf (froster_Week_before_l1_C n)) (bodyAt 2 Tryz.f175) (embS froster_Week_before_l1_D x)).runK (typeRd 1 froster_Week_before_l1_D froster_Week_before_l1_E (froster_Week_before_l1_F n)) = froster_Week_before_l1_F (n + 1) x := by kernel_rfl
theorem froster_Week_before_l1_ok (n : Nat) : CutOk true Tryz.prog 24 (froster_Week_before_l1_cut n) (.loop (bodyAt 2 Tryz.f175)) := cut_ok fun x y hy => can_loop (Fn := froster_Week_before_l1_F) prog_noRow prog_mix (fun n => callT_ok prog_noRow prog_mix (froster_Week_before_Tok n) insNil) (fun h => by cases h) (fun h => by cases h) (fun n => (cuts_ok (fn := Tryz.f175) (L := froster_Week_before_l1_C n) (ks := []) trivial (by kernel_rfl) (by kernel_rfl))) (by decide) (fun _ => rfl) froster_Week_before_l1_rd hy
noncomputable def froster_Week_before_C (n : Nat) : CutL Ty := [(.loop 2, froster_Week_before_l1_cut n)]
theorem froster_Week_before_rd (n : Nat) (x : C.Ds Ty (snds froster_Week_before_D)) : (exec Tryz.prog 24 (callT Tryz.prog (froster_Week_before_T n) []) (cutsOf (froster_Week_before_C n)) (codeOf Tryz.f175) (embS froster_Week_before_D x)).runK (typeRt Tryz.prog Tryz.f175.results.toList 0 froster_Week_before_E) = froster_Week_before_F n x := by kernel_rfl
theorem froster_Week_before_lawOk (n : Nat) : LawOk Tryz.prog 175 (froster_Week_before_law n) := law_ok Tryz.func175 rfl rfl (by decide) rfl prog_noRow prog_mix (callT_ok prog_noRow prog_mix (froster_Week_before_Tok n) insNil) (cuts_ok (fn := Tryz.f175) (L := froster_Week_before_C n) (ks := [.loop 2]) ⟨froster_Week_before_l1_ok n, trivial⟩ (by kernel_rfl) (by kernel_rfl)) (froster_Week_before_rd n)
def froster_Week_knows_i1_D : List (Nat × C) := [(0, .l 3), (1, .s 3), (7, .s 3), (8, .s 3)]
def froster_Week_knows_i1_E : List Wo := [⟨.exit 0, [], [], []⟩, ⟨.ret, [], [(4, .s 3)], []⟩]
def froster_Week_knows_D : List (Nat × C) := [(0, .g 32), (1, .s 3), (2, .g 184), (3, .g 267)]
def froster_Week_knows_E : List Wo := [⟨.ret, [], [], [.s 4]⟩]
def froster_Week_knows_i1 : Nat → (List Int) → Int → Int → Int → Option (Unit ⊕ ((Int × Unit)))
  | 0, _, _, _, _ => none
  | n + 1, s, v, x7, x8 =>
    bif decide (x8 < x7) then ((idx s x8).bind fun v0 =>
    bif decide (v = v0) then (some (.inr (x8, ()))) else
    froster_Week_knows_i1 n s v x7 (IntKind.i64.wrap (x8 + 1))) else
    some (.inl ())
def froster_Week_knows_i1_F (n : Nat) (y : C.Ds Ty (snds froster_Week_knows_i1_D)) : Option (YT Ty froster_Week_knows_i1_E) := froster_Week_knows_i1 n y.1 y.2.1 y.2.2.1 y.2.2.2.1
noncomputable def froster_Week_knows_i1_cut (n : Nat) : St Ty → Tr (Lf Ty) := cutC froster_Week_knows_i1_D 0 froster_Week_knows_i1_E (froster_Week_knows_i1_F n)
def froster_Week_knows (n : Nat) (w : Week) (driver : Int) (d : Duty) (_ : Stand) : Option ((Bool × Unit)) :=
    (idx w.drivers driver).bind fun v0 =>
    (froster_Week_knows_i1 n v0.knows d.route (↑v0.knows.length : Int) 0).bind fun v1 =>
    Sum.elim (fun v2 => some (decide (-1 ≥ 0), ())) (fun v2 => some (decide (v2.fst ≥ 0), ())) (v1)
def froster_Week_knows_F (n : Nat) (y : C.Ds Ty (snds froster_Week_knows_D)) : Option (YT Ty froster_Week_knows_E) := froster_Week_knows n y.1 y.2.1 y.2.2.1 y.2.2.2.1
noncomputable def froster_Week_knows_law (n : Nat) : Law Ty := lawC froster_Week_knows_D 0 froster_Week_knows_E (froster_Week_knows_F n)
noncomputable def froster_Week_knows_T (n : Nat) : List (Nat × Law Ty) := []
theorem froster_Week_knows_Tok (n : Nat) : LawsOk Tryz.prog (froster_Week_knows_T n) := trivial
noncomputable def froster_Week_knows_i1_C (n : Nat) : CutL Ty := []
theorem froster_Week_knows_i1_rd (n : Nat) (x : C.Ds Ty (snds froster_Week_knows_i1_D)) : (exec Tryz.prog 19 (callT Tryz.prog (froster_Week_knows_T n) []) (cutsOf (froster_Week_knows_i1_C n)) (bodyAt 2 Tryz.f332) (embS froster_Week_knows_i1_D x)).runK (typeRd 0 froster_Week_knows_i1_D froster_Week_knows_i1_E (froster_Week_knows_i1_F n)) = froster_Week_knows_i1_F (n + 1) x := by kernel_rfl
theorem froster_Week_knows_i1_ok (n : Nat) : CutOk true Tryz.prog 19 (froster_Week_knows_i1_cut n) (.loop (bodyAt 2 Tryz.f332)) := cut_ok fun x y hy => can_loop (Fn := froster_Week_knows_i1_F) prog_noRow prog_mix (fun n => callT_ok prog_noRow prog_mix (froster_Week_knows_Tok n) insNil) (fun h => by cases h) (fun h => by cases h) (fun n => (cuts_ok (fn := Tryz.f332) (L := froster_Week_knows_i1_C n) (ks := []) trivial (by kernel_rfl) (by kernel_rfl))) (by decide) (fun _ => rfl) froster_Week_knows_i1_rd hy
noncomputable def froster_Week_knows_J1 (n : Nat) : InsL Ty := [(332, [(.loop 2, froster_Week_knows_i1_cut n)])]
theorem froster_Week_knows_J1ok (n : Nat) : InsOk Tryz.prog (froster_Week_knows_J1 n) := ⟨ins_one (f := 332) Tryz.func332 rfl (cuts_ok (fn := Tryz.f332) (L := [(.loop 2, froster_Week_knows_i1_cut n)]) (ks := [.loop 2]) ⟨froster_Week_knows_i1_ok n, trivial⟩ (by kernel_rfl) (by kernel_rfl)), trivial⟩
noncomputable def froster_Week_knows_C (n : Nat) : CutL Ty := []
theorem froster_Week_knows_rd (n : Nat) (x : C.Ds Ty (snds froster_Week_knows_D)) : (exec Tryz.prog 18 (callT Tryz.prog (froster_Week_knows_T n) (froster_Week_knows_J1 n)) (cutsOf (froster_Week_knows_C n)) (codeOf Tryz.f238) (embS froster_Week_knows_D x)).runK (typeRt Tryz.prog Tryz.f238.results.toList 0 froster_Week_knows_E) = froster_Week_knows_F n x := by kernel_rfl
theorem froster_Week_knows_lawOk (n : Nat) : LawOk Tryz.prog 238 (froster_Week_knows_law n) := law_ok Tryz.func238 rfl rfl (by decide) rfl prog_noRow prog_mix (callT_ok prog_noRow prog_mix (froster_Week_knows_Tok n) (froster_Week_knows_J1ok n)) (cuts_ok (fn := Tryz.f238) (L := froster_Week_knows_C n) (ks := []) trivial (by kernel_rfl) (by kernel_rfl)) (froster_Week_knows_rd n)
def froster_Week_here_i1_D : List (Nat × C) := [(0, .l 3), (1, .s 3), (7, .s 3), (8, .s 3)]
def froster_Week_here_i1_E : List Wo := [⟨.exit 0, [], [], []⟩, ⟨.ret, [], [(4, .s 3)], []⟩]
def froster_Week_here_D : List (Nat × C) := [(0, .g 32), (1, .s 3), (2, .g 184), (3, .g 267)]
def froster_Week_here_E : List Wo := [⟨.ret, [], [], [.s 4]⟩]
def froster_Week_here_i1 : Nat → (List Int) → Int → Int → Int → Option (Unit ⊕ ((Int × Unit)))
  | 0, _, _, _, _ => none
  | n + 1, s, v, x7, x8 =>
    bif decide (x8 < x7) then ((idx s x8).bind fun v0 =>
    bif decide (v = v0) then (some (.inr (x8, ()))) else
    froster_Week_here_i1 n s v x7 (IntKind.i64.wrap (x8 + 1))) else
    some (.inl ())
def froster_Week_here_i1_F (n : Nat) (y : C.Ds Ty (snds froster_Week_here_i1_D)) : Option (YT Ty froster_Week_here_i1_E) := froster_Week_here_i1 n y.1 y.2.1 y.2.2.1 y.2.2.2.1
noncomputable def froster_Week_here_i1_cut (n : Nat) : St Ty → Tr (Lf Ty) := cutC froster_Week_here_i1_D 0 froster_Week_here_i1_E (froster_Week_here_i1_F n)
def froster_Week_here (n : Nat) (w : Week) (driver : Int) (d : Duty) (_ : Stand) : Option ((Bool × Unit)) :=
    (idx w.drivers driver).bind fun v0 =>
    (froster_Week_here_i1 n v0.leave d.day (↑v0.leave.length : Int) 0).bind fun v1 =>
    Sum.elim (fun v2 => some (!decide (-1 ≥ 0), ())) (fun v2 => some (!decide (v2.fst ≥ 0), ())) (v1)
def froster_Week_here_F (n : Nat) (y : C.Ds Ty (snds froster_Week_here_D)) : Option (YT Ty froster_Week_here_E) := froster_Week_here n y.1 y.2.1 y.2.2.1 y.2.2.2.1
noncomputable def froster_Week_here_law (n : Nat) : Law Ty := lawC froster_Week_here_D 0 froster_Week_here_E (froster_Week_here_F n)
noncomputable def froster_Week_here_T (n : Nat) : List (Nat × Law Ty) := []
theorem froster_Week_here_Tok (n : Nat) : LawsOk Tryz.prog (froster_Week_here_T n) := trivial
noncomputable def froster_Week_here_i1_C (n : Nat) : CutL Ty := []
theorem froster_Week_here_i1_rd (n : Nat) (x : C.Ds Ty (snds froster_Week_here_i1_D)) : (exec Tryz.prog 19 (callT Tryz.prog (froster_Week_here_T n) []) (cutsOf (froster_Week_here_i1_C n)) (bodyAt 2 Tryz.f332) (embS froster_Week_here_i1_D x)).runK (typeRd 0 froster_Week_here_i1_D froster_Week_here_i1_E (froster_Week_here_i1_F n)) = froster_Week_here_i1_F (n + 1) x := by kernel_rfl
theorem froster_Week_here_i1_ok (n : Nat) : CutOk true Tryz.prog 19 (froster_Week_here_i1_cut n) (.loop (bodyAt 2 Tryz.f332)) := cut_ok fun x y hy => can_loop (Fn := froster_Week_here_i1_F) prog_noRow prog_mix (fun n => callT_ok prog_noRow prog_mix (froster_Week_here_Tok n) insNil) (fun h => by cases h) (fun h => by cases h) (fun n => (cuts_ok (fn := Tryz.f332) (L := froster_Week_here_i1_C n) (ks := []) trivial (by kernel_rfl) (by kernel_rfl))) (by decide) (fun _ => rfl) froster_Week_here_i1_rd hy
noncomputable def froster_Week_here_J1 (n : Nat) : InsL Ty := [(332, [(.loop 2, froster_Week_here_i1_cut n)])]
theorem froster_Week_here_J1ok (n : Nat) : InsOk Tryz.prog (froster_Week_here_J1 n) := ⟨ins_one (f := 332) Tryz.func332 rfl (cuts_ok (fn := Tryz.f332) (L := [(.loop 2, froster_Week_here_i1_cut n)]) (ks := [.loop 2]) ⟨froster_Week_here_i1_ok n, trivial⟩ (by kernel_rfl) (by kernel_rfl)), trivial⟩
noncomputable def froster_Week_here_C (n : Nat) : CutL Ty := []
theorem froster_Week_here_rd (n : Nat) (x : C.Ds Ty (snds froster_Week_here_D)) : (exec Tryz.prog 19 (callT Tryz.prog (froster_Week_here_T n) (froster_Week_here_J1 n)) (cutsOf (froster_Week_here_C n)) (codeOf Tryz.f239) (embS froster_Week_here_D x)).runK (typeRt Tryz.prog Tryz.f239.results.toList 0 froster_Week_here_E) = froster_Week_here_F n x := by kernel_rfl
theorem froster_Week_here_lawOk (n : Nat) : LawOk Tryz.prog 239 (froster_Week_here_law n) := law_ok Tryz.func239 rfl rfl (by decide) rfl prog_noRow prog_mix (callT_ok prog_noRow prog_mix (froster_Week_here_Tok n) (froster_Week_here_J1ok n)) (cuts_ok (fn := Tryz.f239) (L := froster_Week_here_C n) (ks := []) trivial (by kernel_rfl) (by kernel_rfl)) (froster_Week_here_rd n)
def froster_Week_single_D : List (Nat × C) := [(0, .g 32), (1, .s 3), (2, .g 184), (3, .g 267)]
def froster_Week_single_E : List Wo := [⟨.ret, [], [], [.s 4]⟩]
def froster_Week_single (n : Nat) (w : Week) (_ : Int) (d : Duty) (s : Stand) : Option ((Bool × Unit)) :=
    some (s.day != d.day, ())
def froster_Week_single_F (n : Nat) (y : C.Ds Ty (snds froster_Week_single_D)) : Option (YT Ty froster_Week_single_E) := froster_Week_single n y.1 y.2.1 y.2.2.1 y.2.2.2.1
noncomputable def froster_Week_single_law (n : Nat) : Law Ty := lawC froster_Week_single_D 0 froster_Week_single_E (froster_Week_single_F n)
noncomputable def froster_Week_single_T (n : Nat) : List (Nat × Law Ty) := []
theorem froster_Week_single_Tok (n : Nat) : LawsOk Tryz.prog (froster_Week_single_T n) := trivial
noncomputable def froster_Week_single_C (n : Nat) : CutL Ty := []
theorem froster_Week_single_rd (n : Nat) (x : C.Ds Ty (snds froster_Week_single_D)) : (exec Tryz.prog 14 (callT Tryz.prog (froster_Week_single_T n) []) (cutsOf (froster_Week_single_C n)) (codeOf Tryz.f240) (embS froster_Week_single_D x)).runK (typeRt Tryz.prog Tryz.f240.results.toList 0 froster_Week_single_E) = froster_Week_single_F n x := by kernel_rfl
theorem froster_Week_single_lawOk (n : Nat) : LawOk Tryz.prog 240 (froster_Week_single_law n) := law_ok Tryz.func240 rfl rfl (by decide) rfl prog_noRow prog_mix (callT_ok prog_noRow prog_mix (froster_Week_single_Tok n) insNil) (cuts_ok (fn := Tryz.f240) (L := froster_Week_single_C n) (ks := []) trivial (by kernel_rfl) (by kernel_rfl)) (froster_Week_single_rd n)
def froster_Week_rested_D : List (Nat × C) := [(0, .g 32), (1, .s 3), (2, .g 184), (3, .g 267)]
def froster_Week_rested_E : List Wo := [⟨.ret, [], [], [.s 4]⟩]
def froster_Week_rested (n : Nat) (w : Week) (_ : Int) (d : Duty) (s : Stand) : Option ((Bool × Unit)) :=
    bif !decide (s.day = d.day) then (some (decide (IntKind.i64.wrap (IntKind.i64.wrap (IntKind.i64.wrap (d.day * 1440) + d.on) - s.free) ≥ w.rest), ())) else
    some (true, ())
def froster_Week_rested_F (n : Nat) (y : C.Ds Ty (snds froster_Week_rested_D)) : Option (YT Ty froster_Week_rested_E) := froster_Week_rested n y.1 y.2.1 y.2.2.1 y.2.2.2.1
noncomputable def froster_Week_rested_law (n : Nat) : Law Ty := lawC froster_Week_rested_D 0 froster_Week_rested_E (froster_Week_rested_F n)
noncomputable def froster_Week_rested_T (n : Nat) : List (Nat × Law Ty) := []
theorem froster_Week_rested_Tok (n : Nat) : LawsOk Tryz.prog (froster_Week_rested_T n) := trivial
noncomputable def froster_Week_rested_C (n : Nat) : CutL Ty := []
theorem froster_Week_rested_rd (n : Nat) (x : C.Ds Ty (snds froster_Week_rested_D)) : (exec Tryz.prog 28 (callT Tryz.prog (froster_Week_rested_T n) []) (cutsOf (froster_Week_rested_C n)) (codeOf Tryz.f241) (embS froster_Week_rested_D x)).runK (typeRt Tryz.prog Tryz.f241.results.toList 0 froster_Week_rested_E) = froster_Week_rested_F n x := by kernel_rfl
theorem froster_Week_rested_lawOk (n : Nat) : LawOk Tryz.prog 241 (froster_Week_rested_law n) := law_ok Tryz.func241 rfl rfl (by decide) rfl prog_noRow prog_mix (callT_ok prog_noRow prog_mix (froster_Week_rested_Tok n) insNil) (cuts_ok (fn := Tryz.f241) (L := froster_Week_rested_C n) (ks := []) trivial (by kernel_rfl) (by kernel_rfl)) (froster_Week_rested_rd n)
def froster_stand_take_D : List (Nat × C) := [(0, .g 267), (1, .g 184), (2, .s 3)]
def froster_stand_take_E : List Wo := [⟨.ret, [], [], [.g 267]⟩]
def froster_stand_take (n : Nat) (s : Stand) (d : Duty) (end_ : Int) : Option ((Stand × Unit)) :=
    bif decide (s.day = d.day) then (some (Stand.mk s.free s.row (IntKind.i64.wrap (s.used + IntKind.i64.wrap (end_ - d.on))) s.day, ())) else
    bif s.day != IntKind.i64.wrap (d.day - 1) then (some (Stand.mk (IntKind.i64.wrap (IntKind.i64.wrap (d.day * 1440) + end_)) (IntKind.i64.wrap (0 + 1)) (IntKind.i64.wrap (s.used + IntKind.i64.wrap (end_ - d.on))) d.day, ())) else
    some (Stand.mk (IntKind.i64.wrap (IntKind.i64.wrap (d.day * 1440) + end_)) (IntKind.i64.wrap (s.row + 1)) (IntKind.i64.wrap (s.used + IntKind.i64.wrap (end_ - d.on))) d.day, ())
def froster_stand_take_F (n : Nat) (y : C.Ds Ty (snds froster_stand_take_D)) : Option (YT Ty froster_stand_take_E) := froster_stand_take n y.1 y.2.1 y.2.2.1
noncomputable def froster_stand_take_law (n : Nat) : Law Ty := lawC froster_stand_take_D 0 froster_stand_take_E (froster_stand_take_F n)
noncomputable def froster_stand_take_T (n : Nat) : List (Nat × Law Ty) := []
theorem froster_stand_take_Tok (n : Nat) : LawsOk Tryz.prog (froster_stand_take_T n) := trivial
noncomputable def froster_stand_take_C (n : Nat) : CutL Ty := []
theorem froster_stand_take_rd (n : Nat) (x : C.Ds Ty (snds froster_stand_take_D)) : (exec Tryz.prog 42 (callT Tryz.prog (froster_stand_take_T n) []) (cutsOf (froster_stand_take_C n)) (codeOf Tryz.f178) (embS froster_stand_take_D x)).runK (typeRt Tryz.prog Tryz.f178.results.toList 0 froster_stand_take_E) = froster_stand_take_F n x := by kernel_rfl
theorem froster_stand_take_lawOk (n : Nat) : LawOk Tryz.prog 178 (froster_stand_take_law n) := law_ok Tryz.func178 rfl rfl (by decide) rfl prog_noRow prog_mix (callT_ok prog_noRow prog_mix (froster_stand_take_Tok n) insNil) (cuts_ok (fn := Tryz.f178) (L := froster_stand_take_C n) (ks := []) trivial (by kernel_rfl) (by kernel_rfl)) (froster_stand_take_rd n)
def froster_Week_fresh_D : List (Nat × C) := [(0, .g 32), (1, .s 3), (2, .g 184), (3, .g 267)]
def froster_Week_fresh_E : List Wo := [⟨.ret, [], [], [.s 4]⟩]
def froster_Week_fresh (n : Nat) (w : Week) (_ : Int) (d : Duty) (s : Stand) : Option ((Bool × Unit)) :=
    bif !decide (s.day = d.day) then ((froster_stand_take n s d d.on).bind fun v0 =>
    some (decide (v0.fst.row ≤ w.run), ())) else
    some (true, ())
def froster_Week_fresh_F (n : Nat) (y : C.Ds Ty (snds froster_Week_fresh_D)) : Option (YT Ty froster_Week_fresh_E) := froster_Week_fresh n y.1 y.2.1 y.2.2.1 y.2.2.2.1
noncomputable def froster_Week_fresh_law (n : Nat) : Law Ty := lawC froster_Week_fresh_D 0 froster_Week_fresh_E (froster_Week_fresh_F n)
noncomputable def froster_Week_fresh_T (n : Nat) : List (Nat × Law Ty) := [(178, froster_stand_take_law n)]
theorem froster_Week_fresh_Tok (n : Nat) : LawsOk Tryz.prog (froster_Week_fresh_T n) := ⟨froster_stand_take_lawOk n, trivial⟩
noncomputable def froster_Week_fresh_C (n : Nat) : CutL Ty := []
theorem froster_Week_fresh_rd (n : Nat) (x : C.Ds Ty (snds froster_Week_fresh_D)) : (exec Tryz.prog 25 (callT Tryz.prog (froster_Week_fresh_T n) []) (cutsOf (froster_Week_fresh_C n)) (codeOf Tryz.f242) (embS froster_Week_fresh_D x)).runK (typeRt Tryz.prog Tryz.f242.results.toList 0 froster_Week_fresh_E) = froster_Week_fresh_F n x := by kernel_rfl
theorem froster_Week_fresh_lawOk (n : Nat) : LawOk Tryz.prog 242 (froster_Week_fresh_law n) := law_ok Tryz.func242 rfl rfl (by decide) rfl prog_noRow prog_mix (callT_ok prog_noRow prog_mix (froster_Week_fresh_Tok n) insNil) (cuts_ok (fn := Tryz.f242) (L := froster_Week_fresh_C n) (ks := []) trivial (by kernel_rfl) (by kernel_rfl)) (froster_Week_fresh_rd n)
def froster_Week_broken_l2_D : List (Nat × C) := [(3, .u 32), (5, .p 0 [.l 3]), (6, .p 0 [.o 280]), (7, .a 267), (9, .s 3), (10, .u 184), (11, .s 3), (33, .o 278), (34, .s 3), (35, .s 3)]
def froster_Week_broken_l2_E : List Wo := [⟨.exit 4, [.u 32, .p 0 [.l 3], .p 0 [.o 280], .a 267, .u 184], [(5, .q 1), (7, .q 3), (9, .s 3), (10, .q 4), (11, .s 3)], []⟩]
def froster_Week_broken_i4_D : List (Nat × C) := [(0, .y 0 121 [3, 4, 5, 6, 7] [.u 32, .p 0 [.l 3], .p 0 [.l 3], .p 0 [.o 280], .a 267]), (2, .p 0 [.s 3]), (7, .l 184), (8, .s 3), (9, .s 3)]
def froster_Week_broken_i4_E : List Wo := [⟨.exit 0, [.y 0 121 [3, 4, 5, 6, 7] [.u 32, .p 0 [.l 3], .p 0 [.l 3], .p 0 [.o 280], .a 267], .q 1, .q 2, .q 3, .q 4, .q 5, .p 0 [.s 3]], [], []⟩, ⟨.ret, [.y 0 121 [3, 4, 5, 6, 7] [.u 32, .p 0 [.l 3], .p 0 [.l 3], .p 0 [.o 280], .a 267], .q 1, .q 2, .q 3, .q 4, .q 5, .p 0 [.s 3]], [], []⟩]
def froster_Week_broken_l1_D : List (Nat × C) := [(3, .u 32), (4, .p 0 [.l 3]), (5, .p 0 [.l 3]), (6, .p 0 [.o 280]), (7, .a 267), (18, .s 3), (19, .s 3)]
def froster_Week_broken_l1_E : List Wo := [⟨.exit 0, [.u 32, .p 0 [.l 3], .p 0 [.l 3], .p 0 [.o 280], .a 267], [(3, .q 0), (6, .q 3), (7, .q 4)], []⟩]
def froster_Week_broken_l3_D : List (Nat × C) := [(3, .u 32), (6, .p 0 [.o 280]), (7, .a 267), (72, .s 3), (73, .s 3)]
def froster_Week_broken_l3_E : List Wo := [⟨.exit 6, [.u 32, .p 0 [.o 280], .a 267], [(6, .q 1)], []⟩]
def froster_Week_broken_D : List (Nat × C) := [(0, .g 32), (1, .l 3), (2, .l 3)]
def froster_Week_broken_E : List Wo := [⟨.ret, [], [], [.o 280]⟩]
def froster_Week_broken_l2 : Nat → Week → (List Int) → (List Breach) → (List Stand) → Int → Duty → Int → (List Question) → Int → Int → Option ((Week × (List Int × Unit) × (List Breach × Unit) × List Stand × Duty × Unit × Unit × Int × Unit × Int × Unit))
  | 0, _, _, _, _, _, _, _, _, _, _ => none
  | n + 1, w, truth, out, now, i, d, k, x33, x34, x35 =>
    bif decide (x35 < x34) then ((idx x33 x35).bind fun v0 =>
    (x33.get?Internal x35.toNat).bind fun v1 =>
    bif now.length.beq 6 then ((idx now k).bind fun v2 =>
    (now.get?Internal k.toNat).bind fun v3 =>
    bif decide (v1.holds.f = (↑238 : Int)) then ((froster_Week_knows n w k d v3).bind fun v4 =>
    bif !v4.fst then ((app out [Breach.mk v1.kind k i]).bind fun v5 =>
    froster_Week_broken_l2 n w truth v5 now i d k x33 x34 (IntKind.i64.wrap (x35 + 1))) else
    froster_Week_broken_l2 n w truth out now i d k x33 x34 (IntKind.i64.wrap (x35 + 1))) else
    bif decide (v1.holds.f = (↑239 : Int)) then ((froster_Week_here n w k d v3).bind fun v4 =>
    bif !v4.fst then ((app out [Breach.mk v1.kind k i]).bind fun v5 =>
    froster_Week_broken_l2 n w truth v5 now i d k x33 x34 (IntKind.i64.wrap (x35 + 1))) else
    froster_Week_broken_l2 n w truth out now i d k x33 x34 (IntKind.i64.wrap (x35 + 1))) else
    bif decide (v1.holds.f = (↑240 : Int)) then ((froster_Week_single n w k d v3).bind fun v4 =>
    bif !v4.fst then ((app out [Breach.mk v1.kind k i]).bind fun v5 =>
    froster_Week_broken_l2 n w truth v5 now i d k x33 x34 (IntKind.i64.wrap (x35 + 1))) else
    froster_Week_broken_l2 n w truth out now i d k x33 x34 (IntKind.i64.wrap (x35 + 1))) else
    bif decide (v1.holds.f = (↑241 : Int)) then ((froster_Week_rested n w k d v3).bind fun v4 =>
    bif !v4.fst then ((app out [Breach.mk v1.kind k i]).bind fun v5 =>
    froster_Week_broken_l2 n w truth v5 now i d k x33 x34 (IntKind.i64.wrap (x35 + 1))) else
    froster_Week_broken_l2 n w truth out now i d k x33 x34 (IntKind.i64.wrap (x35 + 1))) else
    bif decide (v1.holds.f = (↑242 : Int)) then ((froster_Week_fresh n w k d v3).bind fun v4 =>
    bif !v4.fst then ((app out [Breach.mk v1.kind k i]).bind fun v5 =>
    froster_Week_broken_l2 n w truth v5 now i d k x33 x34 (IntKind.i64.wrap (x35 + 1))) else
    froster_Week_broken_l2 n w truth out now i d k x33 x34 (IntKind.i64.wrap (x35 + 1))) else
    none) else
    none) else
    some (w, ((truth, ()), ((out, ()), (now, (d, ((), ((), (i, ((), (k, ()))))))))))
def froster_Week_broken_l2_F (n : Nat) (y : C.Ds Ty (snds froster_Week_broken_l2_D)) : Option (YT Ty froster_Week_broken_l2_E) := froster_Week_broken_l2 n y.1 y.2.1.1 y.2.2.1.1 y.2.2.2.1 y.2.2.2.2.1 y.2.2.2.2.2.1 y.2.2.2.2.2.2.1 y.2.2.2.2.2.2.2.1 y.2.2.2.2.2.2.2.2.1 y.2.2.2.2.2.2.2.2.2.1
noncomputable def froster_Week_broken_l2_cut (n : Nat) : St Ty → Tr (Lf Ty) := cutC froster_Week_broken_l2_D 5 froster_Week_broken_l2_E (froster_Week_broken_l2_F n)
def froster_Week_broken_i4 : Nat → Week → (List Int) → (List Int) → (List Breach) → (List Stand) → Int → (List Duty) → Int → Int → Option (((Week × (List Int × Unit) × (List Int × Unit) × (List Breach × Unit) × List Stand × Unit) × Unit × Unit × Unit × Unit × Unit × (Int × Unit) × Unit) ⊕ (((Week × (List Int × Unit) × (List Int × Unit) × (List Breach × Unit) × List Stand × Unit) × Unit × Unit × Unit × Unit × Unit × (Int × Unit) × Unit)))
  | 0, _, _, _, _, _, _, _, _, _ => none
  | n + 1, yield1, yield2, yield3, yield4, yield5, x2, x7, x8, x9 =>
    bif decide (x9 < x8) then ((idx x7 x9).bind fun v0 =>
    bif decide (v0.day = x2) then ((idx yield2 x9).bind fun v1 =>
    bif decide (v1 = -1) then (froster_Week_broken_i4 n yield1 yield2 yield3 yield4 yield5 x2 x7 x8 (IntKind.i64.wrap (x9 + 1))) else
    (froster_Week_broken_l2 n yield1 yield3 yield4 yield5 x9 v0 v1 [Question.mk (IK.mk 0) (Fp.mk (↑238 : Int)), Question.mk (IK.mk 1) (Fp.mk (↑239 : Int)), Question.mk (IK.mk 2) (Fp.mk (↑240 : Int)), Question.mk (IK.mk 3) (Fp.mk (↑241 : Int)), Question.mk (IK.mk 4) (Fp.mk (↑242 : Int))] (↑[Question.mk (IK.mk 0) (Fp.mk (↑238 : Int)), Question.mk (IK.mk 1) (Fp.mk (↑239 : Int)), Question.mk (IK.mk 2) (Fp.mk (↑240 : Int)), Question.mk (IK.mk 3) (Fp.mk (↑241 : Int)), Question.mk (IK.mk 4) (Fp.mk (↑242 : Int))].length : Int) 0).bind fun v2 =>
    bif v2.snd.snd.snd.fst.length.beq 6 then ((idx v2.snd.snd.snd.fst v2.snd.snd.snd.snd.snd.snd.snd.snd.snd.fst).bind fun v3 =>
    (v2.snd.snd.snd.fst.get?Internal v2.snd.snd.snd.snd.snd.snd.snd.snd.snd.fst.toNat).bind fun v4 =>
    (idx v2.snd.fst.fst v2.snd.snd.snd.snd.snd.snd.snd.fst).bind fun v5 =>
    (froster_stand_take n v4 v2.snd.snd.snd.snd.fst v5).bind fun v6 =>
    bif v2.snd.snd.snd.fst.length.beq 6 then ((idx v2.snd.snd.snd.fst v2.snd.snd.snd.snd.snd.snd.snd.snd.snd.fst).bind fun v7 =>
    (v2.snd.snd.snd.fst.get?Internal v2.snd.snd.snd.snd.snd.snd.snd.snd.snd.fst.toNat).bind fun v8 =>
    froster_Week_broken_i4 n v2.fst yield2 v2.snd.fst.fst v2.snd.snd.fst.fst (v2.snd.snd.snd.fst.set v2.snd.snd.snd.snd.snd.snd.snd.snd.snd.fst.toNat v6.fst) x2 x7 x8 (IntKind.i64.wrap (x9 + 1))) else
    none) else
    none) else
    froster_Week_broken_i4 n yield1 yield2 yield3 yield4 yield5 x2 x7 x8 (IntKind.i64.wrap (x9 + 1))) else
    some (.inl ((yield1, ((yield2, ()), ((yield3, ()), ((yield4, ()), (yield5, ()))))), ((), ((), ((), ((), ((), ((x2, ()), ()))))))))
def froster_Week_broken_i4_F (n : Nat) (y : C.Ds Ty (snds froster_Week_broken_i4_D)) : Option (YT Ty froster_Week_broken_i4_E) := froster_Week_broken_i4 n y.1.1 y.1.2.1.1 y.1.2.2.1.1 y.1.2.2.2.1.1 y.1.2.2.2.2.1 y.2.1.1 y.2.2.1 y.2.2.2.1 y.2.2.2.2.1
noncomputable def froster_Week_broken_i4_cut (n : Nat) : St Ty → Tr (Lf Ty) := cutC froster_Week_broken_i4_D 7 froster_Week_broken_i4_E (froster_Week_broken_i4_F n)
def froster_Week_broken_l1 : Nat → Week → (List Int) → (List Int) → (List Breach) → (List Stand) → Int → Int → Option ((Week × (List Int × Unit) × (List Int × Unit) × (List Breach × Unit) × List Stand × Unit × Unit × Unit × Unit))
  | 0, _, _, _, _, _, _, _ => none
  | n + 1, w, roster, truth, out, now, x18, x19 =>
    bif decide (x19 < x18) then ((froster_Week_broken_i4 n w roster truth out now x19 w.duties (↑w.duties.length : Int) 0).bind fun v0 =>
    Sum.elim (fun v1 => froster_Week_broken_l1 n v1.fst.fst v1.fst.snd.fst.fst v1.fst.snd.snd.fst.fst v1.fst.snd.snd.snd.fst.fst v1.fst.snd.snd.snd.snd.fst x18 (IntKind.i64.wrap (x19 + 1))) (fun v1 => froster_Week_broken_l1 n v1.fst.fst v1.fst.snd.fst.fst v1.fst.snd.snd.fst.fst v1.fst.snd.snd.snd.fst.fst v1.fst.snd.snd.snd.snd.fst x18 (IntKind.i64.wrap (x19 + 1))) (v0)) else
    some (w, ((roster, ()), ((truth, ()), ((out, ()), (now, ((), ((), ((), ()))))))))
def froster_Week_broken_l1_F (n : Nat) (y : C.Ds Ty (snds froster_Week_broken_l1_D)) : Option (YT Ty froster_Week_broken_l1_E) := froster_Week_broken_l1 n y.1 y.2.1.1 y.2.2.1.1 y.2.2.2.1.1 y.2.2.2.2.1 y.2.2.2.2.2.1 y.2.2.2.2.2.2.1
noncomputable def froster_Week_broken_l1_cut (n : Nat) : St Ty → Tr (Lf Ty) := cutC froster_Week_broken_l1_D 5 froster_Week_broken_l1_E (froster_Week_broken_l1_F n)
def froster_Week_broken_l3 : Nat → Week → (List Breach) → (List Stand) → Int → Int → Option ((Week × (List Breach × Unit) × List Stand × Unit × Unit))
  | 0, _, _, _, _, _ => none
  | n + 1, w, out, now, x72, x73 =>
    bif decide (x73 < x72) then (bif now.length.beq 6 then ((idx now x73).bind fun v0 =>
    (now.get?Internal x73.toNat).bind fun v1 =>
    bif decide (v1.used > w.hours) then ((app out [Breach.mk (IK.mk 5) x73 0]).bind fun v2 =>
    froster_Week_broken_l3 n w v2 now x72 (IntKind.i64.wrap (x73 + 1))) else
    froster_Week_broken_l3 n w out now x72 (IntKind.i64.wrap (x73 + 1))) else
    none) else
    some (w, ((out, ()), (now, ((), ()))))
def froster_Week_broken_l3_F (n : Nat) (y : C.Ds Ty (snds froster_Week_broken_l3_D)) : Option (YT Ty froster_Week_broken_l3_E) := froster_Week_broken_l3 n y.1 y.2.1.1 y.2.2.1 y.2.2.2.1 y.2.2.2.2.1
noncomputable def froster_Week_broken_l3_cut (n : Nat) : St Ty → Tr (Lf Ty) := cutC froster_Week_broken_l3_D 3 froster_Week_broken_l3_E (froster_Week_broken_l3_F n)
def froster_Week_broken (n : Nat) (w : Week) (roster : List Int) (truth : List Int) : Option ((List Breach × Unit)) :=
    (froster_Week_before n w).bind fun v0 =>
    bif [Stand.mk 0 0 0 0, Stand.mk 0 0 0 0, Stand.mk 0 0 0 0, Stand.mk 0 0 0 0, Stand.mk 0 0 0 0, Stand.mk 0 0 0 0].length.beq 6 && v0.fst.length.beq 6 then ((froster_Week_broken_l1 n w roster truth [] v0.fst w.days 0).bind fun v1 =>
    (froster_Week_broken_l3 n v1.fst v1.snd.snd.snd.fst.fst v1.snd.snd.snd.snd.fst (↑v1.fst.drivers.length : Int) 0).bind fun v2 =>
    (srtBr v2.snd.fst.fst).bind fun v3 =>
    some (v3, ())) else
    none
def froster_Week_broken_F (n : Nat) (y : C.Ds Ty (snds froster_Week_broken_D)) : Option (YT Ty froster_Week_broken_E) := froster_Week_broken n y.1 y.2.1 y.2.2.1
noncomputable def froster_Week_broken_law (n : Nat) : Law Ty := lawC froster_Week_broken_D 0 froster_Week_broken_E (froster_Week_broken_F n)
noncomputable def froster_Week_broken_T (n : Nat) : List (Nat × Law Ty) := [(175, froster_Week_before_law n), (238, froster_Week_knows_law n), (239, froster_Week_here_law n), (240, froster_Week_single_law n), (241, froster_Week_rested_law n), (242, froster_Week_fresh_law n), (178, froster_stand_take_law n), (179, sortB_law n)]
theorem froster_Week_broken_Tok (n : Nat) : LawsOk Tryz.prog (froster_Week_broken_T n) := ⟨froster_Week_before_lawOk n, ⟨froster_Week_knows_lawOk n, ⟨froster_Week_here_lawOk n, ⟨froster_Week_single_lawOk n, ⟨froster_Week_rested_lawOk n, ⟨froster_Week_fresh_lawOk n, ⟨froster_stand_take_lawOk n, ⟨sortB_lawOk n, trivial⟩⟩⟩⟩⟩⟩⟩⟩
noncomputable def froster_Week_broken_l2_C (n : Nat) : CutL Ty := []
theorem froster_Week_broken_l2_rd (n : Nat) (x : C.Ds Ty (snds froster_Week_broken_l2_D)) : (exec Tryz.prog 92 (noY (callT Tryz.prog (froster_Week_broken_T n) [])) (cutsOf (froster_Week_broken_l2_C n)) (bodyAt 11 Tryz.f121) (embS froster_Week_broken_l2_D x)).runK (typeRd 5 froster_Week_broken_l2_D froster_Week_broken_l2_E (froster_Week_broken_l2_F n)) = froster_Week_broken_l2_F (n + 1) x := by kernel_rfl
theorem froster_Week_broken_l2_ok (n : Nat) : CutOk false Tryz.prog 92 (froster_Week_broken_l2_cut n) (.loop (bodyAt 11 Tryz.f121)) := cut_ok fun x y hy => can_loop (Fn := froster_Week_broken_l2_F) prog_noRow prog_mix (fun n => noY_ok (callT_ok prog_noRow prog_mix (froster_Week_broken_Tok n) insNil)) (fun _ _ => noY_none) (fun _ => by kernel_rfl) (fun n => (cuts_ok (fn := Tryz.f121) (L := froster_Week_broken_l2_C n) (ks := []) trivial (by kernel_rfl) (by kernel_rfl))) (by decide) (fun _ => rfl) froster_Week_broken_l2_rd hy
noncomputable def froster_Week_broken_B (n : Nat) : CutL Ty := [(.loop 11, froster_Week_broken_l2_cut n)]
noncomputable def froster_Week_broken_Y (n : Nat) : List (Nat × Law Ty) := (yieldF, ybC Tryz.prog (callT Tryz.prog (froster_Week_broken_T n) []) (cutsOf []) (cutsOf (froster_Week_broken_B n)) 121) :: froster_Week_broken_T n
theorem froster_Week_broken_Yok (n : Nat) : LawsOk Tryz.prog (froster_Week_broken_Y n) := ⟨ybC_ok prog_noRow prog_mix (callT_ok prog_noRow prog_mix (froster_Week_broken_Tok n) insNil) (fun _ _ _ h => by cases h) (cuts_ok (fn := Tryz.f121) (c := (RFs.rf 121).body) (N := (RFs.rf 121).n) (L := froster_Week_broken_B n) (ks := [.loop 11]) ⟨froster_Week_broken_l2_ok n, trivial⟩ (by kernel_rfl) (by kernel_rfl)), froster_Week_broken_Tok n⟩
noncomputable def froster_Week_broken_i4_C (n : Nat) : CutL Ty := []
theorem froster_Week_broken_i4_rd (n : Nat) (x : C.Ds Ty (snds froster_Week_broken_i4_D)) : (exec Tryz.prog 26 (callT Tryz.prog (froster_Week_broken_Y n) []) (cutsOf (froster_Week_broken_i4_C n)) (bodyAt 1 Tryz.f237) (embS froster_Week_broken_i4_D x)).runK (typeRd 7 froster_Week_broken_i4_D froster_Week_broken_i4_E (froster_Week_broken_i4_F n)) = froster_Week_broken_i4_F (n + 1) x := by kernel_rfl
theorem froster_Week_broken_i4_ok (n : Nat) : CutOk true Tryz.prog 26 (froster_Week_broken_i4_cut n) (.loop (bodyAt 1 Tryz.f237)) := cut_ok fun x y hy => can_loop (Fn := froster_Week_broken_i4_F) prog_noRow prog_mix (fun n => callT_ok prog_noRow prog_mix (froster_Week_broken_Yok n) insNil) (fun h => by cases h) (fun h => by cases h) (fun n => (cuts_ok (fn := Tryz.f237) (L := froster_Week_broken_i4_C n) (ks := []) trivial (by kernel_rfl) (by kernel_rfl))) (by decide) (fun _ => rfl) froster_Week_broken_i4_rd hy
noncomputable def froster_Week_broken_K (n : Nat) : InsL Ty := [(237, [(.loop 1, froster_Week_broken_i4_cut n)])]
theorem froster_Week_broken_Kok (n : Nat) : InsOk Tryz.prog (froster_Week_broken_K n) := ⟨ins_one (f := 237) Tryz.func237 rfl (cuts_ok (fn := Tryz.f237) (L := [(.loop 1, froster_Week_broken_i4_cut n)]) (ks := [.loop 1]) ⟨froster_Week_broken_i4_ok n, trivial⟩ (by kernel_rfl) (by kernel_rfl)), trivial⟩
noncomputable def froster_Week_broken_rf (n : Nat) : St Ty → Tr (Lf Ty) := rfC Tryz.prog (callT Tryz.prog (froster_Week_broken_Y n) (froster_Week_broken_K n)) (.tmp 24) 121 [3, 4, 5, 6, 7]
theorem froster_Week_broken_rfok (n : Nat) : CutOk true Tryz.prog 92 (froster_Week_broken_rf n) (nodeAt (.rf 8) Tryz.f121) := rf_cut (callT_ok prog_noRow prog_mix (froster_Week_broken_Yok n) (froster_Week_broken_Kok n)) (by kernel_rfl) (by kernel_rfl)
noncomputable def froster_Week_broken_l1_C (n : Nat) : CutL Ty := [(.rf 8, froster_Week_broken_rf n)]
theorem froster_Week_broken_l1_rd (n : Nat) (x : C.Ds Ty (snds froster_Week_broken_l1_D)) : (exec Tryz.prog 92 (callT Tryz.prog (froster_Week_broken_T n) []) (cutsOf (froster_Week_broken_l1_C n)) (bodyAt 3 Tryz.f121) (embS froster_Week_broken_l1_D x)).runK (typeRd 5 froster_Week_broken_l1_D froster_Week_broken_l1_E (froster_Week_broken_l1_F n)) = froster_Week_broken_l1_F (n + 1) x := by kernel_rfl
theorem froster_Week_broken_l1_ok (n : Nat) : CutOk true Tryz.prog 92 (froster_Week_broken_l1_cut n) (.loop (bodyAt 3 Tryz.f121)) := cut_ok fun x y hy => can_loop (Fn := froster_Week_broken_l1_F) prog_noRow prog_mix (fun n => callT_ok prog_noRow prog_mix (froster_Week_broken_Tok n) insNil) (fun h => by cases h) (fun h => by cases h) (fun n => (cuts_ok (fn := Tryz.f121) (L := froster_Week_broken_l1_C n) (ks := [.rf 8]) ⟨froster_Week_broken_rfok n, trivial⟩ (by kernel_rfl) (by kernel_rfl))) (by decide) (fun _ => rfl) froster_Week_broken_l1_rd hy
noncomputable def froster_Week_broken_l3_C (n : Nat) : CutL Ty := []
theorem froster_Week_broken_l3_rd (n : Nat) (x : C.Ds Ty (snds froster_Week_broken_l3_D)) : (exec Tryz.prog 92 (callT Tryz.prog (froster_Week_broken_T n) []) (cutsOf (froster_Week_broken_l3_C n)) (bodyAt 19 Tryz.f121) (embS froster_Week_broken_l3_D x)).runK (typeRd 3 froster_Week_broken_l3_D froster_Week_broken_l3_E (froster_Week_broken_l3_F n)) = froster_Week_broken_l3_F (n + 1) x := by kernel_rfl
theorem froster_Week_broken_l3_ok (n : Nat) : CutOk true Tryz.prog 92 (froster_Week_broken_l3_cut n) (.loop (bodyAt 19 Tryz.f121)) := cut_ok fun x y hy => can_loop (Fn := froster_Week_broken_l3_F) prog_noRow prog_mix (fun n => callT_ok prog_noRow prog_mix (froster_Week_broken_Tok n) insNil) (fun h => by cases h) (fun h => by cases h) (fun n => (cuts_ok (fn := Tryz.f121) (L := froster_Week_broken_l3_C n) (ks := []) trivial (by kernel_rfl) (by kernel_rfl))) (by decide) (fun _ => rfl) froster_Week_broken_l3_rd hy
noncomputable def froster_Week_broken_C (n : Nat) : CutL Ty := [(.loop 3, froster_Week_broken_l1_cut n), (.loop 19, froster_Week_broken_l3_cut n)]
theorem froster_Week_broken_rd (n : Nat) (x : C.Ds Ty (snds froster_Week_broken_D)) : (exec Tryz.prog 92 (callT Tryz.prog (froster_Week_broken_T n) []) (cutsOf (froster_Week_broken_C n)) (codeOf Tryz.f121) (embS froster_Week_broken_D x)).runK (typeRt Tryz.prog Tryz.f121.results.toList 0 froster_Week_broken_E) = froster_Week_broken_F n x := by kernel_rfl
theorem froster_Week_broken_lawOk (n : Nat) : LawOk Tryz.prog 121 (froster_Week_broken_law n) := law_ok Tryz.func121 rfl rfl (by decide) rfl prog_noRow prog_mix (callT_ok prog_noRow prog_mix (froster_Week_broken_Tok n) insNil) (cuts_ok (fn := Tryz.f121) (L := froster_Week_broken_C n) (ks := [.loop 3, .loop 19]) ⟨froster_Week_broken_l1_ok n, ⟨froster_Week_broken_l3_ok n, trivial⟩⟩ (by kernel_rfl) (by kernel_rfl)) (froster_Week_broken_rd n)
def froster_Week_legal_D : List (Nat × C) := [(0, .g 32), (1, .l 3)]
def froster_Week_legal_E : List Wo := [⟨.ret, [], [], [.s 4]⟩]
def froster_Week_legal (n : Nat) (w : Week) (roster : List Int) : Option ((Bool × Unit)) :=
    (froster_Week_ends n w).bind fun v0 =>
    (froster_Week_broken n w roster v0.fst).bind fun v1 =>
    some (decide ((↑v1.fst.length : Int) = 0), ())
def froster_Week_legal_F (n : Nat) (y : C.Ds Ty (snds froster_Week_legal_D)) : Option (YT Ty froster_Week_legal_E) := froster_Week_legal n y.1 y.2.1
noncomputable def froster_Week_legal_law (n : Nat) : Law Ty := readC (lawC froster_Week_legal_D 0 froster_Week_legal_E (froster_Week_legal_F n))
noncomputable def froster_Week_legal_T (n : Nat) : List (Nat × Law Ty) := [(122, froster_Week_ends_law n), (121, froster_Week_broken_law n)]
theorem froster_Week_legal_Tok (n : Nat) : LawsOk Tryz.prog (froster_Week_legal_T n) := ⟨froster_Week_ends_lawOk n, ⟨froster_Week_broken_lawOk n, trivial⟩⟩
noncomputable def froster_Week_legal_C (n : Nat) : CutL Ty := []
theorem froster_Week_legal_rd (n : Nat) (x : C.Ds Ty (snds froster_Week_legal_D)) : (exec Tryz.prog 12 (callT Tryz.prog (froster_Week_legal_T n) []) (cutsOf (froster_Week_legal_C n)) (codeOf Tryz.f73) (embS froster_Week_legal_D x)).runK (typeRt Tryz.prog Tryz.f73.results.toList 0 froster_Week_legal_E) = froster_Week_legal_F n x := by kernel_rfl
theorem froster_Week_legal_lawOk (n : Nat) : LawOk Tryz.prog 73 (froster_Week_legal_law n) := readC_ok (law_ok Tryz.func73 rfl rfl (by decide) rfl prog_noRow prog_mix (callT_ok prog_noRow prog_mix (froster_Week_legal_Tok n) insNil) (cuts_ok (fn := Tryz.f73) (L := froster_Week_legal_C n) (ks := []) trivial (by kernel_rfl) (by kernel_rfl)) (froster_Week_legal_rd n))
def froster_covers_l1_D : List (Nat × C) := [(2, .s 3), (5, .l 3), (6, .s 3), (7, .s 3)]
def froster_covers_l1_E : List Wo := [⟨.exit 0, [], [(2, .s 3)], []⟩]
def froster_covers_D : List (Nat × C) := [(0, .l 3)]
def froster_covers_E : List Wo := [⟨.ret, [], [], [.s 3]⟩]
def froster_covers_l1 : Nat → Int → (List Int) → Int → Int → Option ((Int × Unit))
  | 0, _, _, _, _ => none
  | n + 1, n_, x5, x6, x7 =>
    bif decide (x7 < x6) then ((idx x5 x7).bind fun v0 =>
    bif v0 != -1 then (froster_covers_l1 n (IntKind.i64.wrap (n_ + 1)) x5 x6 (IntKind.i64.wrap (x7 + 1))) else
    froster_covers_l1 n n_ x5 x6 (IntKind.i64.wrap (x7 + 1))) else
    some (n_, ())
def froster_covers_l1_F (n : Nat) (y : C.Ds Ty (snds froster_covers_l1_D)) : Option (YT Ty froster_covers_l1_E) := froster_covers_l1 n y.1 y.2.1 y.2.2.1 y.2.2.2.1
noncomputable def froster_covers_l1_cut (n : Nat) : St Ty → Tr (Lf Ty) := cutC froster_covers_l1_D 0 froster_covers_l1_E (froster_covers_l1_F n)
def froster_covers (n : Nat) (roster : List Int) : Option ((Int × Unit)) :=
    (froster_covers_l1 n 0 roster (↑roster.length : Int) 0).bind fun v0 =>
    some (v0.fst, ())
def froster_covers_F (n : Nat) (y : C.Ds Ty (snds froster_covers_D)) : Option (YT Ty froster_covers_E) := froster_covers n y.1
noncomputable def froster_covers_law (n : Nat) : Law Ty := readC (lawC froster_covers_D 0 froster_covers_E (froster_covers_F n))
noncomputable def froster_covers_T (n : Nat) : List (Nat × Law Ty) := []
theorem froster_covers_Tok (n : Nat) : LawsOk Tryz.prog (froster_covers_T n) := trivial
noncomputable def froster_covers_l1_C (n : Nat) : CutL Ty := []
theorem froster_covers_l1_rd (n : Nat) (x : C.Ds Ty (snds froster_covers_l1_D)) : (exec Tryz.prog 17 (callT Tryz.prog (froster_covers_T n) []) (cutsOf (froster_covers_l1_C n)) (bodyAt 2 Tryz.f74) (embS froster_covers_l1_D x)).runK (typeRd 0 froster_covers_l1_D froster_covers_l1_E (froster_covers_l1_F n)) = froster_covers_l1_F (n + 1) x := by kernel_rfl
theorem froster_covers_l1_ok (n : Nat) : CutOk true Tryz.prog 17 (froster_covers_l1_cut n) (.loop (bodyAt 2 Tryz.f74)) := cut_ok fun x y hy => can_loop (Fn := froster_covers_l1_F) prog_noRow prog_mix (fun n => callT_ok prog_noRow prog_mix (froster_covers_Tok n) insNil) (fun h => by cases h) (fun h => by cases h) (fun n => (cuts_ok (fn := Tryz.f74) (L := froster_covers_l1_C n) (ks := []) trivial (by kernel_rfl) (by kernel_rfl))) (by decide) (fun _ => rfl) froster_covers_l1_rd hy
noncomputable def froster_covers_C (n : Nat) : CutL Ty := [(.loop 2, froster_covers_l1_cut n)]
theorem froster_covers_rd (n : Nat) (x : C.Ds Ty (snds froster_covers_D)) : (exec Tryz.prog 17 (callT Tryz.prog (froster_covers_T n) []) (cutsOf (froster_covers_C n)) (codeOf Tryz.f74) (embS froster_covers_D x)).runK (typeRt Tryz.prog Tryz.f74.results.toList 0 froster_covers_E) = froster_covers_F n x := by kernel_rfl
theorem froster_covers_lawOk (n : Nat) : LawOk Tryz.prog 74 (froster_covers_law n) := readC_ok (law_ok Tryz.func74 rfl rfl (by decide) rfl prog_noRow prog_mix (callT_ok prog_noRow prog_mix (froster_covers_Tok n) insNil) (cuts_ok (fn := Tryz.f74) (L := froster_covers_C n) (ks := [.loop 2]) ⟨froster_covers_l1_ok n, trivial⟩ (by kernel_rfl) (by kernel_rfl)) (froster_covers_rd n))
def froster_ProveRoster_D : List (Nat × C) := [(0, .g 32), (1, .l 3), (2, .s 3)]
def froster_ProveRoster_E : List Wo := [⟨.ret, [], [], [.s 4]⟩]
def froster_ProveRoster (n : Nat) (w : Week) (roster : List Int) (least : Int) : Option ((Bool × Unit)) :=
    (froster_CheckWeek n w).bind fun v0 =>
    bif decide (v0.fst = 0) then ((froster_Week_roster n w roster).bind fun v1 =>
    bif v1.fst then ((froster_Week_legal n w roster).bind fun v2 =>
    bif v2.fst then ((froster_covers n roster).bind fun v3 =>
    some (decide (v3.fst ≥ least), ())) else
    some (false, ())) else
    some (false, ())) else
    some (false, ())
def froster_ProveRoster_F (n : Nat) (y : C.Ds Ty (snds froster_ProveRoster_D)) : Option (YT Ty froster_ProveRoster_E) := froster_ProveRoster n y.1 y.2.1 y.2.2.1
noncomputable def froster_ProveRoster_law (n : Nat) : Law Ty := readC (lawC froster_ProveRoster_D 0 froster_ProveRoster_E (froster_ProveRoster_F n))
noncomputable def froster_ProveRoster_T (n : Nat) : List (Nat × Law Ty) := [(71, froster_CheckWeek_law n), (72, froster_Week_roster_law n), (73, froster_Week_legal_law n), (74, froster_covers_law n)]
theorem froster_ProveRoster_Tok (n : Nat) : LawsOk Tryz.prog (froster_ProveRoster_T n) := ⟨froster_CheckWeek_lawOk n, ⟨froster_Week_roster_lawOk n, ⟨froster_Week_legal_lawOk n, ⟨froster_covers_lawOk n, trivial⟩⟩⟩⟩
noncomputable def froster_ProveRoster_C (n : Nat) : CutL Ty := []
theorem froster_ProveRoster_rd (n : Nat) (x : C.Ds Ty (snds froster_ProveRoster_D)) : (exec Tryz.prog 26 (callT Tryz.prog (froster_ProveRoster_T n) []) (cutsOf (froster_ProveRoster_C n)) (codeOf Tryz.f33) (embS froster_ProveRoster_D x)).runK (typeRt Tryz.prog Tryz.f33.results.toList 0 froster_ProveRoster_E) = froster_ProveRoster_F n x := by kernel_rfl
theorem froster_ProveRoster_lawOk (n : Nat) : LawOk Tryz.prog 33 (froster_ProveRoster_law n) := readC_ok (law_ok Tryz.func33 rfl rfl (by decide) rfl prog_noRow prog_mix (callT_ok prog_noRow prog_mix (froster_ProveRoster_Tok n) insNil) (cuts_ok (fn := Tryz.f33) (L := froster_ProveRoster_C n) (ks := []) trivial (by kernel_rfl) (by kernel_rfl)) (froster_ProveRoster_rd n))
def fgarage_session_give_D : List (Nat × C) := [(0, .u 114), (1, .v 3)]
def fgarage_session_give_E : List Wo := [⟨.ret, [.u 114], [], []⟩, ⟨.pan, [.u 114], [], [.i 234 (.g 234)]⟩]
def fgarage_session_give (n : Nat) (g : Session) (n_ : List Int) : Option ((Session × Unit) ⊕ ((Session × Refused × Unit))) :=
    bif n_.length.beq 5 then ((idx n_ 0).bind fun v0 =>
    (n_.get?Internal (Int.toNat 0)).bind fun v1 =>
    (fgarage_within n v1 0 (IntKind.i64.wrap ((↑g.state.roster.length : Int) - 1))).bind fun v2 =>
    bif v2.fst then (bif n_.length.beq 5 then ((idx n_ 1).bind fun v3 =>
    (n_.get?Internal (Int.toNat 1)).bind fun v4 =>
    (fgarage_within n v4 (-1) (IntKind.i64.wrap ((↑g.state.week.drivers.length : Int) - 1))).bind fun v5 =>
    (fgarage_ask n v5.fst 2).bind fun v6 =>
    Sum.elim (fun v7 => (clone3 n g.state.roster).bind fun v8 =>
    bif n_.length.beq 5 then ((idx n_ 0).bind fun v9 =>
    (n_.get?Internal (Int.toNat 0)).bind fun v10 =>
    bif n_.length.beq 5 then ((idx n_ 1).bind fun v11 =>
    (n_.get?Internal (Int.toNat 1)).bind fun v12 =>
    (idx v8.fst v10).bind fun v13 =>
    (v8.fst.get?Internal v10.toNat).bind fun v14 =>
    (froster_ProveRoster n g.state.week (v8.fst.set v10.toNat v12) 0).bind fun v15 =>
    (fgarage_ask n v15.fst 10).bind fun v16 =>
    Sum.elim (fun v17 => some (.inl (Session.mk (State.mk g.state.cards g.state.outs g.state.runs g.state.records g.state.week (v8.fst.set v10.toNat v12)), ()))) (fun v17 => some (.inr (g, (v17.fst, ())))) (v16)) else
    none) else
    none) (fun v7 => some (.inr (g, (v7.fst, ())))) (v6)) else
    none) else
    (fgarage_ask n false 2).bind fun v3 =>
    Sum.elim (fun v4 => (clone3 n g.state.roster).bind fun v5 =>
    bif n_.length.beq 5 then ((idx n_ 0).bind fun v6 =>
    (n_.get?Internal (Int.toNat 0)).bind fun v7 =>
    bif n_.length.beq 5 then ((idx n_ 1).bind fun v8 =>
    (n_.get?Internal (Int.toNat 1)).bind fun v9 =>
    (idx v5.fst v7).bind fun v10 =>
    (v5.fst.get?Internal v7.toNat).bind fun v11 =>
    (froster_ProveRoster n g.state.week (v5.fst.set v7.toNat v9) 0).bind fun v12 =>
    (fgarage_ask n v12.fst 10).bind fun v13 =>
    Sum.elim (fun v14 => some (.inl (Session.mk (State.mk g.state.cards g.state.outs g.state.runs g.state.records g.state.week (v5.fst.set v7.toNat v9)), ()))) (fun v14 => some (.inr (g, (v14.fst, ())))) (v13)) else
    none) else
    none) (fun v4 => some (.inr (g, (v4.fst, ())))) (v3)) else
    none
def fgarage_session_give_F (n : Nat) (y : C.Ds Ty (snds fgarage_session_give_D)) : Option (YT Ty fgarage_session_give_E) := fgarage_session_give n y.1 y.2.1
noncomputable def fgarage_session_give_law (n : Nat) : Law Ty := lawC fgarage_session_give_D 1 fgarage_session_give_E (fgarage_session_give_F n)
noncomputable def fgarage_session_give_T (n : Nat) : List (Nat × Law Ty) := [(75, fgarage_within_law n), (139, fgarage_ask_law n), (268, clone3_law n), (33, froster_ProveRoster_law n)]
theorem fgarage_session_give_Tok (n : Nat) : LawsOk Tryz.prog (fgarage_session_give_T n) := ⟨fgarage_within_lawOk n, ⟨fgarage_ask_lawOk n, ⟨clone3_lawOk n, ⟨froster_ProveRoster_lawOk n, trivial⟩⟩⟩⟩
noncomputable def fgarage_session_give_C (n : Nat) : CutL Ty := []
theorem fgarage_session_give_rd (n : Nat) (x : C.Ds Ty (snds fgarage_session_give_D)) : (exec Tryz.prog 54 (callT Tryz.prog (fgarage_session_give_T n) []) (cutsOf (fgarage_session_give_C n)) (codeOf Tryz.f200) (embS fgarage_session_give_D x)).runK (typeRt Tryz.prog Tryz.f200.results.toList 1 fgarage_session_give_E) = fgarage_session_give_F n x := by kernel_rfl
theorem fgarage_session_give_lawOk (n : Nat) : LawOk Tryz.prog 200 (fgarage_session_give_law n) := law_ok Tryz.func200 rfl rfl (by decide) rfl prog_noRow prog_mix (callT_ok prog_noRow prog_mix (fgarage_session_give_Tok n) insNil) (cuts_ok (fn := Tryz.f200) (L := fgarage_session_give_C n) (ks := []) trivial (by kernel_rfl) (by kernel_rfl)) (fgarage_session_give_rd n)
def words_D : List (Nat × C) := []
def words_E : List Wo := [⟨.ret, [], [], [.m 9 237]⟩]
def words (n : Nat) : Option (((List (ByteArray × Word)) × Unit)) :=
    some (mput keq9 (mput keq9 (mput keq9 (mput keq9 (mput keq9 (mput keq9 (mput keq9 (mput keq9 (mput keq9 (mput keq9 (mput keq9 (mput keq9 [] (B [102, 111, 117, 110, 100]) (Word.mk 4 (Fp.mk (↑189 : Int)))) (B [104, 101, 108, 100]) (Word.mk 4 (Fp.mk (↑190 : Int)))) (B [115, 105, 103, 110, 101, 100]) (Word.mk 4 (Fp.mk (↑191 : Int)))) (B [99, 104, 101, 99, 107, 101, 100]) (Word.mk 3 (Fp.mk (↑192 : Int)))) (B [111, 117, 116]) (Word.mk 2 (Fp.mk (↑193 : Int)))) (B [105, 110]) (Word.mk 3 (Fp.mk (↑194 : Int)))) (B [115, 97, 108, 101]) (Word.mk 5 (Fp.mk (↑195 : Int)))) (B [115, 121, 110, 99]) (Word.mk 4 (Fp.mk (↑196 : Int)))) (B [99, 108, 111, 115, 101]) (Word.mk 5 (Fp.mk (↑197 : Int)))) (B [100, 114, 105, 118, 101, 114]) (Word.mk 2 (Fp.mk (↑198 : Int)))) (B [100, 117, 116, 121]) (Word.mk 5 (Fp.mk (↑199 : Int)))) (B [103, 105, 118, 101]) (Word.mk 2 (Fp.mk (↑200 : Int))), ())
def words_F (n : Nat) (y : C.Ds Ty (snds words_D)) : Option (YT Ty words_E) := words n
noncomputable def words_law (n : Nat) : Law Ty := lawC words_D 0 words_E (words_F n)
noncomputable def words_T (n : Nat) : List (Nat × Law Ty) := [(189, fgarage_session_found_law n), (190, fgarage_session_held_law n), (191, fgarage_session_signed_law n), (192, fgarage_session_checked_law n), (193, fgarage_session_out_law n), (194, fgarage_session_in_law n), (195, fgarage_session_sale_law n), (196, fgarage_session_sync_law n), (197, fgarage_session_close_law n), (198, fgarage_session_driver_law n), (199, fgarage_session_duty_law n), (200, fgarage_session_give_law n)]
theorem words_Tok (n : Nat) : LawsOk Tryz.prog (words_T n) := ⟨fgarage_session_found_lawOk n, ⟨fgarage_session_held_lawOk n, ⟨fgarage_session_signed_lawOk n, ⟨fgarage_session_checked_lawOk n, ⟨fgarage_session_out_lawOk n, ⟨fgarage_session_in_lawOk n, ⟨fgarage_session_sale_lawOk n, ⟨fgarage_session_sync_lawOk n, ⟨fgarage_session_close_lawOk n, ⟨fgarage_session_driver_lawOk n, ⟨fgarage_session_duty_lawOk n, ⟨fgarage_session_give_lawOk n, trivial⟩⟩⟩⟩⟩⟩⟩⟩⟩⟩⟩⟩
noncomputable def words_C (n : Nat) : CutL Ty := []
theorem words_rd (n : Nat) (x : C.Ds Ty (snds words_D)) : (exec Tryz.prog 15 (callT Tryz.prog (words_T n) []) (cutsOf (words_C n)) (codeOf Tryz.f138) (embS words_D x)).runK (typeRt Tryz.prog Tryz.f138.results.toList 0 words_E) = words_F n x := by kernel_rfl
theorem words_lawOk (n : Nat) : LawOk Tryz.prog 138 (words_law n) := law_ok Tryz.func138 rfl rfl (by decide) rfl prog_noRow prog_mix (callT_ok prog_noRow prog_mix (words_Tok n) insNil) (cuts_ok (fn := Tryz.f138) (L := words_C n) (ks := []) trivial (by kernel_rfl) (by kernel_rfl)) (words_rd n)
def fgarage_number_D : List (Nat × C) := [(0, .s 9)]
def fgarage_number_E : List Wo := [⟨.ret, [], [], [.s 3]⟩, ⟨.pan, [], [], [.i 234 (.g 234)]⟩]
def fgarage_number (n : Nat) (s : ByteArray) : Option ((Int × Unit) ⊕ ((Refused × Unit))) :=
    (atoiP s).bind fun v0 =>
    Sum.elim (fun v1 => (itoaS n v1).bind fun v2 =>
    bif v2.fst.beq s then ((fgarage_within n v1 (-999999999) 999999999).bind fun v3 =>
    (fgarage_ask n v3.fst 4).bind fun v4 =>
    Sum.elim (fun v5 => some (.inl (v1, ()))) (fun v5 => some (.inr (v5.fst, ()))) (v4)) else
    (fgarage_ask n false 4).bind fun v3 =>
    Sum.elim (fun v4 => some (.inl (v1, ()))) (fun v4 => some (.inr (v4.fst, ()))) (v3)) (fun v1 => (fgarage_ask n false 4).bind fun v2 =>
    Sum.elim (fun v3 => some (.inl (v1, ()))) (fun v3 => some (.inr (v3.fst, ()))) (v2)) (v0)
def fgarage_number_F (n : Nat) (y : C.Ds Ty (snds fgarage_number_D)) : Option (YT Ty fgarage_number_E) := fgarage_number n y.1
noncomputable def fgarage_number_law (n : Nat) : Law Ty := lawC fgarage_number_D 0 fgarage_number_E (fgarage_number_F n)
noncomputable def fgarage_number_T (n : Nat) : List (Nat × Law Ty) := [(113, atoiS_law n), (89, itoaS_law n), (75, fgarage_within_law n), (139, fgarage_ask_law n)]
theorem fgarage_number_Tok (n : Nat) : LawsOk Tryz.prog (fgarage_number_T n) := ⟨atoiS_lawOk n, ⟨itoaS_lawOk n, ⟨fgarage_within_lawOk n, ⟨fgarage_ask_lawOk n, trivial⟩⟩⟩⟩
noncomputable def fgarage_number_C (n : Nat) : CutL Ty := []
theorem fgarage_number_rd (n : Nat) (x : C.Ds Ty (snds fgarage_number_D)) : (exec Tryz.prog 24 (callT Tryz.prog (fgarage_number_T n) []) (cutsOf (fgarage_number_C n)) (codeOf Tryz.f140) (embS fgarage_number_D x)).runK (typeRt Tryz.prog Tryz.f140.results.toList 0 fgarage_number_E) = fgarage_number_F n x := by kernel_rfl
theorem fgarage_number_lawOk (n : Nat) : LawOk Tryz.prog 140 (fgarage_number_law n) := law_ok Tryz.func140 rfl rfl (by decide) rfl prog_noRow prog_mix (callT_ok prog_noRow prog_mix (fgarage_number_Tok n) insNil) (cuts_ok (fn := Tryz.f140) (L := fgarage_number_C n) (ks := []) trivial (by kernel_rfl) (by kernel_rfl)) (fgarage_number_rd n)
end Go.Proofs.YtkpgggfibljflaaGreatDoor
namespace Go.Proofs.YtkpgggfibljflaaGreatDoor
open Go Go.RowKit Go.Proofs
open Rep (rep)
def dropC : Nat → Code → Code
  | n + 1, .seq _ b => dropC n b
  | _, c => c
def nextB_l1_D : List (Nat × C) := [(0, .u 114), (4, .p 0 [.s 3]), (6, .u 237), (8, .a 3), (33, .l 9), (34, .s 3), (35, .s 3)]
def nextB_l1_E : List Wo := [⟨.exit 0, [.u 114, .p 0 [.s 3], .u 237, .a 3], [(0, .q 0), (4, .q 1), (6, .q 2), (8, .q 3)], []⟩, ⟨.pan, [.u 114, .p 0 [.s 3], .u 237, .a 3], [(4, .q 1)], [.i 234 (.g 234)]⟩]
def nextB_D : List (Nat × C) := [(0, .u 114), (1, .s 9), (4, .p 0 [.s 37])]
def nextB_E : List Wo := [⟨.ret, [.u 114, .p 0 [.s 37]], [(4, .q 1)], []⟩, ⟨.pan, [.u 114, .p 0 [.s 37]], [(4, .q 1)], [.i 234 (.g 234)]⟩]
def nextB_l1 : Nat → Session → Int → Word → (List Int) → (List ByteArray) → Int → Int → Option ((Session × (Int × Unit) × Word × List Int × Unit × Unit × Unit × Unit × Unit) ⊕ ((Session × (Int × Unit) × Word × List Int × Unit × Refused × Unit)))
  | 0, _, _, _, _, _, _, _ => none
  | n + 1, g, e, x, n_, x33, x34, x35 =>
    bif decide (x35 < x34) then ((idx x33 x35).bind fun v0 =>
    (fgarage_number n v0).bind fun v1 =>
    Sum.elim (fun v2 => bif n_.length.beq 5 then ((idx n_ x35).bind fun v3 =>
    (n_.get?Internal x35.toNat).bind fun v4 =>
    nextB_l1 n g e x (n_.set x35.toNat v2.fst) x33 x34 (IntKind.i64.wrap (x35 + 1))) else
    none) (fun v2 => some (.inr (g, ((e, ()), (x, (n_, ((), (v2.fst, ())))))))) (v1)) else
    some (.inl (g, ((e, ()), (x, (n_, ((), ((), ((), ((), ())))))))))
def nextB_l1_F (n : Nat) (y : C.Ds Ty (snds nextB_l1_D)) : Option (YT Ty nextB_l1_E) := nextB_l1 n y.1 y.2.1.1 y.2.2.1 y.2.2.2.1 y.2.2.2.2.1 y.2.2.2.2.2.1 y.2.2.2.2.2.2.1
noncomputable def nextB_l1_cut (n : Nat) : St Ty → Tr (Lf Ty) := cutC nextB_l1_D 4 nextB_l1_E (nextB_l1_F n)
def nextB (n : Nat) (g : Session) (text : ByteArray) (e : Int) : Option ((Session × (Int × Unit) × Unit × Unit) ⊕ ((Session × (Int × Unit) × Unit × Refused × Unit))) :=
    (splitS n text (B [32])).bind fun v0 =>
    (words n).bind fun v1 =>
    (idx v0.fst 0).bind fun v2 =>
    bif mhas keq9 v1.fst v2 then ((fgarage_ask n (decide ((↑v0.fst.length : Int) = IntKind.i64.wrap ((mgetD keq9 v1.fst v2 (Word.mk 0 (Fp.mk (-1)))).many + 1))) 4).bind fun v3 =>
    Sum.elim (fun v4 => (lstSub v0.fst 1 (↑v0.fst.length : Int)).bind fun v5 =>
    (nextB_l1 n g e (mgetD keq9 v1.fst v2 (Word.mk 0 (Fp.mk (-1)))) [0, 0, 0, 0, 0] v5 (↑v5.length : Int) 0).bind fun v6 =>
    Sum.elim (fun v7 => bif v7.snd.snd.snd.fst.length.beq 5 then (bif decide (v7.snd.snd.fst.do_.f = (↑189 : Int)) then ((fgarage_session_found n v7.fst v7.snd.snd.snd.fst).bind fun v8 =>
    Sum.elim (fun v9 => some (.inl (v9.fst, ((0, ()), ((), ()))))) (fun v9 => some (.inr (v9.fst, ((v7.snd.fst.fst, ()), ((), (v9.snd.fst, ())))))) (v8)) else
    bif decide (v7.snd.snd.fst.do_.f = (↑190 : Int)) then ((fgarage_session_held n v7.fst v7.snd.snd.snd.fst).bind fun v8 =>
    Sum.elim (fun v9 => some (.inl (v9.fst, ((0, ()), ((), ()))))) (fun v9 => some (.inr (v9.fst, ((v7.snd.fst.fst, ()), ((), (v9.snd.fst, ())))))) (v8)) else
    bif decide (v7.snd.snd.fst.do_.f = (↑191 : Int)) then ((fgarage_session_signed n v7.fst v7.snd.snd.snd.fst).bind fun v8 =>
    Sum.elim (fun v9 => some (.inl (v9.fst, ((0, ()), ((), ()))))) (fun v9 => some (.inr (v9.fst, ((v7.snd.fst.fst, ()), ((), (v9.snd.fst, ())))))) (v8)) else
    bif decide (v7.snd.snd.fst.do_.f = (↑192 : Int)) then ((fgarage_session_checked n v7.fst v7.snd.snd.snd.fst).bind fun v8 =>
    Sum.elim (fun v9 => some (.inl (v9.fst, ((0, ()), ((), ()))))) (fun v9 => some (.inr (v9.fst, ((v7.snd.fst.fst, ()), ((), (v9.snd.fst, ())))))) (v8)) else
    bif decide (v7.snd.snd.fst.do_.f = (↑193 : Int)) then ((fgarage_session_out n v7.fst v7.snd.snd.snd.fst).bind fun v8 =>
    Sum.elim (fun v9 => some (.inl (v9.fst, ((0, ()), ((), ()))))) (fun v9 => some (.inr (v9.fst, ((v7.snd.fst.fst, ()), ((), (v9.snd.fst, ())))))) (v8)) else
    bif decide (v7.snd.snd.fst.do_.f = (↑194 : Int)) then ((fgarage_session_in n v7.fst v7.snd.snd.snd.fst).bind fun v8 =>
    Sum.elim (fun v9 => some (.inl (v9.fst, ((0, ()), ((), ()))))) (fun v9 => some (.inr (v9.fst, ((v7.snd.fst.fst, ()), ((), (v9.snd.fst, ())))))) (v8)) else
    bif decide (v7.snd.snd.fst.do_.f = (↑195 : Int)) then ((fgarage_session_sale n v7.fst v7.snd.snd.snd.fst).bind fun v8 =>
    Sum.elim (fun v9 => some (.inl (v9.fst, ((0, ()), ((), ()))))) (fun v9 => some (.inr (v9.fst, ((v7.snd.fst.fst, ()), ((), (v9.snd.fst, ())))))) (v8)) else
    bif decide (v7.snd.snd.fst.do_.f = (↑196 : Int)) then ((fgarage_session_sync n v7.fst v7.snd.snd.snd.fst).bind fun v8 =>
    Sum.elim (fun v9 => some (.inl (v9.fst, ((0, ()), ((), ()))))) (fun v9 => some (.inr (v9.fst, ((v7.snd.fst.fst, ()), ((), (v9.snd.fst, ())))))) (v8)) else
    bif decide (v7.snd.snd.fst.do_.f = (↑197 : Int)) then ((fgarage_session_close n v7.fst v7.snd.snd.snd.fst).bind fun v8 =>
    Sum.elim (fun v9 => some (.inl (v9.fst, ((0, ()), ((), ()))))) (fun v9 => some (.inr (v9.fst, ((v7.snd.fst.fst, ()), ((), (v9.snd.fst, ())))))) (v8)) else
    bif decide (v7.snd.snd.fst.do_.f = (↑198 : Int)) then ((fgarage_session_driver n v7.fst v7.snd.snd.snd.fst).bind fun v8 =>
    Sum.elim (fun v9 => some (.inl (v9.fst, ((0, ()), ((), ()))))) (fun v9 => some (.inr (v9.fst, ((v7.snd.fst.fst, ()), ((), (v9.snd.fst, ())))))) (v8)) else
    bif decide (v7.snd.snd.fst.do_.f = (↑199 : Int)) then ((fgarage_session_duty n v7.fst v7.snd.snd.snd.fst).bind fun v8 =>
    Sum.elim (fun v9 => some (.inl (v9.fst, ((0, ()), ((), ()))))) (fun v9 => some (.inr (v9.fst, ((v7.snd.fst.fst, ()), ((), (v9.snd.fst, ())))))) (v8)) else
    bif decide (v7.snd.snd.fst.do_.f = (↑200 : Int)) then ((fgarage_session_give n v7.fst v7.snd.snd.snd.fst).bind fun v8 =>
    Sum.elim (fun v9 => some (.inl (v9.fst, ((0, ()), ((), ()))))) (fun v9 => some (.inr (v9.fst, ((v7.snd.fst.fst, ()), ((), (v9.snd.fst, ())))))) (v8)) else
    none) else
    none) (fun v7 => some (.inr (v7.fst, ((v7.snd.fst.fst, ()), ((), (v7.snd.snd.snd.snd.snd.fst, ())))))) (v6)) (fun v4 => some (.inr (g, ((e, ()), ((), (v4.fst, ())))))) (v3)) else
    (fgarage_ask n false 4).bind fun v3 =>
    Sum.elim (fun v4 => (lstSub v0.fst 1 (↑v0.fst.length : Int)).bind fun v5 =>
    (nextB_l1 n g e (mgetD keq9 v1.fst v2 (Word.mk 0 (Fp.mk (-1)))) [0, 0, 0, 0, 0] v5 (↑v5.length : Int) 0).bind fun v6 =>
    Sum.elim (fun v7 => bif v7.snd.snd.snd.fst.length.beq 5 then (bif decide (v7.snd.snd.fst.do_.f = (↑189 : Int)) then ((fgarage_session_found n v7.fst v7.snd.snd.snd.fst).bind fun v8 =>
    Sum.elim (fun v9 => some (.inl (v9.fst, ((0, ()), ((), ()))))) (fun v9 => some (.inr (v9.fst, ((v7.snd.fst.fst, ()), ((), (v9.snd.fst, ())))))) (v8)) else
    bif decide (v7.snd.snd.fst.do_.f = (↑190 : Int)) then ((fgarage_session_held n v7.fst v7.snd.snd.snd.fst).bind fun v8 =>
    Sum.elim (fun v9 => some (.inl (v9.fst, ((0, ()), ((), ()))))) (fun v9 => some (.inr (v9.fst, ((v7.snd.fst.fst, ()), ((), (v9.snd.fst, ())))))) (v8)) else
    bif decide (v7.snd.snd.fst.do_.f = (↑191 : Int)) then ((fgarage_session_signed n v7.fst v7.snd.snd.snd.fst).bind fun v8 =>
    Sum.elim (fun v9 => some (.inl (v9.fst, ((0, ()), ((), ()))))) (fun v9 => some (.inr (v9.fst, ((v7.snd.fst.fst, ()), ((), (v9.snd.fst, ())))))) (v8)) else
    bif decide (v7.snd.snd.fst.do_.f = (↑192 : Int)) then ((fgarage_session_checked n v7.fst v7.snd.snd.snd.fst).bind fun v8 =>
    Sum.elim (fun v9 => some (.inl (v9.fst, ((0, ()), ((), ()))))) (fun v9 => some (.inr (v9.fst, ((v7.snd.fst.fst, ()), ((), (v9.snd.fst, ())))))) (v8)) else
    bif decide (v7.snd.snd.fst.do_.f = (↑193 : Int)) then ((fgarage_session_out n v7.fst v7.snd.snd.snd.fst).bind fun v8 =>
    Sum.elim (fun v9 => some (.inl (v9.fst, ((0, ()), ((), ()))))) (fun v9 => some (.inr (v9.fst, ((v7.snd.fst.fst, ()), ((), (v9.snd.fst, ())))))) (v8)) else
    bif decide (v7.snd.snd.fst.do_.f = (↑194 : Int)) then ((fgarage_session_in n v7.fst v7.snd.snd.snd.fst).bind fun v8 =>
    Sum.elim (fun v9 => some (.inl (v9.fst, ((0, ()), ((), ()))))) (fun v9 => some (.inr (v9.fst, ((v7.snd.fst.fst, ()), ((), (v9.snd.fst, ())))))) (v8)) else
    bif decide (v7.snd.snd.fst.do_.f = (↑195 : Int)) then ((fgarage_session_sale n v7.fst v7.snd.snd.snd.fst).bind fun v8 =>
    Sum.elim (fun v9 => some (.inl (v9.fst, ((0, ()), ((), ()))))) (fun v9 => some (.inr (v9.fst, ((v7.snd.fst.fst, ()), ((), (v9.snd.fst, ())))))) (v8)) else
    bif decide (v7.snd.snd.fst.do_.f = (↑196 : Int)) then ((fgarage_session_sync n v7.fst v7.snd.snd.snd.fst).bind fun v8 =>
    Sum.elim (fun v9 => some (.inl (v9.fst, ((0, ()), ((), ()))))) (fun v9 => some (.inr (v9.fst, ((v7.snd.fst.fst, ()), ((), (v9.snd.fst, ())))))) (v8)) else
    bif decide (v7.snd.snd.fst.do_.f = (↑197 : Int)) then ((fgarage_session_close n v7.fst v7.snd.snd.snd.fst).bind fun v8 =>
    Sum.elim (fun v9 => some (.inl (v9.fst, ((0, ()), ((), ()))))) (fun v9 => some (.inr (v9.fst, ((v7.snd.fst.fst, ()), ((), (v9.snd.fst, ())))))) (v8)) else
    bif decide (v7.snd.snd.fst.do_.f = (↑198 : Int)) then ((fgarage_session_driver n v7.fst v7.snd.snd.snd.fst).bind fun v8 =>
    Sum.elim (fun v9 => some (.inl (v9.fst, ((0, ()), ((), ()))))) (fun v9 => some (.inr (v9.fst, ((v7.snd.fst.fst, ()), ((), (v9.snd.fst, ())))))) (v8)) else
    bif decide (v7.snd.snd.fst.do_.f = (↑199 : Int)) then ((fgarage_session_duty n v7.fst v7.snd.snd.snd.fst).bind fun v8 =>
    Sum.elim (fun v9 => some (.inl (v9.fst, ((0, ()), ((), ()))))) (fun v9 => some (.inr (v9.fst, ((v7.snd.fst.fst, ()), ((), (v9.snd.fst, ())))))) (v8)) else
    bif decide (v7.snd.snd.fst.do_.f = (↑200 : Int)) then ((fgarage_session_give n v7.fst v7.snd.snd.snd.fst).bind fun v8 =>
    Sum.elim (fun v9 => some (.inl (v9.fst, ((0, ()), ((), ()))))) (fun v9 => some (.inr (v9.fst, ((v7.snd.fst.fst, ()), ((), (v9.snd.fst, ())))))) (v8)) else
    none) else
    none) (fun v7 => some (.inr (v7.fst, ((v7.snd.fst.fst, ()), ((), (v7.snd.snd.snd.snd.snd.fst, ())))))) (v6)) (fun v4 => some (.inr (g, ((e, ()), ((), (v4.fst, ())))))) (v3)
def nextB_F (n : Nat) (y : C.Ds Ty (snds nextB_D)) : Option (YT Ty nextB_E) := nextB n y.1 y.2.1 y.2.2.1.1
noncomputable def nextB_T (n : Nat) : List (Nat × Law Ty) := [(112, splitS_law n), (138, words_law n), (139, fgarage_ask_law n), (140, fgarage_number_law n), (189, fgarage_session_found_law n), (190, fgarage_session_held_law n), (191, fgarage_session_signed_law n), (192, fgarage_session_checked_law n), (193, fgarage_session_out_law n), (194, fgarage_session_in_law n), (195, fgarage_session_sale_law n), (196, fgarage_session_sync_law n), (197, fgarage_session_close_law n), (198, fgarage_session_driver_law n), (199, fgarage_session_duty_law n), (200, fgarage_session_give_law n)]
theorem nextB_Tok (n : Nat) : LawsOk Tryz.prog (nextB_T n) := ⟨splitS_lawOk n, ⟨words_lawOk n, ⟨fgarage_ask_lawOk n, ⟨fgarage_number_lawOk n, ⟨fgarage_session_found_lawOk n, ⟨fgarage_session_held_lawOk n, ⟨fgarage_session_signed_lawOk n, ⟨fgarage_session_checked_lawOk n, ⟨fgarage_session_out_lawOk n, ⟨fgarage_session_in_lawOk n, ⟨fgarage_session_sale_lawOk n, ⟨fgarage_session_sync_lawOk n, ⟨fgarage_session_close_lawOk n, ⟨fgarage_session_driver_lawOk n, ⟨fgarage_session_duty_lawOk n, ⟨fgarage_session_give_lawOk n, trivial⟩⟩⟩⟩⟩⟩⟩⟩⟩⟩⟩⟩⟩⟩⟩⟩
noncomputable def nextB_l1_C (n : Nat) : CutL Ty := []
theorem nextB_l1_rd (n : Nat) (x : C.Ds Ty (snds nextB_l1_D)) : (exec Tryz.prog 50 (callT Tryz.prog (nextB_T n) []) (cutsOf (nextB_l1_C n)) (bodyAt 7 Tryz.f84) (embS nextB_l1_D x)).runK (typeRd 4 nextB_l1_D nextB_l1_E (nextB_l1_F n)) = nextB_l1_F (n + 1) x := by kernel_rfl
theorem nextB_l1_ok (n : Nat) : CutOk true Tryz.prog 50 (nextB_l1_cut n) (.loop (bodyAt 7 Tryz.f84)) := cut_ok fun x y hy => can_loop (Fn := nextB_l1_F) prog_noRow prog_mix (fun n => callT_ok prog_noRow prog_mix (nextB_Tok n) insNil) (fun h => by cases h) (fun h => by cases h) (fun n => (cuts_ok (fn := Tryz.f84) (L := nextB_l1_C n) (ks := []) trivial (by kernel_rfl) (by kernel_rfl))) (by decide) (fun _ => rfl) nextB_l1_rd hy
noncomputable def nextB_C (n : Nat) : CutL Ty := [(.loop 7, nextB_l1_cut n)]
theorem nextB_rd (n : Nat) (x : C.Ds Ty (snds nextB_D)) : (exec Tryz.prog 50 (callT Tryz.prog (nextB_T n) []) (cutsOf (nextB_C n)) (dropC 2 (codeOf Tryz.f84)) (embS nextB_D x)).runK (typeLf 2 nextB_E) = nextB_F n x := by kernel_rfl
theorem nextB_can (n : Nat) {x : C.Ds Ty (snds nextB_D)} {y : YT Ty nextB_E} (hy : nextB_F n x = some y) : CanOk true Tryz.prog 50 (dropC 2 (codeOf Tryz.f84)) nextB_D 2 nextB_E x y := can_of prog_noRow prog_mix (callT_ok prog_noRow prog_mix (nextB_Tok n) insNil) (fun h => by cases h) (fun h => by cases h) (cuts_ok (c := dropC 2 (codeOf Tryz.f84)) (fn := Tryz.f84) (L := nextB_C n) (ks := [.loop 7]) ⟨nextB_l1_ok n, trivial⟩ (by kernel_rfl) (by kernel_rfl)) ((nextB_rd n x).trans hy)
end Go.Proofs.YtkpgggfibljflaaGreatDoor
