/- The plain law. -/
import Derived.Test.YthcbemnflgjadaaNmP0
import Derived.KernelRfl
set_option linter.all false
namespace Go.Proofs.Ythcbemnflgjadaa
open Go Go.RowKit
theorem bindV {α β : Type} {x : Option α} {v : α} {f : α → Option β} (h : x = some v) : x.bind f = f v := by rw [h]; rfl
theorem sortI_sorted (l : List Int) : (sortI l).Pairwise (· ≤ ·) := by
  have := List.pairwise_mergeSort (le := fun x y : Int => decide (x ≤ y)) (fun a b c h1 h2 => by simp at *; omega) (fun a b => by simp; omega) l
  exact this.imp fun h => by simpa using h
theorem sortI_is {l l' : List Int} (hp : l.Perm l') (hs : l'.Pairwise (· ≤ ·)) : sortI l = l' :=
  List.Perm.eq_of_pairwise (le := (· ≤ ·)) (fun _ _ _ _ h1 h2 => Int.le_antisymm h1 h2) (sortI_sorted l) hs ((List.mergeSort_perm l _).trans hp)
theorem sortO_is {l l' : List Int} (hp : l.Perm l') (hs : l'.Pairwise (· ≤ ·)) (hl : l.length ≤ 1000000) : sortO l = some l' := by
  unfold sortO
  rw [if_pos (by omega), sortI_is hp hs]
def nightY : Yard := ⟨[2, 2], [⟨100, 120, 40⟩, ⟨110, 130, 20⟩, ⟨125, 140, 30⟩, ⟨150, 160, 10⟩], 0⟩
def nightN : Night := ⟨nightY, [0, 0, 1, 1], ⟨0, 1, 2, 3, 0, 0, 0, 0⟩, ⟨false, false, false, false, false, false, false, false⟩⟩
theorem awakeS : lane_Shunts 700 nightY [0, 0, 1, 1] [0, 1, 2, 3] [] = some ([0, 2], 0) := by
  unfold lane_Shunts
  refine (bindV (v := (nightN, 0)) (by kernel_rfl)).trans ?_
  show ((lane_night_morning 700 nightN).bind fun x25 => (slices_Concat_int_int 700 x25).bind fun x26 => (sortO x26).bind fun u_80 => some (u_80, 0)) = _
  refine (bindV (v := [[2], [0], [], []]) (by kernel_rfl)).trans ?_
  refine (bindV (v := [2, 0]) (by kernel_rfl)).trans ?_
  exact bindV (sortO_is (by decide) (by decide) (by decide))
theorem awake_true : law_awake 700 = some true := by
  unfold law_awake
  refine (bindV (v := nightY) rfl).trans ?_
  refine (bindV awakeS).trans ?_
  kernel_rfl
end Go.Proofs.Ythcbemnflgjadaa
namespace Go.Proofs.Ythcbemnflgjadaa
open Go Go.RowKit
def busAt (y : Yard) (b : Int) : Bus := y.buses.getD b.toNat default
end Go.Proofs.Ythcbemnflgjadaa
namespace Go.Proofs.Ythcbemnflgjadaa
open Go Go.RowKit
end Go.Proofs.Ythcbemnflgjadaa
namespace Go.Proofs.Ythcbemnflgjadaa
open Go Go.RowKit
end Go.Proofs.Ythcbemnflgjadaa
namespace Go.Proofs.Ythcbemnflgjadaa
open Go Go.RowKit
end Go.Proofs.Ythcbemnflgjadaa
namespace Go.Proofs.Ythcbemnflgjadaa
open Go Go.RowKit
end Go.Proofs.Ythcbemnflgjadaa
namespace Go.Proofs.Ythcbemnflgjadaa
open Go Go.RowKit
end Go.Proofs.Ythcbemnflgjadaa
namespace Go.Proofs.Ythcbemnflgjadaa
open Go Go.RowKit
def wd (words : List (IK .u16)) (k : Int) : Int := if words.length = 0 then 0 else (words.getD (Int.tmod k (words.length : Int)).toNat ⟨0⟩).n
def minOf (y : Yard) (words : List (IK .u16)) (b : Int) : Int :=
  if Int.tmod (wd words b) 3 = 0 then (busAt y b).lo else if Int.tmod (wd words b) 3 = 1 then (busAt y b).hi
  else (busAt y b).lo + Int.tmod (Int.tdiv (wd words b) 3) ((busAt y b).hi - (busAt y b).lo + 1)
def keyOf (y : Yard) (words : List (IK .u16)) (b : Int) : Int := 2 * minOf y words b + Int.tmod (wd words (2 * b + 1)) 2
end Go.Proofs.Ythcbemnflgjadaa
namespace Go.Proofs.Ythcbemnflgjadaa
open Go Go.RowKit
def nightM : Night := ⟨nightY, [0, 0, 1, 1], ⟨1, 0, 2, 3, 0, 0, 0, 0⟩, ⟨false, false, false, false, false, false, false, false⟩⟩
def nightD : Night := ⟨⟨[2, 2], nightY.buses, 1⟩, [0, 0, 1, 1], ⟨1, 0, 2, 3, 0, 0, 0, 0⟩, ⟨false, true, false, false, false, false, false, false⟩⟩
theorem exV {α : Type} {e : Option α} {v : α} {β : Type} {f : α → Option β} {r : Option β} (h : e = some v) (k : f v = r) : e.bind f = r := by rw [h]; exact k
theorem cfV {α : Type} {b : Bool} {x y r : α} (h : b = false) (k : y = r) : (bif b then x else y) = r := by rw [h]; exact k
theorem ctV {α : Type} {b : Bool} {x y r : α} (h : b = true) (k : x = r) : (bif b then x else y) = r := by rw [h]; exact k
theorem namesS1 : lane_Shunts 700 nightY [0, 0, 1, 1] [1, 0, 2, 3] [] = some ([2], 0) := by
  unfold lane_Shunts
  refine (bindV (v := (nightM, 0)) (by kernel_rfl)).trans ?_
  show ((lane_night_morning 700 nightM).bind fun x25 => (slices_Concat_int_int 700 x25).bind fun x26 => (sortO x26).bind fun u_80 => some (u_80, 0)) = _
  refine (bindV (v := [[2], [], [], []]) (by kernel_rfl)).trans ?_
  refine (bindV (v := [2]) (by kernel_rfl)).trans ?_
  exact bindV (sortO_is (by decide) (by decide) (by decide))
theorem namesS2 : lane_Shunts 700 ⟨[2, 2], nightY.buses, 1⟩ [0, 0, 1, 1] [1, 0, 2, 3] [1] = some ([1, 2], 0) := by
  unfold lane_Shunts
  refine (bindV (v := (nightD, 0)) (by kernel_rfl)).trans ?_
  show ((lane_night_morning 700 nightD).bind fun x25 => (slices_Concat_int_int 700 x25).bind fun x26 => (sortO x26).bind fun u_80 => some (u_80, 0)) = _
  refine (bindV (v := [[2], [], [1]]) (by kernel_rfl)).trans ?_
  refine (bindV (v := [2, 1]) (by kernel_rfl)).trans ?_
  exact bindV (sortO_is (by decide) (by decide) (by decide))
theorem laneNames_law : law_LaneNames 700 = some true := by
  unfold law_LaneNames
  refine exV (v := nightY) rfl ?_
  refine exV namesS1 ?_
  refine exV (v := nightY) rfl ?_
  refine exV (v := ([[2], [0], [], []], 0)) (by kernel_rfl) ?_
  refine exV (v := nightY) rfl ?_
  refine exV (v := ([0, 1, 2, 3], [], 2, 0)) (by kernel_rfl) ?_
  refine exV (v := nightY) rfl ?_
  refine exV (v := [2, 2, 2]) (by kernel_rfl) ?_
  refine exV (v := ([0, 0, 1, 2], 1, 0)) (by kernel_rfl) ?_
  refine exV (v := false) (by kernel_rfl) ?_
  refine cfV rfl ?_
  refine exV (v := nightY) rfl ?_
  refine exV (v := ([], 2)) (by kernel_rfl) ?_
  refine exV (v := nightY) rfl ?_
  refine exV (v := ([], 2)) (by kernel_rfl) ?_
  refine exV (v := nightY) rfl ?_
  refine exV (v := ([], 2)) (by kernel_rfl) ?_
  refine exV (v := nightY) rfl ?_
  refine exV (v := ([], [], 0, 2)) (by kernel_rfl) ?_
  refine exV (v := nightY) rfl ?_
  refine exV (v := ([], 0, 9)) (by kernel_rfl) ?_
  refine exV (v := nightY) rfl ?_
  refine exV namesS2 ?_
  refine exV (v := nightY) rfl ?_
  refine exV (v := nightY) rfl ?_
  refine exV (v := nightY) rfl ?_
  refine exV (v := [0, 0, 0, 0]) (by kernel_rfl) ?_
  refine exV (v := ⟨110, 130, 20⟩) (by kernel_rfl) ?_
  refine exV (v := [⟨100, 120, 40⟩, ⟨110, 130, 40⟩, ⟨125, 140, 30⟩, ⟨150, 160, 10⟩]) (by kernel_rfl) ?_
  refine exV (v := ⟨100, 120, 40⟩) (by kernel_rfl) ?_
  refine exV (v := [⟨121, 120, 40⟩, ⟨110, 130, 20⟩, ⟨125, 140, 30⟩, ⟨150, 160, 10⟩]) (by kernel_rfl) ?_
  refine exV (v := ([], 0, 0)) (by kernel_rfl) ?_
  refine ctV rfl (ctV rfl (ctV rfl (ctV rfl (ctV rfl (ctV rfl ?_)))))
  refine exV (v := true) (by kernel_rfl) (ctV rfl ?_)
  refine exV (v := 3) (by kernel_rfl) (ctV rfl ?_)
  refine exV (v := 1) (by kernel_rfl) (ctV rfl ?_)
  refine exV (v := 1) (by kernel_rfl) (ctV rfl ?_)
  refine exV (v := 1) (by kernel_rfl) (ctV rfl ?_)
  refine ctV rfl (ctV rfl (ctV rfl ?_))
  exact bindV awake_true
end Go.Proofs.Ythcbemnflgjadaa
