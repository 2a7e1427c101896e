/-
  No cell of these rows narrows 'for every input' (looked for: loops, veiled, ifaces, maps, wideKeys, modest, calm, conditions, laid).
  DERIVED. THE GIVEN ROWS OF THIS SEAT. 3 by the template 'for every input the law returns true; each argument reads behind the call as it read before'; 0 by the template 'total and deterministic' (their statements: YtokchpjijlebiaaGreatTotals.lean).
  GIVEN WITH THE SEED: the statements are not yours to turn. If you find one false, say at which input.
  Laid BY PROGRAM, IN A SANDBOX (cutbox-rows.mjs): the forced cells as the released guide's own fill.sh prints them over the translation 623e32727417dfe8… (all of the seat's roots in one cut). By AI agents, Wed Nov 11 2026. No macro, syntax, notation, axiom, sorry.
-/
import Derived.Test.YtokchpjijlebiaaGreatChecked
import GoSem.Claim
import GoSem.ClaimJoined
import GoSem.ClaimMapViews
import Derived.JoinedTies
import Derived.KernelRfl
namespace Go.Proofs.YtokchpjijlebiaaGreat
/- THE CELL 'sum', in the pinned program and in every row, IS THE sha256 OF THE DUMP (.gsa) THAT YtokchpjijlebiaaGreatProg.lean LOADS. Nothing in Lean hashes anything: it is a label: what it is worth is what the hold of that sum in a sandbox is worth. -/
noncomputable def Tryz.pinned : Pinned := { name := "ytokchpjijlebiaagreat", sum := "623e32727417dfe895f12e5cf45df56ece62166c59ac3cc34e2b1e7719fb8ae3", checked := Tryz.checked }
namespace Rows
def none {H : Type} : Left H := { results := [], args := [] }

/-- 'layoverlaw07.ControlShorter': WHATEVER THE INPUT: true; the input reads as it did. -/
def controlShorterSpec : ChangeSpec := { name := "controlShorter", fn := fun _ => fun
  | [d1, d2, d3, d4, d5] => { results := [.lit (.bool true)], args := [d1, d2, d3, d4, d5] }
  | _ => none }
def controlShorterRow : OpenClaim := { program := "ytokchpjijlebiaagreat", sum := "623e32727417dfe895f12e5cf45df56ece62166c59ac3cc34e2b1e7719fb8ae3", func := "layover/layoverlaw07.ControlShorter", spec := "controlShorter", unfollowed := true, recurses := true, plainKeys := false, apart := false }
def ControlShorterSaid : Prop := controlShorterRow.holds Tryz.pinned (OpenSpec.ofChange controlShorterSpec)

/-- ITS FALSE NEIGHBOUR: 'it returns false'. Refute it at one input. -/
def controlShorterWrong : ChangeSpec := { name := "controlShorter", fn := fun _ => fun
  | [d1, d2, d3, d4, d5] => { results := [.lit (.bool false)], args := [d1, d2, d3, d4, d5] }
  | _ => none }
def ControlShorterWrongFalsely : Prop := controlShorterRow.holds Tryz.pinned (OpenSpec.ofChange controlShorterWrong)

/-- 'layoverlaw07.ControlMarks': WHATEVER THE INPUT: true; the input reads as it did. -/
def controlMarksSpec : ChangeSpec := { name := "controlMarks", fn := fun _ => fun
  | [d1, d2, d3] => { results := [.lit (.bool true)], args := [d1, d2, d3] }
  | _ => none }
def controlMarksRow : OpenClaim := { program := "ytokchpjijlebiaagreat", sum := "623e32727417dfe895f12e5cf45df56ece62166c59ac3cc34e2b1e7719fb8ae3", func := "layover/layoverlaw07.ControlMarks", spec := "controlMarks", unfollowed := true, recurses := true, plainKeys := false, apart := false }
def ControlMarksSaid : Prop := controlMarksRow.holds Tryz.pinned (OpenSpec.ofChange controlMarksSpec)

/-- ITS FALSE NEIGHBOUR: 'it returns false'. Refute it at one input. -/
def controlMarksWrong : ChangeSpec := { name := "controlMarks", fn := fun _ => fun
  | [d1, d2, d3] => { results := [.lit (.bool false)], args := [d1, d2, d3] }
  | _ => none }
def ControlMarksWrongFalsely : Prop := controlMarksRow.holds Tryz.pinned (OpenSpec.ofChange controlMarksWrong)

/-- 'layoverlaw07.ControlRoad': WHATEVER THE INPUT: true; the input reads as it did. -/
def controlRoadSpec : ChangeSpec := { name := "controlRoad", fn := fun _ => fun
  | [d1, d2, d3, d4] => { results := [.lit (.bool true)], args := [d1, d2, d3, d4] }
  | _ => none }
def controlRoadRow : OpenClaim := { program := "ytokchpjijlebiaagreat", sum := "623e32727417dfe895f12e5cf45df56ece62166c59ac3cc34e2b1e7719fb8ae3", func := "layover/layoverlaw07.ControlRoad", spec := "controlRoad", unfollowed := true, recurses := true, plainKeys := false, apart := false }
def ControlRoadSaid : Prop := controlRoadRow.holds Tryz.pinned (OpenSpec.ofChange controlRoadSpec)

/-- ITS FALSE NEIGHBOUR: 'it returns false'. Refute it at one input. -/
def controlRoadWrong : ChangeSpec := { name := "controlRoad", fn := fun _ => fun
  | [d1, d2, d3, d4] => { results := [.lit (.bool false)], args := [d1, d2, d3, d4] }
  | _ => none }
def ControlRoadWrongFalsely : Prop := controlRoadRow.holds Tryz.pinned (OpenSpec.ofChange controlRoadWrong)

/- THE SECOND FORM. 'bulk': how many values and letters a reading holds, each counted each time it is reached (what is shared counts as often as it is met; a slice's spare places count too). A statement '..UptoSaid' is the law's where the arguments, and the package variables that the reading takes, are together of bulk at most 1048576: NARROWER than '..Said'. Prove '..Said' where nothing that the law and all that it calls make is longer than what came in: it says more and counts as full. Else prove '..UptoSaid'. A law counts once. -/
mutual
def uptoBulk {H : Type} : DataW H → Nat
  | .lit (.string bytes) => bytes.length + 1
  | .lit _ => 1
  | .nil => 1
  | .ptr d => uptoBulk d + 1
  | .slice elems spare => uptoBulkAll elems + uptoBulkAll spare + 1
  | .agg parts => uptoBulkAll parts + 1
  | .iface _ d => uptoBulk d + 1
  | .map entries => uptoBulkEntries entries + 1
  | .held _ => 1
def uptoBulkAll {H : Type} : List (DataW H) → Nat
  | [] => 0
  | d :: r => uptoBulk d + uptoBulkAll r
def uptoBulkEntries {H : Type} : List (Lit × DataW H) → Nat
  | [] => 0
  | x :: r => uptoBulkEntry x + uptoBulkEntries r
def uptoBulkEntry {H : Type} : Lit × DataW H → Nat
  | (.string bytes, d) => bytes.length + uptoBulk d + 1
  | (_, d) => uptoBulk d + 1
 end
def uptoSmall : (H : Type) → List (DataW H) → Bool := fun _ ds => decide (uptoBulkAll ds ≤ 1048576)
def OpenSpec.upto (s : _root_.Go.ChangeSpec) : _root_.Go.OpenSpec := { _root_.Go.OpenSpec.ofChange s with cond := some uptoSmall }

/-- 'layoverlaw07.ControlShorter', WHERE WHAT IT READS IS OF BULK AT MOST 1048576: true; the input reads as it did. -/
def controlShorterUptoRow : OpenClaim := { program := "ytokchpjijlebiaagreat", sum := "623e32727417dfe895f12e5cf45df56ece62166c59ac3cc34e2b1e7719fb8ae3", func := "layover/layoverlaw07.ControlShorter", spec := "controlShorter", unfollowed := true, recurses := true, plainKeys := false, apart := false, narrowed := true }
def ControlShorterUptoSaid : Prop := controlShorterUptoRow.holds Tryz.pinned (OpenSpec.upto controlShorterSpec)

/-- 'layoverlaw07.ControlMarks', WHERE WHAT IT READS IS OF BULK AT MOST 1048576: true; the input reads as it did. -/
def controlMarksUptoRow : OpenClaim := { program := "ytokchpjijlebiaagreat", sum := "623e32727417dfe895f12e5cf45df56ece62166c59ac3cc34e2b1e7719fb8ae3", func := "layover/layoverlaw07.ControlMarks", spec := "controlMarks", unfollowed := true, recurses := true, plainKeys := false, apart := false, narrowed := true }
def ControlMarksUptoSaid : Prop := controlMarksUptoRow.holds Tryz.pinned (OpenSpec.upto controlMarksSpec)

/-- 'layoverlaw07.ControlRoad', WHERE WHAT IT READS IS OF BULK AT MOST 1048576: true; the input reads as it did. -/
def controlRoadUptoRow : OpenClaim := { program := "ytokchpjijlebiaagreat", sum := "623e32727417dfe895f12e5cf45df56ece62166c59ac3cc34e2b1e7719fb8ae3", func := "layover/layoverlaw07.ControlRoad", spec := "controlRoad", unfollowed := true, recurses := true, plainKeys := false, apart := false, narrowed := true }
def ControlRoadUptoSaid : Prop := controlRoadUptoRow.holds Tryz.pinned (OpenSpec.upto controlRoadSpec)

end Rows
end Go.Proofs.YtokchpjijlebiaaGreat
