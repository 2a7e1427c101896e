/-
  No cell of these rows narrows 'for every input' (looked for: loops, veiled, ifaces, maps, wideKeys, modest, calm, conditions, laid).
  DERIVED. THE GIVEN ROWS OF THIS SEAT. 9 by the template 'for every input the law returns true; each argument reads behind the call as it read before'; 0 by the template 'total and deterministic' (their statements: YtokchpjijlebiaaTotals.lean).
  GIVEN WITH THE SEED: the statements are not yours to turn. If you find one false, say at which input.
  Laid BY PROGRAM, IN A SANDBOX (cutbox-rows.mjs): the forced cells as the released guide's own fill.sh prints them over the translation 4b5efcd13f948239… (all of the seat's roots in one cut). By AI agents, Wed Nov 11 2026. No macro, syntax, notation, axiom, sorry.
-/
import Derived.Test.YtokchpjijlebiaaChecked
import GoSem.Claim
import GoSem.ClaimJoined
import GoSem.ClaimMapViews
import Derived.JoinedTies
import Derived.KernelRfl
namespace Go.Proofs.Ytokchpjijlebiaa
/- THE CELL 'sum', in the pinned program and in every row, IS THE sha256 OF THE DUMP (.gsa) THAT YtokchpjijlebiaaProg.lean LOADS. Nothing in Lean hashes anything: it is a label: what it is worth is what the hold of that sum in a sandbox is worth. -/
noncomputable def Try.pinned : Pinned := { name := "ytokchpjijlebiaa", sum := "4b5efcd13f9482392a612f166944205540c5e7b7e663b7777fb29f8985258dfe", checked := Try.checked }
namespace Rows
def none {H : Type} : Left H := { results := [], args := [] }

/-- 'layoverlaw07.ControlBests': WHATEVER THE INPUT: true; the input reads as it did. -/
def controlBestsSpec : ChangeSpec := { name := "controlBests", fn := fun _ => fun
  | [d] => { results := [.lit (.bool true)], args := [d] }
  | _ => none }
def controlBestsRow : OpenClaim := { program := "ytokchpjijlebiaa", sum := "4b5efcd13f9482392a612f166944205540c5e7b7e663b7777fb29f8985258dfe", func := "layover/layoverlaw07.ControlBests", spec := "controlBests", unfollowed := true, recurses := true, plainKeys := false, apart := false }
def ControlBestsSaid : Prop := controlBestsRow.holds Try.pinned (OpenSpec.ofChange controlBestsSpec)

/-- ITS FALSE NEIGHBOUR: 'it returns false'. Refute it at one input. -/
def controlBestsWrong : ChangeSpec := { name := "controlBests", fn := fun _ => fun
  | [d] => { results := [.lit (.bool false)], args := [d] }
  | _ => none }
def ControlBestsWrongFalsely : Prop := controlBestsRow.holds Try.pinned (OpenSpec.ofChange controlBestsWrong)

/-- 'layoverlaw07.ControlFewest': WHATEVER THE INPUT: true; the input reads as it did. -/
def controlFewestSpec : ChangeSpec := { name := "controlFewest", fn := fun _ => fun
  | [d1, d2] => { results := [.lit (.bool true)], args := [d1, d2] }
  | _ => none }
def controlFewestRow : OpenClaim := { program := "ytokchpjijlebiaa", sum := "4b5efcd13f9482392a612f166944205540c5e7b7e663b7777fb29f8985258dfe", func := "layover/layoverlaw07.ControlFewest", spec := "controlFewest", unfollowed := true, recurses := true, plainKeys := false, apart := false }
def ControlFewestSaid : Prop := controlFewestRow.holds Try.pinned (OpenSpec.ofChange controlFewestSpec)

/-- ITS FALSE NEIGHBOUR: 'it returns false'. Refute it at one input. -/
def controlFewestWrong : ChangeSpec := { name := "controlFewest", fn := fun _ => fun
  | [d1, d2] => { results := [.lit (.bool false)], args := [d1, d2] }
  | _ => none }
def ControlFewestWrongFalsely : Prop := controlFewestRow.holds Try.pinned (OpenSpec.ofChange controlFewestWrong)

/-- 'layoverlaw07.ControlSpare': WHATEVER THE INPUT: true; the input reads as it did. -/
def controlSpareSpec : ChangeSpec := { name := "controlSpare", fn := fun _ => fun
  | [d1, d2, d3, d4, d5] => { results := [.lit (.bool true)], args := [d1, d2, d3, d4, d5] }
  | _ => none }
def controlSpareRow : OpenClaim := { program := "ytokchpjijlebiaa", sum := "4b5efcd13f9482392a612f166944205540c5e7b7e663b7777fb29f8985258dfe", func := "layover/layoverlaw07.ControlSpare", spec := "controlSpare", unfollowed := true, recurses := true, plainKeys := false, apart := false }
def ControlSpareSaid : Prop := controlSpareRow.holds Try.pinned (OpenSpec.ofChange controlSpareSpec)

/-- ITS FALSE NEIGHBOUR: 'it returns false'. Refute it at one input. -/
def controlSpareWrong : ChangeSpec := { name := "controlSpare", fn := fun _ => fun
  | [d1, d2, d3, d4, d5] => { results := [.lit (.bool false)], args := [d1, d2, d3, d4, d5] }
  | _ => none }
def ControlSpareWrongFalsely : Prop := controlSpareRow.holds Try.pinned (OpenSpec.ofChange controlSpareWrong)

/-- 'layoverlaw07.ControlKnown': WHATEVER THE INPUT: true; the input reads as it did. -/
def controlKnownSpec : ChangeSpec := { name := "controlKnown", fn := fun _ => fun
  | [d1, d2, d3, d4, d5] => { results := [.lit (.bool true)], args := [d1, d2, d3, d4, d5] }
  | _ => none }
def controlKnownRow : OpenClaim := { program := "ytokchpjijlebiaa", sum := "4b5efcd13f9482392a612f166944205540c5e7b7e663b7777fb29f8985258dfe", func := "layover/layoverlaw07.ControlKnown", spec := "controlKnown", unfollowed := true, recurses := true, plainKeys := false, apart := false }
def ControlKnownSaid : Prop := controlKnownRow.holds Try.pinned (OpenSpec.ofChange controlKnownSpec)

/-- ITS FALSE NEIGHBOUR: 'it returns false'. Refute it at one input. -/
def controlKnownWrong : ChangeSpec := { name := "controlKnown", fn := fun _ => fun
  | [d1, d2, d3, d4, d5] => { results := [.lit (.bool false)], args := [d1, d2, d3, d4, d5] }
  | _ => none }
def ControlKnownWrongFalsely : Prop := controlKnownRow.holds Try.pinned (OpenSpec.ofChange controlKnownWrong)

/-- 'layoverlaw07.ControlBefore': WHATEVER THE INPUT: true; the input reads as it did. -/
def controlBeforeSpec : ChangeSpec := { name := "controlBefore", fn := fun _ => fun
  | [d1, d2, d3, d4] => { results := [.lit (.bool true)], args := [d1, d2, d3, d4] }
  | _ => none }
def controlBeforeRow : OpenClaim := { program := "ytokchpjijlebiaa", sum := "4b5efcd13f9482392a612f166944205540c5e7b7e663b7777fb29f8985258dfe", func := "layover/layoverlaw07.ControlBefore", spec := "controlBefore", unfollowed := true, recurses := true, plainKeys := false, apart := false }
def ControlBeforeSaid : Prop := controlBeforeRow.holds Try.pinned (OpenSpec.ofChange controlBeforeSpec)

/-- ITS FALSE NEIGHBOUR: 'it returns false'. Refute it at one input. -/
def controlBeforeWrong : ChangeSpec := { name := "controlBefore", fn := fun _ => fun
  | [d1, d2, d3, d4] => { results := [.lit (.bool false)], args := [d1, d2, d3, d4] }
  | _ => none }
def ControlBeforeWrongFalsely : Prop := controlBeforeRow.holds Try.pinned (OpenSpec.ofChange controlBeforeWrong)

/-- 'layoverlaw07.ControlPrinted': WHATEVER THE INPUT: true; the input reads as it did. -/
def controlPrintedSpec : ChangeSpec := { name := "controlPrinted", fn := fun _ => fun
  | [d1, d2] => { results := [.lit (.bool true)], args := [d1, d2] }
  | _ => none }
def controlPrintedRow : OpenClaim := { program := "ytokchpjijlebiaa", sum := "4b5efcd13f9482392a612f166944205540c5e7b7e663b7777fb29f8985258dfe", func := "layover/layoverlaw07.ControlPrinted", spec := "controlPrinted", unfollowed := true, recurses := true, plainKeys := false, apart := false }
def ControlPrintedSaid : Prop := controlPrintedRow.holds Try.pinned (OpenSpec.ofChange controlPrintedSpec)

/-- ITS FALSE NEIGHBOUR: 'it returns false'. Refute it at one input. -/
def controlPrintedWrong : ChangeSpec := { name := "controlPrinted", fn := fun _ => fun
  | [d1, d2] => { results := [.lit (.bool false)], args := [d1, d2] }
  | _ => none }
def ControlPrintedWrongFalsely : Prop := controlPrintedRow.holds Try.pinned (OpenSpec.ofChange controlPrintedWrong)

/-- 'layoverlaw07.ControlWorsts': WHATEVER THE INPUT: true; the input reads as it did. -/
def controlWorstsSpec : ChangeSpec := { name := "controlWorsts", fn := fun _ => fun
  | [d1, d2, d3] => { results := [.lit (.bool true)], args := [d1, d2, d3] }
  | _ => none }
def controlWorstsRow : OpenClaim := { program := "ytokchpjijlebiaa", sum := "4b5efcd13f9482392a612f166944205540c5e7b7e663b7777fb29f8985258dfe", func := "layover/layoverlaw07.ControlWorsts", spec := "controlWorsts", unfollowed := true, recurses := true, plainKeys := false, apart := false }
def ControlWorstsSaid : Prop := controlWorstsRow.holds Try.pinned (OpenSpec.ofChange controlWorstsSpec)

/-- ITS FALSE NEIGHBOUR: 'it returns false'. Refute it at one input. -/
def controlWorstsWrong : ChangeSpec := { name := "controlWorsts", fn := fun _ => fun
  | [d1, d2, d3] => { results := [.lit (.bool false)], args := [d1, d2, d3] }
  | _ => none }
def ControlWorstsWrongFalsely : Prop := controlWorstsRow.holds Try.pinned (OpenSpec.ofChange controlWorstsWrong)

/-- 'layoverlaw07.ControlLater': WHATEVER THE INPUT: true; the input reads as it did. -/
def controlLaterSpec : ChangeSpec := { name := "controlLater", fn := fun _ => fun
  | [d1, d2, d3, d4] => { results := [.lit (.bool true)], args := [d1, d2, d3, d4] }
  | _ => none }
def controlLaterRow : OpenClaim := { program := "ytokchpjijlebiaa", sum := "4b5efcd13f9482392a612f166944205540c5e7b7e663b7777fb29f8985258dfe", func := "layover/layoverlaw07.ControlLater", spec := "controlLater", unfollowed := true, recurses := true, plainKeys := false, apart := false }
def ControlLaterSaid : Prop := controlLaterRow.holds Try.pinned (OpenSpec.ofChange controlLaterSpec)

/-- ITS FALSE NEIGHBOUR: 'it returns false'. Refute it at one input. -/
def controlLaterWrong : ChangeSpec := { name := "controlLater", fn := fun _ => fun
  | [d1, d2, d3, d4] => { results := [.lit (.bool false)], args := [d1, d2, d3, d4] }
  | _ => none }
def ControlLaterWrongFalsely : Prop := controlLaterRow.holds Try.pinned (OpenSpec.ofChange controlLaterWrong)

/-- 'layoverlaw07.ControlNames': WHATEVER THE INPUT: true; the input reads as it did. -/
def controlNamesSpec : ChangeSpec := { name := "controlNames", fn := fun _ => fun
  | [] => { results := [.lit (.bool true)], args := [] }
  | _ => none }
def controlNamesRow : OpenClaim := { program := "ytokchpjijlebiaa", sum := "4b5efcd13f9482392a612f166944205540c5e7b7e663b7777fb29f8985258dfe", func := "layover/layoverlaw07.ControlNames", spec := "controlNames", unfollowed := true, recurses := true, plainKeys := false, apart := false }
def ControlNamesSaid : Prop := controlNamesRow.holds Try.pinned (OpenSpec.ofChange controlNamesSpec)

/-- ITS FALSE NEIGHBOUR: 'it returns false'. Refute it at one input. -/
def controlNamesWrong : ChangeSpec := { name := "controlNames", fn := fun _ => fun
  | [] => { results := [.lit (.bool false)], args := [] }
  | _ => none }
def ControlNamesWrongFalsely : Prop := controlNamesRow.holds Try.pinned (OpenSpec.ofChange controlNamesWrong)

/- THE SECOND FORM. 'bulk': how many values and letters a reading holds, each counted each time it is reached (what is shared counts as often as it is met; a slice's spare places count too). A statement '..UptoSaid' is the law's where the arguments, and the package variables that the reading takes, are together of bulk at most 1048576: NARROWER than '..Said'. Prove '..Said' where nothing that the law and all that it calls make is longer than what came in: it says more and counts as full. Else prove '..UptoSaid'. A law counts once. -/
mutual
def uptoBulk {H : Type} : DataW H → Nat
  | .lit (.string bytes) => bytes.length + 1
  | .lit _ => 1
  | .nil => 1
  | .ptr d => uptoBulk d + 1
  | .slice elems spare => uptoBulkAll elems + uptoBulkAll spare + 1
  | .agg parts => uptoBulkAll parts + 1
  | .iface _ d => uptoBulk d + 1
  | .map entries => uptoBulkEntries entries + 1
  | .held _ => 1
def uptoBulkAll {H : Type} : List (DataW H) → Nat
  | [] => 0
  | d :: r => uptoBulk d + uptoBulkAll r
def uptoBulkEntries {H : Type} : List (Lit × DataW H) → Nat
  | [] => 0
  | x :: r => uptoBulkEntry x + uptoBulkEntries r
def uptoBulkEntry {H : Type} : Lit × DataW H → Nat
  | (.string bytes, d) => bytes.length + uptoBulk d + 1
  | (_, d) => uptoBulk d + 1
 end
def uptoSmall : (H : Type) → List (DataW H) → Bool := fun _ ds => decide (uptoBulkAll ds ≤ 1048576)
def OpenSpec.upto (s : _root_.Go.ChangeSpec) : _root_.Go.OpenSpec := { _root_.Go.OpenSpec.ofChange s with cond := some uptoSmall }

/-- 'layoverlaw07.ControlBests', WHERE WHAT IT READS IS OF BULK AT MOST 1048576: true; the input reads as it did. -/
def controlBestsUptoRow : OpenClaim := { program := "ytokchpjijlebiaa", sum := "4b5efcd13f9482392a612f166944205540c5e7b7e663b7777fb29f8985258dfe", func := "layover/layoverlaw07.ControlBests", spec := "controlBests", unfollowed := true, recurses := true, plainKeys := false, apart := false, narrowed := true }
def ControlBestsUptoSaid : Prop := controlBestsUptoRow.holds Try.pinned (OpenSpec.upto controlBestsSpec)

/-- 'layoverlaw07.ControlFewest', WHERE WHAT IT READS IS OF BULK AT MOST 1048576: true; the input reads as it did. -/
def controlFewestUptoRow : OpenClaim := { program := "ytokchpjijlebiaa", sum := "4b5efcd13f9482392a612f166944205540c5e7b7e663b7777fb29f8985258dfe", func := "layover/layoverlaw07.ControlFewest", spec := "controlFewest", unfollowed := true, recurses := true, plainKeys := false, apart := false, narrowed := true }
def ControlFewestUptoSaid : Prop := controlFewestUptoRow.holds Try.pinned (OpenSpec.upto controlFewestSpec)

/-- 'layoverlaw07.ControlSpare', WHERE WHAT IT READS IS OF BULK AT MOST 1048576: true; the input reads as it did. -/
def controlSpareUptoRow : OpenClaim := { program := "ytokchpjijlebiaa", sum := "4b5efcd13f9482392a612f166944205540c5e7b7e663b7777fb29f8985258dfe", func := "layover/layoverlaw07.ControlSpare", spec := "controlSpare", unfollowed := true, recurses := true, plainKeys := false, apart := false, narrowed := true }
def ControlSpareUptoSaid : Prop := controlSpareUptoRow.holds Try.pinned (OpenSpec.upto controlSpareSpec)

/-- 'layoverlaw07.ControlKnown', WHERE WHAT IT READS IS OF BULK AT MOST 1048576: true; the input reads as it did. -/
def controlKnownUptoRow : OpenClaim := { program := "ytokchpjijlebiaa", sum := "4b5efcd13f9482392a612f166944205540c5e7b7e663b7777fb29f8985258dfe", func := "layover/layoverlaw07.ControlKnown", spec := "controlKnown", unfollowed := true, recurses := true, plainKeys := false, apart := false, narrowed := true }
def ControlKnownUptoSaid : Prop := controlKnownUptoRow.holds Try.pinned (OpenSpec.upto controlKnownSpec)

/-- 'layoverlaw07.ControlBefore', WHERE WHAT IT READS IS OF BULK AT MOST 1048576: true; the input reads as it did. -/
def controlBeforeUptoRow : OpenClaim := { program := "ytokchpjijlebiaa", sum := "4b5efcd13f9482392a612f166944205540c5e7b7e663b7777fb29f8985258dfe", func := "layover/layoverlaw07.ControlBefore", spec := "controlBefore", unfollowed := true, recurses := true, plainKeys := false, apart := false, narrowed := true }
def ControlBeforeUptoSaid : Prop := controlBeforeUptoRow.holds Try.pinned (OpenSpec.upto controlBeforeSpec)

/-- 'layoverlaw07.ControlPrinted', WHERE WHAT IT READS IS OF BULK AT MOST 1048576: true; the input reads as it did. -/
def controlPrintedUptoRow : OpenClaim := { program := "ytokchpjijlebiaa", sum := "4b5efcd13f9482392a612f166944205540c5e7b7e663b7777fb29f8985258dfe", func := "layover/layoverlaw07.ControlPrinted", spec := "controlPrinted", unfollowed := true, recurses := true, plainKeys := false, apart := false, narrowed := true }
def ControlPrintedUptoSaid : Prop := controlPrintedUptoRow.holds Try.pinned (OpenSpec.upto controlPrintedSpec)

/-- 'layoverlaw07.ControlWorsts', WHERE WHAT IT READS IS OF BULK AT MOST 1048576: true; the input reads as it did. -/
def controlWorstsUptoRow : OpenClaim := { program := "ytokchpjijlebiaa", sum := "4b5efcd13f9482392a612f166944205540c5e7b7e663b7777fb29f8985258dfe", func := "layover/layoverlaw07.ControlWorsts", spec := "controlWorsts", unfollowed := true, recurses := true, plainKeys := false, apart := false, narrowed := true }
def ControlWorstsUptoSaid : Prop := controlWorstsUptoRow.holds Try.pinned (OpenSpec.upto controlWorstsSpec)

/-- 'layoverlaw07.ControlLater', WHERE WHAT IT READS IS OF BULK AT MOST 1048576: true; the input reads as it did. -/
def controlLaterUptoRow : OpenClaim := { program := "ytokchpjijlebiaa", sum := "4b5efcd13f9482392a612f166944205540c5e7b7e663b7777fb29f8985258dfe", func := "layover/layoverlaw07.ControlLater", spec := "controlLater", unfollowed := true, recurses := true, plainKeys := false, apart := false, narrowed := true }
def ControlLaterUptoSaid : Prop := controlLaterUptoRow.holds Try.pinned (OpenSpec.upto controlLaterSpec)

/-- 'layoverlaw07.ControlNames', WHERE WHAT IT READS IS OF BULK AT MOST 1048576: true; the input reads as it did. -/
def controlNamesUptoRow : OpenClaim := { program := "ytokchpjijlebiaa", sum := "4b5efcd13f9482392a612f166944205540c5e7b7e663b7777fb29f8985258dfe", func := "layover/layoverlaw07.ControlNames", spec := "controlNames", unfollowed := true, recurses := true, plainKeys := false, apart := false, narrowed := true }
def ControlNamesUptoSaid : Prop := controlNamesUptoRow.holds Try.pinned (OpenSpec.upto controlNamesSpec)

end Rows
end Go.Proofs.Ytokchpjijlebiaa
