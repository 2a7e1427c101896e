/-
  No cell of these rows narrows 'for every input' (looked for: loops, veiled, ifaces, maps, wideKeys, modest, calm, conditions, laid).
  DERIVED. THE GIVEN ROWS OF THIS SEAT. 11 by the template 'for every input the law returns true; each argument reads behind the call as it read before'; 0 by the template 'total and deterministic' (their statements: YthcbemnflgjadaaTotals.lean).
  GIVEN WITH THE SEED: the statements are not yours to turn. If you find one false, say at which input.
  Laid BY PROGRAM, IN A SANDBOX (cutbox-rows.mjs): the forced cells as the released guide's own fill.sh prints them over the translation 8195530e2c4f5834… (all of the seat's roots in one cut). By AI agents, Wed Nov 11 2026. No macro, syntax, notation, axiom, sorry.
-/
import Derived.Test.YthcbemnflgjadaaChecked
import GoSem.Claim
import GoSem.ClaimJoined
import GoSem.ClaimMapViews
import Derived.JoinedTies
import Derived.KernelRfl
namespace Go.Proofs.Ythcbemnflgjadaa
/- THE CELL 'sum', in the pinned program and in every row, IS THE sha256 OF THE DUMP (.gsa) THAT YthcbemnflgjadaaProg.lean LOADS. Nothing in Lean hashes anything: it is a label: what it is worth is what the hold of that sum in a sandbox is worth. -/
noncomputable def Try.pinned : Pinned := { name := "ythcbemnflgjadaa", sum := "8195530e2c4f58347bfb941fc29684e701fdc620ab83a6c8077c8bb2911de94b", checked := Try.checked }
namespace Rows
def none {H : Type} : Left H := { results := [], args := [] }

/-- 'layoverlaw04.LaneShunts': WHATEVER THE INPUT: true; the input reads as it did. -/
def laneShuntsSpec : ChangeSpec := { name := "laneShunts", fn := fun _ => fun
  | [d1, d2, d3, d4] => { results := [.lit (.bool true)], args := [d1, d2, d3, d4] }
  | _ => none }
def laneShuntsRow : OpenClaim := { program := "ythcbemnflgjadaa", sum := "8195530e2c4f58347bfb941fc29684e701fdc620ab83a6c8077c8bb2911de94b", func := "layover/layoverlaw04.LaneShunts", spec := "laneShunts", unfollowed := true, recurses := true, plainKeys := false, apart := false }
def LaneShuntsSaid : Prop := laneShuntsRow.holds Try.pinned (OpenSpec.ofChange laneShuntsSpec)

/-- ITS FALSE NEIGHBOUR: 'it returns false'. Refute it at one input. -/
def laneShuntsWrong : ChangeSpec := { name := "laneShunts", fn := fun _ => fun
  | [d1, d2, d3, d4] => { results := [.lit (.bool false)], args := [d1, d2, d3, d4] }
  | _ => none }
def LaneShuntsWrongFalsely : Prop := laneShuntsRow.holds Try.pinned (OpenSpec.ofChange laneShuntsWrong)

/-- 'layoverlaw04.LaneBest': WHATEVER THE INPUT: true; the input reads as it did. -/
def laneBestSpec : ChangeSpec := { name := "laneBest", fn := fun _ => fun
  | [d1, d2] => { results := [.lit (.bool true)], args := [d1, d2] }
  | _ => none }
def laneBestRow : OpenClaim := { program := "ythcbemnflgjadaa", sum := "8195530e2c4f58347bfb941fc29684e701fdc620ab83a6c8077c8bb2911de94b", func := "layover/layoverlaw04.LaneBest", spec := "laneBest", unfollowed := true, recurses := true, plainKeys := false, apart := false }
def LaneBestSaid : Prop := laneBestRow.holds Try.pinned (OpenSpec.ofChange laneBestSpec)

/-- ITS FALSE NEIGHBOUR: 'it returns false'. Refute it at one input. -/
def laneBestWrong : ChangeSpec := { name := "laneBest", fn := fun _ => fun
  | [d1, d2] => { results := [.lit (.bool false)], args := [d1, d2] }
  | _ => none }
def LaneBestWrongFalsely : Prop := laneBestRow.holds Try.pinned (OpenSpec.ofChange laneBestWrong)

/-- 'layoverlaw04.LaneKnown': WHATEVER THE INPUT: true; the input reads as it did. -/
def laneKnownSpec : ChangeSpec := { name := "laneKnown", fn := fun _ => fun
  | [d1, d2, d3, d4, d5] => { results := [.lit (.bool true)], args := [d1, d2, d3, d4, d5] }
  | _ => none }
def laneKnownRow : OpenClaim := { program := "ythcbemnflgjadaa", sum := "8195530e2c4f58347bfb941fc29684e701fdc620ab83a6c8077c8bb2911de94b", func := "layover/layoverlaw04.LaneKnown", spec := "laneKnown", unfollowed := true, recurses := true, plainKeys := false, apart := false }
def LaneKnownSaid : Prop := laneKnownRow.holds Try.pinned (OpenSpec.ofChange laneKnownSpec)

/-- ITS FALSE NEIGHBOUR: 'it returns false'. Refute it at one input. -/
def laneKnownWrong : ChangeSpec := { name := "laneKnown", fn := fun _ => fun
  | [d1, d2, d3, d4, d5] => { results := [.lit (.bool false)], args := [d1, d2, d3, d4, d5] }
  | _ => none }
def LaneKnownWrongFalsely : Prop := laneKnownRow.holds Try.pinned (OpenSpec.ofChange laneKnownWrong)

/-- 'layoverlaw04.LaneLess': WHATEVER THE INPUT: true; the input reads as it did. -/
def laneLessSpec : ChangeSpec := { name := "laneLess", fn := fun _ => fun
  | [d1, d2] => { results := [.lit (.bool true)], args := [d1, d2] }
  | _ => none }
def laneLessRow : OpenClaim := { program := "ythcbemnflgjadaa", sum := "8195530e2c4f58347bfb941fc29684e701fdc620ab83a6c8077c8bb2911de94b", func := "layover/layoverlaw04.LaneLess", spec := "laneLess", unfollowed := true, recurses := true, plainKeys := false, apart := false }
def LaneLessSaid : Prop := laneLessRow.holds Try.pinned (OpenSpec.ofChange laneLessSpec)

/-- ITS FALSE NEIGHBOUR: 'it returns false'. Refute it at one input. -/
def laneLessWrong : ChangeSpec := { name := "laneLess", fn := fun _ => fun
  | [d1, d2] => { results := [.lit (.bool false)], args := [d1, d2] }
  | _ => none }
def LaneLessWrongFalsely : Prop := laneLessRow.holds Try.pinned (OpenSpec.ofChange laneLessWrong)

/-- 'layoverlaw04.LaneAlone': WHATEVER THE INPUT: true; the input reads as it did. -/
def laneAloneSpec : ChangeSpec := { name := "laneAlone", fn := fun _ => fun
  | [d1, d2] => { results := [.lit (.bool true)], args := [d1, d2] }
  | _ => none }
def laneAloneRow : OpenClaim := { program := "ythcbemnflgjadaa", sum := "8195530e2c4f58347bfb941fc29684e701fdc620ab83a6c8077c8bb2911de94b", func := "layover/layoverlaw04.LaneAlone", spec := "laneAlone", unfollowed := true, recurses := true, plainKeys := false, apart := false }
def LaneAloneSaid : Prop := laneAloneRow.holds Try.pinned (OpenSpec.ofChange laneAloneSpec)

/-- ITS FALSE NEIGHBOUR: 'it returns false'. Refute it at one input. -/
def laneAloneWrong : ChangeSpec := { name := "laneAlone", fn := fun _ => fun
  | [d1, d2] => { results := [.lit (.bool false)], args := [d1, d2] }
  | _ => none }
def LaneAloneWrongFalsely : Prop := laneAloneRow.holds Try.pinned (OpenSpec.ofChange laneAloneWrong)

/-- 'layoverlaw04.LaneNumbers': WHATEVER THE INPUT: true; the input reads as it did. -/
def laneNumbersSpec : ChangeSpec := { name := "laneNumbers", fn := fun _ => fun
  | [d1, d2, d3] => { results := [.lit (.bool true)], args := [d1, d2, d3] }
  | _ => none }
def laneNumbersRow : OpenClaim := { program := "ythcbemnflgjadaa", sum := "8195530e2c4f58347bfb941fc29684e701fdc620ab83a6c8077c8bb2911de94b", func := "layover/layoverlaw04.LaneNumbers", spec := "laneNumbers", unfollowed := true, recurses := true, plainKeys := false, apart := false }
def LaneNumbersSaid : Prop := laneNumbersRow.holds Try.pinned (OpenSpec.ofChange laneNumbersSpec)

/-- ITS FALSE NEIGHBOUR: 'it returns false'. Refute it at one input. -/
def laneNumbersWrong : ChangeSpec := { name := "laneNumbers", fn := fun _ => fun
  | [d1, d2, d3] => { results := [.lit (.bool false)], args := [d1, d2, d3] }
  | _ => none }
def LaneNumbersWrongFalsely : Prop := laneNumbersRow.holds Try.pinned (OpenSpec.ofChange laneNumbersWrong)

/-- 'layoverlaw04.LaneMornings': WHATEVER THE INPUT: true; the input reads as it did. -/
def laneMorningsSpec : ChangeSpec := { name := "laneMornings", fn := fun _ => fun
  | [d1, d2, d3, d4] => { results := [.lit (.bool true)], args := [d1, d2, d3, d4] }
  | _ => none }
def laneMorningsRow : OpenClaim := { program := "ythcbemnflgjadaa", sum := "8195530e2c4f58347bfb941fc29684e701fdc620ab83a6c8077c8bb2911de94b", func := "layover/layoverlaw04.LaneMornings", spec := "laneMornings", unfollowed := true, recurses := true, plainKeys := false, apart := false }
def LaneMorningsSaid : Prop := laneMorningsRow.holds Try.pinned (OpenSpec.ofChange laneMorningsSpec)

/-- ITS FALSE NEIGHBOUR: 'it returns false'. Refute it at one input. -/
def laneMorningsWrong : ChangeSpec := { name := "laneMornings", fn := fun _ => fun
  | [d1, d2, d3, d4] => { results := [.lit (.bool false)], args := [d1, d2, d3, d4] }
  | _ => none }
def LaneMorningsWrongFalsely : Prop := laneMorningsRow.holds Try.pinned (OpenSpec.ofChange laneMorningsWrong)

/-- 'layoverlaw04.LaneNight': WHATEVER THE INPUT: true; the input reads as it did. -/
def laneNightSpec : ChangeSpec := { name := "laneNight", fn := fun _ => fun
  | [d1, d2] => { results := [.lit (.bool true)], args := [d1, d2] }
  | _ => none }
def laneNightRow : OpenClaim := { program := "ythcbemnflgjadaa", sum := "8195530e2c4f58347bfb941fc29684e701fdc620ab83a6c8077c8bb2911de94b", func := "layover/layoverlaw04.LaneNight", spec := "laneNight", unfollowed := true, recurses := true, plainKeys := false, apart := false }
def LaneNightSaid : Prop := laneNightRow.holds Try.pinned (OpenSpec.ofChange laneNightSpec)

/-- ITS FALSE NEIGHBOUR: 'it returns false'. Refute it at one input. -/
def laneNightWrong : ChangeSpec := { name := "laneNight", fn := fun _ => fun
  | [d1, d2] => { results := [.lit (.bool false)], args := [d1, d2] }
  | _ => none }
def LaneNightWrongFalsely : Prop := laneNightRow.holds Try.pinned (OpenSpec.ofChange laneNightWrong)

/-- 'layoverlaw04.LaneGoes': WHATEVER THE INPUT: true; the input reads as it did. -/
def laneGoesSpec : ChangeSpec := { name := "laneGoes", fn := fun _ => fun
  | [d1, d2] => { results := [.lit (.bool true)], args := [d1, d2] }
  | _ => none }
def laneGoesRow : OpenClaim := { program := "ythcbemnflgjadaa", sum := "8195530e2c4f58347bfb941fc29684e701fdc620ab83a6c8077c8bb2911de94b", func := "layover/layoverlaw04.LaneGoes", spec := "laneGoes", unfollowed := true, recurses := true, plainKeys := false, apart := false }
def LaneGoesSaid : Prop := laneGoesRow.holds Try.pinned (OpenSpec.ofChange laneGoesSpec)

/-- ITS FALSE NEIGHBOUR: 'it returns false'. Refute it at one input. -/
def laneGoesWrong : ChangeSpec := { name := "laneGoes", fn := fun _ => fun
  | [d1, d2] => { results := [.lit (.bool false)], args := [d1, d2] }
  | _ => none }
def LaneGoesWrongFalsely : Prop := laneGoesRow.holds Try.pinned (OpenSpec.ofChange laneGoesWrong)

/-- 'layoverlaw04.LaneOrders': WHATEVER THE INPUT: true; the input reads as it did. -/
def laneOrdersSpec : ChangeSpec := { name := "laneOrders", fn := fun _ => fun
  | [d1, d2] => { results := [.lit (.bool true)], args := [d1, d2] }
  | _ => none }
def laneOrdersRow : OpenClaim := { program := "ythcbemnflgjadaa", sum := "8195530e2c4f58347bfb941fc29684e701fdc620ab83a6c8077c8bb2911de94b", func := "layover/layoverlaw04.LaneOrders", spec := "laneOrders", unfollowed := true, recurses := true, plainKeys := false, apart := false }
def LaneOrdersSaid : Prop := laneOrdersRow.holds Try.pinned (OpenSpec.ofChange laneOrdersSpec)

/-- ITS FALSE NEIGHBOUR: 'it returns false'. Refute it at one input. -/
def laneOrdersWrong : ChangeSpec := { name := "laneOrders", fn := fun _ => fun
  | [d1, d2] => { results := [.lit (.bool false)], args := [d1, d2] }
  | _ => none }
def LaneOrdersWrongFalsely : Prop := laneOrdersRow.holds Try.pinned (OpenSpec.ofChange laneOrdersWrong)

/-- 'layoverlaw04.LaneNames': WHATEVER THE INPUT: true; the input reads as it did. -/
def laneNamesSpec : ChangeSpec := { name := "laneNames", fn := fun _ => fun
  | [] => { results := [.lit (.bool true)], args := [] }
  | _ => none }
def laneNamesRow : OpenClaim := { program := "ythcbemnflgjadaa", sum := "8195530e2c4f58347bfb941fc29684e701fdc620ab83a6c8077c8bb2911de94b", func := "layover/layoverlaw04.LaneNames", spec := "laneNames", unfollowed := true, recurses := true, plainKeys := false, apart := false }
def LaneNamesSaid : Prop := laneNamesRow.holds Try.pinned (OpenSpec.ofChange laneNamesSpec)

/-- ITS FALSE NEIGHBOUR: 'it returns false'. Refute it at one input. -/
def laneNamesWrong : ChangeSpec := { name := "laneNames", fn := fun _ => fun
  | [] => { results := [.lit (.bool false)], args := [] }
  | _ => none }
def LaneNamesWrongFalsely : Prop := laneNamesRow.holds Try.pinned (OpenSpec.ofChange laneNamesWrong)

/- THE SECOND FORM. 'bulk': how many values and letters a reading holds, each counted each time it is reached (what is shared counts as often as it is met; a slice's spare places count too). A statement '..UptoSaid' is the law's where the arguments, and the package variables that the reading takes, are together of bulk at most 1048576: NARROWER than '..Said'. Prove '..Said' where nothing that the law and all that it calls make is longer than what came in: it says more and counts as full. Else prove '..UptoSaid'. A law counts once. -/
mutual
def uptoBulk {H : Type} : DataW H → Nat
  | .lit (.string bytes) => bytes.length + 1
  | .lit _ => 1
  | .nil => 1
  | .ptr d => uptoBulk d + 1
  | .slice elems spare => uptoBulkAll elems + uptoBulkAll spare + 1
  | .agg parts => uptoBulkAll parts + 1
  | .iface _ d => uptoBulk d + 1
  | .map entries => uptoBulkEntries entries + 1
  | .held _ => 1
def uptoBulkAll {H : Type} : List (DataW H) → Nat
  | [] => 0
  | d :: r => uptoBulk d + uptoBulkAll r
def uptoBulkEntries {H : Type} : List (Lit × DataW H) → Nat
  | [] => 0
  | x :: r => uptoBulkEntry x + uptoBulkEntries r
def uptoBulkEntry {H : Type} : Lit × DataW H → Nat
  | (.string bytes, d) => bytes.length + uptoBulk d + 1
  | (_, d) => uptoBulk d + 1
 end
def uptoSmall : (H : Type) → List (DataW H) → Bool := fun _ ds => decide (uptoBulkAll ds ≤ 1048576)
def OpenSpec.upto (s : _root_.Go.ChangeSpec) : _root_.Go.OpenSpec := { _root_.Go.OpenSpec.ofChange s with cond := some uptoSmall }

/-- 'layoverlaw04.LaneShunts', WHERE WHAT IT READS IS OF BULK AT MOST 1048576: true; the input reads as it did. -/
def laneShuntsUptoRow : OpenClaim := { program := "ythcbemnflgjadaa", sum := "8195530e2c4f58347bfb941fc29684e701fdc620ab83a6c8077c8bb2911de94b", func := "layover/layoverlaw04.LaneShunts", spec := "laneShunts", unfollowed := true, recurses := true, plainKeys := false, apart := false, narrowed := true }
def LaneShuntsUptoSaid : Prop := laneShuntsUptoRow.holds Try.pinned (OpenSpec.upto laneShuntsSpec)

/-- 'layoverlaw04.LaneBest', WHERE WHAT IT READS IS OF BULK AT MOST 1048576: true; the input reads as it did. -/
def laneBestUptoRow : OpenClaim := { program := "ythcbemnflgjadaa", sum := "8195530e2c4f58347bfb941fc29684e701fdc620ab83a6c8077c8bb2911de94b", func := "layover/layoverlaw04.LaneBest", spec := "laneBest", unfollowed := true, recurses := true, plainKeys := false, apart := false, narrowed := true }
def LaneBestUptoSaid : Prop := laneBestUptoRow.holds Try.pinned (OpenSpec.upto laneBestSpec)

/-- 'layoverlaw04.LaneKnown', WHERE WHAT IT READS IS OF BULK AT MOST 1048576: true; the input reads as it did. -/
def laneKnownUptoRow : OpenClaim := { program := "ythcbemnflgjadaa", sum := "8195530e2c4f58347bfb941fc29684e701fdc620ab83a6c8077c8bb2911de94b", func := "layover/layoverlaw04.LaneKnown", spec := "laneKnown", unfollowed := true, recurses := true, plainKeys := false, apart := false, narrowed := true }
def LaneKnownUptoSaid : Prop := laneKnownUptoRow.holds Try.pinned (OpenSpec.upto laneKnownSpec)

/-- 'layoverlaw04.LaneLess', WHERE WHAT IT READS IS OF BULK AT MOST 1048576: true; the input reads as it did. -/
def laneLessUptoRow : OpenClaim := { program := "ythcbemnflgjadaa", sum := "8195530e2c4f58347bfb941fc29684e701fdc620ab83a6c8077c8bb2911de94b", func := "layover/layoverlaw04.LaneLess", spec := "laneLess", unfollowed := true, recurses := true, plainKeys := false, apart := false, narrowed := true }
def LaneLessUptoSaid : Prop := laneLessUptoRow.holds Try.pinned (OpenSpec.upto laneLessSpec)

/-- 'layoverlaw04.LaneAlone', WHERE WHAT IT READS IS OF BULK AT MOST 1048576: true; the input reads as it did. -/
def laneAloneUptoRow : OpenClaim := { program := "ythcbemnflgjadaa", sum := "8195530e2c4f58347bfb941fc29684e701fdc620ab83a6c8077c8bb2911de94b", func := "layover/layoverlaw04.LaneAlone", spec := "laneAlone", unfollowed := true, recurses := true, plainKeys := false, apart := false, narrowed := true }
def LaneAloneUptoSaid : Prop := laneAloneUptoRow.holds Try.pinned (OpenSpec.upto laneAloneSpec)

/-- 'layoverlaw04.LaneNumbers', WHERE WHAT IT READS IS OF BULK AT MOST 1048576: true; the input reads as it did. -/
def laneNumbersUptoRow : OpenClaim := { program := "ythcbemnflgjadaa", sum := "8195530e2c4f58347bfb941fc29684e701fdc620ab83a6c8077c8bb2911de94b", func := "layover/layoverlaw04.LaneNumbers", spec := "laneNumbers", unfollowed := true, recurses := true, plainKeys := false, apart := false, narrowed := true }
def LaneNumbersUptoSaid : Prop := laneNumbersUptoRow.holds Try.pinned (OpenSpec.upto laneNumbersSpec)

/-- 'layoverlaw04.LaneMornings', WHERE WHAT IT READS IS OF BULK AT MOST 1048576: true; the input reads as it did. -/
def laneMorningsUptoRow : OpenClaim := { program := "ythcbemnflgjadaa", sum := "8195530e2c4f58347bfb941fc29684e701fdc620ab83a6c8077c8bb2911de94b", func := "layover/layoverlaw04.LaneMornings", spec := "laneMornings", unfollowed := true, recurses := true, plainKeys := false, apart := false, narrowed := true }
def LaneMorningsUptoSaid : Prop := laneMorningsUptoRow.holds Try.pinned (OpenSpec.upto laneMorningsSpec)

/-- 'layoverlaw04.LaneNight', WHERE WHAT IT READS IS OF BULK AT MOST 1048576: true; the input reads as it did. -/
def laneNightUptoRow : OpenClaim := { program := "ythcbemnflgjadaa", sum := "8195530e2c4f58347bfb941fc29684e701fdc620ab83a6c8077c8bb2911de94b", func := "layover/layoverlaw04.LaneNight", spec := "laneNight", unfollowed := true, recurses := true, plainKeys := false, apart := false, narrowed := true }
def LaneNightUptoSaid : Prop := laneNightUptoRow.holds Try.pinned (OpenSpec.upto laneNightSpec)

/-- 'layoverlaw04.LaneGoes', WHERE WHAT IT READS IS OF BULK AT MOST 1048576: true; the input reads as it did. -/
def laneGoesUptoRow : OpenClaim := { program := "ythcbemnflgjadaa", sum := "8195530e2c4f58347bfb941fc29684e701fdc620ab83a6c8077c8bb2911de94b", func := "layover/layoverlaw04.LaneGoes", spec := "laneGoes", unfollowed := true, recurses := true, plainKeys := false, apart := false, narrowed := true }
def LaneGoesUptoSaid : Prop := laneGoesUptoRow.holds Try.pinned (OpenSpec.upto laneGoesSpec)

/-- 'layoverlaw04.LaneOrders', WHERE WHAT IT READS IS OF BULK AT MOST 1048576: true; the input reads as it did. -/
def laneOrdersUptoRow : OpenClaim := { program := "ythcbemnflgjadaa", sum := "8195530e2c4f58347bfb941fc29684e701fdc620ab83a6c8077c8bb2911de94b", func := "layover/layoverlaw04.LaneOrders", spec := "laneOrders", unfollowed := true, recurses := true, plainKeys := false, apart := false, narrowed := true }
def LaneOrdersUptoSaid : Prop := laneOrdersUptoRow.holds Try.pinned (OpenSpec.upto laneOrdersSpec)

/-- 'layoverlaw04.LaneNames', WHERE WHAT IT READS IS OF BULK AT MOST 1048576: true; the input reads as it did. -/
def laneNamesUptoRow : OpenClaim := { program := "ythcbemnflgjadaa", sum := "8195530e2c4f58347bfb941fc29684e701fdc620ab83a6c8077c8bb2911de94b", func := "layover/layoverlaw04.LaneNames", spec := "laneNames", unfollowed := true, recurses := true, plainKeys := false, apart := false, narrowed := true }
def LaneNamesUptoSaid : Prop := laneNamesUptoRow.holds Try.pinned (OpenSpec.upto laneNamesSpec)

end Rows
end Go.Proofs.Ythcbemnflgjadaa
