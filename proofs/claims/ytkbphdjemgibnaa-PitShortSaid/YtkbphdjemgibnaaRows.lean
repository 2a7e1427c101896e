/-
  No cell of these rows narrows 'for every input' (looked for: loops, veiled, ifaces, maps, wideKeys, modest, calm, conditions, laid).
  DERIVED. THE GIVEN ROWS OF THIS SEAT. 13 by the template 'for every input the law returns true; each argument reads behind the call as it read before'; 0 by the template 'total and deterministic' (their statements: YtkbphdjemgibnaaTotals.lean).
  GIVEN WITH THE SEED: the statements are not yours to turn. If you find one false, say at which input.
  Laid BY PROGRAM, IN A SANDBOX (cutbox-rows.mjs): the forced cells as the released guide's own fill.sh prints them over the translation c1e876dac2545374… (all of the seat's roots in one cut). By AI agents, Wed Nov 11 2026. No macro, syntax, notation, axiom, sorry.
-/
import Derived.Test.YtkbphdjemgibnaaChecked
import GoSem.Claim
import GoSem.ClaimJoined
import GoSem.ClaimMapViews
import Derived.JoinedTies
import Derived.KernelRfl
namespace Go.Proofs.Ytkbphdjemgibnaa
/- THE CELL 'sum', in the pinned program and in every row, IS THE sha256 OF THE DUMP (.gsa) THAT YtkbphdjemgibnaaProg.lean LOADS. Nothing in Lean hashes anything: it is a label: what it is worth is what the hold of that sum in a sandbox is worth. -/
noncomputable def Try.pinned : Pinned := { name := "ytkbphdjemgibnaa", sum := "c1e876dac254537434acb26cdde538d44dc34f5d0e3fce25ff3475fb61a03e3f", checked := Try.checked }
namespace Rows
def none {H : Type} : Left H := { results := [], args := [] }

/-- 'layoverlaw06.PitHeld': WHATEVER THE INPUT: true; the input reads as it did. -/
def pitHeldSpec : ChangeSpec := { name := "pitHeld", fn := fun _ => fun
  | [d1, d2, d3, d4] => { results := [.lit (.bool true)], args := [d1, d2, d3, d4] }
  | _ => none }
def pitHeldRow : OpenClaim := { program := "ytkbphdjemgibnaa", sum := "c1e876dac254537434acb26cdde538d44dc34f5d0e3fce25ff3475fb61a03e3f", func := "layover/layoverlaw06.PitHeld", spec := "pitHeld", unfollowed := true, recurses := true, plainKeys := false, apart := false }
def PitHeldSaid : Prop := pitHeldRow.holds Try.pinned (OpenSpec.ofChange pitHeldSpec)

/-- ITS FALSE NEIGHBOUR: 'it returns false'. Refute it at one input. -/
def pitHeldWrong : ChangeSpec := { name := "pitHeld", fn := fun _ => fun
  | [d1, d2, d3, d4] => { results := [.lit (.bool false)], args := [d1, d2, d3, d4] }
  | _ => none }
def PitHeldWrongFalsely : Prop := pitHeldRow.holds Try.pinned (OpenSpec.ofChange pitHeldWrong)

/-- 'layoverlaw06.PitLater': WHATEVER THE INPUT: true; the input reads as it did. -/
def pitLaterSpec : ChangeSpec := { name := "pitLater", fn := fun _ => fun
  | [d1, d2, d3] => { results := [.lit (.bool true)], args := [d1, d2, d3] }
  | _ => none }
def pitLaterRow : OpenClaim := { program := "ytkbphdjemgibnaa", sum := "c1e876dac254537434acb26cdde538d44dc34f5d0e3fce25ff3475fb61a03e3f", func := "layover/layoverlaw06.PitLater", spec := "pitLater", unfollowed := true, recurses := true, plainKeys := false, apart := false }
def PitLaterSaid : Prop := pitLaterRow.holds Try.pinned (OpenSpec.ofChange pitLaterSpec)

/-- ITS FALSE NEIGHBOUR: 'it returns false'. Refute it at one input. -/
def pitLaterWrong : ChangeSpec := { name := "pitLater", fn := fun _ => fun
  | [d1, d2, d3] => { results := [.lit (.bool false)], args := [d1, d2, d3] }
  | _ => none }
def PitLaterWrongFalsely : Prop := pitLaterRow.holds Try.pinned (OpenSpec.ofChange pitLaterWrong)

/-- 'layoverlaw06.PitOpens': WHATEVER THE INPUT: true; the input reads as it did. -/
def pitOpensSpec : ChangeSpec := { name := "pitOpens", fn := fun _ => fun
  | [d1, d2, d3] => { results := [.lit (.bool true)], args := [d1, d2, d3] }
  | _ => none }
def pitOpensRow : OpenClaim := { program := "ytkbphdjemgibnaa", sum := "c1e876dac254537434acb26cdde538d44dc34f5d0e3fce25ff3475fb61a03e3f", func := "layover/layoverlaw06.PitOpens", spec := "pitOpens", unfollowed := true, recurses := true, plainKeys := false, apart := false }
def PitOpensSaid : Prop := pitOpensRow.holds Try.pinned (OpenSpec.ofChange pitOpensSpec)

/-- ITS FALSE NEIGHBOUR: 'it returns false'. Refute it at one input. -/
def pitOpensWrong : ChangeSpec := { name := "pitOpens", fn := fun _ => fun
  | [d1, d2, d3] => { results := [.lit (.bool false)], args := [d1, d2, d3] }
  | _ => none }
def PitOpensWrongFalsely : Prop := pitOpensRow.holds Try.pinned (OpenSpec.ofChange pitOpensWrong)

/-- 'layoverlaw06.PitDues': WHATEVER THE INPUT: true; the input reads as it did. -/
def pitDuesSpec : ChangeSpec := { name := "pitDues", fn := fun _ => fun
  | [d1, d2, d3] => { results := [.lit (.bool true)], args := [d1, d2, d3] }
  | _ => none }
def pitDuesRow : OpenClaim := { program := "ytkbphdjemgibnaa", sum := "c1e876dac254537434acb26cdde538d44dc34f5d0e3fce25ff3475fb61a03e3f", func := "layover/layoverlaw06.PitDues", spec := "pitDues", unfollowed := true, recurses := true, plainKeys := false, apart := false }
def PitDuesSaid : Prop := pitDuesRow.holds Try.pinned (OpenSpec.ofChange pitDuesSpec)

/-- ITS FALSE NEIGHBOUR: 'it returns false'. Refute it at one input. -/
def pitDuesWrong : ChangeSpec := { name := "pitDues", fn := fun _ => fun
  | [d1, d2, d3] => { results := [.lit (.bool false)], args := [d1, d2, d3] }
  | _ => none }
def PitDuesWrongFalsely : Prop := pitDuesRow.holds Try.pinned (OpenSpec.ofChange pitDuesWrong)

/-- 'layoverlaw06.PitRuns': WHATEVER THE INPUT: true; the input reads as it did. -/
def pitRunsSpec : ChangeSpec := { name := "pitRuns", fn := fun _ => fun
  | [d1, d2, d3, d4] => { results := [.lit (.bool true)], args := [d1, d2, d3, d4] }
  | _ => none }
def pitRunsRow : OpenClaim := { program := "ytkbphdjemgibnaa", sum := "c1e876dac254537434acb26cdde538d44dc34f5d0e3fce25ff3475fb61a03e3f", func := "layover/layoverlaw06.PitRuns", spec := "pitRuns", unfollowed := true, recurses := true, plainKeys := false, apart := false }
def PitRunsSaid : Prop := pitRunsRow.holds Try.pinned (OpenSpec.ofChange pitRunsSpec)

/-- ITS FALSE NEIGHBOUR: 'it returns false'. Refute it at one input. -/
def pitRunsWrong : ChangeSpec := { name := "pitRuns", fn := fun _ => fun
  | [d1, d2, d3, d4] => { results := [.lit (.bool false)], args := [d1, d2, d3, d4] }
  | _ => none }
def PitRunsWrongFalsely : Prop := pitRunsRow.holds Try.pinned (OpenSpec.ofChange pitRunsWrong)

/-- 'layoverlaw06.PitFits': WHATEVER THE INPUT: true; the input reads as it did. -/
def pitFitsSpec : ChangeSpec := { name := "pitFits", fn := fun _ => fun
  | [d1, d2] => { results := [.lit (.bool true)], args := [d1, d2] }
  | _ => none }
def pitFitsRow : OpenClaim := { program := "ytkbphdjemgibnaa", sum := "c1e876dac254537434acb26cdde538d44dc34f5d0e3fce25ff3475fb61a03e3f", func := "layover/layoverlaw06.PitFits", spec := "pitFits", unfollowed := true, recurses := true, plainKeys := false, apart := false }
def PitFitsSaid : Prop := pitFitsRow.holds Try.pinned (OpenSpec.ofChange pitFitsSpec)

/-- ITS FALSE NEIGHBOUR: 'it returns false'. Refute it at one input. -/
def pitFitsWrong : ChangeSpec := { name := "pitFits", fn := fun _ => fun
  | [d1, d2] => { results := [.lit (.bool false)], args := [d1, d2] }
  | _ => none }
def PitFitsWrongFalsely : Prop := pitFitsRow.holds Try.pinned (OpenSpec.ofChange pitFitsWrong)

/-- 'layoverlaw06.PitOrder': WHATEVER THE INPUT: true; the input reads as it did. -/
def pitOrderSpec : ChangeSpec := { name := "pitOrder", fn := fun _ => fun
  | [d1, d2, d3, d4, d5] => { results := [.lit (.bool true)], args := [d1, d2, d3, d4, d5] }
  | _ => none }
def pitOrderRow : OpenClaim := { program := "ytkbphdjemgibnaa", sum := "c1e876dac254537434acb26cdde538d44dc34f5d0e3fce25ff3475fb61a03e3f", func := "layover/layoverlaw06.PitOrder", spec := "pitOrder", unfollowed := true, recurses := true, plainKeys := false, apart := false }
def PitOrderSaid : Prop := pitOrderRow.holds Try.pinned (OpenSpec.ofChange pitOrderSpec)

/-- ITS FALSE NEIGHBOUR: 'it returns false'. Refute it at one input. -/
def pitOrderWrong : ChangeSpec := { name := "pitOrder", fn := fun _ => fun
  | [d1, d2, d3, d4, d5] => { results := [.lit (.bool false)], args := [d1, d2, d3, d4, d5] }
  | _ => none }
def PitOrderWrongFalsely : Prop := pitOrderRow.holds Try.pinned (OpenSpec.ofChange pitOrderWrong)

/-- 'layoverlaw06.PitSigned': WHATEVER THE INPUT: true; the input reads as it did. -/
def pitSignedSpec : ChangeSpec := { name := "pitSigned", fn := fun _ => fun
  | [d1, d2, d3, d4, d5] => { results := [.lit (.bool true)], args := [d1, d2, d3, d4, d5] }
  | _ => none }
def pitSignedRow : OpenClaim := { program := "ytkbphdjemgibnaa", sum := "c1e876dac254537434acb26cdde538d44dc34f5d0e3fce25ff3475fb61a03e3f", func := "layover/layoverlaw06.PitSigned", spec := "pitSigned", unfollowed := true, recurses := true, plainKeys := false, apart := false }
def PitSignedSaid : Prop := pitSignedRow.holds Try.pinned (OpenSpec.ofChange pitSignedSpec)

/-- ITS FALSE NEIGHBOUR: 'it returns false'. Refute it at one input. -/
def pitSignedWrong : ChangeSpec := { name := "pitSigned", fn := fun _ => fun
  | [d1, d2, d3, d4, d5] => { results := [.lit (.bool false)], args := [d1, d2, d3, d4, d5] }
  | _ => none }
def PitSignedWrongFalsely : Prop := pitSignedRow.holds Try.pinned (OpenSpec.ofChange pitSignedWrong)

/-- 'layoverlaw06.PitShorts': WHATEVER THE INPUT: true; the input reads as it did. -/
def pitShortsSpec : ChangeSpec := { name := "pitShorts", fn := fun _ => fun
  | [d] => { results := [.lit (.bool true)], args := [d] }
  | _ => none }
def pitShortsRow : OpenClaim := { program := "ytkbphdjemgibnaa", sum := "c1e876dac254537434acb26cdde538d44dc34f5d0e3fce25ff3475fb61a03e3f", func := "layover/layoverlaw06.PitShorts", spec := "pitShorts", unfollowed := true, recurses := true, plainKeys := false, apart := false }
def PitShortsSaid : Prop := pitShortsRow.holds Try.pinned (OpenSpec.ofChange pitShortsSpec)

/-- ITS FALSE NEIGHBOUR: 'it returns false'. Refute it at one input. -/
def pitShortsWrong : ChangeSpec := { name := "pitShorts", fn := fun _ => fun
  | [d] => { results := [.lit (.bool false)], args := [d] }
  | _ => none }
def PitShortsWrongFalsely : Prop := pitShortsRow.holds Try.pinned (OpenSpec.ofChange pitShortsWrong)

/-- 'layoverlaw06.PitBests': WHATEVER THE INPUT: true; the input reads as it did. -/
def pitBestsSpec : ChangeSpec := { name := "pitBests", fn := fun _ => fun
  | [d1, d2, d3] => { results := [.lit (.bool true)], args := [d1, d2, d3] }
  | _ => none }
def pitBestsRow : OpenClaim := { program := "ytkbphdjemgibnaa", sum := "c1e876dac254537434acb26cdde538d44dc34f5d0e3fce25ff3475fb61a03e3f", func := "layover/layoverlaw06.PitBests", spec := "pitBests", unfollowed := true, recurses := true, plainKeys := false, apart := false }
def PitBestsSaid : Prop := pitBestsRow.holds Try.pinned (OpenSpec.ofChange pitBestsSpec)

/-- ITS FALSE NEIGHBOUR: 'it returns false'. Refute it at one input. -/
def pitBestsWrong : ChangeSpec := { name := "pitBests", fn := fun _ => fun
  | [d1, d2, d3] => { results := [.lit (.bool false)], args := [d1, d2, d3] }
  | _ => none }
def PitBestsWrongFalsely : Prop := pitBestsRow.holds Try.pinned (OpenSpec.ofChange pitBestsWrong)

/-- 'layoverlaw06.PitBest': WHATEVER THE INPUT: true; the input reads as it did. -/
def pitBestSpec : ChangeSpec := { name := "pitBest", fn := fun _ => fun
  | [d1, d2, d3, d4, d5] => { results := [.lit (.bool true)], args := [d1, d2, d3, d4, d5] }
  | _ => none }
def pitBestRow : OpenClaim := { program := "ytkbphdjemgibnaa", sum := "c1e876dac254537434acb26cdde538d44dc34f5d0e3fce25ff3475fb61a03e3f", func := "layover/layoverlaw06.PitBest", spec := "pitBest", unfollowed := true, recurses := true, plainKeys := false, apart := false }
def PitBestSaid : Prop := pitBestRow.holds Try.pinned (OpenSpec.ofChange pitBestSpec)

/-- ITS FALSE NEIGHBOUR: 'it returns false'. Refute it at one input. -/
def pitBestWrong : ChangeSpec := { name := "pitBest", fn := fun _ => fun
  | [d1, d2, d3, d4, d5] => { results := [.lit (.bool false)], args := [d1, d2, d3, d4, d5] }
  | _ => none }
def PitBestWrongFalsely : Prop := pitBestRow.holds Try.pinned (OpenSpec.ofChange pitBestWrong)

/-- 'layoverlaw06.PitShort': WHATEVER THE INPUT: true; the input reads as it did. -/
def pitShortSpec : ChangeSpec := { name := "pitShort", fn := fun _ => fun
  | [d1, d2] => { results := [.lit (.bool true)], args := [d1, d2] }
  | _ => none }
def pitShortRow : OpenClaim := { program := "ytkbphdjemgibnaa", sum := "c1e876dac254537434acb26cdde538d44dc34f5d0e3fce25ff3475fb61a03e3f", func := "layover/layoverlaw06.PitShort", spec := "pitShort", unfollowed := true, recurses := true, plainKeys := false, apart := false }
def PitShortSaid : Prop := pitShortRow.holds Try.pinned (OpenSpec.ofChange pitShortSpec)

/-- ITS FALSE NEIGHBOUR: 'it returns false'. Refute it at one input. -/
def pitShortWrong : ChangeSpec := { name := "pitShort", fn := fun _ => fun
  | [d1, d2] => { results := [.lit (.bool false)], args := [d1, d2] }
  | _ => none }
def PitShortWrongFalsely : Prop := pitShortRow.holds Try.pinned (OpenSpec.ofChange pitShortWrong)

/-- 'layoverlaw06.PitNames': WHATEVER THE INPUT: true; the input reads as it did. -/
def pitNamesSpec : ChangeSpec := { name := "pitNames", fn := fun _ => fun
  | [] => { results := [.lit (.bool true)], args := [] }
  | _ => none }
def pitNamesRow : OpenClaim := { program := "ytkbphdjemgibnaa", sum := "c1e876dac254537434acb26cdde538d44dc34f5d0e3fce25ff3475fb61a03e3f", func := "layover/layoverlaw06.PitNames", spec := "pitNames", unfollowed := true, recurses := true, plainKeys := false, apart := false }
def PitNamesSaid : Prop := pitNamesRow.holds Try.pinned (OpenSpec.ofChange pitNamesSpec)

/-- ITS FALSE NEIGHBOUR: 'it returns false'. Refute it at one input. -/
def pitNamesWrong : ChangeSpec := { name := "pitNames", fn := fun _ => fun
  | [] => { results := [.lit (.bool false)], args := [] }
  | _ => none }
def PitNamesWrongFalsely : Prop := pitNamesRow.holds Try.pinned (OpenSpec.ofChange pitNamesWrong)

/- THE SECOND FORM. 'bulk': how many values and letters a reading holds, each counted each time it is reached (what is shared counts as often as it is met; a slice's spare places count too). A statement '..UptoSaid' is the law's where the arguments, and the package variables that the reading takes, are together of bulk at most 1048576: NARROWER than '..Said'. Prove '..Said' where nothing that the law and all that it calls make is longer than what came in: it says more and counts as full. Else prove '..UptoSaid'. A law counts once. -/
mutual
def uptoBulk {H : Type} : DataW H → Nat
  | .lit (.string bytes) => bytes.length + 1
  | .lit _ => 1
  | .nil => 1
  | .ptr d => uptoBulk d + 1
  | .slice elems spare => uptoBulkAll elems + uptoBulkAll spare + 1
  | .agg parts => uptoBulkAll parts + 1
  | .iface _ d => uptoBulk d + 1
  | .map entries => uptoBulkEntries entries + 1
  | .held _ => 1
def uptoBulkAll {H : Type} : List (DataW H) → Nat
  | [] => 0
  | d :: r => uptoBulk d + uptoBulkAll r
def uptoBulkEntries {H : Type} : List (Lit × DataW H) → Nat
  | [] => 0
  | x :: r => uptoBulkEntry x + uptoBulkEntries r
def uptoBulkEntry {H : Type} : Lit × DataW H → Nat
  | (.string bytes, d) => bytes.length + uptoBulk d + 1
  | (_, d) => uptoBulk d + 1
 end
def uptoSmall : (H : Type) → List (DataW H) → Bool := fun _ ds => decide (uptoBulkAll ds ≤ 1048576)
def OpenSpec.upto (s : _root_.Go.ChangeSpec) : _root_.Go.OpenSpec := { _root_.Go.OpenSpec.ofChange s with cond := some uptoSmall }

/-- 'layoverlaw06.PitHeld', WHERE WHAT IT READS IS OF BULK AT MOST 1048576: true; the input reads as it did. -/
def pitHeldUptoRow : OpenClaim := { program := "ytkbphdjemgibnaa", sum := "c1e876dac254537434acb26cdde538d44dc34f5d0e3fce25ff3475fb61a03e3f", func := "layover/layoverlaw06.PitHeld", spec := "pitHeld", unfollowed := true, recurses := true, plainKeys := false, apart := false, narrowed := true }
def PitHeldUptoSaid : Prop := pitHeldUptoRow.holds Try.pinned (OpenSpec.upto pitHeldSpec)

/-- 'layoverlaw06.PitLater', WHERE WHAT IT READS IS OF BULK AT MOST 1048576: true; the input reads as it did. -/
def pitLaterUptoRow : OpenClaim := { program := "ytkbphdjemgibnaa", sum := "c1e876dac254537434acb26cdde538d44dc34f5d0e3fce25ff3475fb61a03e3f", func := "layover/layoverlaw06.PitLater", spec := "pitLater", unfollowed := true, recurses := true, plainKeys := false, apart := false, narrowed := true }
def PitLaterUptoSaid : Prop := pitLaterUptoRow.holds Try.pinned (OpenSpec.upto pitLaterSpec)

/-- 'layoverlaw06.PitOpens', WHERE WHAT IT READS IS OF BULK AT MOST 1048576: true; the input reads as it did. -/
def pitOpensUptoRow : OpenClaim := { program := "ytkbphdjemgibnaa", sum := "c1e876dac254537434acb26cdde538d44dc34f5d0e3fce25ff3475fb61a03e3f", func := "layover/layoverlaw06.PitOpens", spec := "pitOpens", unfollowed := true, recurses := true, plainKeys := false, apart := false, narrowed := true }
def PitOpensUptoSaid : Prop := pitOpensUptoRow.holds Try.pinned (OpenSpec.upto pitOpensSpec)

/-- 'layoverlaw06.PitDues', WHERE WHAT IT READS IS OF BULK AT MOST 1048576: true; the input reads as it did. -/
def pitDuesUptoRow : OpenClaim := { program := "ytkbphdjemgibnaa", sum := "c1e876dac254537434acb26cdde538d44dc34f5d0e3fce25ff3475fb61a03e3f", func := "layover/layoverlaw06.PitDues", spec := "pitDues", unfollowed := true, recurses := true, plainKeys := false, apart := false, narrowed := true }
def PitDuesUptoSaid : Prop := pitDuesUptoRow.holds Try.pinned (OpenSpec.upto pitDuesSpec)

/-- 'layoverlaw06.PitRuns', WHERE WHAT IT READS IS OF BULK AT MOST 1048576: true; the input reads as it did. -/
def pitRunsUptoRow : OpenClaim := { program := "ytkbphdjemgibnaa", sum := "c1e876dac254537434acb26cdde538d44dc34f5d0e3fce25ff3475fb61a03e3f", func := "layover/layoverlaw06.PitRuns", spec := "pitRuns", unfollowed := true, recurses := true, plainKeys := false, apart := false, narrowed := true }
def PitRunsUptoSaid : Prop := pitRunsUptoRow.holds Try.pinned (OpenSpec.upto pitRunsSpec)

/-- 'layoverlaw06.PitFits', WHERE WHAT IT READS IS OF BULK AT MOST 1048576: true; the input reads as it did. -/
def pitFitsUptoRow : OpenClaim := { program := "ytkbphdjemgibnaa", sum := "c1e876dac254537434acb26cdde538d44dc34f5d0e3fce25ff3475fb61a03e3f", func := "layover/layoverlaw06.PitFits", spec := "pitFits", unfollowed := true, recurses := true, plainKeys := false, apart := false, narrowed := true }
def PitFitsUptoSaid : Prop := pitFitsUptoRow.holds Try.pinned (OpenSpec.upto pitFitsSpec)

/-- 'layoverlaw06.PitOrder', WHERE WHAT IT READS IS OF BULK AT MOST 1048576: true; the input reads as it did. -/
def pitOrderUptoRow : OpenClaim := { program := "ytkbphdjemgibnaa", sum := "c1e876dac254537434acb26cdde538d44dc34f5d0e3fce25ff3475fb61a03e3f", func := "layover/layoverlaw06.PitOrder", spec := "pitOrder", unfollowed := true, recurses := true, plainKeys := false, apart := false, narrowed := true }
def PitOrderUptoSaid : Prop := pitOrderUptoRow.holds Try.pinned (OpenSpec.upto pitOrderSpec)

/-- 'layoverlaw06.PitSigned', WHERE WHAT IT READS IS OF BULK AT MOST 1048576: true; the input reads as it did. -/
def pitSignedUptoRow : OpenClaim := { program := "ytkbphdjemgibnaa", sum := "c1e876dac254537434acb26cdde538d44dc34f5d0e3fce25ff3475fb61a03e3f", func := "layover/layoverlaw06.PitSigned", spec := "pitSigned", unfollowed := true, recurses := true, plainKeys := false, apart := false, narrowed := true }
def PitSignedUptoSaid : Prop := pitSignedUptoRow.holds Try.pinned (OpenSpec.upto pitSignedSpec)

/-- 'layoverlaw06.PitShorts', WHERE WHAT IT READS IS OF BULK AT MOST 1048576: true; the input reads as it did. -/
def pitShortsUptoRow : OpenClaim := { program := "ytkbphdjemgibnaa", sum := "c1e876dac254537434acb26cdde538d44dc34f5d0e3fce25ff3475fb61a03e3f", func := "layover/layoverlaw06.PitShorts", spec := "pitShorts", unfollowed := true, recurses := true, plainKeys := false, apart := false, narrowed := true }
def PitShortsUptoSaid : Prop := pitShortsUptoRow.holds Try.pinned (OpenSpec.upto pitShortsSpec)

/-- 'layoverlaw06.PitBests', WHERE WHAT IT READS IS OF BULK AT MOST 1048576: true; the input reads as it did. -/
def pitBestsUptoRow : OpenClaim := { program := "ytkbphdjemgibnaa", sum := "c1e876dac254537434acb26cdde538d44dc34f5d0e3fce25ff3475fb61a03e3f", func := "layover/layoverlaw06.PitBests", spec := "pitBests", unfollowed := true, recurses := true, plainKeys := false, apart := false, narrowed := true }
def PitBestsUptoSaid : Prop := pitBestsUptoRow.holds Try.pinned (OpenSpec.upto pitBestsSpec)

/-- 'layoverlaw06.PitBest', WHERE WHAT IT READS IS OF BULK AT MOST 1048576: true; the input reads as it did. -/
def pitBestUptoRow : OpenClaim := { program := "ytkbphdjemgibnaa", sum := "c1e876dac254537434acb26cdde538d44dc34f5d0e3fce25ff3475fb61a03e3f", func := "layover/layoverlaw06.PitBest", spec := "pitBest", unfollowed := true, recurses := true, plainKeys := false, apart := false, narrowed := true }
def PitBestUptoSaid : Prop := pitBestUptoRow.holds Try.pinned (OpenSpec.upto pitBestSpec)

/-- 'layoverlaw06.PitShort', WHERE WHAT IT READS IS OF BULK AT MOST 1048576: true; the input reads as it did. -/
def pitShortUptoRow : OpenClaim := { program := "ytkbphdjemgibnaa", sum := "c1e876dac254537434acb26cdde538d44dc34f5d0e3fce25ff3475fb61a03e3f", func := "layover/layoverlaw06.PitShort", spec := "pitShort", unfollowed := true, recurses := true, plainKeys := false, apart := false, narrowed := true }
def PitShortUptoSaid : Prop := pitShortUptoRow.holds Try.pinned (OpenSpec.upto pitShortSpec)

/-- 'layoverlaw06.PitNames', WHERE WHAT IT READS IS OF BULK AT MOST 1048576: true; the input reads as it did. -/
def pitNamesUptoRow : OpenClaim := { program := "ytkbphdjemgibnaa", sum := "c1e876dac254537434acb26cdde538d44dc34f5d0e3fce25ff3475fb61a03e3f", func := "layover/layoverlaw06.PitNames", spec := "pitNames", unfollowed := true, recurses := true, plainKeys := false, apart := false, narrowed := true }
def PitNamesUptoSaid : Prop := pitNamesUptoRow.holds Try.pinned (OpenSpec.upto pitNamesSpec)

end Rows
end Go.Proofs.Ytkbphdjemgibnaa
