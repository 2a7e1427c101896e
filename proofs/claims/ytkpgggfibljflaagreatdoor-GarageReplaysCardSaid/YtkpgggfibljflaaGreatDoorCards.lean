/-
  DERIVED. GIVEN WITH THE SEED: THE CARDS: each row of YtkpgggfibljflaaGreatDoorRows.lean that lists a variable, with what it lists TIED to the program's text (the seventh form; the later family's looks); each row that meets fmt, with fmt's text TOLD by the authors' own Lean function (tested against real Go, not proved from fmt's source: count such statements apart). THE CARD IS WHAT COUNTS. Prove the row's statement (the work); the ties are given (YtkpgggfibljflaaGreatDoorTie.lean); close each card by the builder's one call (the guide's Derived/Test/ToyasCard.lean, 'card_holds'). Laid BY PROGRAM, IN A SANDBOX (cutbox-door.mjs). By AI agents, Wed Nov 11 2026. No macro, syntax, notation, axiom, sorry.
-/
import Derived.Test.YtkpgggfibljflaaGreatDoorRows
import GoSem.ClaimSeven
namespace Go.Proofs.YtkpgggfibljflaaGreatDoor
namespace Rows

/-- THE TIED CARD OF 'layoverlaw12.GaragePlays'. -/
def garagePlaysCard : Claim7 := { stood := { row := garagePlaysRow, standIns := [], harness := (true, "5f24c22209686544b5c66002044bfd78575c71abfbbf9c64bbb175d8bb295fb8"), looks := true }, kinds := [], alts := [], laidByText := true, laidKinds := [.data, .data, .data, .data, .sentinel, .sentinel, .pinned], laidTests := true, laidLooks := .later }
def GaragePlaysCardSaid : Prop := Claim7.holds Tryz.pinned (.plain (OpenSpec.ofChange garagePlaysSpec)) garagePlaysCard

/-- THE TIED CARD OF 'layoverlaw12.GarageOut'. -/
def garageOutCard : Claim7 := { stood := { row := garageOutRow, standIns := [], harness := (true, "5f24c22209686544b5c66002044bfd78575c71abfbbf9c64bbb175d8bb295fb8"), looks := true }, kinds := [], alts := [], laidByText := true, laidKinds := [.data, .data, .data, .data, .sentinel, .sentinel, .pinned], laidTests := true, laidLooks := .later }
def GarageOutCardSaid : Prop := Claim7.holds Tryz.pinned (.plain (OpenSpec.ofChange garageOutSpec)) garageOutCard

/-- THE TIED CARD OF 'layoverlaw12.GarageSoon'. -/
def garageSoonCard : Claim7 := { stood := { row := garageSoonRow, standIns := [], harness := (true, "5f24c22209686544b5c66002044bfd78575c71abfbbf9c64bbb175d8bb295fb8"), looks := true }, kinds := [], alts := [], laidByText := true, laidKinds := [.data, .data, .data, .data, .sentinel, .sentinel, .pinned], laidTests := true, laidLooks := .later }
def GarageSoonCardSaid : Prop := Claim7.holds Tryz.pinned (.plain (OpenSpec.ofChange garageSoonSpec)) garageSoonCard

/-- THE TIED CARD OF 'layoverlaw12.GarageLater'. -/
def garageLaterCard : Claim7 := { stood := { row := garageLaterRow, standIns := [], harness := (true, "5f24c22209686544b5c66002044bfd78575c71abfbbf9c64bbb175d8bb295fb8"), looks := true }, kinds := [], alts := [], laidByText := true, laidKinds := [.data, .data, .data, .data, .sentinel, .sentinel, .pinned], laidTests := true, laidLooks := .later }
def GarageLaterCardSaid : Prop := Claim7.holds Tryz.pinned (.plain (OpenSpec.ofChange garageLaterSpec)) garageLaterCard

/-- THE TIED CARD OF 'layoverlaw12.GarageLegal'. -/
def garageLegalCard : Claim7 := { stood := { row := garageLegalRow, standIns := [], harness := (true, "5f24c22209686544b5c66002044bfd78575c71abfbbf9c64bbb175d8bb295fb8"), looks := true }, kinds := [], alts := [], laidByText := true, laidKinds := [.data, .data, .data, .data, .sentinel, .sentinel, .pinned], laidTests := true, laidLooks := .later }
def GarageLegalCardSaid : Prop := Claim7.holds Tryz.pinned (.plain (OpenSpec.ofChange garageLegalSpec)) garageLegalCard

/-- THE TIED CARD OF 'layoverlaw12.GarageLates'. -/
def garageLatesCard : Claim7 := { stood := { row := garageLatesRow, standIns := [], harness := (true, "5f24c22209686544b5c66002044bfd78575c71abfbbf9c64bbb175d8bb295fb8"), looks := true }, kinds := [], alts := [], laidByText := true, laidKinds := [.data, .data, .data, .data, .sentinel, .sentinel, .pinned], laidTests := true, laidLooks := .later }
def GarageLatesCardSaid : Prop := Claim7.holds Tryz.pinned (.plain (OpenSpec.ofChange garageLatesSpec)) garageLatesCard

/-- THE TIED CARD OF 'layoverlaw12.GarageMiles'. -/
def garageMilesCard : Claim7 := { stood := { row := garageMilesRow, standIns := [], harness := (true, "5f24c22209686544b5c66002044bfd78575c71abfbbf9c64bbb175d8bb295fb8"), looks := true }, kinds := [], alts := [], laidByText := true, laidKinds := [.data, .data, .data, .data, .sentinel, .sentinel, .pinned], laidTests := true, laidLooks := .later }
def GarageMilesCardSaid : Prop := Claim7.holds Tryz.pinned (.plain (OpenSpec.ofChange garageMilesSpec)) garageMilesCard

/-- THE TIED CARD OF 'layoverlaw12.GarageWrites'. -/
def garageWritesCard : Claim7 := { stood := { row := garageWritesRow, standIns := [], harness := (true, "5f24c22209686544b5c66002044bfd78575c71abfbbf9c64bbb175d8bb295fb8"), looks := true }, kinds := [], alts := [], laidByText := true, laidKinds := [.data, .data, .data, .data, .sentinel, .sentinel, .pinned], laidTests := true, laidLooks := .later }
def GarageWritesCardSaid : Prop := Claim7.holds Tryz.pinned (.plain (OpenSpec.ofChange garageWritesSpec)) garageWritesCard

/-- THE TIED CARD OF 'layoverlaw12.GarageStops'. -/
def garageStopsCard : Claim7 := { stood := { row := garageStopsRow, standIns := [], harness := (true, "5f24c22209686544b5c66002044bfd78575c71abfbbf9c64bbb175d8bb295fb8"), looks := true }, kinds := [], alts := [], laidByText := true, laidKinds := [.data, .data, .data, .data, .sentinel, .sentinel, .pinned], laidTests := true, laidLooks := .later }
def GarageStopsCardSaid : Prop := Claim7.holds Tryz.pinned (.plain (OpenSpec.ofChange garageStopsSpec)) garageStopsCard

/-- THE TIED CARD OF 'layoverlaw12.GaragePlace'. -/
def garagePlaceCard : Claim7 := { stood := { row := garagePlaceRow, standIns := [], harness := (true, "5f24c22209686544b5c66002044bfd78575c71abfbbf9c64bbb175d8bb295fb8"), looks := true }, kinds := [], alts := [], laidByText := true, laidKinds := [.data, .data, .data, .data, .sentinel, .sentinel, .pinned], laidTests := true, laidLooks := .later }
def GaragePlaceCardSaid : Prop := Claim7.holds Tryz.pinned (.plain (OpenSpec.ofChange garagePlaceSpec)) garagePlaceCard

/-- THE TIED CARD OF 'layoverlaw12.GarageTickets'. -/
def garageTicketsCard : Claim7 := { stood := { row := garageTicketsRow, standIns := [], harness := (true, "5f24c22209686544b5c66002044bfd78575c71abfbbf9c64bbb175d8bb295fb8"), looks := true }, kinds := [], alts := [], laidByText := true, laidKinds := [.data, .data, .data, .data, .sentinel, .sentinel, .pinned], laidTests := true, laidLooks := .later }
def GarageTicketsCardSaid : Prop := Claim7.holds Tryz.pinned (.plain (OpenSpec.ofChange garageTicketsSpec)) garageTicketsCard

/-- THE TIED CARD OF 'layoverlaw12.GarageResumes'. -/
def garageResumesCard : Claim7 := { stood := { row := garageResumesRow, standIns := [], harness := (true, "5f24c22209686544b5c66002044bfd78575c71abfbbf9c64bbb175d8bb295fb8"), looks := true }, kinds := [], alts := [], laidByText := true, laidKinds := [.data, .data, .data, .data, .sentinel, .sentinel, .pinned], laidTests := true, laidLooks := .later }
def GarageResumesCardSaid : Prop := Claim7.holds Tryz.pinned (.plain (OpenSpec.ofChange garageResumesSpec)) garageResumesCard

/-- THE TIED CARD OF 'layoverlaw12.GarageGoesOn'. -/
def garageGoesOnCard : Claim7 := { stood := { row := garageGoesOnRow, standIns := [], harness := (true, "5f24c22209686544b5c66002044bfd78575c71abfbbf9c64bbb175d8bb295fb8"), looks := true }, kinds := [], alts := [], laidByText := true, laidKinds := [.data, .data, .data, .data, .sentinel, .sentinel, .pinned], laidTests := true, laidLooks := .later }
def GarageGoesOnCardSaid : Prop := Claim7.holds Tryz.pinned (.plain (OpenSpec.ofChange garageGoesOnSpec)) garageGoesOnCard

/-- THE TIED CARD OF 'layoverlaw12.GarageReports'. -/
def garageReportsCard : Claim7 := { stood := { row := garageReportsRow, standIns := [], harness := (true, "5f24c22209686544b5c66002044bfd78575c71abfbbf9c64bbb175d8bb295fb8"), looks := true }, kinds := [], alts := [], laidByText := true, laidKinds := [.data, .data, .data, .data, .sentinel, .sentinel, .pinned], laidTests := true, laidLooks := .later }
def GarageReportsCardSaid : Prop := Claim7.holds Tryz.pinned (.plain (OpenSpec.ofChange garageReportsSpec)) garageReportsCard

/-- THE TIED CARD OF 'layoverlaw12.GarageReplays'. -/
def garageReplaysCard : Claim7 := { stood := { row := garageReplaysRow, standIns := [], harness := (true, "5f24c22209686544b5c66002044bfd78575c71abfbbf9c64bbb175d8bb295fb8"), looks := true }, kinds := [], alts := [], laidByText := true, laidKinds := [.data, .data, .data, .data, .sentinel, .sentinel, .pinned], laidTests := true, laidLooks := .later }
def GarageReplaysCardSaid : Prop := Claim7.holds Tryz.pinned (.plain (OpenSpec.ofChange garageReplaysSpec)) garageReplaysCard

/-- THE TIED CARD OF 'layoverlaw12.GarageNames'. -/
def garageNamesCard : Claim7 := { stood := { row := garageNamesRow, standIns := [], harness := (true, "5f24c22209686544b5c66002044bfd78575c71abfbbf9c64bbb175d8bb295fb8"), looks := true }, kinds := [], alts := [], laidByText := true, laidKinds := [.data, .data, .data, .data, .sentinel, .sentinel, .pinned], laidTests := true, laidLooks := .later }
def GarageNamesCardSaid : Prop := Claim7.holds Tryz.pinned (.plain (OpenSpec.ofChange garageNamesSpec)) garageNamesCard

/-- THE SECOND FORM's CARD OF 'layoverlaw12.GaragePlays'. -/
def garagePlaysUptoCard : Claim7 := { stood := { row := garagePlaysUptoRow, standIns := [], harness := (true, "5f24c22209686544b5c66002044bfd78575c71abfbbf9c64bbb175d8bb295fb8"), looks := true }, kinds := [], alts := [], laidByText := true, laidKinds := [.data, .data, .data, .data, .sentinel, .sentinel, .pinned], laidTests := true, laidLooks := .later }
def GaragePlaysUptoCardSaid : Prop := Claim7.holds Tryz.pinned (.plain (OpenSpec.upto garagePlaysSpec)) garagePlaysUptoCard

/-- THE SECOND FORM's CARD OF 'layoverlaw12.GarageOut'. -/
def garageOutUptoCard : Claim7 := { stood := { row := garageOutUptoRow, standIns := [], harness := (true, "5f24c22209686544b5c66002044bfd78575c71abfbbf9c64bbb175d8bb295fb8"), looks := true }, kinds := [], alts := [], laidByText := true, laidKinds := [.data, .data, .data, .data, .sentinel, .sentinel, .pinned], laidTests := true, laidLooks := .later }
def GarageOutUptoCardSaid : Prop := Claim7.holds Tryz.pinned (.plain (OpenSpec.upto garageOutSpec)) garageOutUptoCard

/-- THE SECOND FORM's CARD OF 'layoverlaw12.GarageSoon'. -/
def garageSoonUptoCard : Claim7 := { stood := { row := garageSoonUptoRow, standIns := [], harness := (true, "5f24c22209686544b5c66002044bfd78575c71abfbbf9c64bbb175d8bb295fb8"), looks := true }, kinds := [], alts := [], laidByText := true, laidKinds := [.data, .data, .data, .data, .sentinel, .sentinel, .pinned], laidTests := true, laidLooks := .later }
def GarageSoonUptoCardSaid : Prop := Claim7.holds Tryz.pinned (.plain (OpenSpec.upto garageSoonSpec)) garageSoonUptoCard

/-- THE SECOND FORM's CARD OF 'layoverlaw12.GarageLater'. -/
def garageLaterUptoCard : Claim7 := { stood := { row := garageLaterUptoRow, standIns := [], harness := (true, "5f24c22209686544b5c66002044bfd78575c71abfbbf9c64bbb175d8bb295fb8"), looks := true }, kinds := [], alts := [], laidByText := true, laidKinds := [.data, .data, .data, .data, .sentinel, .sentinel, .pinned], laidTests := true, laidLooks := .later }
def GarageLaterUptoCardSaid : Prop := Claim7.holds Tryz.pinned (.plain (OpenSpec.upto garageLaterSpec)) garageLaterUptoCard

/-- THE SECOND FORM's CARD OF 'layoverlaw12.GarageLegal'. -/
def garageLegalUptoCard : Claim7 := { stood := { row := garageLegalUptoRow, standIns := [], harness := (true, "5f24c22209686544b5c66002044bfd78575c71abfbbf9c64bbb175d8bb295fb8"), looks := true }, kinds := [], alts := [], laidByText := true, laidKinds := [.data, .data, .data, .data, .sentinel, .sentinel, .pinned], laidTests := true, laidLooks := .later }
def GarageLegalUptoCardSaid : Prop := Claim7.holds Tryz.pinned (.plain (OpenSpec.upto garageLegalSpec)) garageLegalUptoCard

/-- THE SECOND FORM's CARD OF 'layoverlaw12.GarageLates'. -/
def garageLatesUptoCard : Claim7 := { stood := { row := garageLatesUptoRow, standIns := [], harness := (true, "5f24c22209686544b5c66002044bfd78575c71abfbbf9c64bbb175d8bb295fb8"), looks := true }, kinds := [], alts := [], laidByText := true, laidKinds := [.data, .data, .data, .data, .sentinel, .sentinel, .pinned], laidTests := true, laidLooks := .later }
def GarageLatesUptoCardSaid : Prop := Claim7.holds Tryz.pinned (.plain (OpenSpec.upto garageLatesSpec)) garageLatesUptoCard

/-- THE SECOND FORM's CARD OF 'layoverlaw12.GarageMiles'. -/
def garageMilesUptoCard : Claim7 := { stood := { row := garageMilesUptoRow, standIns := [], harness := (true, "5f24c22209686544b5c66002044bfd78575c71abfbbf9c64bbb175d8bb295fb8"), looks := true }, kinds := [], alts := [], laidByText := true, laidKinds := [.data, .data, .data, .data, .sentinel, .sentinel, .pinned], laidTests := true, laidLooks := .later }
def GarageMilesUptoCardSaid : Prop := Claim7.holds Tryz.pinned (.plain (OpenSpec.upto garageMilesSpec)) garageMilesUptoCard

/-- THE SECOND FORM's CARD OF 'layoverlaw12.GarageWrites'. -/
def garageWritesUptoCard : Claim7 := { stood := { row := garageWritesUptoRow, standIns := [], harness := (true, "5f24c22209686544b5c66002044bfd78575c71abfbbf9c64bbb175d8bb295fb8"), looks := true }, kinds := [], alts := [], laidByText := true, laidKinds := [.data, .data, .data, .data, .sentinel, .sentinel, .pinned], laidTests := true, laidLooks := .later }
def GarageWritesUptoCardSaid : Prop := Claim7.holds Tryz.pinned (.plain (OpenSpec.upto garageWritesSpec)) garageWritesUptoCard

/-- THE SECOND FORM's CARD OF 'layoverlaw12.GarageStops'. -/
def garageStopsUptoCard : Claim7 := { stood := { row := garageStopsUptoRow, standIns := [], harness := (true, "5f24c22209686544b5c66002044bfd78575c71abfbbf9c64bbb175d8bb295fb8"), looks := true }, kinds := [], alts := [], laidByText := true, laidKinds := [.data, .data, .data, .data, .sentinel, .sentinel, .pinned], laidTests := true, laidLooks := .later }
def GarageStopsUptoCardSaid : Prop := Claim7.holds Tryz.pinned (.plain (OpenSpec.upto garageStopsSpec)) garageStopsUptoCard

/-- THE SECOND FORM's CARD OF 'layoverlaw12.GaragePlace'. -/
def garagePlaceUptoCard : Claim7 := { stood := { row := garagePlaceUptoRow, standIns := [], harness := (true, "5f24c22209686544b5c66002044bfd78575c71abfbbf9c64bbb175d8bb295fb8"), looks := true }, kinds := [], alts := [], laidByText := true, laidKinds := [.data, .data, .data, .data, .sentinel, .sentinel, .pinned], laidTests := true, laidLooks := .later }
def GaragePlaceUptoCardSaid : Prop := Claim7.holds Tryz.pinned (.plain (OpenSpec.upto garagePlaceSpec)) garagePlaceUptoCard

/-- THE SECOND FORM's CARD OF 'layoverlaw12.GarageTickets'. -/
def garageTicketsUptoCard : Claim7 := { stood := { row := garageTicketsUptoRow, standIns := [], harness := (true, "5f24c22209686544b5c66002044bfd78575c71abfbbf9c64bbb175d8bb295fb8"), looks := true }, kinds := [], alts := [], laidByText := true, laidKinds := [.data, .data, .data, .data, .sentinel, .sentinel, .pinned], laidTests := true, laidLooks := .later }
def GarageTicketsUptoCardSaid : Prop := Claim7.holds Tryz.pinned (.plain (OpenSpec.upto garageTicketsSpec)) garageTicketsUptoCard

/-- THE SECOND FORM's CARD OF 'layoverlaw12.GarageResumes'. -/
def garageResumesUptoCard : Claim7 := { stood := { row := garageResumesUptoRow, standIns := [], harness := (true, "5f24c22209686544b5c66002044bfd78575c71abfbbf9c64bbb175d8bb295fb8"), looks := true }, kinds := [], alts := [], laidByText := true, laidKinds := [.data, .data, .data, .data, .sentinel, .sentinel, .pinned], laidTests := true, laidLooks := .later }
def GarageResumesUptoCardSaid : Prop := Claim7.holds Tryz.pinned (.plain (OpenSpec.upto garageResumesSpec)) garageResumesUptoCard

/-- THE SECOND FORM's CARD OF 'layoverlaw12.GarageGoesOn'. -/
def garageGoesOnUptoCard : Claim7 := { stood := { row := garageGoesOnUptoRow, standIns := [], harness := (true, "5f24c22209686544b5c66002044bfd78575c71abfbbf9c64bbb175d8bb295fb8"), looks := true }, kinds := [], alts := [], laidByText := true, laidKinds := [.data, .data, .data, .data, .sentinel, .sentinel, .pinned], laidTests := true, laidLooks := .later }
def GarageGoesOnUptoCardSaid : Prop := Claim7.holds Tryz.pinned (.plain (OpenSpec.upto garageGoesOnSpec)) garageGoesOnUptoCard

/-- THE SECOND FORM's CARD OF 'layoverlaw12.GarageReports'. -/
def garageReportsUptoCard : Claim7 := { stood := { row := garageReportsUptoRow, standIns := [], harness := (true, "5f24c22209686544b5c66002044bfd78575c71abfbbf9c64bbb175d8bb295fb8"), looks := true }, kinds := [], alts := [], laidByText := true, laidKinds := [.data, .data, .data, .data, .sentinel, .sentinel, .pinned], laidTests := true, laidLooks := .later }
def GarageReportsUptoCardSaid : Prop := Claim7.holds Tryz.pinned (.plain (OpenSpec.upto garageReportsSpec)) garageReportsUptoCard

/-- THE SECOND FORM's CARD OF 'layoverlaw12.GarageReplays'. -/
def garageReplaysUptoCard : Claim7 := { stood := { row := garageReplaysUptoRow, standIns := [], harness := (true, "5f24c22209686544b5c66002044bfd78575c71abfbbf9c64bbb175d8bb295fb8"), looks := true }, kinds := [], alts := [], laidByText := true, laidKinds := [.data, .data, .data, .data, .sentinel, .sentinel, .pinned], laidTests := true, laidLooks := .later }
def GarageReplaysUptoCardSaid : Prop := Claim7.holds Tryz.pinned (.plain (OpenSpec.upto garageReplaysSpec)) garageReplaysUptoCard

/-- THE SECOND FORM's CARD OF 'layoverlaw12.GarageNames'. -/
def garageNamesUptoCard : Claim7 := { stood := { row := garageNamesUptoRow, standIns := [], harness := (true, "5f24c22209686544b5c66002044bfd78575c71abfbbf9c64bbb175d8bb295fb8"), looks := true }, kinds := [], alts := [], laidByText := true, laidKinds := [.data, .data, .data, .data, .sentinel, .sentinel, .pinned], laidTests := true, laidLooks := .later }
def GarageNamesUptoCardSaid : Prop := Claim7.holds Tryz.pinned (.plain (OpenSpec.upto garageNamesSpec)) garageNamesUptoCard
end Rows
end Go.Proofs.YtkpgggfibljflaaGreatDoor
