/-
  DERIVED. GIVEN WITH THE SEED: THE CARDS: each row of YtihcbhgacibecaaGreatDoorRows.lean that lists a variable, with what it lists TIED to the program's text (the seventh form; the later family's looks); each row that meets fmt, with fmt's text TOLD by the authors' own Lean function (tested against real Go, not proved from fmt's source: count such statements apart). THE CARD IS WHAT COUNTS. Prove the row's statement (the work); the ties are given (YtihcbhgacibecaaGreatDoorTie.lean); close each card by the builder's one call (the guide's Derived/Test/ToyasCard.lean, 'card_holds'). Laid BY PROGRAM, IN A SANDBOX (cutbox-door.mjs). By AI agents, Wed Nov 11 2026. No macro, syntax, notation, axiom, sorry.
-/
import Derived.Test.YtihcbhgacibecaaGreatDoorRows
import GoSem.ClaimSeven
namespace Go.Proofs.YtihcbhgacibecaaGreatDoor
namespace Rows

/-- THE TIED CARD OF 'swagelaw22.ToomMuls'. -/
def toomMulsCard : Claim7 := { stood := { row := toomMulsRow, standIns := [], harness := (true, "8fd859effc88a2c18eddea31c5d33ca62b022a4e13dae21acbb5066a916517c6"), looks := false }, kinds := [], alts := [], laidByText := true, laidKinds := [.data, .data, .data, .pinned], laidTests := true, laidLooks := .later }
def ToomMulsCardSaid : Prop := Claim7.holds Tryz.pinned (.plain (OpenSpec.ofChange toomMulsSpec)) toomMulsCard

/-- THE TIED CARD OF 'swagelaw22.ToomNews'. -/
def toomNewsCard : Claim7 := { stood := { row := toomNewsRow, standIns := [], harness := (true, "8fd859effc88a2c18eddea31c5d33ca62b022a4e13dae21acbb5066a916517c6"), looks := false }, kinds := [], alts := [], laidByText := true, laidKinds := [.data, .data, .data, .pinned], laidTests := true, laidLooks := .later }
def ToomNewsCardSaid : Prop := Claim7.holds Tryz.pinned (.plain (OpenSpec.ofChange toomNewsSpec)) toomNewsCard

/-- THE TIED CARD OF 'swagelaw22.ToomLevels'. -/
def toomLevelsCard : Claim7 := { stood := { row := toomLevelsRow, standIns := [], harness := (true, "8fd859effc88a2c18eddea31c5d33ca62b022a4e13dae21acbb5066a916517c6"), looks := false }, kinds := [], alts := [], laidByText := true, laidKinds := [.data, .data, .data, .pinned], laidTests := true, laidLooks := .later }
def ToomLevelsCardSaid : Prop := Claim7.holds Tryz.pinned (.plain (OpenSpec.ofChange toomLevelsSpec)) toomLevelsCard

/-- THE TIED CARD OF 'swagelaw22.ToomForetells'. -/
def toomForetellsCard : Claim7 := { stood := { row := toomForetellsRow, standIns := [], harness := (true, "8fd859effc88a2c18eddea31c5d33ca62b022a4e13dae21acbb5066a916517c6"), looks := false }, kinds := [], alts := [], laidByText := true, laidKinds := [.data, .data, .data, .pinned], laidTests := true, laidLooks := .later }
def ToomForetellsCardSaid : Prop := Claim7.holds Tryz.pinned (.plain (OpenSpec.ofChange toomForetellsSpec)) toomForetellsCard

/-- THE TIED CARD OF 'swagelaw22.ToomAlike'. -/
def toomAlikeCard : Claim7 := { stood := { row := toomAlikeRow, standIns := [], harness := (true, "8fd859effc88a2c18eddea31c5d33ca62b022a4e13dae21acbb5066a916517c6"), looks := false }, kinds := [], alts := [], laidByText := true, laidKinds := [.data, .data, .data, .pinned], laidTests := true, laidLooks := .later }
def ToomAlikeCardSaid : Prop := Claim7.holds Tryz.pinned (.plain (OpenSpec.ofChange toomAlikeSpec)) toomAlikeCard

/-- THE TIED CARD OF 'swagelaw22.ToomCounts'. -/
def toomCountsCard : Claim7 := { stood := { row := toomCountsRow, standIns := [], harness := (true, "8fd859effc88a2c18eddea31c5d33ca62b022a4e13dae21acbb5066a916517c6"), looks := false }, kinds := [], alts := [], laidByText := true, laidKinds := [.data, .data, .data, .pinned], laidTests := true, laidLooks := .later }
def ToomCountsCardSaid : Prop := Claim7.holds Tryz.pinned (.plain (OpenSpec.ofChange toomCountsSpec)) toomCountsCard

/-- THE TIED CARD OF 'swagelaw22.ToomClosed'. -/
def toomClosedCard : Claim7 := { stood := { row := toomClosedRow, standIns := [], harness := (true, "8fd859effc88a2c18eddea31c5d33ca62b022a4e13dae21acbb5066a916517c6"), looks := false }, kinds := [], alts := [], laidByText := true, laidKinds := [.data, .data, .data, .pinned], laidTests := true, laidLooks := .later }
def ToomClosedCardSaid : Prop := Claim7.holds Tryz.pinned (.plain (OpenSpec.ofChange toomClosedSpec)) toomClosedCard

/-- THE TIED CARD OF 'swagelaw22.ToomKnown'. -/
def toomKnownCard : Claim7 := { stood := { row := toomKnownRow, standIns := [], harness := (true, "8fd859effc88a2c18eddea31c5d33ca62b022a4e13dae21acbb5066a916517c6"), looks := false }, kinds := [], alts := [], laidByText := true, laidKinds := [.data, .data, .data, .pinned], laidTests := true, laidLooks := .later }
def ToomKnownCardSaid : Prop := Claim7.holds Tryz.pinned (.plain (OpenSpec.ofChange toomKnownSpec)) toomKnownCard

/-- THE SECOND FORM's CARD OF 'swagelaw22.ToomMuls'. -/
def toomMulsUptoCard : Claim7 := { stood := { row := toomMulsUptoRow, standIns := [], harness := (true, "8fd859effc88a2c18eddea31c5d33ca62b022a4e13dae21acbb5066a916517c6"), looks := false }, kinds := [], alts := [], laidByText := true, laidKinds := [.data, .data, .data, .pinned], laidTests := true, laidLooks := .later }
def ToomMulsUptoCardSaid : Prop := Claim7.holds Tryz.pinned (.plain (OpenSpec.upto toomMulsSpec)) toomMulsUptoCard

/-- THE SECOND FORM's CARD OF 'swagelaw22.ToomNews'. -/
def toomNewsUptoCard : Claim7 := { stood := { row := toomNewsUptoRow, standIns := [], harness := (true, "8fd859effc88a2c18eddea31c5d33ca62b022a4e13dae21acbb5066a916517c6"), looks := false }, kinds := [], alts := [], laidByText := true, laidKinds := [.data, .data, .data, .pinned], laidTests := true, laidLooks := .later }
def ToomNewsUptoCardSaid : Prop := Claim7.holds Tryz.pinned (.plain (OpenSpec.upto toomNewsSpec)) toomNewsUptoCard

/-- THE SECOND FORM's CARD OF 'swagelaw22.ToomLevels'. -/
def toomLevelsUptoCard : Claim7 := { stood := { row := toomLevelsUptoRow, standIns := [], harness := (true, "8fd859effc88a2c18eddea31c5d33ca62b022a4e13dae21acbb5066a916517c6"), looks := false }, kinds := [], alts := [], laidByText := true, laidKinds := [.data, .data, .data, .pinned], laidTests := true, laidLooks := .later }
def ToomLevelsUptoCardSaid : Prop := Claim7.holds Tryz.pinned (.plain (OpenSpec.upto toomLevelsSpec)) toomLevelsUptoCard

/-- THE SECOND FORM's CARD OF 'swagelaw22.ToomForetells'. -/
def toomForetellsUptoCard : Claim7 := { stood := { row := toomForetellsUptoRow, standIns := [], harness := (true, "8fd859effc88a2c18eddea31c5d33ca62b022a4e13dae21acbb5066a916517c6"), looks := false }, kinds := [], alts := [], laidByText := true, laidKinds := [.data, .data, .data, .pinned], laidTests := true, laidLooks := .later }
def ToomForetellsUptoCardSaid : Prop := Claim7.holds Tryz.pinned (.plain (OpenSpec.upto toomForetellsSpec)) toomForetellsUptoCard

/-- THE SECOND FORM's CARD OF 'swagelaw22.ToomAlike'. -/
def toomAlikeUptoCard : Claim7 := { stood := { row := toomAlikeUptoRow, standIns := [], harness := (true, "8fd859effc88a2c18eddea31c5d33ca62b022a4e13dae21acbb5066a916517c6"), looks := false }, kinds := [], alts := [], laidByText := true, laidKinds := [.data, .data, .data, .pinned], laidTests := true, laidLooks := .later }
def ToomAlikeUptoCardSaid : Prop := Claim7.holds Tryz.pinned (.plain (OpenSpec.upto toomAlikeSpec)) toomAlikeUptoCard

/-- THE SECOND FORM's CARD OF 'swagelaw22.ToomCounts'. -/
def toomCountsUptoCard : Claim7 := { stood := { row := toomCountsUptoRow, standIns := [], harness := (true, "8fd859effc88a2c18eddea31c5d33ca62b022a4e13dae21acbb5066a916517c6"), looks := false }, kinds := [], alts := [], laidByText := true, laidKinds := [.data, .data, .data, .pinned], laidTests := true, laidLooks := .later }
def ToomCountsUptoCardSaid : Prop := Claim7.holds Tryz.pinned (.plain (OpenSpec.upto toomCountsSpec)) toomCountsUptoCard

/-- THE SECOND FORM's CARD OF 'swagelaw22.ToomClosed'. -/
def toomClosedUptoCard : Claim7 := { stood := { row := toomClosedUptoRow, standIns := [], harness := (true, "8fd859effc88a2c18eddea31c5d33ca62b022a4e13dae21acbb5066a916517c6"), looks := false }, kinds := [], alts := [], laidByText := true, laidKinds := [.data, .data, .data, .pinned], laidTests := true, laidLooks := .later }
def ToomClosedUptoCardSaid : Prop := Claim7.holds Tryz.pinned (.plain (OpenSpec.upto toomClosedSpec)) toomClosedUptoCard

/-- THE SECOND FORM's CARD OF 'swagelaw22.ToomKnown'. -/
def toomKnownUptoCard : Claim7 := { stood := { row := toomKnownUptoRow, standIns := [], harness := (true, "8fd859effc88a2c18eddea31c5d33ca62b022a4e13dae21acbb5066a916517c6"), looks := false }, kinds := [], alts := [], laidByText := true, laidKinds := [.data, .data, .data, .pinned], laidTests := true, laidLooks := .later }
def ToomKnownUptoCardSaid : Prop := Claim7.holds Tryz.pinned (.plain (OpenSpec.upto toomKnownSpec)) toomKnownUptoCard
end Rows
end Go.Proofs.YtihcbhgacibecaaGreatDoor
