/-
  DERIVED. GIVEN WITH THE SEED: THE CARDS: each row of YtnkoojgdbnhhnaaGreatDoorRows.lean that lists a variable, with what it lists TIED to the program's text (the seventh form; the later family's looks); each row that meets fmt, with fmt's text TOLD by the authors' own Lean function (tested against real Go, not proved from fmt's source: count such statements apart). THE CARD IS WHAT COUNTS. Prove the row's statement (the work); the ties are given (YtnkoojgdbnhhnaaGreatDoorTie.lean); close each card by the builder's one call (the guide's Derived/Test/ToyasCard.lean, 'card_holds'). Laid BY PROGRAM, IN A SANDBOX (cutbox-door.mjs). By AI agents, Wed Nov 11 2026. No macro, syntax, notation, axiom, sorry.
-/
import Derived.Test.YtnkoojgdbnhhnaaGreatDoorRows
import GoSem.ClaimSeven
namespace Go.Proofs.YtnkoojgdbnhhnaaGreatDoor
namespace Rows

/-- THE TIED CARD OF 'swagelaw26.NumberKnown'. -/
def numberKnownCard : Claim7 := { stood := { row := numberKnownRow, standIns := [], harness := (true, "d5a6b069bda3ea57bd9056b98d2a8933d009df1e96e17f7d1bae472f240ce578"), looks := false }, kinds := [], alts := [], laidByText := true, laidKinds := [.data, .data, .data, .pinned], laidTests := true, laidLooks := .later }
def NumberKnownCardSaid : Prop := Claim7.holds Tryz.pinned (.plain (OpenSpec.ofChange numberKnownSpec)) numberKnownCard

/-- THE TIED CARD OF 'swagelaw26.NumberMuls'. -/
def numberMulsCard : Claim7 := { stood := { row := numberMulsRow, standIns := [], harness := (true, "d5a6b069bda3ea57bd9056b98d2a8933d009df1e96e17f7d1bae472f240ce578"), looks := false }, kinds := [], alts := [], laidByText := true, laidKinds := [.data, .data, .data, .pinned], laidTests := true, laidLooks := .later }
def NumberMulsCardSaid : Prop := Claim7.holds Tryz.pinned (.plain (OpenSpec.ofChange numberMulsSpec)) numberMulsCard

/-- THE TIED CARD OF 'swagelaw26.NumberBack'. -/
def numberBackCard : Claim7 := { stood := { row := numberBackRow, standIns := [], harness := (true, "d5a6b069bda3ea57bd9056b98d2a8933d009df1e96e17f7d1bae472f240ce578"), looks := false }, kinds := [], alts := [], laidByText := true, laidKinds := [.data, .data, .data, .pinned], laidTests := true, laidLooks := .later }
def NumberBackCardSaid : Prop := Claim7.holds Tryz.pinned (.plain (OpenSpec.ofChange numberBackSpec)) numberBackCard

/-- THE TIED CARD OF 'swagelaw26.NumberCuts'. -/
def numberCutsCard : Claim7 := { stood := { row := numberCutsRow, standIns := [], harness := (true, "d5a6b069bda3ea57bd9056b98d2a8933d009df1e96e17f7d1bae472f240ce578"), looks := false }, kinds := [], alts := [], laidByText := true, laidKinds := [.data, .data, .data, .pinned], laidTests := true, laidLooks := .later }
def NumberCutsCardSaid : Prop := Claim7.holds Tryz.pinned (.plain (OpenSpec.ofChange numberCutsSpec)) numberCutsCard

/-- THE TIED CARD OF 'swagelaw26.NumberPows'. -/
def numberPowsCard : Claim7 := { stood := { row := numberPowsRow, standIns := [], harness := (true, "d5a6b069bda3ea57bd9056b98d2a8933d009df1e96e17f7d1bae472f240ce578"), looks := false }, kinds := [], alts := [], laidByText := true, laidKinds := [.data, .data, .data, .pinned], laidTests := true, laidLooks := .later }
def NumberPowsCardSaid : Prop := Claim7.holds Tryz.pinned (.plain (OpenSpec.ofChange numberPowsSpec)) numberPowsCard

/-- THE TIED CARD OF 'swagelaw26.NumberProduct'. -/
def numberProductCard : Claim7 := { stood := { row := numberProductRow, standIns := [], harness := (true, "d5a6b069bda3ea57bd9056b98d2a8933d009df1e96e17f7d1bae472f240ce578"), looks := false }, kinds := [], alts := [], laidByText := true, laidKinds := [.data, .data, .data, .pinned], laidTests := true, laidLooks := .later }
def NumberProductCardSaid : Prop := Claim7.holds Tryz.pinned (.plain (OpenSpec.ofChange numberProductSpec)) numberProductCard

/-- THE TIED CARD OF 'swagelaw26.NumberPower'. -/
def numberPowerCard : Claim7 := { stood := { row := numberPowerRow, standIns := [], harness := (true, "d5a6b069bda3ea57bd9056b98d2a8933d009df1e96e17f7d1bae472f240ce578"), looks := false }, kinds := [], alts := [], laidByText := true, laidKinds := [.data, .data, .data, .pinned], laidTests := true, laidLooks := .later }
def NumberPowerCardSaid : Prop := Claim7.holds Tryz.pinned (.plain (OpenSpec.ofChange numberPowerSpec)) numberPowerCard

/-- THE SECOND FORM's CARD OF 'swagelaw26.NumberKnown'. -/
def numberKnownUptoCard : Claim7 := { stood := { row := numberKnownUptoRow, standIns := [], harness := (true, "d5a6b069bda3ea57bd9056b98d2a8933d009df1e96e17f7d1bae472f240ce578"), looks := false }, kinds := [], alts := [], laidByText := true, laidKinds := [.data, .data, .data, .pinned], laidTests := true, laidLooks := .later }
def NumberKnownUptoCardSaid : Prop := Claim7.holds Tryz.pinned (.plain (OpenSpec.upto numberKnownSpec)) numberKnownUptoCard

/-- THE SECOND FORM's CARD OF 'swagelaw26.NumberMuls'. -/
def numberMulsUptoCard : Claim7 := { stood := { row := numberMulsUptoRow, standIns := [], harness := (true, "d5a6b069bda3ea57bd9056b98d2a8933d009df1e96e17f7d1bae472f240ce578"), looks := false }, kinds := [], alts := [], laidByText := true, laidKinds := [.data, .data, .data, .pinned], laidTests := true, laidLooks := .later }
def NumberMulsUptoCardSaid : Prop := Claim7.holds Tryz.pinned (.plain (OpenSpec.upto numberMulsSpec)) numberMulsUptoCard

/-- THE SECOND FORM's CARD OF 'swagelaw26.NumberBack'. -/
def numberBackUptoCard : Claim7 := { stood := { row := numberBackUptoRow, standIns := [], harness := (true, "d5a6b069bda3ea57bd9056b98d2a8933d009df1e96e17f7d1bae472f240ce578"), looks := false }, kinds := [], alts := [], laidByText := true, laidKinds := [.data, .data, .data, .pinned], laidTests := true, laidLooks := .later }
def NumberBackUptoCardSaid : Prop := Claim7.holds Tryz.pinned (.plain (OpenSpec.upto numberBackSpec)) numberBackUptoCard

/-- THE SECOND FORM's CARD OF 'swagelaw26.NumberCuts'. -/
def numberCutsUptoCard : Claim7 := { stood := { row := numberCutsUptoRow, standIns := [], harness := (true, "d5a6b069bda3ea57bd9056b98d2a8933d009df1e96e17f7d1bae472f240ce578"), looks := false }, kinds := [], alts := [], laidByText := true, laidKinds := [.data, .data, .data, .pinned], laidTests := true, laidLooks := .later }
def NumberCutsUptoCardSaid : Prop := Claim7.holds Tryz.pinned (.plain (OpenSpec.upto numberCutsSpec)) numberCutsUptoCard

/-- THE SECOND FORM's CARD OF 'swagelaw26.NumberPows'. -/
def numberPowsUptoCard : Claim7 := { stood := { row := numberPowsUptoRow, standIns := [], harness := (true, "d5a6b069bda3ea57bd9056b98d2a8933d009df1e96e17f7d1bae472f240ce578"), looks := false }, kinds := [], alts := [], laidByText := true, laidKinds := [.data, .data, .data, .pinned], laidTests := true, laidLooks := .later }
def NumberPowsUptoCardSaid : Prop := Claim7.holds Tryz.pinned (.plain (OpenSpec.upto numberPowsSpec)) numberPowsUptoCard

/-- THE SECOND FORM's CARD OF 'swagelaw26.NumberProduct'. -/
def numberProductUptoCard : Claim7 := { stood := { row := numberProductUptoRow, standIns := [], harness := (true, "d5a6b069bda3ea57bd9056b98d2a8933d009df1e96e17f7d1bae472f240ce578"), looks := false }, kinds := [], alts := [], laidByText := true, laidKinds := [.data, .data, .data, .pinned], laidTests := true, laidLooks := .later }
def NumberProductUptoCardSaid : Prop := Claim7.holds Tryz.pinned (.plain (OpenSpec.upto numberProductSpec)) numberProductUptoCard

/-- THE SECOND FORM's CARD OF 'swagelaw26.NumberPower'. -/
def numberPowerUptoCard : Claim7 := { stood := { row := numberPowerUptoRow, standIns := [], harness := (true, "d5a6b069bda3ea57bd9056b98d2a8933d009df1e96e17f7d1bae472f240ce578"), looks := false }, kinds := [], alts := [], laidByText := true, laidKinds := [.data, .data, .data, .pinned], laidTests := true, laidLooks := .later }
def NumberPowerUptoCardSaid : Prop := Claim7.holds Tryz.pinned (.plain (OpenSpec.upto numberPowerSpec)) numberPowerUptoCard
end Rows
end Go.Proofs.YtnkoojgdbnhhnaaGreatDoor
