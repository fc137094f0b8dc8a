import Derived.Test.YtnkoojgdbnhhnaaGreatDoorKKnown
import Derived.Test.YtnkoojgdbnhhnaaGreatDoorKRow
namespace Go.Proofs.YtnkoojgdbnhhnaaGreatDoor
open Go
theorem known_card : Rows.NumberKnownCardSaid := known_card_of Go.Ax.K.run_ok
#print axioms known_card
end Go.Proofs.YtnkoojgdbnhhnaaGreatDoor
