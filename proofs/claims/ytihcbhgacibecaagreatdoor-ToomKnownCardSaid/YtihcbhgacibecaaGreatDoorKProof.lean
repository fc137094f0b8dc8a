import Derived.Test.YtihcbhgacibecaaGreatDoorKKnown
import Derived.Test.YtihcbhgacibecaaGreatDoorKRow
namespace Go.Proofs.YtihcbhgacibecaaGreatDoor
open Go
theorem known_card : Rows.ToomKnownCardSaid := known_card_of Go.Ax.K.run_ok
#print axioms known_card
end Go.Proofs.YtihcbhgacibecaaGreatDoor
