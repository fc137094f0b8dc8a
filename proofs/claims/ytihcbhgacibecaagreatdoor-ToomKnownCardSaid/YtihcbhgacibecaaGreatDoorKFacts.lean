import Derived.Test.YtihcbhgacibecaaGreatDoorCards
import Derived.ProofKit
import Derived.JoinedOf
namespace Go.Proofs.YtihcbhgacibecaaGreatDoor
open Go Go.ChangeShapes Go.WideShapes Go.ChangeAt Go.RowKit
set_option maxHeartbeats 4000000 in
set_option maxRecDepth 100000 in
theorem known_closed : joinedFacts Tryz.pinned.checked.prog 10 Tryz.f10 Rows.toomKnownSpec Rows.toomKnownRow = true := by
  unfold joinedFacts
  simp only [Bool.and_eq_true]
  repeat' apply And.intro
  all_goals (as_aux_lemma => kernel_rfl)
theorem known_named : Tryz.pinned.checked.prog.funcNamed Rows.toomKnownRow.func = some 10 := by kernel_rfl
end Go.Proofs.YtihcbhgacibecaaGreatDoor
