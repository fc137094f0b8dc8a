import Derived.Test.YtnkoojgdbnhhnaaGreatDoorCards
import Derived.ProofKit
import Derived.JoinedOf
namespace Go.Proofs.YtnkoojgdbnhhnaaGreatDoor
open Go Go.ChangeShapes Go.WideShapes Go.ChangeAt Go.RowKit
set_option maxHeartbeats 4000000 in
set_option maxRecDepth 100000 in
theorem known_closed : joinedFacts Tryz.pinned.checked.prog 3 Tryz.f3 Rows.numberKnownSpec Rows.numberKnownRow = true := by
  unfold joinedFacts
  simp only [Bool.and_eq_true]
  repeat' apply And.intro
  all_goals (as_aux_lemma => kernel_rfl)
theorem known_named : Tryz.pinned.checked.prog.funcNamed Rows.numberKnownRow.func = some 3 := by kernel_rfl
end Go.Proofs.YtnkoojgdbnhhnaaGreatDoor
