/- The law function FnRolls returns true for all arguments: the program and the reference agree. -/
import Derived.Test.YtbeoijlggphklaaGreatDoorRows
import Derived.Test.YtbeoijlggphklaaGreatDoorCards
import Derived.Test.YtbeoijlggphklaaGreatDoorTie
import Derived.LaidMore
import Derived.LaidHandle
import Derived.Stop.LaidErr
import Derived.Stop.Joined
import Derived.SevenTiedAt
import Derived.KernelRfl
import Derived.JoinedOf
set_option linter.unusedVariables false
set_option linter.unusedSimpArgs false
namespace Go.Proofs.YtbeoijlggphklaaGreatDoor
open Go.RowKit
set_option maxHeartbeats 8000000 in
theorem closed : joinedFacts Tryz.pinned.checked.prog 8 Tryz.f8 Rows.fnRollsSpec Rows.fnRollsRow = true := by
  unfold joinedFacts
  simp only [Bool.and_eq_true]
  repeat' apply And.intro
  all_goals as_aux_lemma => kernel_rfl
end Go.Proofs.YtbeoijlggphklaaGreatDoor
