/- The law function FnRolls returns true for all arguments: the program and the reference agree. -/
import Derived.Test.YtbeoijlggphklaaGreatDoorLiftRolls
import Derived.Test.YtbeoijlggphklaaGreatDoorChkRolls
import Derived.Test.YtbeoijlggphklaaGreatDoorRows
import Derived.Test.YtbeoijlggphklaaGreatDoorCards
import Derived.Test.YtbeoijlggphklaaGreatDoorTie
import Derived.LaidMore
import Derived.LaidHandle
import Derived.Stop.LaidErr
import Derived.Stop.Joined
import Derived.SevenTiedAt
set_option linter.unusedVariables false
set_option linter.unusedSimpArgs false
namespace Go.Proofs.YtbeoijlggphklaaGreatDoor
open Go.Abs Go.RowKit Go.ChangeShapes Go.WideShapes
set_option maxHeartbeats 8000000 in
theorem FnRolls_row : Rows.FnRollsSaid :=
  OpenClaim.holds_of_wide 8 Tryz.f8 rfl rfl rfl rfl rfl rfl rfl ⟨rfl, rfl, rfl, rfl, rfl⟩ rfl rfl rfl rfl rfl (by as_aux_lemma => kernel_rfl) Tryz.func8 closed
    (of_decide_eq_true (by as_aux_lemma => kernel_rfl)) (by unfold Func.isWrapper; first | (rw [if_pos (by decide +kernel)]; kernel_rfl) | (rw [if_neg (by decide +kernel)]; exact ⟨rfl, rfl⟩))
    (fun os started H enc _ => lifted os started H enc)
end Go.Proofs.YtbeoijlggphklaaGreatDoor
