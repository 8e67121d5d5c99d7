/- The law function FnRollTexts returns true for all arguments: the program and the reference agree. -/
import Derived.Test.YtjkogbgbienloaaGreatDoorLiftRollTexts
import Derived.Test.YtjkogbgbienloaaGreatDoorChkRollTexts
import Derived.Test.YtjkogbgbienloaaGreatDoorRows
import Derived.Test.YtjkogbgbienloaaGreatDoorCards
import Derived.Test.YtjkogbgbienloaaGreatDoorTie
import Derived.LaidMore
import Derived.LaidHandle
import Derived.Stop.LaidErr
import Derived.Stop.Joined
import Derived.SevenTiedAt
namespace Go.Proofs.YtjkogbgbienloaaGreatDoor
open Go.Abs Go.RowKit Go.ChangeShapes Go.WideShapes
set_option maxHeartbeats 8000000 in
theorem FnRollTexts_row:Rows.FnRollTextsSaid :=
 OpenClaim.holds_of_wide 4 Tryz.f4 rfl rfl rfl rfl rfl rfl rfl ⟨rfl,rfl,rfl,rfl,rfl⟩ rfl rfl rfl rfl rfl (by as_aux_lemma=>kernel_rfl) Tryz.func4 closed
  (of_decide_eq_true (by as_aux_lemma=>kernel_rfl)) (by unfold Func.isWrapper;first | (rw[if_pos (by decide +kernel)];kernel_rfl) | (rw[if_neg (by decide +kernel)];exact⟨rfl,rfl⟩))
  (fun os started H enc _=>lifted os started H enc)
end Go.Proofs.YtjkogbgbienloaaGreatDoor
