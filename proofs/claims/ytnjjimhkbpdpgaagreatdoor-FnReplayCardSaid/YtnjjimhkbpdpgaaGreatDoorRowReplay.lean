/- The law function FnReplay returns true for all arguments: the program and the reference agree. -/
import Derived.Test.YtnjjimhkbpdpgaaGreatDoorLiftReplay
import Derived.Test.YtnjjimhkbpdpgaaGreatDoorChkReplay
import Derived.Test.YtnjjimhkbpdpgaaGreatDoorRows
import Derived.Test.YtnjjimhkbpdpgaaGreatDoorCards
import Derived.Test.YtnjjimhkbpdpgaaGreatDoorTie
import Derived.LaidMore
import Derived.LaidHandle
import Derived.Stop.LaidErr
import Derived.Stop.Joined
import Derived.SevenTiedAt
import Derived.HandedShaped
import Derived.Shelf.Vars
import Derived.Stop.JoinedAt
namespace Go.Proofs.YtnjjimhkbpdpgaaGreatDoor
open Go.Abs Go.RowKit Go.ChangeShapes Go.WideShapes
set_option maxHeartbeats 8000000 in
theorem FnReplay_row:Rows.FnReplaySaid :=
 OpenClaim.holds_of_wide 5 Tryz.f5 rfl rfl rfl rfl rfl rfl rfl ⟨rfl,rfl,rfl,rfl,rfl⟩ rfl rfl rfl rfl rfl (by as_aux_lemma=>kernel_rfl) Tryz.func5 closed
  (of_decide_eq_true (by as_aux_lemma=>kernel_rfl)) (by unfold Func.isWrapper;first | (rw[if_pos (by decide +kernel)];kernel_rfl) | (rw[if_neg (by decide +kernel)];exact⟨rfl,rfl⟩))
  (fun os started H Dy _=>lifted os started H Dy)
end Go.Proofs.YtnjjimhkbpdpgaaGreatDoor
