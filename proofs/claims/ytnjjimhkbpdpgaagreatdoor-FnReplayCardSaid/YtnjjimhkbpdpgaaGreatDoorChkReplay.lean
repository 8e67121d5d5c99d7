/- The law function FnReplay returns true for all arguments: the program and the reference agree. -/
import Derived.Test.YtnjjimhkbpdpgaaGreatDoorRows
import Derived.Test.YtnjjimhkbpdpgaaGreatDoorCards
import Derived.Test.YtnjjimhkbpdpgaaGreatDoorTie
import Derived.LaidMore
import Derived.LaidHandle
import Derived.Stop.LaidErr
import Derived.Stop.Joined
import Derived.SevenTiedAt
import Derived.HandedShaped
import Derived.Shelf.Vars
import Derived.Stop.JoinedAt
import Derived.KernelRfl
import Derived.JoinedOf
namespace Go.Proofs.YtnjjimhkbpdpgaaGreatDoor
open Go.RowKit
set_option maxHeartbeats 8000000 in
theorem closed:joinedFacts Tryz.pinned.checked.prog 5 Tryz.f5 Rows.fnReplaySpec Rows.fnReplayRow=true:=by
 unfold joinedFacts
 simp only[Bool.and_eq_true]
 repeat' apply And.intro
 all_goals as_aux_lemma=>kernel_rfl
end Go.Proofs.YtnjjimhkbpdpgaaGreatDoor
