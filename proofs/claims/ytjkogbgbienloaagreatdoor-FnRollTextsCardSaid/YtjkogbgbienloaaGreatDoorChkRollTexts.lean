/- The law function FnRollTexts returns true for all arguments: the program and the reference agree. -/
import Derived.Test.YtjkogbgbienloaaGreatDoorRows
import Derived.Test.YtjkogbgbienloaaGreatDoorCards
import Derived.Test.YtjkogbgbienloaaGreatDoorTie
import Derived.LaidMore
import Derived.LaidHandle
import Derived.Stop.LaidErr
import Derived.Stop.Joined
import Derived.SevenTiedAt
import Derived.KernelRfl
import Derived.JoinedOf
namespace Go.Proofs.YtjkogbgbienloaaGreatDoor
open Go.RowKit
set_option maxHeartbeats 8000000 in
theorem closed:joinedFacts Tryz.pinned.checked.prog 4 Tryz.f4 Rows.fnRollTextsSpec Rows.fnRollTextsRow=true:=by
 unfold joinedFacts
 simp only[Bool.and_eq_true]
 repeat' apply And.intro
 all_goals as_aux_lemma=>kernel_rfl
end Go.Proofs.YtjkogbgbienloaaGreatDoor
