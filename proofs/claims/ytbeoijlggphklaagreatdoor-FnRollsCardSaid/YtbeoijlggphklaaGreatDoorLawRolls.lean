/- The law function FnRolls returns true for all arguments: the program and the reference agree. -/
import Derived.Test.YtbeoijlggphklaaGreatDoorRowRolls
import Derived.Test.YtbeoijlggphklaaGreatDoorRows
import Derived.Test.YtbeoijlggphklaaGreatDoorCards
import Derived.Test.YtbeoijlggphklaaGreatDoorTie
import Derived.LaidMore
import Derived.LaidHandle
import Derived.Stop.LaidErr
import Derived.Stop.Joined
import Derived.SevenTiedAt
set_option linter.unusedVariables false
set_option linter.unusedSimpArgs false
namespace Go.Proofs.YtbeoijlggphklaaGreatDoor
open Go.Abs Go.RowKit Go.ChangeShapes Go.WideShapes
set_option maxHeartbeats 8000000 in
theorem FnRolls : Rows.FnRollsCardSaid :=
  Claim7.holds_tied_plain_at .later [] [.data, .data, .data, .data, .pinned] true (true, "02e8c4503b3b3d2ff542d182daab8c62c78fd0ec27e306f558df4664549c3adc") false
    FnRolls_row (fun _ h => by cases h) (by as_aux_lemma => kernel_rfl) (fun _ h => by cases h) fnRolls_row_tie rfl ⟨rfl, rfl⟩ (by as_aux_lemma => kernel_rfl) rfl
    (fun f fn hf hfn => by
      obtain rfl : f = 8 := Option.some.inj ((show Tryz.prog.funcNamed "loop.example/g00884/laws.FnRolls" = some 8 by as_aux_lemma => kernel_rfl).symm.trans hf) |>.symm
      obtain rfl : fn = Tryz.f8 := (Option.some.inj (Tryz.func8.symm.trans hfn)).symm
      exact ⟨by as_aux_lemma => kernel_rfl, fun j t ht => by
        rw [Tryz.params8] at ht
        have hm : t ∈ [82] := by simpa using Array.mem_of_getElem? ht
        have hall : ([82].all fun u => !Tryz.prog.wantsStandIn u) = true := by as_aux_lemma => kernel_rfl
        exact (show Tryz.prog.wantsStandIn t = false by simpa using List.all_eq_true.1 hall t hm)⟩)
    (by as_aux_lemma => kernel_rfl)
end Go.Proofs.YtbeoijlggphklaaGreatDoor
