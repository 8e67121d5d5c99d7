/- The law function FnRollTexts returns true for all arguments: the program and the reference agree. -/
import Derived.Test.YtjkogbgbienloaaGreatDoorRowRollTexts
import Derived.Test.YtjkogbgbienloaaGreatDoorRows
import Derived.Test.YtjkogbgbienloaaGreatDoorCards
import Derived.Test.YtjkogbgbienloaaGreatDoorTie
import Derived.LaidMore
import Derived.LaidHandle
import Derived.Stop.LaidErr
import Derived.Stop.Joined
import Derived.SevenTiedAt
namespace Go.Proofs.YtjkogbgbienloaaGreatDoor
open Go.Abs Go.RowKit Go.ChangeShapes Go.WideShapes
set_option maxHeartbeats 8000000 in
theorem FnRollTexts:Rows.FnRollTextsCardSaid :=
 Claim7.holds_tied_plain_at .later [] [.data,.data,.data,.data,.pinned] true (true,"432604848961a09acfe6a9b45db7962b52ab790e922b7f62988774a432d4f770") false
  FnRollTexts_row (fun _ h=>by cases h) (by as_aux_lemma=>kernel_rfl) (fun _ h=>by cases h) fnRollTexts_row_tie rfl ⟨rfl,rfl⟩ (by as_aux_lemma=>kernel_rfl) rfl
  (fun f fn hf hfn=>by
   obtain rfl:f=4:=Option.some.inj ((show Tryz.prog.funcNamed "loop.example/g00884/laws.FnRollTexts"=some 4 by as_aux_lemma=>kernel_rfl).symm.trans hf) |>.symm
   obtain rfl:fn=Tryz.f4:=(Option.some.inj (Tryz.func4.symm.trans hfn)).symm
   exact⟨by as_aux_lemma=>kernel_rfl,fun j t ht=>by
    rw[Tryz.params4] at ht
    have hm:t ∈ [42]:=by simpa using Array.mem_of_getElem? ht
    have hall:([42].all fun u=>!Tryz.prog.wantsStandIn u)=true:=by as_aux_lemma=>kernel_rfl
    exact(show Tryz.prog.wantsStandIn t=false by simpa using List.all_eq_true.1 hall t hm)⟩)
  (by as_aux_lemma=>kernel_rfl)
end Go.Proofs.YtjkogbgbienloaaGreatDoor
