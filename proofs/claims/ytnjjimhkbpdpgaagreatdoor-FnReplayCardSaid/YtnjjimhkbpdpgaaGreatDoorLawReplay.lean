/- The law function FnReplay returns true for all arguments: the program and the reference agree. -/
import Derived.Test.YtnjjimhkbpdpgaaGreatDoorRowReplay
import Derived.Test.YtnjjimhkbpdpgaaGreatDoorRows
import Derived.Test.YtnjjimhkbpdpgaaGreatDoorCards
import Derived.Test.YtnjjimhkbpdpgaaGreatDoorTie
import Derived.LaidMore
import Derived.LaidHandle
import Derived.Stop.LaidErr
import Derived.Stop.Joined
import Derived.SevenTiedAt
import Derived.HandedShaped
import Derived.Shelf.Vars
import Derived.Stop.JoinedAt
namespace Go.Proofs.YtnjjimhkbpdpgaaGreatDoor
open Go.Abs Go.RowKit Go.ChangeShapes Go.WideShapes
set_option maxHeartbeats 8000000 in
theorem FnReplay:Rows.FnReplayCardSaid :=
 Claim7.holds_tied_plain_at .later [] [.data,.data,.data,.data,.sentinel,.sentinel,.pinned] true (true,"98ea128921be3361768772231e02a4aad1c324b8693d254a2bf2b9fffad92917") true
  FnReplay_row (fun _ h=>by cases h) (by as_aux_lemma=>kernel_rfl) (fun _ h=>by cases h) fnReplay_row_tie rfl ⟨rfl,rfl⟩ (by as_aux_lemma=>kernel_rfl) rfl
  (fun f fn hf hfn=>by
   obtain rfl:f=5:=Option.some.inj ((show Tryz.prog.funcNamed "loop.example/g00884/laws.FnReplay"=some 5 by as_aux_lemma=>kernel_rfl).symm.trans hf) |>.symm
   obtain rfl:fn=Tryz.f5:=(Option.some.inj (Tryz.func5.symm.trans hfn)).symm
   exact⟨by as_aux_lemma=>kernel_rfl,fun j t ht=>by
    rw[Tryz.params5] at ht
    have hm:t ∈ [42]:=by simpa using Array.mem_of_getElem? ht
    have hall:([42].all fun u=>!Tryz.prog.wantsStandIn u)=true:=by as_aux_lemma=>kernel_rfl
    exact(show Tryz.prog.wantsStandIn t=false by simpa using List.all_eq_true.1 hall t hm)⟩)
  (by as_aux_lemma=>kernel_rfl)
end Go.Proofs.YtnjjimhkbpdpgaaGreatDoor
