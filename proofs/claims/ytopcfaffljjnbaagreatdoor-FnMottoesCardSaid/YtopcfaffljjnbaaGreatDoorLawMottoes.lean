/- The law function FnMottoes returns true for all arguments: the program and the reference agree. -/
import Derived.Test.YtopcfaffljjnbaaGreatDoorWFnMottoes
import Derived.Test.YtopcfaffljjnbaaGreatDoorAbs5
import Derived.Test.YtopcfaffljjnbaaGreatDoorRows
import Derived.Test.YtopcfaffljjnbaaGreatDoorCards
import Derived.Test.YtopcfaffljjnbaaGreatDoorTie
import Derived.LaidMore
import Derived.LaidHandle
import Derived.Stop.LaidErr
import Derived.Stop.Joined
import Derived.SevenTiedAt
set_option linter.unusedVariables false
set_option linter.unusedSimpArgs false
namespace Go.Proofs.YtopcfaffljjnbaaGreatDoor
open Go.Abs Go.RowKit Go.ChangeShapes Go.WideShapes
theorem own : ownKnob Tryz.prog.godebug = none := by kernel_rfl
theorem laidOut : laidOutB Tryz.prog = true := by kernel_rfl
theorem rd5 : Reads Tryz.prog 5 false 1 (fun v => ∃ b : UInt8, v = Y b) := Reads.byte Tryz.underlying5
theorem cells5 : Tryz.prog.cellsOf 5 = 1 := by kernel_rfl
theorem rd22 : Reads Tryz.prog 22 false 1 (fun v => ∃ l : List UInt8, v = V.ro 1 (l.map Y)) :=
  (Reads.slice Tryz.underlying22 cells5 (by decide) rd5).imp fun v hv => rows_of (fun e he => he) hv
/-- The cells of the table that the form pins. -/
def firstCells : Array Value := (Pinned.utf8FirstZ.map fun n : Nat => Value.int .u8 (Int.ofNat n)).toArray
/-- The memory that the initialisers lay, with this table. -/
noncomputable def doorW (os : Os) : World := { World.doorLaid Tryz.prog 19 os with heap := (World.doorLaid Tryz.prog 19 os).heap.modify 1 fun | .cells _ ty fr => .cells firstCells ty fr | o => o }
/-- What the rows list. -/
def laidL : List (String × DataW Unit) := [("unicode/utf8.acceptRanges", Rows.laid_unicode_utf8_acceptRanges), ("unicode/utf8.first", Rows.laid_unicode_utf8_first)]
theorem door_met (os : Os) (args : Array Value) : laidMetH Tryz.prog laidL ((doorW os).forCall (fun _ _ => 0) ⟨#[], args, []⟩).memory :=
  laidMetH_of_parts3 (fuel := 8) (laidMet_of_run' 8 (by kernel_rfl) (by kernel_rfl)) (by kernel_rfl) (by kernel_rfl)
set_option maxRecDepth 100000 in
theorem lifted (os : Os) (started : os.Started) (H : Type) (enc : TypeId × Value → H) :
    ReturnsInHanded {} Tryz.checked os 3 .any (fun w args => (Rows.fnMottoesSpec.pre enc Tryz.prog Tryz.f3 [] false w args ∧ laidMetH Tryz.prog laidL w) ∧ sizedMet enc Tryz.prog Tryz.f3 (OpenSpec.ofChange Rows.fnMottoesSpec) false w args)
      (Rows.fnMottoesSpec.post enc Tryz.prog Tryz.f3 false true false false) := by
  refine returnsInHanded_of_change_and (C := Tryz.checked) (X := fun w _ => laidMetH Tryz.prog laidL w) (fun _ _ _ hh h => h.of_heap hh) own started (by kernel_rfl) Tryz.func3
    (ChangeSpec.witness_shaped (enc := enc) (C := Tryz.checked) (os := os) (X := fun w _ => laidMetH Tryz.prog laidL w) false (doorW os) #[.slice none 0 0] 8 rfl (World.shaped_of_RefB (by kernel_rfl) (by kernel_rfl)) (by kernel_rfl) (by kernel_rfl) (by kernel_rfl) (door_met os _)) ?_
  intro W base args ds gs before hval hW _ _ hL _
  have hL' : laidMet Tryz.prog laidL W := by rw [MakeChecks.laidMetH_plain _ _ _ (by kernel_rfl)] at hL; exact hL
  have hp : Params Tryz.prog Tryz.f3.params.toList [(false, 1, (fun v => ∃ l : List UInt8, v = V.ro 1 (l.map Y)))] := by
    rw [Tryz.params3]
    exact ⟨⟨rd22, ⟨by kernel_rfl, of_decide_eq_true (by kernel_rfl)⟩, by rw [Tryz.underlying22]⟩, trivial⟩
  refine law_calls (P := Tryz.prog) (f := 3) (tb := 4) (s := Rows.fnMottoesSpec) (small := fun _ => True) laidOut rfl ?_ rfl Tryz.underlying4 hp ?_ H enc W base args ds gs before hval hW trivial trivial
  · intro H ds0 hd
    cases ds0 with
    | nil => cases hd
    | cons d0 ds1 =>
      cases ds1 with
      | nil => rfl
      | cons _ _ => cases hd
  · intro vs h0 _
    obtain ⟨_, _, rfl, ⟨x0, rfl⟩, h1⟩ := h0.cons
    obtain rfl := h1.nil
    exact w_FnMottoes x0

theorem FnMottoes_row : Rows.FnMottoesSaid :=
  OpenClaim.holds_of_wide 3 Tryz.f3 rfl rfl rfl rfl rfl rfl rfl ⟨rfl, rfl, rfl, rfl, rfl⟩ rfl rfl rfl rfl rfl (by kernel_rfl) Tryz.func3 (by kernel_rfl)
    (of_decide_eq_true (by kernel_rfl)) (by unfold Func.isWrapper; first | (rw [if_pos (by decide +kernel)]; kernel_rfl) | (rw [if_neg (by decide +kernel)]; exact ⟨rfl, rfl⟩))
    (fun os started H enc _ => lifted os started H enc)

theorem FnMottoes : Rows.FnMottoesCardSaid :=
  Claim7.holds_tied_plain_at .later [] [.data, .pinned] true (true, "345d7e2e3c2307144573ab934f1bb638114a7f9a68a6d6b36c37f19375068d1e") false
    FnMottoes_row (fun _ h => by cases h) (by kernel_rfl) (fun _ h => by cases h) fnMottoes_row_tie rfl ⟨rfl, rfl⟩ (by kernel_rfl) rfl
    (fun f fn hf hfn => by
      obtain rfl : f = 3 := Option.some.inj ((show Tryz.prog.funcNamed "loop.example/g00884/laws.FnMottoes" = some 3 by kernel_rfl).symm.trans hf) |>.symm
      obtain rfl : fn = Tryz.f3 := (Option.some.inj (Tryz.func3.symm.trans hfn)).symm
      exact ⟨by kernel_rfl, fun j t ht => by
        rw [Tryz.params3] at ht
        have hm : t ∈ [22] := by simpa using Array.mem_of_getElem? ht
        have hall : ([22].all fun u => !Tryz.prog.wantsStandIn u) = true := by kernel_rfl
        exact (show Tryz.prog.wantsStandIn t = false by simpa using List.all_eq_true.1 hall t hm)⟩)
    (by kernel_rfl)
end Go.Proofs.YtopcfaffljjnbaaGreatDoor
