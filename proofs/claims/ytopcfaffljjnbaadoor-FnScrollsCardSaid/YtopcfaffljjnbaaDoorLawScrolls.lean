/- The law function FnScrolls returns true for all arguments: the program and the reference agree. -/
import Derived.Test.YtopcfaffljjnbaaDoorWFnScrolls
import Derived.Test.YtopcfaffljjnbaaDoorAbs5
import Derived.Test.YtopcfaffljjnbaaDoorRows
import Derived.Test.YtopcfaffljjnbaaDoorCards
import Derived.Test.YtopcfaffljjnbaaDoorTie
import Derived.LaidMore
import Derived.LaidHandle
import Derived.Stop.LaidErr
import Derived.Stop.Joined
import Derived.SevenTiedAt
set_option linter.unusedVariables false
set_option linter.unusedSimpArgs false
namespace Go.Proofs.YtopcfaffljjnbaaDoor
open Go.Abs Go.RowKit Go.ChangeShapes Go.WideShapes
theorem own : ownKnob Tryd.prog.godebug = none := by kernel_rfl
theorem laidOut : laidOutB Tryd.prog = true := by kernel_rfl
theorem rd5 : Reads Tryd.prog 5 false 1 (fun v => ∃ b : UInt8, v = Y b) := Reads.byte Tryd.underlying5
theorem cells5 : Tryd.prog.cellsOf 5 = 1 := by kernel_rfl
theorem rd22 : Reads Tryd.prog 22 false 1 (fun v => ∃ l : List UInt8, v = V.ro 1 (l.map Y)) :=
  (Reads.slice Tryd.underlying22 cells5 (by decide) rd5).imp fun v hv => rows_of (fun e he => he) hv
/-- The cells of the table that the form pins. -/
def firstCells : Array Value := (Pinned.utf8FirstZ.map fun n : Nat => Value.int .u8 (Int.ofNat n)).toArray
/-- The memory that the initialisers lay, with this table. -/
noncomputable def doorW (os : Os) : World := { World.doorLaid Tryd.prog 19 os with heap := (World.doorLaid Tryd.prog 19 os).heap.modify 1 fun | .cells _ ty fr => .cells firstCells ty fr | o => o }
/-- What the rows list. -/
def laidL : List (String × DataW Unit) := [("unicode/utf8.acceptRanges", Rows.laid_unicode_utf8_acceptRanges), ("unicode/utf8.first", Rows.laid_unicode_utf8_first)]
theorem door_met (os : Os) (args : Array Value) : laidMetH Tryd.prog laidL ((doorW os).forCall (fun _ _ => 0) ⟨#[], args, []⟩).memory :=
  laidMetH_of_parts3 (fuel := 8) (laidMet_of_run' 8 (by kernel_rfl) (by kernel_rfl)) (by kernel_rfl) (by kernel_rfl)
set_option maxRecDepth 100000 in
theorem lifted (os : Os) (started : os.Started) (H : Type) (enc : TypeId × Value → H) :
    ReturnsInHanded {} Tryd.checked os 3 .any (fun w args => (Rows.fnScrollsSpec.pre enc Tryd.prog Tryd.f3 [] false w args ∧ laidMetH Tryd.prog laidL w) ∧ sizedMet enc Tryd.prog Tryd.f3 (OpenSpec.ofChange Rows.fnScrollsSpec) false w args)
      (Rows.fnScrollsSpec.post enc Tryd.prog Tryd.f3 false true false false) := by
  refine returnsInHanded_of_change_and (C := Tryd.checked) (X := fun w _ => laidMetH Tryd.prog laidL w) (fun _ _ _ hh h => h.of_heap hh) own started (by kernel_rfl) Tryd.func3
    (ChangeSpec.witness_shaped (enc := enc) (C := Tryd.checked) (os := os) (X := fun w _ => laidMetH Tryd.prog laidL w) false (doorW os) #[.slice none 0 0] 8 rfl (World.shaped_of_RefB (by kernel_rfl) (by kernel_rfl)) (by kernel_rfl) (by kernel_rfl) (by kernel_rfl) (door_met os _)) ?_
  intro W base args ds gs before hval hW _ _ hL _
  have hL' : laidMet Tryd.prog laidL W := by rw [MakeChecks.laidMetH_plain _ _ _ (by kernel_rfl)] at hL; exact hL
  have hp : Params Tryd.prog Tryd.f3.params.toList [(false, 1, (fun v => ∃ l : List UInt8, v = V.ro 1 (l.map Y)))] := by
    rw [Tryd.params3]
    exact ⟨⟨rd22, ⟨by kernel_rfl, of_decide_eq_true (by kernel_rfl)⟩, by rw [Tryd.underlying22]⟩, trivial⟩
  refine law_calls (P := Tryd.prog) (f := 3) (tb := 4) (s := Rows.fnScrollsSpec) (small := fun _ => True) laidOut rfl ?_ rfl Tryd.underlying4 hp ?_ H enc W base args ds gs before hval hW trivial trivial
  · intro H ds0 hd
    cases ds0 with
    | nil => cases hd
    | cons d0 ds1 =>
      cases ds1 with
      | nil => rfl
      | cons _ _ => cases hd
  · intro vs h0 _
    obtain ⟨_, _, rfl, ⟨x0, rfl⟩, h1⟩ := h0.cons
    obtain rfl := h1.nil
    exact w_FnScrolls x0

theorem FnScrolls_row : Rows.FnScrollsSaid :=
  OpenClaim.holds_of_wide 3 Tryd.f3 rfl rfl rfl rfl rfl rfl rfl ⟨rfl, rfl, rfl, rfl, rfl⟩ rfl rfl rfl rfl rfl (by kernel_rfl) Tryd.func3 (by kernel_rfl)
    (of_decide_eq_true (by kernel_rfl)) (by unfold Func.isWrapper; first | (rw [if_pos (by decide +kernel)]; kernel_rfl) | (rw [if_neg (by decide +kernel)]; exact ⟨rfl, rfl⟩))
    (fun os started H enc _ => lifted os started H enc)

theorem FnScrolls : Rows.FnScrollsCardSaid :=
  Claim7.holds_tied_plain_at .later [] [.data, .pinned] true (true, "12626d4388ab60da25a8a9f2fc5f0b079c92e527e543084d3a922932bc6a989c") false
    FnScrolls_row (fun _ h => by cases h) (by kernel_rfl) (fun _ h => by cases h) fnScrolls_row_tie rfl ⟨rfl, rfl⟩ (by kernel_rfl) rfl
    (fun f fn hf hfn => by
      obtain rfl : f = 3 := Option.some.inj ((show Tryd.prog.funcNamed "loop.example/g00884/laws.FnScrolls" = some 3 by kernel_rfl).symm.trans hf) |>.symm
      obtain rfl : fn = Tryd.f3 := (Option.some.inj (Tryd.func3.symm.trans hfn)).symm
      exact ⟨by kernel_rfl, fun j t ht => by
        rw [Tryd.params3] at ht
        have hm : t ∈ [22] := by simpa using Array.mem_of_getElem? ht
        have hall : ([22].all fun u => !Tryd.prog.wantsStandIn u) = true := by kernel_rfl
        exact (show Tryd.prog.wantsStandIn t = false by simpa using List.all_eq_true.1 hall t hm)⟩)
    (by kernel_rfl)
end Go.Proofs.YtopcfaffljjnbaaDoor
