/- The law function FnExactRollPages returns true for all arguments: the program and the reference agree. -/
import Derived.Test.YtbeoijlggphklaaGreatDoorQ3
import Derived.Test.YtbeoijlggphklaaGreatDoorAbs5
import Derived.Test.YtbeoijlggphklaaGreatDoorRows
import Derived.Test.YtbeoijlggphklaaGreatDoorCards
import Derived.Test.YtbeoijlggphklaaGreatDoorTie
import Derived.LaidMore
import Derived.LaidHandle
import Derived.Stop.LaidErr
import Derived.Stop.Joined
import Derived.SevenTiedAt
set_option linter.unusedVariables false
set_option linter.unusedSimpArgs false
namespace Go.Proofs.YtbeoijlggphklaaGreatDoor
open Go.Abs Go.RowKit Go.ChangeShapes Go.WideShapes
theorem own : ownKnob Tryz.prog.godebug = none := by kernel_rfl
theorem laidOut : laidOutB Tryz.prog = true := by kernel_rfl
theorem rd3 : Reads Tryz.prog 3 false 1 (fun v => ∃ n : Int, v = I n ∧ (Lit.int .i64 n).wf = true) := Reads.int Tryz.underlying3
theorem rd9 : Reads Tryz.prog 9 false 1 (fun v => ∃ b : List UInt8, v = S b ∧ b.length ≤ maxLen) := Reads.str Tryz.underlying9
theorem cells3 : Tryz.prog.cellsOf 3 = 1 := by kernel_rfl
theorem cells23 : Tryz.prog.cellsOf 23 = 4 := by kernel_rfl
theorem rd23 : Reads Tryz.prog 23 true 4 (fun v => ∃ x : Field, v = eField x) := by
  have h : Reads Tryz.prog 23 true 4 (fun v => ∃ vs, Each [(false, 1, (fun v => ∃ n : Int, v = I n ∧ (Lit.int .i64 n).wf = true)), (false, 1, (fun v => ∃ n : Int, v = I n ∧ (Lit.int .i64 n).wf = true)), (false, 1, (fun v => ∃ n : Int, v = I n ∧ (Lit.int .i64 n).wf = true)), (false, 1, (fun v => ∃ n : Int, v = I n ∧ (Lit.int .i64 n).wf = true))] vs ∧ v = .agg (vs.flatMap cellsV)) :=
    Reads.struct Tryz.underlying23 ⟨rfl, cells3, rd3, rfl, cells3, rd3, rfl, cells3, rd3, rfl, cells3, rd3, trivial⟩ rfl cells23
  refine h.imp fun v hv => ?_
  obtain ⟨vs, h0, rfl⟩ := hv
  obtain ⟨_, _, rfl, ⟨x0, rfl, _⟩, h1⟩ := h0.cons
  obtain ⟨_, _, rfl, ⟨x1, rfl, _⟩, h2⟩ := h1.cons
  obtain ⟨_, _, rfl, ⟨x2, rfl, _⟩, h3⟩ := h2.cons
  obtain ⟨_, _, rfl, ⟨x3, rfl, _⟩, h4⟩ := h3.cons
  obtain rfl := h4.nil
  exact ⟨⟨x0, x1, x2, x3⟩, rfl⟩
theorem cells25 : Tryz.prog.cellsOf 25 = 4 := by kernel_rfl
theorem rd25 : Reads Tryz.prog 25 true 4 (fun v => ∃ x : Group, v = eGroup x) := by
  have h : Reads Tryz.prog 25 true 4 (fun v => ∃ vs, Each [(false, 1, (fun v => ∃ n : Int, v = I n ∧ (Lit.int .i64 n).wf = true)), (false, 1, (fun v => ∃ n : Int, v = I n ∧ (Lit.int .i64 n).wf = true)), (false, 1, (fun v => ∃ n : Int, v = I n ∧ (Lit.int .i64 n).wf = true)), (false, 1, (fun v => ∃ n : Int, v = I n ∧ (Lit.int .i64 n).wf = true))] vs ∧ v = .agg (vs.flatMap cellsV)) :=
    Reads.struct Tryz.underlying25 ⟨rfl, cells3, rd3, rfl, cells3, rd3, rfl, cells3, rd3, rfl, cells3, rd3, trivial⟩ rfl cells25
  refine h.imp fun v hv => ?_
  obtain ⟨vs, h0, rfl⟩ := hv
  obtain ⟨_, _, rfl, ⟨x0, rfl, _⟩, h1⟩ := h0.cons
  obtain ⟨_, _, rfl, ⟨x1, rfl, _⟩, h2⟩ := h1.cons
  obtain ⟨_, _, rfl, ⟨x2, rfl, _⟩, h3⟩ := h2.cons
  obtain ⟨_, _, rfl, ⟨x3, rfl, _⟩, h4⟩ := h3.cons
  obtain rfl := h4.nil
  exact ⟨⟨x0, x1, x2, x3⟩, rfl⟩
theorem cells27 : Tryz.prog.cellsOf 27 = 15 := by kernel_rfl
theorem rd27 : Reads Tryz.prog 27 true 15 (fun v => ∃ x : Arms, v = eArms x) := by
  have h : Reads Tryz.prog 27 true 15 (fun v => ∃ vs, Each [(true, 4, (fun v => ∃ x : Field, v = eField x)), (false, 1, (fun v => ∃ n : Int, v = I n ∧ (Lit.int .i64 n).wf = true)), (false, 1, (fun v => ∃ n : Int, v = I n ∧ (Lit.int .i64 n).wf = true)), (false, 1, (fun v => ∃ n : Int, v = I n ∧ (Lit.int .i64 n).wf = true)), (true, 4, (fun v => ∃ x : Group, v = eGroup x)), (true, 4, (fun v => ∃ x : Group, v = eGroup x))] vs ∧ v = .agg (vs.flatMap cellsV)) :=
    Reads.struct Tryz.underlying27 ⟨rfl, cells23, rd23, rfl, cells3, rd3, rfl, cells3, rd3, rfl, cells3, rd3, rfl, cells25, rd25, rfl, cells25, rd25, trivial⟩ rfl cells27
  refine h.imp fun v hv => ?_
  obtain ⟨vs, h0, rfl⟩ := hv
  obtain ⟨_, _, rfl, ⟨x0, rfl⟩, h1⟩ := h0.cons
  obtain ⟨_, _, rfl, ⟨x1, rfl, _⟩, h2⟩ := h1.cons
  obtain ⟨_, _, rfl, ⟨x2, rfl, _⟩, h3⟩ := h2.cons
  obtain ⟨_, _, rfl, ⟨x3, rfl, _⟩, h4⟩ := h3.cons
  obtain ⟨_, _, rfl, ⟨x4, rfl⟩, h5⟩ := h4.cons
  obtain ⟨_, _, rfl, ⟨x5, rfl⟩, h6⟩ := h5.cons
  obtain rfl := h6.nil
  exact ⟨⟨x0, x1, x2, x3, x4, x5⟩, rfl⟩
theorem cells9 : Tryz.prog.cellsOf 9 = 1 := by kernel_rfl
theorem cells29 : Tryz.prog.cellsOf 29 = 18 := by kernel_rfl
theorem rd29 : Reads Tryz.prog 29 true 18 (fun v => ∃ x : Grant, v = eGrant x) := by
  have h : Reads Tryz.prog 29 true 18 (fun v => ∃ vs, Each [(false, 1, (fun v => ∃ n : Int, v = I n ∧ (Lit.int .i64 n).wf = true)), (false, 1, (fun v => ∃ b : List UInt8, v = S b ∧ b.length ≤ maxLen)), (false, 1, (fun v => ∃ n : Int, v = I n ∧ (Lit.int .i64 n).wf = true)), (true, 15, (fun v => ∃ x : Arms, v = eArms x))] vs ∧ v = .agg (vs.flatMap cellsV)) :=
    Reads.struct Tryz.underlying29 ⟨rfl, cells3, rd3, rfl, cells9, rd9, rfl, cells3, rd3, rfl, cells27, rd27, trivial⟩ rfl cells29
  refine h.imp fun v hv => ?_
  obtain ⟨vs, h0, rfl⟩ := hv
  obtain ⟨_, _, rfl, ⟨x0, rfl, _⟩, h1⟩ := h0.cons
  obtain ⟨_, _, rfl, ⟨x1, rfl, _⟩, h2⟩ := h1.cons
  obtain ⟨_, _, rfl, ⟨x2, rfl, _⟩, h3⟩ := h2.cons
  obtain ⟨_, _, rfl, ⟨x3, rfl⟩, h4⟩ := h3.cons
  obtain rfl := h4.nil
  exact ⟨⟨x0, x1, x2, x3⟩, rfl⟩
theorem rd44 : Reads Tryz.prog 44 false 1 (fun v => ∃ l : List Grant, v = V.ro 18 (l.map eGrant)) :=
  (Reads.slice Tryz.underlying44 cells29 (by decide) rd29).imp fun v hv => rows_of (fun e he => he) hv
theorem cells44 : Tryz.prog.cellsOf 44 = 1 := by kernel_rfl
theorem cells46 : Tryz.prog.cellsOf 46 = 1 := by kernel_rfl
theorem rd46 : Reads Tryz.prog 46 true 1 (fun v => ∃ x : Register, v = eRegister x) := by
  have h : Reads Tryz.prog 46 true 1 (fun v => ∃ vs, Each [(false, 1, (fun v => ∃ l : List Grant, v = V.ro 18 (l.map eGrant)))] vs ∧ v = .agg (vs.flatMap cellsV)) :=
    Reads.struct Tryz.underlying46 ⟨rfl, cells44, rd44, trivial⟩ rfl cells46
  refine h.imp fun v hv => ?_
  obtain ⟨vs, h0, rfl⟩ := hv
  obtain ⟨_, _, rfl, ⟨x0, rfl⟩, h1⟩ := h0.cons
  obtain rfl := h1.nil
  exact ⟨x0, rfl⟩
theorem cells64 : Tryz.prog.cellsOf 64 = 3 := by kernel_rfl
theorem rd64 : Reads Tryz.prog 64 true 3 (fun v => ∃ x : Roll, v = eRoll x) := by
  have h : Reads Tryz.prog 64 true 3 (fun v => ∃ vs, Each [(false, 1, (fun v => ∃ n : Int, v = I n ∧ (Lit.int .i64 n).wf = true)), (false, 1, (fun v => ∃ n : Int, v = I n ∧ (Lit.int .i64 n).wf = true)), (false, 1, (fun v => ∃ n : Int, v = I n ∧ (Lit.int .i64 n).wf = true))] vs ∧ v = .agg (vs.flatMap cellsV)) :=
    Reads.struct Tryz.underlying64 ⟨rfl, cells3, rd3, rfl, cells3, rd3, rfl, cells3, rd3, trivial⟩ rfl cells64
  refine h.imp fun v hv => ?_
  obtain ⟨vs, h0, rfl⟩ := hv
  obtain ⟨_, _, rfl, ⟨x0, rfl, _⟩, h1⟩ := h0.cons
  obtain ⟨_, _, rfl, ⟨x1, rfl, _⟩, h2⟩ := h1.cons
  obtain ⟨_, _, rfl, ⟨x2, rfl, _⟩, h3⟩ := h2.cons
  obtain rfl := h3.nil
  exact ⟨⟨x0, x1, x2⟩, rfl⟩
/-- The cells of the table that the form pins. -/
def firstCells : Array Value := (Pinned.utf8FirstZ.map fun n : Nat => Value.int .u8 (Int.ofNat n)).toArray
/-- The memory that the initialisers lay, with this table. -/
noncomputable def doorW (os : Os) : World := { World.doorLaid Tryz.prog 34 os with heap := (World.doorLaid Tryz.prog 34 os).heap.modify 4 fun | .cells _ ty fr => .cells firstCells ty fr | o => o }
/-- What the rows list. -/
def laidL : List (String × DataW Unit) := [("math/bits.deBruijn32tab", Rows.laid_math_bits_deBruijn32tab), ("math/bits.deBruijn64tab", Rows.laid_math_bits_deBruijn64tab), ("internal/strconv.uint64pow10", Rows.laid_internal_strconv_uint64pow10), ("unicode/utf8.acceptRanges", Rows.laid_unicode_utf8_acceptRanges), ("unicode/utf8.first", Rows.laid_unicode_utf8_first)]
theorem laid_pow : Rows.laid_internal_strconv_uint64pow10 (H := Unit) = Lib.tabData .u64 Lib.pow10Tab := by kernel_rfl
theorem pow_of_laid {W : World} (h : laidMet Tryz.prog laidL W) : GInv.holds W (Old W) := by
  have h' : laidMet Tryz.prog (("internal/strconv.uint64pow10", Lib.tabData .u64 Lib.pow10Tab) :: laidL.drop 3) W := by
    have h2 := (laidMet.tail (laidMet.tail h))
    rw [laid_pow] at h2; exact h2
  have ht : Lib.TabIs Tryz.prog W "internal/strconv.uint64pow10" .u64 Lib.pow10Tab := Lib.tabIs_of_head gPow (by kernel_rfl) Tryz.underlying244 Tryz.underlying118 (by kernel_rfl) (by kernel_rfl) h'
  refine ⟨ht, ?_⟩
  unfold Lib.TabIs World.var? at ht
  rw [gPow] at ht
  simp only [Option.bind_some] at ht
  show 1 < W.heap.size
  refine Classical.byContradiction fun hlt => ?_
  rw [Array.getElem?_eq_none (by omega)] at ht
  cases ht
theorem door_met (os : Os) (args : Array Value) : laidMetH Tryz.prog laidL ((doorW os).forCall (fun _ _ => 0) ⟨#[], args, []⟩).memory :=
  laidMetH_of_parts3 (fuel := 8) (laidMet_of_run' 8 (by kernel_rfl) (by kernel_rfl)) (by kernel_rfl) (by kernel_rfl)
set_option maxRecDepth 100000 in
theorem lifted (os : Os) (started : os.Started) (H : Type) (enc : TypeId × Value → H) :
    ReturnsInHanded {} Tryz.checked os 7 .any (fun w args => (Rows.fnExactRollPagesSpec.pre enc Tryz.prog Tryz.f7 [] false w args ∧ laidMetH Tryz.prog laidL w) ∧ sizedMet enc Tryz.prog Tryz.f7 (OpenSpec.ofChange Rows.fnExactRollPagesSpec) false w args)
      (Rows.fnExactRollPagesSpec.post enc Tryz.prog Tryz.f7 false true false false) := by
  refine returnsInHanded_of_change_and (C := Tryz.checked) (X := fun w _ => laidMetH Tryz.prog laidL w) (fun _ _ _ hh h => h.of_heap hh) own started (by kernel_rfl) Tryz.func7
    (ChangeSpec.witness_shaped (enc := enc) (C := Tryz.checked) (os := os) (X := fun w _ => laidMetH Tryz.prog laidL w) false (doorW os) #[.agg #[.slice none 0 0], .agg #[.int .i64 0, .int .i64 0, .int .i64 0]] 8 rfl (World.shaped_of_RefB (by kernel_rfl) (by kernel_rfl)) (by kernel_rfl) (by kernel_rfl) (by kernel_rfl) (door_met os _)) ?_
  intro W base args ds gs before hval hW _ _ hL _
  have hL' : laidMet Tryz.prog laidL W := by rw [MakeChecks.laidMetH_plain _ _ _ (by kernel_rfl)] at hL; exact hL
  have hp : Params Tryz.prog Tryz.f7.params.toList [(true, 1, (fun v => ∃ x : Register, v = eRegister x)), (true, 3, (fun v => ∃ x : Roll, v = eRoll x))] := by
    rw [Tryz.params7]
    exact ⟨⟨rd46, ⟨by kernel_rfl, of_decide_eq_true (by kernel_rfl)⟩, by rw [Tryz.underlying46]⟩, ⟨rd64, ⟨by kernel_rfl, of_decide_eq_true (by kernel_rfl)⟩, by rw [Tryz.underlying64]⟩, trivial⟩
  refine law_calls (P := Tryz.prog) (f := 7) (tb := 4) (s := Rows.fnExactRollPagesSpec) (small := fun _ => True) laidOut rfl ?_ rfl Tryz.underlying4 hp ?_ H enc W base args ds gs before hval hW trivial (pow_of_laid hL')
  · intro H ds0 hd
    cases ds0 with
    | nil => cases hd
    | cons d0 ds1 =>
      cases ds1 with
      | nil => cases hd
      | cons d1 ds2 =>
        cases ds2 with
        | nil => rfl
        | cons _ _ => cases hd
  · intro vs h0 _
    obtain ⟨_, _, rfl, ⟨x0, rfl⟩, h1⟩ := h0.cons
    obtain ⟨_, _, rfl, ⟨x1, rfl⟩, h2⟩ := h1.cons
    obtain rfl := h2.nil
    exact w_FnExactRollPages x0 x1
end Go.Proofs.YtbeoijlggphklaaGreatDoor
