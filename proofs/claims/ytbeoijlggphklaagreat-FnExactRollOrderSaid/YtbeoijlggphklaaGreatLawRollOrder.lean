/- The law function FnExactRollOrder returns true for all arguments: the program and the reference agree. -/
import Derived.Test.YtbeoijlggphklaaGreatWRollOrder
import Derived.Test.YtbeoijlggphklaaGreatAbs5
import Derived.Test.YtbeoijlggphklaaGreatRows
set_option linter.unusedVariables false
set_option linter.unusedSimpArgs false
namespace Go.Proofs.YtbeoijlggphklaaGreat
open Go.Abs Go.RowKit
theorem own : ownKnob Tryz.prog.godebug = none := by kernel_rfl
theorem laidOut : laidOutB Tryz.prog = true := by kernel_rfl
theorem rd3 : Reads Tryz.prog 3 false 1 (fun v => ∃ n : Int, v = I n ∧ (Lit.int .i64 n).wf = true) := Reads.int Tryz.underlying3
theorem rd9 : Reads Tryz.prog 9 false 1 (fun v => ∃ b : List UInt8, v = S b ∧ b.length ≤ maxLen) := Reads.str Tryz.underlying9
theorem cells3 : Tryz.prog.cellsOf 3 = 1 := by kernel_rfl
theorem cells56 : Tryz.prog.cellsOf 56 = 4 := by kernel_rfl
theorem rd56 : Reads Tryz.prog 56 true 4 (fun v => ∃ x : Field, v = eField x) := by
  have h : Reads Tryz.prog 56 true 4 (fun v => ∃ vs, Each [(false, 1, (fun v => ∃ n : Int, v = I n ∧ (Lit.int .i64 n).wf = true)), (false, 1, (fun v => ∃ n : Int, v = I n ∧ (Lit.int .i64 n).wf = true)), (false, 1, (fun v => ∃ n : Int, v = I n ∧ (Lit.int .i64 n).wf = true)), (false, 1, (fun v => ∃ n : Int, v = I n ∧ (Lit.int .i64 n).wf = true))] vs ∧ v = .agg (vs.flatMap cellsV)) :=
    Reads.struct Tryz.underlying56 ⟨rfl, cells3, rd3, rfl, cells3, rd3, rfl, cells3, rd3, rfl, cells3, rd3, trivial⟩ rfl cells56
  refine h.imp fun v hv => ?_
  obtain ⟨vs, h0, rfl⟩ := hv
  obtain ⟨_, _, rfl, ⟨x0, rfl, _⟩, h1⟩ := h0.cons
  obtain ⟨_, _, rfl, ⟨x1, rfl, _⟩, h2⟩ := h1.cons
  obtain ⟨_, _, rfl, ⟨x2, rfl, _⟩, h3⟩ := h2.cons
  obtain ⟨_, _, rfl, ⟨x3, rfl, _⟩, h4⟩ := h3.cons
  obtain rfl := h4.nil
  exact ⟨⟨x0, x1, x2, x3⟩, rfl⟩
theorem cells57 : Tryz.prog.cellsOf 57 = 4 := by kernel_rfl
theorem rd57 : Reads Tryz.prog 57 true 4 (fun v => ∃ x : Group, v = eGroup x) := by
  have h : Reads Tryz.prog 57 true 4 (fun v => ∃ vs, Each [(false, 1, (fun v => ∃ n : Int, v = I n ∧ (Lit.int .i64 n).wf = true)), (false, 1, (fun v => ∃ n : Int, v = I n ∧ (Lit.int .i64 n).wf = true)), (false, 1, (fun v => ∃ n : Int, v = I n ∧ (Lit.int .i64 n).wf = true)), (false, 1, (fun v => ∃ n : Int, v = I n ∧ (Lit.int .i64 n).wf = true))] vs ∧ v = .agg (vs.flatMap cellsV)) :=
    Reads.struct Tryz.underlying57 ⟨rfl, cells3, rd3, rfl, cells3, rd3, rfl, cells3, rd3, rfl, cells3, rd3, trivial⟩ rfl cells57
  refine h.imp fun v hv => ?_
  obtain ⟨vs, h0, rfl⟩ := hv
  obtain ⟨_, _, rfl, ⟨x0, rfl, _⟩, h1⟩ := h0.cons
  obtain ⟨_, _, rfl, ⟨x1, rfl, _⟩, h2⟩ := h1.cons
  obtain ⟨_, _, rfl, ⟨x2, rfl, _⟩, h3⟩ := h2.cons
  obtain ⟨_, _, rfl, ⟨x3, rfl, _⟩, h4⟩ := h3.cons
  obtain rfl := h4.nil
  exact ⟨⟨x0, x1, x2, x3⟩, rfl⟩
theorem cells59 : Tryz.prog.cellsOf 59 = 15 := by kernel_rfl
theorem rd59 : Reads Tryz.prog 59 true 15 (fun v => ∃ x : Arms, v = eArms x) := by
  have h : Reads Tryz.prog 59 true 15 (fun v => ∃ vs, Each [(true, 4, (fun v => ∃ x : Field, v = eField x)), (false, 1, (fun v => ∃ n : Int, v = I n ∧ (Lit.int .i64 n).wf = true)), (false, 1, (fun v => ∃ n : Int, v = I n ∧ (Lit.int .i64 n).wf = true)), (false, 1, (fun v => ∃ n : Int, v = I n ∧ (Lit.int .i64 n).wf = true)), (true, 4, (fun v => ∃ x : Group, v = eGroup x)), (true, 4, (fun v => ∃ x : Group, v = eGroup x))] vs ∧ v = .agg (vs.flatMap cellsV)) :=
    Reads.struct Tryz.underlying59 ⟨rfl, cells56, rd56, rfl, cells3, rd3, rfl, cells3, rd3, rfl, cells3, rd3, rfl, cells57, rd57, rfl, cells57, rd57, trivial⟩ rfl cells59
  refine h.imp fun v hv => ?_
  obtain ⟨vs, h0, rfl⟩ := hv
  obtain ⟨_, _, rfl, ⟨x0, rfl⟩, h1⟩ := h0.cons
  obtain ⟨_, _, rfl, ⟨x1, rfl, _⟩, h2⟩ := h1.cons
  obtain ⟨_, _, rfl, ⟨x2, rfl, _⟩, h3⟩ := h2.cons
  obtain ⟨_, _, rfl, ⟨x3, rfl, _⟩, h4⟩ := h3.cons
  obtain ⟨_, _, rfl, ⟨x4, rfl⟩, h5⟩ := h4.cons
  obtain ⟨_, _, rfl, ⟨x5, rfl⟩, h6⟩ := h5.cons
  obtain rfl := h6.nil
  exact ⟨⟨x0, x1, x2, x3, x4, x5⟩, rfl⟩
theorem cells9 : Tryz.prog.cellsOf 9 = 1 := by kernel_rfl
theorem cells61 : Tryz.prog.cellsOf 61 = 18 := by kernel_rfl
theorem rd61 : Reads Tryz.prog 61 true 18 (fun v => ∃ x : Grant, v = eGrant x) := by
  have h : Reads Tryz.prog 61 true 18 (fun v => ∃ vs, Each [(false, 1, (fun v => ∃ n : Int, v = I n ∧ (Lit.int .i64 n).wf = true)), (false, 1, (fun v => ∃ b : List UInt8, v = S b ∧ b.length ≤ maxLen)), (false, 1, (fun v => ∃ n : Int, v = I n ∧ (Lit.int .i64 n).wf = true)), (true, 15, (fun v => ∃ x : Arms, v = eArms x))] vs ∧ v = .agg (vs.flatMap cellsV)) :=
    Reads.struct Tryz.underlying61 ⟨rfl, cells3, rd3, rfl, cells9, rd9, rfl, cells3, rd3, rfl, cells59, rd59, trivial⟩ rfl cells61
  refine h.imp fun v hv => ?_
  obtain ⟨vs, h0, rfl⟩ := hv
  obtain ⟨_, _, rfl, ⟨x0, rfl, _⟩, h1⟩ := h0.cons
  obtain ⟨_, _, rfl, ⟨x1, rfl, _⟩, h2⟩ := h1.cons
  obtain ⟨_, _, rfl, ⟨x2, rfl, _⟩, h3⟩ := h2.cons
  obtain ⟨_, _, rfl, ⟨x3, rfl⟩, h4⟩ := h3.cons
  obtain rfl := h4.nil
  exact ⟨⟨x0, x1, x2, x3⟩, rfl⟩
theorem rd22 : Reads Tryz.prog 22 false 1 (fun v => ∃ l : List Grant, v = V.ro 18 (l.map eGrant)) :=
  (Reads.slice Tryz.underlying22 cells61 (by decide) rd61).imp fun v hv => rows_of (fun e he => he) hv
theorem cells22 : Tryz.prog.cellsOf 22 = 1 := by kernel_rfl
theorem cells24 : Tryz.prog.cellsOf 24 = 1 := by kernel_rfl
theorem rd24 : Reads Tryz.prog 24 true 1 (fun v => ∃ x : Register, v = eRegister x) := by
  have h : Reads Tryz.prog 24 true 1 (fun v => ∃ vs, Each [(false, 1, (fun v => ∃ l : List Grant, v = V.ro 18 (l.map eGrant)))] vs ∧ v = .agg (vs.flatMap cellsV)) :=
    Reads.struct Tryz.underlying24 ⟨rfl, cells22, rd22, trivial⟩ rfl cells24
  refine h.imp fun v hv => ?_
  obtain ⟨vs, h0, rfl⟩ := hv
  obtain ⟨_, _, rfl, ⟨x0, rfl⟩, h1⟩ := h0.cons
  obtain rfl := h1.nil
  exact ⟨x0, rfl⟩
set_option maxRecDepth 100000 in
theorem lifted (os : Os) (started : os.Started) (H : Type) (enc : TypeId × Value → H) :
    ReturnsInHanded {} Tryz.checked os 3 .any (Rows.fnExactRollOrderSpec.pre6 enc Tryz.prog Tryz.f3 Rows.fnExactRollOrderRow.domain false) (Rows.fnExactRollOrderSpec.post enc Tryz.prog Tryz.f3 false true false false) := by
  refine returnsInHanded_of_change (C := Tryz.checked) own started (by kernel_rfl) Tryz.func3
    (ChangeSpec.witness6 (enc := enc) (C := Tryz.checked) false ⟨#[], #[.agg #[.slice none 0 0], .int .i64 0], []⟩ 8 (by kernel_rfl) (by kernel_rfl) (by kernel_rfl) (by kernel_rfl)) ?_
  intro W base args ds gs before hval hW _ _
  have hp : Params Tryz.prog Tryz.f3.params.toList [(true, 1, (fun v => ∃ x : Register, v = eRegister x)), (false, 1, (fun v => ∃ n : Int, v = I n ∧ (Lit.int .i64 n).wf = true))] := by
    rw [Tryz.params3]
    exact ⟨⟨rd24, ⟨by kernel_rfl, of_decide_eq_true (by kernel_rfl)⟩, by rw [Tryz.underlying24]⟩, ⟨rd3, ⟨by kernel_rfl, of_decide_eq_true (by kernel_rfl)⟩, by rw [Tryz.underlying3]⟩, trivial⟩
  refine law_calls (P := Tryz.prog) (f := 3) (tb := 4) (s := Rows.fnExactRollOrderSpec) (small := fun _ => True) laidOut rfl ?_ rfl Tryz.underlying4 hp ?_ H enc W base args ds gs before hval hW trivial trivial
  · intro H ds0 hd
    cases ds0 with
    | nil => cases hd
    | cons d0 ds1 =>
      cases ds1 with
      | nil => cases hd
      | cons d1 ds2 =>
        cases ds2 with
        | nil => rfl
        | cons _ _ => cases hd
  · intro vs h0 _
    obtain ⟨_, _, rfl, ⟨x0, rfl⟩, h1⟩ := h0.cons
    obtain ⟨_, _, rfl, ⟨x1, rfl, h1w⟩, h2⟩ := h1.cons
    obtain rfl := h2.nil
    exact w_FnExactRollOrder x0 x1

theorem FnExactRollOrder : Rows.FnExactRollOrderSaid :=
  OpenClaim.holds_of_wide 3 Tryz.f3 rfl rfl rfl rfl rfl rfl rfl ⟨rfl, rfl, rfl, rfl, rfl⟩ rfl rfl rfl rfl rfl (by kernel_rfl) Tryz.func3 (by kernel_rfl)
    (of_decide_eq_true (by kernel_rfl)) (by unfold Func.isWrapper; first | (rw [if_pos (by decide +kernel)]; kernel_rfl) | (rw [if_neg (by decide +kernel)]; exact ⟨rfl, rfl⟩))
    (fun os started H enc _ => lifted os started H enc)
end Go.Proofs.YtbeoijlggphklaaGreat
