/- The law function FnExactNewConsole returns true for all arguments: the program and the reference agree. -/
import Derived.Test.YtcfmohcpfmedaaaWNewCon
import Derived.Test.YtcfmohcpfmedaaaAbs5
import Derived.Test.YtcfmohcpfmedaaaRows
set_option linter.unusedVariables false
set_option linter.unusedSimpArgs false
namespace Go.Proofs.Ytcfmohcpfmedaaa
open Go.Abs Go.RowKit
theorem own : ownKnob Try.prog.godebug = none := by kernel_rfl
theorem laidOut : laidOutB Try.prog = true := by kernel_rfl
theorem rd3 : Reads Try.prog 3 false 1 (fun v => ∃ n : Int, v = I n ∧ (Lit.int .i64 n).wf = true) := Reads.int Try.underlying3
theorem rd9 : Reads Try.prog 9 false 1 (fun v => ∃ b : List UInt8, v = S b ∧ b.length ≤ maxLen) := Reads.str Try.underlying9
theorem cells3 : Try.prog.cellsOf 3 = 1 := by kernel_rfl
theorem cells50 : Try.prog.cellsOf 50 = 4 := by kernel_rfl
theorem rd50 : Reads Try.prog 50 true 4 (fun v => ∃ x : Field, v = eField x) := by
  have h : Reads Try.prog 50 true 4 (fun v => ∃ vs, Each [(false, 1, (fun v => ∃ n : Int, v = I n ∧ (Lit.int .i64 n).wf = true)), (false, 1, (fun v => ∃ n : Int, v = I n ∧ (Lit.int .i64 n).wf = true)), (false, 1, (fun v => ∃ n : Int, v = I n ∧ (Lit.int .i64 n).wf = true)), (false, 1, (fun v => ∃ n : Int, v = I n ∧ (Lit.int .i64 n).wf = true))] vs ∧ v = .agg (vs.flatMap cellsV)) :=
    Reads.struct Try.underlying50 ⟨rfl, cells3, rd3, rfl, cells3, rd3, rfl, cells3, rd3, rfl, cells3, rd3, trivial⟩ rfl cells50
  refine h.imp fun v hv => ?_
  obtain ⟨vs, h0, rfl⟩ := hv
  obtain ⟨_, _, rfl, ⟨x0, rfl, _⟩, h1⟩ := h0.cons
  obtain ⟨_, _, rfl, ⟨x1, rfl, _⟩, h2⟩ := h1.cons
  obtain ⟨_, _, rfl, ⟨x2, rfl, _⟩, h3⟩ := h2.cons
  obtain ⟨_, _, rfl, ⟨x3, rfl, _⟩, h4⟩ := h3.cons
  obtain rfl := h4.nil
  exact ⟨⟨x0, x1, x2, x3⟩, rfl⟩
theorem cells52 : Try.prog.cellsOf 52 = 4 := by kernel_rfl
theorem rd52 : Reads Try.prog 52 true 4 (fun v => ∃ x : Group, v = eGroup x) := by
  have h : Reads Try.prog 52 true 4 (fun v => ∃ vs, Each [(false, 1, (fun v => ∃ n : Int, v = I n ∧ (Lit.int .i64 n).wf = true)), (false, 1, (fun v => ∃ n : Int, v = I n ∧ (Lit.int .i64 n).wf = true)), (false, 1, (fun v => ∃ n : Int, v = I n ∧ (Lit.int .i64 n).wf = true)), (false, 1, (fun v => ∃ n : Int, v = I n ∧ (Lit.int .i64 n).wf = true))] vs ∧ v = .agg (vs.flatMap cellsV)) :=
    Reads.struct Try.underlying52 ⟨rfl, cells3, rd3, rfl, cells3, rd3, rfl, cells3, rd3, rfl, cells3, rd3, trivial⟩ rfl cells52
  refine h.imp fun v hv => ?_
  obtain ⟨vs, h0, rfl⟩ := hv
  obtain ⟨_, _, rfl, ⟨x0, rfl, _⟩, h1⟩ := h0.cons
  obtain ⟨_, _, rfl, ⟨x1, rfl, _⟩, h2⟩ := h1.cons
  obtain ⟨_, _, rfl, ⟨x2, rfl, _⟩, h3⟩ := h2.cons
  obtain ⟨_, _, rfl, ⟨x3, rfl, _⟩, h4⟩ := h3.cons
  obtain rfl := h4.nil
  exact ⟨⟨x0, x1, x2, x3⟩, rfl⟩
theorem cells54 : Try.prog.cellsOf 54 = 15 := by kernel_rfl
theorem rd54 : Reads Try.prog 54 true 15 (fun v => ∃ x : Arms, v = eArms x) := by
  have h : Reads Try.prog 54 true 15 (fun v => ∃ vs, Each [(true, 4, (fun v => ∃ x : Field, v = eField x)), (false, 1, (fun v => ∃ n : Int, v = I n ∧ (Lit.int .i64 n).wf = true)), (false, 1, (fun v => ∃ n : Int, v = I n ∧ (Lit.int .i64 n).wf = true)), (false, 1, (fun v => ∃ n : Int, v = I n ∧ (Lit.int .i64 n).wf = true)), (true, 4, (fun v => ∃ x : Group, v = eGroup x)), (true, 4, (fun v => ∃ x : Group, v = eGroup x))] vs ∧ v = .agg (vs.flatMap cellsV)) :=
    Reads.struct Try.underlying54 ⟨rfl, cells50, rd50, rfl, cells3, rd3, rfl, cells3, rd3, rfl, cells3, rd3, rfl, cells52, rd52, rfl, cells52, rd52, trivial⟩ rfl cells54
  refine h.imp fun v hv => ?_
  obtain ⟨vs, h0, rfl⟩ := hv
  obtain ⟨_, _, rfl, ⟨x0, rfl⟩, h1⟩ := h0.cons
  obtain ⟨_, _, rfl, ⟨x1, rfl, _⟩, h2⟩ := h1.cons
  obtain ⟨_, _, rfl, ⟨x2, rfl, _⟩, h3⟩ := h2.cons
  obtain ⟨_, _, rfl, ⟨x3, rfl, _⟩, h4⟩ := h3.cons
  obtain ⟨_, _, rfl, ⟨x4, rfl⟩, h5⟩ := h4.cons
  obtain ⟨_, _, rfl, ⟨x5, rfl⟩, h6⟩ := h5.cons
  obtain rfl := h6.nil
  exact ⟨⟨x0, x1, x2, x3, x4, x5⟩, rfl⟩
theorem cells9 : Try.prog.cellsOf 9 = 1 := by kernel_rfl
theorem cells56 : Try.prog.cellsOf 56 = 18 := by kernel_rfl
theorem rd56 : Reads Try.prog 56 true 18 (fun v => ∃ x : Grant, v = eGrant x) := by
  have h : Reads Try.prog 56 true 18 (fun v => ∃ vs, Each [(false, 1, (fun v => ∃ n : Int, v = I n ∧ (Lit.int .i64 n).wf = true)), (false, 1, (fun v => ∃ b : List UInt8, v = S b ∧ b.length ≤ maxLen)), (false, 1, (fun v => ∃ n : Int, v = I n ∧ (Lit.int .i64 n).wf = true)), (true, 15, (fun v => ∃ x : Arms, v = eArms x))] vs ∧ v = .agg (vs.flatMap cellsV)) :=
    Reads.struct Try.underlying56 ⟨rfl, cells3, rd3, rfl, cells9, rd9, rfl, cells3, rd3, rfl, cells54, rd54, trivial⟩ rfl cells56
  refine h.imp fun v hv => ?_
  obtain ⟨vs, h0, rfl⟩ := hv
  obtain ⟨_, _, rfl, ⟨x0, rfl, _⟩, h1⟩ := h0.cons
  obtain ⟨_, _, rfl, ⟨x1, rfl, _⟩, h2⟩ := h1.cons
  obtain ⟨_, _, rfl, ⟨x2, rfl, _⟩, h3⟩ := h2.cons
  obtain ⟨_, _, rfl, ⟨x3, rfl⟩, h4⟩ := h3.cons
  obtain rfl := h4.nil
  exact ⟨⟨x0, x1, x2, x3⟩, rfl⟩
theorem rd22 : Reads Try.prog 22 false 1 (fun v => ∃ l : List Grant, v = V.ro 18 (l.map eGrant)) :=
  (Reads.slice Try.underlying22 cells56 (by decide) rd56).imp fun v hv => rows_of (fun e he => he) hv
theorem cells22 : Try.prog.cellsOf 22 = 1 := by kernel_rfl
theorem cells24 : Try.prog.cellsOf 24 = 1 := by kernel_rfl
theorem rd24 : Reads Try.prog 24 true 1 (fun v => ∃ x : Register, v = eRegister x) := by
  have h : Reads Try.prog 24 true 1 (fun v => ∃ vs, Each [(false, 1, (fun v => ∃ l : List Grant, v = V.ro 18 (l.map eGrant)))] vs ∧ v = .agg (vs.flatMap cellsV)) :=
    Reads.struct Try.underlying24 ⟨rfl, cells22, rd22, trivial⟩ rfl cells24
  refine h.imp fun v hv => ?_
  obtain ⟨vs, h0, rfl⟩ := hv
  obtain ⟨_, _, rfl, ⟨x0, rfl⟩, h1⟩ := h0.cons
  obtain rfl := h1.nil
  exact ⟨x0, rfl⟩
set_option maxRecDepth 100000 in
theorem lifted (os : Os) (started : os.Started) (H : Type) (enc : TypeId × Value → H) :
    ReturnsInHanded {} Try.checked os 3 .any (Rows.fnExactNewConsoleSpec.pre6 enc Try.prog Try.f3 Rows.fnExactNewConsoleRow.domain false) (Rows.fnExactNewConsoleSpec.post enc Try.prog Try.f3 false true false false) := by
  refine returnsInHanded_of_change (C := Try.checked) own started (by kernel_rfl) Try.func3
    (ChangeSpec.witness6 (enc := enc) (C := Try.checked) false ⟨#[], #[.agg #[.slice none 0 0]], []⟩ 8 (by kernel_rfl) (by kernel_rfl) (by kernel_rfl) (by kernel_rfl)) ?_
  intro W base args ds gs before hval hW _ _
  have hp : Params Try.prog Try.f3.params.toList [(true, 1, (fun v => ∃ x : Register, v = eRegister x))] := by
    rw [Try.params3]
    exact ⟨⟨rd24, ⟨by kernel_rfl, of_decide_eq_true (by kernel_rfl)⟩, by rw [Try.underlying24]⟩, trivial⟩
  refine law_calls (P := Try.prog) (f := 3) (tb := 4) (s := Rows.fnExactNewConsoleSpec) (small := fun _ => True) laidOut rfl ?_ rfl Try.underlying4 hp ?_ H enc W base args ds gs before hval hW trivial trivial
  · intro H ds0 hd
    cases ds0 with
    | nil => cases hd
    | cons d0 ds1 =>
      cases ds1 with
      | nil => rfl
      | cons _ _ => cases hd
  · intro vs h0 _
    obtain ⟨_, _, rfl, ⟨x0, rfl⟩, h1⟩ := h0.cons
    obtain rfl := h1.nil
    exact w_FnExactNewConsole x0

theorem FnExactNewConsole : Rows.FnExactNewConsoleSaid :=
  OpenClaim.holds_of_wide 3 Try.f3 rfl rfl rfl rfl rfl rfl rfl ⟨rfl, rfl, rfl, rfl, rfl⟩ rfl rfl rfl rfl rfl (by kernel_rfl) Try.func3 (by kernel_rfl)
    (of_decide_eq_true (by kernel_rfl)) (by unfold Func.isWrapper; first | (rw [if_pos (by decide +kernel)]; kernel_rfl) | (rw [if_neg (by decide +kernel)]; exact ⟨rfl, rfl⟩))
    (fun os started H enc _ => lifted os started H enc)
end Go.Proofs.Ytcfmohcpfmedaaa
