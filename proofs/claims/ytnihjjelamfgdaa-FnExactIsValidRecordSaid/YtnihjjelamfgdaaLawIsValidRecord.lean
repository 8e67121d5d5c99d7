/- The law function FnExactIsValidRecord returns true for all arguments: the program and the reference agree. -/
import Derived.Test.YtnihjjelamfgdaaRec
import Derived.Test.YtnihjjelamfgdaaAbsLaw
import Derived.Test.YtnihjjelamfgdaaRows
set_option linter.unusedVariables false
set_option linter.unusedSimpArgs false
namespace Go.Proofs.Ytnihjjelamfgdaa
open Go.Abs Go.RowKit
theorem own : ownKnob Try.prog.godebug = none := by kernel_rfl
theorem laidOut : laidOutB Try.prog = true := by kernel_rfl
theorem rd9 : Reads Try.prog 9 false 1 (fun v => ∃ b : List UInt8, v = S b ∧ b.length ≤ maxLen) := Reads.str Try.underlying9
theorem cells9 : Try.prog.cellsOf 9 = 1 := by kernel_rfl
theorem cells23 : Try.prog.cellsOf 23 = 2 := by kernel_rfl
theorem rd23 : Reads Try.prog 23 true 2 (fun v => ∃ x : LogRecord, v = eLogRecord x) := by
  have h : Reads Try.prog 23 true 2 (fun v => ∃ vs, Each [(false, 1, (fun v => ∃ b : List UInt8, v = S b ∧ b.length ≤ maxLen)), (false, 1, (fun v => ∃ b : List UInt8, v = S b ∧ b.length ≤ maxLen))] vs ∧ v = .agg (vs.flatMap cellsV)) :=
    Reads.struct Try.underlying23 ⟨rfl, cells9, rd9, rfl, cells9, rd9, trivial⟩ rfl cells23
  refine h.imp fun v hv => ?_
  obtain ⟨vs, h0, rfl⟩ := hv
  obtain ⟨_, _, rfl, ⟨x0, rfl, _⟩, h1⟩ := h0.cons
  obtain ⟨_, _, rfl, ⟨x1, rfl, _⟩, h2⟩ := h1.cons
  obtain rfl := h2.nil
  exact ⟨⟨x0, x1⟩, rfl⟩
set_option maxRecDepth 100000 in
theorem lifted (os : Os) (started : os.Started) (H : Type) (enc : TypeId × Value → H) :
    ReturnsInHanded {} Try.checked os 3 .any (Rows.fnExactIsValidRecordSpec.pre6 enc Try.prog Try.f3 Rows.fnExactIsValidRecordRow.domain false) (Rows.fnExactIsValidRecordSpec.post enc Try.prog Try.f3 false true false false) := by
  refine returnsInHanded_of_change (C := Try.checked) own started (by kernel_rfl) Try.func3
    (ChangeSpec.witness6 (enc := enc) (C := Try.checked) false ⟨#[], #[.agg #[.string ⟨#[]⟩, .string ⟨#[]⟩]], []⟩ 8 (by kernel_rfl) (by kernel_rfl) (by kernel_rfl) (by kernel_rfl)) ?_
  intro W base args ds gs before hval hW _ _
  have hp : Params Try.prog Try.f3.params.toList [(true, 2, (fun v => ∃ x : LogRecord, v = eLogRecord x))] := by
    rw [Try.params3]
    exact ⟨⟨rd23, ⟨by kernel_rfl, of_decide_eq_true (by kernel_rfl)⟩, by rw [Try.underlying23]⟩, trivial⟩
  refine law_calls (P := Try.prog) (f := 3) (tb := 4) (s := Rows.fnExactIsValidRecordSpec) (small := fun _ => True) laidOut rfl ?_ rfl Try.underlying4 hp ?_ H enc W base args ds gs before hval hW trivial trivial
  · intro H ds0 hd
    cases ds0 with
    | nil => cases hd
    | cons d0 ds1 =>
      cases ds1 with
      | nil => rfl
      | cons _ _ => cases hd
  · intro vs h0 _
    obtain ⟨_, _, rfl, ⟨x0, rfl⟩, h1⟩ := h0.cons
    obtain rfl := h1.nil
    exact w_FnExactIsValidRecord x0

theorem FnExactIsValidRecord : Rows.FnExactIsValidRecordSaid :=
  OpenClaim.holds_of_wide 3 Try.f3 rfl rfl rfl rfl rfl rfl rfl ⟨rfl, rfl, rfl, rfl, rfl⟩ rfl rfl rfl rfl rfl (by kernel_rfl) Try.func3 (by kernel_rfl)
    (of_decide_eq_true (by kernel_rfl)) (by unfold Func.isWrapper; first | (rw [if_pos (by decide +kernel)]; kernel_rfl) | (rw [if_neg (by decide +kernel)]; exact ⟨rfl, rfl⟩))
    (fun os started H enc _ => lifted os started H enc)
end Go.Proofs.Ytnihjjelamfgdaa
