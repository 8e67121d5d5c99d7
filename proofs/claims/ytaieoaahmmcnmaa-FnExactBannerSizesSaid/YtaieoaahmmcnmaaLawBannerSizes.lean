/- The law function FnExactBannerSizes returns true for all arguments: the program and the reference agree. -/
import Derived.Test.YtaieoaahmmcnmaaWSizes
import Derived.Test.YtaieoaahmmcnmaaAbsLaw
import Derived.Test.YtaieoaahmmcnmaaRows
set_option linter.unusedVariables false
set_option linter.unusedSimpArgs false
namespace Go.Proofs.Ytaieoaahmmcnmaa
open Go.Abs Go.RowKit
theorem own : ownKnob Try.prog.godebug = none := by kernel_rfl
theorem laidOut : laidOutB Try.prog = true := by kernel_rfl
theorem rd3 : Reads Try.prog 3 false 1 (fun v => ∃ n : Int, v = I n ∧ (Lit.int .i64 n).wf = true) := Reads.int Try.underlying3
theorem cells3 : Try.prog.cellsOf 3 = 1 := by kernel_rfl
theorem cells51 : Try.prog.cellsOf 51 = 2 := by kernel_rfl
theorem rd51 : Reads Try.prog 51 true 2 (fun v => ∃ x : Proportion, v = eProportion x) := by
  have h : Reads Try.prog 51 true 2 (fun v => ∃ vs, Each [(false, 1, (fun v => ∃ n : Int, v = I n ∧ (Lit.int .i64 n).wf = true)), (false, 1, (fun v => ∃ n : Int, v = I n ∧ (Lit.int .i64 n).wf = true))] vs ∧ v = .agg (vs.flatMap cellsV)) :=
    Reads.struct Try.underlying51 ⟨rfl, cells3, rd3, rfl, cells3, rd3, trivial⟩ rfl cells51
  refine h.imp fun v hv => ?_
  obtain ⟨vs, h0, rfl⟩ := hv
  obtain ⟨_, _, rfl, ⟨x0, rfl, _⟩, h1⟩ := h0.cons
  obtain ⟨_, _, rfl, ⟨x1, rfl, _⟩, h2⟩ := h1.cons
  obtain rfl := h2.nil
  exact ⟨⟨x0, x1⟩, rfl⟩
set_option maxRecDepth 100000 in
theorem lifted (os : Os) (started : os.Started) (H : Type) (enc : TypeId × Value → H) :
    ReturnsInHanded {} Try.checked os 8 .any (Rows.fnExactBannerSizesSpec.pre6 enc Try.prog Try.f8 Rows.fnExactBannerSizesRow.domain false) (Rows.fnExactBannerSizesSpec.post enc Try.prog Try.f8 false true false false) := by
  refine returnsInHanded_of_change (C := Try.checked) own started (by kernel_rfl) Try.func8
    (ChangeSpec.witness6 (enc := enc) (C := Try.checked) false ⟨#[], #[.agg #[.int .i64 0, .int .i64 0]], []⟩ 8 (by kernel_rfl) (by kernel_rfl) (by kernel_rfl) (by kernel_rfl)) ?_
  intro W base args ds gs before hval hW _ _
  have hp : Params Try.prog Try.f8.params.toList [(true, 2, (fun v => ∃ x : Proportion, v = eProportion x))] := by
    rw [Try.params8]
    exact ⟨⟨rd51, ⟨by kernel_rfl, of_decide_eq_true (by kernel_rfl)⟩, by rw [Try.underlying51]⟩, trivial⟩
  refine law_calls (P := Try.prog) (f := 8) (tb := 4) (s := Rows.fnExactBannerSizesSpec) (small := fun _ => True) laidOut rfl ?_ rfl Try.underlying4 hp ?_ H enc W base args ds gs before hval hW trivial
  · intro H ds0 hd
    cases ds0 with
    | nil => cases hd
    | cons d0 ds1 =>
      cases ds1 with
      | nil => rfl
      | cons _ _ => cases hd
  · intro vs h0 _
    obtain ⟨_, _, rfl, ⟨x0, rfl⟩, h1⟩ := h0.cons
    obtain rfl := h1.nil
    exact w_FnExactBannerSizes x0

theorem FnExactBannerSizes : Rows.FnExactBannerSizesSaid :=
  OpenClaim.holds_of_wide 8 Try.f8 rfl rfl rfl rfl rfl rfl rfl ⟨rfl, rfl, rfl, rfl, rfl⟩ rfl rfl rfl rfl rfl (by kernel_rfl) Try.func8 (by kernel_rfl)
    (of_decide_eq_true (by kernel_rfl)) (by unfold Func.isWrapper; first | (rw [if_pos (by decide +kernel)]; kernel_rfl) | (rw [if_neg (by decide +kernel)]; exact ⟨rfl, rfl⟩))
    (fun os started H enc _ => lifted os started H enc)
end Go.Proofs.Ytaieoaahmmcnmaa
