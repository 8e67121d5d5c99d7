/- Both SplitFee functions split a fee alike, for every fee and every number of parts: the law function FnExactSplitFee returns true. -/
import Derived.Test.YtaieoaahmmcnmaaSplit
import Derived.Test.YtaieoaahmmcnmaaAbsLaw
import Derived.Test.YtaieoaahmmcnmaaRows
namespace Go.Proofs.Ytaieoaahmmcnmaa
open Go.Abs Go.RowKit
theorem own : ownKnob Try.prog.godebug = none := by kernel_rfl
theorem laidOut : laidOutB Try.prog = true := by kernel_rfl
theorem rd3 : Reads Try.prog 3 false 1 (fun v => ∃ n, v = I n ∧ (Lit.int .i64 n).wf = true) := Reads.int Try.underlying3

set_option maxRecDepth 100000 in
theorem lifted (os : Os) (started : os.Started) (H : Type) (enc : TypeId × Value → H) :
    ReturnsInHanded {} Try.checked os 5 .any (Rows.fnExactSplitFeeSpec.pre6 enc Try.prog Try.f5 Rows.fnExactSplitFeeRow.domain false) (Rows.fnExactSplitFeeSpec.post enc Try.prog Try.f5 false true false false) := by
  refine returnsInHanded_of_change (C := Try.checked) own started (by kernel_rfl) Try.func5
    (ChangeSpec.witness6 (enc := enc) (C := Try.checked) false ⟨#[], #[.int .i64 0, .int .i64 0], []⟩ 8 (by kernel_rfl) (by kernel_rfl) (by kernel_rfl) (by kernel_rfl)) ?_
  intro W base args ds gs before hval hW _ _
  have hp : Params Try.prog Try.f5.params.toList [(false, 1, fun v => ∃ n, v = I n ∧ (Lit.int .i64 n).wf = true), (false, 1, fun v => ∃ n, v = I n ∧ (Lit.int .i64 n).wf = true)] := by
    rw [Try.params5]
    exact ⟨⟨rd3, ⟨by kernel_rfl, of_decide_eq_true (by kernel_rfl)⟩, by rw [Try.underlying3]⟩, ⟨rd3, ⟨by kernel_rfl, of_decide_eq_true (by kernel_rfl)⟩, by rw [Try.underlying3]⟩, trivial⟩
  refine law_calls (P := Try.prog) (f := 5) (tb := 4) (s := Rows.fnExactSplitFeeSpec) (small := fun _ => True) laidOut rfl ?_ rfl Try.underlying4 hp ?_ H enc W base args ds gs before hval hW trivial
  · intro H ds hd
    cases ds with
    | nil => cases hd
    | cons d ds => cases ds with
      | nil => cases hd
      | cons d2 ds => cases ds with
        | nil => rfl
        | cons _ _ => cases hd
  · intro vs he _
    obtain ⟨_, _, rfl, ⟨a, rfl, _⟩, h1⟩ := he.cons
    obtain ⟨_, _, rfl, ⟨b, rfl, _⟩, h2⟩ := h1.cons
    obtain rfl := h2.nil
    exact f5 a b

theorem FnExactSplitFee : Rows.FnExactSplitFeeSaid :=
  OpenClaim.holds_of_wide 5 Try.f5 rfl rfl rfl rfl rfl rfl rfl ⟨rfl, rfl, rfl, rfl, rfl⟩ rfl rfl rfl rfl rfl (by kernel_rfl) Try.func5 (by kernel_rfl)
    (of_decide_eq_true (by kernel_rfl)) (by unfold Func.isWrapper; first | (rw [if_pos (by decide +kernel)]; kernel_rfl) | (rw [if_neg (by decide +kernel)]; exact ⟨rfl, rfl⟩))
    (fun os started H enc _ => lifted os started H enc)
end Go.Proofs.Ytaieoaahmmcnmaa
