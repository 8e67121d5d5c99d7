/- The law function FnExactReduceProportion returns true for all arguments: the program and the reference agree. -/
import Derived.Test.YtaieoaahmmcnmaaProp
import Derived.Test.YtaieoaahmmcnmaaAbsLaw
import Derived.Test.YtaieoaahmmcnmaaRows
namespace Go.Proofs.Ytaieoaahmmcnmaa
open Go.Abs Go.RowKit
theorem own : ownKnob Try.prog.godebug = none := by kernel_rfl
theorem laidOut : laidOutB Try.prog = true := by kernel_rfl
theorem rd3 : Reads Try.prog 3 false 1 (fun v => ∃ n : Int, v = I n ∧ (Lit.int .i64 n).wf = true) := Reads.int Try.underlying3
set_option maxRecDepth 100000 in
theorem lifted (os : Os) (started : os.Started) (H : Type) (enc : TypeId × Value → H) :
    ReturnsInHanded {} Try.checked os 4 .any (Rows.fnExactReduceProportionSpec.pre6 enc Try.prog Try.f4 Rows.fnExactReduceProportionRow.domain false) (Rows.fnExactReduceProportionSpec.post enc Try.prog Try.f4 false true false false) := by
  refine returnsInHanded_of_change (C := Try.checked) own started (by kernel_rfl) Try.func4
    (ChangeSpec.witness6 (enc := enc) (C := Try.checked) false ⟨#[], #[.int .i64 0, .int .i64 0], []⟩ 8 (by kernel_rfl) (by kernel_rfl) (by kernel_rfl) (by kernel_rfl)) ?_
  intro W base args ds gs before hval hW _ _
  have hp : Params Try.prog Try.f4.params.toList [(false, 1, (fun v => ∃ n : Int, v = I n ∧ (Lit.int .i64 n).wf = true)), (false, 1, (fun v => ∃ n : Int, v = I n ∧ (Lit.int .i64 n).wf = true))] := by
    rw [Try.params4]
    exact ⟨⟨rd3, ⟨by kernel_rfl, of_decide_eq_true (by kernel_rfl)⟩, by rw [Try.underlying3]⟩, ⟨rd3, ⟨by kernel_rfl, of_decide_eq_true (by kernel_rfl)⟩, by rw [Try.underlying3]⟩, trivial⟩
  refine law_calls (P := Try.prog) (f := 4) (tb := 4) (s := Rows.fnExactReduceProportionSpec) (small := fun _ => True) laidOut rfl ?_ rfl Try.underlying4 hp ?_ H enc W base args ds gs before hval hW trivial
  · intro H ds0 hd
    cases ds0 with
    | nil => cases hd
    | cons d0 ds1 =>
      cases ds1 with
      | nil => cases hd
      | cons d1 ds2 =>
        cases ds2 with
        | nil => rfl
        | cons _ _ => cases hd
  · intro vs h0 _
    obtain ⟨_, _, rfl, ⟨x0, rfl, h0w⟩, h1⟩ := h0.cons
    obtain ⟨_, _, rfl, ⟨x1, rfl, h1w⟩, h2⟩ := h1.cons
    obtain rfl := h2.nil
    exact w_FnExactReduceProportion x0 x1

theorem FnExactReduceProportion : Rows.FnExactReduceProportionSaid :=
  OpenClaim.holds_of_wide 4 Try.f4 rfl rfl rfl rfl rfl rfl rfl ⟨rfl, rfl, rfl, rfl, rfl⟩ rfl rfl rfl rfl rfl (by kernel_rfl) Try.func4 (by kernel_rfl)
    (of_decide_eq_true (by kernel_rfl)) (by unfold Func.isWrapper; first | (rw [if_pos (by decide +kernel)]; kernel_rfl) | (rw [if_neg (by decide +kernel)]; exact ⟨rfl, rfl⟩))
    (fun os started H enc _ => lifted os started H enc)
end Go.Proofs.Ytaieoaahmmcnmaa
