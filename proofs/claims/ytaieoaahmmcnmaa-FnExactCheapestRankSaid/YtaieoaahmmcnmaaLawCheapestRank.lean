/- The law function FnExactCheapestRank returns true for all arguments: the program and the reference agree. -/
import Derived.Test.YtaieoaahmmcnmaaWCheapest
import Derived.Test.YtaieoaahmmcnmaaAbsLaw
import Derived.Test.YtaieoaahmmcnmaaRows
set_option linter.unusedVariables false
set_option linter.unusedSimpArgs false
namespace Go.Proofs.Ytaieoaahmmcnmaa
open Go.Abs Go.RowKit
theorem own : ownKnob Try.prog.godebug = none := by kernel_rfl
theorem laidOut : laidOutB Try.prog = true := by kernel_rfl
theorem rd3 : Reads Try.prog 3 false 1 (fun v => ∃ n : Int, v = I n ∧ (Lit.int .i64 n).wf = true) := Reads.int Try.underlying3
theorem cells3 : Try.prog.cellsOf 3 = 1 := by kernel_rfl
theorem rd34 : Reads Try.prog 34 false 1 (fun v => ∃ l : List Int, v = V.ro 1 (l.map I)) :=
  (Reads.slice Try.underlying34 cells3 (by decide) rd3).imp fun v hv => rows_of (fun e he => ⟨_, he.choose_spec.1⟩) hv
theorem cells34 : Try.prog.cellsOf 34 = 1 := by kernel_rfl
theorem cells57 : Try.prog.cellsOf 57 = 4 := by kernel_rfl
theorem rd57 : Reads Try.prog 57 true 4 (fun v => ∃ x : Tariff, v = eTariff x) := by
  have h : Reads Try.prog 57 true 4 (fun v => ∃ vs, Each [(false, 1, (fun v => ∃ l : List Int, v = V.ro 1 (l.map I))), (false, 1, (fun v => ∃ n : Int, v = I n ∧ (Lit.int .i64 n).wf = true)), (false, 1, (fun v => ∃ n : Int, v = I n ∧ (Lit.int .i64 n).wf = true)), (false, 1, (fun v => ∃ n : Int, v = I n ∧ (Lit.int .i64 n).wf = true))] vs ∧ v = .agg (vs.flatMap cellsV)) :=
    Reads.struct Try.underlying57 ⟨rfl, cells34, rd34, rfl, cells3, rd3, rfl, cells3, rd3, rfl, cells3, rd3, trivial⟩ rfl cells57
  refine h.imp fun v hv => ?_
  obtain ⟨vs, h0, rfl⟩ := hv
  obtain ⟨_, _, rfl, ⟨x0, rfl⟩, h1⟩ := h0.cons
  obtain ⟨_, _, rfl, ⟨x1, rfl, _⟩, h2⟩ := h1.cons
  obtain ⟨_, _, rfl, ⟨x2, rfl, _⟩, h3⟩ := h2.cons
  obtain ⟨_, _, rfl, ⟨x3, rfl, _⟩, h4⟩ := h3.cons
  obtain rfl := h4.nil
  exact ⟨⟨x0, x1, x2, x3⟩, rfl⟩
set_option maxRecDepth 100000 in
theorem lifted (os : Os) (started : os.Started) (H : Type) (enc : TypeId × Value → H) :
    ReturnsInHanded {} Try.checked os 9 .any (Rows.fnExactCheapestRankSpec.pre6 enc Try.prog Try.f9 Rows.fnExactCheapestRankRow.domain false) (Rows.fnExactCheapestRankSpec.post enc Try.prog Try.f9 false true false false) := by
  refine returnsInHanded_of_change (C := Try.checked) own started (by kernel_rfl) Try.func9
    (ChangeSpec.witness6 (enc := enc) (C := Try.checked) false ⟨#[], #[.agg #[.slice none 0 0, .int .i64 0, .int .i64 0, .int .i64 0]], []⟩ 8 (by kernel_rfl) (by kernel_rfl) (by kernel_rfl) (by kernel_rfl)) ?_
  intro W base args ds gs before hval hW _ _
  have hp : Params Try.prog Try.f9.params.toList [(true, 4, (fun v => ∃ x : Tariff, v = eTariff x))] := by
    rw [Try.params9]
    exact ⟨⟨rd57, ⟨by kernel_rfl, of_decide_eq_true (by kernel_rfl)⟩, by rw [Try.underlying57]⟩, trivial⟩
  refine law_calls (P := Try.prog) (f := 9) (tb := 4) (s := Rows.fnExactCheapestRankSpec) (small := fun _ => True) laidOut rfl ?_ rfl Try.underlying4 hp ?_ H enc W base args ds gs before hval hW trivial trivial
  · intro H ds0 hd
    cases ds0 with
    | nil => cases hd
    | cons d0 ds1 =>
      cases ds1 with
      | nil => rfl
      | cons _ _ => cases hd
  · intro vs h0 _
    obtain ⟨_, _, rfl, ⟨x0, rfl⟩, h1⟩ := h0.cons
    obtain rfl := h1.nil
    exact w_FnExactCheapestRank x0

theorem FnExactCheapestRank : Rows.FnExactCheapestRankSaid :=
  OpenClaim.holds_of_wide 9 Try.f9 rfl rfl rfl rfl rfl rfl rfl ⟨rfl, rfl, rfl, rfl, rfl⟩ rfl rfl rfl rfl rfl (by kernel_rfl) Try.func9 (by kernel_rfl)
    (of_decide_eq_true (by kernel_rfl)) (by unfold Func.isWrapper; first | (rw [if_pos (by decide +kernel)]; kernel_rfl) | (rw [if_neg (by decide +kernel)]; exact ⟨rfl, rfl⟩))
    (fun os started H enc _ => lifted os started H enc)
end Go.Proofs.Ytaieoaahmmcnmaa
