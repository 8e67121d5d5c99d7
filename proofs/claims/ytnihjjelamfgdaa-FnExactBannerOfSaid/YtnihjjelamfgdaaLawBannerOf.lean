/- The law function FnExactBannerOf returns true for all arguments: the program and the reference agree. -/
import Derived.Test.YtnihjjelamfgdaaWBannerOf
import Derived.Test.YtnihjjelamfgdaaAbsLaw
import Derived.Test.YtnihjjelamfgdaaRows
set_option linter.unusedVariables false
set_option linter.unusedSimpArgs false
namespace Go.Proofs.Ytnihjjelamfgdaa
open Go.Abs Go.RowKit
theorem own : ownKnob Try.prog.godebug = none := by kernel_rfl
theorem laidOut : laidOutB Try.prog = true := by kernel_rfl
theorem rd3 : Reads Try.prog 3 false 1 (fun v => ∃ n : Int, v = I n ∧ (Lit.int .i64 n).wf = true) := Reads.int Try.underlying3
theorem cells3 : Try.prog.cellsOf 3 = 1 := by kernel_rfl
theorem rd51 : Reads Try.prog 51 false 1 (fun v => ∃ l : List Int, v = V.ro 1 (l.map I)) :=
  (Reads.slice Try.underlying51 cells3 (by decide) rd3).imp fun v hv => rows_of (fun e he => ⟨_, he.choose_spec.1⟩) hv
theorem cells51 : Try.prog.cellsOf 51 = 1 := by kernel_rfl
theorem rd38 : Reads Try.prog 38 false 1 (fun v => ∃ l : List (List Int), v = V.ro 1 (l.map (fun l => V.ro 1 (l.map I)))) :=
  (Reads.slice Try.underlying38 cells51 (by decide) rd51).imp fun v hv => rows_of (fun e he => he) hv
set_option maxRecDepth 100000 in
theorem lifted (os : Os) (started : os.Started) (H : Type) (enc : TypeId × Value → H) :
    ReturnsInHanded {} Try.checked os 6 .any (Rows.fnExactBannerOfSpec.pre6 enc Try.prog Try.f6 Rows.fnExactBannerOfRow.domain false) (Rows.fnExactBannerOfSpec.post enc Try.prog Try.f6 false true false false) := by
  refine returnsInHanded_of_change (C := Try.checked) own started (by kernel_rfl) Try.func6
    (ChangeSpec.witness6 (enc := enc) (C := Try.checked) false ⟨#[], #[.slice none 0 0, .int .i64 0, .int .i64 0], []⟩ 8 (by kernel_rfl) (by kernel_rfl) (by kernel_rfl) (by kernel_rfl)) ?_
  intro W base args ds gs before hval hW _ _
  have hp : Params Try.prog Try.f6.params.toList [(false, 1, (fun v => ∃ l : List (List Int), v = V.ro 1 (l.map (fun l => V.ro 1 (l.map I))))), (false, 1, (fun v => ∃ n : Int, v = I n ∧ (Lit.int .i64 n).wf = true)), (false, 1, (fun v => ∃ n : Int, v = I n ∧ (Lit.int .i64 n).wf = true))] := by
    rw [Try.params6]
    exact ⟨⟨rd38, ⟨by kernel_rfl, of_decide_eq_true (by kernel_rfl)⟩, by rw [Try.underlying38]⟩, ⟨rd3, ⟨by kernel_rfl, of_decide_eq_true (by kernel_rfl)⟩, by rw [Try.underlying3]⟩, ⟨rd3, ⟨by kernel_rfl, of_decide_eq_true (by kernel_rfl)⟩, by rw [Try.underlying3]⟩, trivial⟩
  refine law_calls (P := Try.prog) (f := 6) (tb := 4) (s := Rows.fnExactBannerOfSpec) (small := fun _ => True) laidOut rfl ?_ rfl Try.underlying4 hp ?_ H enc W base args ds gs before hval hW trivial trivial
  · intro H ds0 hd
    cases ds0 with
    | nil => cases hd
    | cons d0 ds1 =>
      cases ds1 with
      | nil => cases hd
      | cons d1 ds2 =>
        cases ds2 with
        | nil => cases hd
        | cons d2 ds3 =>
          cases ds3 with
          | nil => rfl
          | cons _ _ => cases hd
  · intro vs h0 _
    obtain ⟨_, _, rfl, ⟨x0, rfl⟩, h1⟩ := h0.cons
    obtain ⟨_, _, rfl, ⟨x1, rfl, h1w⟩, h2⟩ := h1.cons
    obtain ⟨_, _, rfl, ⟨x2, rfl, h2w⟩, h3⟩ := h2.cons
    obtain rfl := h3.nil
    exact w_FnExactBannerOf x0 x1 x2

theorem FnExactBannerOf : Rows.FnExactBannerOfSaid :=
  OpenClaim.holds_of_wide 6 Try.f6 rfl rfl rfl rfl rfl rfl rfl ⟨rfl, rfl, rfl, rfl, rfl⟩ rfl rfl rfl rfl rfl (by kernel_rfl) Try.func6 (by kernel_rfl)
    (of_decide_eq_true (by kernel_rfl)) (by unfold Func.isWrapper; first | (rw [if_pos (by decide +kernel)]; kernel_rfl) | (rw [if_neg (by decide +kernel)]; exact ⟨rfl, rfl⟩))
    (fun os started H enc _ => lifted os started H enc)
end Go.Proofs.Ytnihjjelamfgdaa
