/- The law function FnBanners returns true for all arguments: the program and the reference agree. -/
import Derived.Test.YtgefdcllialhkaaWFnBan
import Derived.Test.YtgefdcllialhkaaAbs5
import Derived.Test.YtgefdcllialhkaaRows
set_option linter.unusedVariables false
set_option linter.unusedSimpArgs false
namespace Go.Proofs.Ytgefdcllialhkaa
open Go.Abs Go.RowKit
theorem own : ownKnob Try.prog.godebug = none := by kernel_rfl
theorem laidOut : laidOutB Try.prog = true := by kernel_rfl
theorem rd5 : Reads Try.prog 5 false 1 (fun v => ∃ b : UInt8, v = Y b) := Reads.byte Try.underlying5
theorem cells5 : Try.prog.cellsOf 5 = 1 := by kernel_rfl
theorem rd22 : Reads Try.prog 22 false 1 (fun v => ∃ l : List UInt8, v = V.ro 1 (l.map Y)) :=
  (Reads.slice Try.underlying22 cells5 (by decide) rd5).imp fun v hv => rows_of (fun e he => he) hv
set_option maxRecDepth 100000 in
theorem lifted (os : Os) (started : os.Started) (H : Type) (enc : TypeId × Value → H) :
    ReturnsInHanded {} Try.checked os 6 .any (Rows.fnBannersSpec.pre6 enc Try.prog Try.f6 Rows.fnBannersRow.domain false) (Rows.fnBannersSpec.post enc Try.prog Try.f6 false true false false) := by
  refine returnsInHanded_of_change (C := Try.checked) own started (by kernel_rfl) Try.func6
    (ChangeSpec.witness6 (enc := enc) (C := Try.checked) false ⟨#[], #[.slice none 0 0], []⟩ 8 (by kernel_rfl) (by kernel_rfl) (by kernel_rfl) (by kernel_rfl)) ?_
  intro W base args ds gs before hval hW _ _
  have hp : Params Try.prog Try.f6.params.toList [(false, 1, (fun v => ∃ l : List UInt8, v = V.ro 1 (l.map Y)))] := by
    rw [Try.params6]
    exact ⟨⟨rd22, ⟨by kernel_rfl, of_decide_eq_true (by kernel_rfl)⟩, by rw [Try.underlying22]⟩, trivial⟩
  refine law_calls (P := Try.prog) (f := 6) (tb := 4) (s := Rows.fnBannersSpec) (small := fun _ => True) laidOut rfl ?_ rfl Try.underlying4 hp ?_ H enc W base args ds gs before hval hW trivial trivial
  · intro H ds0 hd
    cases ds0 with
    | nil => cases hd
    | cons d0 ds1 =>
      cases ds1 with
      | nil => rfl
      | cons _ _ => cases hd
  · intro vs h0 _
    obtain ⟨_, _, rfl, ⟨x0, rfl⟩, h1⟩ := h0.cons
    obtain rfl := h1.nil
    exact w_FnBanners x0

theorem FnBanners : Rows.FnBannersSaid :=
  OpenClaim.holds_of_wide 6 Try.f6 rfl rfl rfl rfl rfl rfl rfl ⟨rfl, rfl, rfl, rfl, rfl⟩ rfl rfl rfl rfl rfl (by kernel_rfl) Try.func6 (by kernel_rfl)
    (of_decide_eq_true (by kernel_rfl)) (by unfold Func.isWrapper; first | (rw [if_pos (by decide +kernel)]; kernel_rfl) | (rw [if_neg (by decide +kernel)]; exact ⟨rfl, rfl⟩))
    (fun os started H enc _ => lifted os started H enc)
end Go.Proofs.Ytgefdcllialhkaa
