/- The law function FnExactFeeFor returns true for all arguments: the program and the reference agree. -/
import Derived.Test.YtnihjjelamfgdaaWFee
import Derived.Test.YtnihjjelamfgdaaAbsLaw
import Derived.Test.YtnihjjelamfgdaaRows
set_option linter.unusedVariables false
set_option linter.unusedSimpArgs false
namespace Go.Proofs.Ytnihjjelamfgdaa
open Go.Abs Go.RowKit
theorem own : ownKnob Try.prog.godebug = none := by kernel_rfl
theorem laidOut : laidOutB Try.prog = true := by kernel_rfl
theorem rd3 : Reads Try.prog 3 false 1 (fun v => ∃ n : Int, v = I n ∧ (Lit.int .i64 n).wf = true) := Reads.int Try.underlying3
theorem cells3 : Try.prog.cellsOf 3 = 1 := by kernel_rfl
theorem rd51 : Reads Try.prog 51 false 1 (fun v => ∃ l : List Int, v = V.ro 1 (l.map I)) :=
  (Reads.slice Try.underlying51 cells3 (by decide) rd3).imp fun v hv => rows_of (fun e he => ⟨_, he.choose_spec.1⟩) hv
theorem cells51 : Try.prog.cellsOf 51 = 1 := by kernel_rfl
theorem cells53 : Try.prog.cellsOf 53 = 4 := by kernel_rfl
theorem rd53 : Reads Try.prog 53 true 4 (fun v => ∃ x : Tariff, v = eTariff x) := by
  have h : Reads Try.prog 53 true 4 (fun v => ∃ vs, Each [(false, 1, (fun v => ∃ l : List Int, v = V.ro 1 (l.map I))), (false, 1, (fun v => ∃ n : Int, v = I n ∧ (Lit.int .i64 n).wf = true)), (false, 1, (fun v => ∃ n : Int, v = I n ∧ (Lit.int .i64 n).wf = true)), (false, 1, (fun v => ∃ n : Int, v = I n ∧ (Lit.int .i64 n).wf = true))] vs ∧ v = .agg (vs.flatMap cellsV)) :=
    Reads.struct Try.underlying53 ⟨rfl, cells51, rd51, rfl, cells3, rd3, rfl, cells3, rd3, rfl, cells3, rd3, trivial⟩ rfl cells53
  refine h.imp fun v hv => ?_
  obtain ⟨vs, h0, rfl⟩ := hv
  obtain ⟨_, _, rfl, ⟨x0, rfl⟩, h1⟩ := h0.cons
  obtain ⟨_, _, rfl, ⟨x1, rfl, _⟩, h2⟩ := h1.cons
  obtain ⟨_, _, rfl, ⟨x2, rfl, _⟩, h3⟩ := h2.cons
  obtain ⟨_, _, rfl, ⟨x3, rfl, _⟩, h4⟩ := h3.cons
  obtain rfl := h4.nil
  exact ⟨⟨x0, x1, x2, x3⟩, rfl⟩
theorem cells55 : Try.prog.cellsOf 55 = 4 := by kernel_rfl
theorem rd55 : Reads Try.prog 55 true 4 (fun v => ∃ x : Field, v = eField x) := by
  have h : Reads Try.prog 55 true 4 (fun v => ∃ vs, Each [(false, 1, (fun v => ∃ n : Int, v = I n ∧ (Lit.int .i64 n).wf = true)), (false, 1, (fun v => ∃ n : Int, v = I n ∧ (Lit.int .i64 n).wf = true)), (false, 1, (fun v => ∃ n : Int, v = I n ∧ (Lit.int .i64 n).wf = true)), (false, 1, (fun v => ∃ n : Int, v = I n ∧ (Lit.int .i64 n).wf = true))] vs ∧ v = .agg (vs.flatMap cellsV)) :=
    Reads.struct Try.underlying55 ⟨rfl, cells3, rd3, rfl, cells3, rd3, rfl, cells3, rd3, rfl, cells3, rd3, trivial⟩ rfl cells55
  refine h.imp fun v hv => ?_
  obtain ⟨vs, h0, rfl⟩ := hv
  obtain ⟨_, _, rfl, ⟨x0, rfl, _⟩, h1⟩ := h0.cons
  obtain ⟨_, _, rfl, ⟨x1, rfl, _⟩, h2⟩ := h1.cons
  obtain ⟨_, _, rfl, ⟨x2, rfl, _⟩, h3⟩ := h2.cons
  obtain ⟨_, _, rfl, ⟨x3, rfl, _⟩, h4⟩ := h3.cons
  obtain rfl := h4.nil
  exact ⟨⟨x0, x1, x2, x3⟩, rfl⟩
theorem cells57 : Try.prog.cellsOf 57 = 4 := by kernel_rfl
theorem rd57 : Reads Try.prog 57 true 4 (fun v => ∃ x : Group, v = eGroup x) := by
  have h : Reads Try.prog 57 true 4 (fun v => ∃ vs, Each [(false, 1, (fun v => ∃ n : Int, v = I n ∧ (Lit.int .i64 n).wf = true)), (false, 1, (fun v => ∃ n : Int, v = I n ∧ (Lit.int .i64 n).wf = true)), (false, 1, (fun v => ∃ n : Int, v = I n ∧ (Lit.int .i64 n).wf = true)), (false, 1, (fun v => ∃ n : Int, v = I n ∧ (Lit.int .i64 n).wf = true))] vs ∧ v = .agg (vs.flatMap cellsV)) :=
    Reads.struct Try.underlying57 ⟨rfl, cells3, rd3, rfl, cells3, rd3, rfl, cells3, rd3, rfl, cells3, rd3, trivial⟩ rfl cells57
  refine h.imp fun v hv => ?_
  obtain ⟨vs, h0, rfl⟩ := hv
  obtain ⟨_, _, rfl, ⟨x0, rfl, _⟩, h1⟩ := h0.cons
  obtain ⟨_, _, rfl, ⟨x1, rfl, _⟩, h2⟩ := h1.cons
  obtain ⟨_, _, rfl, ⟨x2, rfl, _⟩, h3⟩ := h2.cons
  obtain ⟨_, _, rfl, ⟨x3, rfl, _⟩, h4⟩ := h3.cons
  obtain rfl := h4.nil
  exact ⟨⟨x0, x1, x2, x3⟩, rfl⟩
theorem cells59 : Try.prog.cellsOf 59 = 15 := by kernel_rfl
theorem rd59 : Reads Try.prog 59 true 15 (fun v => ∃ x : Arms, v = eArms x) := by
  have h : Reads Try.prog 59 true 15 (fun v => ∃ vs, Each [(true, 4, (fun v => ∃ x : Field, v = eField x)), (false, 1, (fun v => ∃ n : Int, v = I n ∧ (Lit.int .i64 n).wf = true)), (false, 1, (fun v => ∃ n : Int, v = I n ∧ (Lit.int .i64 n).wf = true)), (false, 1, (fun v => ∃ n : Int, v = I n ∧ (Lit.int .i64 n).wf = true)), (true, 4, (fun v => ∃ x : Group, v = eGroup x)), (true, 4, (fun v => ∃ x : Group, v = eGroup x))] vs ∧ v = .agg (vs.flatMap cellsV)) :=
    Reads.struct Try.underlying59 ⟨rfl, cells55, rd55, rfl, cells3, rd3, rfl, cells3, rd3, rfl, cells3, rd3, rfl, cells57, rd57, rfl, cells57, rd57, trivial⟩ rfl cells59
  refine h.imp fun v hv => ?_
  obtain ⟨vs, h0, rfl⟩ := hv
  obtain ⟨_, _, rfl, ⟨x0, rfl⟩, h1⟩ := h0.cons
  obtain ⟨_, _, rfl, ⟨x1, rfl, _⟩, h2⟩ := h1.cons
  obtain ⟨_, _, rfl, ⟨x2, rfl, _⟩, h3⟩ := h2.cons
  obtain ⟨_, _, rfl, ⟨x3, rfl, _⟩, h4⟩ := h3.cons
  obtain ⟨_, _, rfl, ⟨x4, rfl⟩, h5⟩ := h4.cons
  obtain ⟨_, _, rfl, ⟨x5, rfl⟩, h6⟩ := h5.cons
  obtain rfl := h6.nil
  exact ⟨⟨x0, x1, x2, x3, x4, x5⟩, rfl⟩
theorem rd4 : Reads Try.prog 4 false 1 (fun v => ∃ b : Bool, v = B b) := Reads.bool Try.underlying4
set_option maxRecDepth 100000 in
theorem lifted (os : Os) (started : os.Started) (H : Type) (enc : TypeId × Value → H) :
    ReturnsInHanded {} Try.checked os 10 .any (Rows.fnExactFeeForSpec.pre6 enc Try.prog Try.f10 Rows.fnExactFeeForRow.domain false) (Rows.fnExactFeeForSpec.post enc Try.prog Try.f10 false true false false) := by
  refine returnsInHanded_of_change (C := Try.checked) own started (by kernel_rfl) Try.func10
    (ChangeSpec.witness6 (enc := enc) (C := Try.checked) false ⟨#[], #[.agg #[.slice none 0 0, .int .i64 0, .int .i64 0, .int .i64 0], .int .i64 0, .agg #[.int .i64 0, .int .i64 0, .int .i64 0, .int .i64 0, .int .i64 0, .int .i64 0, .int .i64 0, .int .i64 0, .int .i64 0, .int .i64 0, .int .i64 0, .int .i64 0, .int .i64 0, .int .i64 0, .int .i64 0], .bool false], []⟩ 8 (by kernel_rfl) (by kernel_rfl) (by kernel_rfl) (by kernel_rfl)) ?_
  intro W base args ds gs before hval hW _ _
  have hp : Params Try.prog Try.f10.params.toList [(true, 4, (fun v => ∃ x : Tariff, v = eTariff x)), (false, 1, (fun v => ∃ n : Int, v = I n ∧ (Lit.int .i64 n).wf = true)), (true, 15, (fun v => ∃ x : Arms, v = eArms x)), (false, 1, (fun v => ∃ b : Bool, v = B b))] := by
    rw [Try.params10]
    exact ⟨⟨rd53, ⟨by kernel_rfl, of_decide_eq_true (by kernel_rfl)⟩, by rw [Try.underlying53]⟩, ⟨rd3, ⟨by kernel_rfl, of_decide_eq_true (by kernel_rfl)⟩, by rw [Try.underlying3]⟩, ⟨rd59, ⟨by kernel_rfl, of_decide_eq_true (by kernel_rfl)⟩, by rw [Try.underlying59]⟩, ⟨rd4, ⟨by kernel_rfl, of_decide_eq_true (by kernel_rfl)⟩, by rw [Try.underlying4]⟩, trivial⟩
  refine law_calls (P := Try.prog) (f := 10) (tb := 4) (s := Rows.fnExactFeeForSpec) (small := fun _ => True) laidOut rfl ?_ rfl Try.underlying4 hp ?_ H enc W base args ds gs before hval hW trivial trivial
  · intro H ds0 hd
    cases ds0 with
    | nil => cases hd
    | cons d0 ds1 =>
      cases ds1 with
      | nil => cases hd
      | cons d1 ds2 =>
        cases ds2 with
        | nil => cases hd
        | cons d2 ds3 =>
          cases ds3 with
          | nil => cases hd
          | cons d3 ds4 =>
            cases ds4 with
            | nil => rfl
            | cons _ _ => cases hd
  · intro vs h0 _
    obtain ⟨_, _, rfl, ⟨x0, rfl⟩, h1⟩ := h0.cons
    obtain ⟨_, _, rfl, ⟨x1, rfl, h1w⟩, h2⟩ := h1.cons
    obtain ⟨_, _, rfl, ⟨x2, rfl⟩, h3⟩ := h2.cons
    obtain ⟨_, _, rfl, ⟨x3, rfl⟩, h4⟩ := h3.cons
    obtain rfl := h4.nil
    exact w_FnExactFeeFor x0 x1 x2 x3

theorem FnExactFeeFor : Rows.FnExactFeeForSaid :=
  OpenClaim.holds_of_wide 10 Try.f10 rfl rfl rfl rfl rfl rfl rfl ⟨rfl, rfl, rfl, rfl, rfl⟩ rfl rfl rfl rfl rfl (by kernel_rfl) Try.func10 (by kernel_rfl)
    (of_decide_eq_true (by kernel_rfl)) (by unfold Func.isWrapper; first | (rw [if_pos (by decide +kernel)]; kernel_rfl) | (rw [if_neg (by decide +kernel)]; exact ⟨rfl, rfl⟩))
    (fun os started H enc _ => lifted os started H enc)
end Go.Proofs.Ytnihjjelamfgdaa
