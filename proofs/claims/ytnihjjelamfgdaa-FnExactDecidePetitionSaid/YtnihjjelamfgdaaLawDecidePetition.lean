/- The law function FnExactDecidePetition returns true for all arguments: the program and the reference agree. -/
import Derived.Test.YtnihjjelamfgdaaWDecide
import Derived.Test.YtnihjjelamfgdaaAbsLaw
import Derived.Test.YtnihjjelamfgdaaRows
set_option linter.unusedVariables false
set_option linter.unusedSimpArgs false
namespace Go.Proofs.Ytnihjjelamfgdaa
open Go.Abs Go.RowKit
theorem own : ownKnob Try.prog.godebug = none := by kernel_rfl
theorem laidOut : laidOutB Try.prog = true := by kernel_rfl
theorem rd3 : Reads Try.prog 3 false 1 (fun v => ∃ n : Int, v = I n ∧ (Lit.int .i64 n).wf = true) := Reads.int Try.underlying3
theorem cells3 : Try.prog.cellsOf 3 = 1 := by kernel_rfl
theorem cells111 : Try.prog.cellsOf 111 = 5 := by kernel_rfl
theorem rd111 : Reads Try.prog 111 true 5 (fun v => ∃ x : Petition, v = ePetition x) := by
  have h : Reads Try.prog 111 true 5 (fun v => ∃ vs, Each [(false, 1, (fun v => ∃ n : Int, v = I n ∧ (Lit.int .i64 n).wf = true)), (false, 1, (fun v => ∃ n : Int, v = I n ∧ (Lit.int .i64 n).wf = true)), (false, 1, (fun v => ∃ n : Int, v = I n ∧ (Lit.int .i64 n).wf = true)), (false, 1, (fun v => ∃ n : Int, v = I n ∧ (Lit.int .i64 n).wf = true)), (false, 1, (fun v => ∃ n : Int, v = I n ∧ (Lit.int .i64 n).wf = true))] vs ∧ v = .agg (vs.flatMap cellsV)) :=
    Reads.struct Try.underlying111 ⟨rfl, cells3, rd3, rfl, cells3, rd3, rfl, cells3, rd3, rfl, cells3, rd3, rfl, cells3, rd3, trivial⟩ rfl cells111
  refine h.imp fun v hv => ?_
  obtain ⟨vs, h0, rfl⟩ := hv
  obtain ⟨_, _, rfl, ⟨x0, rfl, _⟩, h1⟩ := h0.cons
  obtain ⟨_, _, rfl, ⟨x1, rfl, _⟩, h2⟩ := h1.cons
  obtain ⟨_, _, rfl, ⟨x2, rfl, _⟩, h3⟩ := h2.cons
  obtain ⟨_, _, rfl, ⟨x3, rfl, _⟩, h4⟩ := h3.cons
  obtain ⟨_, _, rfl, ⟨x4, rfl, _⟩, h5⟩ := h4.cons
  obtain rfl := h5.nil
  exact ⟨⟨x0, x1, x2, x3, x4⟩, rfl⟩
theorem rd29 : Reads Try.prog 29 false 1 (fun v => ∃ l : List Petition, v = V.ro 5 (l.map ePetition)) :=
  (Reads.slice Try.underlying29 cells111 (by decide) rd111).imp fun v hv => rows_of (fun e he => he) hv
theorem rd51 : Reads Try.prog 51 false 1 (fun v => ∃ l : List Int, v = V.ro 1 (l.map I)) :=
  (Reads.slice Try.underlying51 cells3 (by decide) rd3).imp fun v hv => rows_of (fun e he => ⟨_, he.choose_spec.1⟩) hv
theorem cells51 : Try.prog.cellsOf 51 = 1 := by kernel_rfl
theorem cells53 : Try.prog.cellsOf 53 = 4 := by kernel_rfl
theorem rd53 : Reads Try.prog 53 true 4 (fun v => ∃ x : Tariff, v = eTariff x) := by
  have h : Reads Try.prog 53 true 4 (fun v => ∃ vs, Each [(false, 1, (fun v => ∃ l : List Int, v = V.ro 1 (l.map I))), (false, 1, (fun v => ∃ n : Int, v = I n ∧ (Lit.int .i64 n).wf = true)), (false, 1, (fun v => ∃ n : Int, v = I n ∧ (Lit.int .i64 n).wf = true)), (false, 1, (fun v => ∃ n : Int, v = I n ∧ (Lit.int .i64 n).wf = true))] vs ∧ v = .agg (vs.flatMap cellsV)) :=
    Reads.struct Try.underlying53 ⟨rfl, cells51, rd51, rfl, cells3, rd3, rfl, cells3, rd3, rfl, cells3, rd3, trivial⟩ rfl cells53
  refine h.imp fun v hv => ?_
  obtain ⟨vs, h0, rfl⟩ := hv
  obtain ⟨_, _, rfl, ⟨x0, rfl⟩, h1⟩ := h0.cons
  obtain ⟨_, _, rfl, ⟨x1, rfl, _⟩, h2⟩ := h1.cons
  obtain ⟨_, _, rfl, ⟨x2, rfl, _⟩, h3⟩ := h2.cons
  obtain ⟨_, _, rfl, ⟨x3, rfl, _⟩, h4⟩ := h3.cons
  obtain rfl := h4.nil
  exact ⟨⟨x0, x1, x2, x3⟩, rfl⟩
theorem rd4 : Reads Try.prog 4 false 1 (fun v => ∃ b : Bool, v = B b) := Reads.bool Try.underlying4
set_option maxRecDepth 100000 in
theorem lifted (os : Os) (started : os.Started) (H : Type) (enc : TypeId × Value → H) :
    ReturnsInHanded {} Try.checked os 11 .any (Rows.fnExactDecidePetitionSpec.pre6 enc Try.prog Try.f11 Rows.fnExactDecidePetitionRow.domain false) (Rows.fnExactDecidePetitionSpec.post enc Try.prog Try.f11 false true false false) := by
  refine returnsInHanded_of_change (C := Try.checked) own started (by kernel_rfl) Try.func11
    (ChangeSpec.witness6 (enc := enc) (C := Try.checked) false ⟨#[], #[.slice none 0 0, .agg #[.slice none 0 0, .int .i64 0, .int .i64 0, .int .i64 0], .int .i64 0, .int .i64 0, .bool false], []⟩ 8 (by kernel_rfl) (by kernel_rfl) (by kernel_rfl) (by kernel_rfl)) ?_
  intro W base args ds gs before hval hW _ _
  have hp : Params Try.prog Try.f11.params.toList [(false, 1, (fun v => ∃ l : List Petition, v = V.ro 5 (l.map ePetition))), (true, 4, (fun v => ∃ x : Tariff, v = eTariff x)), (false, 1, (fun v => ∃ n : Int, v = I n ∧ (Lit.int .i64 n).wf = true)), (false, 1, (fun v => ∃ n : Int, v = I n ∧ (Lit.int .i64 n).wf = true)), (false, 1, (fun v => ∃ b : Bool, v = B b))] := by
    rw [Try.params11]
    exact ⟨⟨rd29, ⟨by kernel_rfl, of_decide_eq_true (by kernel_rfl)⟩, by rw [Try.underlying29]⟩, ⟨rd53, ⟨by kernel_rfl, of_decide_eq_true (by kernel_rfl)⟩, by rw [Try.underlying53]⟩, ⟨rd3, ⟨by kernel_rfl, of_decide_eq_true (by kernel_rfl)⟩, by rw [Try.underlying3]⟩, ⟨rd3, ⟨by kernel_rfl, of_decide_eq_true (by kernel_rfl)⟩, by rw [Try.underlying3]⟩, ⟨rd4, ⟨by kernel_rfl, of_decide_eq_true (by kernel_rfl)⟩, by rw [Try.underlying4]⟩, trivial⟩
  refine law_calls (P := Try.prog) (f := 11) (tb := 4) (s := Rows.fnExactDecidePetitionSpec) (small := fun _ => True) laidOut rfl ?_ rfl Try.underlying4 hp ?_ H enc W base args ds gs before hval hW trivial trivial
  · intro H ds0 hd
    cases ds0 with
    | nil => cases hd
    | cons d0 ds1 =>
      cases ds1 with
      | nil => cases hd
      | cons d1 ds2 =>
        cases ds2 with
        | nil => cases hd
        | cons d2 ds3 =>
          cases ds3 with
          | nil => cases hd
          | cons d3 ds4 =>
            cases ds4 with
            | nil => cases hd
            | cons d4 ds5 =>
              cases ds5 with
              | nil => rfl
              | cons _ _ => cases hd
  · intro vs h0 _
    obtain ⟨_, _, rfl, ⟨x0, rfl⟩, h1⟩ := h0.cons
    obtain ⟨_, _, rfl, ⟨x1, rfl⟩, h2⟩ := h1.cons
    obtain ⟨_, _, rfl, ⟨x2, rfl, h2w⟩, h3⟩ := h2.cons
    obtain ⟨_, _, rfl, ⟨x3, rfl, h3w⟩, h4⟩ := h3.cons
    obtain ⟨_, _, rfl, ⟨x4, rfl⟩, h5⟩ := h4.cons
    obtain rfl := h5.nil
    exact w_FnExactDecidePetition x0 x1 x2 x3 x4

theorem FnExactDecidePetition : Rows.FnExactDecidePetitionSaid :=
  OpenClaim.holds_of_wide 11 Try.f11 rfl rfl rfl rfl rfl rfl rfl ⟨rfl, rfl, rfl, rfl, rfl⟩ rfl rfl rfl rfl rfl (by kernel_rfl) Try.func11 (by kernel_rfl)
    (of_decide_eq_true (by kernel_rfl)) (by unfold Func.isWrapper; first | (rw [if_pos (by decide +kernel)]; kernel_rfl) | (rw [if_neg (by decide +kernel)]; exact ⟨rfl, rfl⟩))
    (fun os started H enc _ => lifted os started H enc)
end Go.Proofs.Ytnihjjelamfgdaa
