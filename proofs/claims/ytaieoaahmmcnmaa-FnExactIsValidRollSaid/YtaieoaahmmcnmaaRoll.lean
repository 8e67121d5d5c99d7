/- Both IsValidRoll functions of a roll's format answer alike, for every format: the law function FnExactIsValidRoll returns true. -/
import Derived.Test.YtaieoaahmmcnmaaCode
import Derived.Test.YtaieoaahmmcnmaaAbsEval
import Derived.Test.YtaieoaahmmcnmaaAbsLaw
import Derived.Test.YtaieoaahmmcnmaaRows
namespace Go.Proofs.Ytaieoaahmmcnmaa
open Go.Abs Go.RowKit
theorem f60 (n lo hi : Int) : PCall Try.prog 60 [I n, I lo, I hi] (B (decide (lo ≤ n) && decide (n ≤ hi))) := by
  refine PCall.of fn60 (by simp) ?_
  simp [c60, r60_0, r60_1]
  omega
theorem f61 (n lo hi : Int) : PCall Try.prog 61 [I n, I lo, I hi] (B (decide (lo ≤ n) && decide (n ≤ hi))) := by
  refine PCall.of fn61 (by simp) ?_
  simp [c61, r61_0, r61_1]
  omega
theorem f88 (n : Int) : PCall Try.prog 88 [I n] (B (decide (1 ≤ n) && decide (n ≤ 3))) := by
  refine PCall.of fn88 (by simp) ?_
  simp [c88, r88_0, r88_1]
  refine callQ_v (f61 ..) ?_
  simp
theorem f16 (a b c : Int) : PCall Try.prog 16 [.agg [I a, I b, I c]] (.agg [I a, I b, I c]) := by
  refine PCall.of fn16 (by simp) ?_
  simp [c16, r16_0, r16_1, r16_2, r16_3, r16_4, r16_5]
def roll (a b c : Int) : Bool := (decide (1 ≤ a) && decide (a ≤ 3)) && (decide (20 ≤ b) && decide (b ≤ 60)) && (decide (4 ≤ c) && decide (c ≤ 20))
theorem f17 (a b c : Int) : PCall Try.prog 17 [.agg [I a, I b, I c]] (B (roll a b c)) := by
  refine PCall.of fn17 (by simp) ?_
  simp [c17, r17_0, r17_1]
  refine callQ_v (f60 ..) ?_
  simp
  refine ⟨fun _ _ => callQ_v (f60 ..) ?_, ?_⟩
  · simp
    refine ⟨fun _ _ => callQ_v (f60 ..) ?_, ?_⟩
    · simp [roll, *]
    · simp [roll, *]; omega
  · simp [roll]; omega
theorem f59 (a b c : Int) : PCall Try.prog 59 [.agg [I a, I b, I c]] (B (roll a b c)) := by
  refine PCall.of fn59 (by simp) ?_
  simp [c59, r59_0, r59_1]
  refine callQ_v (f88 ..) ?_
  simp
  refine ⟨fun _ _ => callQ_v (f61 ..) ?_, ?_⟩
  · simp
    refine ⟨fun _ _ => callQ_v (f61 ..) ?_, ?_⟩
    · simp [roll, *]
    · simp [roll, *]; omega
  · simp [roll]; omega
theorem f15 (a b c : Int) : PCall Try.prog 15 [.agg [I a, I b, I c]] (B (roll a b c)) := by
  refine PCall.of fn15 (by simp) ?_
  simp [c15, r15_0, r15_1]
  refine callQ_v (f59 ..) ?_
  simp
theorem f3 (a b c : Int) : PCall Try.prog 3 [.agg [I a, I b, I c]] (B true) := by
  refine PCall.of fn3 (by simp) ?_
  simp [c3, r3_0, r3_1, r3_2, r3_3, r3_4, r3_5]
  refine callQ_of (f16 ..) rfl (.inl rfl) rfl ?_
  simp
  refine callQ_v (f15 ..) ?_
  simp
  refine callQ_of (f16 ..) rfl (.inl rfl) rfl ?_
  simp
  refine callQ_v (f17 ..) ?_
  simp


theorem own : ownKnob Try.prog.godebug = none := by kernel_rfl
theorem laidOut : laidOutB Try.prog = true := by kernel_rfl


theorem rd3 : Reads Try.prog 3 false 1 (fun v => ∃ n, v = I n ∧ (Lit.int .i64 n).wf = true) := Reads.int Try.underlying3
theorem cells3 : Try.prog.cellsOf 3 = 1 := by kernel_rfl
theorem cells23 : Try.prog.cellsOf 23 = 3 := by kernel_rfl
/-- A whole number, as it reads. -/
def Num (v : V) : Prop := ∃ n, v = I n ∧ (Lit.int .i64 n).wf = true
theorem rd23 : Reads Try.prog 23 true 3 (fun v => ∃ a b c, v = .agg [I a, I b, I c]) := by
  have h : Reads Try.prog 23 true 3 (fun v => ∃ vs, Each [(false, 1, Num), (false, 1, Num), (false, 1, Num)] vs ∧ v = .agg (vs.flatMap cellsV)) :=
    Reads.struct Try.underlying23 ⟨rfl, cells3, rd3, rfl, cells3, rd3, rfl, cells3, rd3, trivial⟩ rfl cells23
  refine h.imp fun v hv => ?_
  obtain ⟨vs, he, rfl⟩ := hv
  obtain ⟨_, _, rfl, ⟨a, rfl, _⟩, h1⟩ := he.cons
  obtain ⟨_, _, rfl, ⟨b, rfl, _⟩, h2⟩ := h1.cons
  obtain ⟨_, _, rfl, ⟨c, rfl, _⟩, h3⟩ := h2.cons
  obtain rfl := h3.nil
  exact ⟨a, b, c, rfl⟩

set_option maxRecDepth 100000 in
theorem lifted (os : Os) (started : os.Started) (H : Type) (enc : TypeId × Value → H) :
    ReturnsInHanded {} Try.checked os 3 .any (Rows.fnExactIsValidRollSpec.pre6 enc Try.prog Try.f3 Rows.fnExactIsValidRollRow.domain false) (Rows.fnExactIsValidRollSpec.post enc Try.prog Try.f3 false true false false) := by
  refine returnsInHanded_of_change (C := Try.checked) own started (by kernel_rfl) Try.func3
    (ChangeSpec.witness6 (enc := enc) (C := Try.checked) false ⟨#[], #[.agg #[.int .i64 0, .int .i64 0, .int .i64 0]], []⟩ 8 (by kernel_rfl) (by kernel_rfl) (by kernel_rfl) (by kernel_rfl)) ?_
  intro W base args ds gs before hval hW _ _
  have hp : Params Try.prog Try.f3.params.toList [(true, 3, fun v => ∃ a b c, v = .agg [I a, I b, I c])] := by
    rw [Try.params3]
    exact ⟨⟨rd23, ⟨by kernel_rfl, of_decide_eq_true (by kernel_rfl)⟩, by rw [Try.underlying23]⟩, trivial⟩
  refine law_calls (P := Try.prog) (f := 3) (tb := 4) (s := Rows.fnExactIsValidRollSpec) (small := fun _ => True) laidOut rfl ?_ rfl Try.underlying4 hp ?_ H enc W base args ds gs before hval hW trivial
  · intro H ds hd
    cases ds with
    | nil => cases hd
    | cons d ds => cases ds with
      | nil => rfl
      | cons _ _ => cases hd
  · intro vs he _
    obtain ⟨_, _, rfl, ⟨a, b, c, rfl⟩, h1⟩ := he.cons
    obtain rfl := h1.nil
    exact f3 a b c

theorem FnExactIsValidRoll : Rows.FnExactIsValidRollSaid :=
  OpenClaim.holds_of_wide 3 Try.f3 rfl rfl rfl rfl rfl rfl rfl ⟨rfl, rfl, rfl, rfl, rfl⟩ rfl rfl rfl rfl rfl (by kernel_rfl) Try.func3 (by kernel_rfl)
    (of_decide_eq_true (by kernel_rfl)) (by unfold Func.isWrapper; first | (rw [if_pos (by decide +kernel)]; kernel_rfl) | (rw [if_neg (by decide +kernel)]; exact ⟨rfl, rfl⟩))
    (fun os started H enc _ => lifted os started H enc)
end Go.Proofs.Ytaieoaahmmcnmaa
