/- FillLines: program, reference, law. -/
import Derived.Test.YtopcfaffljjnbaaGreatDoorFill
import Derived.Test.YtopcfaffljjnbaaGreatDoorMarkText
set_option linter.unusedVariables false
set_option linter.unusedSimpArgs false
namespace Go.Proofs.YtopcfaffljjnbaaGreatDoor
open Go.Abs

def linesF (s : List UInt8) (w : Int) : List (List UInt8) := if onScroll s w then fill w (parts 32 s) else []
theorem onScroll_len {s : List UInt8} {w : Int} (h : onScroll s w = true) : s.length ≤ 60 ∧ w ≤ 40 := by
  simp only [onScroll, motto, Bool.and_eq_true, inR_iff] at h
  omega
theorem fillGo_len (w : Int) : ∀ (r : List (List UInt8)) (cur : List UInt8), (fillGo w cur r).length ≤ r.length + 1
  | [], cur => by simp [fillGo]
  | x :: r, cur => by
    rw [fillGo]
    split
    · have := fillGo_len w r (cur ++ 32 :: x); simp; omega
    · have := fillGo_len w r x; simp; omega
theorem linesF_len (s : List UInt8) (w : Int) : (linesF s w).length ≤ 61 := by
  unfold linesF
  split
  · rename_i h
    have h1 := (onScroll_len h).1
    have h2 := parts_count 32 s
    have h3 := count_le 32 s
    cases hp : parts 32 s with
    | nil => simp [fill]
    | cons x xs =>
      have := fillGo_len w xs x
      rw [hp] at h2
      simp [fill] at h2 ⊢; omega
  · simp
theorem i_FillLines (s : List UInt8) (w : Int) (hs : s.length ≤ 1048576) : PCall Tryz.prog n_i_FillLines [S s, I w] (.tup [.own 1 ((linesF s w).map S), B (onScroll s w)]) := by
  refine PCall.ofN fn_i_FillLines (by simp) ?_
  simp [c_i_FillLines, r_i_FillLines_0, r_i_FillLines_1]
  refine callQ_v (i_isOnScroll s w hs) ?_
  cases h : onScroll s w with
  | false => simp [r_i_FillLines_2, linesF, h]
  | true =>
    simp [r_i_FillLines_3]
    refine callQ_of (i_wrapped s w (onScroll_len h).1 (onScroll_len h).2) rfl (.inl (by simp)) (by simp) ?_
    simp [linesF, h]
end Go.Proofs.YtopcfaffljjnbaaGreatDoor
