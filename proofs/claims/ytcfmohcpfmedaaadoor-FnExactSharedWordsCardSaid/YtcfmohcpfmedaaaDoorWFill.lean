/- FillLines: program, reference, law. -/
import Derived.Test.YtcfmohcpfmedaaaDoorCodeWFill
import Derived.Test.YtcfmohcpfmedaaaDoorFill
import Derived.Test.YtcfmohcpfmedaaaDoorMarkText
set_option linter.unusedVariables false
set_option linter.unusedSimpArgs false
namespace Go.Proofs.YtcfmohcpfmedaaaDoor
open Go.Abs

def linesF (s : List UInt8) (w : Int) : List (List UInt8) := if onScroll s w then fill w (parts 32 s) else []
theorem onScroll_len {s : List UInt8} {w : Int} (h : onScroll s w = true) : s.length ≤ 60 ∧ w ≤ 40 := by
  simp only [onScroll, motto, Bool.and_eq_true, inR_iff] at h
  omega
theorem fillGo_len (w : Int) : ∀ (r : List (List UInt8)) (cur : List UInt8), (fillGo w cur r).length ≤ r.length + 1
  | [], cur => by simp [fillGo]
  | x :: r, cur => by
    rw [fillGo]
    split
    · have := fillGo_len w r (cur ++ 32 :: x); simp; omega
    · have := fillGo_len w r x; simp; omega
theorem linesF_len (s : List UInt8) (w : Int) : (linesF s w).length ≤ 61 := by
  unfold linesF
  split
  · rename_i h
    have h1 := (onScroll_len h).1
    have h2 := parts_count 32 s
    have h3 := count_le 32 s
    cases hp : parts 32 s with
    | nil => simp [fill]
    | cons x xs =>
      have := fillGo_len w xs x
      rw [hp] at h2
      simp [fill] at h2 ⊢; omega
  · simp
theorem i_FillLines (s : List UInt8) (w : Int) (hs : s.length ≤ 1048576) : PCall Tryd.prog n_i_FillLines [S s, I w] (.tup [.own 1 ((linesF s w).map S), B (onScroll s w)]) := by
  refine PCall.ofN fn_i_FillLines (by simp) ?_
  simp [c_i_FillLines, r_i_FillLines_0, r_i_FillLines_1]
  refine callQ_v (i_isOnScroll s w hs) ?_
  cases h : onScroll s w with
  | false => simp [r_i_FillLines_2, linesF, h]
  | true =>
    simp [r_i_FillLines_3]
    refine callQ_of (i_wrapped s w (onScroll_len h).1 (onScroll_len h).2) rfl (.inl (by simp)) (by simp) ?_
    simp [linesF, h]
theorem s_FillLines (s : List UInt8) (w : Int) (hs : s.length ≤ 1048576) : PCall Tryd.prog n_s_FillLines [S s, I w] (.tup [.own 1 ((linesF s w).map S), B (onScroll s w)]) := by
  refine PCall.of fn_s_FillLines (by simp) ?_
  simp [c_s_FillLines, r_s_FillLines_0, r_s_FillLines_1]
  refine callQ_v (s_l23Fits s w hs) ?_
  cases h : onScroll s w with
  | false => simp [r_s_FillLines_2, linesF, h]
  | true =>
    simp [r_s_FillLines_3]
    refine callQ_of (s_l23Fill s w (onScroll_len h).1) rfl (.inl (by simp)) (by simp) ?_
    simp [linesF, h]

theorem w_FnExactFillLines (s : List UInt8) (w : Int) : PCall Tryd.prog n_w_FnExactFillLines [S s, I w] (B true) := by
  have hlen := linesF_len s w
  refine PCall.of fn_w_FnExactFillLines (by simp) ?_
  simp [c_w_FnExactFillLines, r_w_FnExactFillLines_0, r_w_FnExactFillLines_1]
  refine ⟨fun _ => by simp [r_w_FnExactFillLines_2], fun hs => ?_⟩
  simp [r_w_FnExactFillLines_3]
  refine callQ_of (PCall.arg (s_FillLines s w (by omega)) (by simp)) rfl (.inl (by simp)) (by simp) ?_
  simp [r_w_FnExactFillLines_4]
  refine callQ_of (PCall.arg (i_FillLines s w (by omega)) (by simp)) rfl (.inl (by simp)) (by simp) ?_
  simp [r_w_FnExactFillLines_5]
  refine callQ_v (PCall.arg (w_eqStringS (linesF s w) (linesF s w)) (by simp)) ?_
  simp
  simp [r_w_FnExactFillLines_7, r_w_FnExactFillLines_8]
  refine callQ_m [25] (MCall.arg (w_markStringS (linesF s w) 1 (by omega) (by omega)) (by simp)) (by simp) (by simp) (by simp) (by simp) ?_
  have hk1 : ¬ (1 + ((linesF s w).length : Int) < 0) := by omega
  simp [r_w_FnExactFillLines_9, r_w_FnExactFillLines_10, hk1]
  refine callQ_v (PCall.arg (w_heldStringS_marks 1 (linesF s w).length (by omega) (by omega)) (by simp [marksT_len, List.take_of_length_le])) ?_
  simp [r_w_FnExactFillLines_11, r_w_FnExactFillLines_13, r_w_FnExactFillLines_15, hk1]
  refine callQ_of (PCall.arg (i_FillLines s w (by omega)) (by simp)) rfl (.inl (by simp)) (by simp) ?_
  simp [r_w_FnExactFillLines_16]
  refine callQ_v (PCall.arg (w_eqStringS (linesF s w) (linesF s w)) (by simp)) ?_
  simp [r_w_FnExactFillLines_18, r_w_FnExactFillLines_19]
  refine callQ_v (PCall.arg (w_heldStringS_marks 1 (linesF s w).length (by omega) (by omega)) (by simp [marksT_len, List.take_of_length_le])) ?_
  simp [r_w_FnExactFillLines_20, r_w_FnExactFillLines_22, r_w_FnExactFillLines_24, hk1]
end Go.Proofs.YtcfmohcpfmedaaaDoor
