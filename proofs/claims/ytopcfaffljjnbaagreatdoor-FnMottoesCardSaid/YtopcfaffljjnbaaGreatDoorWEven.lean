/- EvenLines: program, law. -/
import Derived.Test.YtopcfaffljjnbaaGreatDoorEvenImpl
set_option linter.unusedVariables false
set_option linter.unusedSimpArgs false
namespace Go.Proofs.YtopcfaffljjnbaaGreatDoor
open Go.Abs

theorem onScroll_words {s : List UInt8} {w : Int} (h : onScroll s w = true) : (∀ x ∈ parts 32 s, (x.length : Int) ≤ w) ∧ ∀ x ∈ parts 32 s, x ≠ [] ∧ x.head? ≠ some 32 := by
  simp only [onScroll, Bool.and_eq_true, decide_eq_true_iff, inR_iff] at h
  obtain ⟨h1, h2, h3⟩ := h
  constructor
  · have : most (parts 32 s) ≤ w.toNat := by omega
    intro x hx
    have := most_le.1 this x hx
    omega
  · intro x hx
    rw [motto_parts, Bool.and_eq_true, List.all_eq_true] at h1
    have hw := h1.2 x hx
    cases x with
    | nil => simp [wordOk] at hw
    | cons a t =>
      refine ⟨by simp, fun e => ?_⟩
      simp at e
      subst e
      simp [wordOk, isAZ] at hw
theorem i_EvenLines (s : List UInt8) (w : Int) (hs : s.length ≤ 1048576) : PCall Tryz.prog n_i_EvenLines [S s, I w] (.tup [.own 1 ((evenL s w).map S), I (evenC s w), B (onScroll s w)]) := by
  refine PCall.ofN fn_i_EvenLines (by simp) ?_
  simp [c_i_EvenLines, r_i_EvenLines_0, r_i_EvenLines_1]
  refine callQ_v (i_isOnScroll s w hs) ?_
  cases h : onScroll s w with
  | false => simp [r_i_EvenLines_2, evenL, evenC, h]
  | true =>
    have hl := onScroll_len h
    have hle := parts_count 32 s
    have hc := count_le 32 s
    have ht := tot_parts 32 s
    obtain ⟨h1, h2⟩ := onScroll_words h
    simp [r_i_EvenLines_3]
    refine callQ_of (strings_Split s 32 (by omega)) rfl (.inl (by simp)) (by simp) ?_
    simp
    refine callQ_of (PCall.arg (i_even (parts 32 s) w (by omega) (by omega) hl.2 h1 h2 (by omega)) (by simp)) rfl (.inl (by simp)) (by simp) ?_
    simp [r_i_EvenLines_4, evenL, evenC, h]
theorem evenL_len (s : List UInt8) (w : Int) : (evenL s w).length ≤ 61 := by
  unfold evenL
  split
  · rename_i h
    have h1 := (onScroll_len h).1
    have h2 := parts_count 32 s
    have h3 := count_le 32 s
    have := evens_len w (parts 32 s)
    omega
  · simp
end Go.Proofs.YtopcfaffljjnbaaGreatDoor
