/- CenterLine: program, reference, law. -/
import Derived.Test.YtopcfaffljjnbaaGreatDoorCenter
set_option linter.unusedVariables false
set_option linter.unusedSimpArgs false
namespace Go.Proofs.YtopcfaffljjnbaaGreatDoor
open Go.Abs

def centerOk (line : List UInt8) (w : Int) : Bool := motto line && inR w line.length 40
def centerL (line : List UInt8) (w : Int) : List UInt8 := if centerOk line w then centerT line w else []
theorem centerOk_iff {line : List UInt8} {w : Int} (h : centerOk line w = true) : (line.length : Int) ≤ w ∧ w ≤ 40 := by
  simp only [centerOk, Bool.and_eq_true, inR_iff] at h
  omega
theorem motto_pos {s : List UInt8} (h : motto s = true) : 1 ≤ s.length := by
  simp only [motto, Bool.and_eq_true, inR_iff] at h
  omega
theorem s_CenterLine (line : List UInt8) (w : Int) (hl : line.length ≤ 1048576) : PCall Tryz.prog n_s_CenterLine [S line, I w] (.tup [S (centerL line w), B (centerOk line w)]) := by
  refine PCall.of fn_s_CenterLine (by simp) ?_
  simp [c_s_CenterLine, r_s_CenterLine_0, r_s_CenterLine_1]
  refine callQ_v (s_l23Good line) ?_
  cases h1 : motto line with
  | false => simp [r_s_CenterLine_2, centerL, centerOk, h1]
  | true =>
  simp
  refine callQ_v (s_l1In ..) ?_
  cases h2 : inR w line.length 40 with
  | false => simp [r_s_CenterLine_2, centerL, centerOk, h1, h2]
  | true =>
    have h := centerOk_iff (line := line) (w := w) (by rw [centerOk, h1, h2]; rfl)
    simp [r_s_CenterLine_3]
    refine callQ_v (s_l23Center line w h.1 (by omega)) ?_
    simp [centerL, centerOk, h1, h2]
theorem i_CenterLine (line : List UInt8) (w : Int) (hl : line.length ≤ 1048576) : PCall Tryz.prog n_i_CenterLine [S line, I w] (.tup [S (centerL line w), B (centerOk line w)]) := by
  refine PCall.of fn_i_CenterLine (by simp) ?_
  simp [c_i_CenterLine, r_i_CenterLine_0, r_i_CenterLine_1]
  refine callQ_v (i_IsValidMotto line) ?_
  cases h1 : motto line with
  | false => simp [r_i_CenterLine_2, centerL, centerOk, h1]
  | true =>
  have hp := motto_pos h1
  simp
  refine callQ_v (i_isWidth w) ?_
  cases h3 : inR w 1 40 with
  | false =>
    have h2 : inR w line.length 40 = false := by
      rw [inR_not] at h3 ⊢; omega
    simp [r_i_CenterLine_2, centerL, centerOk, h1, h2]
  | true =>
  have h3' := inR_iff.1 h3
  simp
  refine ⟨fun hlt => ?_, fun hge => ?_⟩
  · have h2 : inR w line.length 40 = false := by
      rw [inR_not]; omega
    simp [r_i_CenterLine_2, centerL, centerOk, h1, h2]
  · have h2 : inR w line.length 40 = true := by
      rw [inR_iff]; omega
    simp [r_i_CenterLine_3]
    refine callQ_v (i_centered line w (by omega) (by omega)) ?_
    simp [centerL, centerOk, h1, h2]
end Go.Proofs.YtopcfaffljjnbaaGreatDoor
