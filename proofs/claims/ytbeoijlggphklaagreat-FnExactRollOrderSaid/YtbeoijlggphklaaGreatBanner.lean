/- The test of a banner, in the program and in the reference. -/
import Derived.Test.YtbeoijlggphklaaGreatCodeBanner
import Derived.Test.YtbeoijlggphklaaGreatLib
set_option linter.unusedVariables false
set_option linter.unusedSimpArgs false
namespace Go.Proofs.YtbeoijlggphklaaGreat
open Go.Abs

theorem s_l2Good (x : Int) : PCall Tryz.prog n_s_l2Good [I x] (B (inR x 1 9)) := by
  refine PCall.of fn_s_l2Good (by simp) ?_
  simp [c_s_l2Good, r_s_l2Good_0, r_s_l2Good_1]
  exact callQ_v (s_l1In ..) (by simp)
theorem i_IsTincture (x : Int) : PCall Tryz.prog n_i_IsTincture [I x] (B (inR x 1 9)) := by
  refine PCall.of fn_i_IsTincture (by simp) ?_
  simp [c_i_IsTincture, r_i_IsTincture_0, r_i_IsTincture_1]
  exact callQ_v (i_inside ..) (by simp)
/-- A valid row of a banner whose rows have n cells. -/
def rowOk (n : Nat) (r : List Int) : Bool := decide (r.length = n) && r.all fun x => inR x 1 9
/-- How many columns a banner has. -/
def wide (b : List (List Int)) : Nat := (b.headD []).length
theorem wide_get {b : List (List Int)} (h : 0 < b.length) : wide b = b[0].length := by
  cases b with
  | nil => simp at h
  | cons x b => rfl
/-- A valid banner. -/
def banner (b : List (List Int)) : Bool := inR b.length 1 60 && inR (wide b) 1 60 && b.all (rowOk (wide b))

end Go.Proofs.YtbeoijlggphklaaGreat
