/- The helpers of the laws on rows of whole numbers: size, copy, equality, marking, looking for the marks. -/
import Derived.Test.YtgefdcllialhkaaBase
set_option linter.unusedVariables false
set_option linter.unusedSimpArgs false
namespace Go.Proofs.Ytgefdcllialhkaa
open Go.Abs

/-- k, k + 1, .. -/
def marks (k : Int) (n : Nat) : List Int := (List.range n).map fun i : Nat => k + (i : Int)
theorem marks_len (k : Int) (n : Nat) : (marks k n).length = n := by simp [marks]
theorem marks_get (k : Int) (n i : Nat) (h : i < n) : (marks k n)[i]? = some (k + i) := by simp [marks, h]

/-- Are the marks still there? -/
def held (l : List Int) (k : Int) : Int := if l = marks k l.length then k + l.length else -1
theorem held_marks_IntS (l : List Int) (k : Int) : held (marks k l.length) k = k + l.length := by simp [held, marks_len]
end Go.Proofs.Ytgefdcllialhkaa
