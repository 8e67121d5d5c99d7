/- The helpers of the laws on rows of rows of whole numbers. -/
import Derived.Test.YtgefdcllialhkaaInts
set_option linter.unusedVariables false
set_option linter.unusedSimpArgs false
namespace Go.Proofs.Ytgefdcllialhkaa
open Go.Abs

/-- The marks of rows. -/
def marksS : List (List Int) → Int → List (List Int)
  | [], _ => []
  | r :: l, k => marks k r.length :: marksS l (k + r.length)
theorem marksS_append (a b : List (List Int)) (k : Int) : marksS (a ++ b) k = marksS a k ++ marksS b (k + total a) := by
  induction a generalizing k with
  | nil => simp [marksS]
  | cons r a ih => simp [marksS, ih, Int.add_assoc]
theorem marksS_len (l : List (List Int)) (k : Int) : (marksS l k).length = l.length := by
  induction l generalizing k with
  | nil => rfl
  | cons r l ih => simp [marksS, ih]
theorem marksS_succ {l : List (List Int)} {i : Nat} (k : Int) (h : i < l.length) : marksS (l.take (i + 1)) k = marksS (l.take i) k ++ [marks (k + total (l.take i)) l[i].length] := by
  rw [take_succ' h, marksS_append]; simp [marksS]

def heldS (l : List (List Int)) (k : Int) : Int := if l = marksS l k then k + total l else -1
theorem marksS_total (l : List (List Int)) (k : Int) : total (marksS l k) = total l := by
  induction l generalizing k with
  | nil => rfl
  | cons r l ih => simp [marksS, ih, marks_len]
theorem marksS_idem (l : List (List Int)) (k : Int) : marksS (marksS l k) k = marksS l k := by
  induction l generalizing k with
  | nil => rfl
  | cons r l ih => simp [marksS, ih, marks_len]

theorem held_marks_IntSS (l : List (List Int)) (k : Int) : heldS (marksS l k) k = k + total l := by
  unfold heldS
  rw [if_pos (marksS_idem l k).symm, marksS_total]
end Go.Proofs.Ytgefdcllialhkaa
