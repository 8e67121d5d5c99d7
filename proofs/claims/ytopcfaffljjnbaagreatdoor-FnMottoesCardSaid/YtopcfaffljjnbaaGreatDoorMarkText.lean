/- The texts by which the laws mark memory. -/
import Derived.Test.YtopcfaffljjnbaaGreatDoorTexts
set_option linter.unusedVariables false
set_option linter.unusedSimpArgs false
namespace Go.Proofs.YtopcfaffljjnbaaGreatDoor
open Go.Abs

def markT (k : Nat) : List UInt8 := 109 :: digits k
theorem wrap8 {n : Int} (h1 : 0 ≤ n) (h2 : n ≤ 255) : IntKind.u8.wrap n = n := by
  simp [IntKind.wrap, IntKind.signed, IntKind.bits]; omega
theorem markT_len (k : Nat) : (markT k).length ≤ k + 2 := by
  have := digits_le k
  simp [markT]; omega

def marksT (k n : Nat) : List (List UInt8) := (List.range n).map fun i => markT (k + i)
theorem marksT_len (k n : Nat) : (marksT k n).length = n := by simp [marksT]
theorem marksT_succ (k : Nat) (n : Nat) : marksT k (n + 1) = marksT k n ++ [markT (k + n)] := by simp only [marksT, List.range_succ, List.map_append, List.map_cons, List.map_nil]
theorem marksT_get {k m i : Nat} (h : i < (marksT k m).length) : (marksT k m)[i] = markT (k + i) := by simp [marksT]

end Go.Proofs.YtopcfaffljjnbaaGreatDoor
