/- Rows of grants: the laws' marks (written by wip/tools/grantgen.py). -/
import Derived.Test.YtcfmohcpfmedaaaGreatDoorGrant
import Derived.Test.YtcfmohcpfmedaaaGreatDoorMarkText
set_option linter.unusedVariables false
set_option linter.unusedSimpArgs false
namespace Go.Proofs.YtcfmohcpfmedaaaGreatDoor
open Go.Abs

/-- The marks of one. -/
def mkGrant (k : Nat) : Grant := ⟨((k : Nat) : Int), markT (k + 1), ((k + 2 : Nat) : Int), ⟨⟨((k + 3 : Nat) : Int), ((k + 4 : Nat) : Int), ((k + 5 : Nat) : Int), ((k + 6 : Nat) : Int)⟩, ((k + 7 : Nat) : Int), ((k + 8 : Nat) : Int), ((k + 9 : Nat) : Int), ⟨((k + 10 : Nat) : Int), ((k + 11 : Nat) : Int), ((k + 12 : Nat) : Int), ((k + 13 : Nat) : Int)⟩, ⟨((k + 14 : Nat) : Int), ((k + 15 : Nat) : Int), ((k + 16 : Nat) : Int), ((k + 17 : Nat) : Int)⟩⟩⟩
def marksGrant (k : Nat) (n : Nat) : List Grant := (List.range n).map fun i : Nat => mkGrant (k + 18 * i)
theorem marksGrant_len (k n : Nat) : (marksGrant k n).length = n := by simp [marksGrant]
theorem marksGrant_succ (k : Nat) (n : Nat) : marksGrant k (n + 1) = marksGrant k n ++ [mkGrant (k + 18 * n)] := by simp only [marksGrant, List.range_succ, List.map_append, List.map_cons, List.map_nil]
theorem marksGrant_get {k m i : Nat} (h : i < (marksGrant k m).length) : (marksGrant k m)[i] = mkGrant (k + 18 * i) := by simp [marksGrant]

end Go.Proofs.YtcfmohcpfmedaaaGreatDoor
