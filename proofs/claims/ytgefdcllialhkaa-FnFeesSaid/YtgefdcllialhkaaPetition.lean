/- Petitions: the helpers of the laws. -/
import Derived.Test.YtgefdcllialhkaaBase
set_option linter.unusedVariables false
set_option linter.unusedSimpArgs false
namespace Go.Proofs.Ytgefdcllialhkaa
open Go.Abs

structure Petition where
  number : Int
  rank : Int
  day : Int
  state : Int
  paid : Int
  deriving DecidableEq

/-- How it lies in memory. -/
abbrev ePetition (p : Petition) : V := .agg [I p.number, I p.rank, I p.day, I p.state, I p.paid]

theorem Petition.eq_iff (p q : Petition) : p = q ↔ p.number = q.number ∧ p.rank = q.rank ∧ p.day = q.day ∧ p.state = q.state ∧ p.paid = q.paid := by
  cases p; cases q; simp

/-- The marks of one. -/
def mkPetition (k : Int) : Petition := ⟨k, k + 1, k + 2, k + 3, k + 4⟩
def marksPetition (k : Int) (n : Nat) : List Petition := (List.range n).map fun i : Nat => mkPetition (k + 5 * (i : Int))
theorem marksPetition_len (k : Int) (n : Nat) : (marksPetition k n).length = n := by simp [marksPetition]
theorem marksPetition_succ (k : Int) (n : Nat) : marksPetition k (n + 1) = marksPetition k n ++ [mkPetition (k + 5 * (n : Int))] := by simp only [marksPetition, List.range_succ, List.map_append, List.map_cons, List.map_nil]

theorem marksPetition_get {k : Int} {m i : Nat} (h : i < (marksPetition k m).length) : (marksPetition k m)[i] = mkPetition (k + 5 * (i : Int)) := by simp [marksPetition]
end Go.Proofs.Ytgefdcllialhkaa
