/- Contracts of small helpers. -/
import Derived.Test.YtaieoaahmmcnmaaCode
import Derived.Test.YtaieoaahmmcnmaaAbsEval
namespace Go.Proofs.Ytaieoaahmmcnmaa
open Go.Abs
theorem f60 (n lo hi : Int) : PCall Try.prog 60 [I n, I lo, I hi] (B (decide (lo ≤ n) && decide (n ≤ hi))) := by
  refine PCall.of fn60 (by simp) ?_
  simp [c60, r60_0, r60_1]
  omega
theorem f61 (n lo hi : Int) : PCall Try.prog 61 [I n, I lo, I hi] (B (decide (lo ≤ n) && decide (n ≤ hi))) := by
  refine PCall.of fn61 (by simp) ?_
  simp [c61, r61_0, r61_1]
  omega
end Go.Proofs.Ytaieoaahmmcnmaa
