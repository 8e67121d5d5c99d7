/- What a log is. No program in sight. -/
import Derived.Test.YtbeoijlggphklaaGreatAbs4
set_option linter.unusedVariables false
set_option linter.unusedSimpArgs false
namespace Go.Proofs.YtbeoijlggphklaaGreat

structure Log where
  durable : List UInt8
  pending : List UInt8
  count : Int
  deriving DecidableEq
end Go.Proofs.YtbeoijlggphklaaGreat
