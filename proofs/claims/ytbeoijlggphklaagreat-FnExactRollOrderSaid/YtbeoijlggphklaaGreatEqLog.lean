/- Two equal logs. -/
import Derived.Test.YtbeoijlggphklaaGreatLogT
set_option linter.unusedVariables false
set_option linter.unusedSimpArgs false
namespace Go.Proofs.YtbeoijlggphklaaGreat
open Go.Abs

end Go.Proofs.YtbeoijlggphklaaGreat
