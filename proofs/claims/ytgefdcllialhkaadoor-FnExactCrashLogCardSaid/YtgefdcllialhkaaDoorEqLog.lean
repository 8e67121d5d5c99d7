/- Two equal logs. -/
import Derived.Test.YtgefdcllialhkaaDoorLogT
set_option linter.unusedVariables false
set_option linter.unusedSimpArgs false
namespace Go.Proofs.YtgefdcllialhkaaDoor
open Go.Abs

end Go.Proofs.YtgefdcllialhkaaDoor
