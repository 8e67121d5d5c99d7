/- The reference's split of a text at a byte. -/
import Derived.Test.YtbeoijlggphklaaGreatTexts
import Derived.Test.YtbeoijlggphklaaGreatAbs4
set_option linter.unusedVariables false
set_option linter.unusedSimpArgs false
namespace Go.Proofs.YtbeoijlggphklaaGreat
open Go.Abs

end Go.Proofs.YtbeoijlggphklaaGreat
