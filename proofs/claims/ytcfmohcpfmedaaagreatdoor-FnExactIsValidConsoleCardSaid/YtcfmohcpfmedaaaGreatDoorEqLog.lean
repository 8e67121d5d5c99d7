/- Two equal logs. -/
import Derived.Test.YtcfmohcpfmedaaaGreatDoorCodeEqLog
import Derived.Test.YtcfmohcpfmedaaaGreatDoorLogT
set_option linter.unusedVariables false
set_option linter.unusedSimpArgs false
namespace Go.Proofs.YtcfmohcpfmedaaaGreatDoor
open Go.Abs

theorem w_eqLog (p : Log) : PCall Tryz.prog n_w_eqLog [.agg [S p.durable, S p.pending, I p.count], .agg [S p.durable, S p.pending, I p.count]] (B true) := by
  refine PCall.of fn_w_eqLog (by simp) ?_
  simp [c_w_eqLog, r_w_eqLog_0, r_w_eqLog_1, r_w_eqLog_3, r_w_eqLog_5, r_w_eqLog_7]
end Go.Proofs.YtcfmohcpfmedaaaGreatDoor
