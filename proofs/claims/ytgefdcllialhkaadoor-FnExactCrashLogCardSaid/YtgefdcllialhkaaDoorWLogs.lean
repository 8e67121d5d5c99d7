/- The law functions: FnExactRecoverLog, FnExactIsValidLog, FnExactSyncLog, FnExactAppendRecord. -/
import Derived.Test.YtgefdcllialhkaaDoorCodeWLogs
import Derived.Test.YtgefdcllialhkaaDoorEqLog
import Derived.Test.YtgefdcllialhkaaDoorLogs
set_option linter.unusedVariables false
set_option linter.unusedSimpArgs false
namespace Go.Proofs.YtgefdcllialhkaaDoor
open Go.Abs

theorem w_szLog (l : Log) (left : Int) (h0 : 0 ≤ left) (h1 : left ≤ 1048576) : PCall Tryd.prog n_w_szLog [eLog l, I left] (I (rest left (l.durable.length + l.pending.length))) := by
  refine PCall.ofL fn_w_szLog (by simp) fun hl => ?_
  simp at hl
  obtain ⟨hc, hr⟩ := hl
  simp [c_w_szLog, r_w_szLog_0, r_w_szLog_1]
  rw [wrap64 (by omega) (by omega)]
  simp [r_w_szLog_2]
  refine ⟨fun h => ?_, fun h => ?_⟩
  · simp [r_w_szLog_3, rest]
    omega
  · simp [r_w_szLog_4]
    rw [wrap64 (by omega) (by omega)]
    simp [r_w_szLog_5, r_w_szLog_6, r_w_szLog_7, rest]
    constructor <;> intros <;> omega
theorem w_toLog (l : Log) : PCall Tryd.prog n_w_toLog [eLog l] (eLog l) := by
  refine PCall.of fn_w_toLog (by simp) ?_
  simp [c_w_toLog, r_w_toLog_0, r_w_toLog_1, r_w_toLog_2, r_w_toLog_3, r_w_toLog_4, r_w_toLog_5]
theorem fits_of {l : Log} (h : 0 ≤ rest 1048576 (l.durable.length + l.pending.length)) : fits l := by
  have := rest_nonneg (left := 1048576) (n := l.durable.length + l.pending.length) (by omega)
  unfold fits; omega

end Go.Proofs.YtgefdcllialhkaaDoor
