/- CrashLog: the law. -/
import Derived.Test.YtgefdcllialhkaaDoorCodeWCrash
import Derived.Test.YtgefdcllialhkaaDoorWLogs
import Derived.Test.YtgefdcllialhkaaDoorCrash
set_option linter.unusedVariables false
set_option linter.unusedSimpArgs false
namespace Go.Proofs.YtgefdcllialhkaaDoor
open Go.Abs

theorem w_FnExactCrashLog (l : Log) (n : Int) (b : Bool) : PCall Tryd.prog n_w_FnExactCrashLog [eLog l, I n, B b] (B true) := by
  refine PCall.of fn_w_FnExactCrashLog (by simp) ?_
  simp [c_w_FnExactCrashLog, r_w_FnExactCrashLog_0, r_w_FnExactCrashLog_1, r_w_FnExactCrashLog_2]
  refine callQ_v (PCall.arg (w_szLog l 1048576 (by omega) (by omega)) (by simp)) ?_
  simp [r_w_FnExactCrashLog_3]
  refine ⟨fun _ => by simp [r_w_FnExactCrashLog_4], fun hge => ?_⟩
  have hf := fits_of hge
  simp [r_w_FnExactCrashLog_5]
  refine callQ_of (PCall.arg (w_toLog l) (by simp)) rfl (.inl (by simp)) (by simp) ?_
  simp
  refine callQ_of (PCall.arg (s_CrashLog l n b hf) (by simp)) rfl (.inl (by simp)) (by simp) ?_
  simp [r_w_FnExactCrashLog_6]
  refine callQ_of (PCall.arg (w_toLog l) (by simp)) rfl (.inl (by simp)) (by simp) ?_
  simp
  refine callQ_of (PCall.arg (i_CrashLog l n b hf) (by simp)) rfl (.inl (by simp)) (by simp) ?_
  simp [r_w_FnExactCrashLog_7]
  simp [r_w_FnExactCrashLog_9]
end Go.Proofs.YtgefdcllialhkaaDoor
