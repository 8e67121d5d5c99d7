/- The law functions: FnExactEncodeRecord. -/
import Derived.Test.YtgiggicbpnjakaaDoorCodeWEnc
import Derived.Test.YtgiggicbpnjakaaDoorNum
set_option linter.unusedVariables false
set_option linter.unusedSimpArgs false
namespace Go.Proofs.YtgiggicbpnjakaaDoor
open Go.Abs

theorem w_FnExactEncodeRecord (k : Int) (e : LogRecord) : PCall Tryd.prog n_w_FnExactEncodeRecord [I k, eLogRecord e] (B true) := by
  refine PCall.of fn_w_FnExactEncodeRecord (by simp) ?_
  simp [c_w_FnExactEncodeRecord, r_w_FnExactEncodeRecord_0, r_w_FnExactEncodeRecord_1, r_w_FnExactEncodeRecord_2]
  refine callQ_v (w_szLogRecord e 1048576 (by omega) (by omega)) ?_
  simp [r_w_FnExactEncodeRecord_3]
  refine ⟨fun _ => by simp [r_w_FnExactEncodeRecord_4], fun hge => ?_⟩
  simp [r_w_FnExactEncodeRecord_5]
  refine callQ_of (w_toLogRecord e) rfl (.inl (by simp)) (by simp) ?_
  simp
  refine callQ_of (s_EncodeRecord k e) rfl (.inl (by simp)) (by simp) ?_
  simp [r_w_FnExactEncodeRecord_6]
  refine callQ_of (w_toLogRecord e) rfl (.inl (by simp)) (by simp) ?_
  simp
  refine callQ_of (i_EncodeRecord k e) rfl (.inl (by simp)) (by simp) ?_
  simp [r_w_FnExactEncodeRecord_7, r_w_FnExactEncodeRecord_9]
end Go.Proofs.YtgiggicbpnjakaaDoor
