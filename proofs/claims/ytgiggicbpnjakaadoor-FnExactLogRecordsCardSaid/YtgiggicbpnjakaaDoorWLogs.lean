/- The law functions: FnExactRecoverLog, FnExactIsValidLog, FnExactSyncLog, FnExactAppendRecord. -/
import Derived.Test.YtgiggicbpnjakaaDoorCodeWLogs
import Derived.Test.YtgiggicbpnjakaaDoorLogs
set_option linter.unusedVariables false
set_option linter.unusedSimpArgs false
namespace Go.Proofs.YtgiggicbpnjakaaDoor
open Go.Abs

theorem w_szLog (l : Log) (left : Int) (h0 : 0 ≤ left) (h1 : left ≤ 1048576) : PCall Tryd.prog n_w_szLog [eLog l, I left] (I (rest left (l.durable.length + l.pending.length))) := by
  refine PCall.ofL fn_w_szLog (by simp) fun hl => ?_
  simp at hl
  obtain ⟨hc, hr⟩ := hl
  simp [c_w_szLog, r_w_szLog_0, r_w_szLog_1]
  rw [wrap64 (by omega) (by omega)]
  simp [r_w_szLog_2]
  refine ⟨fun h => ?_, fun h => ?_⟩
  · simp [r_w_szLog_3, rest]
    omega
  · simp [r_w_szLog_4]
    rw [wrap64 (by omega) (by omega)]
    simp [r_w_szLog_5, r_w_szLog_6, r_w_szLog_7, rest]
    constructor <;> intros <;> omega
theorem w_toLog (l : Log) : PCall Tryd.prog n_w_toLog [eLog l] (eLog l) := by
  refine PCall.of fn_w_toLog (by simp) ?_
  simp [c_w_toLog, r_w_toLog_0, r_w_toLog_1, r_w_toLog_2, r_w_toLog_3, r_w_toLog_4, r_w_toLog_5]
theorem w_eqLog (p : Log) : PCall Tryd.prog n_w_eqLog [eLog p, eLog p] (B true) := by
  refine PCall.of fn_w_eqLog (by simp) ?_
  simp [c_w_eqLog, r_w_eqLog_0, r_w_eqLog_1, r_w_eqLog_3, r_w_eqLog_5, r_w_eqLog_7]
theorem fits_of {l : Log} (h : 0 ≤ rest 1048576 (l.durable.length + l.pending.length)) : fits l := by
  have := rest_nonneg (left := 1048576) (n := l.durable.length + l.pending.length) (by omega)
  unfold fits; omega

theorem w_FnExactRecoverLog (s : List UInt8) : PCall Tryd.prog n_w_FnExactRecoverLog [S s] (B true) := by
  refine PCall.of fn_w_FnExactRecoverLog (by simp) ?_
  simp [c_w_FnExactRecoverLog, r_w_FnExactRecoverLog_0, r_w_FnExactRecoverLog_1]
  refine ⟨fun _ => by simp [r_w_FnExactRecoverLog_2], fun hs => ?_⟩
  simp [r_w_FnExactRecoverLog_3]
  refine callQ_of (s_RecoverLog s) rfl (.inl (by simp)) (by simp) ?_
  simp [r_w_FnExactRecoverLog_4]
  refine callQ_of (i_RecoverLog s) rfl (.inl (by simp)) (by simp) ?_
  simp [r_w_FnExactRecoverLog_5]
  refine callQ_v (PCall.arg (w_eqLog (recoverL s)) (by simp)) ?_
  simp [r_w_FnExactRecoverLog_7]

theorem w_FnExactIsValidLog (l : Log) : PCall Tryd.prog n_w_FnExactIsValidLog [eLog l] (B true) := by
  refine PCall.of fn_w_FnExactIsValidLog (by simp) ?_
  simp [c_w_FnExactIsValidLog, r_w_FnExactIsValidLog_0, r_w_FnExactIsValidLog_1, r_w_FnExactIsValidLog_2]
  refine callQ_v (PCall.arg (w_szLog l 1048576 (by omega) (by omega)) (by simp)) ?_
  simp [r_w_FnExactIsValidLog_3]
  refine ⟨fun _ => by simp [r_w_FnExactIsValidLog_4], fun hge => ?_⟩
  have hf := fits_of hge
  simp [r_w_FnExactIsValidLog_5]
  refine callQ_of (PCall.arg (w_toLog l) (by simp)) rfl (.inl (by simp)) (by simp) ?_
  simp
  refine callQ_v (PCall.arg (s_IsValidLog l hf) (by simp)) ?_
  simp [r_w_FnExactIsValidLog_6]
  refine callQ_of (PCall.arg (w_toLog l) (by simp)) rfl (.inl (by simp)) (by simp) ?_
  simp
  refine callQ_v (PCall.arg (i_IsValidLog l hf) (by simp)) ?_
  simp [r_w_FnExactIsValidLog_7, r_w_FnExactIsValidLog_9]

theorem w_FnExactSyncLog (l : Log) : PCall Tryd.prog n_w_FnExactSyncLog [eLog l] (B true) := by
  refine PCall.of fn_w_FnExactSyncLog (by simp) ?_
  simp [c_w_FnExactSyncLog, r_w_FnExactSyncLog_0, r_w_FnExactSyncLog_1, r_w_FnExactSyncLog_2]
  refine callQ_v (PCall.arg (w_szLog l 1048576 (by omega) (by omega)) (by simp)) ?_
  simp [r_w_FnExactSyncLog_3]
  refine ⟨fun _ => by simp [r_w_FnExactSyncLog_4], fun hge => ?_⟩
  have hf := fits_of hge
  simp [r_w_FnExactSyncLog_5]
  refine callQ_of (PCall.arg (w_toLog l) (by simp)) rfl (.inl (by simp)) (by simp) ?_
  simp
  refine callQ_of (PCall.arg (s_SyncLog l hf) (by simp)) rfl (.inl (by simp)) (by simp) ?_
  simp [r_w_FnExactSyncLog_6]
  refine callQ_of (PCall.arg (w_toLog l) (by simp)) rfl (.inl (by simp)) (by simp) ?_
  simp
  refine callQ_of (PCall.arg (i_SyncLog l hf) (by simp)) rfl (.inl (by simp)) (by simp) ?_
  simp [r_w_FnExactSyncLog_7]
  refine callQ_v (PCall.arg (w_eqLog (syncL l)) (by simp)) ?_
  simp [r_w_FnExactSyncLog_9]

theorem w_FnExactAppendRecord (l : Log) (e : LogRecord) : PCall Tryd.prog n_w_FnExactAppendRecord [eLog l, eLogRecord e] (B true) := by
  refine PCall.of fn_w_FnExactAppendRecord (by simp) ?_
  simp [c_w_FnExactAppendRecord, r_w_FnExactAppendRecord_0, r_w_FnExactAppendRecord_1, r_w_FnExactAppendRecord_2]
  refine callQ_v (PCall.arg (w_szLog l 1048576 (by omega) (by omega)) (by simp)) ?_
  simp [r_w_FnExactAppendRecord_3]
  refine ⟨fun _ => by simp [r_w_FnExactAppendRecord_4], fun hge => ?_⟩
  have hf := fits_of hge
  have hrb : rest 1048576 (l.durable.length + l.pending.length) ≤ 1048576 := by unfold rest; split <;> omega
  simp [r_w_FnExactAppendRecord_5]
  refine callQ_v (PCall.arg (w_szLogRecord e (rest 1048576 (l.durable.length + l.pending.length)) (by omega) (by omega)) (by simp)) ?_
  simp [r_w_FnExactAppendRecord_6]
  refine ⟨fun _ => by simp [r_w_FnExactAppendRecord_7], fun hge1 => ?_⟩
  simp [r_w_FnExactAppendRecord_8, p_w_FnExactAppendRecord_8]
  refine callD_of (PCall.arg (w_toLog l) (by simp)) rfl (.inl (by simp)) ?_ ?_ ?_
  · simp
  · simp
  simp
  refine callD_of (PCall.arg (w_toLogRecord e) (by simp)) rfl (.inl (by simp)) ?_ ?_ ?_
  · simp
  · simp
  simp
  refine callD_of (PCall.arg (s_AppendRecord l e hf) (by simp)) rfl (.inl (by simp)) ?_ ?_ ?_
  · simp
  · simp
  simp
  refine ⟨oEnd_of (by simp [p_w_FnExactAppendRecord_8]) (by simp), ?_⟩
  simp [r_w_FnExactAppendRecord_9, p_w_FnExactAppendRecord_9]
  refine callD_of (PCall.arg (w_toLog l) (by simp)) rfl (.inl (by simp)) ?_ ?_ ?_
  · simp
  · simp
  simp
  refine callD_of (PCall.arg (w_toLogRecord e) (by simp)) rfl (.inl (by simp)) ?_ ?_ ?_
  · simp
  · simp
  simp
  refine callD_of (PCall.arg (i_AppendRecord l e hf) (by simp)) rfl (.inl (by simp)) ?_ ?_ ?_
  · simp
  · simp
  simp
  refine ⟨oEnd_of (by simp [p_w_FnExactAppendRecord_9]) (by simp), ?_⟩
  simp [r_w_FnExactAppendRecord_10]
  refine callQ_v (PCall.arg (w_eqLog (appendL l e)) (by simp)) ?_
  simp [r_w_FnExactAppendRecord_12]
end Go.Proofs.YtgiggicbpnjakaaDoor
