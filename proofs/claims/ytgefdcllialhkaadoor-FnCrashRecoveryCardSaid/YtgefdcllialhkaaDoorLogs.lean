/- Logs: the test, recovery, synchronizing, appending, the records; in the program and in the reference. -/
import Derived.Test.YtgefdcllialhkaaDoorCodeLogs
import Derived.Test.YtgefdcllialhkaaDoorLogRead
set_option linter.unusedVariables false
set_option linter.unusedSimpArgs false
namespace Go.Proofs.YtgefdcllialhkaaDoor
open Go.Abs

abbrev eLog (l : Log) : V := .agg [S l.durable, S l.pending, I l.count]
/-- Small enough to be handed over by a law. -/
def fits (l : Log) : Prop := l.durable.length + l.pending.length ≤ 1048576

theorem s_l27Log (l : Log) (hf : fits l) : PCall Tryd.prog n_s_l27Log [eLog l] (B (logOk l)) := by
  unfold fits at hf
  have hb := openN_bound (l.durable ++ l.pending)
  refine PCall.of fn_s_l27Log (by simp) ?_
  simp [c_s_l27Log, r_s_l27Log_0, r_s_l27Log_1]
  rw [wrap64 (by omega) (by omega)]
  refine ⟨fun h => ?_, fun h => ?_⟩
  · have : logOk l = false := by
      have : ¬ openN (l.durable ++ l.pending) = l.durable.length + l.pending.length := by omega
      simp only [logOk, this, decide_false, Bool.false_and]
    simp [r_s_l27Log_2, this]
  · simp [r_s_l27Log_3]
    refine ⟨by omega, ?_⟩
    refine callQ_of (PCall.arg (s_l27Open (l.durable ++ l.pending) (by rw [List.length_append]; omega)) (by simp)) rfl (.inl (by simp)) (by simp) ?_
    simp [r_s_l27Log_4]
    refine callQ_of (PCall.arg (s_l27Open l.durable (by omega)) (by simp)) rfl (.inl (by simp)) (by simp) ?_
    simp [r_s_l27Log_5]
    rw [wrap64 (by omega) (by omega)]
    refine ⟨fun h1 => ⟨fun h2 => ?_, fun h2 => ?_⟩, fun h1 => ?_⟩
    · have h1' : openN (l.durable ++ l.pending) = l.durable.length + l.pending.length := by omega
      have h2' : openN l.durable = l.durable.length := by omega
      rw [Bool.eq_iff_iff]
      simp [logOk, h1', h2']
    · have h2' : ¬ openN l.durable = l.durable.length := by omega
      simp [logOk, h2']
    · have h1' : ¬ openN (l.durable ++ l.pending) = l.durable.length + l.pending.length := by omega
      simp [logOk, h1']
theorem s_IsValidLog (l : Log) (hf : fits l) : PCall Tryd.prog n_s_IsValidLog [eLog l] (B (logOk l)) := by
  refine PCall.of fn_s_IsValidLog (by simp) ?_
  simp [c_s_IsValidLog, r_s_IsValidLog_0, r_s_IsValidLog_1]
  exact callQ_v (s_l27Log l hf) (by simp)

theorem endsOf_get {l : List LogRecord} {j : Nat} (h : j < (endsOf l).length) : (endsOf l)[j] = ((encs 0 (l.take j)).length : Int) := by
  simp only [endsOf, List.getElem_map, List.getElem_range]
theorem i_IsValidLog (l : Log) (hf : fits l) : PCall Tryd.prog n_i_IsValidLog [eLog l] (B (logOk l)) := by
  unfold fits at hf
  refine PCall.of fn_i_IsValidLog (by simp) ?_
  simp [c_i_IsValidLog, r_i_IsValidLog_0, r_i_IsValidLog_1]
  refine ⟨by omega, ?_⟩
  simp [r_i_IsValidLog_2]
  obtain ⟨L, hL⟩ : ∃ L, openL (l.durable ++ l.pending) = L := ⟨_, rfl⟩
  have hr := i_readRecords (l.durable ++ l.pending) (by rw [List.length_append]; omega)
  rw [hL] at hr
  refine callQ_of (PCall.arg hr (by simp)) rfl (.inl (by simp)) (by simp) ?_
  have hel := endsOf_len L
  have heg := endsOf_get (l := L) (j := L.length) (by omega)
  rw [List.take_length] at heg
  have hL60 : L.length ≤ 60 := by rw [← hL]; exact recs_len 60 0 _
  have hN : (encs 0 L).length = openN (l.durable ++ l.pending) := by unfold openN; rw [hL]
  rw [hN] at heg
  have hlt : L.length < (endsOf L).length := by omega
  simp [r_i_IsValidLog_3, hel, hlt, heg]
  refine ⟨by omega, fun h1 => ⟨fun h2 => ?_, fun h2 => ?_⟩, fun h1 => ?_⟩
  · have h2' : ¬ ((openL (l.durable ++ l.pending)).length : Int) = l.count := by rw [hL]; exact h2
    have : logOk l = false := by simp only [logOk, h2', decide_false, Bool.and_false]
    simp [r_i_IsValidLog_4, this]
  · have h1' : openN (l.durable ++ l.pending) = l.durable.length + l.pending.length := by omega
    have h1'' : openN (l.durable ++ l.pending) = (l.durable ++ l.pending).length := by rw [List.length_append]; exact h1'
    have h2' : ((openL (l.durable ++ l.pending)).length : Int) = l.count := by rw [hL]; exact h2
    have hpre := open_prefix h1''
    rw [hL] at hpre
    have hok : logOk l = decide (openN l.durable = l.durable.length) := by simp only [logOk, h1', h2', decide_true, Bool.true_and, Bool.and_true]
    simp [r_i_IsValidLog_5, l_i_IsValidLog_11, hel]
    refine loopK (fun i : Nat => ⟨[(1, .ref 1 0 0), (33, .sl 1015 0 (L.length + 1)), (34, I (L.length + 1)), (35, I i)], [(1, ⟨3, [eLog l]⟩), (1015, ⟨1, ints (endsOf L)⟩)], []⟩) (fun i => L.length + 1 - i) (fun i => i ≤ L.length + 1 ∧ ∀ j, j < i → ¬ (encs 0 (L.take j)).length = l.durable.length) 0 (Wk.list rfl (by simp) (by simp)) (by simp) ?_
    rintro i ⟨hi, hj⟩ K hN hR hE
    simp [r_i_IsValidLog_6]
    refine ⟨fun hlt => ?_, fun hge => ?_⟩
    · have hie : i < (endsOf L).length := by omega
      have hg := endsOf_get hie
      simp [r_i_IsValidLog_7, hie, hg]
      refine ⟨by omega, ?_⟩
      simp [r_i_IsValidLog_8]
      refine ⟨fun h => ?_, fun h => ?_⟩
      · have : logOk l = true := by rw [hok, decide_eq_true_iff, hpre]; exact ⟨i, by omega, by omega⟩
        simp [r_i_IsValidLog_9]
        refine hR _ ?_
        simp [this]
      · simp [r_i_IsValidLog_10]
        rw [wrap64 (by omega) (by omega)]
        refine hN (i + 1) _ (by omega) ⟨by omega, fun j hji => ?_⟩ (Wk.list rfl (by simp) (by simp))
        by_cases e : j = i
        · subst e; omega
        · exact hj j (by omega)
    · refine hE _ _ ?_
      have : logOk l = false := by
        rw [hok, decide_eq_false_iff_not, hpre]
        rintro ⟨j, h1, h2⟩
        exact hj j (by omega) h2
      simp only [blockK_exit]
      simp [r_i_IsValidLog_12, this]
  · have h1' : ¬ openN (l.durable ++ l.pending) = l.durable.length + l.pending.length := by omega
    have : logOk l = false := by simp only [logOk, h1', decide_false, Bool.false_and]
    simp [r_i_IsValidLog_4, this]

/-! ### Recovery -/
def recoverL (s : List UInt8) : Log := if s.length ≤ 30000 then ⟨s.take (openN s), [], (openL s).length⟩ else ⟨[], [], 0⟩
def recoverN (s : List UInt8) : Int := if s.length ≤ 30000 then openN s else 0
theorem s_RecoverLog (s : List UInt8) : PCall Tryd.prog n_s_RecoverLog [S s] (.tup [eLog (recoverL s), I (recoverN s), B (decide (s.length ≤ 30000))]) := by
  have hb := openN_le s
  refine PCall.of fn_s_RecoverLog (by simp) ?_
  simp [c_s_RecoverLog, r_s_RecoverLog_0, r_s_RecoverLog_1]
  refine ⟨fun h => ?_, fun h => ?_⟩
  · have h' : ¬ s.length ≤ 30000 := by omega
    simp [r_s_RecoverLog_2, recoverL, recoverN, h']
  · have h' : s.length ≤ 30000 := by omega
    simp [r_s_RecoverLog_3]
    refine callQ_of (s_l27Open s (by omega)) rfl (.inl (by simp)) (by simp) ?_
    simp [r_s_RecoverLog_4, recoverL, recoverN, h']
    omega
theorem i_RecoverLog (s : List UInt8) : PCall Tryd.prog n_i_RecoverLog [S s] (.tup [eLog (recoverL s), I (recoverN s), B (decide (s.length ≤ 30000))]) := by
  have hb := openN_le s
  refine PCall.of fn_i_RecoverLog (by simp) ?_
  simp [c_i_RecoverLog, r_i_RecoverLog_0, r_i_RecoverLog_1]
  refine ⟨fun h => ?_, fun h => ?_⟩
  · have h' : ¬ s.length ≤ 30000 := by omega
    simp [r_i_RecoverLog_2, recoverL, recoverN, h']
  · have h' : s.length ≤ 30000 := by omega
    have hel := endsOf_len (openL s)
    have heg := endsOf_get (l := openL s) (j := (openL s).length) (by omega)
    rw [List.take_length] at heg
    have hN : (encs 0 (openL s)).length = openN s := rfl
    rw [hN] at heg
    simp [r_i_RecoverLog_3]
    refine callQ_of (i_readRecords s (by omega)) rfl (.inl (by simp)) (by simp) ?_
    simp [r_i_RecoverLog_4, hel, heg, show (openL s).length < (endsOf (openL s)).length by omega]
    refine ⟨by omega, ?_⟩
    simp [r_i_RecoverLog_5, recoverL, recoverN, h']
    omega

/-! ### Synchronizing, appending, the records -/
def syncL (l : Log) : Log := if logOk l then ⟨l.durable ++ l.pending, [], l.count⟩ else ⟨[], [], 0⟩
theorem s_SyncLog (l : Log) (hf : fits l) : PCall Tryd.prog n_s_SyncLog [eLog l] (.tup [eLog (syncL l), B (logOk l)]) := by
  have hf' := hf
  unfold fits at hf'
  refine PCall.of fn_s_SyncLog (by simp) ?_
  simp [c_s_SyncLog, r_s_SyncLog_0, r_s_SyncLog_1]
  refine callQ_v (PCall.arg (s_l27Log l hf) (by simp)) ?_
  cases h : logOk l with
  | false => simp [r_s_SyncLog_2, syncL, h]
  | true =>
    simp [r_s_SyncLog_3, syncL, h]
    omega
theorem i_SyncLog (l : Log) (hf : fits l) : PCall Tryd.prog n_i_SyncLog [eLog l] (.tup [eLog (syncL l), B (logOk l)]) := by
  have hf' := hf
  unfold fits at hf'
  refine PCall.of fn_i_SyncLog (by simp) ?_
  simp [c_i_SyncLog, r_i_SyncLog_0, r_i_SyncLog_1]
  refine callQ_v (PCall.arg (i_IsValidLog l hf) (by simp)) ?_
  cases h : logOk l with
  | false => simp [r_i_SyncLog_2, syncL, h]
  | true =>
    simp [r_i_SyncLog_3, syncL, h]
    omega

theorem logOk_count {l : Log} (h : logOk l = true) : 0 ≤ l.count ∧ l.count ≤ 60 := by
  simp only [logOk, Bool.and_eq_true, decide_eq_true_iff] at h
  have := recs_len 60 0 (l.durable ++ l.pending)
  have h2 := h.2.2
  unfold openL at h2
  omega
def appendL (l : Log) (e : LogRecord) : Log := if logOk l && record e && !decide (l.count = 60) then ⟨l.durable, l.pending ++ (enc l.count.toNat e ++ [10]), l.count + 1⟩ else l
def appendN (l : Log) (e : LogRecord) : Int := if logOk l && record e then if l.count = 60 then 2 else 0 else 1
theorem s_AppendRecord (l : Log) (e : LogRecord) (hf : fits l) : PCall Tryd.prog n_s_AppendRecord [eLog l, eLogRecord e] (.tup [eLog (appendL l e), I (appendN l e)]) := by
  have hf' := hf
  unfold fits at hf'
  refine PCall.of fn_s_AppendRecord (by simp) ?_
  simp [c_s_AppendRecord, r_s_AppendRecord_0, r_s_AppendRecord_1]
  refine callQ_v (PCall.arg (s_l27Log l hf) (by simp)) ?_
  cases h1 : logOk l with
  | false => simp [r_s_AppendRecord_2, appendL, appendN, h1]
  | true =>
  simp
  refine callQ_v (PCall.arg (s_l27Good e) (by simp)) ?_
  cases h2 : record e with
  | false => simp [r_s_AppendRecord_2, appendL, appendN, h1, h2]
  | true =>
  have hc := logOk_count h1
  simp [r_s_AppendRecord_3]
  refine ⟨fun h3 => ?_, fun h3 => ?_⟩
  · simp [r_s_AppendRecord_4, appendL, appendN, h1, h2, h3]
  · obtain ⟨n, hn⟩ : ∃ n : Nat, l.count = n := ⟨l.count.toNat, by omega⟩
    have hE := enc_len (k := n) (by omega) h2
    simp [r_s_AppendRecord_5, p_s_AppendRecord_5]
    refine callD_v (PCall.arg (s_l27Line n e (by omega) h2) (by simp [hn])) ?_ ?_ ?_
    · simp
    · simp
    simp
    refine ⟨by omega, oEnd_of (by first | kernel_rfl | simp) (by first | kernel_rfl | simp), ?_⟩
    simp [r_s_AppendRecord_6]
    rw [wrap64 (by omega) (by omega)]
    simp [r_s_AppendRecord_7, appendL, appendN, h1, h2, h3]
    simp [hn]

theorem i_AppendRecord (l : Log) (e : LogRecord) (hf : fits l) : PCall Tryd.prog n_i_AppendRecord [eLog l, eLogRecord e] (.tup [eLog (appendL l e), I (appendN l e)]) := by
  have hf' := hf
  unfold fits at hf'
  refine PCall.of fn_i_AppendRecord (by simp) ?_
  simp [c_i_AppendRecord, r_i_AppendRecord_0, r_i_AppendRecord_1]
  refine callQ_v (PCall.arg (i_IsValidLog l hf) (by simp)) ?_
  cases h1 : logOk l with
  | false => simp [r_i_AppendRecord_2, appendL, appendN, h1]
  | true =>
  simp
  refine callQ_v (PCall.arg (i_IsValidRecord e) (by simp)) ?_
  cases h2 : record e with
  | false => simp [r_i_AppendRecord_2, appendL, appendN, h1, h2]
  | true =>
  have hc := logOk_count h1
  simp [r_i_AppendRecord_3]
  refine ⟨fun h3 => ?_, fun h3 => ?_⟩
  · simp [r_i_AppendRecord_4, appendL, appendN, h1, h2, h3]
  · obtain ⟨n, hn⟩ : ∃ n : Nat, l.count = n := ⟨l.count.toNat, by omega⟩
    have hE := enc_len (k := n) (by omega) h2
    simp [r_i_AppendRecord_5, p_i_AppendRecord_5]
    refine callD_v (PCall.arg (i_encodeRecord n e (by omega) h2) (by simp [hn])) ?_ ?_ ?_
    · simp
    · simp
    simp
    rw [wrap64 (by omega) (by omega)]
    refine ⟨by omega, oEnd_of (by first | kernel_rfl | simp) (by first | kernel_rfl | simp), ?_⟩
    simp [appendL, appendN, h1, h2, h3]
    simp [hn]

def recordsL (l : Log) : List LogRecord := if logOk l then openL (l.durable ++ l.pending) else []
theorem recordsL_len (l : Log) : (recordsL l).length ≤ 60 := by
  unfold recordsL
  split
  · exact recs_len 60 0 _
  · simp
theorem s_LogRecords (l : Log) (hf : fits l) : PCall Tryd.prog n_s_LogRecords [eLog l] (.tup [.own 2 ((recordsL l).map eLogRecord), B (logOk l)]) := by
  have hf' := hf
  unfold fits at hf'
  refine PCall.ofN fn_s_LogRecords (by simp) ?_
  simp [c_s_LogRecords, r_s_LogRecords_0, r_s_LogRecords_1]
  refine callQ_v (PCall.arg (s_l27Log l hf) (by simp)) ?_
  cases h : logOk l with
  | false => simp [r_s_LogRecords_2, recordsL, h]
  | true =>
    simp [r_s_LogRecords_3]
    refine ⟨by omega, ?_⟩
    refine callQ_of (PCall.arg (s_l27Open (l.durable ++ l.pending) (by rw [List.length_append]; omega)) (by simp)) rfl (.inl (by simp)) (by simp) ?_
    simp [r_s_LogRecords_4, recordsL, h]
theorem i_LogRecords (l : Log) (hf : fits l) : PCall Tryd.prog n_i_LogRecords [eLog l] (.tup [.own 2 ((recordsL l).map eLogRecord), B (logOk l)]) := by
  have hf' := hf
  unfold fits at hf'
  refine PCall.ofN fn_i_LogRecords (by simp) ?_
  simp [c_i_LogRecords, r_i_LogRecords_0, r_i_LogRecords_1]
  refine callQ_v (PCall.arg (i_IsValidLog l hf) (by simp)) ?_
  cases h : logOk l with
  | false => simp [r_i_LogRecords_2, recordsL, h]
  | true =>
    simp [r_i_LogRecords_3]
    refine ⟨by omega, ?_⟩
    refine callQ_of (PCall.arg (i_readRecords (l.durable ++ l.pending) (by rw [List.length_append]; omega)) (by simp)) rfl (.inl (by simp)) (by simp) ?_
    simp [r_i_LogRecords_4, recordsL, h]
end Go.Proofs.YtgefdcllialhkaaDoor
