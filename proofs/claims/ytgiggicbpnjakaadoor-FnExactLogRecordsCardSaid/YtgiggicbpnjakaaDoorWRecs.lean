/- The law functions: FnExactLogRecords. -/
import Derived.Test.YtgiggicbpnjakaaDoorCodeWRecs
import Derived.Test.YtgiggicbpnjakaaDoorWLogs
import Derived.Test.YtgiggicbpnjakaaDoorMarkText
set_option linter.unusedVariables false
set_option linter.unusedSimpArgs false
namespace Go.Proofs.YtgiggicbpnjakaaDoor
open Go.Abs

theorem w_eqLogRecord (p q : LogRecord) : PCall Tryd.prog n_w_eqLogRecord [eLogRecord p, eLogRecord q] (B (decide (p = q))) := by
  have e : p = q ↔ p.command = q.command ∧ p.reply = q.reply := by cases p; cases q; simp
  refine PCall.of fn_w_eqLogRecord (by simp) ?_
  simp [c_w_eqLogRecord, r_w_eqLogRecord_0]
  by_cases h0 : p.command = q.command
  rotate_left
  · simp [r_w_eqLogRecord_1, r_w_eqLogRecord_2, h0, e]
  simp [r_w_eqLogRecord_1, h0]
  by_cases h1 : p.reply = q.reply
  rotate_left
  · simp [r_w_eqLogRecord_3, r_w_eqLogRecord_4, h1, h0, e]
  simp [r_w_eqLogRecord_3, r_w_eqLogRecord_5, h0, h1, e]

theorem w_eqLogRecordS (a b : List LogRecord) : PCall Tryd.prog n_w_eqLogRecordS [.ro 2 (a.map eLogRecord), .ro 2 (b.map eLogRecord)] (B (decide (a = b))) := by
  refine PCall.ofL fn_w_eqLogRecordS (by simp) fun hl => ?_
  simp at hl
  by_cases hl : a.length = b.length
  · simp [c_w_eqLogRecordS, r_w_eqLogRecordS_0, r_w_eqLogRecordS_1, r_w_eqLogRecordS_2, r_w_eqLogRecordS_3, r_w_eqLogRecordS_9, hl]
    refine loopK (fun i : Nat => ⟨[(0, .ro 2 (a.map eLogRecord)), (1, .ro 2 (b.map eLogRecord)), (5, I i)], [], []⟩) (fun i => a.length - i) (fun i => i ≤ a.length ∧ a.take i = b.take i) 0 (Wk.list rfl (by simp) (by simp)) (by simp) ?_
    rintro i ⟨hi, hj⟩ K hN hR hE
    simp [l_w_eqLogRecordS_8, r_w_eqLogRecordS_4]
    refine ⟨fun hlt => ?_, fun hge => ?_⟩
    · have hlb : i < b.length := by omega
      simp [r_w_eqLogRecordS_5, p_w_eqLogRecordS_5, hlt, hlb]
      refine callD_v (w_eqLogRecord a[i] b[i]) ?_ ?_ ?_
      · simp
      · simp
      simp
      refine ⟨oEnd_of (by first | kernel_rfl | simp) (by first | kernel_rfl | simp), fun hne => ?_, fun he => ?_⟩
      · simp [r_w_eqLogRecordS_6]
        refine hR _ ?_
        simp
        rintro rfl
        exact hne rfl
      · simp [r_w_eqLogRecordS_7]
        rw [wrap64 (by omega) (by omega)]
        refine hN (i + 1) _ (by omega) ⟨by omega, ?_⟩ (Wk.list rfl (by simp) (by simp))
        rw [take_succ' hlt, take_succ' hlb, hj, he]
    · refine hE _ _ ?_
      rw [List.take_of_length_le (by omega), List.take_of_length_le (by omega)] at hj
      simp [hj]
  · simp [c_w_eqLogRecordS, r_w_eqLogRecordS_0, r_w_eqLogRecordS_1, r_w_eqLogRecordS_2, hl]
    refine ⟨fun _ e => hl (by rw [e]), fun e => absurd (by omega) hl⟩

/-- The marks of one. -/
def mkLogRecord (k : Nat) : LogRecord := ⟨markT k, markT (k + 1)⟩
def marksLogRecord (k : Nat) (n : Nat) : List LogRecord := (List.range n).map fun i : Nat => mkLogRecord (k + 2 * i)
theorem marksLogRecord_len (k n : Nat) : (marksLogRecord k n).length = n := by simp [marksLogRecord]
theorem marksLogRecord_succ (k : Nat) (n : Nat) : marksLogRecord k (n + 1) = marksLogRecord k n ++ [mkLogRecord (k + 2 * n)] := by simp only [marksLogRecord, List.range_succ, List.map_append, List.map_cons, List.map_nil]
theorem marksLogRecord_get {k m i : Nat} (h : i < (marksLogRecord k m).length) : (marksLogRecord k m)[i] = mkLogRecord (k + 2 * i) := by simp [marksLogRecord]

theorem w_markLogRecordS (l : List LogRecord) (k : Nat) (hl : l.length ≤ 1000000) (hk : k ≤ 1000000) :
    MCall Tryd.prog n_w_markLogRecordS [⟨2, l.map eLogRecord⟩] [.sl (mid 0) 0 l.length, I k] (I ((k + 2 * l.length : Nat) : Int)) [some ⟨2, (marksLogRecord k l.length).map eLogRecord⟩] := by
  refine MCall.of fn_w_markLogRecordS (by simp) rfl (by simp) ?_
  simp [c_w_markLogRecordS, r_w_markLogRecordS_0, r_w_markLogRecordS_1, l_w_markLogRecordS_8]
  refine loopK (fun i : Nat => ⟨[(0, .sl 1000000 0 l.length), (1, I ((k + 2 * i : Nat) : Int)), (5, I i)], [(1000000, ⟨2, (marksLogRecord k i ++ l.drop i).map eLogRecord⟩)], [1000000]⟩) (fun i => l.length - i)
    (fun i => i ≤ l.length) 0 (Wk.list rfl (by simp) (by simp [marksLogRecord])) (by simp) ?_
  intro i hi K hN hR hE
  simp [r_w_markLogRecordS_2]
  have hml : (List.map eLogRecord (marksLogRecord k i)).length = i := by rw [List.length_map, marksLogRecord_len]
  refine ⟨fun hlt => ?_, fun hge => ?_⟩
  · have hd : (l.map eLogRecord).drop i = eLogRecord l[i] :: (l.map eLogRecord).drop (i + 1) := by rw [drop_cons (l := l.map eLogRecord) (by simpa using hlt)]; simp
    simp only [hd]
    simp [r_w_markLogRecordS_3]
    refine callQ_v (PCall.arg (w_markText (k + 2 * i) (by omega)) (by simp)) ?_
    simp [r_w_markLogRecordS_4, hlt, app_get hml, app_set hml]
    rw [wrap64 (by omega) (by omega)]
    simp [r_w_markLogRecordS_5]
    refine callQ_v (PCall.arg (w_markText (k + 2 * i + 1) (by omega)) (by simp)) ?_
    simp [r_w_markLogRecordS_6, hlt, app_get hml, app_set hml]
    rw [wrap64 (by omega) (by omega)]
    simp [r_w_markLogRecordS_7]
    rw [wrap64 (by omega) (by omega)]
    refine hN (i + 1) _ (by omega) (by omega) (Wk.list rfl ?_ ?_)
    · simp; omega
    · simp [marksLogRecord_succ, mkLogRecord, app_set hml]
  · refine hE _ _ ?_
    obtain rfl : i = l.length := by omega
    simp [r_w_markLogRecordS_9, marksLogRecord_len]

theorem w_heldLogRecordS_marks (k m : Nat) (hm : m ≤ 1000000) (hk : k ≤ 1000000) : PCall Tryd.prog n_w_heldLogRecordS [.ro 2 ((marksLogRecord k m).map eLogRecord), I k] (I ((k + 2 * m : Nat) : Int)) := by
  refine PCall.of fn_w_heldLogRecordS (by simp) ?_
  simp [c_w_heldLogRecordS, r_w_heldLogRecordS_0, r_w_heldLogRecordS_1, l_w_heldLogRecordS_10]
  refine loopK (fun i : Nat => ⟨[(0, .ro 2 ((marksLogRecord k m).map eLogRecord)), (1, I ((k + 2 * i : Nat) : Int)), (5, I i)], [], []⟩) (fun i => m - i) (fun i => i ≤ m) 0 (Wk.list rfl (by simp) (by simp)) (by simp) ?_
  intro i hi K hN hR hE
  simp [r_w_heldLogRecordS_2, marksLogRecord_len]
  refine ⟨fun hlt => ?_, fun hge => ?_⟩
  · have hg : i < (marksLogRecord k m).length := by rw [marksLogRecord_len]; exact hlt
    have hx := marksLogRecord_get hg
    simp [r_w_heldLogRecordS_3, p_w_heldLogRecordS_3, hlt, hg, hx, mkLogRecord]
    refine callD_v (PCall.arg (w_markText (k + 2 * i) (by omega)) (by simp)) ?_ ?_ ?_
    · simp
    · simp
    simp
    refine ⟨oEnd_of (by first | kernel_rfl | simp) (by first | kernel_rfl | simp), ?_⟩
    simp [r_w_heldLogRecordS_5]
    rw [wrap64 (by omega) (by omega)]
    simp [r_w_heldLogRecordS_6, p_w_heldLogRecordS_6, hlt, hg, hx, mkLogRecord]
    refine callD_v (PCall.arg (w_markText (k + 2 * i + 1) (by omega)) (by simp)) ?_ ?_ ?_
    · simp
    · simp
    simp
    refine ⟨oEnd_of (by first | kernel_rfl | simp) (by first | kernel_rfl | simp), ?_⟩
    simp [r_w_heldLogRecordS_8]
    rw [wrap64 (by omega) (by omega)]
    simp [r_w_heldLogRecordS_9]
    rw [wrap64 (by omega) (by omega)]
    refine hN (i + 1) _ (by omega) (by omega) (Wk.list rfl ?_ ?_)
    · simp; omega
    · simp
  · refine hE _ _ ?_
    obtain rfl : i = m := by omega
    simp [r_w_heldLogRecordS_11]

theorem w_FnExactLogRecords (l : Log) : PCall Tryd.prog n_w_FnExactLogRecords [eLog l] (B true) := by
  have hr := recordsL_len l
  refine PCall.of fn_w_FnExactLogRecords (by simp) ?_
  simp [c_w_FnExactLogRecords, r_w_FnExactLogRecords_0, r_w_FnExactLogRecords_1, r_w_FnExactLogRecords_2]
  refine callQ_v (PCall.arg (w_szLog l 1048576 (by omega) (by omega)) (by simp)) ?_
  simp [r_w_FnExactLogRecords_3]
  refine ⟨fun _ => by simp [r_w_FnExactLogRecords_4], fun hge => ?_⟩
  have hf := fits_of hge
  simp [r_w_FnExactLogRecords_5]
  refine callQ_of (PCall.arg (w_toLog l) (by simp)) rfl (.inl (by simp)) (by simp) ?_
  simp
  refine callQ_of (PCall.arg (s_LogRecords l hf) (by simp)) rfl (.inl (by simp)) (by simp) ?_
  simp [r_w_FnExactLogRecords_6]
  refine callQ_of (PCall.arg (w_toLog l) (by simp)) rfl (.inl (by simp)) (by simp) ?_
  simp
  refine callQ_of (PCall.arg (i_LogRecords l hf) (by simp)) rfl (.inl (by simp)) (by simp) ?_
  simp [r_w_FnExactLogRecords_7]
  refine callQ_v (PCall.arg (w_eqLogRecordS (recordsL l) (recordsL l)) (by simp)) ?_
  simp [r_w_FnExactLogRecords_9, r_w_FnExactLogRecords_10]
  refine callQ_m [26] (MCall.arg (w_markLogRecordS (recordsL l) 1 (by omega) (by omega)) (by simp)) (by simp) (by simp) (by simp) (by simp) ?_
  have hk1 : ¬ (1 + 2 * ((recordsL l).length : Int) < 0) := by omega
  simp [r_w_FnExactLogRecords_11, r_w_FnExactLogRecords_12, hk1]
  refine callQ_v (PCall.arg (w_heldLogRecordS_marks 1 (recordsL l).length (by omega) (by omega)) (by simp [marksLogRecord_len, List.take_of_length_le])) ?_
  simp [r_w_FnExactLogRecords_13, r_w_FnExactLogRecords_15, r_w_FnExactLogRecords_17, hk1]
  refine callQ_of (PCall.arg (w_toLog l) (by simp)) rfl (.inl (by simp)) (by simp) ?_
  simp
  refine callQ_of (PCall.arg (i_LogRecords l hf) (by simp)) rfl (.inl (by simp)) (by simp) ?_
  simp [r_w_FnExactLogRecords_18]
  refine callQ_v (PCall.arg (w_eqLogRecordS (recordsL l) (recordsL l)) (by simp)) ?_
  simp [r_w_FnExactLogRecords_20, r_w_FnExactLogRecords_21]
  refine callQ_v (PCall.arg (w_heldLogRecordS_marks 1 (recordsL l).length (by omega) (by omega)) (by simp [marksLogRecord_len, List.take_of_length_le])) ?_
  simp [r_w_FnExactLogRecords_22, r_w_FnExactLogRecords_24, r_w_FnExactLogRecords_26, hk1]
end Go.Proofs.YtgiggicbpnjakaaDoor
