/- The law FnLog. -/
import Derived.Test.YtgefdcllialhkaaDoorCodeWFnLog
import Derived.Test.YtgefdcllialhkaaDoorWFnLogLines
set_option linter.unusedVariables false
set_option linter.unusedSimpArgs false
namespace Go.Proofs.YtgefdcllialhkaaDoor
open Go.Abs

set_option maxHeartbeats 4000000 in
theorem w_FnLog (code : List UInt8) : PCall Tryd.prog n_w_FnLog [.ro 1 (code.map Y)] (B true) := by
  obtain ⟨l, e, hf, hD⟩ := s_DrawAppendRecord code
  refine PCall.of fn_w_FnLog (by simp) ?_
  simp [c_w_FnLog, r_w_FnLog_0, r_w_FnLog_1]
  refine callQ_v (PCall.arg (w_vBig code) (by simp)) ?_
  simp
  refine ⟨fun _ => by simp [r_w_FnLog_2], fun _ => ?_⟩
  simp [r_w_FnLog_3]
  refine callQ_of (PCall.arg hD (by simp)) rfl (.inl (by simp)) (by simp) ?_
  simp [r_w_FnLog_4]
  refine callQ_of (PCall.arg (i_AppendRecord l e hf) (by simp)) rfl (.inl (by simp)) (by simp) ?_
  simp [r_w_FnLog_5]
  refine callQ_of (PCall.arg (s_AppendRecord l e hf) (by simp)) rfl (.inl (by simp)) (by simp) ?_
  simp [r_w_FnLog_6, p_w_FnLog_6]
  refine callD_v (PCall.arg (i_IsValidLog l hf) (by simp)) ?_ ?_ ?_
  · simp
  · simp
  simp
  refine callD_v (PCall.arg (s_IsValidLog l hf) (by simp)) ?_ ?_ ?_
  · simp
  · simp
  simp
  refine callD_v (PCall.arg (i_IsValidRecord e) (by simp)) ?_ ?_ ?_
  · simp
  · simp
  simp
  refine callD_v (PCall.arg (s_IsValidRecord e) (by simp)) ?_ ?_ ?_
  · simp
  · simp
  simp
  refine ⟨oEnd_of (by simp [p_w_FnLog_6]) (by simp), ?_⟩
  simp [r_w_FnLog_8]
  refine ⟨fun hne => ?_, fun h0 => ?_⟩
  · have := append_not (l := l) (e := e) hne
    simp [r_w_FnLog_9, this]
  · obtain ⟨hl, he, hok, hrec, hcnt, hlen⟩ := append_law h0
    obtain ⟨m, hm⟩ : ∃ m, appendL l e = m := ⟨_, rfl⟩
    rw [hm] at hok hrec hcnt hlen ⊢
    have hfm : fits m := by unfold fits; omega
    obtain ⟨r1, r2, r3⟩ := recover_sync hok
    simp [r_w_FnLog_10]
    refine callQ_of (PCall.arg (i_LogRecords m hfm) (by simp)) rfl (.inl (by simp)) (by simp) ?_
    simp [r_w_FnLog_11]
    refine callQ_of (PCall.arg (i_LogRecords l hf) (by simp)) rfl (.inl (by simp)) (by simp) ?_
    simp [r_w_FnLog_12]
    refine ⟨by omega, ?_⟩
    refine callQ_of (PCall.arg (i_RecoverLog (m.durable ++ m.pending)) (by simp)) rfl (.inl (by simp)) (by simp) ?_
    simp [r_w_FnLog_13]
    refine callQ_of (PCall.arg (i_SyncLog m hfm) (by simp)) rfl (.inl (by simp)) (by simp) ?_
    have hrl := recordsL_len l
    simp [r_w_FnLog_14, hok, hrec, hcnt]
    rw [wrap64 (n := ((recordsL l).length : Int) + 1) (by omega) (by omega)]
    simp
    have hsum : m.durable.length + m.pending.length ≤ 30000 := by omega
    have hrn : recoverN (m.durable ++ m.pending) = (m.durable.length : Int) + m.pending.length := by rw [r2, List.length_append]; omega
    have hrs : recoverL (m.durable ++ m.pending) = syncL m := r1
    obtain ⟨L, hL⟩ : ∃ L, recordsL l = L := ⟨_, rfl⟩
    rw [hL] at hcnt hrl ⊢
    rw [hrn, hrs]
    simp [r_w_FnLog_16, l_w_FnLog_21, hsum]
    refine loopK (fun i : Nat => ⟨[(4, .ref 4 0 0), (5, .ref 5 0 0), (9, .sl 67 0 (L.length + 1)), (11, .sl 72 0 L.length), (13, .ref 13 0 0), (14, I ((m.durable.length : Int) + m.pending.length)), (15, B true), (16, .ref 16 0 0), (17, B true), (18, I i)],
      [(16, ⟨3, [eLog (syncL m)]⟩), (13, ⟨3, [eLog (syncL m)]⟩), (72, ⟨2, L.map eLogRecord⟩), (67, ⟨2, L.map eLogRecord ++ [eLogRecord e]⟩), (5, ⟨3, [.agg [S m.durable, S m.pending, I (L.length + 1)]]⟩), (4, ⟨2, [eLogRecord e]⟩)], []⟩) (fun i => L.length - i) (fun i => i ≤ L.length) 0 (Wk.list rfl (by simp) (by simp)) (by simp) ?_
    intro i hi K hN hR hE
    simp [r_w_FnLog_17, r_w_FnLog_20]
    refine ⟨fun hlt => ?_, fun hge => ?_⟩
    · simp [r_w_FnLog_18, p_w_FnLog_18, hlt]
      rw [List.getElem?_append_left (by simpa using hlt)]
      refine ⟨by omega, ?_⟩
      simp [hlt]
      refine ⟨oEnd_of (by simp [p_w_FnLog_18]) (by simp), ?_⟩
      rw [wrap64 (by omega) (by omega)]
      refine hN (i + 1) _ (by omega) (by omega) (Wk.list rfl ?_ ?_)
      · simp
      · simp
    · obtain rfl : i = L.length := by omega
      refine hE _ _ ?_
      simp only [blockK_exit]
      simp [r_w_FnLog_22, p_w_FnLog_22]
      refine ⟨by omega, by omega, ?_⟩
      refine callD_v (PCall.arg (i_IsValidLog m hfm) (by simp [hcnt])) ?_ ?_ ?_
      · simp
      · simp
      simp [hok]
      exact oEnd_of (by simp [p_w_FnLog_22]) (by simp)
end Go.Proofs.YtgefdcllialhkaaDoor
