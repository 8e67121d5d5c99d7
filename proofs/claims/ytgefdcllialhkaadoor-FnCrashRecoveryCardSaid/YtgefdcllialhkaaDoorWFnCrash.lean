/- The law FnCrashRecovery. -/
import Derived.Test.YtgefdcllialhkaaDoorCodeWFnCrash
import Derived.Test.YtgefdcllialhkaaDoorWFnLogLines
import Derived.Test.YtgefdcllialhkaaDoorCrashLaw
set_option linter.unusedVariables false
set_option linter.unusedSimpArgs false
namespace Go.Proofs.YtgefdcllialhkaaDoor
open Go.Abs

set_option maxHeartbeats 4000000 in
theorem w_FnCrashRecovery (code : List UInt8) : PCall Tryd.prog n_w_FnCrashRecovery [.ro 1 (code.map Y)] (B true) := by
  obtain ⟨l, n, b, hm, hD⟩ := s_DrawCrashLog code
  have hf := hm.fits
  refine PCall.of fn_w_FnCrashRecovery (by simp) ?_
  simp [c_w_FnCrashRecovery, r_w_FnCrashRecovery_0, r_w_FnCrashRecovery_1]
  refine callQ_v (PCall.arg (w_vBig code) (by simp)) ?_
  simp
  refine ⟨fun _ => by simp [r_w_FnCrashRecovery_2], fun _ => ?_⟩
  simp [r_w_FnCrashRecovery_3]
  refine callQ_of (PCall.arg hD (by simp)) rfl (.inl (by simp)) (by simp) ?_
  simp [r_w_FnCrashRecovery_4]
  refine callQ_of (PCall.arg (i_CrashLog l n b hf) (by simp)) rfl (.inl (by simp)) (by simp) ?_
  simp [r_w_FnCrashRecovery_5]
  refine callQ_of (PCall.arg (s_CrashLog l n b hf) (by simp)) rfl (.inl (by simp)) (by simp) ?_
  simp [r_w_FnCrashRecovery_6]
  simp [r_w_FnCrashRecovery_8]
  refine ⟨fun hno => ?_, fun hok => ?_⟩
  · simp [r_w_FnCrashRecovery_9, crashT, hno]
  · obtain ⟨h1, h2, W, h3⟩ := crash_law (b := b) hok
    obtain ⟨s, hs⟩ : ∃ s, crashT l n b = s := ⟨_, rfl⟩
    rw [hs] at h1 h2 h3 ⊢
    obtain ⟨r1, r2⟩ := recover_records s h1
    obtain ⟨r3, _⟩ := recover_fix s h1
    have hle := openN_le s
    have hfm : fits (recoverL s) := by
      unfold fits recoverL
      rw [if_pos h1]
      simp; omega
    have hN : recoverN s = openN s := by rw [recoverN, if_pos h1]
    have hrl := recordsL_len l
    have hol := (openL_ok s).2
    rw [h3] at hrl
    simp at hrl
    simp [r_w_FnCrashRecovery_10]
    refine callQ_of (PCall.arg (i_RecoverLog s) (by simp)) rfl (.inl (by simp)) (by simp) ?_
    rw [hN]
    obtain ⟨m, hmm⟩ : ∃ m, recoverL s = m := ⟨_, rfl⟩
    rw [hmm] at r1 r2 r3 hfm ⊢
    simp [r_w_FnCrashRecovery_11]
    refine callQ_of (PCall.arg (i_LogRecords m hfm) (by simp)) rfl (.inl (by simp)) (by simp) ?_
    simp [r_w_FnCrashRecovery_12]
    refine callQ_of (PCall.arg (s_LogRecords l hf) (by simp)) rfl (.inl (by simp)) (by simp) ?_
    rw [r1, h3]
    obtain ⟨A, hA⟩ : ∃ A, openL s = A := ⟨_, rfl⟩
    obtain ⟨N, hNN⟩ : ∃ N, openN s = N := ⟨_, rfl⟩
    rw [hA] at hrl hol ⊢
    rw [hNN] at h2 r2 hle ⊢
    have c1 : ¬ (s.length : Int) < N := by omega
    have c2 : ¬ (N : Int) < l.durable.length := by omega
    have c3 : ¬ ((A.length : Int) + W.length) < A.length := by omega
    simp [r_w_FnCrashRecovery_13, h1, c1, c2, c3]
    simp [r_w_FnCrashRecovery_15, l_w_FnCrashRecovery_20]
    refine loopK (fun i : Nat => ⟨[(6, S s), (10, .ref 10 0 0), (11, I N), (13, .sl 60 0 A.length), (15, .sl 65 0 (A.length + W.length)), (17, I i)],
      [(65, ⟨2, A.map eLogRecord ++ W.map eLogRecord⟩), (60, ⟨2, A.map eLogRecord⟩), (10, ⟨3, [eLog m]⟩)], []⟩) (fun i => A.length - i) (fun i => i ≤ A.length) 0 (Wk.list rfl (by simp) (by simp)) (by simp) ?_
    intro i hi K hN hR hE
    simp [r_w_FnCrashRecovery_16, r_w_FnCrashRecovery_19]
    refine ⟨fun hlt => ?_, fun hge => ?_⟩
    · simp [r_w_FnCrashRecovery_17, p_w_FnCrashRecovery_17, hlt]
      rw [List.getElem?_append_left (by simpa using hlt)]
      refine ⟨by omega, ?_⟩
      simp [hlt]
      refine ⟨oEnd_of (by simp [p_w_FnCrashRecovery_17]) (by simp), ?_⟩
      rw [wrap64 (by omega) (by omega)]
      refine hN (i + 1) _ (by omega) (by omega) (Wk.list rfl ?_ ?_)
      · simp
      · simp
    · obtain rfl : i = A.length := by omega
      refine hE _ _ ?_
      simp only [blockK_exit]
      simp [r_w_FnCrashRecovery_21, p_w_FnCrashRecovery_21]
      refine callD_v (PCall.arg (i_IsValidLog m hfm) (by simp)) ?_ ?_ ?_
      · simp
      · simp
      simp [r3, r2]
      refine ⟨by omega, ?_⟩
      exact oEnd_of (by simp [p_w_FnCrashRecovery_21]) (by simp)
end Go.Proofs.YtgefdcllialhkaaDoor
