/- The law FnLogLines. -/
import Derived.Test.YtgefdcllialhkaaDoorCodeWFnLogLines
import Derived.Test.YtgefdcllialhkaaDoorDrawLog2
set_option linter.unusedVariables false
set_option linter.unusedSimpArgs false
namespace Go.Proofs.YtgefdcllialhkaaDoor
open Go.Abs

theorem w_vBig (code : List UInt8) : PCall Tryd.prog n_w_vBig [.ro 1 (code.map Y)] (B (decide (65536 < code.length))) := by
  refine PCall.ofL fn_w_vBig (by simp) fun hl => ?_
  simp [c_w_vBig, r_w_vBig_0, r_w_vBig_1]
  omega
set_option maxHeartbeats 2000000 in
theorem w_FnLogLines (code : List UInt8) : PCall Tryd.prog n_w_FnLogLines [.ro 1 (code.map Y)] (B true) := by
  obtain ⟨k, e, hD1⟩ := s_DrawEncodeRecord code
  obtain ⟨t, hD2⟩ := s_DrawRecoverLog code
  refine PCall.of fn_w_FnLogLines (by simp) ?_
  simp [c_w_FnLogLines, r_w_FnLogLines_0, r_w_FnLogLines_1]
  refine callQ_v (PCall.arg (w_vBig code) (by simp)) ?_
  simp
  refine ⟨fun _ => by simp [r_w_FnLogLines_2], fun _ => ?_⟩
  simp [r_w_FnLogLines_3]
  refine callQ_of (PCall.arg hD1 (by simp)) rfl (.inl (by simp)) (by simp) ?_
  simp [r_w_FnLogLines_4]
  refine callQ_of (PCall.arg (i_EncodeRecord k e) (by simp)) rfl (.inl (by simp)) (by simp) ?_
  simp [r_w_FnLogLines_5]
  refine callQ_of (PCall.arg (s_EncodeRecord k e) (by simp)) rfl (.inl (by simp)) (by simp) ?_
  simp [r_w_FnLogLines_6]
  refine callQ_v (PCall.arg hD2 (by simp)) ?_
  simp [r_w_FnLogLines_7]
  refine callQ_of (PCall.arg (i_RecoverLog t) (by simp)) rfl (.inl (by simp)) (by simp) ?_
  simp [r_w_FnLogLines_8]
  refine callQ_of (PCall.arg (s_RecoverLog t) (by simp)) rfl (.inl (by simp)) (by simp) ?_
  simp [r_w_FnLogLines_9]
  simp [r_w_FnLogLines_11]
  refine callQ_of (PCall.arg (i_RecoverLog (encR k e)) (by simp)) rfl (.inl (by simp)) (by simp) ?_
  have hfit : fits (recoverL t) := by
    unfold fits recoverL
    split
    · have := openN_le t
      simp; omega
    · simp
  obtain ⟨ok, hok⟩ : ∃ ok, (inR k 0 59 && record e) = ok := ⟨_, rfl⟩
  rw [hok]
  have h12 : ok = true → (0 < recoverN (encR k e) ↔ k = 0) ∧ (k = 0 → (recoverL (encR k e)).count = 1) := fun h => encR_law k e (by rw [hok, h])
  have hno : ok = false → encR k e = [] := fun h => by rw [encR, hok, h]; rfl
  have hfix : t.length ≤ 30000 → logOk (recoverL t) = true ∧ syncL (recoverL t) = recoverL t := recover_fix t
  obtain ⟨x, hx⟩ : ∃ x, recoverL (encR k e) = x := ⟨_, rfl⟩
  obtain ⟨n, hn⟩ : ∃ n, recoverN (encR k e) = n := ⟨_, rfl⟩
  rw [hx, hn] at h12
  rw [hx, hn]
  obtain ⟨m, hm⟩ : ∃ m, recoverL t = m := ⟨_, rfl⟩
  rw [hm] at hfit hfix ⊢
  cases ok with
  | false =>
    simp [r_w_FnLogLines_12]
    simp [r_w_FnLogLines_14]
    refine callQ_of (PCall.arg (i_SyncLog m hfit) (by simp)) rfl (.inl (by simp)) (by simp) ?_
    by_cases ht : t.length ≤ 30000
    · obtain ⟨f1, f2⟩ := hfix ht
      simp [r_w_FnLogLines_15, hno rfl, ht, f1, f2]
      refine callQ_v (PCall.arg (i_IsValidLog m hfit) (by simp)) ?_
      simp [f1]
    · simp [r_w_FnLogLines_15, hno rfl, ht]
  | true =>
    obtain ⟨h1, h2⟩ := h12 rfl
    by_cases hk : k = 0
    · have hn0 := h1.2 hk
      have hc := h2 hk
      simp [r_w_FnLogLines_12, hk, hn0, hc]
      simp [r_w_FnLogLines_14]
      refine callQ_of (PCall.arg (i_SyncLog m hfit) (by simp)) rfl (.inl (by simp)) (by simp) ?_
      by_cases ht : t.length ≤ 30000
      · obtain ⟨f1, f2⟩ := hfix ht
        simp [r_w_FnLogLines_15, ht, f1, f2]
        refine callQ_v (PCall.arg (i_IsValidLog m hfit) (by simp)) ?_
        simp [f1]
      · simp [r_w_FnLogLines_15, ht]
    · have hn0 : ¬ 0 < n := fun h => hk (h1.1 h)
      simp [r_w_FnLogLines_12, hk, hn0]
      simp [r_w_FnLogLines_14]
      refine callQ_of (PCall.arg (i_SyncLog m hfit) (by simp)) rfl (.inl (by simp)) (by simp) ?_
      by_cases ht : t.length ≤ 30000
      · obtain ⟨f1, f2⟩ := hfix ht
        simp [r_w_FnLogLines_15, ht, f1, f2]
        refine callQ_v (PCall.arg (i_IsValidLog m hfit) (by simp)) ?_
        simp [f1]
      · simp [r_w_FnLogLines_15, ht]
end Go.Proofs.YtgefdcllialhkaaDoor
