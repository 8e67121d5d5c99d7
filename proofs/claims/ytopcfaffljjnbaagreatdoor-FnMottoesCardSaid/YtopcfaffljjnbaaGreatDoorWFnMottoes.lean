/- The law FnMottoes. -/
import Derived.Test.YtopcfaffljjnbaaGreatDoorFew
import Derived.Test.YtopcfaffljjnbaaGreatDoorRTexts
import Derived.Test.YtopcfaffljjnbaaGreatDoorDrawMotto2
import Derived.Test.YtopcfaffljjnbaaGreatDoorWShared
set_option linter.unusedVariables false
set_option linter.unusedSimpArgs false
namespace Go.Proofs.YtopcfaffljjnbaaGreatDoor
open Go.Abs

theorem shared_comm (a b : List UInt8) : sharedL a b = sharedL b a ∧ sharedOk a b = sharedOk b a := by
  have h2 : sharedOk a b = sharedOk b a := by unfold sharedOk; rw [Bool.and_comm]
  refine ⟨?_, h2⟩
  unfold sharedL
  rw [h2]
  split
  · refine strict_uniq _ _ (compact_strict (sortS_sorted _)) (compact_strict (sortS_sorted _)) fun x => ?_
    rw [mem_compact, mem_compact]
    simp only [sortS, List.mem_mergeSort, sharedW, List.mem_filter, decide_eq_true_eq]
    exact And.comm
  · rfl
theorem center_law {line : List UInt8} {w : Int} (h : centerOk line w = true) : ((centerL line w).length : Int) = w := by
  have := centerOk_iff h
  rw [centerL, if_pos h]
  exact centerT_len this.1 (by omega)
set_option maxHeartbeats 4000000 in
theorem w_FnMottoes (code : List UInt8) : PCall Tryz.prog n_w_FnMottoes [.ro 1 (code.map Y)] (B true) := by
  obtain ⟨t, c, ht, hD1⟩ := s_DrawFewestLines code
  obtain ⟨t2, w2, ht2, hD2⟩ := s_DrawCenterLine code
  obtain ⟨t3, ht3, hD3⟩ := s_DrawReadScroll code
  obtain ⟨a, b, ⟨ha, hb⟩, hD4⟩ := s_DrawSharedWords code
  obtain ⟨t5, ht5, hD5⟩ := s_DrawInitialLetters code
  obtain ⟨sc1, sc2⟩ := shared_comm b a
  refine PCall.of fn_w_FnMottoes (by simp) ?_
  simp [c_w_FnMottoes, r_w_FnMottoes_0, r_w_FnMottoes_1]
  refine callQ_v (PCall.arg (w_rBig' code) (by simp)) ?_
  simp
  refine ⟨fun _ => by simp [r_w_FnMottoes_2], fun _ => ?_⟩
  simp [r_w_FnMottoes_3]
  refine callQ_of (PCall.arg hD1 (by simp)) rfl (.inl (by simp)) (by simp) ?_
  simp [r_w_FnMottoes_4]
  refine callQ_of (PCall.arg (i_FewestLines t c (by omega)) (by simp)) rfl (.inl (by simp)) (by simp) ?_
  simp [r_w_FnMottoes_5]
  refine callQ_of (PCall.arg (s_FewestLines t c (by omega)) (by simp)) rfl (.inl (by simp)) (by simp) ?_
  rcases ho : fewOk t c with _ | _
  case' false =>
    simp [r_w_FnMottoes_6]
    simp [r_w_FnMottoes_8]
    refine wk_of ⟨[(0, .ro 1 (code.map Y))], [], []⟩ (Wk.list rfl (by simp) (by simp)) ?_
  case' true =>
    obtain ⟨f1, ⟨f2, f3⟩, f4⟩ := few_law ho
    have hb := onScroll_w f2
    simp [r_w_FnMottoes_6]
    refine callQ_v (PCall.arg (i_IsValidMotto t) (by simp)) ?_
    simp [f1]
    simp [r_w_FnMottoes_8, r_w_FnMottoes_9]
    refine callQ_of (PCall.arg (i_FillLines t (fewN t c) (by omega)) (by simp)) rfl (.inl (by simp)) (by simp) ?_
    have hF : ¬ c < ((linesF t (fewN t c)).length : Int) := by rw [linesF, if_pos f2]; omega
    simp [r_w_FnMottoes_10, f2, hF]
    simp [r_w_FnMottoes_12]
    rw [wrap64 (n := fewN t c - 1) (by omega) (by omega)]
    refine callQ_of (PCall.arg (i_FillLines t (fewN t c - 1) (by omega)) (by simp)) rfl (.inl (by simp)) (by simp) ?_
    rcases h13 : onScroll t (fewN t c - 1) with _ | _
    case' false =>
      simp [r_w_FnMottoes_13]
      refine wk_of ⟨[(0, .ro 1 (code.map Y))], [], []⟩ (Wk.list rfl (by simp) (by simp)) ?_
    case' true =>
      have hG : ¬ ((linesF t (fewN t c - 1)).length : Int) ≤ c := by
        rw [linesF, if_pos h13]
        exact fun h => f4 ⟨h13, h⟩
      simp [r_w_FnMottoes_13, hG]
      refine wk_of ⟨[(0, .ro 1 (code.map Y))], [], []⟩ (Wk.list rfl (by simp) (by simp)) ?_
  all_goals
    simp [r_w_FnMottoes_15]
    refine callQ_of (PCall.arg hD2 (by simp)) rfl (.inl (by simp)) (by simp) ?_
    simp [r_w_FnMottoes_16]
    refine callQ_of (PCall.arg (i_CenterLine t2 w2 (by omega)) (by simp)) rfl (.inl (by simp)) (by simp) ?_
    simp [r_w_FnMottoes_17]
    refine callQ_of (PCall.arg (s_CenterLine t2 w2 (by omega)) (by simp)) rfl (.inl (by simp)) (by simp) ?_
    have hcc : centerOk t2 w2 = true → ((centerL t2 w2).length : Int) = w2 := center_law
    rcases hc : centerOk t2 w2 with _ | _
    · simp [r_w_FnMottoes_18]
      simp [r_w_FnMottoes_20]
      refine callQ_v (PCall.arg hD3 (by simp)) ?_
      simp [r_w_FnMottoes_21]
      refine callQ_of (PCall.arg (i_ReadScroll t3) (by simp)) rfl (.inl (by simp)) (by simp) ?_
      simp [r_w_FnMottoes_22]
      refine callQ_of (PCall.arg (s_ReadScroll t3 (by omega)) (by simp)) rfl (.inl (by simp)) (by simp) ?_
      simp [r_w_FnMottoes_23]
      simp [r_w_FnMottoes_25]
      refine callQ_of (PCall.arg hD4 (by simp)) rfl (.inl (by simp)) (by simp) ?_
      simp [r_w_FnMottoes_26]
      refine callQ_of (PCall.arg (i_SharedWords a b) (by simp)) rfl (.inl (by simp)) (by simp) ?_
      simp [r_w_FnMottoes_27]
      refine callQ_of (PCall.arg (i_SharedWords b a) (by simp)) rfl (.inl (by simp)) (by simp) ?_
      rw [sc1, sc2]
      simp [r_w_FnMottoes_28]
      refine callQ_v (PCall.arg hD5 (by simp)) ?_
      simp [r_w_FnMottoes_29]
      refine callQ_of (PCall.arg (i_InitialLetters t5 (by omega)) (by simp)) rfl (.inl (by simp)) (by simp) ?_
      simp [r_w_FnMottoes_30]
      refine callQ_of (PCall.arg (s_InitialLetters t5 (by omega)) (by simp)) rfl (.inl (by simp)) (by simp) ?_
      simp [r_w_FnMottoes_31]
      refine callQ_of (PCall.arg (s_SharedWords a b) (by simp)) rfl (.inl (by simp)) (by simp) ?_
      simp [r_w_FnMottoes_32]
      refine callQ_v (PCall.arg (w_rTexts (sharedL a b) (sharedL a b)) (by simp)) ?_
      simp
      refine callQ_v (PCall.arg (w_rTexts (sharedL a b) (sharedL a b)) (by simp)) ?_
      simp
    · simp [r_w_FnMottoes_18, hcc hc]
      simp [r_w_FnMottoes_20]
      refine callQ_v (PCall.arg hD3 (by simp)) ?_
      simp [r_w_FnMottoes_21]
      refine callQ_of (PCall.arg (i_ReadScroll t3) (by simp)) rfl (.inl (by simp)) (by simp) ?_
      simp [r_w_FnMottoes_22]
      refine callQ_of (PCall.arg (s_ReadScroll t3 (by omega)) (by simp)) rfl (.inl (by simp)) (by simp) ?_
      simp [r_w_FnMottoes_23]
      simp [r_w_FnMottoes_25]
      refine callQ_of (PCall.arg hD4 (by simp)) rfl (.inl (by simp)) (by simp) ?_
      simp [r_w_FnMottoes_26]
      refine callQ_of (PCall.arg (i_SharedWords a b) (by simp)) rfl (.inl (by simp)) (by simp) ?_
      simp [r_w_FnMottoes_27]
      refine callQ_of (PCall.arg (i_SharedWords b a) (by simp)) rfl (.inl (by simp)) (by simp) ?_
      rw [sc1, sc2]
      simp [r_w_FnMottoes_28]
      refine callQ_v (PCall.arg hD5 (by simp)) ?_
      simp [r_w_FnMottoes_29]
      refine callQ_of (PCall.arg (i_InitialLetters t5 (by omega)) (by simp)) rfl (.inl (by simp)) (by simp) ?_
      simp [r_w_FnMottoes_30]
      refine callQ_of (PCall.arg (s_InitialLetters t5 (by omega)) (by simp)) rfl (.inl (by simp)) (by simp) ?_
      simp [r_w_FnMottoes_31]
      refine callQ_of (PCall.arg (s_SharedWords a b) (by simp)) rfl (.inl (by simp)) (by simp) ?_
      simp [r_w_FnMottoes_32]
      refine callQ_v (PCall.arg (w_rTexts (sharedL a b) (sharedL a b)) (by simp)) ?_
      simp
      refine callQ_v (PCall.arg (w_rTexts (sharedL a b) (sharedL a b)) (by simp)) ?_
      simp
end Go.Proofs.YtopcfaffljjnbaaGreatDoor
