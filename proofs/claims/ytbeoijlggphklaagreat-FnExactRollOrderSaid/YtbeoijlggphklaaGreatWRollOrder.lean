/- RollOrder: the law. -/
import Derived.Test.YtbeoijlggphklaaGreatCodeWRollOrder
import Derived.Test.YtbeoijlggphklaaGreatRollOrd2
import Derived.Test.YtbeoijlggphklaaGreatInts
import Derived.Test.YtbeoijlggphklaaGreatConsoleT
set_option linter.unusedVariables false
set_option linter.unusedSimpArgs false
namespace Go.Proofs.YtbeoijlggphklaaGreat
open Go.Abs

theorem w_FnExactRollOrder (l : Register) (y : Int) : PCall Tryz.prog n_w_FnExactRollOrder [eRegister l, I y] (B true) := by
  have hn := orderN_len l y
  refine PCall.of fn_w_FnExactRollOrder (by simp) ?_
  simp [c_w_FnExactRollOrder, r_w_FnExactRollOrder_0, r_w_FnExactRollOrder_1, r_w_FnExactRollOrder_2]
  refine callQ_v (PCall.arg (w_szRegister l 1048576 (by omega) (by omega)) (by simp)) ?_
  simp [r_w_FnExactRollOrder_3]
  refine ⟨fun _ => by simp [r_w_FnExactRollOrder_4], fun hge => ?_⟩
  have hs := rest_nonneg (left := 1048576) (n := szG l) (by omega)
  have hl : List.length l ≤ 1048576 := by unfold szG at hs; omega
  have hto := w_toRegister l hl
  have hS := s_RollOrder l y
  have hI := i_RollOrder l y
  generalize orderN l y = N at hn hS hI ⊢
  simp [r_w_FnExactRollOrder_5]
  refine callQ_of (PCall.arg hto (by simp)) rfl (.inl (by simp)) (by simp) ?_
  simp
  refine callQ_of (PCall.arg hS (by simp)) rfl (.inl (by simp)) (by simp) ?_
  simp [r_w_FnExactRollOrder_6]
  refine callQ_of (PCall.arg hto (by simp)) rfl (.inl (by simp)) (by simp) ?_
  simp [r_w_FnExactRollOrder_7]
  refine callQ_of (PCall.arg hI (by simp)) rfl (.inl (by simp)) (by simp) ?_
  simp [r_w_FnExactRollOrder_8]
  refine callQ_v (PCall.arg (w_eqIntS N N) (by simp)) ?_
  simp [r_w_FnExactRollOrder_10, p_w_FnExactRollOrder_10]
  refine callD_of (PCall.arg hto (by simp)) rfl (.inl (by simp)) ?_ ?_ ?_
  · simp
  · simp
  simp
  refine callD_v (PCall.arg (w_eqRegister l l) (by simp [List.take_of_length_le])) ?_ ?_ ?_
  · simp
  · simp
  simp
  refine ⟨oEnd_of (by simp [p_w_FnExactRollOrder_10]) (by simp), ?_⟩
  simp [r_w_FnExactRollOrder_12, r_w_FnExactRollOrder_13]
  refine callQ_m [29] (MCall.arg (w_markRegister l 1 (by omega) (by omega)) (by simp)) (by simp) (by simp) (by simp) (by simp) ?_
  have hk1 : ¬ (1 + 18 * (List.length l : Int) < 0) := by omega
  simp [r_w_FnExactRollOrder_14, hk1]
  refine callQ_v (PCall.arg (w_eqIntS N N) (by simp)) ?_
  simp
  simp [r_w_FnExactRollOrder_16, r_w_FnExactRollOrder_17]
  refine callQ_m [33] (MCall.arg (w_markIntS N 1 (by omega) (by omega) (by omega)) (by simp)) (by simp) (by simp) (by simp) (by simp) ?_
  have hk2 : ¬ (1 + (N.length : Int) < 0) := by omega
  have hh : held (marks 1 N.length) 1 = 1 + N.length := held_marks_IntS N 1
  have hml := marks_len 1 N.length
  simp [r_w_FnExactRollOrder_18, r_w_FnExactRollOrder_19, hk2]
  refine callQ_v (PCall.arg (w_heldIntS (marks 1 N.length) 1 (by omega) (by omega) (by omega)) (by simp [marks_len, List.take_of_length_le])) ?_
  rw [hh]
  simp [r_w_FnExactRollOrder_20, r_w_FnExactRollOrder_22, hk2]
  simp [r_w_FnExactRollOrder_24]
  refine callQ_of (PCall.arg hto (by simp)) rfl (.inl (by simp)) (by simp) ?_
  simp
  refine callQ_of (PCall.arg hI (by simp)) rfl (.inl (by simp)) (by simp) ?_
  simp [r_w_FnExactRollOrder_25]
  refine callQ_v (PCall.arg (w_eqIntS N N) (by simp)) ?_
  simp
  simp [r_w_FnExactRollOrder_27, r_w_FnExactRollOrder_28]
  refine callQ_v (PCall.arg (w_heldIntS (marks 1 N.length) 1 (by omega) (by omega) (by omega)) (by simp [marks_len, List.take_of_length_le])) ?_
  rw [hh]
  simp [r_w_FnExactRollOrder_29, r_w_FnExactRollOrder_31, r_w_FnExactRollOrder_33, hk2]
end Go.Proofs.YtbeoijlggphklaaGreat
