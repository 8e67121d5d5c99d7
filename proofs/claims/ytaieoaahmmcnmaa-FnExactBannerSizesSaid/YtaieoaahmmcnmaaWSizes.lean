/- The law functions: FnExactBannerSizes. -/
import Derived.Test.YtaieoaahmmcnmaaCodeWSizes
import Derived.Test.YtaieoaahmmcnmaaSizes
set_option linter.unusedVariables false
set_option linter.unusedSimpArgs false
namespace Go.Proofs.Ytaieoaahmmcnmaa
open Go.Abs

theorem w_FnExactBannerSizes (p : Proportion) : PCall Try.prog n_w_FnExactBannerSizes [eProportion p] (B true) := by
  have hr := sizes_bounds (h := p.high) (w := p.wide)
  refine PCall.of fn_w_FnExactBannerSizes (by simp) ?_
  simp [c_w_FnExactBannerSizes, r_w_FnExactBannerSizes_0, r_w_FnExactBannerSizes_1]
  refine callQ_of (w_toProportion p.high p.wide) rfl (.inl (by simp)) (by simp) ?_
  simp
  refine callQ_of (PCall.arg (s_BannerSizes p.high p.wide) (by simp)) rfl (.inl (by simp)) (by simp) ?_
  simp [r_w_FnExactBannerSizes_2]
  refine callQ_of (w_toProportion p.high p.wide) rfl (.inl (by simp)) (by simp) ?_
  simp
  refine callQ_of (PCall.arg (i_BannerSizes p.high p.wide) (by simp)) rfl (.inl (by simp)) (by simp) ?_
  simp [r_w_FnExactBannerSizes_3]
  refine callQ_v (PCall.arg (w_eqIntSS (sizes p.high p.wide) (sizes p.high p.wide)) (by simp)) ?_
  simp [r_w_FnExactBannerSizes_5, r_w_FnExactBannerSizes_6]
  refine callQ_m [20] (MCall.arg (w_markIntSS (sizes p.high p.wide) 1 (by omega) (by omega) (by omega) (by omega)) (by simp)) (by simp) (by simp) (by simp) (by simp) ?_
  have hk0 : ¬ (1 + ((total (sizes p.high p.wide) : Nat) : Int) < 0) := by omega
  simp [r_w_FnExactBannerSizes_7, r_w_FnExactBannerSizes_8, hk0]
  refine callQ_v (PCall.arg (w_heldIntSS (marksS (sizes p.high p.wide) 1) 1 (by simp [marksS_len]; omega) (by simp [marksS_total]; omega) (by omega) (by omega)) (by simp [marksS_len, List.take_of_length_le])) ?_
  rw [held_marks_IntSS]
  simp [r_w_FnExactBannerSizes_9, r_w_FnExactBannerSizes_11, r_w_FnExactBannerSizes_13, hk0]
  refine callQ_of (w_toProportion p.high p.wide) rfl (.inl (by simp)) (by simp) ?_
  simp [hk0]
  refine callQ_of (PCall.arg (i_BannerSizes p.high p.wide) (by simp)) rfl (.inl (by simp)) (by simp) ?_
  simp [r_w_FnExactBannerSizes_14, hk0]
  refine callQ_v (PCall.arg (w_eqIntSS (sizes p.high p.wide) (sizes p.high p.wide)) (by simp)) ?_
  simp [r_w_FnExactBannerSizes_16, r_w_FnExactBannerSizes_17, hk0]
  refine callQ_v (PCall.arg (w_heldIntSS (marksS (sizes p.high p.wide) 1) 1 (by simp [marksS_len]; omega) (by simp [marksS_total]; omega) (by omega) (by omega)) (by simp [marksS_len, List.take_of_length_le])) ?_
  rw [held_marks_IntSS]
  simp [r_w_FnExactBannerSizes_18, r_w_FnExactBannerSizes_20, r_w_FnExactBannerSizes_22, hk0]
end Go.Proofs.Ytaieoaahmmcnmaa
