/- The law functions: FnExactIsValidBanner FnExactKeepsProportion. -/
import Derived.Test.YtaieoaahmmcnmaaCodeWKeeps
import Derived.Test.YtaieoaahmmcnmaaKeeps
import Derived.Test.YtaieoaahmmcnmaaInts2
set_option linter.unusedVariables false
set_option linter.unusedSimpArgs false
namespace Go.Proofs.Ytaieoaahmmcnmaa
open Go.Abs

theorem w_FnExactIsValidBanner (b : List (List Int)) : PCall Try.prog n_w_FnExactIsValidBanner [.ro 1 (b.map roI)] (B true) := by
  refine PCall.of fn_w_FnExactIsValidBanner (by simp) ?_
  simp [c_w_FnExactIsValidBanner, r_w_FnExactIsValidBanner_0, r_w_FnExactIsValidBanner_1, r_w_FnExactIsValidBanner_2]
  refine callQ_v (w_szIntSS b (1048576) (by omega) (by omega)) ?_
  simp [r_w_FnExactIsValidBanner_3]
  refine ⟨fun _ => by simp [r_w_FnExactIsValidBanner_4], fun hge0 => ?_⟩
  have hs0 := rest_nonneg (left := 1048576) (n := b.length + total b) (by omega)
  simp [r_w_FnExactIsValidBanner_5]
  refine callQ_of (PCall.arg (w_toIntSS b (by omega)) (by simp)) rfl (.inl (by simp)) (by simp) ?_
  simp
  refine callQ_v (PCall.arg (s_IsValidBanner b) (by simp)) ?_
  simp [r_w_FnExactIsValidBanner_6]
  refine callQ_of (PCall.arg (w_toIntSS b (by omega)) (by simp)) rfl (.inl (by simp)) (by simp) ?_
  simp [r_w_FnExactIsValidBanner_7]
  refine callQ_v (PCall.arg (i_IsValidBanner b) (by simp)) ?_
  simp [r_w_FnExactIsValidBanner_8, r_w_FnExactIsValidBanner_10]
  refine callQ_of (PCall.arg (w_toIntSS b (by omega)) (by simp)) rfl (.inl (by simp)) (by simp) ?_
  simp
  refine callQ_v (PCall.arg (w_eqIntSS (b) (b)) (by simp)) ?_
  simp [r_w_FnExactIsValidBanner_12]

theorem w_FnExactKeepsProportion (b : List (List Int)) (p : Proportion) : PCall Try.prog n_w_FnExactKeepsProportion [.ro 1 (b.map roI), eProportion p] (B true) := by
  refine PCall.of fn_w_FnExactKeepsProportion (by simp) ?_
  simp [c_w_FnExactKeepsProportion, r_w_FnExactKeepsProportion_0, r_w_FnExactKeepsProportion_1, r_w_FnExactKeepsProportion_2]
  refine callQ_v (w_szIntSS b (1048576) (by omega) (by omega)) ?_
  simp [r_w_FnExactKeepsProportion_3]
  refine ⟨fun _ => by simp [r_w_FnExactKeepsProportion_4], fun hge0 => ?_⟩
  have hs0 := rest_nonneg (left := 1048576) (n := b.length + total b) (by omega)
  simp [r_w_FnExactKeepsProportion_5, p_w_FnExactKeepsProportion_5]
  refine callD_of (PCall.arg (w_toIntSS b (by omega)) (by simp)) rfl (.inl (by simp)) ?_ ?_ ?_
  · simp
  · simp
  simp
  refine callD_of (w_toProportion p.high p.wide) rfl (.inl (by simp)) ?_ ?_ ?_
  · simp
  · simp
  simp
  refine callD_of (PCall.arg (s_KeepsProportion b p.high p.wide) (by simp)) rfl (.inl (by simp)) ?_ ?_ ?_
  · simp
  · simp
  simp
  refine ⟨oEnd_of (by first | kernel_rfl | simp) (by first | kernel_rfl | simp), ?_⟩
  simp [r_w_FnExactKeepsProportion_6]
  refine callQ_of (PCall.arg (w_toIntSS b (by omega)) (by simp)) rfl (.inl (by simp)) (by simp) ?_
  simp [r_w_FnExactKeepsProportion_7]
  refine callQ_of (w_toProportion p.high p.wide) rfl (.inl (by simp)) (by simp) ?_
  simp
  refine callQ_of (PCall.arg (i_KeepsProportion b p.high p.wide) (by simp)) rfl (.inl (by simp)) (by simp) ?_
  simp [r_w_FnExactKeepsProportion_8, r_w_FnExactKeepsProportion_10]
  refine callQ_of (PCall.arg (w_toIntSS b (by omega)) (by simp)) rfl (.inl (by simp)) (by simp) ?_
  simp
  refine callQ_v (PCall.arg (w_eqIntSS (b) (b)) (by simp)) ?_
  simp [r_w_FnExactKeepsProportion_12]
end Go.Proofs.Ytaieoaahmmcnmaa
