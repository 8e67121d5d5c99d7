/- The law functions: FnExactBorderBanner. -/
import Derived.Test.YtnihjjelamfgdaaCodeWBorder
import Derived.Test.YtnihjjelamfgdaaBorder
import Derived.Test.YtnihjjelamfgdaaInts2
set_option linter.unusedVariables false
set_option linter.unusedSimpArgs false
namespace Go.Proofs.Ytnihjjelamfgdaa
open Go.Abs

theorem w_FnExactBorderBanner (b : List (List Int)) (t : Int) (w : Int) : PCall Try.prog n_w_FnExactBorderBanner [.ro 1 (b.map roI), I t, I w] (B true) := by
  have hr := border_bounds b t w
  refine PCall.of fn_w_FnExactBorderBanner (by simp) ?_
  simp [c_w_FnExactBorderBanner, r_w_FnExactBorderBanner_0, r_w_FnExactBorderBanner_1, r_w_FnExactBorderBanner_2]
  refine callQ_v (w_szIntSS b (1048576) (by omega) (by omega)) ?_
  simp [r_w_FnExactBorderBanner_3]
  refine ⟨fun _ => by simp [r_w_FnExactBorderBanner_4], fun hge0 => ?_⟩
  have hs0 := rest_nonneg (left := 1048576) (n := b.length + total b) (by omega)
  simp [r_w_FnExactBorderBanner_5]
  refine callQ_of (PCall.arg (w_toIntSS b (by omega)) (by simp)) rfl (.inl (by simp)) (by simp) ?_
  simp
  refine callQ_of (PCall.arg (s_BorderBanner b t w) (by simp)) rfl (.inl (by simp)) (by simp) ?_
  simp [r_w_FnExactBorderBanner_6]
  refine callQ_of (PCall.arg (w_toIntSS b (by omega)) (by simp)) rfl (.inl (by simp)) (by simp) ?_
  simp [r_w_FnExactBorderBanner_7]
  refine callQ_of (PCall.arg (i_BorderBanner b t w) (by simp)) rfl (.inl (by simp)) (by simp) ?_
  simp [r_w_FnExactBorderBanner_8]
  refine callQ_v (PCall.arg (w_eqIntSS (border b t w) (border b t w)) (by simp)) ?_
  simp [r_w_FnExactBorderBanner_10]
  refine callQ_of (PCall.arg (w_toIntSS b (by omega)) (by simp)) rfl (.inl (by simp)) (by simp) ?_
  simp
  refine callQ_v (PCall.arg (w_eqIntSS (b) (b)) (by simp)) ?_
  simp [r_w_FnExactBorderBanner_12, r_w_FnExactBorderBanner_13]
  refine callQ_m [32] (MCall.arg (w_markIntSS (b) 1 (by omega) (by omega) (by omega) (by omega)) (by simp)) (by simp) (by simp) (by simp) (by simp) ?_
  have hk0 : ¬ (1 + ((total (b) : Nat) : Int) < 0) := by omega
  simp [r_w_FnExactBorderBanner_14, hk0]
  refine callQ_v (PCall.arg (w_eqIntSS (border b t w) (border b t w)) (by simp)) ?_
  simp [r_w_FnExactBorderBanner_16, r_w_FnExactBorderBanner_17, hk0]
  refine callQ_m [37] (MCall.arg (w_markIntSS (border b t w) 1 (by omega) (by omega) (by omega) (by omega)) (by simp)) (by simp) (by simp) (by simp) (by simp) ?_
  have hk1 : ¬ (1 + ((total (border b t w) : Nat) : Int) < 0) := by omega
  simp [r_w_FnExactBorderBanner_18, r_w_FnExactBorderBanner_19, hk0, hk1]
  refine callQ_v (PCall.arg (w_heldIntSS (marksS (border b t w) 1) 1 (by simp [marksS_len]; omega) (by simp [marksS_total]; omega) (by omega) (by omega)) (by simp [marksS_len, List.take_of_length_le])) ?_
  rw [held_marks_IntSS]
  simp [r_w_FnExactBorderBanner_20, r_w_FnExactBorderBanner_22, r_w_FnExactBorderBanner_24, hk0, hk1]
  refine callQ_of (PCall.arg (w_toIntSS b (by omega)) (by simp)) rfl (.inl (by simp)) (by simp) ?_
  simp [hk0, hk1]
  refine callQ_of (PCall.arg (i_BorderBanner b t w) (by simp)) rfl (.inl (by simp)) (by simp) ?_
  simp [r_w_FnExactBorderBanner_25, hk0, hk1]
  refine callQ_v (PCall.arg (w_eqIntSS (border b t w) (border b t w)) (by simp)) ?_
  simp [r_w_FnExactBorderBanner_27, r_w_FnExactBorderBanner_28, hk0, hk1]
  refine callQ_v (PCall.arg (w_heldIntSS (marksS (border b t w) 1) 1 (by simp [marksS_len]; omega) (by simp [marksS_total]; omega) (by omega) (by omega)) (by simp [marksS_len, List.take_of_length_le])) ?_
  rw [held_marks_IntSS]
  simp [r_w_FnExactBorderBanner_29, r_w_FnExactBorderBanner_31, r_w_FnExactBorderBanner_33, hk0, hk1]
end Go.Proofs.Ytnihjjelamfgdaa
