/- The law functions: FnExactTinctureAreas. -/
import Derived.Test.YtaieoaahmmcnmaaCodeWAreas
import Derived.Test.YtaieoaahmmcnmaaAreas
import Derived.Test.YtaieoaahmmcnmaaInts2
set_option linter.unusedVariables false
set_option linter.unusedSimpArgs false
namespace Go.Proofs.Ytaieoaahmmcnmaa
open Go.Abs

theorem w_FnExactTinctureAreas (b : List (List Int)) : PCall Try.prog n_w_FnExactTinctureAreas [.ro 1 (b.map roI)] (B true) := by
  have hr := areas_len b
  refine PCall.of fn_w_FnExactTinctureAreas (by simp) ?_
  simp [c_w_FnExactTinctureAreas, r_w_FnExactTinctureAreas_0, r_w_FnExactTinctureAreas_1, r_w_FnExactTinctureAreas_2]
  refine callQ_v (w_szIntSS b (1048576) (by omega) (by omega)) ?_
  simp [r_w_FnExactTinctureAreas_3]
  refine ⟨fun _ => by simp [r_w_FnExactTinctureAreas_4], fun hge0 => ?_⟩
  have hs0 := rest_nonneg (left := 1048576) (n := b.length + total b) (by omega)
  simp [r_w_FnExactTinctureAreas_5]
  refine callQ_of (PCall.arg (w_toIntSS b (by omega)) (by simp)) rfl (.inl (by simp)) (by simp) ?_
  simp
  refine callQ_of (PCall.arg (s_TinctureAreas b) (by simp)) rfl (.inl (by simp)) (by simp) ?_
  simp [r_w_FnExactTinctureAreas_6]
  refine callQ_of (PCall.arg (w_toIntSS b (by omega)) (by simp)) rfl (.inl (by simp)) (by simp) ?_
  simp [r_w_FnExactTinctureAreas_7]
  refine callQ_of (PCall.arg (i_TinctureAreas b) (by simp)) rfl (.inl (by simp)) (by simp) ?_
  simp [r_w_FnExactTinctureAreas_8]
  refine callQ_v (PCall.arg (w_eqIntS (areas b) (areas b)) (by simp)) ?_
  simp [r_w_FnExactTinctureAreas_10]
  refine callQ_of (PCall.arg (w_toIntSS b (by omega)) (by simp)) rfl (.inl (by simp)) (by simp) ?_
  simp
  refine callQ_v (PCall.arg (w_eqIntSS (b) (b)) (by simp)) ?_
  simp [r_w_FnExactTinctureAreas_12, r_w_FnExactTinctureAreas_13]
  refine callQ_m [26] (MCall.arg (w_markIntSS (b) 1 (by omega) (by omega) (by omega) (by omega)) (by simp)) (by simp) (by simp) (by simp) (by simp) ?_
  have hk0 : ¬ (1 + ((total (b) : Nat) : Int) < 0) := by omega
  simp [r_w_FnExactTinctureAreas_14, hk0]
  refine callQ_v (PCall.arg (w_eqIntS (areas b) (areas b)) (by simp)) ?_
  simp [r_w_FnExactTinctureAreas_16, r_w_FnExactTinctureAreas_17, hk0]
  refine callQ_m [29] (MCall.arg (w_markIntS (areas b) 1 (by omega) (by omega) (by omega)) (by simp)) (by simp) (by simp) (by simp) (by simp) ?_
  have hk1 : ¬ (1 + (((areas b).length : Nat) : Int) < 0) := by omega
  simp [r_w_FnExactTinctureAreas_18, r_w_FnExactTinctureAreas_19, hk0, hk1]
  refine callQ_v (PCall.arg (w_heldIntS (marks 1 (areas b).length) 1 (by simp [marks_len]; omega) (by omega) (by omega)) (by simp [marks_len, List.take_of_length_le])) ?_
  rw [held_marks_IntS]
  simp [r_w_FnExactTinctureAreas_20, r_w_FnExactTinctureAreas_22, r_w_FnExactTinctureAreas_24, hk0, hk1]
  refine callQ_of (PCall.arg (w_toIntSS b (by omega)) (by simp)) rfl (.inl (by simp)) (by simp) ?_
  simp [hk0, hk1]
  refine callQ_of (PCall.arg (i_TinctureAreas b) (by simp)) rfl (.inl (by simp)) (by simp) ?_
  simp [r_w_FnExactTinctureAreas_25, hk0, hk1]
  refine callQ_v (PCall.arg (w_eqIntS (areas b) (areas b)) (by simp)) ?_
  simp [r_w_FnExactTinctureAreas_27, r_w_FnExactTinctureAreas_28, hk0, hk1]
  refine callQ_v (PCall.arg (w_heldIntS (marks 1 (areas b).length) 1 (by simp [marks_len]; omega) (by omega) (by omega)) (by simp [marks_len, List.take_of_length_le])) ?_
  rw [held_marks_IntS]
  simp [r_w_FnExactTinctureAreas_29, r_w_FnExactTinctureAreas_31, r_w_FnExactTinctureAreas_33, hk0, hk1]
end Go.Proofs.Ytaieoaahmmcnmaa
