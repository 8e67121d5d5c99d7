/- The law functions: FnExactMirrorBanner. -/
import Derived.Test.YtnihjjelamfgdaaCodeWMirror
import Derived.Test.YtnihjjelamfgdaaMirror
import Derived.Test.YtnihjjelamfgdaaInts2
set_option linter.unusedVariables false
set_option linter.unusedSimpArgs false
namespace Go.Proofs.Ytnihjjelamfgdaa
open Go.Abs

theorem w_FnExactMirrorBanner (b : List (List Int)) : PCall Try.prog n_w_FnExactMirrorBanner [.ro 1 (b.map roI)] (B true) := by
  have hr := mirror_bounds b
  refine PCall.of fn_w_FnExactMirrorBanner (by simp) ?_
  simp [c_w_FnExactMirrorBanner, r_w_FnExactMirrorBanner_0, r_w_FnExactMirrorBanner_1, r_w_FnExactMirrorBanner_2]
  refine callQ_v (w_szIntSS b (1048576) (by omega) (by omega)) ?_
  simp [r_w_FnExactMirrorBanner_3]
  refine ⟨fun _ => by simp [r_w_FnExactMirrorBanner_4], fun hge0 => ?_⟩
  have hs0 := rest_nonneg (left := 1048576) (n := b.length + total b) (by omega)
  simp [r_w_FnExactMirrorBanner_5]
  refine callQ_of (PCall.arg (w_toIntSS b (by omega)) (by simp)) rfl (.inl (by simp)) (by simp) ?_
  simp
  refine callQ_of (PCall.arg (s_MirrorBanner b) (by simp)) rfl (.inl (by simp)) (by simp) ?_
  simp [r_w_FnExactMirrorBanner_6]
  refine callQ_of (PCall.arg (w_toIntSS b (by omega)) (by simp)) rfl (.inl (by simp)) (by simp) ?_
  simp [r_w_FnExactMirrorBanner_7]
  refine callQ_of (PCall.arg (i_MirrorBanner b) (by simp)) rfl (.inl (by simp)) (by simp) ?_
  simp [r_w_FnExactMirrorBanner_8]
  refine callQ_v (PCall.arg (w_eqIntSS (mirror b) (mirror b)) (by simp)) ?_
  simp [r_w_FnExactMirrorBanner_10]
  refine callQ_of (PCall.arg (w_toIntSS b (by omega)) (by simp)) rfl (.inl (by simp)) (by simp) ?_
  simp
  refine callQ_v (PCall.arg (w_eqIntSS (b) (b)) (by simp)) ?_
  simp [r_w_FnExactMirrorBanner_12, r_w_FnExactMirrorBanner_13]
  refine callQ_m [26] (MCall.arg (w_markIntSS (b) 1 (by omega) (by omega) (by omega) (by omega)) (by simp)) (by simp) (by simp) (by simp) (by simp) ?_
  have hk0 : ¬ (1 + ((total (b) : Nat) : Int) < 0) := by omega
  simp [r_w_FnExactMirrorBanner_14, hk0]
  refine callQ_v (PCall.arg (w_eqIntSS (mirror b) (mirror b)) (by simp)) ?_
  simp [r_w_FnExactMirrorBanner_16, r_w_FnExactMirrorBanner_17, hk0]
  refine callQ_m [29] (MCall.arg (w_markIntSS (mirror b) 1 (by omega) (by omega) (by omega) (by omega)) (by simp)) (by simp) (by simp) (by simp) (by simp) ?_
  have hk1 : ¬ (1 + ((total (mirror b) : Nat) : Int) < 0) := by omega
  simp [r_w_FnExactMirrorBanner_18, r_w_FnExactMirrorBanner_19, hk0, hk1]
  refine callQ_v (PCall.arg (w_heldIntSS (marksS (mirror b) 1) 1 (by simp [marksS_len]; omega) (by simp [marksS_total]; omega) (by omega) (by omega)) (by simp [marksS_len, List.take_of_length_le])) ?_
  rw [held_marks_IntSS]
  simp [r_w_FnExactMirrorBanner_20, r_w_FnExactMirrorBanner_22, r_w_FnExactMirrorBanner_24, hk0, hk1]
  refine callQ_of (PCall.arg (w_toIntSS b (by omega)) (by simp)) rfl (.inl (by simp)) (by simp) ?_
  simp [hk0, hk1]
  refine callQ_of (PCall.arg (i_MirrorBanner b) (by simp)) rfl (.inl (by simp)) (by simp) ?_
  simp [r_w_FnExactMirrorBanner_25, hk0, hk1]
  refine callQ_v (PCall.arg (w_eqIntSS (mirror b) (mirror b)) (by simp)) ?_
  simp [r_w_FnExactMirrorBanner_27, r_w_FnExactMirrorBanner_28, hk0, hk1]
  refine callQ_v (PCall.arg (w_heldIntSS (marksS (mirror b) 1) 1 (by simp [marksS_len]; omega) (by simp [marksS_total]; omega) (by omega) (by omega)) (by simp [marksS_len, List.take_of_length_le])) ?_
  rw [held_marks_IntSS]
  simp [r_w_FnExactMirrorBanner_29, r_w_FnExactMirrorBanner_31, r_w_FnExactMirrorBanner_33, hk0, hk1]
end Go.Proofs.Ytnihjjelamfgdaa
