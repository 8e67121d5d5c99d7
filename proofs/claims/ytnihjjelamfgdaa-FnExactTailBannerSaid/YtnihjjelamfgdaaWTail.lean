/- The law functions: FnExactTailBanner. -/
import Derived.Test.YtnihjjelamfgdaaCodeWTail
import Derived.Test.YtnihjjelamfgdaaTail
import Derived.Test.YtnihjjelamfgdaaInts2
set_option linter.unusedVariables false
set_option linter.unusedSimpArgs false
namespace Go.Proofs.Ytnihjjelamfgdaa
open Go.Abs

theorem w_FnExactTailBanner (b : List (List Int)) (d : Int) : PCall Try.prog n_w_FnExactTailBanner [.ro 1 (b.map roI), I d] (B true) := by
  have hr := tail_bounds b d
  refine PCall.of fn_w_FnExactTailBanner (by simp) ?_
  simp [c_w_FnExactTailBanner, r_w_FnExactTailBanner_0, r_w_FnExactTailBanner_1, r_w_FnExactTailBanner_2]
  refine callQ_v (w_szIntSS b (1048576) (by omega) (by omega)) ?_
  simp [r_w_FnExactTailBanner_3]
  refine ⟨fun _ => by simp [r_w_FnExactTailBanner_4], fun hge0 => ?_⟩
  have hs0 := rest_nonneg (left := 1048576) (n := b.length + total b) (by omega)
  simp [r_w_FnExactTailBanner_5]
  refine callQ_of (PCall.arg (w_toIntSS b (by omega)) (by simp)) rfl (.inl (by simp)) (by simp) ?_
  simp
  refine callQ_of (PCall.arg (s_TailBanner b d) (by simp)) rfl (.inl (by simp)) (by simp) ?_
  simp [r_w_FnExactTailBanner_6]
  refine callQ_of (PCall.arg (w_toIntSS b (by omega)) (by simp)) rfl (.inl (by simp)) (by simp) ?_
  simp [r_w_FnExactTailBanner_7]
  refine callQ_of (PCall.arg (i_TailBanner b d) (by simp)) rfl (.inl (by simp)) (by simp) ?_
  simp [r_w_FnExactTailBanner_8]
  refine callQ_v (PCall.arg (w_eqIntSS (tail b d) (tail b d)) (by simp)) ?_
  simp [r_w_FnExactTailBanner_10]
  refine callQ_of (PCall.arg (w_toIntSS b (by omega)) (by simp)) rfl (.inl (by simp)) (by simp) ?_
  simp
  refine callQ_v (PCall.arg (w_eqIntSS (b) (b)) (by simp)) ?_
  simp [r_w_FnExactTailBanner_12, r_w_FnExactTailBanner_13]
  refine callQ_m [29] (MCall.arg (w_markIntSS (b) 1 (by omega) (by omega) (by omega) (by omega)) (by simp)) (by simp) (by simp) (by simp) (by simp) ?_
  have hk0 : ¬ (1 + ((total (b) : Nat) : Int) < 0) := by omega
  simp [r_w_FnExactTailBanner_14, hk0]
  refine callQ_v (PCall.arg (w_eqIntSS (tail b d) (tail b d)) (by simp)) ?_
  simp [r_w_FnExactTailBanner_16, r_w_FnExactTailBanner_17, hk0]
  refine callQ_m [33] (MCall.arg (w_markIntSS (tail b d) 1 (by omega) (by omega) (by omega) (by omega)) (by simp)) (by simp) (by simp) (by simp) (by simp) ?_
  have hk1 : ¬ (1 + ((total (tail b d) : Nat) : Int) < 0) := by omega
  simp [r_w_FnExactTailBanner_18, r_w_FnExactTailBanner_19, hk0, hk1]
  refine callQ_v (PCall.arg (w_heldIntSS (marksS (tail b d) 1) 1 (by simp [marksS_len]; omega) (by simp [marksS_total]; omega) (by omega) (by omega)) (by simp [marksS_len, List.take_of_length_le])) ?_
  rw [held_marks_IntSS]
  simp [r_w_FnExactTailBanner_20, r_w_FnExactTailBanner_22, r_w_FnExactTailBanner_24, hk0, hk1]
  refine callQ_of (PCall.arg (w_toIntSS b (by omega)) (by simp)) rfl (.inl (by simp)) (by simp) ?_
  simp [hk0, hk1]
  refine callQ_of (PCall.arg (i_TailBanner b d) (by simp)) rfl (.inl (by simp)) (by simp) ?_
  simp [r_w_FnExactTailBanner_25, hk0, hk1]
  refine callQ_v (PCall.arg (w_eqIntSS (tail b d) (tail b d)) (by simp)) ?_
  simp [r_w_FnExactTailBanner_27, r_w_FnExactTailBanner_28, hk0, hk1]
  refine callQ_v (PCall.arg (w_heldIntSS (marksS (tail b d) 1) 1 (by simp [marksS_len]; omega) (by simp [marksS_total]; omega) (by omega) (by omega)) (by simp [marksS_len, List.take_of_length_le])) ?_
  rw [held_marks_IntSS]
  simp [r_w_FnExactTailBanner_29, r_w_FnExactTailBanner_31, r_w_FnExactTailBanner_33, hk0, hk1]
end Go.Proofs.Ytnihjjelamfgdaa
