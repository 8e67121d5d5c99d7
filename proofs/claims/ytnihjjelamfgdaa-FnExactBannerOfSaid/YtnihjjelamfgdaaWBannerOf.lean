/- The law functions: FnExactBannerOf. -/
import Derived.Test.YtnihjjelamfgdaaCodeWBannerOf
import Derived.Test.YtnihjjelamfgdaaBannerOf
import Derived.Test.YtnihjjelamfgdaaInts2
set_option linter.unusedVariables false
set_option linter.unusedSimpArgs false
namespace Go.Proofs.Ytnihjjelamfgdaa
open Go.Abs

theorem w_FnExactBannerOf (p : List (List Int)) (rows : Int) (cols : Int) : PCall Try.prog n_w_FnExactBannerOf [.ro 1 (p.map roI), I rows, I cols] (B true) := by
  have hr := bannerOf_bounds p rows cols
  refine PCall.of fn_w_FnExactBannerOf (by simp) ?_
  simp [c_w_FnExactBannerOf, r_w_FnExactBannerOf_0, r_w_FnExactBannerOf_1, r_w_FnExactBannerOf_2]
  refine callQ_v (w_szIntSS p (1048576) (by omega) (by omega)) ?_
  simp [r_w_FnExactBannerOf_3]
  refine ⟨fun _ => by simp [r_w_FnExactBannerOf_4], fun hge0 => ?_⟩
  have hs0 := rest_nonneg (left := 1048576) (n := p.length + total p) (by omega)
  simp [r_w_FnExactBannerOf_5]
  refine callQ_of (PCall.arg (w_toIntSS p (by omega)) (by simp)) rfl (.inl (by simp)) (by simp) ?_
  simp
  refine callQ_of (PCall.arg (s_BannerOf p rows cols) (by simp)) rfl (.inl (by simp)) (by simp) ?_
  simp [r_w_FnExactBannerOf_6]
  refine callQ_of (PCall.arg (w_toIntSS p (by omega)) (by simp)) rfl (.inl (by simp)) (by simp) ?_
  simp [r_w_FnExactBannerOf_7]
  refine callQ_of (PCall.arg (i_BannerOf p rows cols) (by simp)) rfl (.inl (by simp)) (by simp) ?_
  simp [r_w_FnExactBannerOf_8]
  refine callQ_v (PCall.arg (w_eqIntSS (bannerOf p rows cols) (bannerOf p rows cols)) (by simp)) ?_
  simp [r_w_FnExactBannerOf_10]
  refine callQ_of (PCall.arg (w_toIntSS p (by omega)) (by simp)) rfl (.inl (by simp)) (by simp) ?_
  simp
  refine callQ_v (PCall.arg (w_eqIntSS (p) (p)) (by simp)) ?_
  simp [r_w_FnExactBannerOf_12, r_w_FnExactBannerOf_13]
  refine callQ_m [32] (MCall.arg (w_markIntSS (p) 1 (by omega) (by omega) (by omega) (by omega)) (by simp)) (by simp) (by simp) (by simp) (by simp) ?_
  have hk0 : ¬ (1 + ((total (p) : Nat) : Int) < 0) := by omega
  simp [r_w_FnExactBannerOf_14, hk0]
  refine callQ_v (PCall.arg (w_eqIntSS (bannerOf p rows cols) (bannerOf p rows cols)) (by simp)) ?_
  simp [r_w_FnExactBannerOf_16, r_w_FnExactBannerOf_17, hk0]
  refine callQ_m [37] (MCall.arg (w_markIntSS (bannerOf p rows cols) 1 (by omega) (by omega) (by omega) (by omega)) (by simp)) (by simp) (by simp) (by simp) (by simp) ?_
  have hk1 : ¬ (1 + ((total (bannerOf p rows cols) : Nat) : Int) < 0) := by omega
  simp [r_w_FnExactBannerOf_18, r_w_FnExactBannerOf_19, hk0, hk1]
  refine callQ_v (PCall.arg (w_heldIntSS (marksS (bannerOf p rows cols) 1) 1 (by simp [marksS_len]; omega) (by simp [marksS_total]; omega) (by omega) (by omega)) (by simp [marksS_len, List.take_of_length_le])) ?_
  rw [held_marks_IntSS]
  simp [r_w_FnExactBannerOf_20, r_w_FnExactBannerOf_22, r_w_FnExactBannerOf_24, hk0, hk1]
  refine callQ_of (PCall.arg (w_toIntSS p (by omega)) (by simp)) rfl (.inl (by simp)) (by simp) ?_
  simp [hk0, hk1]
  refine callQ_of (PCall.arg (i_BannerOf p rows cols) (by simp)) rfl (.inl (by simp)) (by simp) ?_
  simp [r_w_FnExactBannerOf_25, hk0, hk1]
  refine callQ_v (PCall.arg (w_eqIntSS (bannerOf p rows cols) (bannerOf p rows cols)) (by simp)) ?_
  simp [r_w_FnExactBannerOf_27, r_w_FnExactBannerOf_28, hk0, hk1]
  refine callQ_v (PCall.arg (w_heldIntSS (marksS (bannerOf p rows cols) 1) 1 (by simp [marksS_len]; omega) (by simp [marksS_total]; omega) (by omega) (by omega)) (by simp [marksS_len, List.take_of_length_le])) ?_
  rw [held_marks_IntSS]
  simp [r_w_FnExactBannerOf_29, r_w_FnExactBannerOf_31, r_w_FnExactBannerOf_33, hk0, hk1]
end Go.Proofs.Ytnihjjelamfgdaa
