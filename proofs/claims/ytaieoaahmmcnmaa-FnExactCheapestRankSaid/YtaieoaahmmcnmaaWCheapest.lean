/- The law function: FnExactCheapestRank. -/
import Derived.Test.YtaieoaahmmcnmaaCodeWCheapest
import Derived.Test.YtaieoaahmmcnmaaTariff
set_option linter.unusedVariables false
set_option linter.unusedSimpArgs false
namespace Go.Proofs.Ytaieoaahmmcnmaa
open Go.Abs

theorem w_FnExactCheapestRank (t : Tariff) : PCall Try.prog n_w_FnExactCheapestRank [eTariff t] (B true) := by
  refine PCall.of fn_w_FnExactCheapestRank (by simp) ?_
  simp [c_w_FnExactCheapestRank, r_w_FnExactCheapestRank_0, r_w_FnExactCheapestRank_1, r_w_FnExactCheapestRank_2]
  refine callQ_v (PCall.arg (w_szTariff t (1048576) (by omega) (by omega)) (by simp)) ?_
  simp [r_w_FnExactCheapestRank_3]
  refine ⟨fun _ => by simp [r_w_FnExactCheapestRank_4], fun hge0 => ?_⟩
  have hs0 := rest_nonneg (left := 1048576) (n := t.base.length) (by omega)
  simp [r_w_FnExactCheapestRank_5]
  refine callQ_of (PCall.arg (w_toTariff t (by omega)) (by simp)) rfl (.inl (by simp)) (by simp) ?_
  simp
  refine callQ_of (PCall.arg (s_CheapestRank t) (by simp)) rfl (.inl (by simp)) (by simp) ?_
  simp [r_w_FnExactCheapestRank_6]
  refine callQ_of (PCall.arg (w_toTariff t (by omega)) (by simp)) rfl (.inl (by simp)) (by simp) ?_
  simp [r_w_FnExactCheapestRank_7]
  refine ⟨⟨?_, ?_⟩, ?_⟩
  · rintro a b (⟨rfl, rfl⟩ | ⟨rfl, rfl⟩ | ⟨rfl, rfl⟩ | ⟨rfl, rfl⟩ | ⟨rfl, rfl⟩) <;> simp [ment]
  · rintro a b (⟨rfl, rfl⟩ | ⟨rfl, rfl⟩ | ⟨rfl, rfl⟩) <;> simp [ment, ments]
  refine callQ_of (PCall.arg (i_CheapestRank t) (by simp)) rfl (.inl (by simp)) (by simp) ?_
  simp [r_w_FnExactCheapestRank_8, r_w_FnExactCheapestRank_10, p_w_FnExactCheapestRank_10]
  refine callD_of (PCall.arg (w_toTariff t (by omega)) (by simp)) rfl (.inl (by simp)) ?_ ?_ ?_
  · simp
  · simp
  simp
  refine callD_v (PCall.arg (w_eqTariff t t) (by simp)) ?_ ?_ ?_
  · simp
  · simp
  simp
  refine ⟨oEnd_of (by kernel_rfl) (by simp), ?_⟩
  simp [r_w_FnExactCheapestRank_12]
end Go.Proofs.Ytaieoaahmmcnmaa
