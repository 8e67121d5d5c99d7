/- The law functions: FnExactFeeFor. -/
import Derived.Test.YtnihjjelamfgdaaCodeWFee
import Derived.Test.YtnihjjelamfgdaaFee
set_option linter.unusedVariables false
set_option linter.unusedSimpArgs false
namespace Go.Proofs.Ytnihjjelamfgdaa
open Go.Abs

theorem w_FnExactFeeFor (t : Tariff) (rank : Int) (a : Arms) (u : Bool) : PCall Try.prog n_w_FnExactFeeFor [eTariff t, I rank, eArms a, B u] (B true) := by
  refine PCall.of fn_w_FnExactFeeFor (by simp) ?_
  simp [c_w_FnExactFeeFor, r_w_FnExactFeeFor_0, r_w_FnExactFeeFor_1, r_w_FnExactFeeFor_2]
  refine callQ_v (PCall.arg (w_szTariff t 1048576 (by omega) (by omega)) (by simp)) ?_
  simp [r_w_FnExactFeeFor_3]
  refine ⟨fun _ => by simp [r_w_FnExactFeeFor_4], fun hge0 => ?_⟩
  have hs0 := rest_nonneg (left := 1048576) (n := t.base.length) (by omega)
  simp [r_w_FnExactFeeFor_5, p_w_FnExactFeeFor_5]
  refine callD_of (PCall.arg (w_toTariff t (by omega)) (by simp)) rfl (.inl (by simp)) ?_ ?_ ?_
  · simp
  · simp
  simp
  refine callD_of (PCall.arg (w_toArms a) (by simp)) rfl (.inl (by simp)) ?_ ?_ ?_
  · simp
  · simp
  simp
  refine callD_of (PCall.arg (s_FeeFor t rank a u) (by simp)) rfl (.inl (by simp)) ?_ ?_ ?_
  · simp
  · simp
  simp
  refine ⟨oEnd_of (by simp [p_w_FnExactFeeFor_5]) (by simp), ?_⟩
  simp [r_w_FnExactFeeFor_6]
  refine callQ_of (PCall.arg (w_toTariff t (by omega)) (by simp)) rfl (.inl (by simp)) (by simp) ?_
  simp [r_w_FnExactFeeFor_7, p_w_FnExactFeeFor_7]
  refine callD_of (PCall.arg (w_toArms a) (by simp)) rfl (.inl (by simp)) ?_ ?_ ?_
  · simp
  · simp
  simp
  refine callD_of (PCall.arg (i_FeeFor t rank a u) (by simp)) rfl (.inl (by simp)) ?_ ?_ ?_
  · simp
  · simp
  simp
  refine ⟨oEnd_of (by simp [p_w_FnExactFeeFor_7]) (by simp), ?_⟩
  simp [r_w_FnExactFeeFor_8, r_w_FnExactFeeFor_10, p_w_FnExactFeeFor_10]
  refine callD_of (PCall.arg (w_toTariff t (by omega)) (by simp)) rfl (.inl (by simp)) ?_ ?_ ?_
  · simp
  · simp
  simp
  refine callD_v (PCall.arg (w_eqTariff t t) (by simp)) ?_ ?_ ?_
  · simp
  · simp
  simp
  refine ⟨oEnd_of (by simp [p_w_FnExactFeeFor_10]) (by simp), ?_⟩
  simp [r_w_FnExactFeeFor_12]
end Go.Proofs.Ytnihjjelamfgdaa
