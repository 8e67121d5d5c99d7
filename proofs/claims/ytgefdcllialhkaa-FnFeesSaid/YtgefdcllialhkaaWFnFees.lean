/- The law FnFees. -/
import Derived.Test.YtgefdcllialhkaaCodeWFnFees
import Derived.Test.YtgefdcllialhkaaDrawFee
import Derived.Test.YtgefdcllialhkaaDrawPays
import Derived.Test.YtgefdcllialhkaaFeeLaw
import Derived.Test.YtgefdcllialhkaaIncome
import Derived.Test.YtgefdcllialhkaaRint
set_option linter.unusedVariables false
set_option linter.unusedSimpArgs false
namespace Go.Proofs.Ytgefdcllialhkaa
open Go.Abs

set_option maxRecDepth 20000 in
set_option maxHeartbeats 4000000 in
theorem w_FnFees (code : List UInt8) : PCall Try.prog n_w_FnFees [.ro 1 (code.map Y)] (B true) := by
  obtain ⟨t, rank, a, u, hD1⟩ := s_DrawFeeFor code
  obtain ⟨t2, hD2⟩ := s_DrawCheapestRank code
  obtain ⟨f, n, hD3⟩ := s_DrawSplitFee code
  obtain ⟨l, day, limit, hD4⟩ := s_DrawOverduePetitions code
  refine PCall.of fn_w_FnFees (by simp) ?_
  simp [c_w_FnFees, r_w_FnFees_0, r_w_FnFees_1]
  refine callQ_v (PCall.arg (w_rBig code) (by simp)) ?_
  simp
  refine ⟨fun _ => by simp [r_w_FnFees_2], fun _ => ?_⟩
  simp [r_w_FnFees_3]
  refine callQ_of (PCall.arg hD1 (by simp)) rfl (.inr (by simp)) (by simp) ?_
  simp [r_w_FnFees_4]
  refine callQ_of (PCall.arg (i_FeeFor t rank a u) (by simp)) rfl (.inl (by simp)) (by simp) ?_
  simp [r_w_FnFees_5]
  refine callQ_of (PCall.arg (s_FeeFor t rank a u) (by simp)) rfl (.inl (by simp)) (by simp) ?_
  simp [r_w_FnFees_6, r_w_FnFees_8]
  refine ⟨fun hok => ?a, fun hok => ?b⟩
  case' a =>
    simp [r_w_FnFees_9]
    refine callQ_of (PCall.arg (i_FeeFor t rank a false) (by simp)) rfl (.inl (by simp)) (by simp) ?_
    simp [r_w_FnFees_10]
    refine callQ_of (PCall.arg (i_FeeFor t rank a true) (by simp)) rfl (.inl (by simp)) (by simp) ?_
    simp [r_w_FnFees_11]
    refine callQ_of (PCall.arg (i_CheapestRank t) (by simp)) rfl (.inl (by simp)) (by simp) ?_
    obtain ⟨i, j, x, y, h1, h2, h3, h4, h5, h6, h7, h8, h9⟩ := fee_cheap hok
    have hf := fee_fast hok
    have hc1 : IntKind.i64.wrap (cheapest t - 1) = (i : Int) := by rw [wrap64 (by omega) (by omega)]; omega
    have hr1 : IntKind.i64.wrap (rank - 1) = (j : Int) := by rw [wrap64 (by omega) (by omega)]; omega
    simp [r_w_FnFees_12, p_w_FnFees_12, hok, h1, hf, hc1, hr1, h7, h8, h6, Int.not_lt.2 hf]
    refine ⟨by omega, by omega, oEnd_of (by first | kernel_rfl | simp) (by first | kernel_rfl | simp), fun hn => by omega, fun _ => ?_⟩
    refine wk_of ⟨[(0, .ro 1 (code.map Y))], [], []⟩ (Wk.list rfl (by simp) (by simp)) ?_
  case' b =>
    refine wk_of ⟨[(0, .ro 1 (code.map Y))], [], []⟩ (Wk.list rfl (by simp) (by simp)) ?_
  all_goals
    simp [r_w_FnFees_14]
    refine callQ_of (PCall.arg hD2 (by simp)) rfl (.inr (by simp)) (by simp) ?_
    simp [r_w_FnFees_15]
    refine callQ_of (PCall.arg (i_CheapestRank t2) (by simp)) rfl (.inl (by simp)) (by simp) ?_
    simp [r_w_FnFees_16]
    refine callQ_of (PCall.arg (s_CheapestRank t2) (by simp)) rfl (.inl (by simp)) (by simp) ?_
    simp [r_w_FnFees_17, r_w_FnFees_19]
    refine callQ_of (PCall.arg hD3 (by simp)) rfl (.inr (by simp)) (by simp) ?_
    simp [r_w_FnFees_20]
    refine callQ_of (PCall.arg (i_SplitFee f n) (by simp)) rfl (.inl (by simp)) (by simp) ?_
    simp [r_w_FnFees_21]
    refine callQ_of (PCall.arg (s_SplitFee f n) (by simp)) rfl (.inl (by simp)) (by simp) ?_
    simp [r_w_FnFees_22]
    refine callQ_v (PCall.arg (w_rInts (split f n) (split f n)) (by simp)) ?_
    simp [r_w_FnFees_24, r_w_FnFees_25]
    have hsb := split_bounds f n
    refine loopK (fun i : Nat => ⟨[(0, .ro 1 (code.map Y)), (22, I f), (24, .sl 148 0 (split f n).length), (25, B (splits f n)), (28, I ((split f n).take i).sum), (29, I i)], [(148, ⟨1, ints (split f n)⟩)], []⟩) (fun i => (split f n).length - i) (fun i => i ≤ (split f n).length) 0 (Wk.list rfl (by simp) (by simp)) (by simp) ?_
    intro i hi K hN hR hE
    have hs := sum_take_bounds hsb.2 i
    simp [r_w_FnFees_26, l_w_FnFees_29]
    refine ⟨fun hlt => ?_, fun hge => ?_⟩
    · have hx := hsb.2 _ (List.getElem_mem hlt)
      simp [r_w_FnFees_27, r_w_FnFees_28, hlt]
      rw [wrap64 (by omega) (by omega), wrap64 (by omega) (by omega)]
      refine hN (i + 1) _ (by omega) (by omega) (Wk.list rfl ?_ ?_)
      · simp only [List.mem_cons, List.not_mem_nil, or_false, forall_eq_or_imp, forall_eq]
        rw [take_succ' hlt, List.sum_append]
        simp
      · simp
    · refine hE _ _ ?_
      simp only [blockK_exit]
      rw [List.take_of_length_le (by omega)]
      simp [r_w_FnFees_30]
      have hsum : splits f n = true → (split f n).sum = f := parts_sum
      refine ⟨fun hs1 => ⟨fun hne => absurd (hsum hs1) hne, fun _ => ?_⟩, fun hs1 => ?_⟩
      all_goals
        simp [r_w_FnFees_32]
        refine callQ_of (PCall.arg hD4 (by simp)) rfl (.inr (by simp)) (by simp) ?_
        simp [r_w_FnFees_33]
        refine callQ_of (PCall.arg (i_OverduePetitions l day limit) (by simp)) rfl (.inl (by simp)) (by simp) ?_
        simp [r_w_FnFees_34]
        refine callQ_of (PCall.arg (s_OverduePetitions l day limit) (by simp)) rfl (.inl (by simp)) (by simp) ?_
        simp [r_w_FnFees_35]
        refine callQ_v (PCall.arg (w_rInts (told l day limit) (told l day limit)) (by simp)) ?_
        simp
end Go.Proofs.Ytgefdcllialhkaa
