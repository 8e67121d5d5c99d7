/- The law FnPayments. -/
import Derived.Test.YtgefdcllialhkaaCodeWFnPay
import Derived.Test.YtgefdcllialhkaaDrawPays
import Derived.Test.YtgefdcllialhkaaPayLaw
import Derived.Test.YtgefdcllialhkaaRpet
set_option linter.unusedVariables false
set_option linter.unusedSimpArgs false
namespace Go.Proofs.Ytgefdcllialhkaa
open Go.Abs

set_option maxRecDepth 20000 in
set_option maxHeartbeats 4000000 in
theorem w_FnPayments (code : List UInt8) : PCall Try.prog n_w_FnPayments [.ro 1 (code.map Y)] (B true) := by
  obtain ⟨l, n, day, amount, fee, hD1⟩ := s_DrawPayPetition code
  obtain ⟨l2, t, n2, day2, grant, hD2⟩ := s_DrawDecidePetition code
  obtain ⟨l3, rank, first, hD3⟩ := s_DrawOpenPetition code
  refine PCall.of fn_w_FnPayments (by simp) ?_
  simp [c_w_FnPayments, r_w_FnPayments_0, r_w_FnPayments_1]
  refine callQ_v (PCall.arg (w_rBig code) (by simp)) ?_
  simp
  refine ⟨fun _ => by simp [r_w_FnPayments_2], fun _ => ?_⟩
  simp [r_w_FnPayments_3]
  refine callQ_of (PCall.arg hD1 (by simp)) rfl (.inr (by simp)) (by simp) ?_
  simp [r_w_FnPayments_4]
  refine callQ_of (PCall.arg (i_PayPetition l n day amount fee) (by simp)) rfl (.inl (by simp)) (by simp) ?_
  simp [r_w_FnPayments_5]
  refine callQ_of (PCall.arg (s_PayPetition l n day amount fee) (by simp)) rfl (.inl (by simp)) (by simp) ?_
  simp [r_w_FnPayments_6]
  refine callQ_v (PCall.arg (w_rPetitions (payL l n day amount fee) (payL l n day amount fee)) (by simp)) ?_
  simp [r_w_FnPayments_8]
  refine ⟨fun hok => ?a, fun hok => ?b⟩
  case' a =>
    obtain ⟨p1, p2, p3, p4, p5⟩ := pay_law hok
    have q1 := income_sum p1
    have q2 := income_sum p2
    have r1 := q1.2
    have r2 := q2.2
    simp [r_w_FnPayments_9]
    refine callQ_of (PCall.arg (i_IncomeOf l) (by simp)) rfl (.inl (by simp)) (by simp) ?_
    simp [r_w_FnPayments_10]
    refine callQ_of (PCall.arg (i_IncomeOf (payL l n day amount fee)) (by simp)) rfl (.inl (by simp)) (by simp) ?_
    have hw := sums_pay (r1 0) (r1 1) (r1 2) (r1 3) (r2 0) (r2 1) (r2 2) (r2 3) p4 p5 (by omega)
    simp [r_w_FnPayments_11, p_w_FnPayments_11, p1, p2, income_four p1, income_four p2, hw]
    refine callD_v (PCall.arg (i_IsValidPetitions (payL l n day amount fee)) (by simp)) ?_ ?_ ?_
    · simp
    · simp
    rw [p2]
    simp
    refine ⟨oEnd_of (by first | kernel_rfl | simp) (by first | kernel_rfl | simp), ?_⟩
    refine wk_of ⟨[(0, .ro 1 (code.map Y))], [], []⟩ (Wk.list rfl (by simp) (by simp)) ?_
  case' b =>
    refine wk_of ⟨[(0, .ro 1 (code.map Y))], [], []⟩ (Wk.list rfl (by simp) (by simp)) ?_
  all_goals
    simp [r_w_FnPayments_13]
    refine callQ_of (PCall.arg hD2 (by simp)) rfl (.inr (by simp)) (by simp) ?_
    simp [r_w_FnPayments_14]
    refine callQ_of (PCall.arg (i_DecidePetition l2 t n2 day2 grant) (by simp)) rfl (.inl (by simp)) (by simp) ?_
    simp [r_w_FnPayments_15]
    refine callQ_of (PCall.arg (s_DecidePetition l2 t n2 day2 grant) (by simp)) rfl (.inl (by simp)) (by simp) ?_
    simp [r_w_FnPayments_16]
    refine callQ_v (PCall.arg (w_rPetitions (decL l2 t n2 day2 grant) (decL l2 t n2 day2 grant)) (by simp)) ?_
    simp [r_w_FnPayments_18]
    refine ⟨fun hok2 => ?_, fun hok2 => ?_⟩
    · obtain ⟨p1, p2, p3, p4, p5⟩ := dec_law hok2
      have q1 := income_sum p1
      have q2 := income_sum p2
      have r1 := q1.2
      have r2 := q2.2
      simp [r_w_FnPayments_19]
      refine callQ_of (PCall.arg (i_IncomeOf l2) (by simp)) rfl (.inl (by simp)) (by simp) ?_
      simp [r_w_FnPayments_20]
      refine callQ_of (PCall.arg (i_IncomeOf (decL l2 t n2 day2 grant)) (by simp)) rfl (.inl (by simp)) (by simp) ?_
      have hw := sums_dec (r1 0) (r1 1) (r1 2) (r1 3) (r2 0) (r2 1) (r2 2) (r2 3) p4 (by omega)
      simp [r_w_FnPayments_21, p_w_FnPayments_21, p1, p2, income_four p1, income_four p2, hw]
      refine ⟨fun hg => ⟨oEnd_of (by first | kernel_rfl | simp) (by first | kernel_rfl | simp), fun hne => absurd (p5 hg) hne, fun _ => ?_⟩, fun hg => ⟨oEnd_of (by first | kernel_rfl | simp) (by first | kernel_rfl | simp), ?_⟩⟩
      all_goals
        refine wk_of ⟨[(0, .ro 1 (code.map Y))], [], []⟩ (Wk.list rfl (by simp) (by simp)) ?_
        simp [r_w_FnPayments_23]
        refine callQ_of (PCall.arg hD3 (by simp)) rfl (.inr (by simp)) (by simp) ?_
        simp [r_w_FnPayments_24]
        refine callQ_of (PCall.arg (i_OpenPetition l3 rank first) (by simp)) rfl (.inl (by simp)) (by simp) ?_
        simp [r_w_FnPayments_25]
        refine callQ_of (PCall.arg (s_OpenPetition l3 rank first) (by simp)) rfl (.inl (by simp)) (by simp) ?_
        simp [r_w_FnPayments_26]
        refine callQ_v (PCall.arg (w_rPetitions (openL l3 rank first) (openL l3 rank first)) (by simp)) ?_
        simp
    · refine wk_of ⟨[(0, .ro 1 (code.map Y))], [], []⟩ (Wk.list rfl (by simp) (by simp)) ?_
      simp [r_w_FnPayments_23]
      refine callQ_of (PCall.arg hD3 (by simp)) rfl (.inr (by simp)) (by simp) ?_
      simp [r_w_FnPayments_24]
      refine callQ_of (PCall.arg (i_OpenPetition l3 rank first) (by simp)) rfl (.inl (by simp)) (by simp) ?_
      simp [r_w_FnPayments_25]
      refine callQ_of (PCall.arg (s_OpenPetition l3 rank first) (by simp)) rfl (.inl (by simp)) (by simp) ?_
      simp [r_w_FnPayments_26]
      refine callQ_v (PCall.arg (w_rPetitions (openL l3 rank first) (openL l3 rank first)) (by simp)) ?_
      simp
end Go.Proofs.Ytgefdcllialhkaa
