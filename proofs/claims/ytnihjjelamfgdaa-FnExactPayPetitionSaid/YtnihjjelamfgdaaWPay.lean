/- The law functions: FnExactPayPetition. -/
import Derived.Test.YtnihjjelamfgdaaCodeWPay
import Derived.Test.YtnihjjelamfgdaaPay
set_option linter.unusedVariables false
set_option linter.unusedSimpArgs false
namespace Go.Proofs.Ytnihjjelamfgdaa
open Go.Abs

theorem w_FnExactPayPetition (l : List Petition) (n : Int) (day : Int) (amount : Int) (fee : Int) : PCall Try.prog n_w_FnExactPayPetition [.ro 5 (l.map ePetition), I n, I day, I amount, I fee] (B true) := by
  have hr := payL_len l n day amount fee
  refine PCall.of fn_w_FnExactPayPetition (by simp) ?_
  simp [c_w_FnExactPayPetition, r_w_FnExactPayPetition_0, r_w_FnExactPayPetition_1, r_w_FnExactPayPetition_2]
  refine callQ_v (w_szPetitionS l (1048576) (by omega) (by omega)) ?_
  simp [r_w_FnExactPayPetition_3]
  refine ⟨fun _ => by simp [r_w_FnExactPayPetition_4], fun hge0 => ?_⟩
  have hs0 := rest_nonneg (left := 1048576) (n := l.length) (by omega)
  simp [r_w_FnExactPayPetition_5]
  refine callQ_of (PCall.arg (w_toPetitionS l (by omega)) (by simp)) rfl (.inl (by simp)) (by simp) ?_
  simp
  refine callQ_of (PCall.arg (s_PayPetition l n day amount fee) (by simp)) rfl (.inl (by simp)) (by simp) ?_
  simp [r_w_FnExactPayPetition_6]
  refine callQ_of (PCall.arg (w_toPetitionS l (by omega)) (by simp)) rfl (.inl (by simp)) (by simp) ?_
  simp [r_w_FnExactPayPetition_7]
  refine callQ_of (PCall.arg (i_PayPetition l n day amount fee) (by simp)) rfl (.inl (by simp)) (by simp) ?_
  simp [r_w_FnExactPayPetition_8]
  refine callQ_v (PCall.arg (w_eqPetitionS (payL l n day amount fee) (payL l n day amount fee)) (by simp)) ?_
  simp [r_w_FnExactPayPetition_10]
  refine callQ_of (PCall.arg (w_toPetitionS l (by omega)) (by simp)) rfl (.inl (by simp)) (by simp) ?_
  simp
  refine callQ_v (PCall.arg (w_eqPetitionS (l) (l)) (by simp)) ?_
  simp [r_w_FnExactPayPetition_12, r_w_FnExactPayPetition_13]
  refine callQ_m [42] (MCall.arg (w_markPetitionS (l) 1 (by omega) (by omega) (by omega)) (by simp)) (by simp) (by simp) (by simp) (by simp) ?_
  have hk0 : ¬ (1 + 5 * ((l).length : Int) < 0) := by omega
  simp [r_w_FnExactPayPetition_14, hk0]
  refine callQ_v (PCall.arg (w_eqPetitionS (payL l n day amount fee) (payL l n day amount fee)) (by simp)) ?_
  simp [r_w_FnExactPayPetition_16, r_w_FnExactPayPetition_17, hk0]
  refine callQ_m [49] (MCall.arg (w_markPetitionS (payL l n day amount fee) 1 (by omega) (by omega) (by omega)) (by simp)) (by simp) (by simp) (by simp) (by simp) ?_
  have hk1 : ¬ (1 + 5 * ((payL l n day amount fee).length : Int) < 0) := by omega
  simp [r_w_FnExactPayPetition_18, r_w_FnExactPayPetition_19, hk0, hk1]
  refine callQ_v (PCall.arg (w_heldPetitionS_marks 1 (payL l n day amount fee).length (by omega) (by omega) (by omega)) (by simp [marksPetition_len, List.take_of_length_le])) ?_
  simp [r_w_FnExactPayPetition_20, r_w_FnExactPayPetition_22, r_w_FnExactPayPetition_24, hk0, hk1]
  refine callQ_of (PCall.arg (w_toPetitionS l (by omega)) (by simp)) rfl (.inl (by simp)) (by simp) ?_
  simp [hk0, hk1]
  refine callQ_of (PCall.arg (i_PayPetition l n day amount fee) (by simp)) rfl (.inl (by simp)) (by simp) ?_
  simp [r_w_FnExactPayPetition_25, hk0, hk1]
  refine callQ_v (PCall.arg (w_eqPetitionS (payL l n day amount fee) (payL l n day amount fee)) (by simp)) ?_
  simp [r_w_FnExactPayPetition_27, r_w_FnExactPayPetition_28, hk0, hk1]
  refine callQ_v (PCall.arg (w_heldPetitionS_marks 1 (payL l n day amount fee).length (by omega) (by omega) (by omega)) (by simp [marksPetition_len, List.take_of_length_le])) ?_
  simp [r_w_FnExactPayPetition_29, r_w_FnExactPayPetition_31, r_w_FnExactPayPetition_33, hk0, hk1]
end Go.Proofs.Ytnihjjelamfgdaa
