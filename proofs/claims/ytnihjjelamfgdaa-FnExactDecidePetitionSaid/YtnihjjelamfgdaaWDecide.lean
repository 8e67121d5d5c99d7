/- The law functions: FnExactDecidePetition. -/
import Derived.Test.YtnihjjelamfgdaaCodeWDecide
import Derived.Test.YtnihjjelamfgdaaDecide
import Derived.Test.YtnihjjelamfgdaaInts
set_option linter.unusedVariables false
set_option linter.unusedSimpArgs false
namespace Go.Proofs.Ytnihjjelamfgdaa
open Go.Abs

theorem w_markTariff (t : Tariff) (k : Int) (hl : t.base.length ≤ 1000000000) (hk : 0 ≤ k) (hk' : k ≤ 1000000000) :
    MCall Try.prog n_w_markTariff [⟨1, ints t.base⟩] [.agg [.sl (mid 0) 0 t.base.length, I t.layer, I t.urgent, I t.refund], I k] (I (k + t.base.length)) [some ⟨1, ints (marks k t.base.length)⟩] := by
  refine MCall.of fn_w_markTariff (by simp) rfl (by simp) ?_
  simp [c_w_markTariff, r_w_markTariff_0, r_w_markTariff_1]
  refine callQ_m [1000000] (MCall.arg (w_markIntS t.base k hl hk hk') (by simp)) (by simp) (by simp) (by simp) (by simp) ?_
  simp [r_w_markTariff_2]

theorem w_FnExactDecidePetition (l : List Petition) (t : Tariff) (n : Int) (day : Int) (grant : Bool) : PCall Try.prog n_w_FnExactDecidePetition [.ro 5 (l.map ePetition), eTariff t, I n, I day, B grant] (B true) := by
  have hr := decL_len l t n day grant
  refine PCall.of fn_w_FnExactDecidePetition (by simp) ?_
  simp [c_w_FnExactDecidePetition, r_w_FnExactDecidePetition_0, r_w_FnExactDecidePetition_1, r_w_FnExactDecidePetition_2]
  refine callQ_v (w_szPetitionS l (1048576) (by omega) (by omega)) ?_
  simp [r_w_FnExactDecidePetition_3]
  refine ⟨fun _ => by simp [r_w_FnExactDecidePetition_4], fun hge0 => ?_⟩
  have hs0 := rest_nonneg (left := 1048576) (n := l.length) (by omega)
  have hrb : rest 1048576 l.length ≤ 1048576 := by unfold rest; split <;> omega
  simp [r_w_FnExactDecidePetition_5]
  refine callQ_v (PCall.arg (w_szTariff t (rest 1048576 l.length) (by omega) (by omega)) (by simp)) ?_
  simp [r_w_FnExactDecidePetition_6]
  refine ⟨fun _ => by simp [r_w_FnExactDecidePetition_7], fun hge1 => ?_⟩
  have hs1 := rest_nonneg (left := rest 1048576 l.length) (n := t.base.length) (by omega)
  simp [r_w_FnExactDecidePetition_8, p_w_FnExactDecidePetition_8]
  refine callD_of (PCall.arg (w_toPetitionS l (by omega)) (by simp)) rfl (.inl (by simp)) ?_ ?_ ?_
  · simp
  · simp
  simp
  refine callD_of (PCall.arg (w_toTariff t (by omega)) (by simp)) rfl (.inl (by simp)) ?_ ?_ ?_
  · simp
  · simp
  simp
  refine callD_of (PCall.arg (s_DecidePetition l t n day grant) (by simp)) rfl (.inl (by simp)) ?_ ?_ ?_
  · simp
  · simp
  simp
  refine ⟨oEnd_of (by simp [p_w_FnExactDecidePetition_8]) (by simp), ?_⟩
  simp [r_w_FnExactDecidePetition_9]
  refine callQ_of (PCall.arg (w_toPetitionS l (by omega)) (by simp)) rfl (.inl (by simp)) (by simp) ?_
  simp [r_w_FnExactDecidePetition_10]
  refine callQ_of (PCall.arg (w_toTariff t (by omega)) (by simp)) rfl (.inl (by simp)) (by simp) ?_
  simp [r_w_FnExactDecidePetition_11]
  refine callQ_of (PCall.arg (i_DecidePetition l t n day grant) (by simp)) rfl (.inl (by simp)) (by simp) ?_
  simp [r_w_FnExactDecidePetition_12]
  refine callQ_v (PCall.arg (w_eqPetitionS (decL l t n day grant) (decL l t n day grant)) (by simp)) ?_
  simp [r_w_FnExactDecidePetition_14]
  refine callQ_of (PCall.arg (w_toPetitionS l (by omega)) (by simp)) rfl (.inl (by simp)) (by simp) ?_
  simp
  refine callQ_v (PCall.arg (w_eqPetitionS l l) (by simp)) ?_
  simp [r_w_FnExactDecidePetition_16, p_w_FnExactDecidePetition_16]
  refine callD_of (PCall.arg (w_toTariff t (by omega)) (by simp)) rfl (.inl (by simp)) ?_ ?_ ?_
  · simp
  · simp
  simp
  refine callD_v (PCall.arg (w_eqTariff t t) (by simp)) ?_ ?_ ?_
  · simp
  · simp
  simp
  refine ⟨oEnd_of (by simp [p_w_FnExactDecidePetition_16]) (by simp), ?_⟩
  simp [r_w_FnExactDecidePetition_18, r_w_FnExactDecidePetition_19]
  refine callQ_m [49] (MCall.arg (w_markPetitionS l 1 (by omega) (by omega) (by omega)) (by simp)) (by simp) (by simp) (by simp) (by simp) ?_
  have hk0 : ¬ (1 + 5 * (l.length : Int) < 0) := by omega
  simp [r_w_FnExactDecidePetition_20, hk0]
  refine callQ_m [51] (MCall.arg (w_markTariff t (1 + 5 * (l.length : Int)) (by omega) (by omega) (by omega)) (by simp)) (by simp) (by simp) (by simp) (by simp) ?_
  have hk1 : ¬ (1 + 5 * (l.length : Int) + t.base.length < 0) := by omega
  simp [r_w_FnExactDecidePetition_21, hk1]
  refine callQ_v (PCall.arg (w_eqPetitionS (decL l t n day grant) (decL l t n day grant)) (by simp)) ?_
  simp [r_w_FnExactDecidePetition_23, r_w_FnExactDecidePetition_24]
  refine callQ_m [58] (MCall.arg (w_markPetitionS (decL l t n day grant) 1 (by omega) (by omega) (by omega)) (by simp)) (by simp) (by simp) (by simp) (by simp) ?_
  have hk2 : ¬ (1 + 5 * ((decL l t n day grant).length : Int) < 0) := by omega
  simp [r_w_FnExactDecidePetition_25, r_w_FnExactDecidePetition_26, hk2]
  refine callQ_v (PCall.arg (w_heldPetitionS_marks 1 (decL l t n day grant).length (by omega) (by omega) (by omega)) (by simp [marksPetition_len, List.take_of_length_le])) ?_
  simp [r_w_FnExactDecidePetition_27, r_w_FnExactDecidePetition_29, r_w_FnExactDecidePetition_31, p_w_FnExactDecidePetition_31, hk2]
  refine callD_of (PCall.arg (w_toPetitionS l (by omega)) (by simp)) rfl (.inl (by simp)) ?_ ?_ ?_
  · simp
  · simp
  simp
  refine callD_of (PCall.arg (w_toTariff t (by omega)) (by simp)) rfl (.inl (by simp)) ?_ ?_ ?_
  · simp
  · simp
  simp
  refine callD_of (PCall.arg (i_DecidePetition l t n day grant) (by simp)) rfl (.inl (by simp)) ?_ ?_ ?_
  · simp
  · simp
  simp
  refine ⟨oEnd_of (by simp [p_w_FnExactDecidePetition_31]) (by simp), ?_⟩
  simp [r_w_FnExactDecidePetition_32]
  refine callQ_v (PCall.arg (w_eqPetitionS (decL l t n day grant) (decL l t n day grant)) (by simp)) ?_
  simp [r_w_FnExactDecidePetition_34, r_w_FnExactDecidePetition_35]
  refine callQ_v (PCall.arg (w_heldPetitionS_marks 1 (decL l t n day grant).length (by omega) (by omega) (by omega)) (by simp [marksPetition_len, List.take_of_length_le])) ?_
  simp [r_w_FnExactDecidePetition_36, r_w_FnExactDecidePetition_38, r_w_FnExactDecidePetition_40, hk2]
end Go.Proofs.Ytnihjjelamfgdaa
