/- The law functions: FnExactOpenPetition. -/
import Derived.Test.YtnihjjelamfgdaaCodeWOpen
import Derived.Test.YtnihjjelamfgdaaOpen
set_option linter.unusedVariables false
set_option linter.unusedSimpArgs false
namespace Go.Proofs.Ytnihjjelamfgdaa
open Go.Abs

theorem w_FnExactOpenPetition (l : List Petition) (rank : Int) (day : Int) : PCall Try.prog n_w_FnExactOpenPetition [.ro 5 (l.map ePetition), I rank, I day] (B true) := by
  have hr := openL_len l rank day
  refine PCall.of fn_w_FnExactOpenPetition (by simp) ?_
  simp [c_w_FnExactOpenPetition, r_w_FnExactOpenPetition_0, r_w_FnExactOpenPetition_1, r_w_FnExactOpenPetition_2]
  refine callQ_v (w_szPetitionS l (1048576) (by omega) (by omega)) ?_
  simp [r_w_FnExactOpenPetition_3]
  refine ⟨fun _ => by simp [r_w_FnExactOpenPetition_4], fun hge0 => ?_⟩
  have hs0 := rest_nonneg (left := 1048576) (n := l.length) (by omega)
  simp [r_w_FnExactOpenPetition_5]
  refine callQ_of (PCall.arg (w_toPetitionS l (by omega)) (by simp)) rfl (.inl (by simp)) (by simp) ?_
  simp
  refine callQ_of (PCall.arg (s_OpenPetition l rank day) (by simp)) rfl (.inl (by simp)) (by simp) ?_
  simp [r_w_FnExactOpenPetition_6]
  refine callQ_of (PCall.arg (w_toPetitionS l (by omega)) (by simp)) rfl (.inl (by simp)) (by simp) ?_
  simp [r_w_FnExactOpenPetition_7]
  refine callQ_of (PCall.arg (i_OpenPetition l rank day) (by simp)) rfl (.inl (by simp)) (by simp) ?_
  simp [r_w_FnExactOpenPetition_8]
  refine callQ_v (PCall.arg (w_eqPetitionS (openL l rank day) (openL l rank day)) (by simp)) ?_
  simp [r_w_FnExactOpenPetition_10]
  refine callQ_of (PCall.arg (w_toPetitionS l (by omega)) (by simp)) rfl (.inl (by simp)) (by simp) ?_
  simp
  refine callQ_v (PCall.arg (w_eqPetitionS (l) (l)) (by simp)) ?_
  simp [r_w_FnExactOpenPetition_12, r_w_FnExactOpenPetition_13]
  refine callQ_m [36] (MCall.arg (w_markPetitionS (l) 1 (by omega) (by omega) (by omega)) (by simp)) (by simp) (by simp) (by simp) (by simp) ?_
  have hk0 : ¬ (1 + 5 * ((l).length : Int) < 0) := by omega
  simp [r_w_FnExactOpenPetition_14, hk0]
  refine callQ_v (PCall.arg (w_eqPetitionS (openL l rank day) (openL l rank day)) (by simp)) ?_
  simp [r_w_FnExactOpenPetition_16, r_w_FnExactOpenPetition_17, hk0]
  refine callQ_m [41] (MCall.arg (w_markPetitionS (openL l rank day) 1 (by omega) (by omega) (by omega)) (by simp)) (by simp) (by simp) (by simp) (by simp) ?_
  have hk1 : ¬ (1 + 5 * ((openL l rank day).length : Int) < 0) := by omega
  simp [r_w_FnExactOpenPetition_18, r_w_FnExactOpenPetition_19, hk0, hk1]
  refine callQ_v (PCall.arg (w_heldPetitionS_marks 1 (openL l rank day).length (by omega) (by omega) (by omega)) (by simp [marksPetition_len, List.take_of_length_le])) ?_
  simp [r_w_FnExactOpenPetition_20, r_w_FnExactOpenPetition_22, r_w_FnExactOpenPetition_24, hk0, hk1]
  refine callQ_of (PCall.arg (w_toPetitionS l (by omega)) (by simp)) rfl (.inl (by simp)) (by simp) ?_
  simp [hk0, hk1]
  refine callQ_of (PCall.arg (i_OpenPetition l rank day) (by simp)) rfl (.inl (by simp)) (by simp) ?_
  simp [r_w_FnExactOpenPetition_25, hk0, hk1]
  refine callQ_v (PCall.arg (w_eqPetitionS (openL l rank day) (openL l rank day)) (by simp)) ?_
  simp [r_w_FnExactOpenPetition_27, r_w_FnExactOpenPetition_28, hk0, hk1]
  refine callQ_v (PCall.arg (w_heldPetitionS_marks 1 (openL l rank day).length (by omega) (by omega) (by omega)) (by simp [marksPetition_len, List.take_of_length_le])) ?_
  simp [r_w_FnExactOpenPetition_29, r_w_FnExactOpenPetition_31, r_w_FnExactOpenPetition_33, hk0, hk1]
end Go.Proofs.Ytnihjjelamfgdaa
