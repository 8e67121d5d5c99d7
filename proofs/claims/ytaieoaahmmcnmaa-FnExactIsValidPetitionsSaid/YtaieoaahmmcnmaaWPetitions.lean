/- The law functions: FnExactIsValidPetitions. -/
import Derived.Test.YtaieoaahmmcnmaaCodeWPetitions
import Derived.Test.YtaieoaahmmcnmaaPetitions
set_option linter.unusedVariables false
set_option linter.unusedSimpArgs false
namespace Go.Proofs.Ytaieoaahmmcnmaa
open Go.Abs

theorem w_FnExactIsValidPetitions (l : List Petition) : PCall Try.prog n_w_FnExactIsValidPetitions [.ro 5 (l.map ePetition)] (B true) := by
  refine PCall.of fn_w_FnExactIsValidPetitions (by simp) ?_
  simp [c_w_FnExactIsValidPetitions, r_w_FnExactIsValidPetitions_0, r_w_FnExactIsValidPetitions_1, r_w_FnExactIsValidPetitions_2]
  refine callQ_v (w_szPetitionS l (1048576) (by omega) (by omega)) ?_
  simp [r_w_FnExactIsValidPetitions_3]
  refine ⟨fun _ => by simp [r_w_FnExactIsValidPetitions_4], fun hge0 => ?_⟩
  have hs0 := rest_nonneg (left := 1048576) (n := l.length) (by omega)
  simp [r_w_FnExactIsValidPetitions_5]
  refine callQ_of (PCall.arg (w_toPetitionS l (by omega)) (by simp)) rfl (.inl (by simp)) (by simp) ?_
  simp
  refine callQ_v (PCall.arg (s_IsValidPetitions l) (by simp)) ?_
  simp [r_w_FnExactIsValidPetitions_6]
  refine callQ_of (PCall.arg (w_toPetitionS l (by omega)) (by simp)) rfl (.inl (by simp)) (by simp) ?_
  simp [r_w_FnExactIsValidPetitions_7]
  refine callQ_v (PCall.arg (i_IsValidPetitions l) (by simp)) ?_
  simp [r_w_FnExactIsValidPetitions_8, r_w_FnExactIsValidPetitions_10]
  refine callQ_of (PCall.arg (w_toPetitionS l (by omega)) (by simp)) rfl (.inl (by simp)) (by simp) ?_
  simp
  refine callQ_v (PCall.arg (w_eqPetitionS (l) (l)) (by simp)) ?_
  simp [r_w_FnExactIsValidPetitions_12]
end Go.Proofs.Ytaieoaahmmcnmaa
