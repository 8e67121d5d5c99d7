/- The law functions: FnExactIncomeOf FnExactOverduePetitions. -/
import Derived.Test.YtaieoaahmmcnmaaCodeWIncome
import Derived.Test.YtaieoaahmmcnmaaIncome
import Derived.Test.YtaieoaahmmcnmaaInts
set_option linter.unusedVariables false
set_option linter.unusedSimpArgs false
namespace Go.Proofs.Ytaieoaahmmcnmaa
open Go.Abs

theorem w_FnExactIncomeOf (l : List Petition) : PCall Try.prog n_w_FnExactIncomeOf [.ro 5 (l.map ePetition)] (B true) := by
  have hr := income_len l
  refine PCall.of fn_w_FnExactIncomeOf (by simp) ?_
  simp [c_w_FnExactIncomeOf, r_w_FnExactIncomeOf_0, r_w_FnExactIncomeOf_1, r_w_FnExactIncomeOf_2]
  refine callQ_v (w_szPetitionS l (1048576) (by omega) (by omega)) ?_
  simp [r_w_FnExactIncomeOf_3]
  refine ⟨fun _ => by simp [r_w_FnExactIncomeOf_4], fun hge0 => ?_⟩
  have hs0 := rest_nonneg (left := 1048576) (n := l.length) (by omega)
  simp [r_w_FnExactIncomeOf_5]
  refine callQ_of (PCall.arg (w_toPetitionS l (by omega)) (by simp)) rfl (.inl (by simp)) (by simp) ?_
  simp
  refine callQ_of (PCall.arg (s_IncomeOf l) (by simp)) rfl (.inl (by simp)) (by simp) ?_
  simp [r_w_FnExactIncomeOf_6]
  refine callQ_of (PCall.arg (w_toPetitionS l (by omega)) (by simp)) rfl (.inl (by simp)) (by simp) ?_
  simp [r_w_FnExactIncomeOf_7]
  refine callQ_of (PCall.arg (i_IncomeOf l) (by simp)) rfl (.inl (by simp)) (by simp) ?_
  simp [r_w_FnExactIncomeOf_8]
  refine callQ_v (PCall.arg (w_eqIntS (income l) (income l)) (by simp)) ?_
  simp [r_w_FnExactIncomeOf_10]
  refine callQ_of (PCall.arg (w_toPetitionS l (by omega)) (by simp)) rfl (.inl (by simp)) (by simp) ?_
  simp
  refine callQ_v (PCall.arg (w_eqPetitionS (l) (l)) (by simp)) ?_
  simp [r_w_FnExactIncomeOf_12, r_w_FnExactIncomeOf_13]
  refine callQ_m [26] (MCall.arg (w_markPetitionS (l) 1 (by omega) (by omega) (by omega)) (by simp)) (by simp) (by simp) (by simp) (by simp) ?_
  have hk0 : ¬ (1 + 5 * ((l).length : Int) < 0) := by omega
  simp [r_w_FnExactIncomeOf_14, hk0]
  refine callQ_v (PCall.arg (w_eqIntS (income l) (income l)) (by simp)) ?_
  simp [r_w_FnExactIncomeOf_16, r_w_FnExactIncomeOf_17, hk0]
  refine callQ_m [29] (MCall.arg (w_markIntS (income l) 1 (by omega) (by omega) (by omega)) (by simp)) (by simp) (by simp) (by simp) (by simp) ?_
  have hk1 : ¬ (1 + (((income l).length : Nat) : Int) < 0) := by omega
  simp [r_w_FnExactIncomeOf_18, r_w_FnExactIncomeOf_19, hk0, hk1]
  refine callQ_v (PCall.arg (w_heldIntS (marks 1 (income l).length) 1 (by simp [marks_len]; omega) (by omega) (by omega)) (by simp [marks_len, List.take_of_length_le])) ?_
  rw [held_marks_IntS]
  simp [r_w_FnExactIncomeOf_20, r_w_FnExactIncomeOf_22, r_w_FnExactIncomeOf_24, hk0, hk1]
  refine callQ_of (PCall.arg (w_toPetitionS l (by omega)) (by simp)) rfl (.inl (by simp)) (by simp) ?_
  simp [hk0, hk1]
  refine callQ_of (PCall.arg (i_IncomeOf l) (by simp)) rfl (.inl (by simp)) (by simp) ?_
  simp [r_w_FnExactIncomeOf_25, hk0, hk1]
  refine callQ_v (PCall.arg (w_eqIntS (income l) (income l)) (by simp)) ?_
  simp [r_w_FnExactIncomeOf_27, r_w_FnExactIncomeOf_28, hk0, hk1]
  refine callQ_v (PCall.arg (w_heldIntS (marks 1 (income l).length) 1 (by simp [marks_len]; omega) (by omega) (by omega)) (by simp [marks_len, List.take_of_length_le])) ?_
  rw [held_marks_IntS]
  simp [r_w_FnExactIncomeOf_29, r_w_FnExactIncomeOf_31, r_w_FnExactIncomeOf_33, hk0, hk1]

theorem w_FnExactOverduePetitions (l : List Petition) (day : Int) (limit : Int) : PCall Try.prog n_w_FnExactOverduePetitions [.ro 5 (l.map ePetition), I day, I limit] (B true) := by
  have hr := told_len l day limit
  refine PCall.of fn_w_FnExactOverduePetitions (by simp) ?_
  simp [c_w_FnExactOverduePetitions, r_w_FnExactOverduePetitions_0, r_w_FnExactOverduePetitions_1, r_w_FnExactOverduePetitions_2]
  refine callQ_v (w_szPetitionS l (1048576) (by omega) (by omega)) ?_
  simp [r_w_FnExactOverduePetitions_3]
  refine ⟨fun _ => by simp [r_w_FnExactOverduePetitions_4], fun hge0 => ?_⟩
  have hs0 := rest_nonneg (left := 1048576) (n := l.length) (by omega)
  simp [r_w_FnExactOverduePetitions_5]
  refine callQ_of (PCall.arg (w_toPetitionS l (by omega)) (by simp)) rfl (.inl (by simp)) (by simp) ?_
  simp
  refine callQ_of (PCall.arg (s_OverduePetitions l day limit) (by simp)) rfl (.inl (by simp)) (by simp) ?_
  simp [r_w_FnExactOverduePetitions_6]
  refine callQ_of (PCall.arg (w_toPetitionS l (by omega)) (by simp)) rfl (.inl (by simp)) (by simp) ?_
  simp [r_w_FnExactOverduePetitions_7]
  refine callQ_of (PCall.arg (i_OverduePetitions l day limit) (by simp)) rfl (.inl (by simp)) (by simp) ?_
  simp [r_w_FnExactOverduePetitions_8]
  refine callQ_v (PCall.arg (w_eqIntS (told l day limit) (told l day limit)) (by simp)) ?_
  simp [r_w_FnExactOverduePetitions_10]
  refine callQ_of (PCall.arg (w_toPetitionS l (by omega)) (by simp)) rfl (.inl (by simp)) (by simp) ?_
  simp
  refine callQ_v (PCall.arg (w_eqPetitionS (l) (l)) (by simp)) ?_
  simp [r_w_FnExactOverduePetitions_12, r_w_FnExactOverduePetitions_13]
  refine callQ_m [32] (MCall.arg (w_markPetitionS (l) 1 (by omega) (by omega) (by omega)) (by simp)) (by simp) (by simp) (by simp) (by simp) ?_
  have hk0 : ¬ (1 + 5 * ((l).length : Int) < 0) := by omega
  simp [r_w_FnExactOverduePetitions_14, hk0]
  refine callQ_v (PCall.arg (w_eqIntS (told l day limit) (told l day limit)) (by simp)) ?_
  simp [r_w_FnExactOverduePetitions_16, r_w_FnExactOverduePetitions_17, hk0]
  refine callQ_m [37] (MCall.arg (w_markIntS (told l day limit) 1 (by omega) (by omega) (by omega)) (by simp)) (by simp) (by simp) (by simp) (by simp) ?_
  have hk1 : ¬ (1 + (((told l day limit).length : Nat) : Int) < 0) := by omega
  simp [r_w_FnExactOverduePetitions_18, r_w_FnExactOverduePetitions_19, hk0, hk1]
  refine callQ_v (PCall.arg (w_heldIntS (marks 1 (told l day limit).length) 1 (by simp [marks_len]; omega) (by omega) (by omega)) (by simp [marks_len, List.take_of_length_le])) ?_
  rw [held_marks_IntS]
  simp [r_w_FnExactOverduePetitions_20, r_w_FnExactOverduePetitions_22, r_w_FnExactOverduePetitions_24, hk0, hk1]
  refine callQ_of (PCall.arg (w_toPetitionS l (by omega)) (by simp)) rfl (.inl (by simp)) (by simp) ?_
  simp [hk0, hk1]
  refine callQ_of (PCall.arg (i_OverduePetitions l day limit) (by simp)) rfl (.inl (by simp)) (by simp) ?_
  simp [r_w_FnExactOverduePetitions_25, hk0, hk1]
  refine callQ_v (PCall.arg (w_eqIntS (told l day limit) (told l day limit)) (by simp)) ?_
  simp [r_w_FnExactOverduePetitions_27, r_w_FnExactOverduePetitions_28, hk0, hk1]
  refine callQ_v (PCall.arg (w_heldIntS (marks 1 (told l day limit).length) 1 (by simp [marks_len]; omega) (by omega) (by omega)) (by simp [marks_len, List.take_of_length_le])) ?_
  rw [held_marks_IntS]
  simp [r_w_FnExactOverduePetitions_29, r_w_FnExactOverduePetitions_31, r_w_FnExactOverduePetitions_33, hk0, hk1]
end Go.Proofs.Ytaieoaahmmcnmaa
