/- The fee for arms, in the program and in the reference. -/
import Derived.Test.YtgefdcllialhkaaCodeFee
import Derived.Test.YtgefdcllialhkaaArms
import Derived.Test.YtgefdcllialhkaaPetitions
import Derived.Test.YtgefdcllialhkaaTariff
set_option linter.unusedVariables false
set_option linter.unusedSimpArgs false
namespace Go.Proofs.Ytgefdcllialhkaa
open Go.Abs

def feeSlow (t : Tariff) (rank : Int) (a : Arms) : Int := t.base.getD (rank.toNat - 1) 0 + t.layer * (layers a - 1)
def feeFor (t : Tariff) (rank : Int) (a : Arms) (u : Bool) : Int := if u then feeSlow t rank a + (feeSlow t rank a * t.urgent + 99).tdiv 100 else feeSlow t rank a
def feeOk (t : Tariff) (rank : Int) (a : Arms) : Bool := tariff t && inR rank 1 5 && arms a
def fee (t : Tariff) (rank : Int) (a : Arms) (u : Bool) : Int := if feeOk t rank a then feeFor t rank a u else 0
theorem tariff_base {t : Tariff} (h : tariff t = true) {i : Nat} (hi : i < t.base.length) : 0 ≤ t.base[i] ∧ t.base[i] ≤ 100000 := by
  simp only [tariff, Bool.and_eq_true, List.all_eq_true, inR_iff] at h
  exact h.2 _ (List.getElem_mem hi)
theorem tariff_nums {t : Tariff} (h : tariff t = true) : t.base.length = 5 ∧ (0 ≤ t.layer ∧ t.layer ≤ 100000) ∧ (0 ≤ t.urgent ∧ t.urgent ≤ 500) ∧ (0 ≤ t.refund ∧ t.refund ≤ 100) := by
  simp only [tariff, Bool.and_eq_true, decide_eq_true_iff, inR_iff] at h
  exact ⟨h.1.1.1.1, h.1.1.1.2, h.1.1.2, h.1.2⟩
theorem fee_mul {a b m n : Int} (h0 : 0 ≤ a) (h1 : a ≤ m) (h2 : 0 ≤ b) (h3 : b ≤ n) : 0 ≤ a * b ∧ a * b ≤ m * n :=
  ⟨Int.mul_nonneg h0 h2, Int.mul_le_mul h1 h3 h2 (by omega)⟩

theorem arms_ord {a : Arms} (h : arms a = true) : 0 ≤ a.ordinary := by
  simp only [arms, Bool.and_eq_true] at h
  have h := h.2
  split at h
  · omega
  · simp only [Bool.and_eq_true, inR_iff] at h; omega
theorem i_FeeFor (t : Tariff) (rank : Int) (a : Arms) (u : Bool) : PCall Try.prog n_i_FeeFor [eTariff t, I rank, eArms a, B u] (.tup [I (fee t rank a u), B (feeOk t rank a)]) := by
  refine PCall.of fn_i_FeeFor (by simp) ?_
  simp [c_i_FeeFor, r_i_FeeFor_0, r_i_FeeFor_1]
  refine callQ_v (PCall.arg (i_isTariff t) (by simp)) ?_
  cases h1 : tariff t with
  | false => simp [r_i_FeeFor_2, fee, feeOk, h1]
  | true =>
  simp
  refine callQ_v (i_isRank ..) ?_
  cases h2 : inR rank 1 5 with
  | false => simp [r_i_FeeFor_2, fee, feeOk, h2]
  | true =>
  simp
  refine callQ_v (PCall.arg (i_IsValidArms a) (by simp)) ?_
  cases h3 : arms a with
  | false => simp [r_i_FeeFor_2, fee, feeOk, h3]
  | true =>
  have hT := tariff_nums h1
  have h2' := inR_iff.1 h2
  have hL := layers_bounds a
  have hi : rank.toNat - 1 < t.base.length := by omega
  have hB := tariff_base h1 hi
  have hm := fee_mul (a := t.layer) (b := layers a - 1) (m := 100000) (n := 3) (by omega) (by omega) (by omega) (by omega)
  have hs : feeSlow t rank a = t.base[rank.toNat - 1] + t.layer * (layers a - 1) := by simp [feeSlow, hi]
  have e1 : IntKind.i64.wrap (rank - 1) = ((rank.toNat - 1 : Nat) : Int) := by rw [wrap64 (by omega) (by omega)]; omega
  have hm2 := fee_mul (a := feeSlow t rank a) (b := t.urgent) (m := 400000) (n := 500) (by omega) (by omega) (by omega) (by omega)
  have hq : 0 ≤ (feeSlow t rank a * t.urgent + 99).tdiv 100 ∧ (feeSlow t rank a * t.urgent + 99).tdiv 100 ≤ 10000000 := by rw [Int.tdiv_eq_ediv_of_nonneg (by omega)]; omega
  have hok : feeOk t rank a = true := by simp [feeOk, h1, h2, h3]
  simp [r_i_FeeFor_3, p_i_FeeFor_3, e1, hi]
  refine callD_v (PCall.arg (i_Arms_layers a) (by simp)) ?_ ?_ ?_
  · simp
  · simp
  simp
  rw [wrap64 (n := layers a - 1) (by omega) (by omega), wrap64 (n := t.layer * (layers a - 1)) (by omega) (by omega), wrap64 (by omega) (by omega), ← hs]
  refine ⟨oEnd_of (by first | kernel_rfl | simp) (by first | kernel_rfl | simp), ?_⟩
  cases u with
  | true =>
    simp [r_i_FeeFor_4, r_i_FeeFor_5]
    rw [wrap64 (n := feeSlow t rank a * t.urgent) (by omega) (by omega), wrap64 (n := feeSlow t rank a * t.urgent + 99) (by omega) (by omega), wrap64 (n := (feeSlow t rank a * t.urgent + 99).tdiv 100) (by omega) (by omega), wrap64 (by omega) (by omega)]
    simp [r_i_FeeFor_6, fee, feeFor, hok]
  | false => simp [r_i_FeeFor_4, r_i_FeeFor_6, fee, feeFor, hok]

theorem s_FeeFor (t : Tariff) (rank : Int) (a : Arms) (u : Bool) : PCall Try.prog n_s_FeeFor [eTariff t, I rank, eArms a, B u] (.tup [I (fee t rank a u), B (feeOk t rank a)]) := by
  refine PCall.of fn_s_FeeFor (by simp) ?_
  simp [c_s_FeeFor, r_s_FeeFor_0, r_s_FeeFor_1]
  refine callQ_v (PCall.arg (s_l26Tariff t) (by simp)) ?_
  cases h1 : tariff t with
  | false => simp [r_s_FeeFor_2, fee, feeOk, h1]
  | true =>
  simp
  refine callQ_v (s_l22Rank ..) ?_
  cases h2 : inR rank 1 5 with
  | false => simp [r_s_FeeFor_2, fee, feeOk, h2]
  | true =>
  simp
  refine callQ_v (PCall.arg (s_l5Good a) (by simp)) ?_
  cases h3 : arms a with
  | false => simp [r_s_FeeFor_2, fee, feeOk, h3]
  | true =>
  have hT := tariff_nums h1
  have h2' := inR_iff.1 h2
  have hL := layers_bounds a
  have hi : rank.toNat - 1 < t.base.length := by omega
  have hB := tariff_base h1 hi
  have hm := fee_mul (a := t.layer) (b := layers a - 1) (m := 100000) (n := 3) (by omega) (by omega) (by omega) (by omega)
  have hs : feeSlow t rank a = t.base[rank.toNat - 1] + t.layer * (layers a - 1) := by simp [feeSlow, hi]
  have e1 : IntKind.i64.wrap (rank - 1) = ((rank.toNat - 1 : Nat) : Int) := by rw [wrap64 (by omega) (by omega)]; omega
  have hm2 := fee_mul (a := feeSlow t rank a) (b := t.urgent) (m := 400000) (n := 500) (by omega) (by omega) (by omega) (by omega)
  have hq : 0 ≤ (feeSlow t rank a * t.urgent + 99).tdiv 100 ∧ (feeSlow t rank a * t.urgent + 99).tdiv 100 ≤ 10000000 := by rw [Int.tdiv_eq_ediv_of_nonneg (by omega)]; omega
  have hok : feeOk t rank a = true := by simp [feeOk, h1, h2, h3]
  simp [r_s_FeeFor_3, p_s_FeeFor_3, e1, hi]
  refine callD_v (PCall.arg (s_l5Layers a (arms_ord h3)) (by simp)) ?_ ?_ ?_
  · simp
  · simp
  simp
  rw [wrap64 (n := layers a - 1) (by omega) (by omega), wrap64 (n := t.layer * (layers a - 1)) (by omega) (by omega), wrap64 (by omega) (by omega), ← hs]
  refine ⟨oEnd_of (by first | kernel_rfl | simp) (by first | kernel_rfl | simp), ?_⟩
  cases u with
  | true =>
    simp [r_s_FeeFor_4, r_s_FeeFor_5]
    rw [wrap64 (n := feeSlow t rank a * t.urgent) (by omega) (by omega), wrap64 (n := feeSlow t rank a * t.urgent + 99) (by omega) (by omega), wrap64 (n := (feeSlow t rank a * t.urgent + 99).tdiv 100) (by omega) (by omega), wrap64 (by omega) (by omega)]
    simp [r_s_FeeFor_6, fee, feeFor, hok]
  | false => simp [r_s_FeeFor_4, r_s_FeeFor_6, fee, feeFor, hok]

end Go.Proofs.Ytgefdcllialhkaa
