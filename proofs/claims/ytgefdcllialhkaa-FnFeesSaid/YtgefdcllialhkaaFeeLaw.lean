/- Plain laws of fees. -/
import Derived.Test.YtgefdcllialhkaaFee
import Derived.Test.YtgefdcllialhkaaSplit
set_option linter.unusedVariables false
set_option linter.unusedSimpArgs false
namespace Go.Proofs.Ytgefdcllialhkaa
open Go.Abs

theorem fee_fast {t : Tariff} {rank : Int} {a : Arms} (h : feeOk t rank a = true) : fee t rank a false ≤ fee t rank a true := by
  have h' := h
  simp only [feeOk, Bool.and_eq_true] at h'
  obtain ⟨⟨h1, h2⟩, h3⟩ := h'
  have hT := tariff_nums h1
  have h2' := inR_iff.1 h2
  have hL := layers_bounds a
  have hi : rank.toNat - 1 < t.base.length := by omega
  have hB := tariff_base h1 hi
  have hm := fee_mul (a := t.layer) (b := layers a - 1) (m := 100000) (n := 3) (by omega) (by omega) (by omega) (by omega)
  have hs : feeSlow t rank a = t.base[rank.toNat - 1] + t.layer * (layers a - 1) := by simp [feeSlow, hi]
  have hm2 := fee_mul (a := feeSlow t rank a) (b := t.urgent) (m := 400000) (n := 500) (by omega) (by omega) (by omega) (by omega)
  simp only [fee, h, if_true, feeFor, Bool.false_eq_true, if_false]
  rw [Int.tdiv_eq_ediv_of_nonneg (by omega)]
  omega
theorem fee_cheap {t : Tariff} {rank : Int} {a : Arms} (h : feeOk t rank a = true) : ∃ (i j : Nat) (x y : Int), tariff t = true ∧ cheapest t = i + 1 ∧ rank = j + 1 ∧ i < 5 ∧ j < 5 ∧ t.base.length = 5 ∧ t.base[i]? = some x ∧ t.base[j]? = some y ∧ x ≤ y := by
  simp only [feeOk, Bool.and_eq_true] at h
  obtain ⟨⟨h1, h2⟩, h3⟩ := h
  have hT := tariff_nums h1
  have h2' := inR_iff.1 h2
  have hl := least_lt t.base (i := t.base.length) (by omega)
  have e : cheapest t = (least t.base t.base.length : Int) + 1 := by rw [cheapest, if_pos h1, least_idx _ (by omega)]
  have hle := (least_le t.base (i := t.base.length) (j := rank.toNat - 1) (by omega)).1
  have hi : least t.base t.base.length < t.base.length := hl
  have hj : rank.toNat - 1 < t.base.length := by omega
  rw [getD_get _ _ hi, getD_get _ _ hj] at hle
  exact ⟨_, rank.toNat - 1, _, _, h1, e, by omega, by omega, by omega, hT.1, List.getElem?_eq_getElem hi, List.getElem?_eq_getElem hj, hle⟩
theorem parts_sum {f n : Int} (h : splits f n = true) : (split f n).sum = f := by
  have h' := h
  simp [splits] at h'
  rw [split, if_pos h]
  have h0 : 0 ≤ f.tmod n := Int.tmod_nonneg _ h'.1.1
  have h1 : f.tmod n < n := Int.tmod_lt_of_pos _ (by omega)
  have key : ∀ k : Nat, (parts f n k).sum = k * f.tdiv n + min (k : Int) (f.tmod n) := fun k => by
    induction k with
    | zero => simp [parts]; omega
    | succ k ih =>
      rw [parts_succ, List.sum_append, ih]
      have e : ((k + 1 : Nat) : Int) * f.tdiv n = k * f.tdiv n + f.tdiv n := by rw [Int.natCast_succ, Int.add_mul, Int.one_mul]
      rw [e]
      simp only [List.sum_cons, List.sum_nil]
      split <;> omega
  rw [key]
  have hn : ((n.toNat : Nat) : Int) = n := by omega
  rw [hn, Int.min_eq_right (by omega)]
  exact Int.mul_tdiv_add_tmod f n
theorem split_bounds (f n : Int) : (split f n).length ≤ 12 ∧ ∀ x ∈ split f n, 0 ≤ x ∧ x ≤ 1000001 := by
  unfold split
  split
  · rename_i h
    have hq := quo_bound h
    have h' := h
    simp [splits] at h'
    refine ⟨by rw [parts_len]; omega, fun x hx => ?_⟩
    simp only [parts, List.mem_map] at hx
    obtain ⟨i, _, rfl⟩ := hx
    split <;> omega
  · simp
theorem sum_take_bounds {l : List Int} (h : ∀ x ∈ l, 0 ≤ x ∧ x ≤ 1000001) : ∀ i, 0 ≤ (l.take i).sum ∧ (l.take i).sum ≤ 1000001 * i := by
  intro i
  induction i generalizing l with
  | zero => simp
  | succ i ih =>
    cases l with
    | nil => simp; omega
    | cons x l =>
      have h1 := h x (by simp)
      have h2 := ih (l := l) fun y hy => h y (by simp [hy])
      simp only [List.take_succ_cons, List.sum_cons]
      omega
end Go.Proofs.Ytgefdcllialhkaa
