/- Tariffs: the helpers of the laws, the test, the cheapest rank; in the program and in the reference. -/
import Derived.Test.YtgefdcllialhkaaCodeTariff
import Derived.Test.YtgefdcllialhkaaLib
import Derived.Test.YtgefdcllialhkaaInts
set_option linter.unusedVariables false
set_option linter.unusedSimpArgs false
namespace Go.Proofs.Ytgefdcllialhkaa
open Go.Abs

structure Tariff where
  base : List Int
  layer : Int
  urgent : Int
  refund : Int
  deriving DecidableEq

abbrev eTariff (t : Tariff) : V := .agg [roI t.base, I t.layer, I t.urgent, I t.refund]
abbrev oTariff (t : Tariff) : V := .agg [ownI t.base, I t.layer, I t.urgent, I t.refund]
theorem Tariff.eq_iff (p q : Tariff) : p = q ↔ p.base = q.base ∧ p.layer = q.layer ∧ p.urgent = q.urgent ∧ p.refund = q.refund := by
  cases p; cases q; simp

/-- A valid tariff. -/
def tariff (t : Tariff) : Bool := decide (t.base.length = 5) && inR t.layer 0 100000 && inR t.urgent 0 500 && inR t.refund 0 100 && t.base.all (fun x => inR x 0 100000)

theorem s_l26Tariff (t : Tariff) : PCall Try.prog n_s_l26Tariff [eTariff t] (B (tariff t)) := by
  refine PCall.of fn_s_l26Tariff (by simp) ?_
  by_cases h0 : t.base.length = 5
  rotate_left
  · have : ¬ ((t.base.length : Int) = 5) := by omega
    simp [c_s_l26Tariff, r_s_l26Tariff_0, r_s_l26Tariff_1, r_s_l26Tariff_2, this, tariff, h0]
  simp [c_s_l26Tariff, r_s_l26Tariff_0, r_s_l26Tariff_1, h0]
  refine callQ_v (s_l1In ..) ?_
  cases h1 : inR t.layer 0 100000 with
  | false => simp [r_s_l26Tariff_2, tariff, h1]
  | true =>
  simp
  refine callQ_v (s_l1In ..) ?_
  cases h2 : inR t.urgent 0 500 with
  | false => simp [r_s_l26Tariff_2, tariff, h2]
  | true =>
  simp
  refine callQ_v (s_l1In ..) ?_
  cases h3 : inR t.refund 0 100 with
  | false => simp [r_s_l26Tariff_2, tariff, h3]
  | true =>
  simp [r_s_l26Tariff_3, r_s_l26Tariff_9, tariff, h0, h1, h2, h3]
  refine loopK (fun i : Nat => ⟨[(1, .ref 1 0 0), (3, I i)], [(1, ⟨4, [eTariff t]⟩)], []⟩) (fun i => t.base.length - i) (fun i => i ≤ t.base.length ∧ (t.base.take i).all (fun x => inR x 0 100000) = true) 0 (Wk.list rfl (by simp) (by simp)) (by simp) ?_
  rintro i ⟨hi, hj⟩ K hN hR hE
  simp [r_s_l26Tariff_4, l_s_l26Tariff_8]
  refine ⟨fun hlt => ?_, fun hge => ?_⟩
  · have hlt' : i < t.base.length := by omega
    simp [r_s_l26Tariff_5, hlt']
    refine callQ_v (s_l1In ..) ?_
    cases h : inR t.base[i] 0 100000 with
    | false =>
      simp [r_s_l26Tariff_6]
      refine hR _ ?_
      simp only [blockK_ret]
      have := all_false (p := fun x => inR x 0 100000) hlt' h
      simp
      simpa using this
    | true =>
      simp [r_s_l26Tariff_7]
      rw [wrap64 (by omega) (by omega)]
      refine hN (i + 1) _ (by omega) ⟨by omega, ?_⟩ (Wk.list rfl (by simp) (by simp))
      rw [all_take_succ hlt', hj, h]; rfl
  · refine hE _ _ ?_
    rw [List.take_of_length_le (by omega)] at hj
    simp only [blockK_exit]
    simp
    simpa using hj

theorem i_isTariff_1 (x : Int) : PCall Try.prog n_i_isTariff_1 [I x] (B (!inR x 0 100000)) := by
  refine PCall.of fn_i_isTariff_1 (by simp) ?_
  simp [c_i_isTariff_1, r_i_isTariff_1_0, r_i_isTariff_1_1]
  exact callQ_v (i_inside ..) (by simp)

theorem i_isTariff (t : Tariff) : PCall Try.prog n_i_isTariff [eTariff t] (B (tariff t)) := by
  refine PCall.of fn_i_isTariff (by simp) ?_
  simp [c_i_isTariff, r_i_isTariff_0, r_i_isTariff_1]
  refine callQ_v (PCall.arg (slices_ContainsFunc_int_int t.base (fun x => !inR x 0 100000) n_i_isTariff_1 [] (by simp) (by simp) (fun x _ => i_isTariff_1 x)) (by simp)) ?_
  generalize hq : (t.base.any fun x => !inR x 0 100000) = q
  have hq' : t.base.all (fun x => inR x 0 100000) = !q := by
    rw [← hq, List.any_eq_not_all_not]; simp
  cases q with
  | true => simp [r_i_isTariff_2, tariff, hq']
  | false =>
  by_cases h0 : t.base.length = 5
  rotate_left
  · have : ¬ ((t.base.length : Int) = 5) := by omega
    simp [r_i_isTariff_3, this, tariff, h0]
  simp [r_i_isTariff_3, h0]
  refine callQ_v (i_inside ..) ?_
  cases h1 : inR t.layer 0 100000 with
  | false => simp [tariff, h1]
  | true =>
  simp
  refine callQ_v (i_inside ..) ?_
  cases h2 : inR t.urgent 0 500 with
  | false => simp [tariff, h2]
  | true =>
  simp
  refine callQ_v (i_inside ..) ?_
  cases h3 : inR t.refund 0 100 with
  | false => simp [tariff, h3]
  | true => simp [tariff, h0, h1, h2, h3, hq']

theorem idx_len {α : Type} (p : α → Bool) (l : List α) : -1 ≤ idx p l ∧ idx p l < l.length := by
  unfold idx; split <;> omega
/-- The place of the first smallest among the first i. -/
def least (l : List Int) : Nat → Nat
  | 0 => 0
  | i + 1 => if l.getD i 0 < l.getD (least l i) 0 then i else least l i
theorem least_lt (l : List Int) : ∀ {i : Nat}, 1 ≤ i → least l i < i
  | 1, _ => by simp [least]
  | i + 2, _ => by
    have := least_lt l (i := i + 1) (by omega)
    rw [least]; split <;> omega
theorem getD_get (l : List Int) (d : Int) {i : Nat} (h : i < l.length) : l.getD i d = l[i] := by simp [h]
theorem least_succ {l : List Int} {i : Nat} (h1 : 1 ≤ i) (h : i < l.length) : least l (i + 1) = if l[i] < l[least l i]'(by have := least_lt l h1; omega) then i else least l i := by
  have := least_lt l h1
  rw [least, getD_get _ _ h, getD_get _ _ (by omega)]
theorem least_le (l : List Int) : ∀ {i j : Nat}, j < i → l.getD (least l i) 0 ≤ l.getD j 0 ∧ (j < least l i → l.getD (least l i) 0 < l.getD j 0)
  | 0, j, h => by omega
  | i + 1, j, h => by
    rw [least]
    by_cases e : j = i
    · subst e
      split
      · omega
      · rename_i hn
        refine ⟨by omega, fun hj => ?_⟩
        cases j with
        | zero => simp [least] at hj
        | succ k => have := least_lt l (i := k + 1) (by omega); omega
    · have ih := least_le l (i := i) (j := j) (by omega)
      split
      · omega
      · exact ih
theorem least_idx (l : List Int) (h : 0 < l.length) : idx (fun y => decide (y = minL l)) l = least l l.length := by
  have hl := least_lt l (i := l.length) (by omega)
  have hm : minL l = l[least l l.length] := minL_of (List.getElem_mem _) fun y hy => by
    obtain ⟨j, hj, rfl⟩ := List.getElem_of_mem hy
    have := (least_le l (i := l.length) (j := j) hj).1
    rwa [getD_get _ _ hl, getD_get _ _ hj] at this
  refine idx_at hl (fun j hj => ?_) (by simp [hm])
  have := (least_le l (i := l.length) (j := j) (by omega)).2 hj
  rw [getD_get _ _ hl, getD_get _ _ (by omega)] at this
  simp [hm]; omega

/-- The rank whose base is the smallest, from 1 on. -/
def cheapest (t : Tariff) : Int := if tariff t then idx (fun y => decide (y = minL t.base)) t.base + 1 else 0

theorem i_CheapestRank (t : Tariff) : PCall Try.prog n_i_CheapestRank [eTariff t] (.tup [I (cheapest t), B (tariff t)]) := by
  refine PCall.of fn_i_CheapestRank (by simp) ?_
  simp [c_i_CheapestRank, r_i_CheapestRank_0, r_i_CheapestRank_1]
  refine callQ_v (PCall.arg (i_isTariff t) (by simp)) ?_
  cases h : tariff t with
  | false => simp [r_i_CheapestRank_2, cheapest, h]
  | true =>
  have h5 : t.base.length = 5 := by
    simp only [tariff, Bool.and_eq_true, decide_eq_true_iff] at h; exact h.1.1.1.1
  simp [r_i_CheapestRank_3, p_i_CheapestRank_3]
  refine callD_v (PCall.arg (slices_Min_int_int t.base (by omega)) (by simp)) ?_ ?_ ?_
  · simp
  · simp
  simp
  refine callD_v (PCall.arg (slices_Index_int_int t.base (minL t.base)) (by simp)) ?_ ?_ ?_
  · simp
  · simp
  have hi := idx_len (fun y => decide (y = minL t.base)) t.base
  rw [h5] at hi
  generalize hx : idx (fun y => decide (y = minL t.base)) t.base = x at hi
  simp
  rw [wrap64 (by omega) (by omega)]
  refine ⟨oEnd_of (by first | kernel_rfl | simp) (by first | kernel_rfl | simp), ?_⟩
  simp [cheapest, h, hx]

theorem s_CheapestRank (t : Tariff) : PCall Try.prog n_s_CheapestRank [eTariff t] (.tup [I (cheapest t), B (tariff t)]) := by
  refine PCall.of fn_s_CheapestRank (by simp) ?_
  simp [c_s_CheapestRank, r_s_CheapestRank_0, r_s_CheapestRank_1]
  refine callQ_v (PCall.arg (s_l26Tariff t) (by simp)) ?_
  cases h : tariff t with
  | false => simp [r_s_CheapestRank_2, cheapest, h]
  | true =>
  have h5 : t.base.length = 5 := by
    simp only [tariff, Bool.and_eq_true, decide_eq_true_iff] at h; exact h.1.1.1.1
  simp [r_s_CheapestRank_3, r_s_CheapestRank_4, r_s_CheapestRank_10]
  refine loopQ_ix (fun i : Nat => ⟨[(1, .ref 1 0 0), (4, I (least t.base i)), (5, I i)], [(1, ⟨4, [eTariff t]⟩)], []⟩) (fun i => t.base.length - i) (fun i => 1 ≤ i ∧ i ≤ t.base.length) 1 (Wk.list rfl (by simp [least]) (by simp)) (by simp; omega) ?_
  rintro i ⟨h1, hi⟩
  have hl := least_lt t.base h1
  simp [r_s_CheapestRank_5, l_s_CheapestRank_9]
  refine ⟨fun hlt => ?_, fun hge => ?_⟩
  · have hlt' : i < t.base.length := by omega
    have hk : least t.base i < t.base.length := by omega
    obtain ⟨k, hk0⟩ : ∃ k, least t.base i = k := ⟨_, rfl⟩
    have e : least t.base (i + 1) = if t.base[i] < t.base[k]'(by omega) then i else k := by subst hk0; exact least_succ h1 hlt'
    rw [hk0] at hl hk ⊢
    simp [r_s_CheapestRank_6, p_s_CheapestRank_6, hlt', hk]
    refine ⟨oEnd_of (by first | kernel_rfl | simp) (by first | kernel_rfl | simp), fun hc => ?_, fun hc => ?_⟩
    · simp [r_s_CheapestRank_7, r_s_CheapestRank_8]
      rw [wrap64 (by omega) (by omega)]
      refine roundA_of (i + 1) (by omega) ⟨by omega, by omega⟩ (Wk.list rfl (by rw [e, if_pos hc]; simp) (by simp))
    · simp [r_s_CheapestRank_8]
      rw [wrap64 (by omega) (by omega)]
      refine roundA_of (i + 1) (by omega) ⟨by omega, by omega⟩ (Wk.list rfl (by rw [e, if_neg (by omega)]; simp) (by simp))
  · obtain rfl : i = t.base.length := by omega
    rw [wrap64 (by omega) (by omega)]
    have := least_idx t.base (by omega)
    simp [cheapest, h, this]
end Go.Proofs.Ytgefdcllialhkaa
