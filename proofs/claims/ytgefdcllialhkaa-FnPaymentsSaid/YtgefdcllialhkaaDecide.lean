/- Decisions on petitions, in the program and in the reference. -/
import Derived.Test.YtgefdcllialhkaaCodeDecide
import Derived.Test.YtgefdcllialhkaaFind
set_option linter.unusedVariables false
set_option linter.unusedSimpArgs false
namespace Go.Proofs.Ytgefdcllialhkaa
open Go.Abs

/-- What is given back. -/
def backOf (p : Petition) (t : Tariff) (grant : Bool) : Int := if grant then 0 else (p.paid * t.refund).tdiv 100
/-- A petition behind a decision. -/
def decP (p : Petition) (t : Tariff) (day : Int) (grant : Bool) : Petition := { p with day := day, state := if grant then 3 else 4, paid := p.paid - backOf p t grant }
def decOk (l : List Petition) (t : Tariff) (n day : Int) (grant : Bool) : Bool := petitions l && tariff t && decide (0 ≤ pix l n) && (inR day (petOf l n).day 9999 && (decide ((petOf l n).state = 2) || (!grant && decide ((petOf l n).state = 1))))
def decL (l : List Petition) (t : Tariff) (n day : Int) (grant : Bool) : List Petition := if decOk l t n day grant then l.set (pix l n).toNat (decP (petOf l n) t day grant) else []
def decN (l : List Petition) (t : Tariff) (n day : Int) (grant : Bool) : Int := if decOk l t n day grant then backOf (petOf l n) t grant else 0

theorem tariff_bounds {t : Tariff} (h : tariff t = true) : t.base.length = 5 ∧ (0 ≤ t.layer ∧ t.layer ≤ 100000) ∧ (0 ≤ t.urgent ∧ t.urgent ≤ 500) ∧ (0 ≤ t.refund ∧ t.refund ≤ 100) := by
  simp only [tariff, Bool.and_eq_true, decide_eq_true_iff, inR_iff] at h
  exact ⟨h.1.1.1.1, h.1.1.1.2, h.1.1.2, h.1.2⟩
theorem mul_le_of {a b m n : Int} (h0 : 0 ≤ a) (h1 : a ≤ m) (h2 : 0 ≤ b) (h3 : b ≤ n) : 0 ≤ a * b ∧ a * b ≤ m * n :=
  ⟨Int.mul_nonneg h0 h2, Int.mul_le_mul h1 h3 h2 (by omega)⟩

theorem i_DecidePetition (l : List Petition) (t : Tariff) (n day : Int) (grant : Bool) :
    PCall Try.prog n_i_DecidePetition [.ro 5 (l.map ePetition), eTariff t, I n, I day, B grant] (.tup [.own 5 ((decL l t n day grant).map ePetition), I (decN l t n day grant), B (decOk l t n day grant)]) := by
  refine PCall.ofN fn_i_DecidePetition (by simp) ?_
  simp [c_i_DecidePetition, r_i_DecidePetition_0, r_i_DecidePetition_1]
  refine callQ_v (i_petitionIn ..) ?_
  simp [r_i_DecidePetition_2]
  refine callQ_v (i_IsValidPetitions ..) ?_
  cases hb : petitions l with
  | false => simp [r_i_DecidePetition_3, decOk, decL, decN, hb]
  | true =>
  obtain ⟨hl, hp⟩ := petitions_ok hb
  simp
  refine callQ_v (PCall.arg (i_isTariff t) (by simp)) ?_
  cases ht : tariff t with
  | false => simp [r_i_DecidePetition_3, decOk, decL, decN, ht]
  | true =>
  have hT := tariff_bounds ht
  simp
  refine ⟨fun h0 => ?_, fun h0 => by simp [r_i_DecidePetition_3, decOk, decL, decN, show ¬ 0 ≤ pix l n by omega]⟩
  obtain ⟨i, e, hi, hpi⟩ := pix_at h0
  have hx := petOk_bounds (hp i hi)
  simp [e, hi]
  refine callQ_v (i_inside ..) ?_
  cases h4 : inR day l[i].day 9999 with
  | false => simp [r_i_DecidePetition_3, decOk, decL, decN, hpi, h4]
  | true =>
  have hm := mul_le_of (a := l[i].paid) (b := t.refund) (m := 1000000) (n := 100) (by omega) (by omega) (by omega) (by omega)
  have hq : 0 ≤ (l[i].paid * t.refund).tdiv 100 ∧ (l[i].paid * t.refund).tdiv 100 ≤ 1000000 := by rw [Int.tdiv_eq_ediv_of_nonneg (by omega)]; omega
  simp [r_i_DecidePetition_4, e, hi]
  cases grant with
  | true =>
    by_cases h3 : l[i].state = 2
    rotate_left
    · simp [r_i_DecidePetition_5, r_i_DecidePetition_6, h3, decOk, decL, decN, hpi]
    have hok : decOk l t n day true = true := by simp [decOk, hb, ht, h0, hpi, h3, h4]
    simp [r_i_DecidePetition_5, r_i_DecidePetition_7, h3]
    refine callQ_of (PCall.arg (slices_Clone_i_Petition_i_Petition l (by omega)) (by simp)) rfl (.inl (by simp)) (by simp) ?_
    simp [r_i_DecidePetition_8, r_i_DecidePetition_9, r_i_DecidePetition_10, hi]
    simp [decL, decN, hok, e, hpi, decP, backOf, List.map_set]
  | false =>
    by_cases h3 : l[i].state = 2
    · have hok : decOk l t n day false = true := by simp [decOk, hb, ht, h0, hpi, h3, h4]
      simp [r_i_DecidePetition_5, r_i_DecidePetition_7, h3]
      refine callQ_of (PCall.arg (slices_Clone_i_Petition_i_Petition l (by omega)) (by simp)) rfl (.inl (by simp)) (by simp) ?_
      simp [r_i_DecidePetition_8, r_i_DecidePetition_9, hi]
      simp [r_i_DecidePetition_11, p_i_DecidePetition_11, hi]
      rw [wrap64 (n := l[i].paid * t.refund) (by omega) (by omega), wrap64 (by omega) (by omega)]
      refine ⟨oEnd_of (by first | kernel_rfl | simp) (by first | kernel_rfl | simp), ?_⟩
      simp [r_i_DecidePetition_12, r_i_DecidePetition_13, hi]
      rw [wrap64 (by omega) (by omega)]
      simp [decL, decN, hok, e, hpi, decP, backOf, List.map_set]
    · by_cases h3' : l[i].state = 1
      · have hok : decOk l t n day false = true := by simp [decOk, hb, ht, h0, hpi, h3', h4]
        simp [r_i_DecidePetition_5, r_i_DecidePetition_7, h3']
        refine callQ_of (PCall.arg (slices_Clone_i_Petition_i_Petition l (by omega)) (by simp)) rfl (.inl (by simp)) (by simp) ?_
        simp [r_i_DecidePetition_8, r_i_DecidePetition_9, hi]
        simp [r_i_DecidePetition_11, p_i_DecidePetition_11, hi]
        rw [wrap64 (n := l[i].paid * t.refund) (by omega) (by omega), wrap64 (by omega) (by omega)]
        refine ⟨oEnd_of (by first | kernel_rfl | simp) (by first | kernel_rfl | simp), ?_⟩
        simp [r_i_DecidePetition_12, r_i_DecidePetition_13, hi]
        rw [wrap64 (by omega) (by omega)]
        simp [decL, decN, hok, e, hpi, decP, backOf, List.map_set]
      · simp [r_i_DecidePetition_5, r_i_DecidePetition_6, h3, h3', decOk, decL, decN, hpi]

theorem s_DecidePetition (l : List Petition) (t : Tariff) (n day : Int) (grant : Bool) :
    PCall Try.prog n_s_DecidePetition [.ro 5 (l.map ePetition), eTariff t, I n, I day, B grant] (.tup [.own 5 ((decL l t n day grant).map ePetition), I (decN l t n day grant), B (decOk l t n day grant)]) := by
  refine PCall.ofN fn_s_DecidePetition (by simp) ?_
  simp [c_s_DecidePetition, r_s_DecidePetition_0, r_s_DecidePetition_1]
  refine callQ_v (s_l26Find ..) ?_
  simp [r_s_DecidePetition_2]
  refine callQ_v (s_l26Good ..) ?_
  cases hb : petitions l with
  | false => simp [r_s_DecidePetition_3, decOk, decL, decN, hb]
  | true =>
  obtain ⟨hl, hp⟩ := petitions_ok hb
  simp
  refine callQ_v (PCall.arg (s_l26Tariff t) (by simp)) ?_
  cases ht : tariff t with
  | false => simp [r_s_DecidePetition_3, decOk, decL, decN, ht]
  | true =>
  have hT := tariff_bounds ht
  simp
  refine ⟨fun h0 => by simp [r_s_DecidePetition_3, decOk, decL, decN, show ¬ 0 ≤ pix l n by omega], fun h0 => ?_⟩
  obtain ⟨i, e, hi, hpi⟩ := pix_at h0
  have hx := petOk_bounds (hp i hi)
  have hm := mul_le_of (a := l[i].paid) (b := t.refund) (m := 1000000) (n := 100) (by omega) (by omega) (by omega) (by omega)
  have hq : 0 ≤ (l[i].paid * t.refund).tdiv 100 ∧ (l[i].paid * t.refund).tdiv 100 ≤ 1000000 := by rw [Int.tdiv_eq_ediv_of_nonneg (by omega)]; omega
  simp [r_s_DecidePetition_4, e, hi]
  simp [r_s_DecidePetition_5]
  refine callQ_v (s_l1In ..) ?_
  cases h4 : inR day l[i].day 9999 with
  | false => simp [r_s_DecidePetition_6, decOk, decL, decN, hpi, h4]
  | true =>
  cases grant with
  | true =>
    by_cases h3 : l[i].state = 2
    rotate_left
    · simp [r_s_DecidePetition_6, h3, decOk, decL, decN, hpi]
    have hok : decOk l t n day true = true := by simp [decOk, hb, ht, h0, hpi, h3, h4]
    simp [h3]
    simp [r_s_DecidePetition_7, r_s_DecidePetition_8, r_s_DecidePetition_9, r_s_DecidePetition_10, h3]
    refine callQ_of (PCall.arg (s_l26With l i (decP l[i] t day true) hl hi) (by simp [decP, backOf])) rfl (.inl (by simp)) (by simp) ?_
    simp [decL, decN, hok, e, hpi, backOf]
  | false =>
    by_cases h3 : 2 < l[i].state
    · have n1 : ¬ l[i].state = 2 := by omega
      have n2 : ¬ l[i].state = 1 := by omega
      simp [r_s_DecidePetition_6, h3, decOk, decL, decN, hpi, n1, n2]
    have hok : decOk l t n day false = true := by simp [decOk, hb, ht, h0, hpi, h4]; omega
    simp [h3]
    simp [r_s_DecidePetition_7, r_s_DecidePetition_8]
    simp [r_s_DecidePetition_11]
    rw [wrap64 (n := l[i].paid * t.refund) (by omega) (by omega), wrap64 (by omega) (by omega)]
    simp [r_s_DecidePetition_12]
    rw [wrap64 (by omega) (by omega)]
    simp [r_s_DecidePetition_13, r_s_DecidePetition_14]
    refine callQ_of (PCall.arg (s_l26With l i (decP l[i] t day false) hl hi) (by simp [decP, backOf])) rfl (.inl (by simp)) (by simp) ?_
    simp [decL, decN, hok, e, hpi, backOf]
theorem decL_len (l : List Petition) (t : Tariff) (n day : Int) (grant : Bool) : (decL l t n day grant).length ≤ 12 := by
  unfold decL
  split
  · rename_i h
    simp only [decOk, Bool.and_eq_true] at h
    simp only [List.length_set]
    exact (petitions_ok h.1.1.1).1
  · simp
end Go.Proofs.Ytgefdcllialhkaa
