/- Payments of petitions, in the program and in the reference. -/
import Derived.Test.YtgefdcllialhkaaCodePay
import Derived.Test.YtgefdcllialhkaaFind
set_option linter.unusedVariables false
set_option linter.unusedSimpArgs false
namespace Go.Proofs.Ytgefdcllialhkaa
open Go.Abs

/-- A petition behind a payment. -/
def payP (p : Petition) (day amount fee : Int) : Petition := { p with day := day, state := if p.paid + min amount (fee - p.paid) = fee then 2 else p.state, paid := p.paid + min amount (fee - p.paid) }
def payOk (l : List Petition) (n day amount fee : Int) : Bool := petitions l && decide (0 ≤ pix l n) && inR amount 1 1000000 && inR fee 0 1000000 && (decide ((petOf l n).state = 1) && inR day (petOf l n).day 9999 && decide ((petOf l n).paid ≤ fee))
def payL (l : List Petition) (n day amount fee : Int) : List Petition := if payOk l n day amount fee then l.set (pix l n).toNat (payP (petOf l n) day amount fee) else []
def payN (l : List Petition) (n day amount fee : Int) : Int := if payOk l n day amount fee then amount - min amount (fee - (petOf l n).paid) else 0

theorem s_l1Least (a b : Int) : PCall Try.prog n_s_l1Least [I a, I b] (I (min a b)) := by
  refine PCall.of fn_s_l1Least (by simp) ?_
  simp [c_s_l1Least, r_s_l1Least_0, r_s_l1Least_1, r_s_l1Least_2, r_s_l1Least_3]
  constructor <;> intros <;> omega

theorem s_PayPetition (l : List Petition) (n day amount fee : Int) : PCall Try.prog n_s_PayPetition [.ro 5 (l.map ePetition), I n, I day, I amount, I fee] (.tup [.own 5 ((payL l n day amount fee).map ePetition), I (payN l n day amount fee), B (payOk l n day amount fee)]) := by
  refine PCall.ofN fn_s_PayPetition (by simp) ?_
  simp [c_s_PayPetition, r_s_PayPetition_0, r_s_PayPetition_1]
  refine callQ_v (s_l26Find ..) ?_
  simp [r_s_PayPetition_2]
  refine callQ_v (s_l26Good ..) ?_
  cases hb : petitions l with
  | false => simp [r_s_PayPetition_3, payOk, payL, payN, hb]
  | true =>
  obtain ⟨hl, hp⟩ := petitions_ok hb
  simp
  refine ⟨fun h0 => ?_, fun h0 => by simp [r_s_PayPetition_3, payOk, payL, payN, show ¬ 0 ≤ pix l n by omega]⟩
  obtain ⟨i, e, hi, hpi⟩ := pix_at h0
  have hx := petOk_bounds (hp i hi)
  refine callQ_v (s_l1In ..) ?_
  cases h1 : inR amount 1 1000000 with
  | false => simp [r_s_PayPetition_3, payOk, payL, payN, h1]
  | true =>
  simp
  refine callQ_v (s_l1In ..) ?_
  cases h2 : inR fee 0 1000000 with
  | false => simp [r_s_PayPetition_3, payOk, payL, payN, h2]
  | true =>
  have h1' := inR_iff.1 h1
  have h2' := inR_iff.1 h2
  simp [r_s_PayPetition_4, e, hi]
  simp [r_s_PayPetition_5]
  by_cases h3 : l[i].state = 1
  rotate_left
  · simp [r_s_PayPetition_6, h3, payOk, payL, payN, hpi]
  simp [h3]
  refine callQ_v (s_l1In ..) ?_
  cases h4 : inR day l[i].day 9999 with
  | false => simp [r_s_PayPetition_6, payOk, payL, payN, hpi, h4]
  | true =>
  by_cases h5 : fee < l[i].paid
  · have : ¬ l[i].paid ≤ fee := by omega
    simp [r_s_PayPetition_6, h5, this, payOk, payL, payN, hpi]
  have h5' : l[i].paid ≤ fee := by omega
  simp [r_s_PayPetition_7, h5]
  rw [wrap64 (by omega) (by omega)]
  refine callQ_v (s_l1Least ..) ?_
  have hm : min amount (fee - l[i].paid) ≤ 1000000 ∧ 0 ≤ min amount (fee - l[i].paid) := by omega
  simp [r_s_PayPetition_8]
  rw [wrap64 (by omega) (by omega)]
  simp [r_s_PayPetition_9, r_s_PayPetition_10]
  have hok : payOk l n day amount fee = true := by simp [payOk, hb, h0, h1, h2, hpi, h3, h4, h5']
  refine ⟨fun h6 => ?_, fun h6 => ?_⟩
  · simp [r_s_PayPetition_11, r_s_PayPetition_12]
    refine callQ_of (PCall.arg (s_l26With l i (payP l[i] day amount fee) hl hi) (by simp [payP, h6])) rfl (.inl (by simp)) (by simp) ?_
    simp
    rw [wrap64 (by omega) (by omega)]
    simp [payL, payN, hok, e, hpi]
  · simp [r_s_PayPetition_12]
    refine callQ_of (PCall.arg (s_l26With l i (payP l[i] day amount fee) hl hi) (by simp [payP, h6, h3])) rfl (.inl (by simp)) (by simp) ?_
    simp
    rw [wrap64 (by omega) (by omega)]
    simp [payL, payN, hok, e, hpi]

theorem i_PayPetition (l : List Petition) (n day amount fee : Int) : PCall Try.prog n_i_PayPetition [.ro 5 (l.map ePetition), I n, I day, I amount, I fee] (.tup [.own 5 ((payL l n day amount fee).map ePetition), I (payN l n day amount fee), B (payOk l n day amount fee)]) := by
  refine PCall.ofN fn_i_PayPetition (by simp) ?_
  simp [c_i_PayPetition, r_i_PayPetition_0, r_i_PayPetition_1]
  refine callQ_v (i_petitionIn ..) ?_
  simp [r_i_PayPetition_2]
  refine callQ_v (i_IsValidPetitions ..) ?_
  cases hb : petitions l with
  | false => simp [r_i_PayPetition_3, payOk, payL, payN, hb]
  | true =>
  obtain ⟨hl, hp⟩ := petitions_ok hb
  simp
  refine ⟨fun h0 => ?_, fun h0 => by simp [r_i_PayPetition_3, payOk, payL, payN, show ¬ 0 ≤ pix l n by omega]⟩
  obtain ⟨i, e, hi, hpi⟩ := pix_at h0
  have hx := petOk_bounds (hp i hi)
  refine callQ_v (i_inside ..) ?_
  cases h1 : inR amount 1 1000000 with
  | false => simp [r_i_PayPetition_3, payOk, payL, payN, h1]
  | true =>
  simp
  refine callQ_v (i_inside ..) ?_
  cases h2 : inR fee 0 1000000 with
  | false => simp [r_i_PayPetition_3, payOk, payL, payN, h2]
  | true =>
  have h1' := inR_iff.1 h1
  have h2' := inR_iff.1 h2
  simp [r_i_PayPetition_4, e, hi]
  simp [r_i_PayPetition_5]
  by_cases h3 : l[i].state = 1
  rotate_left
  · simp [r_i_PayPetition_6, h3, payOk, payL, payN, hpi]
  simp [h3]
  refine callQ_v (i_inside ..) ?_
  cases h4 : inR day l[i].day 9999 with
  | false => simp [r_i_PayPetition_6, payOk, payL, payN, hpi, h4]
  | true =>
  by_cases h5 : fee < l[i].paid
  · have : ¬ l[i].paid ≤ fee := by omega
    simp [r_i_PayPetition_6, h5, this, payOk, payL, payN, hpi]
  have h5' : l[i].paid ≤ fee := by omega
  simp [r_i_PayPetition_7, h5]
  refine callQ_of (PCall.arg (slices_Clone_i_Petition_i_Petition l (by omega)) (by simp)) rfl (.inl (by simp)) (by simp) ?_
  simp [r_i_PayPetition_8, hi]
  rw [wrap64 (by omega) (by omega)]
  have hm : min amount (fee - l[i].paid) ≤ 1000000 ∧ 0 ≤ min amount (fee - l[i].paid) := by omega
  have hok : payOk l n day amount fee = true := by simp [payOk, hb, h0, h1, h2, hpi, h3, h4, h5']
  have em : (if fee - l[i].paid < amount then fee - l[i].paid else amount) = min amount (fee - l[i].paid) := by split <;> omega
  rw [em]
  simp [r_i_PayPetition_9, hi]
  rw [wrap64 (by omega) (by omega)]
  simp [r_i_PayPetition_10, hi]
  refine ⟨fun h6 => ?_, fun h6 => ?_⟩
  · simp [r_i_PayPetition_11, r_i_PayPetition_12, hi]
    rw [wrap64 (by omega) (by omega)]
    simp [payL, payN, hok, e, hpi, payP, h6, List.map_set]
  · simp [r_i_PayPetition_12, hi]
    rw [wrap64 (by omega) (by omega)]
    simp [payL, payN, hok, e, hpi, payP, h6, List.map_set, h3]
theorem payL_len (l : List Petition) (n day amount fee : Int) : (payL l n day amount fee).length ≤ 12 := by
  unfold payL
  split
  · rename_i h
    simp only [payOk, Bool.and_eq_true] at h
    simp only [List.length_set]
    exact (petitions_ok h.1.1.1.1).1
  · simp
end Go.Proofs.Ytgefdcllialhkaa
