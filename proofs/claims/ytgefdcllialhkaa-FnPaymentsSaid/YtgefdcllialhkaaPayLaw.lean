/- Plain laws of payments: nothing is lost. -/
import Derived.Test.YtgefdcllialhkaaPay
import Derived.Test.YtgefdcllialhkaaDecide
import Derived.Test.YtgefdcllialhkaaIncome
set_option linter.unusedVariables false
set_option linter.unusedSimpArgs false
namespace Go.Proofs.Ytgefdcllialhkaa
open Go.Abs

theorem petitions_set {l : List Petition} {i : Nat} (hi : i < l.length) {q : Petition} (h : petitions l = true) (hq : petOk q = true) (hn : q.number = l[i].number) : petitions (l.set i q) = true := by
  have hnum : ∀ j, ((l.set i q)[j]?).map Petition.number = (l[j]?).map Petition.number := fun j => by
    rw [List.getElem?_set]
    by_cases e : i = j
    · subst e
      rw [if_pos rfl, if_pos hi, List.getElem?_eq_getElem hi]
      simp [hn]
    · rw [if_neg e]
  simp only [petitions, Bool.and_eq_true, List.all_eq_true, decide_eq_true_iff, List.length_set] at h ⊢
  refine ⟨fun j hj => ?_, h.2⟩
  have h1 := h.1 j hj
  have hjl : j < l.length := List.mem_range.1 hj
  simp only [petStep] at h1 ⊢
  rw [hnum (j - 1)]
  rw [List.getElem?_set]
  rw [List.getElem?_eq_getElem hjl] at h1 ⊢
  simp only [Bool.and_eq_true] at h1
  by_cases e : i = j
  · subst e
    simp only [if_pos, if_true, hi, Bool.and_eq_true]
    exact ⟨hq, by rw [hn]; exact h1.2⟩
  · simp only [if_neg e, Bool.and_eq_true]
    exact h1
def paidAll (l : List Petition) : Int := (l.map Petition.paid).sum
theorem paidIn_all {l : List Petition} (h : ∀ p ∈ l, petOk p = true) : paidIn l 0 + paidIn l 1 + paidIn l 2 + paidIn l 3 = paidAll l := by
  induction l with
  | nil => simp [paidIn, paidAll]
  | cons p l ih =>
    have h1 := petOk_bounds (h p (by simp))
    have h2 := ih fun q hq => h q (by simp [hq])
    have hs : p.state = 1 ∨ p.state = 2 ∨ p.state = 3 ∨ p.state = 4 := by omega
    have e : ∀ k, paidIn (p :: l) k = paidIn l k + (if p.state = (k : Int) + 1 then p.paid else 0) := fun k => by
      simp only [paidIn, List.filter_cons]
      by_cases e : p.state = (k : Int) + 1 <;> simp [e] <;> omega
    rw [e, e, e, e]
    simp only [paidAll, List.map_cons, List.sum_cons] at h2 ⊢
    rcases hs with hs | hs | hs | hs <;> simp [hs] <;> omega
theorem paidAll_set {l : List Petition} {i : Nat} (hi : i < l.length) (q : Petition) : paidAll (l.set i q) = paidAll l - l[i].paid + q.paid := by
  induction l generalizing i with
  | nil => simp at hi
  | cons p l ih =>
    cases i with
    | zero => simp [paidAll]; omega
    | succ i =>
      have := ih (i := i) (by simpa using hi)
      simp only [List.set_cons_succ, List.getElem_cons_succ, paidAll, List.map_cons, List.sum_cons] at this ⊢
      omega
theorem income_four {l : List Petition} (h : petitions l = true) : income l = [paidIn l 0, paidIn l 1, paidIn l 2, paidIn l 3] := by
  rw [income, if_pos h]; rfl
theorem income_sum {l : List Petition} (h : petitions l = true) : paidIn l 0 + paidIn l 1 + paidIn l 2 + paidIn l 3 = paidAll l ∧ ∀ k, 0 ≤ paidIn l k ∧ paidIn l k ≤ 12000000 := by
  obtain ⟨hl, hp⟩ := petitions_ok h
  have hm : ∀ p ∈ l, petOk p = true := fun p hpm => by
    obtain ⟨j, hj, rfl⟩ := List.getElem_of_mem hpm
    exact hp j hj
  refine ⟨paidIn_all hm, fun k => ?_⟩
  have := paidIn_bounds hm k
  omega
theorem pay_law {l : List Petition} {n day amount fee : Int} (h : payOk l n day amount fee = true) : petitions l = true ∧ petitions (payL l n day amount fee) = true ∧
    paidAll (payL l n day amount fee) = paidAll l + amount - payN l n day amount fee ∧ (0 ≤ amount ∧ amount ≤ 1000000) ∧ (-1000000 ≤ payN l n day amount fee ∧ payN l n day amount fee ≤ 1000000) := by
  have eL : payL l n day amount fee = l.set (pix l n).toNat (payP (petOf l n) day amount fee) := by rw [payL, if_pos h]
  have eN : payN l n day amount fee = amount - min amount (fee - (petOf l n).paid) := by rw [payN, if_pos h]
  simp only [payOk, Bool.and_eq_true, decide_eq_true_iff, inR_iff] at h
  obtain ⟨⟨⟨⟨h1, h2⟩, h3⟩, h4⟩, ⟨h5, h6⟩, h7⟩ := h
  obtain ⟨i, e1, hi, e2⟩ := pix_at h2
  obtain ⟨hl, hp⟩ := petitions_ok h1
  have hx := petOk_bounds (hp i hi)
  rw [← e2] at hx
  rw [eL, eN, e1]
  have et : ((i : Int)).toNat = i := by omega
  rw [et]
  refine ⟨h1, petitions_set hi h1 ?_ (by rw [← e2]; rfl), ?_, by omega, by omega⟩
  · simp only [petOk, Bool.and_eq_true, inR_iff, payP]
    split <;> omega
  · rw [paidAll_set hi, ← e2]
    simp only [payP]; omega
theorem dec_law {l : List Petition} {t : Tariff} {n day : Int} {grant : Bool} (h : decOk l t n day grant = true) : petitions l = true ∧ petitions (decL l t n day grant) = true ∧
    paidAll (decL l t n day grant) + decN l t n day grant = paidAll l ∧ (0 ≤ decN l t n day grant ∧ decN l t n day grant ≤ 1000000) ∧ (grant = true → decN l t n day grant = 0) := by
  have eL : decL l t n day grant = l.set (pix l n).toNat (decP (petOf l n) t day grant) := by rw [decL, if_pos h]
  have eN : decN l t n day grant = backOf (petOf l n) t grant := by rw [decN, if_pos h]
  simp only [decOk, Bool.and_eq_true, decide_eq_true_iff, inR_iff] at h
  obtain ⟨⟨⟨h1, h2⟩, h3⟩, h4, h5⟩ := h
  obtain ⟨i, e1, hi, e2⟩ := pix_at h3
  obtain ⟨hl, hp⟩ := petitions_ok h1
  have hx := petOk_bounds (hp i hi)
  rw [← e2] at hx
  have hr : 0 ≤ t.refund ∧ t.refund ≤ 100 := by
    simp only [tariff, Bool.and_eq_true, inR_iff] at h2; omega
  have hb : 0 ≤ backOf (petOf l n) t grant ∧ backOf (petOf l n) t grant ≤ (petOf l n).paid := by
    unfold backOf
    split
    · omega
    · have m1 : 0 ≤ (petOf l n).paid * t.refund := Int.mul_nonneg (by omega) (by omega)
      have m2 : (petOf l n).paid * t.refund ≤ (petOf l n).paid * 100 := Int.mul_le_mul_of_nonneg_left (by omega) (by omega)
      rw [Int.tdiv_eq_ediv_of_nonneg m1]
      omega
  rw [eL, eN, e1]
  have et : ((i : Int)).toNat = i := by omega
  rw [et]
  refine ⟨h1, petitions_set hi h1 ?_ (by rw [← e2]; rfl), ?_, by omega, fun hg => by simp [backOf, hg]⟩
  · simp only [petOk, Bool.and_eq_true, inR_iff, decP]
    split <;> omega
  · rw [paidAll_set hi, ← e2]
    simp only [decP]; omega
theorem sums_pay {a0 a1 a2 a3 b0 b1 b2 b3 amount left : Int} (h0 : 0 ≤ a0 ∧ a0 ≤ 12000000) (h1 : 0 ≤ a1 ∧ a1 ≤ 12000000) (h2 : 0 ≤ a2 ∧ a2 ≤ 12000000) (h3 : 0 ≤ a3 ∧ a3 ≤ 12000000)
    (g0 : 0 ≤ b0 ∧ b0 ≤ 12000000) (g1 : 0 ≤ b1 ∧ b1 ≤ 12000000) (g2 : 0 ≤ b2 ∧ b2 ≤ 12000000) (g3 : 0 ≤ b3 ∧ b3 ≤ 12000000) (ha : 0 ≤ amount ∧ amount ≤ 1000000) (hl : -1000000 ≤ left ∧ left ≤ 1000000)
    (h : b0 + b1 + b2 + b3 = a0 + a1 + a2 + a3 + amount - left) :
    IntKind.i64.wrap (IntKind.i64.wrap (IntKind.i64.wrap (b0 + b1) + b2) + b3) = IntKind.i64.wrap (IntKind.i64.wrap (IntKind.i64.wrap (IntKind.i64.wrap (IntKind.i64.wrap (a0 + a1) + a2) + a3) + amount) - left) := by
  rw [wrap64 (n := b0 + b1) (by omega) (by omega), wrap64 (n := b0 + b1 + b2) (by omega) (by omega), wrap64 (n := b0 + b1 + b2 + b3) (by omega) (by omega),
    wrap64 (n := a0 + a1) (by omega) (by omega), wrap64 (n := a0 + a1 + a2) (by omega) (by omega), wrap64 (n := a0 + a1 + a2 + a3) (by omega) (by omega), wrap64 (n := a0 + a1 + a2 + a3 + amount) (by omega) (by omega), wrap64 (by omega) (by omega)]
  exact h
theorem sums_dec {a0 a1 a2 a3 b0 b1 b2 b3 back : Int} (h0 : 0 ≤ a0 ∧ a0 ≤ 12000000) (h1 : 0 ≤ a1 ∧ a1 ≤ 12000000) (h2 : 0 ≤ a2 ∧ a2 ≤ 12000000) (h3 : 0 ≤ a3 ∧ a3 ≤ 12000000)
    (g0 : 0 ≤ b0 ∧ b0 ≤ 12000000) (g1 : 0 ≤ b1 ∧ b1 ≤ 12000000) (g2 : 0 ≤ b2 ∧ b2 ≤ 12000000) (g3 : 0 ≤ b3 ∧ b3 ≤ 12000000) (hl : 0 ≤ back ∧ back ≤ 1000000)
    (h : b0 + b1 + b2 + b3 + back = a0 + a1 + a2 + a3) :
    IntKind.i64.wrap (IntKind.i64.wrap (IntKind.i64.wrap (IntKind.i64.wrap (b0 + b1) + b2) + b3) + back) = IntKind.i64.wrap (IntKind.i64.wrap (IntKind.i64.wrap (a0 + a1) + a2) + a3) := by
  rw [wrap64 (n := b0 + b1) (by omega) (by omega), wrap64 (n := b0 + b1 + b2) (by omega) (by omega), wrap64 (n := b0 + b1 + b2 + b3) (by omega) (by omega), wrap64 (n := b0 + b1 + b2 + b3 + back) (by omega) (by omega),
    wrap64 (n := a0 + a1) (by omega) (by omega), wrap64 (n := a0 + a1 + a2) (by omega) (by omega), wrap64 (n := a0 + a1 + a2 + a3) (by omega) (by omega)]
  exact h
end Go.Proofs.Ytgefdcllialhkaa
