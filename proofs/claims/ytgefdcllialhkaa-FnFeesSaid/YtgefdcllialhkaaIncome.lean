/- The income and the overdue petitions, in the program and in the reference. -/
import Derived.Test.YtgefdcllialhkaaCodeIncome
import Derived.Test.YtgefdcllialhkaaPetitions
set_option linter.unusedVariables false
set_option linter.unusedSimpArgs false
namespace Go.Proofs.Ytgefdcllialhkaa
open Go.Abs

/-- What has been paid, state by state. -/
def paidIn (l : List Petition) (k : Nat) : Int := ((l.filter fun p => decide (p.state = (k : Int) + 1)).map Petition.paid).sum
def sums (l : List Petition) : List Int := (List.range 4).map (paidIn l)
def income (l : List Petition) : List Int := if petitions l then sums l else []
theorem sums_len (l : List Petition) : (sums l).length = 4 := by simp [sums]
theorem sums_get {l : List Petition} {k : Nat} (h : k < 4) : (sums l)[k]? = some (paidIn l k) := by
  rw [List.getElem?_eq_getElem (by rw [sums_len]; exact h)]
  simp only [sums, List.getElem_map, List.getElem_range]
theorem paidIn_app (l : List Petition) (p : Petition) (k : Nat) : paidIn (l ++ [p]) k = paidIn l k + (if p.state = (k : Int) + 1 then p.paid else 0) := by
  simp only [paidIn, List.filter_append, List.map_append, List.sum_append]
  congr 1
  by_cases h : p.state = (k : Int) + 1 <;> simp [h]
theorem sums_step {l : List Petition} {p : Petition} (h1 : 1 ≤ p.state) (h2 : p.state ≤ 4) : (sums l).set (p.state.toNat - 1) (paidIn l (p.state.toNat - 1) + p.paid) = sums (l ++ [p]) := by
  apply List.ext_getElem
  · rw [List.length_set, sums_len, sums_len]
  · intro j hj hj'
    rw [List.getElem_set]
    rw [sums_len] at hj'
    simp only [sums, List.getElem_map, List.getElem_range, paidIn_app]
    by_cases e : p.state.toNat - 1 = j
    · subst e
      rw [if_pos rfl, if_pos (by omega)]
    · rw [if_neg e, if_neg (by omega), Int.add_zero]
theorem paidIn_bounds {l : List Petition} (h : ∀ p ∈ l, petOk p = true) (k : Nat) : 0 ≤ paidIn l k ∧ paidIn l k ≤ 1000000 * l.length := by
  unfold paidIn
  induction l with
  | nil => simp
  | cons p l ih =>
    have h1 := petOk_bounds (h p (by simp))
    have h2 := ih fun q hq => h q (by simp [hq])
    by_cases e : p.state = (k : Int) + 1
    · simp [e]; omega
    · simp [e]; omega

theorem i_IncomeOf (l : List Petition) : PCall Try.prog n_i_IncomeOf [.ro 5 (l.map ePetition)] (.tup [.own 1 (ints (income l)), B (petitions l)]) := by
  cases hb : petitions l with
  | false =>
    refine PCall.res (res := .tup [.v (.slice none 0 0), B false]) ?_ ?_
    · refine PCall.of fn_i_IncomeOf (by simp) ?_
      simp [c_i_IncomeOf, r_i_IncomeOf_0, r_i_IncomeOf_1]
      refine callQ_v (i_IsValidPetitions ..) ?_
      simp [r_i_IncomeOf_2, hb]
    · simp only [income, hb, Bool.false_eq_true, if_false, List.map_nil, ints]
      exact Le.tup ⟨Le.nil 1, Le.refl _, trivial⟩
  | true =>
    refine PCall.of fn_i_IncomeOf (by simp) ?_
    simp [c_i_IncomeOf, r_i_IncomeOf_0, r_i_IncomeOf_1]
    refine callQ_v (i_IsValidPetitions ..) ?_
    obtain ⟨hl, hp⟩ := petitions_ok hb
    simp [r_i_IncomeOf_3, r_i_IncomeOf_4, r_i_IncomeOf_10, lenBound, income, hb]
    refine loopK (fun i : Nat => ⟨[(4, .sl 10 0 4), (11, .ro 5 (l.map ePetition)), (12, I l.length), (13, I i)], [(10, ⟨1, ints (sums (l.take i))⟩)], []⟩) (fun i => l.length - i) (fun i => i ≤ l.length) 0 (Wk.list rfl (by simp) (by simp [sums, paidIn])) (by simp) ?_
    intro i hi K hN hR hE
    simp [r_i_IncomeOf_5, l_i_IncomeOf_9]
    refine ⟨fun hlt => ?_, fun hge => ?_⟩
    · have hx := petOk_bounds (hp i hlt)
      have hpb := paidIn_bounds (l := l.take i) (fun p hpm => by
        obtain ⟨j, hj, rfl⟩ := List.getElem_of_mem (List.mem_of_mem_take hpm)
        exact hp j hj) (l[i].state.toNat - 1)
      have hlen : (l.take i).length = i := by simp; omega
      have hg := sums_get (l := l.take i) (k := l[i].state.toNat - 1) (by omega)
      have hst := sums_step (l := l.take i) (p := l[i]) (by omega) (by omega)
      generalize hz : l.take i = z at hg hst hpb hlen
      simp [r_i_IncomeOf_6, hlt]
      simp [r_i_IncomeOf_7, p_i_IncomeOf_7, hlt]
      rw [wrap64 (by omega) (by omega)]
      simp [hg, sums_len, hlt]
      refine ⟨by omega, ?_⟩
      rw [wrap64 (by omega) (by omega)]
      refine ⟨oEnd_of (by first | kernel_rfl | simp) (by first | kernel_rfl | simp), ?_⟩
      simp [r_i_IncomeOf_8]
      rw [wrap64 (by omega) (by omega)]
      refine hN (i + 1) _ (by omega) (by omega) (Wk.list rfl (by simp) ?_)
      rw [take_succ' hlt, hz, ← hst]
      simp [List.map_set]
    · refine hE _ _ ?_
      obtain rfl : i = l.length := by omega
      simp [sums_len]

/-- The numbers of the open petitions that have waited for longer than the limit. -/
def overdue (l : List Petition) (day limit : Int) : List Int := (l.filter fun p => decide (p.state = 1) && decide (limit < day - p.day)).map Petition.number
def overdueOk (l : List Petition) (day limit : Int) : Bool := petitions l && inR day 0 9999 && inR limit 0 9999
theorem overdue_succ {l : List Petition} {i : Nat} (h : i < l.length) (day limit : Int) : overdue (l.take (i + 1)) day limit = overdue (l.take i) day limit ++ (if l[i].state = 1 ∧ limit < day - l[i].day then [l[i].number] else []) := by
  rw [take_succ' h]
  simp only [overdue, List.filter_append, List.map_append]
  congr 1
  by_cases h1 : l[i].state = 1 <;> by_cases h2 : limit < day - l[i].day <;> simp [h1, h2]
theorem overdue_len (l : List Petition) (day limit : Int) : (overdue l day limit).length ≤ l.length := by
  simp only [overdue, List.length_map]; exact List.length_filter_le _ _
/-- What is told. -/
def told (l : List Petition) (day limit : Int) : List Int := if overdueOk l day limit then overdue l day limit else []

theorem s_OverduePetitions (l : List Petition) (day limit : Int) : PCall Try.prog n_s_OverduePetitions [.ro 5 (l.map ePetition), I day, I limit] (.tup [.own 1 (ints (told l day limit)), B (overdueOk l day limit)]) := by
  refine PCall.of fn_s_OverduePetitions (by simp) ?_
  simp [c_s_OverduePetitions, r_s_OverduePetitions_0, r_s_OverduePetitions_1, r_s_OverduePetitions_2]
  refine callQ_v (s_l26Good ..) ?_
  cases hb : petitions l with
  | false => simp [r_s_OverduePetitions_3, told, overdueOk, hb]
  | true =>
  simp
  refine callQ_v (s_l26Day ..) ?_
  cases h1 : inR day 0 9999 with
  | false => simp [r_s_OverduePetitions_3, told, overdueOk, hb, h1]
  | true =>
  simp
  refine callQ_v (s_l26Day ..) ?_
  cases h2 : inR limit 0 9999 with
  | false => simp [r_s_OverduePetitions_3, told, overdueOk, hb, h1, h2]
  | true =>
  obtain ⟨hl, hp⟩ := petitions_ok hb
  have h1' := inR_iff.1 h1
  have h2' := inR_iff.1 h2
  simp [r_s_OverduePetitions_4, r_s_OverduePetitions_10, told, overdueOk, hb, h1, h2]
  refine loopK (fun i : Nat => ⟨[(0, .ro 5 (l.map ePetition)), (1, I day), (2, I limit), (8, .sl 10 0 (overdue (l.take i) day limit).length), (9, I i)], [(10, ⟨1, ints (overdue (l.take i) day limit)⟩)], []⟩) (fun i => l.length - i) (fun i => i ≤ l.length) 0 (Wk.list rfl (by simp [overdue]) (by simp [overdue])) (by simp) ?_
  intro i hi K hN hR hE
  simp [r_s_OverduePetitions_5, l_s_OverduePetitions_9]
  refine ⟨fun hlt => ?_, fun hge => ?_⟩
  · have hx := petOk_bounds (hp i hlt)
    have hol := overdue_len (l.take i) day limit
    have hil : (l.take i).length = i := by simp; omega
    have hs := overdue_succ hlt day limit
    by_cases c1 : l[i].state = 1
    · simp [r_s_OverduePetitions_6, hlt, c1]
      rw [wrap64 (by omega) (by omega)]
      refine ⟨fun c2 => ?_, fun c2 => ?_⟩
      · rw [if_pos ⟨c1, c2⟩] at hs
        simp [r_s_OverduePetitions_7, hlt]
        refine ⟨by unfold lenBound; omega, ?_⟩
        simp [r_s_OverduePetitions_8]
        rw [wrap64 (by omega) (by omega)]
        refine hN (i + 1) _ (by omega) (by omega) (Wk.trans (Wk.ren 55 10 (by decide) (by simp)) (Wk.list rfl (by simp [hs]) (by simp [hs, List.take_of_length_le])))
      · rw [if_neg (fun h => by omega)] at hs
        simp [r_s_OverduePetitions_8]
        rw [wrap64 (by omega) (by omega)]
        refine hN (i + 1) _ (by omega) (by omega) (Wk.list rfl (by simp [hs]) (by simp [hs]))
    · rw [if_neg (fun h => c1 h.1)] at hs
      simp [r_s_OverduePetitions_6, hlt, c1]
      simp [r_s_OverduePetitions_8]
      rw [wrap64 (by omega) (by omega)]
      refine hN (i + 1) _ (by omega) (by omega) (Wk.list rfl (by simp [hs]) (by simp [hs]))
  · refine hE _ _ ?_
    obtain rfl : i = l.length := by omega
    simp

theorem i_OverduePetitions (l : List Petition) (day limit : Int) : PCall Try.prog n_i_OverduePetitions [.ro 5 (l.map ePetition), I day, I limit] (.tup [.own 1 (ints (told l day limit)), B (overdueOk l day limit)]) := by
  cases hk : overdueOk l day limit with
  | false =>
    refine PCall.res (res := .tup [.v (.slice none 0 0), B false]) ?_ ?_
    · refine PCall.of fn_i_OverduePetitions (by simp) ?_
      simp [c_i_OverduePetitions, r_i_OverduePetitions_0, r_i_OverduePetitions_1]
      refine callQ_v (i_IsValidPetitions ..) ?_
      cases hb : petitions l with
      | false => simp [r_i_OverduePetitions_2]
      | true =>
      simp
      refine callQ_v (i_isDay ..) ?_
      cases h1 : inR day 0 9999 with
      | false => simp [r_i_OverduePetitions_2]
      | true =>
      simp
      refine callQ_v (i_isDay ..) ?_
      cases h2 : inR limit 0 9999 with
      | false => simp [r_i_OverduePetitions_2]
      | true => simp [overdueOk, hb, h1, h2] at hk
    · simp only [told, hk, Bool.false_eq_true, if_false, List.map_nil, ints]
      exact Le.tup ⟨Le.nil 1, Le.refl _, trivial⟩
  | true =>
  have hk' := hk
  simp only [overdueOk, Bool.and_eq_true] at hk'
  obtain ⟨⟨hb, h1⟩, h2⟩ := hk'
  refine PCall.of fn_i_OverduePetitions (by simp) ?_
  simp [c_i_OverduePetitions, r_i_OverduePetitions_0, r_i_OverduePetitions_1]
  refine callQ_v (i_IsValidPetitions ..) ?_
  simp [hb]
  refine callQ_v (i_isDay ..) ?_
  simp [h1]
  refine callQ_v (i_isDay ..) ?_
  simp [h2]
  obtain ⟨hl, hp⟩ := petitions_ok hb
  have h1' := inR_iff.1 h1
  have h2' := inR_iff.1 h2
  simp [r_i_OverduePetitions_3, r_i_OverduePetitions_4, r_i_OverduePetitions_11, told, hk]
  refine loopK (fun i : Nat => ⟨[(1, I day), (2, I limit), (8, .sl 24 0 (overdue (l.take i) day limit).length), (25, .ro 5 (l.map ePetition)), (26, I l.length), (27, I i)], [(24, ⟨1, ints (overdue (l.take i) day limit)⟩)], []⟩) (fun i => l.length - i) (fun i => i ≤ l.length) 0 (Wk.list rfl (by simp [overdue]) (by simp [overdue])) (by simp) ?_
  intro i hi K hN hR hE
  simp [r_i_OverduePetitions_5, l_i_OverduePetitions_10]
  refine ⟨fun hlt => ?_, fun hge => ?_⟩
  · have hx := petOk_bounds (hp i hlt)
    have hol := overdue_len (l.take i) day limit
    have hil : (l.take i).length = i := by simp; omega
    have hs := overdue_succ hlt day limit
    simp [r_i_OverduePetitions_6, hlt]
    by_cases c1 : l[i].state = 1
    · simp [r_i_OverduePetitions_7, hlt, c1]
      rw [wrap64 (by omega) (by omega)]
      refine ⟨fun c2 => ?_, fun c2 => ?_⟩
      · rw [if_pos ⟨c1, c2⟩] at hs
        simp [r_i_OverduePetitions_8, hlt]
        refine ⟨by unfold lenBound; omega, ?_⟩
        simp [r_i_OverduePetitions_9]
        rw [wrap64 (by omega) (by omega)]
        refine hN (i + 1) _ (by omega) (by omega) (Wk.trans (Wk.ren 46 24 (by decide) (by simp)) (Wk.list rfl (by simp [hs]) (by simp [hs, List.take_of_length_le])))
      · rw [if_neg (fun h => by omega)] at hs
        simp [r_i_OverduePetitions_9]
        rw [wrap64 (by omega) (by omega)]
        refine hN (i + 1) _ (by omega) (by omega) (Wk.list rfl (by simp [hs]) (by simp [hs]))
    · rw [if_neg (fun h => c1 h.1)] at hs
      simp [r_i_OverduePetitions_7, hlt, c1]
      simp [r_i_OverduePetitions_9]
      rw [wrap64 (by omega) (by omega)]
      refine hN (i + 1) _ (by omega) (by omega) (Wk.list rfl (by simp [hs]) (by simp [hs]))
  · refine hE _ _ ?_
    obtain rfl : i = l.length := by omega
    simp

theorem income_len (l : List Petition) : (income l).length ≤ 4 := by
  unfold income
  split
  · rw [sums_len]; omega
  · simp
theorem told_len (l : List Petition) (day limit : Int) : (told l day limit).length ≤ 12 := by
  unfold told
  split
  · rename_i h
    simp only [overdueOk, Bool.and_eq_true] at h
    have h1 := (petitions_ok h.1.1).1
    have h2 := overdue_len l day limit
    omega
  · simp
end Go.Proofs.Ytgefdcllialhkaa
