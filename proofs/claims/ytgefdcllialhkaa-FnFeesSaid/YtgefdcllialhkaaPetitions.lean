/- Lists of petitions: the test, the income, what is overdue; in the program and in the reference. -/
import Derived.Test.YtgefdcllialhkaaCodePetitions
import Derived.Test.YtgefdcllialhkaaPetition
import Derived.Test.YtgefdcllialhkaaAbs4
set_option linter.unusedVariables false
set_option linter.unusedSimpArgs false
namespace Go.Proofs.Ytgefdcllialhkaa
open Go.Abs

theorem i_isRank (x : Int) : PCall Try.prog n_i_isRank [I x] (B (inR x 1 5)) := by
  refine PCall.of fn_i_isRank (by simp) ?_
  simp [c_i_isRank, r_i_isRank_0, r_i_isRank_1]
  exact callQ_v (i_inside ..) (by simp)
theorem i_isDay (x : Int) : PCall Try.prog n_i_isDay [I x] (B (inR x 0 9999)) := by
  refine PCall.of fn_i_isDay (by simp) ?_
  simp [c_i_isDay, r_i_isDay_0, r_i_isDay_1]
  exact callQ_v (i_inside ..) (by simp)
theorem s_l22Rank (x : Int) : PCall Try.prog n_s_l22Rank [I x] (B (inR x 1 5)) := by
  refine PCall.of fn_s_l22Rank (by simp) ?_
  simp [c_s_l22Rank, r_s_l22Rank_0, r_s_l22Rank_1]
  exact callQ_v (s_l1In ..) (by simp)
theorem s_l26Day (x : Int) : PCall Try.prog n_s_l26Day [I x] (B (inR x 0 9999)) := by
  refine PCall.of fn_s_l26Day (by simp) ?_
  simp [c_s_l26Day, r_s_l26Day_0, r_s_l26Day_1]
  exact callQ_v (s_l1In ..) (by simp)

/-- A valid petition. -/
def petOk (p : Petition) : Bool := inR p.number 1 999 && inR p.rank 1 5 && inR p.day 0 9999 && inR p.state 1 4 && inR p.paid 0 1000000
/-- The petition at a place is valid and follows the one before it. -/
def petStep (l : List Petition) (i : Nat) : Bool := match l[i]? with
  | some p => petOk p && (decide (i = 0) || decide (((l[i - 1]?).map Petition.number).getD 0 < p.number))
  | none => true
/-- A valid list of petitions. -/
def petitions (l : List Petition) : Bool := (List.range l.length).all (petStep l) && decide (l.length ≤ 12)

theorem s_l26Good (l : List Petition) : PCall Try.prog n_s_l26Good [.ro 5 (l.map ePetition)] (B (petitions l)) := by
  refine PCall.ofL fn_s_l26Good (by simp) fun hl => ?_
  simp at hl
  simp [c_s_l26Good, r_s_l26Good_0, r_s_l26Good_1, r_s_l26Good_10]
  refine loopK (fun i : Nat => ⟨[(0, .ro 5 (l.map ePetition)), (3, I i)], [], []⟩) (fun i => l.length - i) (fun i => i ≤ l.length ∧ (List.range i).all (petStep l) = true) 0 (Wk.list rfl (by simp) (by simp)) (by simp) ?_
  rintro i ⟨hi, hj⟩ K hN hR hE
  simp [r_s_l26Good_2, l_s_l26Good_9]
  refine ⟨fun hlt => ?_, fun hge => ?_⟩
  · have hbad : petStep l i = false → ∀ hp, K .ret ⟨[(2, B false)], hp, []⟩ := fun h hp => hR _ (by simp only [blockK_ret]; simp [petitions, allIx_false hlt h])
    simp [r_s_l26Good_3, hlt]
    simp [r_s_l26Good_4]
    refine callQ_v (s_l1In ..) ?_
    cases a1 : inR l[i].number 1 999 with
    | false => simp [r_s_l26Good_5]; exact hbad (by simp [petStep, hlt, petOk, a1]) _
    | true =>
    simp
    refine callQ_v (s_l22Rank ..) ?_
    cases a2 : inR l[i].rank 1 5 with
    | false => simp [r_s_l26Good_5]; exact hbad (by simp [petStep, hlt, petOk, a2]) _
    | true =>
    simp
    refine callQ_v (s_l26Day ..) ?_
    cases a3 : inR l[i].day 0 9999 with
    | false => simp [r_s_l26Good_5]; exact hbad (by simp [petStep, hlt, petOk, a3]) _
    | true =>
    simp
    refine callQ_v (s_l1In ..) ?_
    cases a4 : inR l[i].state 1 4 with
    | false => simp [r_s_l26Good_5]; exact hbad (by simp [petStep, hlt, petOk, a4]) _
    | true =>
    simp
    refine callQ_v (s_l1In ..) ?_
    cases a5 : inR l[i].paid 0 1000000 with
    | false => simp [r_s_l26Good_5]; exact hbad (by simp [petStep, hlt, petOk, a5]) _
    | true =>
    have hok : petOk l[i] = true := by simp [petOk, a1, a2, a3, a4, a5]
    by_cases hz : 0 < i
    · have e : IntKind.i64.wrap ((i : Int) - 1) = ((i - 1 : Nat) : Int) := by rw [wrap64 (by omega) (by omega)]; omega
      have hlt' : i - 1 < l.length := by omega
      simp [r_s_l26Good_6, p_s_l26Good_6, hz, e, hlt']
      refine ⟨oEnd_of (by first | kernel_rfl | simp) (by first | kernel_rfl | simp), fun h => ?_, fun h => ?_⟩
      · simp [r_s_l26Good_7]
        exact hbad (by simp [petStep, hlt, hlt', show i ≠ 0 from by omega, show ¬ l[i - 1].number < l[i].number from by omega]) _
      · simp [r_s_l26Good_8]
        rw [wrap64 (by omega) (by omega)]
        refine hN (i + 1) _ (by omega) ⟨by omega, ?_⟩ (Wk.list rfl (by simp) (by simp))
        rw [allIx_succ, hj]
        simp [petStep, hlt, hlt', hok, show l[i - 1].number < l[i].number from by omega]
    · obtain rfl : i = 0 := by omega
      simp [r_s_l26Good_6, p_s_l26Good_6]
      refine ⟨oEnd_of (by first | kernel_rfl | simp) (by first | kernel_rfl | simp), ?_⟩
      simp [r_s_l26Good_8]
      rw [wrap64 (by omega) (by omega)]
      refine hN 1 _ (by omega) ⟨by omega, ?_⟩ (Wk.list rfl (by simp) (by simp))
      simp [petStep, hlt, hok]
  · refine hE _ _ ?_
    obtain rfl : i = l.length := by omega
    simp only [blockK_exit]
    simp
    simp only [petitions, hj, Bool.true_and]
    rw [decide_eq_decide]; omega

theorem i_IsValidPetitions (l : List Petition) : PCall Try.prog n_i_IsValidPetitions [.ro 5 (l.map ePetition)] (B (petitions l)) := by
  refine PCall.ofL fn_i_IsValidPetitions (by simp) fun hl => ?_
  simp at hl
  simp [c_i_IsValidPetitions, r_i_IsValidPetitions_0, r_i_IsValidPetitions_1, r_i_IsValidPetitions_8]
  refine loopK (fun i : Nat => ⟨[(0, .ro 5 (l.map ePetition)), (5, .ro 5 (l.map ePetition)), (6, I l.length), (7, I i)], [], []⟩) (fun i => l.length - i) (fun i => i ≤ l.length ∧ (List.range i).all (petStep l) = true) 0 (Wk.list rfl (by simp) (by simp)) (by simp) ?_
  rintro i ⟨hi, hj⟩ K hN hR hE
  simp [r_i_IsValidPetitions_2, l_i_IsValidPetitions_7]
  refine ⟨fun hlt => ?_, fun hge => ?_⟩
  · have hbad : petStep l i = false → ∀ hp, K .ret ⟨[(2, B false)], hp, []⟩ := fun h hp => hR _ (by simp only [blockK_ret]; simp [petitions, allIx_false hlt h])
    simp [r_i_IsValidPetitions_3, hlt]
    simp [r_i_IsValidPetitions_4, p_i_IsValidPetitions_4]
    refine callD_v (i_inside ..) ?_ ?_ ?_
    · simp
    · simp
    cases a1 : inR l[i].number 1 999 with
    | false => simp; refine ⟨oEnd_of (by first | kernel_rfl | simp) (by first | kernel_rfl | simp), ?_⟩; simp [r_i_IsValidPetitions_5]; exact hbad (by simp [petStep, hlt, petOk, a1]) _
    | true =>
    simp
    refine callD_v (i_isRank ..) ?_ ?_ ?_
    · simp
    · simp
    cases a2 : inR l[i].rank 1 5 with
    | false => simp; refine ⟨oEnd_of (by first | kernel_rfl | simp) (by first | kernel_rfl | simp), ?_⟩; simp [r_i_IsValidPetitions_5]; exact hbad (by simp [petStep, hlt, petOk, a2]) _
    | true =>
    simp
    refine callD_v (i_isDay ..) ?_ ?_ ?_
    · simp
    · simp
    cases a3 : inR l[i].day 0 9999 with
    | false => simp; refine ⟨oEnd_of (by first | kernel_rfl | simp) (by first | kernel_rfl | simp), ?_⟩; simp [r_i_IsValidPetitions_5]; exact hbad (by simp [petStep, hlt, petOk, a3]) _
    | true =>
    simp
    refine callD_v (i_inside ..) ?_ ?_ ?_
    · simp
    · simp
    cases a4 : inR l[i].state 1 4 with
    | false => simp; refine ⟨oEnd_of (by first | kernel_rfl | simp) (by first | kernel_rfl | simp), ?_⟩; simp [r_i_IsValidPetitions_5]; exact hbad (by simp [petStep, hlt, petOk, a4]) _
    | true =>
    simp
    refine callD_v (i_inside ..) ?_ ?_ ?_
    · simp
    · simp
    cases a5 : inR l[i].paid 0 1000000 with
    | false => simp; refine ⟨oEnd_of (by first | kernel_rfl | simp) (by first | kernel_rfl | simp), ?_⟩; simp [r_i_IsValidPetitions_5]; exact hbad (by simp [petStep, hlt, petOk, a5]) _
    | true =>
    have hok : petOk l[i] = true := by simp [petOk, a1, a2, a3, a4, a5]
    by_cases hz : 0 < i
    · have e : IntKind.i64.wrap ((i : Int) - 1) = ((i - 1 : Nat) : Int) := by rw [wrap64 (by omega) (by omega)]; omega
      have hlt' : i - 1 < l.length := by omega
      simp [hz, e, hlt']
      refine ⟨oEnd_of (by first | kernel_rfl | simp) (by first | kernel_rfl | simp), fun h => ?_, fun h => ?_⟩
      · simp [r_i_IsValidPetitions_5]
        exact hbad (by simp [petStep, hlt, hlt', show i ≠ 0 from by omega, show ¬ l[i - 1].number < l[i].number from by omega]) _
      · simp [r_i_IsValidPetitions_6]
        rw [wrap64 (by omega) (by omega)]
        refine hN (i + 1) _ (by omega) ⟨by omega, ?_⟩ (Wk.list rfl (by simp) (by simp))
        rw [allIx_succ, hj]
        simp [petStep, hlt, hlt', hok, show l[i - 1].number < l[i].number from by omega]
    · obtain rfl : i = 0 := by omega
      simp
      refine ⟨oEnd_of (by first | kernel_rfl | simp) (by first | kernel_rfl | simp), ?_⟩
      simp [r_i_IsValidPetitions_6]
      rw [wrap64 (by omega) (by omega)]
      refine hN 1 _ (by omega) ⟨by omega, ?_⟩ (Wk.list rfl (by simp) (by simp))
      simp [petStep, hlt, hok]
  · refine hE _ _ ?_
    obtain rfl : i = l.length := by omega
    simp only [blockK_exit]
    simp
    simp only [petitions, hj, Bool.true_and]
    rw [decide_eq_decide]; omega

theorem petitions_ok {l : List Petition} (h : petitions l = true) : l.length ≤ 12 ∧ ∀ i (hi : i < l.length), petOk l[i] = true := by
  simp only [petitions, Bool.and_eq_true, List.all_eq_true, decide_eq_true_iff] at h
  refine ⟨h.2, fun i hi => ?_⟩
  have := h.1 i (List.mem_range.2 hi)
  simp only [petStep, List.getElem?_eq_getElem hi, Bool.and_eq_true] at this
  exact this.1
theorem petOk_bounds {p : Petition} (h : petOk p = true) : 1 ≤ p.number ∧ p.number ≤ 999 ∧ 1 ≤ p.rank ∧ p.rank ≤ 5 ∧ 0 ≤ p.day ∧ p.day ≤ 9999 ∧ 1 ≤ p.state ∧ p.state ≤ 4 ∧ 0 ≤ p.paid ∧ p.paid ≤ 1000000 := by
  simp only [petOk, Bool.and_eq_true, inR_iff] at h
  omega

end Go.Proofs.Ytgefdcllialhkaa
