/- Differences between arms, in the program and in the reference. -/
import Derived.Test.YtbeoijlggphklaaGreatCodeDiff
import Derived.Test.YtbeoijlggphklaaGreatArms
set_option linter.unusedVariables false
set_option linter.unusedSimpArgs false
namespace Go.Proofs.YtbeoijlggphklaaGreat
open Go.Abs

def tincts (f : Field) : List Int := if f.division = 0 then [f.first] else [f.first, f.second]
def fieldDiff (a b : Field) : Int := bit (a.division != b.division) + bit (a.line != b.line) + bit (!decide (tincts a = tincts b))
/-- The same group. -/
def geq (a b : Group) : Bool := a.count == b.count && (a.kind == b.kind && (a.attitude == b.attitude && a.tincture == b.tincture))
def groupDiff (a b : Group) : Int := if geq a b then 0 else if g0 a || g0 b then 2 else bit (a.count != b.count) + bit (a.tincture != b.tincture) + (if a.kind = b.kind then bit (a.attitude != b.attitude) else 2)
def diffs (a b : Arms) : Int := fieldDiff a.field b.field + (groupDiff a.on b.on + groupDiff a.around b.around) + (if a.ordinary = b.ordinary then bit (a.line != b.line) + bit (a.tincture != b.tincture) else 2)
theorem bit_bounds (b : Bool) : 0 ≤ bit b ∧ bit b ≤ 1 := by unfold bit; split <;> omega
theorem fieldDiff_bounds (a b : Field) : 0 ≤ fieldDiff a b ∧ fieldDiff a b ≤ 3 := by
  unfold fieldDiff
  have h1 := bit_bounds (a.division != b.division)
  have h2 := bit_bounds (a.line != b.line)
  have h3 := bit_bounds (!decide (tincts a = tincts b))
  omega
theorem groupDiff_bounds (a b : Group) : 0 ≤ groupDiff a b ∧ groupDiff a b ≤ 4 := by
  unfold groupDiff
  have h1 := bit_bounds (a.count != b.count)
  have h2 := bit_bounds (a.tincture != b.tincture)
  have h3 := bit_bounds (a.attitude != b.attitude)
  split
  · omega
  · split
    · omega
    · split <;> omega
theorem tincts_len (f : Field) : (tincts f).length ≤ 2 := by unfold tincts; split <;> simp

theorem i_Field_tinctures (f : Field) : PCall Tryz.prog n_i_Field_tinctures [eField f] (.own 1 ((tincts f).map I)) := by
  refine PCall.of fn_i_Field_tinctures (by simp) ?_
  by_cases h : f.division = 0
  · simp [c_i_Field_tinctures, r_i_Field_tinctures_0, r_i_Field_tinctures_1, r_i_Field_tinctures_2, r_i_Field_tinctures_3, h, tincts]
  · simp [c_i_Field_tinctures, r_i_Field_tinctures_0, r_i_Field_tinctures_1, r_i_Field_tinctures_2, r_i_Field_tinctures_3, h, tincts]
theorem s_l3Tinctures (f : Field) : PCall Tryz.prog n_s_l3Tinctures [eField f] (.own 1 ((tincts f).map I)) := by
  refine PCall.of fn_s_l3Tinctures (by simp) ?_
  by_cases h : f.division = 0
  · simp [c_s_l3Tinctures, r_s_l3Tinctures_0, r_s_l3Tinctures_1, r_s_l3Tinctures_2, r_s_l3Tinctures_3, h, tincts]
  · simp [c_s_l3Tinctures, r_s_l3Tinctures_0, r_s_l3Tinctures_1, r_s_l3Tinctures_2, r_s_l3Tinctures_3, h, tincts]
theorem s_l1Same (a b : List Int) : PCall Tryz.prog n_s_l1Same [.ro 1 (a.map I), .ro 1 (b.map I)] (B (decide (a = b))) := by
  refine PCall.ofL fn_s_l1Same (by simp) fun hl => ?_
  simp at hl
  by_cases hl : a.length = b.length
  · simp [c_s_l1Same, r_s_l1Same_0, r_s_l1Same_1, r_s_l1Same_2, r_s_l1Same_3, r_s_l1Same_9, hl]
    refine loopK (fun i : Nat => ⟨[(0, .ro 1 (a.map I)), (1, .ro 1 (b.map I)), (5, I i)], [], []⟩) (fun i => a.length - i) (fun i => i ≤ a.length ∧ a.take i = b.take i) 0 (Wk.list rfl (by simp) (by simp)) (by simp) ?_
    rintro i ⟨hi, hj⟩ K hN hR hE
    simp [r_s_l1Same_4, l_s_l1Same_8]
    refine ⟨fun hlt => ?_, fun hge => ?_⟩
    · have hlb : i < b.length := by omega
      simp [r_s_l1Same_5, p_s_l1Same_5, hlt, hlb]
      refine ⟨oEnd_of (by first | kernel_rfl | simp) (by first | kernel_rfl | simp), fun hne => ?_, fun he => ?_⟩
      · simp [r_s_l1Same_6]
        refine hR _ ?_
        simp
        rintro rfl
        exact hne rfl
      · simp [r_s_l1Same_7]
        rw [wrap64 (by omega) (by omega)]
        refine hN (i + 1) _ (by omega) ⟨by omega, ?_⟩ (Wk.list rfl (by simp) (by simp))
        rw [take_succ' hlt, take_succ' hlb, hj, he]
    · refine hE _ _ ?_
      rw [List.take_of_length_le (by omega), List.take_of_length_le (by omega)] at hj
      simp [hj]
  · simp [c_s_l1Same, r_s_l1Same_0, r_s_l1Same_1, r_s_l1Same_2, hl]
    refine ⟨fun _ e => hl (by rw [e]), fun e => absurd (by omega) hl⟩
theorem slices_Equal_int_int (a b : List Int) : PCall Tryz.prog n_slices_Equal_int_int [.ro 1 (a.map I), .ro 1 (b.map I)] (B (decide (a = b))) := by
  refine PCall.ofL fn_slices_Equal_int_int (by simp) fun hl => ?_
  simp at hl
  by_cases hl : a.length = b.length
  · simp [c_slices_Equal_int_int, r_slices_Equal_int_int_0, r_slices_Equal_int_int_1, r_slices_Equal_int_int_2, r_slices_Equal_int_int_3, r_slices_Equal_int_int_10, hl]
    refine loopK (fun i : Nat => ⟨[(0, .ro 1 (a.map I)), (1, .ro 1 (b.map I)), (12, I b.length), (13, I i)], [], []⟩) (fun i => a.length - i) (fun i => i ≤ a.length ∧ a.take i = b.take i) 0 (Wk.list rfl (by simp) (by simp)) (by simp) ?_
    rintro i ⟨hi, hj⟩ K hN hR hE
    simp [r_slices_Equal_int_int_4, l_slices_Equal_int_int_9]
    refine ⟨fun hlt => ?_, fun hge => ?_⟩
    · have hla : i < a.length := by omega
      simp [r_slices_Equal_int_int_5, r_slices_Equal_int_int_6, p_slices_Equal_int_int_6, hlt, hla]
      refine ⟨oEnd_of (by first | kernel_rfl | simp) (by first | kernel_rfl | simp), fun hne => ?_, fun he => ?_⟩
      · simp [r_slices_Equal_int_int_7]
        refine hR _ ?_
        simp
        rintro rfl
        exact hne rfl
      · simp [r_slices_Equal_int_int_8]
        rw [wrap64 (by omega) (by omega)]
        refine hN (i + 1) _ (by omega) ⟨by omega, ?_⟩ (Wk.list rfl (by simp) (by simp))
        rw [take_succ' hla, take_succ' hlt, hj, he]
    · refine hE _ _ ?_
      rw [List.take_of_length_le (by omega), List.take_of_length_le (by omega)] at hj
      simp [hj]
  · simp [c_slices_Equal_int_int, r_slices_Equal_int_int_0, r_slices_Equal_int_int_1, r_slices_Equal_int_int_2, hl]
    refine ⟨fun _ e => hl (by rw [e]), fun e => absurd (by omega) hl⟩

theorem i_FieldDifferences (a b : Field) (ha : fieldOk a = true) (hb : fieldOk b = true) : PCall Tryz.prog n_i_FieldDifferences [eField a, eField b] (.tup [I (fieldDiff a b), B true]) := by
  have h1 := bit_bounds (a.division != b.division)
  have h2 := bit_bounds (a.line != b.line)
  have h3 := bit_bounds (!decide (tincts a = tincts b))
  refine PCall.of fn_i_FieldDifferences (by simp) ?_
  simp [c_i_FieldDifferences, r_i_FieldDifferences_0, r_i_FieldDifferences_1]
  refine callQ_v (PCall.arg (i_IsValidField a) (by simp)) ?_
  simp [ha]
  refine callQ_v (PCall.arg (i_IsValidField b) (by simp)) ?_
  simp [hb]
  simp [r_i_FieldDifferences_3, p_i_FieldDifferences_3]
  refine callD_v (i_number (a.division != b.division)) ?_ ?_ ?_
  · simp
  · simp
  simp
  refine callD_v (i_number (a.line != b.line)) ?_ ?_ ?_
  · simp
  · simp
  simp
  refine callD_of (PCall.arg (i_Field_tinctures a) (by simp)) rfl (.inl (by simp)) ?_ ?_ ?_
  · simp
  · simp
  simp
  refine callD_of (PCall.arg (i_Field_tinctures b) (by simp)) rfl (.inl (by simp)) ?_ ?_ ?_
  · simp
  · simp
  simp
  refine callD_v (PCall.arg (slices_Equal_int_int (tincts a) (tincts b)) (by simp [List.take_of_length_le])) ?_ ?_ ?_
  · simp
  · simp
  simp
  refine callD_v (i_number (!decide (tincts a = tincts b))) ?_ ?_ ?_
  · simp
  · simp
  simp
  rw [wrap64 (n := bit (a.division != b.division) + bit (a.line != b.line)) (by omega) (by omega), wrap64 (by omega) (by omega)]
  exact ⟨oEnd_of (by simp [p_i_FieldDifferences_3]) (by simp), rfl⟩
theorem s_l3Differences (a b : Field) : PCall Tryz.prog n_s_l3Differences [eField a, eField b] (I (fieldDiff a b)) := by
  refine PCall.of fn_s_l3Differences (by simp) ?_
  unfold fieldDiff
  by_cases h1 : a.division = b.division <;> by_cases h2 : a.line = b.line
  all_goals
    simp [c_s_l3Differences, r_s_l3Differences_0, r_s_l3Differences_1, r_s_l3Differences_2, h1]
    simp [r_s_l3Differences_3, r_s_l3Differences_4, h1, h2]
    simp [r_s_l3Differences_5, r_s_l3Differences_6, p_s_l3Differences_6, h1, h2]
    try rw [show IntKind.i64.wrap 1 = 1 from rfl]
    try rw [show IntKind.i64.wrap (1 + 1) = 2 from rfl]
    refine callD_of (PCall.arg (s_l3Tinctures a) (by simp)) rfl (.inl (by simp)) ?_ ?_ ?_
    · simp
    · simp
    simp
    refine callD_of (PCall.arg (s_l3Tinctures b) (by simp)) rfl (.inl (by simp)) ?_ ?_ ?_
    · simp
    · simp
    simp
    refine callD_v (PCall.arg (s_l1Same (tincts a) (tincts b)) (by simp [List.take_of_length_le])) ?_ ?_ ?_
    · simp
    · simp
    simp
    refine ⟨oEnd_of (by simp [p_s_l3Differences_6]) (by simp), ?_⟩
    by_cases h3 : tincts a = tincts b
    · simp [r_s_l3Differences_8, h1, h2, h3, bit]
    · simp [r_s_l3Differences_7, h3]
      rw [wrap64 (by omega) (by omega)]
      simp [r_s_l3Differences_8, h1, h2, h3, bit]

theorem geq_iff {a b : Group} : geq a b = true ↔ a = b := by
  cases a; cases b; simp [geq]
theorem geq_ne {a b : Group} (h : geq a b = false) : ¬ a = b := fun e => by rw [geq_iff.2 e] at h; cases h
theorem i_groupDifferences (a b : Group) : PCall Tryz.prog n_i_groupDifferences [eGroup a, eGroup b] (I (groupDiff a b)) := by
  have h1 := bit_bounds (a.count != b.count)
  have h2 := bit_bounds (a.tincture != b.tincture)
  have h3 := bit_bounds (a.attitude != b.attitude)
  refine PCall.of fn_i_groupDifferences (by simp) ?_
  unfold groupDiff
  cases h : geq a b with
  | true =>
    have e := geq_iff.1 h
    subst e
    simp [c_i_groupDifferences, r_i_groupDifferences_0, r_i_groupDifferences_1, r_i_groupDifferences_2]
  | false =>
  have e : (a.count == b.count && (a.kind == b.kind && (a.attitude == b.attitude && a.tincture == b.tincture))) = false := h
  simp [c_i_groupDifferences, r_i_groupDifferences_0, r_i_groupDifferences_1, e]
  have z : ∀ g : Group, g0 g = true → g.count = 0 ∧ g.kind = 0 ∧ g.attitude = 0 ∧ g.tincture = 0 := fun g hg => by
    simpa [g0] using hg
  cases hA : g0 a with
  | true =>
    obtain ⟨e1, e2, e3, e4⟩ := z a hA
    simp [r_i_groupDifferences_3, r_i_groupDifferences_4, e1, e2, e3, e4]
  | false =>
  have eA : (a.count == 0 && (a.kind == 0 && (a.attitude == 0 && a.tincture == 0))) = false := hA
  cases hB : g0 b with
  | true =>
    obtain ⟨e1, e2, e3, e4⟩ := z b hB
    simp [r_i_groupDifferences_3, r_i_groupDifferences_4, e1, e2, e3, e4, eA]
  | false =>
  have eB : (b.count == 0 && (b.kind == 0 && (b.attitude == 0 && b.tincture == 0))) = false := hB
  simp [r_i_groupDifferences_3, eA, eB]
  simp [r_i_groupDifferences_5, p_i_groupDifferences_5]
  refine callD_v (i_number (a.count != b.count)) ?_ ?_ ?_
  · simp
  · simp
  simp
  refine callD_v (i_number (a.tincture != b.tincture)) ?_ ?_ ?_
  · simp
  · simp
  simp
  rw [wrap64 (by omega) (by omega)]
  refine ⟨oEnd_of (by simp [p_i_groupDifferences_5]) (by simp), ?_⟩
  simp [r_i_groupDifferences_6]
  by_cases hk : a.kind = b.kind
  · rw [if_pos hk]
    simp [r_i_groupDifferences_8, hk]
    refine callQ_v (i_number (a.attitude != b.attitude)) ?_
    simp
    exact wrap64 (by omega) (by omega)
  · rw [if_neg hk]
    simp [r_i_groupDifferences_7, hk]
    exact wrap64 (by omega) (by omega)
theorem s_l4Differences (a b : Group) : PCall Tryz.prog n_s_l4Differences [eGroup a, eGroup b] (I (groupDiff a b)) := by
  have z : ∀ g : Group, g0 g = true → g.count = 0 ∧ g.kind = 0 ∧ g.attitude = 0 ∧ g.tincture = 0 := fun g hg => by
    simpa [g0] using hg
  refine PCall.of fn_s_l4Differences (by simp) ?_
  simp [c_s_l4Differences, r_s_l4Differences_0, r_s_l4Differences_1, p_s_l4Differences_1]
  refine callD_v (PCall.arg (s_l4None a) (by simp)) ?_ ?_ ?_
  · simp
  · simp
  simp
  refine callD_v (PCall.arg (s_l4None b) (by simp)) ?_ ?_ ?_
  · simp
  · simp
  simp
  refine ⟨oEnd_of (by simp [p_s_l4Differences_1]) (by simp), fun hne => ?_, fun he => ?_⟩
  · have h1 : geq a b = false := by
      cases h : geq a b with
      | false => rfl
      | true => exact absurd (by rw [geq_iff.1 h]) hne
    have h2 : (g0 a || g0 b) = true := by cases hA : g0 a <;> cases hB : g0 b <;> simp_all
    simp [r_s_l4Differences_2, groupDiff, h1, h2]
  simp [r_s_l4Differences_3]
  have goal : groupDiff a b = bit (a.count != b.count) + (if a.kind = b.kind then bit (a.attitude != b.attitude) else 2) + bit (a.tincture != b.tincture) := by
    unfold groupDiff
    cases h : geq a b with
    | true =>
      have := geq_iff.1 h
      subst this
      simp [bit]
    | false =>
      cases hA : g0 a with
      | true =>
        rw [hA] at he
        obtain ⟨e1, e2, e3, e4⟩ := z a hA
        obtain ⟨f1, f2, f3, f4⟩ := z b he.symm
        exact absurd (show geq a b = true by simp [geq, e1, e2, e3, e4, f1, f2, f3, f4]) (by rw [h]; simp)
      | false =>
        rw [hA] at he
        simp [← he]
        omega
  obtain ⟨r, hr⟩ : ∃ r, groupDiff a b = r := ⟨_, rfl⟩
  rw [hr]
  by_cases h1 : a.count = b.count <;> by_cases h2 : a.kind = b.kind <;> by_cases h3 : a.attitude = b.attitude <;> by_cases h4 : a.tincture = b.tincture
  all_goals
    simp [r_s_l4Differences_4, r_s_l4Differences_5, r_s_l4Differences_6, r_s_l4Differences_7, r_s_l4Differences_8, r_s_l4Differences_9, h1, h2, h3]
    simp [r_s_l4Differences_10, r_s_l4Differences_11, r_s_l4Differences_12, h4]
    rw [← hr, goal]
    simp only [h1, h2, h3, h4, bit, if_true, if_false, bne_self_eq_false, bne_iff_ne, ne_eq, not_true, not_false_eq_true, Bool.false_eq_true]
    first | rfl | decide

theorem i_differences (a b : Arms) (ha : fieldOk a.field = true) (hb : fieldOk b.field = true) : PCall Tryz.prog n_i_differences [eArms a, eArms b] (I (diffs a b)) := by
  have h1 := fieldDiff_bounds a.field b.field
  have h2 := groupDiff_bounds a.on b.on
  have h3 := groupDiff_bounds a.around b.around
  have h4 := bit_bounds (a.line != b.line)
  have h5 := bit_bounds (a.tincture != b.tincture)
  refine PCall.of fn_i_differences (by simp) ?_
  unfold diffs
  simp [c_i_differences, r_i_differences_0, r_i_differences_1]
  refine callQ_of (PCall.arg (i_FieldDifferences a.field b.field ha hb) (by simp)) rfl (.inl (by simp)) (by simp) ?_
  simp [r_i_differences_2, p_i_differences_2]
  refine callD_v (PCall.arg (i_groupDifferences a.on b.on) (by simp)) ?_ ?_ ?_
  · simp
  · simp
  simp
  refine callD_v (PCall.arg (i_groupDifferences a.around b.around) (by simp)) ?_ ?_ ?_
  · simp
  · simp
  simp
  rw [wrap64 (n := groupDiff a.on b.on + groupDiff a.around b.around) (by omega) (by omega), wrap64 (by omega) (by omega)]
  refine ⟨oEnd_of (by simp [p_i_differences_2]) (by simp), ?_⟩
  by_cases ho : a.ordinary = b.ordinary
  · simp [r_i_differences_3, r_i_differences_5, p_i_differences_5, ho]
    refine callD_v (i_number (a.line != b.line)) ?_ ?_ ?_
    · simp
    · simp
    simp
    refine callD_v (i_number (a.tincture != b.tincture)) ?_ ?_ ?_
    · simp
    · simp
    simp
    rw [wrap64 (n := _ + bit (a.line != b.line)) (by omega) (by omega), wrap64 (by omega) (by omega)]
    refine ⟨oEnd_of (by simp [p_i_differences_5]) (by simp), ?_⟩
    omega
  · simp [r_i_differences_3, r_i_differences_4, ho]
    exact wrap64 (by omega) (by omega)
theorem i_conflict (a b : Arms) (ha : fieldOk a.field = true) (hb : fieldOk b.field = true) : PCall Tryz.prog n_i_conflict [eArms a, eArms b] (B (decide (diffs a b < 2))) := by
  refine PCall.of fn_i_conflict (by simp) ?_
  simp [c_i_conflict, r_i_conflict_0, r_i_conflict_1]
  refine callQ_v (PCall.arg (i_differences a b ha hb) (by simp)) ?_
  simp
theorem s_l15Count (a b : Arms) : PCall Tryz.prog n_s_l15Count [eArms a, eArms b] (I (diffs a b)) := by
  have h1 := fieldDiff_bounds a.field b.field
  have h2 := groupDiff_bounds a.on b.on
  have h3 := groupDiff_bounds a.around b.around
  refine PCall.of fn_s_l15Count (by simp) ?_
  unfold diffs
  simp [c_s_l15Count, r_s_l15Count_0, r_s_l15Count_1, p_s_l15Count_1]
  refine callD_v (PCall.arg (s_l3Differences a.field b.field) (by simp)) ?_ ?_ ?_
  · simp
  · simp
  simp
  refine callD_v (PCall.arg (s_l4Differences a.on b.on) (by simp)) ?_ ?_ ?_
  · simp
  · simp
  simp
  refine callD_v (PCall.arg (s_l4Differences a.around b.around) (by simp)) ?_ ?_ ?_
  · simp
  · simp
  simp
  rw [wrap64 (n := fieldDiff a.field b.field + groupDiff a.on b.on) (by omega) (by omega), wrap64 (by omega) (by omega)]
  refine ⟨oEnd_of (by simp [p_s_l15Count_1]) (by simp), ?_⟩
  by_cases ho : a.ordinary = b.ordinary
  rotate_left
  · simp [r_s_l15Count_2, r_s_l15Count_3, ho]
    rw [wrap64 (by omega) (by omega)]
    omega
  simp [r_s_l15Count_2, ho]
  by_cases hl : a.line = b.line <;> by_cases ht : a.tincture = b.tincture
  all_goals
    simp [r_s_l15Count_4, r_s_l15Count_5, r_s_l15Count_6, r_s_l15Count_7, r_s_l15Count_8, hl, ht, bit]
    try omega
  · rw [wrap64 (by omega) (by omega)]; omega
  · rw [wrap64 (by omega) (by omega)]; omega
  · rw [wrap64 (n := fieldDiff a.field b.field + groupDiff a.on b.on + groupDiff a.around b.around + 1) (by omega) (by omega), wrap64 (by omega) (by omega)]; omega
theorem s_l15Conflict (a b : Arms) : PCall Tryz.prog n_s_l15Conflict [eArms a, eArms b] (B (decide (diffs a b < 2))) := by
  refine PCall.of fn_s_l15Conflict (by simp) ?_
  simp [c_s_l15Conflict, r_s_l15Conflict_0, r_s_l15Conflict_1]
  refine callQ_v (PCall.arg (s_l15Count a b) (by simp)) ?_
  simp
end Go.Proofs.YtbeoijlggphklaaGreat
