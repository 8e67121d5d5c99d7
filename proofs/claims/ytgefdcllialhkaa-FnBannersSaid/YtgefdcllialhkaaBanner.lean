/- The test of a banner, in the program and in the reference. -/
import Derived.Test.YtgefdcllialhkaaCodeBanner
import Derived.Test.YtgefdcllialhkaaLib
set_option linter.unusedVariables false
set_option linter.unusedSimpArgs false
namespace Go.Proofs.Ytgefdcllialhkaa
open Go.Abs

theorem s_l2Good (x : Int) : PCall Try.prog n_s_l2Good [I x] (B (inR x 1 9)) := by
  refine PCall.of fn_s_l2Good (by simp) ?_
  simp [c_s_l2Good, r_s_l2Good_0, r_s_l2Good_1]
  exact callQ_v (s_l1In ..) (by simp)
theorem i_IsTincture (x : Int) : PCall Try.prog n_i_IsTincture [I x] (B (inR x 1 9)) := by
  refine PCall.of fn_i_IsTincture (by simp) ?_
  simp [c_i_IsTincture, r_i_IsTincture_0, r_i_IsTincture_1]
  exact callQ_v (i_inside ..) (by simp)
theorem i_isSide (x : Int) : PCall Try.prog n_i_isSide [I x] (B (inR x 1 60)) := by
  refine PCall.of fn_i_isSide (by simp) ?_
  simp [c_i_isSide, r_i_isSide_0, r_i_isSide_1]
  exact callQ_v (i_inside ..) (by simp)
theorem i_IsValidBanner_1 (x : Int) : PCall Try.prog n_i_IsValidBanner_1 [I x] (B (!inR x 1 9)) := by
  refine PCall.of fn_i_IsValidBanner_1 (by simp) ?_
  simp [c_i_IsValidBanner_1, r_i_IsValidBanner_1_0, r_i_IsValidBanner_1_1]
  exact callQ_v (i_IsTincture ..) (by simp)

/-- A valid row of a banner whose rows have n cells. -/
def rowOk (n : Nat) (r : List Int) : Bool := decide (r.length = n) && r.all fun x => inR x 1 9
/-- How many columns a banner has. -/
def wide (b : List (List Int)) : Nat := (b.headD []).length
theorem wide_get {b : List (List Int)} (h : 0 < b.length) : wide b = b[0].length := by
  cases b with
  | nil => simp at h
  | cons x b => rfl
/-- A valid banner. -/
def banner (b : List (List Int)) : Bool := inR b.length 1 60 && inR (wide b) 1 60 && b.all (rowOk (wide b))

theorem s_l24Good (b : List (List Int)) : PCall Try.prog n_s_l24Good [.ro 1 (b.map roI)] (B (banner b)) := by
  refine PCall.ofL fn_s_l24Good (by simp) fun hl => ?_
  simp at hl
  obtain ⟨hl, hls⟩ := hl
  simp [c_s_l24Good, r_s_l24Good_0, r_s_l24Good_1]
  refine callQ_v (s_l1In ..) ?_
  simp
  refine ⟨fun a => ?_, fun a => ?_⟩
  · simp [r_s_l24Good_2, banner, a]
  have a' := inR_iff.1 a
  have h0 : 0 < b.length := by omega
  simp [r_s_l24Good_3, r_s_l24Good_15]
  refine loopK (fun i : Nat => ⟨[(0, .ro 1 (b.map roI)), (3, I i)], [], []⟩) (fun i => b.length - i) (fun i => i ≤ b.length ∧ (0 < i → inR (wide b) 1 60 = true) ∧ (b.take i).all (rowOk (wide b)) = true) 0 (Wk.list rfl (by simp) (by simp)) (by simp) ?_
  rintro i ⟨hi, hh, hj⟩ K hN hR hE
  have hw := wide_get h0
  simp [r_s_l24Good_4, l_s_l24Good_14]
  refine ⟨fun hlt => ?_, fun hge => ?_⟩
  · have hil : b[i].length ≤ 9223372036854775807 := by
      have := lenPs_map hls (List.getElem_mem hlt)
      simpa using this
    simp [r_s_l24Good_5, p_s_l24Good_5, hlt]
    refine callD_v (s_l1In ..) ?_ ?_ ?_
    · simp
    · simp
    simp [h0, hlt, ← hw]
    refine ⟨fun c => ⟨oEnd_of (by first | kernel_rfl | simp) (by first | kernel_rfl | simp), fun d => ?_, fun d => ?_⟩, fun c => ⟨oEnd_of (by first | kernel_rfl | simp) (by first | kernel_rfl | simp), ?_⟩⟩
    · simp [r_s_l24Good_6]
      refine hR _ ?_
      simp
      have d' : ¬ b[i].length = wide b := by omega
      have : rowOk (wide b) b[i] = false := by simp [rowOk, d']
      simp [banner, all_false hlt this]
    · simp [r_s_l24Good_7, l_s_l24Good_12]
      refine loopK (fun k : Nat => ⟨[(0, .ro 1 (b.map roI)), (3, I i), (4, I k)], [], []⟩) (fun k => b[i].length - k) (fun k => k ≤ b[i].length ∧ (b[i].take k).all (fun x => inR x 1 9) = true) 0 (Wk.list rfl (by simp) (by simp)) (by simp) ?_
      rintro k ⟨hk, hkj⟩ K' hN' hR' hE'
      simp [r_s_l24Good_8, hlt]
      refine ⟨fun hklt => ?_, fun hkge => ?_⟩
      · simp [r_s_l24Good_9, hlt, hklt]
        refine callQ_v (s_l2Good ..) ?_
        simp
        refine ⟨fun e => ?_, fun e => ?_⟩
        · simp [r_s_l24Good_10]
          refine hR' _ ?_
          simp
          refine hR _ ?_
          simp
          have : rowOk (wide b) b[i] = false := by simp only [rowOk, all_false (p := fun x => inR x 1 9) hklt e, Bool.and_false]
          simp [banner, all_false hlt this]
        · simp [r_s_l24Good_11]
          rw [wrap64 (by omega) (by omega)]
          refine hN' (k + 1) _ (by omega) ⟨by omega, ?_⟩ (Wk.list rfl (by simp) (by simp))
          rw [all_take_succ hklt, hkj, e]; rfl
      · refine hE' _ _ ?_
        simp [r_s_l24Good_13]
        rw [wrap64 (by omega) (by omega)]
        refine hN (i + 1) _ (by omega) ⟨by omega, fun _ => by rw [← d]; exact c, ?_⟩ (Wk.list rfl (by simp) (by simp))
        rw [all_take_succ hlt, hj]
        rw [List.take_of_length_le (by omega)] at hkj
        have d' : b[i].length = wide b := by omega
        simp only [rowOk, hkj, d', decide_true, Bool.and_self]
    · simp [r_s_l24Good_6]
      refine hR _ ?_
      simp
      have : banner b = false := by
        rw [← Bool.not_eq_true]
        intro hb
        simp only [banner, Bool.and_eq_true, List.all_eq_true] at hb
        have h3 := hb.2 _ (List.getElem_mem hlt)
        simp only [rowOk, Bool.and_eq_true, decide_eq_true_iff] at h3
        rw [h3.1, hb.1.2] at c
        cases c
      exact this
  · refine hE _ _ ?_
    rw [List.take_of_length_le (by omega)] at hj
    have := hh (by omega)
    simp only [blockK_exit]
    simp [banner, a, this]
    simpa using hj

theorem i_IsValidBanner (b : List (List Int)) : PCall Try.prog n_i_IsValidBanner [.ro 1 (b.map roI)] (B (banner b)) := by
  refine PCall.ofL fn_i_IsValidBanner (by simp) fun hl => ?_
  simp at hl
  obtain ⟨hl, hls⟩ := hl
  simp [c_i_IsValidBanner, r_i_IsValidBanner_0, r_i_IsValidBanner_1]
  refine callQ_v (i_isSide ..) ?_
  simp
  refine ⟨fun a => ?_, fun a => ?_⟩
  · have a' := inR_iff.1 a
    have h0 : 0 < b.length := by omega
    have hw := wide_get h0
    refine ⟨h0, ?_⟩
    simp [h0, ← hw]
    refine callQ_v (i_isSide ..) ?_
    simp
    refine ⟨fun c => ?_, fun c => ?_⟩
    · simp [r_i_IsValidBanner_2, banner, a, c]
    simp [r_i_IsValidBanner_3, r_i_IsValidBanner_10]
    refine loopK (fun i : Nat => ⟨[(0, .ro 1 (b.map roI)), (17, .ro 1 (b.map roI)), (18, I b.length), (19, I i)], [], []⟩) (fun i => b.length - i) (fun i => i ≤ b.length ∧ (b.take i).all (rowOk (wide b)) = true) 0 (Wk.list rfl (by simp) (by simp)) (by simp) ?_
    rintro i ⟨hi, hj⟩ K hN hR hE
    simp [r_i_IsValidBanner_4, l_i_IsValidBanner_9]
    refine ⟨fun hlt => ?_, fun hge => ?_⟩
    · simp [r_i_IsValidBanner_5, hlt]
      simp [r_i_IsValidBanner_6, h0, ← hw]
      refine ⟨fun d => ?_, fun d => ?_⟩
      · refine callQ_v (PCall.arg (slices_ContainsFunc_int_int b[i] (fun x => !inR x 1 9) n_i_IsValidBanner_1 [] (by simp) (by simp) (fun x _ => i_IsValidBanner_1 x)) (by simp)) ?_
        generalize hq : (b[i].any fun x => !inR x 1 9) = q
        simp
        have d' : b[i].length = wide b := by omega
        refine ⟨fun e => ?_, fun e => ?_⟩
        · subst e
          have : rowOk (wide b) b[i] = false := by
            rw [List.any_eq_true] at hq
            obtain ⟨x, hx, hx'⟩ := hq
            obtain ⟨j, hj', rfl⟩ := List.getElem_of_mem hx
            simp only [rowOk, all_false (p := fun x => inR x 1 9) hj' (by simpa using hx'), Bool.and_false]
          simp [r_i_IsValidBanner_7]
          refine hR _ ?_
          simp [banner, all_false hlt this]
        · subst e
          have : (b[i].all fun x => inR x 1 9) = true := by
            rw [List.any_eq_false] at hq
            rw [List.all_eq_true]
            intro x hx
            simpa using hq x hx
          simp [r_i_IsValidBanner_8]
          rw [wrap64 (by omega) (by omega)]
          refine hN (i + 1) _ (by omega) ⟨by omega, ?_⟩ (Wk.list rfl (by simp) (by simp))
          rw [all_take_succ hlt, hj]
          simp only [rowOk, this, d', decide_true, Bool.and_self]
      · simp [r_i_IsValidBanner_7]
        refine hR _ ?_
        have d' : ¬ b[i].length = wide b := by omega
        have : rowOk (wide b) b[i] = false := by simp [rowOk, d']
        simp [banner, all_false hlt this]
    · refine hE _ _ ?_
      rw [List.take_of_length_le (by omega)] at hj
      simp [banner, a, c, hj]
  · simp [r_i_IsValidBanner_2, banner, a]
end Go.Proofs.Ytgefdcllialhkaa
