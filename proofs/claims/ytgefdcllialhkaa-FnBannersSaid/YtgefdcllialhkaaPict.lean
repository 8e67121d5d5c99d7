/- Pictures: the shield, the test; in the program and in the reference. -/
import Derived.Test.YtgefdcllialhkaaCodePict
import Derived.Test.YtgefdcllialhkaaBanner
set_option linter.unusedVariables false
set_option linter.unusedSimpArgs false
namespace Go.Proofs.Ytgefdcllialhkaa
open Go.Abs

theorem sq_le {a m : Int} (h1 : -m ≤ a) (h2 : a ≤ m) : 0 ≤ a * a ∧ a * a ≤ m * m := by
  rcases Int.le_total 0 a with h | h
  · exact ⟨Int.mul_nonneg h h, Int.mul_le_mul h2 h2 h (by omega)⟩
  · have h3 := Int.mul_le_mul (a := -a) (b := -a) (c := m) (d := m) (by omega) (by omega) (by omega) (by omega)
    have h0 := Int.mul_nonneg (a := -a) (b := -a) (by omega) (by omega)
    rw [Int.neg_mul_neg] at h3 h0
    exact ⟨h0, h3⟩

/-- Does the cell lie in the shield? -/
def shield (x y : Int) : Bool := inR x 0 19 && inR y 0 23 && (decide (y < 12) || decide (576 * (2 * x - 19) * (2 * x - 19) + 400 * (2 * y - 23) * (2 * y - 23) ≤ 230400))

theorem shield_bounds {x y : Int} (h1 : inR x 0 19 = true) (h2 : inR y 0 23 = true) :
    (-19 ≤ 2 * x - 19 ∧ 2 * x - 19 ≤ 19) ∧ (-23 ≤ 2 * y - 23 ∧ 2 * y - 23 ≤ 23) ∧ (0 ≤ 576 * (2 * x - 19) * (2 * x - 19) ∧ 576 * (2 * x - 19) * (2 * x - 19) ≤ 1000000) ∧ (0 ≤ 400 * (2 * y - 23) * (2 * y - 23) ∧ 400 * (2 * y - 23) * (2 * y - 23) ≤ 1000000) := by
  have h1 := inR_iff.1 h1
  have h2 := inR_iff.1 h2
  have a1 := sq_le (a := 2 * x - 19) (m := 19) (by omega) (by omega)
  have a2 := sq_le (a := 2 * y - 23) (m := 23) (by omega) (by omega)
  rw [Int.mul_assoc, Int.mul_assoc]
  omega

theorem s_l9In (x y : Int) : PCall Try.prog n_s_l9In [I x, I y] (B (shield x y)) := by
  refine PCall.of fn_s_l9In (by simp) ?_
  simp [c_s_l9In, r_s_l9In_0, r_s_l9In_1]
  refine callQ_v (s_l1In ..) ?_
  cases h1 : inR x 0 19 with
  | false => simp [r_s_l9In_2, shield, h1]
  | true =>
  simp
  refine callQ_v (s_l1In ..) ?_
  cases h2 : inR y 0 23 with
  | false => simp [r_s_l9In_2, shield, h2]
  | true =>
  have hb := shield_bounds h1 h2
  have h1' := inR_iff.1 h1
  have h2' := inR_iff.1 h2
  simp [r_s_l9In_3]
  rw [wrap64 (n := 2 * x) (by omega) (by omega), wrap64 (n := 2 * x - 19) (by omega) (by omega), wrap64 (n := 2 * y) (by omega) (by omega), wrap64 (n := 2 * y - 23) (by omega) (by omega)]
  by_cases h3 : y < 12
  · simp [r_s_l9In_4, h3, shield, h1, h2]
  · simp [r_s_l9In_4, h3]
    rw [wrap64 (n := 576 * (2 * x - 19)) (by omega) (by omega), wrap64 (n := 576 * (2 * x - 19) * (2 * x - 19)) (by omega) (by omega), wrap64 (n := 400 * (2 * y - 23)) (by omega) (by omega), wrap64 (n := 400 * (2 * y - 23) * (2 * y - 23)) (by omega) (by omega), wrap64 (by omega) (by omega)]
    simp [shield, h1, h2, h3]

theorem i_InShield (x y : Int) : PCall Try.prog n_i_InShield [I x, I y] (B (shield x y)) := by
  refine PCall.of fn_i_InShield (by simp) ?_
  simp [c_i_InShield, r_i_InShield_0, r_i_InShield_1]
  refine callQ_v (i_inside ..) ?_
  cases h1 : inR x 0 19 with
  | false => simp [shield, h1]
  | true =>
  simp
  refine callQ_v (i_inside ..) ?_
  cases h2 : inR y 0 23 with
  | false => simp [shield, h2]
  | true =>
  have hb := shield_bounds h1 h2
  have h1' := inR_iff.1 h1
  have h2' := inR_iff.1 h2
  by_cases h3 : y < 12
  · simp [h3, shield, h1, h2]
  · simp [h3]
    rw [wrap64 (n := 2 * x) (by omega) (by omega), wrap64 (n := 2 * x - 19) (by omega) (by omega), wrap64 (n := 2 * y) (by omega) (by omega), wrap64 (n := 2 * y - 23) (by omega) (by omega)]
    rw [wrap64 (n := 576 * (2 * x - 19)) (by omega) (by omega), wrap64 (n := 576 * (2 * x - 19) * (2 * x - 19)) (by omega) (by omega), wrap64 (n := 400 * (2 * y - 23)) (by omega) (by omega), wrap64 (n := 400 * (2 * y - 23) * (2 * y - 23)) (by omega) (by omega), wrap64 (by omega) (by omega)]
    simp [shield, h1, h2, h3]

/-- A cell of a picture: a tincture in the shield, 0 outside. -/
def cellOk (x y v : Int) : Bool := (shield x y == inR v 1 9) && (shield x y || decide (v = 0))
def rowPic (y : Nat) (r : List Int) : Bool := decide (r.length = 20) && (List.range 20).all fun x => cellOk x y (r.getD x 0)
/-- A valid picture. -/
def picture (p : List (List Int)) : Bool := decide (p.length = 24) && (List.range 24).all fun y => rowPic y (p.getD y [])
theorem picture_dims {p : List (List Int)} (h : picture p = true) : p.length = 24 ∧ ∀ (i : Nat) (hi : i < p.length), p[i].length = 20 := by
  simp only [picture, Bool.and_eq_true, decide_eq_true_iff, List.all_eq_true, rowPic, List.mem_range] at h
  refine ⟨h.1, fun i hi => ?_⟩
  have := (h.2 i (by omega)).1
  simpa [hi] using this

theorem s_l13Good (p : List (List Int)) : PCall Try.prog n_s_l13Good [.ro 1 (p.map roI)] (B (picture p)) := by
  refine PCall.ofL fn_s_l13Good (by simp) fun hl => ?_
  simp at hl
  obtain ⟨hl, hls⟩ := hl
  simp [c_s_l13Good, r_s_l13Good_0, r_s_l13Good_1]
  by_cases h0 : p.length = 24
  rotate_left
  · have : ¬ ((p.length : Int) = 24) := by omega
    simp [r_s_l13Good_2, this, picture, h0]
  simp [r_s_l13Good_3, l_s_l13Good_14, h0]
  refine loopK (fun i : Nat => ⟨[(0, .ro 1 (p.map roI)), (3, I i)], [], []⟩) (fun i => 24 - i) (fun i => i ≤ 24 ∧ (List.range i).all (fun y => rowPic y (p.getD y [])) = true) 0 (Wk.list rfl (by simp) (by simp)) (by simp) ?_
  rintro i ⟨hi, hj⟩ K hN hR hE
  simp [r_s_l13Good_4]
  refine ⟨fun hlt => ?_, fun hge => ?_⟩
  · have hip : i < p.length := by omega
    have hlt' : i < 24 := by omega
    have hil : p[i].length ≤ 9223372036854775807 := by
      have := lenPs_map hls (List.getElem_mem hip)
      simpa using this
    have hg : p.getD i [] = p[i] := by simp [hip]
    have hbad : rowPic i p[i] = false → ∀ hp, K .ret ⟨[(2, B false)], hp, []⟩ := fun h hp => hR _ (by
      simp only [blockK_ret]
      have : (List.range 24).all (fun y => rowPic y (p.getD y [])) = false := allIx_false hlt' (by rw [hg]; exact h)
      have hp' : picture p = false := by simp only [picture, this, Bool.and_false]
      simp [hp'])
    simp [r_s_l13Good_5, hip]
    by_cases h1 : p[i].length = 20
    rotate_left
    · have : ¬ ((p[i].length : Int) = 20) := by omega
      simp [r_s_l13Good_6, this]
      exact hbad (by simp [rowPic, h1]) _
    simp [r_s_l13Good_7, l_s_l13Good_12, h1]
    refine loopK (fun k : Nat => ⟨[(0, .ro 1 (p.map roI)), (3, I i), (4, I k)], [], []⟩) (fun k => 20 - k) (fun k => k ≤ 20 ∧ (List.range k).all (fun x => cellOk x i (p[i].getD x 0)) = true) 0 (Wk.list rfl (by simp) (by simp)) (by simp) ?_
    rintro k ⟨hk, hkj⟩ K' hN' hR' hE'
    simp [r_s_l13Good_8]
    refine ⟨fun hklt => ?_, fun hkge => ?_⟩
    · have hkr : k < p[i].length := by omega
      have hklt' : k < 20 := by omega
      have hgk : p[i].getD k 0 = p[i][k] := by simp [hkr]
      have hbad' : cellOk k i p[i][k] = false → ∀ hp, K' .ret ⟨[(2, B false)], hp, []⟩ := fun h hp => hR' _ (by
        simp only [blockK_ret]
        refine hbad ?_ _
        have : (List.range 20).all (fun x => cellOk x i (p[i].getD x 0)) = false := allIx_false hklt' (by rw [hgk]; exact h)
        simp only [rowPic, this, Bool.and_false])
      have hok : cellOk k i p[i][k] = true → ∀ hp, K' .normal ⟨[(0, .ro 1 (p.map roI)), (3, I i), (4, I ((k : Int) + 1))], hp, []⟩ := fun h hp => by
        refine hN' (k + 1) _ (by omega) ⟨by omega, ?_⟩ (Wk.list rfl (by simp) (by simp))
        rw [allIx_succ, hkj, hgk, h]; rfl
      obtain ⟨v, hv⟩ : ∃ v, p[i][k] = v := ⟨_, rfl⟩
      rw [hv] at hbad' hok
      simp [r_s_l13Good_9, p_s_l13Good_9]
      refine callD_v (s_l9In k i) ?_ ?_ ?_
      · simp
      · simp
      simp [hip, hkr, hv]
      refine callD_v (s_l2Good v) ?_ ?_ ?_
      · simp
      · simp
      cases hs : shield k i with
      | true =>
        cases ht : inR v 1 9 with
        | true =>
          simp
          refine callD_v (s_l9In k i) ?_ ?_ ?_
          · simp
          · simp
          simp [hs]
          refine ⟨oEnd_of (by first | kernel_rfl | simp) (by first | kernel_rfl | simp), ?_⟩
          simp [r_s_l13Good_11]
          rw [wrap64 (by omega) (by omega)]
          exact hok (by simp [cellOk, hs, ht]) _
        | false =>
          simp
          refine ⟨oEnd_of (by first | kernel_rfl | simp) (by first | kernel_rfl | simp), ?_⟩
          simp [r_s_l13Good_10]
          exact hbad' (by simp [cellOk, hs, ht]) _
      | false =>
        cases ht : inR v 1 9 with
        | true =>
          simp
          refine ⟨oEnd_of (by first | kernel_rfl | simp) (by first | kernel_rfl | simp), ?_⟩
          simp [r_s_l13Good_10]
          exact hbad' (by simp [cellOk, hs, ht]) _
        | false =>
          simp
          refine callD_v (s_l9In k i) ?_ ?_ ?_
          · simp
          · simp
          simp [hs, hip, hkr, hv]
          refine ⟨oEnd_of (by first | kernel_rfl | simp) (by first | kernel_rfl | simp), fun h => ?_, fun h => ?_⟩
          · simp [r_s_l13Good_10]
            exact hbad' (by simp [cellOk, hs, ht, h]) _
          · simp [r_s_l13Good_11]
            rw [wrap64 (by omega) (by omega)]
            exact hok (by simp [cellOk, hs, ht]; exact h) _
    · refine hE' _ _ ?_
      simp [r_s_l13Good_13]
      rw [wrap64 (by omega) (by omega)]
      obtain rfl : k = 20 := by omega
      refine hN (i + 1) _ (by omega) ⟨by omega, ?_⟩ (Wk.list rfl (by simp) (by simp))
      rw [allIx_succ, hj, hg]
      simp only [rowPic, hkj, h1, decide_true, Bool.and_self]
  · refine hE _ _ ?_
    obtain rfl : i = 24 := by omega
    simp only [blockK_exit]
    have hp' : picture p = true := by simp only [picture, h0, hj, decide_true, Bool.and_self]
    simp [r_s_l13Good_15, hp']

theorem i_IsValidPicture (p : List (List Int)) : PCall Try.prog n_i_IsValidPicture [.ro 1 (p.map roI)] (B (picture p)) := by
  refine PCall.ofL fn_i_IsValidPicture (by simp) fun hl => ?_
  simp at hl
  obtain ⟨hl, hls⟩ := hl
  simp [c_i_IsValidPicture, r_i_IsValidPicture_0, r_i_IsValidPicture_1]
  by_cases h0 : p.length = 24
  rotate_left
  · have : ¬ ((p.length : Int) = 24) := by omega
    simp [r_i_IsValidPicture_2, this, picture, h0]
  simp [r_i_IsValidPicture_3, l_i_IsValidPicture_16, h0]
  refine loopK (fun i : Nat => ⟨[(10, .ro 1 (p.map roI)), (11, I 24), (12, I i)], [], []⟩) (fun i => 24 - i) (fun i => i ≤ 24 ∧ (List.range i).all (fun y => rowPic y (p.getD y [])) = true) 0 (Wk.list rfl (by simp) (by simp)) (by simp) ?_
  rintro i ⟨hi, hj⟩ K hN hR hE
  simp [r_i_IsValidPicture_4]
  refine ⟨fun hlt => ?_, fun hge => ?_⟩
  · have hip : i < p.length := by omega
    have hlt' : i < 24 := by omega
    have hil : p[i].length ≤ 9223372036854775807 := by
      have := lenPs_map hls (List.getElem_mem hip)
      simpa using this
    have hg : p.getD i [] = p[i] := by simp [hip]
    have hbad : rowPic i p[i] = false → ∀ hp, K .ret ⟨[(2, B false)], hp, []⟩ := fun h hp => hR _ (by
      simp only [blockK_ret]
      have : (List.range 24).all (fun y => rowPic y (p.getD y [])) = false := allIx_false hlt' (by rw [hg]; exact h)
      have hp' : picture p = false := by simp only [picture, this, Bool.and_false]
      simp [hp'])
    simp [r_i_IsValidPicture_5, r_i_IsValidPicture_6, hip]
    by_cases h1 : p[i].length = 20
    rotate_left
    · have : ¬ ((p[i].length : Int) = 20) := by omega
      simp [r_i_IsValidPicture_7, this]
      exact hbad (by simp [rowPic, h1]) _
    simp [r_i_IsValidPicture_8, l_i_IsValidPicture_14, h1]
    refine loopK (fun k : Nat => ⟨[(3, I i), (10, .ro 1 (p.map roI)), (11, I 24), (12, I i), (20, .ro 1 (ints p[i])), (21, I 20), (22, I k)], [], []⟩) (fun k => 20 - k) (fun k => k ≤ 20 ∧ (List.range k).all (fun x => cellOk x i (p[i].getD x 0)) = true) 0 (Wk.list rfl (by simp) (by simp)) (by simp) ?_
    rintro k ⟨hk, hkj⟩ K' hN' hR' hE'
    simp [r_i_IsValidPicture_9]
    refine ⟨fun hklt => ?_, fun hkge => ?_⟩
    · have hkr : k < p[i].length := by omega
      have hklt' : k < 20 := by omega
      have hgk : p[i].getD k 0 = p[i][k] := by simp [hkr]
      have hbad' : cellOk k i p[i][k] = false → ∀ hp, K' .ret ⟨[(2, B false)], hp, []⟩ := fun h hp => hR' _ (by
        simp only [blockK_ret]
        refine hbad ?_ _
        have : (List.range 20).all (fun x => cellOk x i (p[i].getD x 0)) = false := allIx_false hklt' (by rw [hgk]; exact h)
        simp only [rowPic, this, Bool.and_false])
      have hok : cellOk k i p[i][k] = true → ∀ hp, K' .normal ⟨[(3, I i), (10, .ro 1 (p.map roI)), (11, I 24), (12, I i), (20, .ro 1 (ints p[i])), (21, I 20), (22, I ((k : Int) + 1))], hp, []⟩ := fun h hp => by
        refine hN' (k + 1) _ (by omega) ⟨by omega, ?_⟩ (Wk.list rfl (by simp) (by simp))
        rw [allIx_succ, hkj, hgk, h]; rfl
      obtain ⟨v, hv⟩ : ∃ v, p[i][k] = v := ⟨_, rfl⟩
      rw [hv] at hbad' hok
      simp [r_i_IsValidPicture_10, r_i_IsValidPicture_11, hkr, hv]
      refine callQ_v (i_InShield k i) ?_
      simp
      refine callQ_v (i_IsTincture v) ?_
      cases hs : shield k i with
      | true =>
        cases ht : inR v 1 9 with
        | true =>
          simp
          refine callQ_v (i_InShield k i) ?_
          simp [hs]
          simp [r_i_IsValidPicture_13]
          rw [wrap64 (by omega) (by omega)]
          exact hok (by simp [cellOk, hs, ht]) _
        | false =>
          simp [r_i_IsValidPicture_12]
          exact hbad' (by simp [cellOk, hs, ht]) _
      | false =>
        cases ht : inR v 1 9 with
        | true =>
          simp [r_i_IsValidPicture_12]
          exact hbad' (by simp [cellOk, hs, ht]) _
        | false =>
          simp
          refine callQ_v (i_InShield k i) ?_
          simp [hs]
          refine ⟨fun h => ?_, fun h => ?_⟩
          · simp [r_i_IsValidPicture_12]
            exact hbad' (by simp [cellOk, hs, ht, h]) _
          · simp [r_i_IsValidPicture_13]
            rw [wrap64 (by omega) (by omega)]
            exact hok (by simp [cellOk, hs, ht]; exact h) _
    · refine hE' _ _ ?_
      simp [r_i_IsValidPicture_15]
      rw [wrap64 (by omega) (by omega)]
      obtain rfl : k = 20 := by omega
      refine hN (i + 1) _ (by omega) ⟨by omega, ?_⟩ (Wk.list rfl (by simp) (by simp))
      rw [allIx_succ, hj, hg]
      simp only [rowPic, hkj, h1, decide_true, Bool.and_self]
  · refine hE _ _ ?_
    obtain rfl : i = 24 := by omega
    simp only [blockK_exit]
    have hp' : picture p = true := by simp only [picture, h0, hj, decide_true, Bool.and_self]
    simp [r_i_IsValidPicture_17, hp']
end Go.Proofs.Ytgefdcllialhkaa
