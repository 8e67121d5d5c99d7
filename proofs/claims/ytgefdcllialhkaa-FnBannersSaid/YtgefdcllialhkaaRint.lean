/- Rows, and rows of rows, of whole numbers: are they the same? -/
import Derived.Test.YtgefdcllialhkaaCodeRint
import Derived.Test.YtgefdcllialhkaaBanner
set_option linter.unusedVariables false
set_option linter.unusedSimpArgs false
namespace Go.Proofs.Ytgefdcllialhkaa
open Go.Abs

theorem w_rInts (a b : List Int) : PCall Try.prog n_w_rInts [.ro 1 (ints a), .ro 1 (ints b)] (B (decide (a = b))) := by
  refine PCall.ofL fn_w_rInts (by simp) fun hl => ?_
  simp at hl
  by_cases hl : a.length = b.length
  · simp [c_w_rInts, r_w_rInts_0, r_w_rInts_1, r_w_rInts_2, r_w_rInts_3, r_w_rInts_9, hl]
    refine loopQ_ix (fun i : Nat => ⟨[(0, .ro 1 (ints a)), (1, .ro 1 (ints b)), (5, I i)], [], []⟩) (fun i => a.length - i) (fun i => i ≤ a.length ∧ ∀ j, j < i → a[j]? = b[j]?) 0 (Wk.list rfl (by simp) (by simp)) ⟨by simp, by simp⟩ ?_
    rintro i ⟨hi, hj⟩
    simp [l_w_rInts_8, r_w_rInts_4]
    refine ⟨fun hlt => ?_, fun hge => ?_⟩
    · have hlb : i < b.length := by omega
      simp [r_w_rInts_5, p_w_rInts_5, hlt, hlb]
      refine ⟨⟨rfl, rfl⟩, fun hne => ?_, fun he => ?_⟩
      · simp [r_w_rInts_6]
        rintro rfl
        exact hne rfl
      · simp [r_w_rInts_7]
        rw [wrap64 (by omega) (by omega)]
        refine roundA_of (i + 1) (by omega) ⟨by omega, fun j hj' => ?_⟩ (Wk.list rfl (by simp) (by simp))
        by_cases e : j = i
        · subst e; simp [hlt, hlb, he]
        · exact hj j (by omega)
    · apply List.ext_getElem?
      intro j
      by_cases h : j < i
      · exact hj j h
      · rw [List.getElem?_eq_none (by omega), List.getElem?_eq_none (by omega)]
  · simp [c_w_rInts, r_w_rInts_0, r_w_rInts_1, r_w_rInts_2, hl]
    refine ⟨fun _ e => hl (by rw [e]), fun e => absurd (by omega) hl⟩
theorem w_rTable (a b : List (List Int)) : PCall Try.prog n_w_rTable [.ro 1 (a.map roI), .ro 1 (b.map roI)] (B (decide (a = b))) := by
  refine PCall.ofL fn_w_rTable (by simp) fun hl => ?_
  simp at hl
  by_cases hl : a.length = b.length
  · simp [c_w_rTable, r_w_rTable_0, r_w_rTable_1, r_w_rTable_2, r_w_rTable_3, r_w_rTable_9, hl]
    refine loopQ_ix (fun i : Nat => ⟨[(0, .ro 1 (a.map roI)), (1, .ro 1 (b.map roI)), (5, I i)], [], []⟩) (fun i => a.length - i) (fun i => i ≤ a.length ∧ a.take i = b.take i) 0 (Wk.list rfl (by simp) (by simp)) (by simp) ?_
    rintro i ⟨hi, hj⟩
    simp [l_w_rTable_8, r_w_rTable_4]
    refine ⟨fun hlt => ?_, fun hge => ?_⟩
    · have hlb : i < b.length := by omega
      simp [r_w_rTable_5, p_w_rTable_5, hlt, hlb]
      refine callD_v (w_rInts ..) ?_ ?_ ?_
      · simp
      · simp
      simp
      refine ⟨oEnd_of (by first | kernel_rfl | simp) (by first | kernel_rfl | simp), fun hne => ?_, fun he => ?_⟩
      · simp [r_w_rTable_6]
        rintro rfl
        exact hne rfl
      · simp [r_w_rTable_7]
        rw [wrap64 (by omega) (by omega)]
        refine roundA_of (i + 1) (by omega) ⟨by omega, ?_⟩ (Wk.list rfl (by simp) (by simp))
        rw [take_succ' hlt, take_succ' hlb, hj, he]
    · rw [List.take_of_length_le (by omega), List.take_of_length_le (by omega)] at hj
      simp [hj]
  · simp [c_w_rTable, r_w_rTable_0, r_w_rTable_1, r_w_rTable_2, hl]
    refine ⟨fun _ e => hl (by rw [e]), fun e => absurd (by omega) hl⟩
theorem w_rBig (code : List UInt8) : PCall Try.prog n_w_rBig [.ro 1 (code.map Y)] (B (decide (65536 < code.length))) := by
  refine PCall.ofL fn_w_rBig (by simp) fun hl => ?_
  simp [c_w_rBig, r_w_rBig_0, r_w_rBig_1]
  omega
end Go.Proofs.Ytgefdcllialhkaa
