/- Rows of texts: are they the same; put together; how ragged they are. -/
import Derived.Test.YtopcfaffljjnbaaGreatDoorScrollLaw
set_option linter.unusedVariables false
set_option linter.unusedSimpArgs false
namespace Go.Proofs.YtopcfaffljjnbaaGreatDoor
open Go.Abs

theorem w_rTexts (a b : List (List UInt8)) : PCall Tryz.prog n_w_rTexts [.ro 1 (a.map S), .ro 1 (b.map S)] (B (decide (a = b))) := by
  refine PCall.ofL fn_w_rTexts (by simp) fun hl => ?_
  simp at hl
  by_cases hl : a.length = b.length
  · simp [c_w_rTexts, r_w_rTexts_0, r_w_rTexts_1, r_w_rTexts_2, r_w_rTexts_3, r_w_rTexts_9, hl]
    refine loopK (fun i : Nat => ⟨[(0, .ro 1 (a.map S)), (1, .ro 1 (b.map S)), (5, I i)], [], []⟩) (fun i => a.length - i) (fun i => i ≤ a.length ∧ ∀ j, j < i → a[j]? = b[j]?) 0 (Wk.list rfl (by simp) (by simp)) ⟨by simp, by simp⟩ ?_
    rintro i ⟨hi, hj⟩ K hN hR hE
    simp [l_w_rTexts_8, r_w_rTexts_4]
    refine ⟨fun hlt => ?_, fun hge => ?_⟩
    · have hlb : i < b.length := by omega
      simp [r_w_rTexts_5, p_w_rTexts_5, hlt, hlb]
      refine ⟨⟨rfl, rfl⟩, fun hne => ?_, fun he => ?_⟩
      · simp [r_w_rTexts_6]
        refine hR _ ?_
        simp
        rintro rfl
        exact hne rfl
      · simp [r_w_rTexts_7]
        rw [wrap64 (by omega) (by omega)]
        refine hN (i + 1) _ (by omega) ⟨by omega, fun j hj' => ?_⟩ (Wk.list rfl (by simp) (by simp))
        by_cases e : j = i
        · subst e; simp [hlt, hlb, he]
        · exact hj j (by omega)
    · refine hE _ _ ?_
      have : a = b := by
        apply List.ext_getElem?
        intro j
        by_cases h : j < i
        · exact hj j h
        · rw [List.getElem?_eq_none (by omega), List.getElem?_eq_none (by omega)]
      simp only [blockK_exit]
      simp [r_w_rTexts_9, this]
  · simp [c_w_rTexts, r_w_rTexts_0, r_w_rTexts_1, r_w_rTexts_2, hl]
    exact ⟨fun _ e => hl (by rw [e]), fun e => absurd e (by omega)⟩
theorem w_rBig' (code : List UInt8) : PCall Tryz.prog n_w_rBig [.ro 1 (code.map Y)] (B (decide (65536 < code.length))) := by
  refine PCall.ofL fn_w_rBig (by simp) fun hl => ?_
  simp [c_w_rBig, r_w_rBig_0, r_w_rBig_1]
  omega
theorem join_take {l : List (List UInt8)} {i : Nat} (h : i < l.length) : joinW (l.take (i + 1)) = if i = 0 then l[i] else joinW (l.take i) ++ 32 :: l[i] := by
  rw [take_succ' h]
  split
  · rename_i e
    subst e; rfl
  · rename_i e
    refine joinW_snoc _ _ fun e' => ?_
    have := congrArg List.length e'
    rw [List.length_take, List.length_nil] at this
    omega
theorem rag_take {w : Int} {l : List (List UInt8)} {i : Nat} (h : i < l.length) : rag w (l.take (i + 1)) = rag w (l.take i) + lack w l[i] := by
  rw [take_succ' h, rag, rag, List.map_append, List.sum_append]
  simp
theorem rag_bounds {w : Int} {l : List (List UInt8)} (hw : 0 ≤ w ∧ w ≤ 1000) (h : ∀ x ∈ l, x.length ≤ 1000) : ∀ i, i ≤ l.length → 0 ≤ rag w (l.take i) ∧ rag w (l.take i) ≤ 1000000 * i
  | 0, _ => by simp [rag]
  | i + 1, hi => by
    have ih := rag_bounds hw h i (by omega)
    have hx := h l[i] (List.getElem_mem (by omega))
    have h0 := lack_nonneg w l[i]
    have h1 : lack w l[i] ≤ 1000 * 1000 := by
      unfold lack
      rcases Int.le_total 0 (w - (l[i].length : Int)) with h | h
      · exact Int.mul_le_mul (by omega) (by omega) h (by omega)
      · have := Int.mul_le_mul (a := -(w - (l[i].length : Int))) (b := -(w - (l[i].length : Int))) (c := 1000) (d := 1000) (by omega) (by omega) (by omega) (by omega)
        rwa [Int.neg_mul_neg] at this
    rw [rag_take (by omega)]
    omega
end Go.Proofs.YtopcfaffljjnbaaGreatDoor
