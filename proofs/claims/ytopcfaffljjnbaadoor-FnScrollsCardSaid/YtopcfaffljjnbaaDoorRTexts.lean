/- Rows of texts: are they the same; put together; how ragged they are. -/
import Derived.Test.YtopcfaffljjnbaaDoorCodeRTexts
import Derived.Test.YtopcfaffljjnbaaDoorScrollLaw
set_option linter.unusedVariables false
set_option linter.unusedSimpArgs false
namespace Go.Proofs.YtopcfaffljjnbaaDoor
open Go.Abs

theorem w_rTexts (a b : List (List UInt8)) : PCall Tryd.prog n_w_rTexts [.ro 1 (a.map S), .ro 1 (b.map S)] (B (decide (a = b))) := by
  refine PCall.ofL fn_w_rTexts (by simp) fun hl => ?_
  simp at hl
  by_cases hl : a.length = b.length
  · simp [c_w_rTexts, r_w_rTexts_0, r_w_rTexts_1, r_w_rTexts_2, r_w_rTexts_3, r_w_rTexts_9, hl]
    refine loopK (fun i : Nat => ⟨[(0, .ro 1 (a.map S)), (1, .ro 1 (b.map S)), (5, I i)], [], []⟩) (fun i => a.length - i) (fun i => i ≤ a.length ∧ ∀ j, j < i → a[j]? = b[j]?) 0 (Wk.list rfl (by simp) (by simp)) ⟨by simp, by simp⟩ ?_
    rintro i ⟨hi, hj⟩ K hN hR hE
    simp [l_w_rTexts_8, r_w_rTexts_4]
    refine ⟨fun hlt => ?_, fun hge => ?_⟩
    · have hlb : i < b.length := by omega
      simp [r_w_rTexts_5, p_w_rTexts_5, hlt, hlb]
      refine ⟨⟨rfl, rfl⟩, fun hne => ?_, fun he => ?_⟩
      · simp [r_w_rTexts_6]
        refine hR _ ?_
        simp
        rintro rfl
        exact hne rfl
      · simp [r_w_rTexts_7]
        rw [wrap64 (by omega) (by omega)]
        refine hN (i + 1) _ (by omega) ⟨by omega, fun j hj' => ?_⟩ (Wk.list rfl (by simp) (by simp))
        by_cases e : j = i
        · subst e; simp [hlt, hlb, he]
        · exact hj j (by omega)
    · refine hE _ _ ?_
      have : a = b := by
        apply List.ext_getElem?
        intro j
        by_cases h : j < i
        · exact hj j h
        · rw [List.getElem?_eq_none (by omega), List.getElem?_eq_none (by omega)]
      simp only [blockK_exit]
      simp [r_w_rTexts_9, this]
  · simp [c_w_rTexts, r_w_rTexts_0, r_w_rTexts_1, r_w_rTexts_2, hl]
    exact ⟨fun _ e => hl (by rw [e]), fun e => absurd e (by omega)⟩
theorem w_rBig' (code : List UInt8) : PCall Tryd.prog n_w_rBig [.ro 1 (code.map Y)] (B (decide (65536 < code.length))) := by
  refine PCall.ofL fn_w_rBig (by simp) fun hl => ?_
  simp [c_w_rBig, r_w_rBig_0, r_w_rBig_1]
  omega
theorem join_take {l : List (List UInt8)} {i : Nat} (h : i < l.length) : joinW (l.take (i + 1)) = if i = 0 then l[i] else joinW (l.take i) ++ 32 :: l[i] := by
  rw [take_succ' h]
  split
  · rename_i e
    subst e; rfl
  · rename_i e
    refine joinW_snoc _ _ fun e' => ?_
    have := congrArg List.length e'
    rw [List.length_take, List.length_nil] at this
    omega
theorem w_rJoined (l : List (List UInt8)) (hl : l.length ≤ 100000) (hT : tot l ≤ 1000000) : PCall Tryd.prog n_w_rJoined [.ro 1 (l.map S)] (S (joinW l)) := by
  refine PCall.ofN fn_w_rJoined (by simp) ?_
  simp [c_w_rJoined, r_w_rJoined_0, r_w_rJoined_1, r_w_rJoined_2, l_w_rJoined_8]
  refine loopK (fun i : Nat => ⟨[(0, .ro 1 (l.map S)), (3, S (joinW (l.take i))), (4, I i)], [], []⟩) (fun i => l.length - i) (fun i => i ≤ l.length) 0 (Wk.list rfl (by simp [joinW]) (by simp)) (by simp) ?_
  intro i hi K hN hR hE
  have hjl := joinW_le l 0 i
  have hjl2 := joinW_le l 0 (i + 1)
  rw [List.drop_zero] at hjl hjl2
  simp [r_w_rJoined_3, r_w_rJoined_7]
  refine ⟨fun hlt => ?_, fun hge => ?_⟩
  · have hjt := join_take hlt
    simp [r_w_rJoined_4]
    by_cases h0 : i = 0
    · subst h0
      rw [if_pos rfl] at hjt
      rw [hjt] at hjl2
      simp [r_w_rJoined_6, hlt]
      refine ⟨by simp [joinW]; omega, ?_⟩
      rw [wrap64 (by omega) (by omega)]
      refine hN 1 _ (by omega) (by omega) (Wk.list rfl ?_ ?_)
      · simp; simpa [joinW] using hjt.symm
      · simp
    · rw [if_neg h0] at hjt
      rw [hjt] at hjl2
      simp only [List.length_append, List.length_cons] at hjl2
      refine ⟨fun _ => ?_, fun e => absurd e (by omega)⟩
      simp [r_w_rJoined_5]
      refine ⟨by omega, ?_⟩
      simp [r_w_rJoined_6, hlt]
      refine ⟨by omega, ?_⟩
      rw [wrap64 (by omega) (by omega)]
      refine hN (i + 1) _ (by omega) (by omega) (Wk.list rfl ?_ ?_)
      · simp; simpa using hjt.symm
      · simp
  · obtain rfl : i = l.length := by omega
    refine hE _ _ ?_
    simp only [blockK_exit]
    simp [r_w_rJoined_9]
theorem rag_take {w : Int} {l : List (List UInt8)} {i : Nat} (h : i < l.length) : rag w (l.take (i + 1)) = rag w (l.take i) + lack w l[i] := by
  rw [take_succ' h, rag, rag, List.map_append, List.sum_append]
  simp
theorem rag_bounds {w : Int} {l : List (List UInt8)} (hw : 0 ≤ w ∧ w ≤ 1000) (h : ∀ x ∈ l, x.length ≤ 1000) : ∀ i, i ≤ l.length → 0 ≤ rag w (l.take i) ∧ rag w (l.take i) ≤ 1000000 * i
  | 0, _ => by simp [rag]
  | i + 1, hi => by
    have ih := rag_bounds hw h i (by omega)
    have hx := h l[i] (List.getElem_mem (by omega))
    have h0 := lack_nonneg w l[i]
    have h1 : lack w l[i] ≤ 1000 * 1000 := by
      unfold lack
      rcases Int.le_total 0 (w - (l[i].length : Int)) with h | h
      · exact Int.mul_le_mul (by omega) (by omega) h (by omega)
      · have := Int.mul_le_mul (a := -(w - (l[i].length : Int))) (b := -(w - (l[i].length : Int))) (c := 1000) (d := 1000) (by omega) (by omega) (by omega) (by omega)
        rwa [Int.neg_mul_neg] at this
    rw [rag_take (by omega)]
    omega
theorem w_rRagged (l : List (List UInt8)) (w : Int) (hw : 0 ≤ w ∧ w ≤ 1000) (hl : l.length ≤ 1000) (hx : ∀ x ∈ l, x.length ≤ 1000) : PCall Tryd.prog n_w_rRagged [.ro 1 (l.map S), I w] (I (rag w l)) := by
  refine PCall.ofN fn_w_rRagged (by simp) ?_
  simp [c_w_rRagged, r_w_rRagged_0, r_w_rRagged_1, r_w_rRagged_2, l_w_rRagged_6]
  refine loopK (fun i : Nat => ⟨[(0, .ro 1 (l.map S)), (1, I w), (5, I (rag w (l.take i))), (6, I i)], [], []⟩) (fun i => l.length - i) (fun i => i ≤ l.length) 0 (Wk.list rfl (by simp [rag]) (by simp)) (by simp) ?_
  intro i hi K hN hR hE
  have hb := rag_bounds hw hx i hi
  simp [r_w_rRagged_3, r_w_rRagged_5]
  refine ⟨fun hlt => ?_, fun hge => ?_⟩
  · have ht := rag_take (w := w) hlt
    have hb2 := rag_bounds hw hx (i + 1) (by omega)
    have hxi := hx l[i] (List.getElem_mem hlt)
    have h0 := lack_nonneg w l[i]
    have hm : lack w l[i] = (w - l[i].length) * (w - l[i].length) := rfl
    simp [r_w_rRagged_4, p_w_rRagged_4, hlt]
    rw [wrap64 (n := w - (l[i].length : Int)) (by omega) (by omega), ← hm, wrap64 (n := lack w l[i]) (by omega) (by omega), wrap64 (by omega) (by omega)]
    refine ⟨oEnd_of (by simp [p_w_rRagged_4]) (by simp), ?_⟩
    rw [wrap64 (by omega) (by omega)]
    refine hN (i + 1) _ (by omega) (by omega) (Wk.list rfl ?_ ?_)
    · simp; simpa using ht.symm
    · simp
  · obtain rfl : i = l.length := by omega
    refine hE _ _ ?_
    simp only [blockK_exit]
    simp [r_w_rRagged_7]
end Go.Proofs.YtopcfaffljjnbaaDoor
