/- The helpers of the laws on rows of whole numbers: size, copy, equality, marking, looking for the marks. -/
import Derived.Test.YtbeoijlggphklaaGreatCodeInts
import Derived.Test.YtbeoijlggphklaaGreatBase
set_option linter.unusedVariables false
set_option linter.unusedSimpArgs false
namespace Go.Proofs.YtbeoijlggphklaaGreat
open Go.Abs

theorem w_eqIntS (a b : List Int) : PCall Tryz.prog n_w_eqIntS [.ro 1 (ints a), .ro 1 (ints b)] (B (decide (a = b))) := by
  refine PCall.ofL fn_w_eqIntS (by simp) fun hl => ?_
  simp at hl
  by_cases hl : a.length = b.length
  · simp [c_w_eqIntS, r_w_eqIntS_0, r_w_eqIntS_1, r_w_eqIntS_2, r_w_eqIntS_3, r_w_eqIntS_9, hl]
    refine loopQ_ix (fun i : Nat => ⟨[(0, .ro 1 (ints a)), (1, .ro 1 (ints b)), (5, I i)], [], []⟩) (fun i => a.length - i) (fun i => i ≤ a.length ∧ ∀ j, j < i → a[j]? = b[j]?) 0 (Wk.list rfl (by simp) (by simp)) ⟨by simp, by simp⟩ ?_
    rintro i ⟨hi, hj⟩
    simp [l_w_eqIntS_8, r_w_eqIntS_4]
    refine ⟨fun hlt => ?_, fun hge => ?_⟩
    · have hlb : i < b.length := by omega
      simp [r_w_eqIntS_5, p_w_eqIntS_5, hlt, hlb]
      refine ⟨⟨rfl, rfl⟩, fun hne => ?_, fun he => ?_⟩
      · simp [r_w_eqIntS_6]
        rintro rfl
        exact hne rfl
      · simp [r_w_eqIntS_7]
        rw [wrap64 (by omega) (by omega)]
        refine roundA_of (i + 1) (by omega) ⟨by omega, fun j hj' => ?_⟩ (Wk.list rfl (by simp) (by simp))
        by_cases e : j = i
        · subst e; simp [hlt, hlb, he]
        · exact hj j (by omega)
    · apply List.ext_getElem?
      intro j
      by_cases h : j < i
      · exact hj j h
      · rw [List.getElem?_eq_none (by omega), List.getElem?_eq_none (by omega)]
  · simp [c_w_eqIntS, r_w_eqIntS_0, r_w_eqIntS_1, r_w_eqIntS_2, hl]
    refine ⟨fun _ e => hl (by rw [e]), fun e => absurd (by omega) hl⟩
/-- k, k + 1, .. -/
def marks (k : Int) (n : Nat) : List Int := (List.range n).map fun i : Nat => k + (i : Int)
theorem marks_len (k : Int) (n : Nat) : (marks k n).length = n := by simp [marks]
theorem marks_get (k : Int) (n i : Nat) (h : i < n) : (marks k n)[i]? = some (k + i) := by simp [marks, h]

theorem w_markIntS (l : List Int) (k : Int) (hl : l.length ≤ 1000000000) (hk : 0 ≤ k) (hk' : k ≤ 1000000000) : MCall Tryz.prog n_w_markIntS [⟨1, ints l⟩] [.sl (mid 0) 0 l.length, I k] (I (k + l.length)) [some ⟨1, ints (marks k l.length)⟩] := by
  refine MCall.of fn_w_markIntS (by simp) rfl (by simp) ?_
  simp [c_w_markIntS, r_w_markIntS_0, r_w_markIntS_1, r_w_markIntS_7]
  refine loopQ_ix (fun p : Nat × List Int => ⟨[(0, .sl 1000000 0 l.length), (1, I (k + p.1)), (5, I p.1)], [(1000000, ⟨1, ints p.2⟩)], [1000000]⟩) (fun p => l.length - p.1)
    (fun p => p.1 ≤ l.length ∧ p.2.length = l.length ∧ ∀ j, j < p.1 → p.2[j]? = some (k + j)) (0, l) (Wk.list rfl (by simp) (by simp)) (by simp) ?_
  rintro ⟨i, c⟩ ⟨hi, hc, hj⟩
  dsimp only at hi hc hj
  simp [l_w_markIntS_6, r_w_markIntS_2]
  refine ⟨fun hlt => ?_, fun hge => ?_⟩
  · simp [r_w_markIntS_3, hlt, hc, stOf]
    simp [r_w_markIntS_4]
    rw [wrap64 (by omega) (by omega)]
    simp [r_w_markIntS_5]
    rw [wrap64 (by omega) (by omega)]
    refine roundA_of (i + 1, c.set i (k + i)) (by dsimp only; omega) ⟨by dsimp only; omega, by simpa using hc, fun j hj' => ?_⟩ (Wk.list rfl (by simp; omega) (by simp [List.map_set]))
    dsimp only at hj' ⊢
    by_cases e : i = j
    · subst e; simp [hc, hlt]
    · rw [List.getElem?_set_ne e]; exact hj j (by omega)
  · have e : c = marks k l.length := by
      apply List.ext_getElem?
      intro j
      by_cases h : j < i
      · rw [hj j h, marks_get k _ j (by omega)]
      · rw [List.getElem?_eq_none (by omega), List.getElem?_eq_none (by rw [marks_len]; omega)]
    simp [e]
    omega

/-- Are the marks still there? -/
def held (l : List Int) (k : Int) : Int := if l = marks k l.length then k + l.length else -1
theorem w_heldIntS (l : List Int) (k : Int) (hl : l.length ≤ 1000000000) (hk : 0 ≤ k) (hk' : k ≤ 1000000000) : PCall Tryz.prog n_w_heldIntS [.ro 1 (ints l), I k] (I (held l k)) := by
  refine PCall.of fn_w_heldIntS (by simp) ?_
  simp [c_w_heldIntS, r_w_heldIntS_0, r_w_heldIntS_1, r_w_heldIntS_8]
  refine loopQ_ix (fun i : Nat => ⟨[(0, .ro 1 (ints l)), (1, I (k + i)), (5, I i)], [], []⟩) (fun i => l.length - i)
    (fun i => i ≤ l.length ∧ ∀ j, j < i → l[j]? = some (k + j)) 0 (Wk.list rfl (by simp) (by simp)) (by simp) ?_
  rintro i ⟨hi, hj⟩
  simp [l_w_heldIntS_7, r_w_heldIntS_2]
  refine ⟨fun hlt => ?_, fun hge => ?_⟩
  · simp [r_w_heldIntS_3, hlt]
    refine ⟨fun hne => ?_, fun he => ?_⟩
    · simp [r_w_heldIntS_4]
      unfold held
      rw [if_neg]
      intro e
      have := marks_get k l.length i hlt
      rw [← e, List.getElem?_eq_getElem hlt] at this
      exact hne (Option.some.inj this)
    · simp [r_w_heldIntS_5]
      rw [wrap64 (by omega) (by omega)]
      simp [r_w_heldIntS_6]
      rw [wrap64 (by omega) (by omega)]
      refine roundA_of (i + 1) (by omega) ⟨by omega, fun j hj' => ?_⟩ (Wk.list rfl (by simp; omega) (by simp))
      by_cases e : j = i
      · subst e; simp [hlt, he]
      · exact hj j (by omega)
  · have e : l = marks k l.length := by
      apply List.ext_getElem?
      intro j
      by_cases h : j < i
      · rw [hj j h, marks_get k _ j (by omega)]
      · rw [List.getElem?_eq_none (by omega), List.getElem?_eq_none (by rw [marks_len]; omega)]
    unfold held
    rw [if_pos e]
    omega
theorem held_marks_IntS (l : List Int) (k : Int) : held (marks k l.length) k = k + l.length := by simp [held, marks_len]
end Go.Proofs.YtbeoijlggphklaaGreat
