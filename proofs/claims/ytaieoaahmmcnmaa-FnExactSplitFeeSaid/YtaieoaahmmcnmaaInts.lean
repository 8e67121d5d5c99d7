/- The helpers of the laws on rows of whole numbers: equality, marking, looking for the marks. -/
import Derived.Test.YtaieoaahmmcnmaaCode
import Derived.Test.YtaieoaahmmcnmaaAbsEval
namespace Go.Proofs.Ytaieoaahmmcnmaa
open Go.Abs

theorem f23 (a b : List Int) (ha : a.length ≤ 9223372036854775807) : PCall Try.prog 23 [.ro 1 (ints a), .ro 1 (ints b)] (B (decide (a = b))) := by
  refine PCall.of fn23 (by simp) ?_
  by_cases hl : a.length = b.length
  · simp [c23, r23_0, r23_1, r23_2, r23_3, r23_9, hl]
    refine loopQ_ix (fun i : Nat => ⟨[(0, .ro 1 (ints a)), (1, .ro 1 (ints b)), (5, I i)], [], []⟩) (fun i => a.length - i) (fun i => i ≤ a.length ∧ ∀ j, j < i → a[j]? = b[j]?) 0 (Wk.list rfl (by simp) (by simp)) ⟨by simp, by simp⟩ ?_
    rintro i ⟨hi, hj⟩
    simp [l23_8, r23_4]
    refine ⟨fun hlt => ?_, fun hge => ?_⟩
    · have hlb : i < b.length := by omega
      simp [r23_5, p23_5, hlt, hlb]
      refine ⟨⟨rfl, rfl⟩, fun hne => ?_, fun he => ?_⟩
      · simp [r23_6]
        rintro rfl
        exact hne rfl
      · simp [r23_7]
        rw [wrap64 (by omega) (by omega)]
        refine roundA_of (i + 1) (by omega) ⟨by omega, fun j hj' => ?_⟩ (Wk.list rfl (by simp) (by simp))
        by_cases e : j = i
        · subst e; simp [hlt, hlb, he]
        · exact hj j (by omega)
    · apply List.ext_getElem?
      intro j
      by_cases h : j < i
      · exact hj j h
      · rw [List.getElem?_eq_none (by omega), List.getElem?_eq_none (by omega)]
  · simp [c23, r23_0, r23_1, r23_2, hl]
    refine ⟨fun _ e => hl (by rw [e]), fun e => absurd (by omega) hl⟩

/-- k, k + 1, .. -/
def marks (k : Int) (n : Nat) : List Int := (List.range n).map fun i : Nat => k + (i : Int)
theorem marks_len (k : Int) (n : Nat) : (marks k n).length = n := by simp [marks]
theorem marks_get (k : Int) (n i : Nat) (h : i < n) : (marks k n)[i]? = some (k + i) := by simp [marks, h]

theorem f24 (l : List Int) (k : Int) (hl : l.length ≤ 1000000000000) (hk : 0 ≤ k) (hk' : k ≤ 1000000000000) : MCall Try.prog 24 [⟨1, ints l⟩] [.sl (mid 0) 0 l.length, I k] (I (k + l.length)) [some ⟨1, ints (marks k l.length)⟩] := by
  refine MCall.of fn24 (by simp) rfl (by simp) ?_
  simp [c24, r24_0, r24_1, r24_7]
  refine loopQ_ix (fun p : Nat × List Int => ⟨[(0, .sl 1000000 0 l.length), (1, I (k + p.1)), (5, I p.1)], [(1000000, ⟨1, ints p.2⟩)], [1000000]⟩) (fun p => l.length - p.1)
    (fun p => p.1 ≤ l.length ∧ p.2.length = l.length ∧ ∀ j, j < p.1 → p.2[j]? = some (k + j)) (0, l) (Wk.list rfl (by simp) (by simp)) (by simp) ?_
  rintro ⟨i, c⟩ ⟨hi, hc, hj⟩
  dsimp only at hi hc hj
  simp [l24_6, r24_2]
  refine ⟨fun hlt => ?_, fun hge => ?_⟩
  · simp [r24_3, hlt, hc, stOf]
    simp [r24_4]
    rw [wrap64 (by omega) (by omega)]
    simp [r24_5]
    rw [wrap64 (by omega) (by omega)]
    refine roundA_of (i + 1, c.set i (k + i)) (by dsimp only; omega) ⟨by dsimp only; omega, by simpa using hc, fun j hj' => ?_⟩ (Wk.list rfl (by simp; omega) (by simp [List.map_set]))
    dsimp only at hj' ⊢
    by_cases e : i = j
    · subst e; simp [hc, hlt]
    · rw [List.getElem?_set_ne e]; exact hj j (by omega)
  · have e : c = marks k l.length := by
      apply List.ext_getElem?
      intro j
      by_cases h : j < i
      · rw [hj j h, marks_get k _ j (by omega)]
      · rw [List.getElem?_eq_none (by omega), List.getElem?_eq_none (by rw [marks_len]; omega)]
    simp [e]
    omega

/-- Are the marks still there? -/
def held (l : List Int) (k : Int) : Int := if l = marks k l.length then k + l.length else -1
theorem f25 (l : List Int) (k : Int) (hl : l.length ≤ 1000000000000) (hk : 0 ≤ k) (hk' : k ≤ 1000000000000) : PCall Try.prog 25 [.ro 1 (ints l), I k] (I (held l k)) := by
  refine PCall.of fn25 (by simp) ?_
  simp [c25, r25_0, r25_1, r25_8]
  refine loopQ_ix (fun i : Nat => ⟨[(0, .ro 1 (ints l)), (1, I (k + i)), (5, I i)], [], []⟩) (fun i => l.length - i)
    (fun i => i ≤ l.length ∧ ∀ j, j < i → l[j]? = some (k + j)) 0 (Wk.list rfl (by simp) (by simp)) (by simp) ?_
  rintro i ⟨hi, hj⟩
  simp [l25_7, r25_2]
  refine ⟨fun hlt => ?_, fun hge => ?_⟩
  · simp [r25_3, hlt]
    refine ⟨fun hne => ?_, fun he => ?_⟩
    · simp [r25_4]
      unfold held
      rw [if_neg]
      intro e
      have := marks_get k l.length i hlt
      rw [← e, List.getElem?_eq_getElem hlt] at this
      exact hne (Option.some.inj this)
    · simp [r25_5]
      rw [wrap64 (by omega) (by omega)]
      simp [r25_6]
      rw [wrap64 (by omega) (by omega)]
      refine roundA_of (i + 1) (by omega) ⟨by omega, fun j hj' => ?_⟩ (Wk.list rfl (by simp; omega) (by simp))
      by_cases e : j = i
      · subst e; simp [hlt, he]
      · exact hj j (by omega)
  · have e : l = marks k l.length := by
      apply List.ext_getElem?
      intro j
      by_cases h : j < i
      · rw [hj j h, marks_get k _ j (by omega)]
      · rw [List.getElem?_eq_none (by omega), List.getElem?_eq_none (by rw [marks_len]; omega)]
    unfold held
    rw [if_pos e]
    omega
end Go.Proofs.Ytaieoaahmmcnmaa
