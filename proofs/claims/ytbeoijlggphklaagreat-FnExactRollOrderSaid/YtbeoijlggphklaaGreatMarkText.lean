/- The texts by which the laws mark memory. -/
import Derived.Test.YtbeoijlggphklaaGreatCodeMarkText
import Derived.Test.YtbeoijlggphklaaGreatTexts
set_option linter.unusedVariables false
set_option linter.unusedSimpArgs false
namespace Go.Proofs.YtbeoijlggphklaaGreat
open Go.Abs

def markT (k : Nat) : List UInt8 := 109 :: digits k
theorem wrap8 {n : Int} (h1 : 0 ≤ n) (h2 : n ≤ 255) : IntKind.u8.wrap n = n := by
  simp [IntKind.wrap, IntKind.signed, IntKind.bits]; omega
theorem w_markText (k : Nat) (hk : k ≤ 100000000) : PCall Tryz.prog n_w_markText [I k] (S (markT k)) := by
  refine PCall.of fn_w_markText (by simp) ?_
  simp [c_w_markText, r_w_markText_0, r_w_markText_1]
  refine ⟨fun h => ?_, fun h => ?_⟩
  · have : k = 0 := by omega
    subst this
    simp [r_w_markText_2, markT, digits_small]
  · simp [r_w_markText_3, l_w_markText_7]
    refine loopK (fun p : Nat × List UInt8 => ⟨[(0, I p.1), (3, S p.2)], [], []⟩) (fun p => p.1) (fun p => p.1 ≤ k ∧ p.2.length ≤ 2 * (k - p.1) ∧ (0 < p.1 → digits k = digits p.1 ++ p.2) ∧ (p.1 = 0 → digits k = p.2)) (k, []) (Wk.list rfl (by simp) (by simp)) ⟨by simp, by simp, by simp, fun h' => by dsimp only at h'; omega⟩ ?_
    rintro ⟨j, suf⟩ ⟨hj, hl, h1, h2⟩ K hN hR hE
    dsimp only at hj hl h1 h2
    simp [r_w_markText_4]
    refine ⟨fun hlt => ?_, fun hge => ?_⟩
    · obtain ⟨m, hm, hmj⟩ : ∃ m, m < 10 ∧ j % 10 = m := ⟨j % 10, by omega, rfl⟩
      have e2 : (j : Int).tmod 10 = (m : Int) := by rw [Int.tmod_eq_emod_of_nonneg (by omega)]; omega
      have hd := h1 (by omega)
      simp [r_w_markText_5]
      rw [e2, wrap64 (by omega) (by omega), wrap8 (by omega) (by omega)]
      rw [show (48 + (m : Int)).toNat = 48 + m by omega]
      refine ⟨by omega, ?_⟩
      simp [r_w_markText_6]
      rw [wrap64 (by omega) (by omega)]
      refine hN (j / 10, UInt8.ofNat (48 + m) :: suf) _ (by dsimp only; omega) ⟨by dsimp only; omega, by simp only [List.length_cons]; omega, fun h' => ?_, fun h' => ?_⟩ (Wk.list rfl (by simp) (by simp))
      · dsimp only at h' ⊢
        rw [hd, digits_big (n := j) (by omega), hmj]; simp
      · dsimp only at h' ⊢
        rw [hd, digits_small (n := j) (by omega), ← hmj, show j % 10 = j by omega]; simp
    · refine hE _ _ ?_
      have : j = 0 := by omega
      subst this
      have := h2 rfl
      simp only [blockK_exit]
      simp [r_w_markText_8, markT, ← this]
      have := digits_le k
      omega

theorem markT_len (k : Nat) : (markT k).length ≤ k + 2 := by
  have := digits_le k
  simp [markT]; omega

def marksT (k n : Nat) : List (List UInt8) := (List.range n).map fun i => markT (k + i)
theorem marksT_len (k n : Nat) : (marksT k n).length = n := by simp [marksT]
theorem marksT_succ (k : Nat) (n : Nat) : marksT k (n + 1) = marksT k n ++ [markT (k + n)] := by simp only [marksT, List.range_succ, List.map_append, List.map_cons, List.map_nil]
theorem marksT_get {k m i : Nat} (h : i < (marksT k m).length) : (marksT k m)[i] = markT (k + i) := by simp [marksT]

end Go.Proofs.YtbeoijlggphklaaGreat
