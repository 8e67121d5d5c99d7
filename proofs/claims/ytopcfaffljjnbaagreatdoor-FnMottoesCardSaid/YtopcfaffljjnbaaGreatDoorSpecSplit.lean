/- The reference's split of a text at a byte. -/
import Derived.Test.YtopcfaffljjnbaaGreatDoorTexts
import Derived.Test.YtopcfaffljjnbaaGreatDoorAbs4
set_option linter.unusedVariables false
set_option linter.unusedSimpArgs false
namespace Go.Proofs.YtopcfaffljjnbaaGreatDoor
open Go.Abs

theorem s_l1Split (s : List UInt8) (c : UInt8) (hs : s.length ≤ 4000000) : PCall Tryz.prog n_s_l1Split [S s, Y c] (.own 1 ((parts c s).map S)) := by
  refine PCall.of fn_s_l1Split (by simp) ?_
  simp [c_s_l1Split, r_s_l1Split_0, r_s_l1Split_1, r_s_l1Split_2, r_s_l1Split_3, l_s_l1Split_9]
  refine loopK (fun p : List (List UInt8) × Nat × Nat => ⟨[(0, S s), (1, Y c), (5, .sl 8 0 p.1.length), (6, I p.2.1), (7, I p.2.2)], [(8, ⟨1, p.1.map S⟩)], []⟩) (fun p => s.length - p.2.2)
    (fun p => (p.2.1 ≤ p.2.2 ∧ p.2.2 ≤ s.length ∧ p.1.length ≤ p.2.2) ∧ parts c s = p.1 ++ parts c (s.drop p.2.1) ∧ c ∉ (s.drop p.2.1).take (p.2.2 - p.2.1)) ([], 0, 0) (Wk.list rfl (by simp) (by simp)) (by simp) ?_
  rintro ⟨done, j, i⟩ ⟨⟨hji, hi, hd⟩, hp, hc⟩ K hN hR hE
  dsimp only at hji hi hd hp hc
  simp [r_s_l1Split_4]
  refine ⟨fun hlt => ?_, fun hge => ?_⟩
  · have hdr : (s.drop j).drop (i - j) = s[i] :: s.drop (i + 1) := by rw [List.drop_drop, show j + (i - j) = i by omega, List.drop_eq_getElem_cons hlt]
    simp [r_s_l1Split_5, hlt]
    refine ⟨fun h => ?_, fun h => ?_⟩
    · have hsplit : parts c (s.drop j) = (s.drop j).take (i - j) :: parts c (s.drop (i + 1)) := by
        conv => lhs; rw [← List.take_append_drop (i - j) (s.drop j), hdr, h]
        exact parts_at hc
      simp [r_s_l1Split_6]
      refine ⟨by omega, by unfold lenBound; omega, ?_⟩
      simp [r_s_l1Split_7]
      rw [wrap64 (by omega) (by omega)]
      simp [r_s_l1Split_8]
      rw [wrap64 (by omega) (by omega)]
      refine hN (done ++ [(s.drop j).take (i - j)], i + 1, i + 1) _ (by dsimp only; omega) ⟨⟨by dsimp only; omega, by dsimp only; omega, by simp; omega⟩, ?_, by simp⟩ (Wk.trans (Wk.ren 26 8 (by decide) (by simp)) (Wk.list rfl ?_ ?_))
      · rw [hp, hsplit]; simp
      · simp [AS.ren, ren, reN]
      · simp [AS.ren, ren, reN, renB]
    · simp [r_s_l1Split_8]
      rw [wrap64 (by omega) (by omega)]
      refine hN (done, j, i + 1) _ (by dsimp only; omega) ⟨⟨by dsimp only; omega, by dsimp only; omega, by dsimp only; omega⟩, hp, ?_⟩ (Wk.list rfl (by simp) (by simp))
      dsimp only
      have hl : i - j < (s.drop j).length := by rw [List.length_drop]; omega
      rw [show i + 1 - j = i - j + 1 by omega, ← List.take_append_getElem hl, List.mem_append, List.mem_singleton]
      rintro (h' | h')
      · exact hc h'
      · refine h ?_
        rw [h', List.getElem_drop]
        congr 1; omega
  · refine hE _ _ ?_
    obtain rfl : i = s.length := by omega
    have hn : c ∉ s.drop j := by
      rw [List.take_of_length_le (by rw [List.length_drop]; omega)] at hc
      exact hc
    rw [parts_none hn] at hp
    simp only [blockK_exit]
    simp [r_s_l1Split_10]
    rw [List.take_of_length_le (by rw [List.length_drop]; omega), hp]
    exact ⟨by omega, by unfold lenBound; omega, by simp⟩
end Go.Proofs.YtopcfaffljjnbaaGreatDoor
