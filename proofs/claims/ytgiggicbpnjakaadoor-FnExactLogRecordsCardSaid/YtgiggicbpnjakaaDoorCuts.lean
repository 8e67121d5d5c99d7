/- Texts that are cut and split, in the program (by the library) and in the reference. -/
import Derived.Test.YtgiggicbpnjakaaDoorCodeCuts
import Derived.Test.YtgiggicbpnjakaaDoorNum
import Derived.Test.YtgiggicbpnjakaaDoorAbsRen
set_option linter.unusedVariables false
set_option linter.unusedSimpArgs false
namespace Go.Proofs.YtgiggicbpnjakaaDoor
open Go.Abs

theorem indexByte_cut (s : List UInt8) (c : UInt8) : Lib.indexByte s c = if c ∈ s then ((cut0 c s).length : Int) else -1 := by
  induction s with
  | nil => rfl
  | cons x s ih =>
    rw [Lib.indexByte, ih]
    by_cases h : x = c
    · subst h; simp [cut0]
    · have hx : (x != c) = true := by simpa using h
      have hc : ¬ c = x := fun e => h e.symm
      by_cases hm : c ∈ s
      · simp [h, hm, hc, cut0]
      · simp [h, hm, hc]

theorem internal_stringslite_Cut (s : List UInt8) (c : UInt8) : PCall Tryd.prog n_internal_stringslite_Cut [S s, S [c]] (.tup [S (cut0 c s), S (cut1 c s), B (decide (c ∈ s))]) := by
  refine PCall.ofL fn_internal_stringslite_Cut (by simp) fun hs => ?_
  simp at hs
  have hI : PCall Tryd.prog n_internal_stringslite_Index [S s, S [c]] (I (Lib.indexByte s c)) :=
    PCall.same (vs := [.string (bs s), .string (bs [c])]) (y := .int .i64 (Lib.indexByte s c)) (by kernel_rfl) (fun _ _ => CV_mkv rfl) (fun w _ _ => Tryd.stringslite_Index_one (bs s) c w)
  rw [indexByte_cut] at hI
  simp [c_internal_stringslite_Cut, r_internal_stringslite_Cut_0, r_internal_stringslite_Cut_1]
  refine callQ_v hI ?_
  by_cases hm : c ∈ s
  · obtain ⟨h1, h2⟩ := cut_split hm
    have hlen := congrArg List.length h1
    simp only [List.length_append, List.length_cons] at hlen
    have e0 : s.take (cut0 c s).length = cut0 c s := by
      rw [show s.take (cut0 c s).length = (cut0 c s ++ c :: cut1 c s).take (cut0 c s).length by rw [← h1]]
      exact List.take_left
    have e1 : s.drop ((cut0 c s).length + 1) = cut1 c s := by
      rw [show s.drop ((cut0 c s).length + 1) = (cut0 c s ++ c :: cut1 c s).drop ((cut0 c s).length + 1) by rw [← h1]]
      exact drop_line' h2
    simp [r_internal_stringslite_Cut_2, hm]
    simp [r_internal_stringslite_Cut_3, p_internal_stringslite_Cut_3]
    rw [wrap64 (by omega) (by omega)]
    rw [show (((cut0 c s).length : Int) + 1).toNat = (cut0 c s).length + 1 by omega, e0, e1, List.take_of_length_le (by omega)]
    exact ⟨by omega, by omega, oEnd_of (by first | kernel_rfl | simp) (by first | kernel_rfl | simp), rfl, rfl, hm⟩
  · simp [r_internal_stringslite_Cut_2, r_internal_stringslite_Cut_4, hm]
    exact ⟨(cut0_none hm).symm, cut1_none hm⟩

theorem strings_Cut (s : List UInt8) (c : UInt8) : PCall Tryd.prog n_strings_Cut [S s, S [c]] (.tup [S (cut0 c s), S (cut1 c s), B (decide (c ∈ s))]) := by
  refine PCall.of fn_strings_Cut (by simp) ?_
  simp [c_strings_Cut, r_strings_Cut_0, r_strings_Cut_1]
  refine callQ_of (internal_stringslite_Cut s c) rfl (.inl (by simp)) (by simp) ?_
  simp

theorem s_l1Split (s : List UInt8) (c : UInt8) (hs : s.length ≤ 4000000) : PCall Tryd.prog n_s_l1Split [S s, Y c] (.own 1 ((parts c s).map S)) := by
  refine PCall.of fn_s_l1Split (by simp) ?_
  simp [c_s_l1Split, r_s_l1Split_0, r_s_l1Split_1, r_s_l1Split_2, r_s_l1Split_3, l_s_l1Split_9]
  refine loopK (fun p : List (List UInt8) × Nat × Nat => ⟨[(0, S s), (1, Y c), (5, .sl 8 0 p.1.length), (6, I p.2.1), (7, I p.2.2)], [(8, ⟨1, p.1.map S⟩)], []⟩) (fun p => s.length - p.2.2)
    (fun p => (p.2.1 ≤ p.2.2 ∧ p.2.2 ≤ s.length ∧ p.1.length ≤ p.2.2) ∧ parts c s = p.1 ++ parts c (s.drop p.2.1) ∧ c ∉ (s.drop p.2.1).take (p.2.2 - p.2.1)) ([], 0, 0) (Wk.list rfl (by simp) (by simp)) (by simp) ?_
  rintro ⟨done, j, i⟩ ⟨⟨hji, hi, hd⟩, hp, hc⟩ K hN hR hE
  dsimp only at hji hi hd hp hc
  simp [r_s_l1Split_4]
  refine ⟨fun hlt => ?_, fun hge => ?_⟩
  · have hdr : (s.drop j).drop (i - j) = s[i] :: s.drop (i + 1) := by rw [List.drop_drop, show j + (i - j) = i by omega, List.drop_eq_getElem_cons hlt]
    simp [r_s_l1Split_5, hlt]
    refine ⟨fun h => ?_, fun h => ?_⟩
    · have hsplit : parts c (s.drop j) = (s.drop j).take (i - j) :: parts c (s.drop (i + 1)) := by
        conv => lhs; rw [← List.take_append_drop (i - j) (s.drop j), hdr, h]
        exact parts_at hc
      simp [r_s_l1Split_6]
      refine ⟨by omega, by unfold lenBound; omega, ?_⟩
      simp [r_s_l1Split_7]
      rw [wrap64 (by omega) (by omega)]
      simp [r_s_l1Split_8]
      rw [wrap64 (by omega) (by omega)]
      refine hN (done ++ [(s.drop j).take (i - j)], i + 1, i + 1) _ (by dsimp only; omega) ⟨⟨by dsimp only; omega, by dsimp only; omega, by simp; omega⟩, ?_, by simp⟩ (Wk.trans (Wk.ren 26 8 (by decide) (by simp)) (Wk.list rfl ?_ ?_))
      · rw [hp, hsplit]; simp
      · simp [AS.ren, ren, reN]
      · simp [AS.ren, ren, reN, renB]
    · simp [r_s_l1Split_8]
      rw [wrap64 (by omega) (by omega)]
      refine hN (done, j, i + 1) _ (by dsimp only; omega) ⟨⟨by dsimp only; omega, by dsimp only; omega, by dsimp only; omega⟩, hp, ?_⟩ (Wk.list rfl (by simp) (by simp))
      dsimp only
      have hl : i - j < (s.drop j).length := by rw [List.length_drop]; omega
      rw [show i + 1 - j = i - j + 1 by omega, ← List.take_append_getElem hl, List.mem_append, List.mem_singleton]
      rintro (h' | h')
      · exact hc h'
      · refine h ?_
        rw [h', List.getElem_drop]
        congr 1; omega
  · refine hE _ _ ?_
    obtain rfl : i = s.length := by omega
    have hn : c ∉ s.drop j := by
      rw [List.take_of_length_le (by rw [List.length_drop]; omega)] at hc
      exact hc
    rw [parts_none hn] at hp
    simp only [blockK_exit]
    simp [r_s_l1Split_10]
    rw [List.take_of_length_le (by rw [List.length_drop]; omega), hp]
    exact ⟨by omega, by unfold lenBound; omega, by simp⟩
end Go.Proofs.YtgiggicbpnjakaaDoor
