/- Texts that are cut and split, in the program (by the library) and in the reference. -/
import Derived.Test.YtgefdcllialhkaaDoorCodeCuts
import Derived.Test.YtgefdcllialhkaaDoorNum
import Derived.Test.YtgefdcllialhkaaDoorSpecSplit
import Derived.Test.YtgefdcllialhkaaDoorAbs4
set_option linter.unusedVariables false
set_option linter.unusedSimpArgs false
namespace Go.Proofs.YtgefdcllialhkaaDoor
open Go.Abs

theorem indexByte_cut (s : List UInt8) (c : UInt8) : Lib.indexByte s c = if c ∈ s then ((cut0 c s).length : Int) else -1 := by
  induction s with
  | nil => rfl
  | cons x s ih =>
    rw [Lib.indexByte, ih]
    by_cases h : x = c
    · subst h; simp [cut0]
    · have hx : (x != c) = true := by simpa using h
      have hc : ¬ c = x := fun e => h e.symm
      by_cases hm : c ∈ s
      · simp [h, hm, hc, cut0]
      · simp [h, hm, hc]

theorem internal_stringslite_Cut (s : List UInt8) (c : UInt8) : PCall Tryd.prog n_internal_stringslite_Cut [S s, S [c]] (.tup [S (cut0 c s), S (cut1 c s), B (decide (c ∈ s))]) := by
  refine PCall.ofL fn_internal_stringslite_Cut (by simp) fun hs => ?_
  simp at hs
  have hI : PCall Tryd.prog n_internal_stringslite_Index [S s, S [c]] (I (Lib.indexByte s c)) :=
    PCall.same (vs := [.string (bs s), .string (bs [c])]) (y := .int .i64 (Lib.indexByte s c)) (by kernel_rfl) (fun _ _ => CV_mkv rfl) (fun w _ _ => Tryd.stringslite_Index_one (bs s) c w)
  rw [indexByte_cut] at hI
  simp [c_internal_stringslite_Cut, r_internal_stringslite_Cut_0, r_internal_stringslite_Cut_1]
  refine callQ_v hI ?_
  by_cases hm : c ∈ s
  · obtain ⟨h1, h2⟩ := cut_split hm
    have hlen := congrArg List.length h1
    simp only [List.length_append, List.length_cons] at hlen
    have e0 : s.take (cut0 c s).length = cut0 c s := by
      rw [show s.take (cut0 c s).length = (cut0 c s ++ c :: cut1 c s).take (cut0 c s).length by rw [← h1]]
      exact List.take_left
    have e1 : s.drop ((cut0 c s).length + 1) = cut1 c s := by
      rw [show s.drop ((cut0 c s).length + 1) = (cut0 c s ++ c :: cut1 c s).drop ((cut0 c s).length + 1) by rw [← h1]]
      exact drop_line' h2
    simp [r_internal_stringslite_Cut_2, hm]
    simp [r_internal_stringslite_Cut_3, p_internal_stringslite_Cut_3]
    rw [wrap64 (by omega) (by omega)]
    rw [show (((cut0 c s).length : Int) + 1).toNat = (cut0 c s).length + 1 by omega, e0, e1, List.take_of_length_le (by omega)]
    exact ⟨by omega, by omega, oEnd_of (by first | kernel_rfl | simp) (by first | kernel_rfl | simp), rfl, rfl, hm⟩
  · simp [r_internal_stringslite_Cut_2, r_internal_stringslite_Cut_4, hm]
    exact ⟨(cut0_none hm).symm, cut1_none hm⟩

theorem strings_Cut (s : List UInt8) (c : UInt8) : PCall Tryd.prog n_strings_Cut [S s, S [c]] (.tup [S (cut0 c s), S (cut1 c s), B (decide (c ∈ s))]) := by
  refine PCall.of fn_strings_Cut (by simp) ?_
  simp [c_strings_Cut, r_strings_Cut_0, r_strings_Cut_1]
  refine callQ_of (internal_stringslite_Cut s c) rfl (.inl (by simp)) (by simp) ?_
  simp
end Go.Proofs.YtgefdcllialhkaaDoor
