/- Draws of the law of mottoes. -/
import Derived.Test.YtopcfaffljjnbaaGreatDoorDrawMotto
import Derived.Test.YtopcfaffljjnbaaGreatDoorWRead
import Derived.Test.YtopcfaffljjnbaaGreatDoorWCenter
set_option linter.unusedVariables false
set_option linter.unusedSimpArgs false
namespace Go.Proofs.YtopcfaffljjnbaaGreatDoor
open Go.Abs

theorem s_DrawFewestLines (code : List UInt8) : ∃ (t : List UInt8) (c : Int), t.length ≤ 200 ∧ PCall Tryz.prog n_s_DrawFewestLines [.ro 1 (code.map Y)] (.tup [S t, I c]) := by
  obtain ⟨t, k1, s1, ⟨ht, hk1⟩, hM1⟩ := s_l1Cur_motto code 0 0 (by omega)
  obtain ⟨v, k2, s2, ⟨hv, hk2⟩, hM2⟩ := s_l1Cur_pick code k1 s1 24 (by omega) (by omega)
  have hn := quo11' (v := v) (by omega) (by omega)
  rcases hn with hn | hn | hn
  · obtain ⟨c, k3, s3, ⟨hc, hk3⟩, hM3⟩ := s_l1Cur_among code k2 s2 [1, 2, 3, 5, 20] (by omega) (by simp) (by simp)
    refine ⟨t, c, ht, ?_⟩
    refine PCall.of fn_s_DrawFewestLines (by simp) ?_
    simp [c_s_DrawFewestLines, r_s_DrawFewestLines_0, r_s_DrawFewestLines_1, r_s_DrawFewestLines_2]
    refine callQ_Mz [8] [] (MCall.arg hM1 (by simp)) (by simp) (by simp) (by simp) (by simp) (by simp) (by first | rfl | simp) (by simp) ?_
    simp [r_s_DrawFewestLines_3]
    refine callQ_Mz [8] [] (MCall.arg hM2 (by simp)) (by simp) (by simp) (by simp) (by simp) (by simp) (by first | rfl | simp) (by simp) ?_
    simp
    rw [hn]
    simp [show IntKind.i64.wrap 5 = 5 from rfl, show IntKind.i64.wrap (5 + 0) = 5 from rfl]
    refine callQ_Mz [8] [13] (MCall.arg hM3 (by simp)) (by simp) (by simp) (by simp) (by simp) (by simp) (by first | rfl | simp) (by simp) ?_
    simp
  · obtain ⟨c, k3, s3, ⟨hc, hk3⟩, hM3⟩ := s_l1Cur_among code k2 s2 [1, 2, 3, 5, 20, 0] (by omega) (by simp) (by simp)
    refine ⟨t, c, ht, ?_⟩
    refine PCall.of fn_s_DrawFewestLines (by simp) ?_
    simp [c_s_DrawFewestLines, r_s_DrawFewestLines_0, r_s_DrawFewestLines_1, r_s_DrawFewestLines_2]
    refine callQ_Mz [8] [] (MCall.arg hM1 (by simp)) (by simp) (by simp) (by simp) (by simp) (by simp) (by first | rfl | simp) (by simp) ?_
    simp [r_s_DrawFewestLines_3]
    refine callQ_Mz [8] [] (MCall.arg hM2 (by simp)) (by simp) (by simp) (by simp) (by simp) (by simp) (by first | rfl | simp) (by simp) ?_
    simp
    rw [hn]
    simp [show IntKind.i64.wrap 6 = 6 from rfl, show IntKind.i64.wrap (5 + 1) = 6 from rfl]
    refine callQ_Mz [8] [13] (MCall.arg hM3 (by simp)) (by simp) (by simp) (by simp) (by simp) (by simp) (by first | rfl | simp) (by simp) ?_
    simp
  · obtain ⟨c, k3, s3, ⟨hc, hk3⟩, hM3⟩ := s_l1Cur_among code k2 s2 [1, 2, 3, 5, 20, 0, 21] (by omega) (by simp) (by simp)
    refine ⟨t, c, ht, ?_⟩
    refine PCall.of fn_s_DrawFewestLines (by simp) ?_
    simp [c_s_DrawFewestLines, r_s_DrawFewestLines_0, r_s_DrawFewestLines_1, r_s_DrawFewestLines_2]
    refine callQ_Mz [8] [] (MCall.arg hM1 (by simp)) (by simp) (by simp) (by simp) (by simp) (by simp) (by first | rfl | simp) (by simp) ?_
    simp [r_s_DrawFewestLines_3]
    refine callQ_Mz [8] [] (MCall.arg hM2 (by simp)) (by simp) (by simp) (by simp) (by simp) (by simp) (by first | rfl | simp) (by simp) ?_
    simp
    rw [hn]
    simp [show IntKind.i64.wrap 7 = 7 from rfl, show IntKind.i64.wrap (5 + 2) = 7 from rfl]
    refine callQ_Mz [8] [13] (MCall.arg hM3 (by simp)) (by simp) (by simp) (by simp) (by simp) (by simp) (by first | rfl | simp) (by simp) ?_
    simp
theorem s_DrawCenterLine (code : List UInt8) : ∃ (t : List UInt8) (w : Int), t.length ≤ 200 ∧ PCall Tryz.prog n_s_DrawCenterLine [.ro 1 (code.map Y)] (.tup [S t, I w]) := by
  obtain ⟨t, k1, s1, ⟨ht, hk1⟩, hM1⟩ := s_l1Cur_motto code 0 0 (by omega)
  obtain ⟨w, k2, s2, ⟨hw, hk2⟩, hM2⟩ := s_l1Cur_among code k1 s1 [(t.length : Int), t.length + 1, t.length + 2, t.length + 5, 40, t.length - 1, 41] (by omega) (by simp) (by simp)
  refine ⟨t, w, ht, ?_⟩
  refine PCall.of fn_s_DrawCenterLine (by simp) ?_
  simp [c_s_DrawCenterLine, r_s_DrawCenterLine_0, r_s_DrawCenterLine_1, r_s_DrawCenterLine_2]
  refine callQ_Mz [8] [] (MCall.arg hM1 (by simp)) (by simp) (by simp) (by simp) (by simp) (by simp) (by first | rfl | simp) (by simp) ?_
  simp [r_s_DrawCenterLine_3]
  rw [wrap64 (n := (t.length : Int) + 1) (by omega) (by omega), wrap64 (n := (t.length : Int) + 2) (by omega) (by omega), wrap64 (n := (t.length : Int) + 5) (by omega) (by omega), wrap64 (n := (t.length : Int) - 1) (by omega) (by omega)]
  refine callQ_Mz [8] [27] (MCall.arg hM2 (by simp)) (by simp) (by simp) (by simp) (by simp) (by simp) (by first | rfl | simp) (by simp) ?_
  simp
theorem s_DrawReadScroll (code : List UInt8) : ∃ t : List UInt8, t.length ≤ 4000 ∧ PCall Tryz.prog n_s_DrawReadScroll [.ro 1 (code.map Y)] (S t) := by
  obtain ⟨t, k1, s1, ⟨ht, hk1⟩, hM1⟩ := s_l1Cur_motto code 0 0 (by omega)
  obtain ⟨w, k2, s2, ⟨hw, hk2⟩, hM2⟩ := s_l1Cur_scroll code k1 s1 (by omega)
  have hsl := scrollT_len t w
  obtain ⟨b, k3, s3, hk3, hM3⟩ := s_l1Cur_one code k2 s2 4 (by omega) (by omega)
  obtain ⟨v, k4, s4, ⟨hv, hk4⟩, hM4⟩ := s_l1Cur_spoilt code k3 s3 (scrollT t w) [32, 61, 65, 10] (by omega) (by simp) (by simp) (by omega)
  refine ⟨if b then v else scrollT t w, by split <;> omega, ?_⟩
  refine PCall.of fn_s_DrawReadScroll (by simp) ?_
  simp [c_s_DrawReadScroll, r_s_DrawReadScroll_0, r_s_DrawReadScroll_1, r_s_DrawReadScroll_2]
  refine callQ_Mz [9] [] (MCall.arg hM1 (by simp)) (by simp) (by simp) (by simp) (by simp) (by simp) (by first | rfl | simp) (by simp) ?_
  simp [r_s_DrawReadScroll_3]
  refine callQ_Mz [9] [] (MCall.arg hM2 (by simp)) (by simp) (by simp) (by simp) (by simp) (by simp) (by first | rfl | simp) (by simp) ?_
  simp
  refine callQ_of (PCall.arg (s_ScrollPicture t w (by omega)) (by simp)) rfl (.inl (by simp)) (by simp) ?_
  simp [r_s_DrawReadScroll_4]
  refine callQ_Mz [9] [] (MCall.arg hM3 (by simp)) (by simp) (by simp) (by simp) (by simp) (by simp) (by first | rfl | simp) (by simp) ?_
  cases b with
  | false => simp [r_s_DrawReadScroll_6]
  | true =>
    simp [r_s_DrawReadScroll_5]
    refine callQ_Mz [9] [] (MCall.arg hM4 (by simp)) (by simp) (by simp) (by simp) (by simp) (by simp) (by first | rfl | simp) (by simp) ?_
    simp [r_s_DrawReadScroll_6]
theorem s_DrawSharedWords (code : List UInt8) : ∃ a b : List UInt8, (a.length ≤ 200 ∧ b.length ≤ 200) ∧ PCall Tryz.prog n_s_DrawSharedWords [.ro 1 (code.map Y)] (.tup [S a, S b]) := by
  obtain ⟨a, k1, s1, ⟨ha, hk1⟩, hM1⟩ := s_l1Cur_motto code 0 0 (by omega)
  obtain ⟨b, k2, s2, ⟨hb, hk2⟩, hM2⟩ := s_l1Cur_motto code k1 s1 (by omega)
  refine ⟨a, b, ⟨ha, hb⟩, ?_⟩
  refine PCall.of fn_s_DrawSharedWords (by simp) ?_
  simp [c_s_DrawSharedWords, r_s_DrawSharedWords_0, r_s_DrawSharedWords_1, r_s_DrawSharedWords_2]
  refine callQ_Mz [8] [] (MCall.arg hM1 (by simp)) (by simp) (by simp) (by simp) (by simp) (by simp) (by first | rfl | simp) (by simp) ?_
  simp [r_s_DrawSharedWords_3]
  refine callQ_Mz [8] [] (MCall.arg hM2 (by simp)) (by simp) (by simp) (by simp) (by simp) (by simp) (by first | rfl | simp) (by simp) ?_
  simp
theorem s_DrawIsValidMotto (code : List UInt8) : ∃ a : List UInt8, a.length ≤ 200 ∧ PCall Tryz.prog n_s_DrawIsValidMotto [.ro 1 (code.map Y)] (S a) := by
  obtain ⟨a, k1, s1, ⟨ha, hk1⟩, hM1⟩ := s_l1Cur_motto code 0 0 (by omega)
  refine ⟨a, ha, ?_⟩
  refine PCall.of fn_s_DrawIsValidMotto (by simp) ?_
  simp [c_s_DrawIsValidMotto, r_s_DrawIsValidMotto_0, r_s_DrawIsValidMotto_1, r_s_DrawIsValidMotto_2]
  refine callQ_Mz [6] [] (MCall.arg hM1 (by simp)) (by simp) (by simp) (by simp) (by simp) (by simp) (by first | rfl | simp) (by simp) ?_
  simp
theorem s_DrawInitialLetters (code : List UInt8) : ∃ a : List UInt8, a.length ≤ 200 ∧ PCall Tryz.prog n_s_DrawInitialLetters [.ro 1 (code.map Y)] (S a) := by
  obtain ⟨a, ha, hP⟩ := s_DrawIsValidMotto code
  refine ⟨a, ha, ?_⟩
  refine PCall.of fn_s_DrawInitialLetters (by simp) ?_
  simp [c_s_DrawInitialLetters, r_s_DrawInitialLetters_0, r_s_DrawInitialLetters_1]
  exact callQ_v (PCall.arg hP (by simp)) (by simp)
end Go.Proofs.YtopcfaffljjnbaaGreatDoor
