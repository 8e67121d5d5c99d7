/- What the draws of the law of tails answer. -/
import Derived.Test.YtgefdcllialhkaaCodeDrawTails
import Derived.Test.YtgefdcllialhkaaDrawBan
set_option linter.unusedVariables false
set_option linter.unusedSimpArgs false
namespace Go.Proofs.Ytgefdcllialhkaa
open Go.Abs

theorem s_DrawBannerSizes (code : List UInt8) : ∃ h w : Int, PCall Try.prog n_s_DrawBannerSizes [.ro 1 (code.map Y)] (.agg [I h, I w]) := by
  obtain ⟨h, w, k', s', hk, hM⟩ := s_l1Cur_proportion code 0 0 (by omega)
  refine ⟨h, w, ?_⟩
  refine PCall.of fn_s_DrawBannerSizes (by simp) ?_
  simp [c_s_DrawBannerSizes, r_s_DrawBannerSizes_0, r_s_DrawBannerSizes_1, r_s_DrawBannerSizes_2]
  refine callQ_Mz [6] [] (MCall.arg hM (by simp)) (by simp) (by simp) (by simp) (by simp) (by simp) (by first | rfl | simp) (by simp) ?_
  simp
theorem s_DrawReduceProportion (code : List UInt8) : ∃ h w : Int, PCall Try.prog n_s_DrawReduceProportion [.ro 1 (code.map Y)] (.tup [I h, I w]) := by
  obtain ⟨v, k1, s1, ⟨hv, hk1⟩, hM1⟩ := s_l1Cur_pick code 0 0 24 (by omega) (by omega)
  have hn := quo11 (v := v) (by omega) (by omega)
  rcases hn with hn | hn | hn
  · obtain ⟨h, k2, s2, ⟨hh, hk2⟩, hM2⟩ := s_l1Cur_among code k1 s1 [1, 2, 6, 10, 12, 1000, 100] (by omega) (by simp) (by simp)
    obtain ⟨w, k3, s3, ⟨hw, hk3⟩, hM3⟩ := s_l1Cur_among code k2 s2 [1, 3, 4, 9, 15, 1000, 200] (by omega) (by simp) (by simp)
    refine ⟨h, w, ?_⟩
    refine PCall.of fn_s_DrawReduceProportion (by simp) ?_
    simp [c_s_DrawReduceProportion, r_s_DrawReduceProportion_0, r_s_DrawReduceProportion_1, r_s_DrawReduceProportion_2]
    refine callQ_Mz [7] [] (MCall.arg hM1 (by simp)) (by simp) (by simp) (by simp) (by simp) (by simp) (by first | rfl | simp) (by simp) ?_
    simp
    rw [hn]
    simp [show IntKind.i64.wrap 7 = 7 from rfl, show IntKind.i64.wrap (7 + 0) = 7 from rfl]
    refine callQ_Mz [7] [9] (MCall.arg hM2 (by simp)) (by simp) (by simp) (by simp) (by simp) (by simp) (by first | rfl | simp) (by simp) ?_
    simp
    refine callQ_Mz [7] [17] (MCall.arg hM3 (by simp)) (by simp) (by simp) (by simp) (by simp) (by simp) (by first | rfl | simp) (by simp) ?_
    simp
  · obtain ⟨h, k2, s2, ⟨hh, hk2⟩, hM2⟩ := s_l1Cur_among code k1 s1 [1, 2, 6, 10, 12, 1000, 100, 0] (by omega) (by simp) (by simp)
    obtain ⟨w, k3, s3, ⟨hw, hk3⟩, hM3⟩ := s_l1Cur_among code k2 s2 [1, 3, 4, 9, 15, 1000, 200] (by omega) (by simp) (by simp)
    refine ⟨h, w, ?_⟩
    refine PCall.of fn_s_DrawReduceProportion (by simp) ?_
    simp [c_s_DrawReduceProportion, r_s_DrawReduceProportion_0, r_s_DrawReduceProportion_1, r_s_DrawReduceProportion_2]
    refine callQ_Mz [7] [] (MCall.arg hM1 (by simp)) (by simp) (by simp) (by simp) (by simp) (by simp) (by first | rfl | simp) (by simp) ?_
    simp
    rw [hn]
    simp [show IntKind.i64.wrap 8 = 8 from rfl, show IntKind.i64.wrap (7 + 1) = 8 from rfl]
    refine callQ_Mz [7] [9] (MCall.arg hM2 (by simp)) (by simp) (by simp) (by simp) (by simp) (by simp) (by first | rfl | simp) (by simp) ?_
    simp
    refine callQ_Mz [7] [17] (MCall.arg hM3 (by simp)) (by simp) (by simp) (by simp) (by simp) (by simp) (by first | rfl | simp) (by simp) ?_
    simp
  · obtain ⟨h, k2, s2, ⟨hh, hk2⟩, hM2⟩ := s_l1Cur_among code k1 s1 [1, 2, 6, 10, 12, 1000, 100, 0, 1001] (by omega) (by simp) (by simp)
    obtain ⟨w, k3, s3, ⟨hw, hk3⟩, hM3⟩ := s_l1Cur_among code k2 s2 [1, 3, 4, 9, 15, 1000, 200] (by omega) (by simp) (by simp)
    refine ⟨h, w, ?_⟩
    refine PCall.of fn_s_DrawReduceProportion (by simp) ?_
    simp [c_s_DrawReduceProportion, r_s_DrawReduceProportion_0, r_s_DrawReduceProportion_1, r_s_DrawReduceProportion_2]
    refine callQ_Mz [7] [] (MCall.arg hM1 (by simp)) (by simp) (by simp) (by simp) (by simp) (by simp) (by first | rfl | simp) (by simp) ?_
    simp
    rw [hn]
    simp [show IntKind.i64.wrap 9 = 9 from rfl, show IntKind.i64.wrap (7 + 2) = 9 from rfl]
    refine callQ_Mz [7] [9] (MCall.arg hM2 (by simp)) (by simp) (by simp) (by simp) (by simp) (by simp) (by first | rfl | simp) (by simp) ?_
    simp
    refine callQ_Mz [7] [17] (MCall.arg hM3 (by simp)) (by simp) (by simp) (by simp) (by simp) (by simp) (by first | rfl | simp) (by simp) ?_
    simp
theorem s_DrawBorderBanner (code : List UInt8) : ∃ (b : List (List Int)) (t w : Int), PCall Try.prog n_s_DrawBorderBanner [.ro 1 (code.map Y)] (.tup [.own 1 (b.map roI), I t, I w]) := by
  obtain ⟨b, k1, s1, ⟨hb, hk1⟩, hM1⟩ := s_l1Cur_banner code 0 0 (by omega)
  obtain ⟨t, k2, s2, ⟨ht, hk2⟩, hM2⟩ := s_l1Cur_anyTincture code k1 s1 (by omega)
  obtain ⟨v, k3, s3, ⟨hv, hk3⟩, hM3⟩ := s_l1Cur_pick code k2 s2 24 (by omega) (by omega)
  have hn := quo11 (v := v) (by omega) (by omega)
  rcases hn with hn | hn | hn
  · obtain ⟨w, k4, s4, ⟨hw, hk4⟩, hM4⟩ := s_l1Cur_among code k3 s3 [0, 1, 2, 3, 60] (by omega) (by simp) (by simp)
    refine ⟨b, t, w, ?_⟩
    refine PCall.of fn_s_DrawBorderBanner (by simp) ?_
    simp [c_s_DrawBorderBanner, r_s_DrawBorderBanner_0, r_s_DrawBorderBanner_1, r_s_DrawBorderBanner_2, r_s_DrawBorderBanner_3]
    refine callQ_Mz [9] [] (MCall.arg hM1 (by simp)) (by simp) (by simp) (by simp) (by simp) (by simp) (by first | rfl | simp) (by simp) ?_
    simp
    refine callQ_Mz [9] [] (MCall.arg hM2 (by simp)) (by simp) (by simp) (by simp) (by simp) (by simp) (by first | rfl | simp) (by simp) ?_
    simp
    refine callQ_Mz [9] [] (MCall.arg hM3 (by simp)) (by simp) (by simp) (by simp) (by simp) (by simp) (by first | rfl | simp) (by simp) ?_
    simp
    rw [hn]
    simp [show IntKind.i64.wrap 5 = 5 from rfl, show IntKind.i64.wrap (5 + 0) = 5 from rfl]
    refine callQ_Mz [9] [16] (MCall.arg hM4 (by simp)) (by simp) (by simp) (by simp) (by simp) (by simp) (by first | rfl | simp) (by simp) ?_
    simp
  · obtain ⟨w, k4, s4, ⟨hw, hk4⟩, hM4⟩ := s_l1Cur_among code k3 s3 [0, 1, 2, 3, 60, -1] (by omega) (by simp) (by simp)
    refine ⟨b, t, w, ?_⟩
    refine PCall.of fn_s_DrawBorderBanner (by simp) ?_
    simp [c_s_DrawBorderBanner, r_s_DrawBorderBanner_0, r_s_DrawBorderBanner_1, r_s_DrawBorderBanner_2, r_s_DrawBorderBanner_3]
    refine callQ_Mz [9] [] (MCall.arg hM1 (by simp)) (by simp) (by simp) (by simp) (by simp) (by simp) (by first | rfl | simp) (by simp) ?_
    simp
    refine callQ_Mz [9] [] (MCall.arg hM2 (by simp)) (by simp) (by simp) (by simp) (by simp) (by simp) (by first | rfl | simp) (by simp) ?_
    simp
    refine callQ_Mz [9] [] (MCall.arg hM3 (by simp)) (by simp) (by simp) (by simp) (by simp) (by simp) (by first | rfl | simp) (by simp) ?_
    simp
    rw [hn]
    simp [show IntKind.i64.wrap 6 = 6 from rfl, show IntKind.i64.wrap (5 + 1) = 6 from rfl]
    refine callQ_Mz [9] [16] (MCall.arg hM4 (by simp)) (by simp) (by simp) (by simp) (by simp) (by simp) (by first | rfl | simp) (by simp) ?_
    simp
  · obtain ⟨w, k4, s4, ⟨hw, hk4⟩, hM4⟩ := s_l1Cur_among code k3 s3 [0, 1, 2, 3, 60, -1, 61] (by omega) (by simp) (by simp)
    refine ⟨b, t, w, ?_⟩
    refine PCall.of fn_s_DrawBorderBanner (by simp) ?_
    simp [c_s_DrawBorderBanner, r_s_DrawBorderBanner_0, r_s_DrawBorderBanner_1, r_s_DrawBorderBanner_2, r_s_DrawBorderBanner_3]
    refine callQ_Mz [9] [] (MCall.arg hM1 (by simp)) (by simp) (by simp) (by simp) (by simp) (by simp) (by first | rfl | simp) (by simp) ?_
    simp
    refine callQ_Mz [9] [] (MCall.arg hM2 (by simp)) (by simp) (by simp) (by simp) (by simp) (by simp) (by first | rfl | simp) (by simp) ?_
    simp
    refine callQ_Mz [9] [] (MCall.arg hM3 (by simp)) (by simp) (by simp) (by simp) (by simp) (by simp) (by first | rfl | simp) (by simp) ?_
    simp
    rw [hn]
    simp [show IntKind.i64.wrap 7 = 7 from rfl, show IntKind.i64.wrap (5 + 2) = 7 from rfl]
    refine callQ_Mz [9] [16] (MCall.arg hM4 (by simp)) (by simp) (by simp) (by simp) (by simp) (by simp) (by first | rfl | simp) (by simp) ?_
    simp
theorem s_DrawTailBanner (code : List UInt8) : ∃ (b : List (List Int)) (t : Int), PCall Try.prog n_s_DrawTailBanner [.ro 1 (code.map Y)] (.tup [.own 1 (b.map roI), I t]) := by
  obtain ⟨b, k1, s1, ⟨hb, hbl, hk1⟩, hM1⟩ := s_l1Cur_banner code 0 0 (by omega)
  cases b with
  | nil =>
    refine ⟨[], 0, ?_⟩
    refine PCall.of fn_s_DrawTailBanner (by simp) ?_
    simp [c_s_DrawTailBanner, r_s_DrawTailBanner_0, r_s_DrawTailBanner_1, r_s_DrawTailBanner_2, r_s_DrawTailBanner_3]
    refine callQ_Mz [8] [] (MCall.arg hM1 (by simp)) (by simp) (by simp) (by simp) (by simp) (by simp) (by first | rfl | simp) (by simp) ?_
    simp [r_s_DrawTailBanner_4]
  | cons r b =>
    obtain ⟨v, hv⟩ : ∃ v, IntKind.i64.wrap ((r.length : Int).tdiv 2) = v := ⟨_, rfl⟩
    obtain ⟨w, k2, s2, ⟨hw, hk2⟩, hM2⟩ := s_l1Cur_among code k1 s1 [0, 1, 2, v, r.length, IntKind.i64.wrap (r.length + 1), -1] (by omega) (by simp) (by simp)
    refine ⟨r :: b, w, ?_⟩
    refine PCall.of fn_s_DrawTailBanner (by simp) ?_
    simp [c_s_DrawTailBanner, r_s_DrawTailBanner_0, r_s_DrawTailBanner_1, r_s_DrawTailBanner_2, r_s_DrawTailBanner_3]
    refine callQ_Mz [8] [] (MCall.arg hM1 (by simp)) (by simp) (by simp) (by simp) (by simp) (by simp) (by first | rfl | simp) (by simp) ?_
    have hv' : IntKind.i64.wrap ((r.length : Int) / 2) = v := by rw [← hv, Int.tdiv_eq_ediv_of_nonneg (by omega)]
    simp [r_s_DrawTailBanner_5, p_s_DrawTailBanner_5, hv', show ¬ ((b.length : Int) + 1 = 0) by omega]
    refine callD_M [8] [31] (l := [_]) (MCall.arg hM2 (by simp)) (by simp) (by simp) (by simp) (by simp) (by simp) (by first | rfl | simp) (by simp) (by simp) ?_
    simp
    exact oEnd_of (by simp [p_s_DrawTailBanner_5]) (by simp)
end Go.Proofs.Ytgefdcllialhkaa
