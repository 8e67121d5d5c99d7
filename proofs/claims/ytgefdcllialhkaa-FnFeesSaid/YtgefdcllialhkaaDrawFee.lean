/- Draws of fees: printed by drawgen.py. -/
import Derived.Test.YtgefdcllialhkaaCodeDrawFee
import Derived.Test.YtgefdcllialhkaaDrawArms
import Derived.Test.YtgefdcllialhkaaDrawTar
import Derived.Test.YtgefdcllialhkaaDrawBan
set_option linter.unusedVariables false
set_option linter.unusedSimpArgs false
namespace Go.Proofs.Ytgefdcllialhkaa
open Go.Abs

set_option maxHeartbeats 4000000 in
theorem s_DrawCheapestRank (code : List UInt8) : ∃ (r0 : Tariff), PCall Try.prog n_s_DrawCheapestRank [.ro 1 (code.map Y)] (eTariff r0) := by
  obtain ⟨v0, k1, s1, hk0, hM0⟩ := s_l1Cur_tariff code 0 0 (by omega)
  refine ⟨⟨v0.base, v0.layer, v0.urgent, v0.refund⟩, ?_⟩
  refine PCall.of fn_s_DrawCheapestRank (by simp) ?_
  simp [c_s_DrawCheapestRank, r_s_DrawCheapestRank_0, r_s_DrawCheapestRank_1, r_s_DrawCheapestRank_2]
  refine callQ_Mz [6] [] (MCall.arg hM0 (by simp)) (by simp) (by simp) (by simp) (by simp) (by simp) (by first | rfl | simp) (by simp) ?_
  simp [c_s_DrawCheapestRank, r_s_DrawCheapestRank_0, r_s_DrawCheapestRank_1, r_s_DrawCheapestRank_2]
set_option maxHeartbeats 4000000 in
theorem s_DrawSplitFee (code : List UInt8) : ∃ (r0 : Int) (r1 : Int), PCall Try.prog n_s_DrawSplitFee [.ro 1 (code.map Y)] (.tup [I r0, I r1]) := by
  obtain ⟨v0, k1, s1, ⟨hv0, hk0⟩, hM0⟩ := s_l1Cur_pick code 0 0 24 (by omega) (by omega)
  rcases quo11 (v := v0) (by omega) (by omega) with hn1 | hn1 | hn1
  · obtain ⟨v2, k3, s3, ⟨hv2, hk2⟩, hM2⟩ := s_l1Cur_among code k1 s1 [0, 1, 100, 101, 1000000] (by omega) (by simp) (by simp)
    obtain ⟨v3, k4, s4, ⟨hv3, hk3⟩, hM3⟩ := s_l1Cur_pick code k3 s3 24 (by omega) (by omega)
    rcases quo11 (v := v3) (by omega) (by omega) with hn4 | hn4 | hn4
    · obtain ⟨v5, k6, s6, ⟨hv5, hk5⟩, hM5⟩ := s_l1Cur_among code k4 s4 [1, 2, 3, 7, 12] (by omega) (by simp) (by simp)
      refine ⟨v2, v5, ?_⟩
      refine PCall.of fn_s_DrawSplitFee (by simp) ?_
      simp [c_s_DrawSplitFee, r_s_DrawSplitFee_0, r_s_DrawSplitFee_1, r_s_DrawSplitFee_2, hn1, show IntKind.i64.wrap 5 = 5 from rfl, show IntKind.i64.wrap (5 + 0) = 5 from rfl, hn4, show IntKind.i64.wrap 5 = 5 from rfl, show IntKind.i64.wrap (5 + 0) = 5 from rfl]
      refine callQ_Mz [7] [] (MCall.arg hM0 (by simp)) (by simp) (by simp) (by simp) (by simp) (by simp) (by first | rfl | simp) (by simp) ?_
      simp [c_s_DrawSplitFee, r_s_DrawSplitFee_0, r_s_DrawSplitFee_1, r_s_DrawSplitFee_2, hn1, show IntKind.i64.wrap 5 = 5 from rfl, show IntKind.i64.wrap (5 + 0) = 5 from rfl, hn4, show IntKind.i64.wrap 5 = 5 from rfl, show IntKind.i64.wrap (5 + 0) = 5 from rfl]
      refine callQ_Mz [7] [9] (MCall.arg hM2 (by simp)) (by simp) (by simp) (by simp) (by simp) (by simp) (by first | rfl | simp) (by simp) ?_
      simp [c_s_DrawSplitFee, r_s_DrawSplitFee_0, r_s_DrawSplitFee_1, r_s_DrawSplitFee_2, hn1, show IntKind.i64.wrap 5 = 5 from rfl, show IntKind.i64.wrap (5 + 0) = 5 from rfl, hn4, show IntKind.i64.wrap 5 = 5 from rfl, show IntKind.i64.wrap (5 + 0) = 5 from rfl]
      refine callQ_Mz [7] [] (MCall.arg hM3 (by simp)) (by simp) (by simp) (by simp) (by simp) (by simp) (by first | rfl | simp) (by simp) ?_
      simp [c_s_DrawSplitFee, r_s_DrawSplitFee_0, r_s_DrawSplitFee_1, r_s_DrawSplitFee_2, hn1, show IntKind.i64.wrap 5 = 5 from rfl, show IntKind.i64.wrap (5 + 0) = 5 from rfl, hn4, show IntKind.i64.wrap 5 = 5 from rfl, show IntKind.i64.wrap (5 + 0) = 5 from rfl]
      refine callQ_Mz [7] [17] (MCall.arg hM5 (by simp)) (by simp) (by simp) (by simp) (by simp) (by simp) (by first | rfl | simp) (by simp) ?_
      simp [c_s_DrawSplitFee, r_s_DrawSplitFee_0, r_s_DrawSplitFee_1, r_s_DrawSplitFee_2, hn1, show IntKind.i64.wrap 5 = 5 from rfl, show IntKind.i64.wrap (5 + 0) = 5 from rfl, hn4, show IntKind.i64.wrap 5 = 5 from rfl, show IntKind.i64.wrap (5 + 0) = 5 from rfl]
    · obtain ⟨v5, k6, s6, ⟨hv5, hk5⟩, hM5⟩ := s_l1Cur_among code k4 s4 [1, 2, 3, 7, 12, 0] (by omega) (by simp) (by simp)
      refine ⟨v2, v5, ?_⟩
      refine PCall.of fn_s_DrawSplitFee (by simp) ?_
      simp [c_s_DrawSplitFee, r_s_DrawSplitFee_0, r_s_DrawSplitFee_1, r_s_DrawSplitFee_2, hn1, show IntKind.i64.wrap 5 = 5 from rfl, show IntKind.i64.wrap (5 + 0) = 5 from rfl, hn4, show IntKind.i64.wrap 6 = 6 from rfl, show IntKind.i64.wrap (5 + 1) = 6 from rfl]
      refine callQ_Mz [7] [] (MCall.arg hM0 (by simp)) (by simp) (by simp) (by simp) (by simp) (by simp) (by first | rfl | simp) (by simp) ?_
      simp [c_s_DrawSplitFee, r_s_DrawSplitFee_0, r_s_DrawSplitFee_1, r_s_DrawSplitFee_2, hn1, show IntKind.i64.wrap 5 = 5 from rfl, show IntKind.i64.wrap (5 + 0) = 5 from rfl, hn4, show IntKind.i64.wrap 6 = 6 from rfl, show IntKind.i64.wrap (5 + 1) = 6 from rfl]
      refine callQ_Mz [7] [9] (MCall.arg hM2 (by simp)) (by simp) (by simp) (by simp) (by simp) (by simp) (by first | rfl | simp) (by simp) ?_
      simp [c_s_DrawSplitFee, r_s_DrawSplitFee_0, r_s_DrawSplitFee_1, r_s_DrawSplitFee_2, hn1, show IntKind.i64.wrap 5 = 5 from rfl, show IntKind.i64.wrap (5 + 0) = 5 from rfl, hn4, show IntKind.i64.wrap 6 = 6 from rfl, show IntKind.i64.wrap (5 + 1) = 6 from rfl]
      refine callQ_Mz [7] [] (MCall.arg hM3 (by simp)) (by simp) (by simp) (by simp) (by simp) (by simp) (by first | rfl | simp) (by simp) ?_
      simp [c_s_DrawSplitFee, r_s_DrawSplitFee_0, r_s_DrawSplitFee_1, r_s_DrawSplitFee_2, hn1, show IntKind.i64.wrap 5 = 5 from rfl, show IntKind.i64.wrap (5 + 0) = 5 from rfl, hn4, show IntKind.i64.wrap 6 = 6 from rfl, show IntKind.i64.wrap (5 + 1) = 6 from rfl]
      refine callQ_Mz [7] [17] (MCall.arg hM5 (by simp)) (by simp) (by simp) (by simp) (by simp) (by simp) (by first | rfl | simp) (by simp) ?_
      simp [c_s_DrawSplitFee, r_s_DrawSplitFee_0, r_s_DrawSplitFee_1, r_s_DrawSplitFee_2, hn1, show IntKind.i64.wrap 5 = 5 from rfl, show IntKind.i64.wrap (5 + 0) = 5 from rfl, hn4, show IntKind.i64.wrap 6 = 6 from rfl, show IntKind.i64.wrap (5 + 1) = 6 from rfl]
    · obtain ⟨v5, k6, s6, ⟨hv5, hk5⟩, hM5⟩ := s_l1Cur_among code k4 s4 [1, 2, 3, 7, 12, 0, 13] (by omega) (by simp) (by simp)
      refine ⟨v2, v5, ?_⟩
      refine PCall.of fn_s_DrawSplitFee (by simp) ?_
      simp [c_s_DrawSplitFee, r_s_DrawSplitFee_0, r_s_DrawSplitFee_1, r_s_DrawSplitFee_2, hn1, show IntKind.i64.wrap 5 = 5 from rfl, show IntKind.i64.wrap (5 + 0) = 5 from rfl, hn4, show IntKind.i64.wrap 7 = 7 from rfl, show IntKind.i64.wrap (5 + 2) = 7 from rfl]
      refine callQ_Mz [7] [] (MCall.arg hM0 (by simp)) (by simp) (by simp) (by simp) (by simp) (by simp) (by first | rfl | simp) (by simp) ?_
      simp [c_s_DrawSplitFee, r_s_DrawSplitFee_0, r_s_DrawSplitFee_1, r_s_DrawSplitFee_2, hn1, show IntKind.i64.wrap 5 = 5 from rfl, show IntKind.i64.wrap (5 + 0) = 5 from rfl, hn4, show IntKind.i64.wrap 7 = 7 from rfl, show IntKind.i64.wrap (5 + 2) = 7 from rfl]
      refine callQ_Mz [7] [9] (MCall.arg hM2 (by simp)) (by simp) (by simp) (by simp) (by simp) (by simp) (by first | rfl | simp) (by simp) ?_
      simp [c_s_DrawSplitFee, r_s_DrawSplitFee_0, r_s_DrawSplitFee_1, r_s_DrawSplitFee_2, hn1, show IntKind.i64.wrap 5 = 5 from rfl, show IntKind.i64.wrap (5 + 0) = 5 from rfl, hn4, show IntKind.i64.wrap 7 = 7 from rfl, show IntKind.i64.wrap (5 + 2) = 7 from rfl]
      refine callQ_Mz [7] [] (MCall.arg hM3 (by simp)) (by simp) (by simp) (by simp) (by simp) (by simp) (by first | rfl | simp) (by simp) ?_
      simp [c_s_DrawSplitFee, r_s_DrawSplitFee_0, r_s_DrawSplitFee_1, r_s_DrawSplitFee_2, hn1, show IntKind.i64.wrap 5 = 5 from rfl, show IntKind.i64.wrap (5 + 0) = 5 from rfl, hn4, show IntKind.i64.wrap 7 = 7 from rfl, show IntKind.i64.wrap (5 + 2) = 7 from rfl]
      refine callQ_Mz [7] [17] (MCall.arg hM5 (by simp)) (by simp) (by simp) (by simp) (by simp) (by simp) (by first | rfl | simp) (by simp) ?_
      simp [c_s_DrawSplitFee, r_s_DrawSplitFee_0, r_s_DrawSplitFee_1, r_s_DrawSplitFee_2, hn1, show IntKind.i64.wrap 5 = 5 from rfl, show IntKind.i64.wrap (5 + 0) = 5 from rfl, hn4, show IntKind.i64.wrap 7 = 7 from rfl, show IntKind.i64.wrap (5 + 2) = 7 from rfl]
  · obtain ⟨v2, k3, s3, ⟨hv2, hk2⟩, hM2⟩ := s_l1Cur_among code k1 s1 [0, 1, 100, 101, 1000000, -1] (by omega) (by simp) (by simp)
    obtain ⟨v3, k4, s4, ⟨hv3, hk3⟩, hM3⟩ := s_l1Cur_pick code k3 s3 24 (by omega) (by omega)
    rcases quo11 (v := v3) (by omega) (by omega) with hn4 | hn4 | hn4
    · obtain ⟨v5, k6, s6, ⟨hv5, hk5⟩, hM5⟩ := s_l1Cur_among code k4 s4 [1, 2, 3, 7, 12] (by omega) (by simp) (by simp)
      refine ⟨v2, v5, ?_⟩
      refine PCall.of fn_s_DrawSplitFee (by simp) ?_
      simp [c_s_DrawSplitFee, r_s_DrawSplitFee_0, r_s_DrawSplitFee_1, r_s_DrawSplitFee_2, hn1, show IntKind.i64.wrap 6 = 6 from rfl, show IntKind.i64.wrap (5 + 1) = 6 from rfl, hn4, show IntKind.i64.wrap 5 = 5 from rfl, show IntKind.i64.wrap (5 + 0) = 5 from rfl]
      refine callQ_Mz [7] [] (MCall.arg hM0 (by simp)) (by simp) (by simp) (by simp) (by simp) (by simp) (by first | rfl | simp) (by simp) ?_
      simp [c_s_DrawSplitFee, r_s_DrawSplitFee_0, r_s_DrawSplitFee_1, r_s_DrawSplitFee_2, hn1, show IntKind.i64.wrap 6 = 6 from rfl, show IntKind.i64.wrap (5 + 1) = 6 from rfl, hn4, show IntKind.i64.wrap 5 = 5 from rfl, show IntKind.i64.wrap (5 + 0) = 5 from rfl]
      refine callQ_Mz [7] [9] (MCall.arg hM2 (by simp)) (by simp) (by simp) (by simp) (by simp) (by simp) (by first | rfl | simp) (by simp) ?_
      simp [c_s_DrawSplitFee, r_s_DrawSplitFee_0, r_s_DrawSplitFee_1, r_s_DrawSplitFee_2, hn1, show IntKind.i64.wrap 6 = 6 from rfl, show IntKind.i64.wrap (5 + 1) = 6 from rfl, hn4, show IntKind.i64.wrap 5 = 5 from rfl, show IntKind.i64.wrap (5 + 0) = 5 from rfl]
      refine callQ_Mz [7] [] (MCall.arg hM3 (by simp)) (by simp) (by simp) (by simp) (by simp) (by simp) (by first | rfl | simp) (by simp) ?_
      simp [c_s_DrawSplitFee, r_s_DrawSplitFee_0, r_s_DrawSplitFee_1, r_s_DrawSplitFee_2, hn1, show IntKind.i64.wrap 6 = 6 from rfl, show IntKind.i64.wrap (5 + 1) = 6 from rfl, hn4, show IntKind.i64.wrap 5 = 5 from rfl, show IntKind.i64.wrap (5 + 0) = 5 from rfl]
      refine callQ_Mz [7] [17] (MCall.arg hM5 (by simp)) (by simp) (by simp) (by simp) (by simp) (by simp) (by first | rfl | simp) (by simp) ?_
      simp [c_s_DrawSplitFee, r_s_DrawSplitFee_0, r_s_DrawSplitFee_1, r_s_DrawSplitFee_2, hn1, show IntKind.i64.wrap 6 = 6 from rfl, show IntKind.i64.wrap (5 + 1) = 6 from rfl, hn4, show IntKind.i64.wrap 5 = 5 from rfl, show IntKind.i64.wrap (5 + 0) = 5 from rfl]
    · obtain ⟨v5, k6, s6, ⟨hv5, hk5⟩, hM5⟩ := s_l1Cur_among code k4 s4 [1, 2, 3, 7, 12, 0] (by omega) (by simp) (by simp)
      refine ⟨v2, v5, ?_⟩
      refine PCall.of fn_s_DrawSplitFee (by simp) ?_
      simp [c_s_DrawSplitFee, r_s_DrawSplitFee_0, r_s_DrawSplitFee_1, r_s_DrawSplitFee_2, hn1, show IntKind.i64.wrap 6 = 6 from rfl, show IntKind.i64.wrap (5 + 1) = 6 from rfl, hn4, show IntKind.i64.wrap 6 = 6 from rfl, show IntKind.i64.wrap (5 + 1) = 6 from rfl]
      refine callQ_Mz [7] [] (MCall.arg hM0 (by simp)) (by simp) (by simp) (by simp) (by simp) (by simp) (by first | rfl | simp) (by simp) ?_
      simp [c_s_DrawSplitFee, r_s_DrawSplitFee_0, r_s_DrawSplitFee_1, r_s_DrawSplitFee_2, hn1, show IntKind.i64.wrap 6 = 6 from rfl, show IntKind.i64.wrap (5 + 1) = 6 from rfl, hn4, show IntKind.i64.wrap 6 = 6 from rfl, show IntKind.i64.wrap (5 + 1) = 6 from rfl]
      refine callQ_Mz [7] [9] (MCall.arg hM2 (by simp)) (by simp) (by simp) (by simp) (by simp) (by simp) (by first | rfl | simp) (by simp) ?_
      simp [c_s_DrawSplitFee, r_s_DrawSplitFee_0, r_s_DrawSplitFee_1, r_s_DrawSplitFee_2, hn1, show IntKind.i64.wrap 6 = 6 from rfl, show IntKind.i64.wrap (5 + 1) = 6 from rfl, hn4, show IntKind.i64.wrap 6 = 6 from rfl, show IntKind.i64.wrap (5 + 1) = 6 from rfl]
      refine callQ_Mz [7] [] (MCall.arg hM3 (by simp)) (by simp) (by simp) (by simp) (by simp) (by simp) (by first | rfl | simp) (by simp) ?_
      simp [c_s_DrawSplitFee, r_s_DrawSplitFee_0, r_s_DrawSplitFee_1, r_s_DrawSplitFee_2, hn1, show IntKind.i64.wrap 6 = 6 from rfl, show IntKind.i64.wrap (5 + 1) = 6 from rfl, hn4, show IntKind.i64.wrap 6 = 6 from rfl, show IntKind.i64.wrap (5 + 1) = 6 from rfl]
      refine callQ_Mz [7] [17] (MCall.arg hM5 (by simp)) (by simp) (by simp) (by simp) (by simp) (by simp) (by first | rfl | simp) (by simp) ?_
      simp [c_s_DrawSplitFee, r_s_DrawSplitFee_0, r_s_DrawSplitFee_1, r_s_DrawSplitFee_2, hn1, show IntKind.i64.wrap 6 = 6 from rfl, show IntKind.i64.wrap (5 + 1) = 6 from rfl, hn4, show IntKind.i64.wrap 6 = 6 from rfl, show IntKind.i64.wrap (5 + 1) = 6 from rfl]
    · obtain ⟨v5, k6, s6, ⟨hv5, hk5⟩, hM5⟩ := s_l1Cur_among code k4 s4 [1, 2, 3, 7, 12, 0, 13] (by omega) (by simp) (by simp)
      refine ⟨v2, v5, ?_⟩
      refine PCall.of fn_s_DrawSplitFee (by simp) ?_
      simp [c_s_DrawSplitFee, r_s_DrawSplitFee_0, r_s_DrawSplitFee_1, r_s_DrawSplitFee_2, hn1, show IntKind.i64.wrap 6 = 6 from rfl, show IntKind.i64.wrap (5 + 1) = 6 from rfl, hn4, show IntKind.i64.wrap 7 = 7 from rfl, show IntKind.i64.wrap (5 + 2) = 7 from rfl]
      refine callQ_Mz [7] [] (MCall.arg hM0 (by simp)) (by simp) (by simp) (by simp) (by simp) (by simp) (by first | rfl | simp) (by simp) ?_
      simp [c_s_DrawSplitFee, r_s_DrawSplitFee_0, r_s_DrawSplitFee_1, r_s_DrawSplitFee_2, hn1, show IntKind.i64.wrap 6 = 6 from rfl, show IntKind.i64.wrap (5 + 1) = 6 from rfl, hn4, show IntKind.i64.wrap 7 = 7 from rfl, show IntKind.i64.wrap (5 + 2) = 7 from rfl]
      refine callQ_Mz [7] [9] (MCall.arg hM2 (by simp)) (by simp) (by simp) (by simp) (by simp) (by simp) (by first | rfl | simp) (by simp) ?_
      simp [c_s_DrawSplitFee, r_s_DrawSplitFee_0, r_s_DrawSplitFee_1, r_s_DrawSplitFee_2, hn1, show IntKind.i64.wrap 6 = 6 from rfl, show IntKind.i64.wrap (5 + 1) = 6 from rfl, hn4, show IntKind.i64.wrap 7 = 7 from rfl, show IntKind.i64.wrap (5 + 2) = 7 from rfl]
      refine callQ_Mz [7] [] (MCall.arg hM3 (by simp)) (by simp) (by simp) (by simp) (by simp) (by simp) (by first | rfl | simp) (by simp) ?_
      simp [c_s_DrawSplitFee, r_s_DrawSplitFee_0, r_s_DrawSplitFee_1, r_s_DrawSplitFee_2, hn1, show IntKind.i64.wrap 6 = 6 from rfl, show IntKind.i64.wrap (5 + 1) = 6 from rfl, hn4, show IntKind.i64.wrap 7 = 7 from rfl, show IntKind.i64.wrap (5 + 2) = 7 from rfl]
      refine callQ_Mz [7] [17] (MCall.arg hM5 (by simp)) (by simp) (by simp) (by simp) (by simp) (by simp) (by first | rfl | simp) (by simp) ?_
      simp [c_s_DrawSplitFee, r_s_DrawSplitFee_0, r_s_DrawSplitFee_1, r_s_DrawSplitFee_2, hn1, show IntKind.i64.wrap 6 = 6 from rfl, show IntKind.i64.wrap (5 + 1) = 6 from rfl, hn4, show IntKind.i64.wrap 7 = 7 from rfl, show IntKind.i64.wrap (5 + 2) = 7 from rfl]
  · obtain ⟨v2, k3, s3, ⟨hv2, hk2⟩, hM2⟩ := s_l1Cur_among code k1 s1 [0, 1, 100, 101, 1000000, -1, 1000001] (by omega) (by simp) (by simp)
    obtain ⟨v3, k4, s4, ⟨hv3, hk3⟩, hM3⟩ := s_l1Cur_pick code k3 s3 24 (by omega) (by omega)
    rcases quo11 (v := v3) (by omega) (by omega) with hn4 | hn4 | hn4
    · obtain ⟨v5, k6, s6, ⟨hv5, hk5⟩, hM5⟩ := s_l1Cur_among code k4 s4 [1, 2, 3, 7, 12] (by omega) (by simp) (by simp)
      refine ⟨v2, v5, ?_⟩
      refine PCall.of fn_s_DrawSplitFee (by simp) ?_
      simp [c_s_DrawSplitFee, r_s_DrawSplitFee_0, r_s_DrawSplitFee_1, r_s_DrawSplitFee_2, hn1, show IntKind.i64.wrap 7 = 7 from rfl, show IntKind.i64.wrap (5 + 2) = 7 from rfl, hn4, show IntKind.i64.wrap 5 = 5 from rfl, show IntKind.i64.wrap (5 + 0) = 5 from rfl]
      refine callQ_Mz [7] [] (MCall.arg hM0 (by simp)) (by simp) (by simp) (by simp) (by simp) (by simp) (by first | rfl | simp) (by simp) ?_
      simp [c_s_DrawSplitFee, r_s_DrawSplitFee_0, r_s_DrawSplitFee_1, r_s_DrawSplitFee_2, hn1, show IntKind.i64.wrap 7 = 7 from rfl, show IntKind.i64.wrap (5 + 2) = 7 from rfl, hn4, show IntKind.i64.wrap 5 = 5 from rfl, show IntKind.i64.wrap (5 + 0) = 5 from rfl]
      refine callQ_Mz [7] [9] (MCall.arg hM2 (by simp)) (by simp) (by simp) (by simp) (by simp) (by simp) (by first | rfl | simp) (by simp) ?_
      simp [c_s_DrawSplitFee, r_s_DrawSplitFee_0, r_s_DrawSplitFee_1, r_s_DrawSplitFee_2, hn1, show IntKind.i64.wrap 7 = 7 from rfl, show IntKind.i64.wrap (5 + 2) = 7 from rfl, hn4, show IntKind.i64.wrap 5 = 5 from rfl, show IntKind.i64.wrap (5 + 0) = 5 from rfl]
      refine callQ_Mz [7] [] (MCall.arg hM3 (by simp)) (by simp) (by simp) (by simp) (by simp) (by simp) (by first | rfl | simp) (by simp) ?_
      simp [c_s_DrawSplitFee, r_s_DrawSplitFee_0, r_s_DrawSplitFee_1, r_s_DrawSplitFee_2, hn1, show IntKind.i64.wrap 7 = 7 from rfl, show IntKind.i64.wrap (5 + 2) = 7 from rfl, hn4, show IntKind.i64.wrap 5 = 5 from rfl, show IntKind.i64.wrap (5 + 0) = 5 from rfl]
      refine callQ_Mz [7] [17] (MCall.arg hM5 (by simp)) (by simp) (by simp) (by simp) (by simp) (by simp) (by first | rfl | simp) (by simp) ?_
      simp [c_s_DrawSplitFee, r_s_DrawSplitFee_0, r_s_DrawSplitFee_1, r_s_DrawSplitFee_2, hn1, show IntKind.i64.wrap 7 = 7 from rfl, show IntKind.i64.wrap (5 + 2) = 7 from rfl, hn4, show IntKind.i64.wrap 5 = 5 from rfl, show IntKind.i64.wrap (5 + 0) = 5 from rfl]
    · obtain ⟨v5, k6, s6, ⟨hv5, hk5⟩, hM5⟩ := s_l1Cur_among code k4 s4 [1, 2, 3, 7, 12, 0] (by omega) (by simp) (by simp)
      refine ⟨v2, v5, ?_⟩
      refine PCall.of fn_s_DrawSplitFee (by simp) ?_
      simp [c_s_DrawSplitFee, r_s_DrawSplitFee_0, r_s_DrawSplitFee_1, r_s_DrawSplitFee_2, hn1, show IntKind.i64.wrap 7 = 7 from rfl, show IntKind.i64.wrap (5 + 2) = 7 from rfl, hn4, show IntKind.i64.wrap 6 = 6 from rfl, show IntKind.i64.wrap (5 + 1) = 6 from rfl]
      refine callQ_Mz [7] [] (MCall.arg hM0 (by simp)) (by simp) (by simp) (by simp) (by simp) (by simp) (by first | rfl | simp) (by simp) ?_
      simp [c_s_DrawSplitFee, r_s_DrawSplitFee_0, r_s_DrawSplitFee_1, r_s_DrawSplitFee_2, hn1, show IntKind.i64.wrap 7 = 7 from rfl, show IntKind.i64.wrap (5 + 2) = 7 from rfl, hn4, show IntKind.i64.wrap 6 = 6 from rfl, show IntKind.i64.wrap (5 + 1) = 6 from rfl]
      refine callQ_Mz [7] [9] (MCall.arg hM2 (by simp)) (by simp) (by simp) (by simp) (by simp) (by simp) (by first | rfl | simp) (by simp) ?_
      simp [c_s_DrawSplitFee, r_s_DrawSplitFee_0, r_s_DrawSplitFee_1, r_s_DrawSplitFee_2, hn1, show IntKind.i64.wrap 7 = 7 from rfl, show IntKind.i64.wrap (5 + 2) = 7 from rfl, hn4, show IntKind.i64.wrap 6 = 6 from rfl, show IntKind.i64.wrap (5 + 1) = 6 from rfl]
      refine callQ_Mz [7] [] (MCall.arg hM3 (by simp)) (by simp) (by simp) (by simp) (by simp) (by simp) (by first | rfl | simp) (by simp) ?_
      simp [c_s_DrawSplitFee, r_s_DrawSplitFee_0, r_s_DrawSplitFee_1, r_s_DrawSplitFee_2, hn1, show IntKind.i64.wrap 7 = 7 from rfl, show IntKind.i64.wrap (5 + 2) = 7 from rfl, hn4, show IntKind.i64.wrap 6 = 6 from rfl, show IntKind.i64.wrap (5 + 1) = 6 from rfl]
      refine callQ_Mz [7] [17] (MCall.arg hM5 (by simp)) (by simp) (by simp) (by simp) (by simp) (by simp) (by first | rfl | simp) (by simp) ?_
      simp [c_s_DrawSplitFee, r_s_DrawSplitFee_0, r_s_DrawSplitFee_1, r_s_DrawSplitFee_2, hn1, show IntKind.i64.wrap 7 = 7 from rfl, show IntKind.i64.wrap (5 + 2) = 7 from rfl, hn4, show IntKind.i64.wrap 6 = 6 from rfl, show IntKind.i64.wrap (5 + 1) = 6 from rfl]
    · obtain ⟨v5, k6, s6, ⟨hv5, hk5⟩, hM5⟩ := s_l1Cur_among code k4 s4 [1, 2, 3, 7, 12, 0, 13] (by omega) (by simp) (by simp)
      refine ⟨v2, v5, ?_⟩
      refine PCall.of fn_s_DrawSplitFee (by simp) ?_
      simp [c_s_DrawSplitFee, r_s_DrawSplitFee_0, r_s_DrawSplitFee_1, r_s_DrawSplitFee_2, hn1, show IntKind.i64.wrap 7 = 7 from rfl, show IntKind.i64.wrap (5 + 2) = 7 from rfl, hn4, show IntKind.i64.wrap 7 = 7 from rfl, show IntKind.i64.wrap (5 + 2) = 7 from rfl]
      refine callQ_Mz [7] [] (MCall.arg hM0 (by simp)) (by simp) (by simp) (by simp) (by simp) (by simp) (by first | rfl | simp) (by simp) ?_
      simp [c_s_DrawSplitFee, r_s_DrawSplitFee_0, r_s_DrawSplitFee_1, r_s_DrawSplitFee_2, hn1, show IntKind.i64.wrap 7 = 7 from rfl, show IntKind.i64.wrap (5 + 2) = 7 from rfl, hn4, show IntKind.i64.wrap 7 = 7 from rfl, show IntKind.i64.wrap (5 + 2) = 7 from rfl]
      refine callQ_Mz [7] [9] (MCall.arg hM2 (by simp)) (by simp) (by simp) (by simp) (by simp) (by simp) (by first | rfl | simp) (by simp) ?_
      simp [c_s_DrawSplitFee, r_s_DrawSplitFee_0, r_s_DrawSplitFee_1, r_s_DrawSplitFee_2, hn1, show IntKind.i64.wrap 7 = 7 from rfl, show IntKind.i64.wrap (5 + 2) = 7 from rfl, hn4, show IntKind.i64.wrap 7 = 7 from rfl, show IntKind.i64.wrap (5 + 2) = 7 from rfl]
      refine callQ_Mz [7] [] (MCall.arg hM3 (by simp)) (by simp) (by simp) (by simp) (by simp) (by simp) (by first | rfl | simp) (by simp) ?_
      simp [c_s_DrawSplitFee, r_s_DrawSplitFee_0, r_s_DrawSplitFee_1, r_s_DrawSplitFee_2, hn1, show IntKind.i64.wrap 7 = 7 from rfl, show IntKind.i64.wrap (5 + 2) = 7 from rfl, hn4, show IntKind.i64.wrap 7 = 7 from rfl, show IntKind.i64.wrap (5 + 2) = 7 from rfl]
      refine callQ_Mz [7] [17] (MCall.arg hM5 (by simp)) (by simp) (by simp) (by simp) (by simp) (by simp) (by first | rfl | simp) (by simp) ?_
      simp [c_s_DrawSplitFee, r_s_DrawSplitFee_0, r_s_DrawSplitFee_1, r_s_DrawSplitFee_2, hn1, show IntKind.i64.wrap 7 = 7 from rfl, show IntKind.i64.wrap (5 + 2) = 7 from rfl, hn4, show IntKind.i64.wrap 7 = 7 from rfl, show IntKind.i64.wrap (5 + 2) = 7 from rfl]
set_option maxHeartbeats 4000000 in
theorem s_DrawFeeFor (code : List UInt8) : ∃ (r0 : Tariff) (r1 : Int) (r2 : Arms) (r3 : Bool), PCall Try.prog n_s_DrawFeeFor [.ro 1 (code.map Y)] (.tup [eTariff r0, I r1, eArms r2, B r3]) := by
  obtain ⟨v0, k1, s1, hk0, hM0⟩ := s_l1Cur_tariff code 0 0 (by omega)
  obtain ⟨v1, k2, s2, ⟨hv1, hk1⟩, hM1⟩ := s_l1Cur_pick code k1 s1 24 (by omega) (by omega)
  rcases quo11 (v := v1) (by omega) (by omega) with hn2 | hn2 | hn2
  · obtain ⟨v3, k4, s4, ⟨hv3, hk3⟩, hM3⟩ := s_l1Cur_among code k2 s2 [1, 2, 3, 4, 5] (by omega) (by simp) (by simp)
    obtain ⟨v4, k5, s5, hk4, hM4⟩ := s_l1Cur_anyArms code k4 s4 (by omega)
    obtain ⟨v5, k6, s6, hk5, hM5⟩ := s_l1Cur_one code k5 s5 2 (by omega) (by omega)
    refine ⟨⟨v0.base, v0.layer, v0.urgent, v0.refund⟩, v3, ⟨⟨v4.field.division, v4.field.line, v4.field.first, v4.field.second⟩, v4.ordinary, v4.line, v4.tincture, ⟨v4.on.count, v4.on.kind, v4.on.attitude, v4.on.tincture⟩, ⟨v4.around.count, v4.around.kind, v4.around.attitude, v4.around.tincture⟩⟩, v5, ?_⟩
    refine PCall.of fn_s_DrawFeeFor (by simp) ?_
    simp [c_s_DrawFeeFor, r_s_DrawFeeFor_0, r_s_DrawFeeFor_1, r_s_DrawFeeFor_2, r_s_DrawFeeFor_3, p_s_DrawFeeFor_3, hn2, show IntKind.i64.wrap 5 = 5 from rfl, show IntKind.i64.wrap (5 + 0) = 5 from rfl]
    refine callQ_Mz [10] [] (MCall.arg hM0 (by simp)) (by simp) (by simp) (by simp) (by simp) (by simp) (by first | rfl | simp) (by simp) ?_
    simp [c_s_DrawFeeFor, r_s_DrawFeeFor_0, r_s_DrawFeeFor_1, r_s_DrawFeeFor_2, r_s_DrawFeeFor_3, p_s_DrawFeeFor_3, hn2, show IntKind.i64.wrap 5 = 5 from rfl, show IntKind.i64.wrap (5 + 0) = 5 from rfl]
    refine callD_M [10] [] (l := [_]) (MCall.arg hM1 (by simp)) (by simp) (by simp) (by simp) (by simp) (by simp) (by first | rfl | simp) (by simp) (by simp) ?_
    simp [c_s_DrawFeeFor, r_s_DrawFeeFor_0, r_s_DrawFeeFor_1, r_s_DrawFeeFor_2, r_s_DrawFeeFor_3, p_s_DrawFeeFor_3, hn2, show IntKind.i64.wrap 5 = 5 from rfl, show IntKind.i64.wrap (5 + 0) = 5 from rfl]
    refine callD_M [10] [15] (l := [_]) (MCall.arg hM3 (by simp)) (by simp) (by simp) (by simp) (by simp) (by simp) (by first | rfl | simp) (by simp) (by simp) ?_
    simp [c_s_DrawFeeFor, r_s_DrawFeeFor_0, r_s_DrawFeeFor_1, r_s_DrawFeeFor_2, r_s_DrawFeeFor_3, p_s_DrawFeeFor_3, hn2, show IntKind.i64.wrap 5 = 5 from rfl, show IntKind.i64.wrap (5 + 0) = 5 from rfl]
    refine callD_M [10] [] (l := [_]) (MCall.arg hM4 (by simp)) (by simp) (by simp) (by simp) (by simp) (by simp) (by first | rfl | simp) (by simp) (by simp) ?_
    simp [c_s_DrawFeeFor, r_s_DrawFeeFor_0, r_s_DrawFeeFor_1, r_s_DrawFeeFor_2, r_s_DrawFeeFor_3, p_s_DrawFeeFor_3, hn2, show IntKind.i64.wrap 5 = 5 from rfl, show IntKind.i64.wrap (5 + 0) = 5 from rfl]
    refine callD_M [10] [] (l := [_]) (MCall.arg hM5 (by simp)) (by simp) (by simp) (by simp) (by simp) (by simp) (by first | rfl | simp) (by simp) (by simp) ?_
    simp [c_s_DrawFeeFor, r_s_DrawFeeFor_0, r_s_DrawFeeFor_1, r_s_DrawFeeFor_2, r_s_DrawFeeFor_3, p_s_DrawFeeFor_3, hn2, show IntKind.i64.wrap 5 = 5 from rfl, show IntKind.i64.wrap (5 + 0) = 5 from rfl]
    first | done | exact oEnd_of (by simp [p_s_DrawFeeFor_3]) (by simp) | exact ⟨oEnd_of (by simp [p_s_DrawFeeFor_3]) (by simp), by simp [c_s_DrawFeeFor, r_s_DrawFeeFor_0, r_s_DrawFeeFor_1, r_s_DrawFeeFor_2, r_s_DrawFeeFor_3, p_s_DrawFeeFor_3, hn2, show IntKind.i64.wrap 5 = 5 from rfl, show IntKind.i64.wrap (5 + 0) = 5 from rfl]⟩ | trace_state
  · obtain ⟨v3, k4, s4, ⟨hv3, hk3⟩, hM3⟩ := s_l1Cur_among code k2 s2 [1, 2, 3, 4, 5, 0] (by omega) (by simp) (by simp)
    obtain ⟨v4, k5, s5, hk4, hM4⟩ := s_l1Cur_anyArms code k4 s4 (by omega)
    obtain ⟨v5, k6, s6, hk5, hM5⟩ := s_l1Cur_one code k5 s5 2 (by omega) (by omega)
    refine ⟨⟨v0.base, v0.layer, v0.urgent, v0.refund⟩, v3, ⟨⟨v4.field.division, v4.field.line, v4.field.first, v4.field.second⟩, v4.ordinary, v4.line, v4.tincture, ⟨v4.on.count, v4.on.kind, v4.on.attitude, v4.on.tincture⟩, ⟨v4.around.count, v4.around.kind, v4.around.attitude, v4.around.tincture⟩⟩, v5, ?_⟩
    refine PCall.of fn_s_DrawFeeFor (by simp) ?_
    simp [c_s_DrawFeeFor, r_s_DrawFeeFor_0, r_s_DrawFeeFor_1, r_s_DrawFeeFor_2, r_s_DrawFeeFor_3, p_s_DrawFeeFor_3, hn2, show IntKind.i64.wrap 6 = 6 from rfl, show IntKind.i64.wrap (5 + 1) = 6 from rfl]
    refine callQ_Mz [10] [] (MCall.arg hM0 (by simp)) (by simp) (by simp) (by simp) (by simp) (by simp) (by first | rfl | simp) (by simp) ?_
    simp [c_s_DrawFeeFor, r_s_DrawFeeFor_0, r_s_DrawFeeFor_1, r_s_DrawFeeFor_2, r_s_DrawFeeFor_3, p_s_DrawFeeFor_3, hn2, show IntKind.i64.wrap 6 = 6 from rfl, show IntKind.i64.wrap (5 + 1) = 6 from rfl]
    refine callD_M [10] [] (l := [_]) (MCall.arg hM1 (by simp)) (by simp) (by simp) (by simp) (by simp) (by simp) (by first | rfl | simp) (by simp) (by simp) ?_
    simp [c_s_DrawFeeFor, r_s_DrawFeeFor_0, r_s_DrawFeeFor_1, r_s_DrawFeeFor_2, r_s_DrawFeeFor_3, p_s_DrawFeeFor_3, hn2, show IntKind.i64.wrap 6 = 6 from rfl, show IntKind.i64.wrap (5 + 1) = 6 from rfl]
    refine callD_M [10] [15] (l := [_]) (MCall.arg hM3 (by simp)) (by simp) (by simp) (by simp) (by simp) (by simp) (by first | rfl | simp) (by simp) (by simp) ?_
    simp [c_s_DrawFeeFor, r_s_DrawFeeFor_0, r_s_DrawFeeFor_1, r_s_DrawFeeFor_2, r_s_DrawFeeFor_3, p_s_DrawFeeFor_3, hn2, show IntKind.i64.wrap 6 = 6 from rfl, show IntKind.i64.wrap (5 + 1) = 6 from rfl]
    refine callD_M [10] [] (l := [_]) (MCall.arg hM4 (by simp)) (by simp) (by simp) (by simp) (by simp) (by simp) (by first | rfl | simp) (by simp) (by simp) ?_
    simp [c_s_DrawFeeFor, r_s_DrawFeeFor_0, r_s_DrawFeeFor_1, r_s_DrawFeeFor_2, r_s_DrawFeeFor_3, p_s_DrawFeeFor_3, hn2, show IntKind.i64.wrap 6 = 6 from rfl, show IntKind.i64.wrap (5 + 1) = 6 from rfl]
    refine callD_M [10] [] (l := [_]) (MCall.arg hM5 (by simp)) (by simp) (by simp) (by simp) (by simp) (by simp) (by first | rfl | simp) (by simp) (by simp) ?_
    simp [c_s_DrawFeeFor, r_s_DrawFeeFor_0, r_s_DrawFeeFor_1, r_s_DrawFeeFor_2, r_s_DrawFeeFor_3, p_s_DrawFeeFor_3, hn2, show IntKind.i64.wrap 6 = 6 from rfl, show IntKind.i64.wrap (5 + 1) = 6 from rfl]
    first | done | exact oEnd_of (by simp [p_s_DrawFeeFor_3]) (by simp) | exact ⟨oEnd_of (by simp [p_s_DrawFeeFor_3]) (by simp), by simp [c_s_DrawFeeFor, r_s_DrawFeeFor_0, r_s_DrawFeeFor_1, r_s_DrawFeeFor_2, r_s_DrawFeeFor_3, p_s_DrawFeeFor_3, hn2, show IntKind.i64.wrap 6 = 6 from rfl, show IntKind.i64.wrap (5 + 1) = 6 from rfl]⟩ | trace_state
  · obtain ⟨v3, k4, s4, ⟨hv3, hk3⟩, hM3⟩ := s_l1Cur_among code k2 s2 [1, 2, 3, 4, 5, 0, 6] (by omega) (by simp) (by simp)
    obtain ⟨v4, k5, s5, hk4, hM4⟩ := s_l1Cur_anyArms code k4 s4 (by omega)
    obtain ⟨v5, k6, s6, hk5, hM5⟩ := s_l1Cur_one code k5 s5 2 (by omega) (by omega)
    refine ⟨⟨v0.base, v0.layer, v0.urgent, v0.refund⟩, v3, ⟨⟨v4.field.division, v4.field.line, v4.field.first, v4.field.second⟩, v4.ordinary, v4.line, v4.tincture, ⟨v4.on.count, v4.on.kind, v4.on.attitude, v4.on.tincture⟩, ⟨v4.around.count, v4.around.kind, v4.around.attitude, v4.around.tincture⟩⟩, v5, ?_⟩
    refine PCall.of fn_s_DrawFeeFor (by simp) ?_
    simp [c_s_DrawFeeFor, r_s_DrawFeeFor_0, r_s_DrawFeeFor_1, r_s_DrawFeeFor_2, r_s_DrawFeeFor_3, p_s_DrawFeeFor_3, hn2, show IntKind.i64.wrap 7 = 7 from rfl, show IntKind.i64.wrap (5 + 2) = 7 from rfl]
    refine callQ_Mz [10] [] (MCall.arg hM0 (by simp)) (by simp) (by simp) (by simp) (by simp) (by simp) (by first | rfl | simp) (by simp) ?_
    simp [c_s_DrawFeeFor, r_s_DrawFeeFor_0, r_s_DrawFeeFor_1, r_s_DrawFeeFor_2, r_s_DrawFeeFor_3, p_s_DrawFeeFor_3, hn2, show IntKind.i64.wrap 7 = 7 from rfl, show IntKind.i64.wrap (5 + 2) = 7 from rfl]
    refine callD_M [10] [] (l := [_]) (MCall.arg hM1 (by simp)) (by simp) (by simp) (by simp) (by simp) (by simp) (by first | rfl | simp) (by simp) (by simp) ?_
    simp [c_s_DrawFeeFor, r_s_DrawFeeFor_0, r_s_DrawFeeFor_1, r_s_DrawFeeFor_2, r_s_DrawFeeFor_3, p_s_DrawFeeFor_3, hn2, show IntKind.i64.wrap 7 = 7 from rfl, show IntKind.i64.wrap (5 + 2) = 7 from rfl]
    refine callD_M [10] [15] (l := [_]) (MCall.arg hM3 (by simp)) (by simp) (by simp) (by simp) (by simp) (by simp) (by first | rfl | simp) (by simp) (by simp) ?_
    simp [c_s_DrawFeeFor, r_s_DrawFeeFor_0, r_s_DrawFeeFor_1, r_s_DrawFeeFor_2, r_s_DrawFeeFor_3, p_s_DrawFeeFor_3, hn2, show IntKind.i64.wrap 7 = 7 from rfl, show IntKind.i64.wrap (5 + 2) = 7 from rfl]
    refine callD_M [10] [] (l := [_]) (MCall.arg hM4 (by simp)) (by simp) (by simp) (by simp) (by simp) (by simp) (by first | rfl | simp) (by simp) (by simp) ?_
    simp [c_s_DrawFeeFor, r_s_DrawFeeFor_0, r_s_DrawFeeFor_1, r_s_DrawFeeFor_2, r_s_DrawFeeFor_3, p_s_DrawFeeFor_3, hn2, show IntKind.i64.wrap 7 = 7 from rfl, show IntKind.i64.wrap (5 + 2) = 7 from rfl]
    refine callD_M [10] [] (l := [_]) (MCall.arg hM5 (by simp)) (by simp) (by simp) (by simp) (by simp) (by simp) (by first | rfl | simp) (by simp) (by simp) ?_
    simp [c_s_DrawFeeFor, r_s_DrawFeeFor_0, r_s_DrawFeeFor_1, r_s_DrawFeeFor_2, r_s_DrawFeeFor_3, p_s_DrawFeeFor_3, hn2, show IntKind.i64.wrap 7 = 7 from rfl, show IntKind.i64.wrap (5 + 2) = 7 from rfl]
    first | done | exact oEnd_of (by simp [p_s_DrawFeeFor_3]) (by simp) | exact ⟨oEnd_of (by simp [p_s_DrawFeeFor_3]) (by simp), by simp [c_s_DrawFeeFor, r_s_DrawFeeFor_0, r_s_DrawFeeFor_1, r_s_DrawFeeFor_2, r_s_DrawFeeFor_3, p_s_DrawFeeFor_3, hn2, show IntKind.i64.wrap 7 = 7 from rfl, show IntKind.i64.wrap (5 + 2) = 7 from rfl]⟩ | trace_state
end Go.Proofs.Ytgefdcllialhkaa
