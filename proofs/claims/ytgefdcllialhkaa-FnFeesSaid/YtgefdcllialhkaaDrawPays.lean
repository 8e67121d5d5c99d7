/- Draws of payments: printed by drawgen.py. -/
import Derived.Test.YtgefdcllialhkaaCodeDrawPays
import Derived.Test.YtgefdcllialhkaaDrawPet
import Derived.Test.YtgefdcllialhkaaDrawTar
import Derived.Test.YtgefdcllialhkaaDrawBan
set_option linter.unusedVariables false
set_option linter.unusedSimpArgs false
namespace Go.Proofs.Ytgefdcllialhkaa
open Go.Abs

set_option maxHeartbeats 4000000 in
theorem s_DrawPayPetition (code : List UInt8) : ∃ (r0 : List Petition) (r1 : Int) (r2 : Int) (r3 : Int) (r4 : Int), PCall Try.prog n_s_DrawPayPetition [.ro 1 (code.map Y)] (.tup [.ro 5 (r0.map ePetition), I r1, I r2, I r3, I r4]) := by
  obtain ⟨v0, k1, s1, ⟨hl0, hk0⟩, hM0⟩ := s_l1Cur_petitions code 0 0 (by omega)
  obtain ⟨v1, k2, s2, hk1, hM1⟩ := s_l1Cur_petitionOf code k1 s1 v0 (by omega) (by omega)
  obtain ⟨v2, k3, s3, ⟨hv2, hk2⟩, hM2⟩ := s_l1Cur_among code k2 s2 [60, 70, 9999, 20, 10000] (by omega) (by simp) (by simp)
  obtain ⟨v3, k4, s4, ⟨hv3, hk3⟩, hM3⟩ := s_l1Cur_among code k3 s3 [1, 50, 100, 500, 1000000, 0] (by omega) (by simp) (by simp)
  obtain ⟨v4, k5, s5, ⟨hv4, hk4⟩, hM4⟩ := s_l1Cur_among code k4 s4 [100, 333, 500, 1000, 0, 1000000, 1000001] (by omega) (by simp) (by simp)
  refine ⟨v0, v1, v2, v3, v4, ?_⟩
  refine PCall.of fn_s_DrawPayPetition (by simp) ?_
  simp [c_s_DrawPayPetition, r_s_DrawPayPetition_0, r_s_DrawPayPetition_1, r_s_DrawPayPetition_2, r_s_DrawPayPetition_3]
  refine callQ_Mz [11] [] (MCall.arg hM0 (by simp)) (by simp) (by simp) (by simp) (by simp) (by simp) (by first | rfl | simp) (by simp) ?_
  simp [c_s_DrawPayPetition, r_s_DrawPayPetition_0, r_s_DrawPayPetition_1, r_s_DrawPayPetition_2, r_s_DrawPayPetition_3]
  refine wk_of _ (Wk.frz 13 ⟨5, v0.map ePetition⟩ (by rfl) (by simp) (by simp)) ?_
  simp [c_s_DrawPayPetition, r_s_DrawPayPetition_0, r_s_DrawPayPetition_1, r_s_DrawPayPetition_2, r_s_DrawPayPetition_3, List.take_of_length_le]
  refine callQ_Mz [11] [] (MCall.arg hM1 (by simp)) (by simp) (by simp) (by simp) (by simp) (by simp) (by first | rfl | simp) (by simp) ?_
  simp [c_s_DrawPayPetition, r_s_DrawPayPetition_0, r_s_DrawPayPetition_1, r_s_DrawPayPetition_2, r_s_DrawPayPetition_3]
  refine callQ_Mz [11] [19] (MCall.arg hM2 (by simp)) (by simp) (by simp) (by simp) (by simp) (by simp) (by first | rfl | simp) (by simp) ?_
  simp [c_s_DrawPayPetition, r_s_DrawPayPetition_0, r_s_DrawPayPetition_1, r_s_DrawPayPetition_2, r_s_DrawPayPetition_3]
  refine callQ_Mz [11] [22] (MCall.arg hM3 (by simp)) (by simp) (by simp) (by simp) (by simp) (by simp) (by first | rfl | simp) (by simp) ?_
  simp [c_s_DrawPayPetition, r_s_DrawPayPetition_0, r_s_DrawPayPetition_1, r_s_DrawPayPetition_2, r_s_DrawPayPetition_3]
  refine callQ_Mz [11] [25] (MCall.arg hM4 (by simp)) (by simp) (by simp) (by simp) (by simp) (by simp) (by first | rfl | simp) (by simp) ?_
  simp [c_s_DrawPayPetition, r_s_DrawPayPetition_0, r_s_DrawPayPetition_1, r_s_DrawPayPetition_2, r_s_DrawPayPetition_3]
set_option maxHeartbeats 4000000 in
theorem s_DrawDecidePetition (code : List UInt8) : ∃ (r0 : List Petition) (r1 : Tariff) (r2 : Int) (r3 : Int) (r4 : Bool), PCall Try.prog n_s_DrawDecidePetition [.ro 1 (code.map Y)] (.tup [.ro 5 (r0.map ePetition), eTariff r1, I r2, I r3, B r4]) := by
  obtain ⟨v0, k1, s1, ⟨hl0, hk0⟩, hM0⟩ := s_l1Cur_petitions code 0 0 (by omega)
  obtain ⟨v1, k2, s2, hk1, hM1⟩ := s_l1Cur_tariff code k1 s1 (by omega)
  obtain ⟨v2, k3, s3, hk2, hM2⟩ := s_l1Cur_petitionOf code k2 s2 v0 (by omega) (by omega)
  obtain ⟨v3, k4, s4, ⟨hv3, hk3⟩, hM3⟩ := s_l1Cur_among code k3 s3 [60, 70, 9999, 20, 10000] (by omega) (by simp) (by simp)
  obtain ⟨v4, k5, s5, hk4, hM4⟩ := s_l1Cur_one code k4 s4 2 (by omega) (by omega)
  refine ⟨v0, ⟨v1.base, v1.layer, v1.urgent, v1.refund⟩, v2, v3, v4, ?_⟩
  refine PCall.of fn_s_DrawDecidePetition (by simp) ?_
  simp [c_s_DrawDecidePetition, r_s_DrawDecidePetition_0, r_s_DrawDecidePetition_1, r_s_DrawDecidePetition_2, r_s_DrawDecidePetition_3, r_s_DrawDecidePetition_4, p_s_DrawDecidePetition_4]
  refine callQ_Mz [12] [] (MCall.arg hM0 (by simp)) (by simp) (by simp) (by simp) (by simp) (by simp) (by first | rfl | simp) (by simp) ?_
  simp [c_s_DrawDecidePetition, r_s_DrawDecidePetition_0, r_s_DrawDecidePetition_1, r_s_DrawDecidePetition_2, r_s_DrawDecidePetition_3, r_s_DrawDecidePetition_4, p_s_DrawDecidePetition_4]
  refine wk_of _ (Wk.frz 14 ⟨5, v0.map ePetition⟩ (by rfl) (by simp) (by simp)) ?_
  simp [c_s_DrawDecidePetition, r_s_DrawDecidePetition_0, r_s_DrawDecidePetition_1, r_s_DrawDecidePetition_2, r_s_DrawDecidePetition_3, r_s_DrawDecidePetition_4, p_s_DrawDecidePetition_4, List.take_of_length_le]
  refine callQ_Mz [12] [] (MCall.arg hM1 (by simp)) (by simp) (by simp) (by simp) (by simp) (by simp) (by first | rfl | simp) (by simp) ?_
  simp [c_s_DrawDecidePetition, r_s_DrawDecidePetition_0, r_s_DrawDecidePetition_1, r_s_DrawDecidePetition_2, r_s_DrawDecidePetition_3, r_s_DrawDecidePetition_4, p_s_DrawDecidePetition_4]
  refine callD_M [12] [] (l := [_]) (MCall.arg hM2 (by simp)) (by simp) (by simp) (by simp) (by simp) (by simp) (by first | rfl | simp) (by simp) (by simp) ?_
  simp [c_s_DrawDecidePetition, r_s_DrawDecidePetition_0, r_s_DrawDecidePetition_1, r_s_DrawDecidePetition_2, r_s_DrawDecidePetition_3, r_s_DrawDecidePetition_4, p_s_DrawDecidePetition_4]
  refine callD_M [12] [23] (l := [_]) (MCall.arg hM3 (by simp)) (by simp) (by simp) (by simp) (by simp) (by simp) (by first | rfl | simp) (by simp) (by simp) ?_
  simp [c_s_DrawDecidePetition, r_s_DrawDecidePetition_0, r_s_DrawDecidePetition_1, r_s_DrawDecidePetition_2, r_s_DrawDecidePetition_3, r_s_DrawDecidePetition_4, p_s_DrawDecidePetition_4]
  refine callD_M [12] [] (l := [_]) (MCall.arg hM4 (by simp)) (by simp) (by simp) (by simp) (by simp) (by simp) (by first | rfl | simp) (by simp) (by simp) ?_
  simp [c_s_DrawDecidePetition, r_s_DrawDecidePetition_0, r_s_DrawDecidePetition_1, r_s_DrawDecidePetition_2, r_s_DrawDecidePetition_3, r_s_DrawDecidePetition_4, p_s_DrawDecidePetition_4]
  first | done | exact oEnd_of (by simp [p_s_DrawDecidePetition_4]) (by simp) | exact ⟨oEnd_of (by simp [p_s_DrawDecidePetition_4]) (by simp), by simp [c_s_DrawDecidePetition, r_s_DrawDecidePetition_0, r_s_DrawDecidePetition_1, r_s_DrawDecidePetition_2, r_s_DrawDecidePetition_3, r_s_DrawDecidePetition_4, p_s_DrawDecidePetition_4]⟩ | trace_state
set_option maxHeartbeats 4000000 in
theorem s_DrawOpenPetition (code : List UInt8) : ∃ (r0 : List Petition) (r1 : Int) (r2 : Int), PCall Try.prog n_s_DrawOpenPetition [.ro 1 (code.map Y)] (.tup [.own 5 (r0.map ePetition), I r1, I r2]) := by
  obtain ⟨v0, k1, s1, ⟨hl0, hk0⟩, hM0⟩ := s_l1Cur_petitions code 0 0 (by omega)
  obtain ⟨v1, k2, s2, ⟨hv1, hk1⟩, hM1⟩ := s_l1Cur_pick code k1 s1 24 (by omega) (by omega)
  rcases quo11 (v := v1) (by omega) (by omega) with hn2 | hn2 | hn2
  · obtain ⟨v3, k4, s4, ⟨hv3, hk3⟩, hM3⟩ := s_l1Cur_among code k2 s2 [1, 2, 5] (by omega) (by simp) (by simp)
    obtain ⟨v4, k5, s5, ⟨hv4, hk4⟩, hM4⟩ := s_l1Cur_pick code k4 s4 24 (by omega) (by omega)
    rcases quo11 (v := v4) (by omega) (by omega) with hn5 | hn5 | hn5
    · obtain ⟨v6, k7, s7, ⟨hv6, hk6⟩, hM6⟩ := s_l1Cur_among code k5 s5 [0, 30, 9999] (by omega) (by simp) (by simp)
      refine ⟨v0, v3, v6, ?_⟩
      refine PCall.of fn_s_DrawOpenPetition (by simp) ?_
      simp [c_s_DrawOpenPetition, r_s_DrawOpenPetition_0, r_s_DrawOpenPetition_1, r_s_DrawOpenPetition_2, r_s_DrawOpenPetition_3, hn2, show IntKind.i64.wrap 3 = 3 from rfl, show IntKind.i64.wrap (3 + 0) = 3 from rfl, hn5, show IntKind.i64.wrap 3 = 3 from rfl, show IntKind.i64.wrap (3 + 0) = 3 from rfl]
      refine callQ_Mz [9] [] (MCall.arg hM0 (by simp)) (by simp) (by simp) (by simp) (by simp) (by simp) (by first | rfl | simp) (by simp) ?_
      simp [c_s_DrawOpenPetition, r_s_DrawOpenPetition_0, r_s_DrawOpenPetition_1, r_s_DrawOpenPetition_2, r_s_DrawOpenPetition_3, hn2, show IntKind.i64.wrap 3 = 3 from rfl, show IntKind.i64.wrap (3 + 0) = 3 from rfl, hn5, show IntKind.i64.wrap 3 = 3 from rfl, show IntKind.i64.wrap (3 + 0) = 3 from rfl]
      refine callQ_Mz [9] [] (MCall.arg hM1 (by simp)) (by simp) (by simp) (by simp) (by simp) (by simp) (by first | rfl | simp) (by simp) ?_
      simp [c_s_DrawOpenPetition, r_s_DrawOpenPetition_0, r_s_DrawOpenPetition_1, r_s_DrawOpenPetition_2, r_s_DrawOpenPetition_3, hn2, show IntKind.i64.wrap 3 = 3 from rfl, show IntKind.i64.wrap (3 + 0) = 3 from rfl, hn5, show IntKind.i64.wrap 3 = 3 from rfl, show IntKind.i64.wrap (3 + 0) = 3 from rfl]
      refine callQ_Mz [9] [14] (MCall.arg hM3 (by simp)) (by simp) (by simp) (by simp) (by simp) (by simp) (by first | rfl | simp) (by simp) ?_
      simp [c_s_DrawOpenPetition, r_s_DrawOpenPetition_0, r_s_DrawOpenPetition_1, r_s_DrawOpenPetition_2, r_s_DrawOpenPetition_3, hn2, show IntKind.i64.wrap 3 = 3 from rfl, show IntKind.i64.wrap (3 + 0) = 3 from rfl, hn5, show IntKind.i64.wrap 3 = 3 from rfl, show IntKind.i64.wrap (3 + 0) = 3 from rfl]
      refine callQ_Mz [9] [] (MCall.arg hM4 (by simp)) (by simp) (by simp) (by simp) (by simp) (by simp) (by first | rfl | simp) (by simp) ?_
      simp [c_s_DrawOpenPetition, r_s_DrawOpenPetition_0, r_s_DrawOpenPetition_1, r_s_DrawOpenPetition_2, r_s_DrawOpenPetition_3, hn2, show IntKind.i64.wrap 3 = 3 from rfl, show IntKind.i64.wrap (3 + 0) = 3 from rfl, hn5, show IntKind.i64.wrap 3 = 3 from rfl, show IntKind.i64.wrap (3 + 0) = 3 from rfl]
      refine callQ_Mz [9] [22] (MCall.arg hM6 (by simp)) (by simp) (by simp) (by simp) (by simp) (by simp) (by first | rfl | simp) (by simp) ?_
      simp [c_s_DrawOpenPetition, r_s_DrawOpenPetition_0, r_s_DrawOpenPetition_1, r_s_DrawOpenPetition_2, r_s_DrawOpenPetition_3, hn2, show IntKind.i64.wrap 3 = 3 from rfl, show IntKind.i64.wrap (3 + 0) = 3 from rfl, hn5, show IntKind.i64.wrap 3 = 3 from rfl, show IntKind.i64.wrap (3 + 0) = 3 from rfl]
    · obtain ⟨v6, k7, s7, ⟨hv6, hk6⟩, hM6⟩ := s_l1Cur_among code k5 s5 [0, 30, 9999, -1] (by omega) (by simp) (by simp)
      refine ⟨v0, v3, v6, ?_⟩
      refine PCall.of fn_s_DrawOpenPetition (by simp) ?_
      simp [c_s_DrawOpenPetition, r_s_DrawOpenPetition_0, r_s_DrawOpenPetition_1, r_s_DrawOpenPetition_2, r_s_DrawOpenPetition_3, hn2, show IntKind.i64.wrap 3 = 3 from rfl, show IntKind.i64.wrap (3 + 0) = 3 from rfl, hn5, show IntKind.i64.wrap 4 = 4 from rfl, show IntKind.i64.wrap (3 + 1) = 4 from rfl]
      refine callQ_Mz [9] [] (MCall.arg hM0 (by simp)) (by simp) (by simp) (by simp) (by simp) (by simp) (by first | rfl | simp) (by simp) ?_
      simp [c_s_DrawOpenPetition, r_s_DrawOpenPetition_0, r_s_DrawOpenPetition_1, r_s_DrawOpenPetition_2, r_s_DrawOpenPetition_3, hn2, show IntKind.i64.wrap 3 = 3 from rfl, show IntKind.i64.wrap (3 + 0) = 3 from rfl, hn5, show IntKind.i64.wrap 4 = 4 from rfl, show IntKind.i64.wrap (3 + 1) = 4 from rfl]
      refine callQ_Mz [9] [] (MCall.arg hM1 (by simp)) (by simp) (by simp) (by simp) (by simp) (by simp) (by first | rfl | simp) (by simp) ?_
      simp [c_s_DrawOpenPetition, r_s_DrawOpenPetition_0, r_s_DrawOpenPetition_1, r_s_DrawOpenPetition_2, r_s_DrawOpenPetition_3, hn2, show IntKind.i64.wrap 3 = 3 from rfl, show IntKind.i64.wrap (3 + 0) = 3 from rfl, hn5, show IntKind.i64.wrap 4 = 4 from rfl, show IntKind.i64.wrap (3 + 1) = 4 from rfl]
      refine callQ_Mz [9] [14] (MCall.arg hM3 (by simp)) (by simp) (by simp) (by simp) (by simp) (by simp) (by first | rfl | simp) (by simp) ?_
      simp [c_s_DrawOpenPetition, r_s_DrawOpenPetition_0, r_s_DrawOpenPetition_1, r_s_DrawOpenPetition_2, r_s_DrawOpenPetition_3, hn2, show IntKind.i64.wrap 3 = 3 from rfl, show IntKind.i64.wrap (3 + 0) = 3 from rfl, hn5, show IntKind.i64.wrap 4 = 4 from rfl, show IntKind.i64.wrap (3 + 1) = 4 from rfl]
      refine callQ_Mz [9] [] (MCall.arg hM4 (by simp)) (by simp) (by simp) (by simp) (by simp) (by simp) (by first | rfl | simp) (by simp) ?_
      simp [c_s_DrawOpenPetition, r_s_DrawOpenPetition_0, r_s_DrawOpenPetition_1, r_s_DrawOpenPetition_2, r_s_DrawOpenPetition_3, hn2, show IntKind.i64.wrap 3 = 3 from rfl, show IntKind.i64.wrap (3 + 0) = 3 from rfl, hn5, show IntKind.i64.wrap 4 = 4 from rfl, show IntKind.i64.wrap (3 + 1) = 4 from rfl]
      refine callQ_Mz [9] [22] (MCall.arg hM6 (by simp)) (by simp) (by simp) (by simp) (by simp) (by simp) (by first | rfl | simp) (by simp) ?_
      simp [c_s_DrawOpenPetition, r_s_DrawOpenPetition_0, r_s_DrawOpenPetition_1, r_s_DrawOpenPetition_2, r_s_DrawOpenPetition_3, hn2, show IntKind.i64.wrap 3 = 3 from rfl, show IntKind.i64.wrap (3 + 0) = 3 from rfl, hn5, show IntKind.i64.wrap 4 = 4 from rfl, show IntKind.i64.wrap (3 + 1) = 4 from rfl]
    · obtain ⟨v6, k7, s7, ⟨hv6, hk6⟩, hM6⟩ := s_l1Cur_among code k5 s5 [0, 30, 9999, -1, 10000] (by omega) (by simp) (by simp)
      refine ⟨v0, v3, v6, ?_⟩
      refine PCall.of fn_s_DrawOpenPetition (by simp) ?_
      simp [c_s_DrawOpenPetition, r_s_DrawOpenPetition_0, r_s_DrawOpenPetition_1, r_s_DrawOpenPetition_2, r_s_DrawOpenPetition_3, hn2, show IntKind.i64.wrap 3 = 3 from rfl, show IntKind.i64.wrap (3 + 0) = 3 from rfl, hn5, show IntKind.i64.wrap 5 = 5 from rfl, show IntKind.i64.wrap (3 + 2) = 5 from rfl]
      refine callQ_Mz [9] [] (MCall.arg hM0 (by simp)) (by simp) (by simp) (by simp) (by simp) (by simp) (by first | rfl | simp) (by simp) ?_
      simp [c_s_DrawOpenPetition, r_s_DrawOpenPetition_0, r_s_DrawOpenPetition_1, r_s_DrawOpenPetition_2, r_s_DrawOpenPetition_3, hn2, show IntKind.i64.wrap 3 = 3 from rfl, show IntKind.i64.wrap (3 + 0) = 3 from rfl, hn5, show IntKind.i64.wrap 5 = 5 from rfl, show IntKind.i64.wrap (3 + 2) = 5 from rfl]
      refine callQ_Mz [9] [] (MCall.arg hM1 (by simp)) (by simp) (by simp) (by simp) (by simp) (by simp) (by first | rfl | simp) (by simp) ?_
      simp [c_s_DrawOpenPetition, r_s_DrawOpenPetition_0, r_s_DrawOpenPetition_1, r_s_DrawOpenPetition_2, r_s_DrawOpenPetition_3, hn2, show IntKind.i64.wrap 3 = 3 from rfl, show IntKind.i64.wrap (3 + 0) = 3 from rfl, hn5, show IntKind.i64.wrap 5 = 5 from rfl, show IntKind.i64.wrap (3 + 2) = 5 from rfl]
      refine callQ_Mz [9] [14] (MCall.arg hM3 (by simp)) (by simp) (by simp) (by simp) (by simp) (by simp) (by first | rfl | simp) (by simp) ?_
      simp [c_s_DrawOpenPetition, r_s_DrawOpenPetition_0, r_s_DrawOpenPetition_1, r_s_DrawOpenPetition_2, r_s_DrawOpenPetition_3, hn2, show IntKind.i64.wrap 3 = 3 from rfl, show IntKind.i64.wrap (3 + 0) = 3 from rfl, hn5, show IntKind.i64.wrap 5 = 5 from rfl, show IntKind.i64.wrap (3 + 2) = 5 from rfl]
      refine callQ_Mz [9] [] (MCall.arg hM4 (by simp)) (by simp) (by simp) (by simp) (by simp) (by simp) (by first | rfl | simp) (by simp) ?_
      simp [c_s_DrawOpenPetition, r_s_DrawOpenPetition_0, r_s_DrawOpenPetition_1, r_s_DrawOpenPetition_2, r_s_DrawOpenPetition_3, hn2, show IntKind.i64.wrap 3 = 3 from rfl, show IntKind.i64.wrap (3 + 0) = 3 from rfl, hn5, show IntKind.i64.wrap 5 = 5 from rfl, show IntKind.i64.wrap (3 + 2) = 5 from rfl]
      refine callQ_Mz [9] [22] (MCall.arg hM6 (by simp)) (by simp) (by simp) (by simp) (by simp) (by simp) (by first | rfl | simp) (by simp) ?_
      simp [c_s_DrawOpenPetition, r_s_DrawOpenPetition_0, r_s_DrawOpenPetition_1, r_s_DrawOpenPetition_2, r_s_DrawOpenPetition_3, hn2, show IntKind.i64.wrap 3 = 3 from rfl, show IntKind.i64.wrap (3 + 0) = 3 from rfl, hn5, show IntKind.i64.wrap 5 = 5 from rfl, show IntKind.i64.wrap (3 + 2) = 5 from rfl]
  · obtain ⟨v3, k4, s4, ⟨hv3, hk3⟩, hM3⟩ := s_l1Cur_among code k2 s2 [1, 2, 5, 0] (by omega) (by simp) (by simp)
    obtain ⟨v4, k5, s5, ⟨hv4, hk4⟩, hM4⟩ := s_l1Cur_pick code k4 s4 24 (by omega) (by omega)
    rcases quo11 (v := v4) (by omega) (by omega) with hn5 | hn5 | hn5
    · obtain ⟨v6, k7, s7, ⟨hv6, hk6⟩, hM6⟩ := s_l1Cur_among code k5 s5 [0, 30, 9999] (by omega) (by simp) (by simp)
      refine ⟨v0, v3, v6, ?_⟩
      refine PCall.of fn_s_DrawOpenPetition (by simp) ?_
      simp [c_s_DrawOpenPetition, r_s_DrawOpenPetition_0, r_s_DrawOpenPetition_1, r_s_DrawOpenPetition_2, r_s_DrawOpenPetition_3, hn2, show IntKind.i64.wrap 4 = 4 from rfl, show IntKind.i64.wrap (3 + 1) = 4 from rfl, hn5, show IntKind.i64.wrap 3 = 3 from rfl, show IntKind.i64.wrap (3 + 0) = 3 from rfl]
      refine callQ_Mz [9] [] (MCall.arg hM0 (by simp)) (by simp) (by simp) (by simp) (by simp) (by simp) (by first | rfl | simp) (by simp) ?_
      simp [c_s_DrawOpenPetition, r_s_DrawOpenPetition_0, r_s_DrawOpenPetition_1, r_s_DrawOpenPetition_2, r_s_DrawOpenPetition_3, hn2, show IntKind.i64.wrap 4 = 4 from rfl, show IntKind.i64.wrap (3 + 1) = 4 from rfl, hn5, show IntKind.i64.wrap 3 = 3 from rfl, show IntKind.i64.wrap (3 + 0) = 3 from rfl]
      refine callQ_Mz [9] [] (MCall.arg hM1 (by simp)) (by simp) (by simp) (by simp) (by simp) (by simp) (by first | rfl | simp) (by simp) ?_
      simp [c_s_DrawOpenPetition, r_s_DrawOpenPetition_0, r_s_DrawOpenPetition_1, r_s_DrawOpenPetition_2, r_s_DrawOpenPetition_3, hn2, show IntKind.i64.wrap 4 = 4 from rfl, show IntKind.i64.wrap (3 + 1) = 4 from rfl, hn5, show IntKind.i64.wrap 3 = 3 from rfl, show IntKind.i64.wrap (3 + 0) = 3 from rfl]
      refine callQ_Mz [9] [14] (MCall.arg hM3 (by simp)) (by simp) (by simp) (by simp) (by simp) (by simp) (by first | rfl | simp) (by simp) ?_
      simp [c_s_DrawOpenPetition, r_s_DrawOpenPetition_0, r_s_DrawOpenPetition_1, r_s_DrawOpenPetition_2, r_s_DrawOpenPetition_3, hn2, show IntKind.i64.wrap 4 = 4 from rfl, show IntKind.i64.wrap (3 + 1) = 4 from rfl, hn5, show IntKind.i64.wrap 3 = 3 from rfl, show IntKind.i64.wrap (3 + 0) = 3 from rfl]
      refine callQ_Mz [9] [] (MCall.arg hM4 (by simp)) (by simp) (by simp) (by simp) (by simp) (by simp) (by first | rfl | simp) (by simp) ?_
      simp [c_s_DrawOpenPetition, r_s_DrawOpenPetition_0, r_s_DrawOpenPetition_1, r_s_DrawOpenPetition_2, r_s_DrawOpenPetition_3, hn2, show IntKind.i64.wrap 4 = 4 from rfl, show IntKind.i64.wrap (3 + 1) = 4 from rfl, hn5, show IntKind.i64.wrap 3 = 3 from rfl, show IntKind.i64.wrap (3 + 0) = 3 from rfl]
      refine callQ_Mz [9] [22] (MCall.arg hM6 (by simp)) (by simp) (by simp) (by simp) (by simp) (by simp) (by first | rfl | simp) (by simp) ?_
      simp [c_s_DrawOpenPetition, r_s_DrawOpenPetition_0, r_s_DrawOpenPetition_1, r_s_DrawOpenPetition_2, r_s_DrawOpenPetition_3, hn2, show IntKind.i64.wrap 4 = 4 from rfl, show IntKind.i64.wrap (3 + 1) = 4 from rfl, hn5, show IntKind.i64.wrap 3 = 3 from rfl, show IntKind.i64.wrap (3 + 0) = 3 from rfl]
    · obtain ⟨v6, k7, s7, ⟨hv6, hk6⟩, hM6⟩ := s_l1Cur_among code k5 s5 [0, 30, 9999, -1] (by omega) (by simp) (by simp)
      refine ⟨v0, v3, v6, ?_⟩
      refine PCall.of fn_s_DrawOpenPetition (by simp) ?_
      simp [c_s_DrawOpenPetition, r_s_DrawOpenPetition_0, r_s_DrawOpenPetition_1, r_s_DrawOpenPetition_2, r_s_DrawOpenPetition_3, hn2, show IntKind.i64.wrap 4 = 4 from rfl, show IntKind.i64.wrap (3 + 1) = 4 from rfl, hn5, show IntKind.i64.wrap 4 = 4 from rfl, show IntKind.i64.wrap (3 + 1) = 4 from rfl]
      refine callQ_Mz [9] [] (MCall.arg hM0 (by simp)) (by simp) (by simp) (by simp) (by simp) (by simp) (by first | rfl | simp) (by simp) ?_
      simp [c_s_DrawOpenPetition, r_s_DrawOpenPetition_0, r_s_DrawOpenPetition_1, r_s_DrawOpenPetition_2, r_s_DrawOpenPetition_3, hn2, show IntKind.i64.wrap 4 = 4 from rfl, show IntKind.i64.wrap (3 + 1) = 4 from rfl, hn5, show IntKind.i64.wrap 4 = 4 from rfl, show IntKind.i64.wrap (3 + 1) = 4 from rfl]
      refine callQ_Mz [9] [] (MCall.arg hM1 (by simp)) (by simp) (by simp) (by simp) (by simp) (by simp) (by first | rfl | simp) (by simp) ?_
      simp [c_s_DrawOpenPetition, r_s_DrawOpenPetition_0, r_s_DrawOpenPetition_1, r_s_DrawOpenPetition_2, r_s_DrawOpenPetition_3, hn2, show IntKind.i64.wrap 4 = 4 from rfl, show IntKind.i64.wrap (3 + 1) = 4 from rfl, hn5, show IntKind.i64.wrap 4 = 4 from rfl, show IntKind.i64.wrap (3 + 1) = 4 from rfl]
      refine callQ_Mz [9] [14] (MCall.arg hM3 (by simp)) (by simp) (by simp) (by simp) (by simp) (by simp) (by first | rfl | simp) (by simp) ?_
      simp [c_s_DrawOpenPetition, r_s_DrawOpenPetition_0, r_s_DrawOpenPetition_1, r_s_DrawOpenPetition_2, r_s_DrawOpenPetition_3, hn2, show IntKind.i64.wrap 4 = 4 from rfl, show IntKind.i64.wrap (3 + 1) = 4 from rfl, hn5, show IntKind.i64.wrap 4 = 4 from rfl, show IntKind.i64.wrap (3 + 1) = 4 from rfl]
      refine callQ_Mz [9] [] (MCall.arg hM4 (by simp)) (by simp) (by simp) (by simp) (by simp) (by simp) (by first | rfl | simp) (by simp) ?_
      simp [c_s_DrawOpenPetition, r_s_DrawOpenPetition_0, r_s_DrawOpenPetition_1, r_s_DrawOpenPetition_2, r_s_DrawOpenPetition_3, hn2, show IntKind.i64.wrap 4 = 4 from rfl, show IntKind.i64.wrap (3 + 1) = 4 from rfl, hn5, show IntKind.i64.wrap 4 = 4 from rfl, show IntKind.i64.wrap (3 + 1) = 4 from rfl]
      refine callQ_Mz [9] [22] (MCall.arg hM6 (by simp)) (by simp) (by simp) (by simp) (by simp) (by simp) (by first | rfl | simp) (by simp) ?_
      simp [c_s_DrawOpenPetition, r_s_DrawOpenPetition_0, r_s_DrawOpenPetition_1, r_s_DrawOpenPetition_2, r_s_DrawOpenPetition_3, hn2, show IntKind.i64.wrap 4 = 4 from rfl, show IntKind.i64.wrap (3 + 1) = 4 from rfl, hn5, show IntKind.i64.wrap 4 = 4 from rfl, show IntKind.i64.wrap (3 + 1) = 4 from rfl]
    · obtain ⟨v6, k7, s7, ⟨hv6, hk6⟩, hM6⟩ := s_l1Cur_among code k5 s5 [0, 30, 9999, -1, 10000] (by omega) (by simp) (by simp)
      refine ⟨v0, v3, v6, ?_⟩
      refine PCall.of fn_s_DrawOpenPetition (by simp) ?_
      simp [c_s_DrawOpenPetition, r_s_DrawOpenPetition_0, r_s_DrawOpenPetition_1, r_s_DrawOpenPetition_2, r_s_DrawOpenPetition_3, hn2, show IntKind.i64.wrap 4 = 4 from rfl, show IntKind.i64.wrap (3 + 1) = 4 from rfl, hn5, show IntKind.i64.wrap 5 = 5 from rfl, show IntKind.i64.wrap (3 + 2) = 5 from rfl]
      refine callQ_Mz [9] [] (MCall.arg hM0 (by simp)) (by simp) (by simp) (by simp) (by simp) (by simp) (by first | rfl | simp) (by simp) ?_
      simp [c_s_DrawOpenPetition, r_s_DrawOpenPetition_0, r_s_DrawOpenPetition_1, r_s_DrawOpenPetition_2, r_s_DrawOpenPetition_3, hn2, show IntKind.i64.wrap 4 = 4 from rfl, show IntKind.i64.wrap (3 + 1) = 4 from rfl, hn5, show IntKind.i64.wrap 5 = 5 from rfl, show IntKind.i64.wrap (3 + 2) = 5 from rfl]
      refine callQ_Mz [9] [] (MCall.arg hM1 (by simp)) (by simp) (by simp) (by simp) (by simp) (by simp) (by first | rfl | simp) (by simp) ?_
      simp [c_s_DrawOpenPetition, r_s_DrawOpenPetition_0, r_s_DrawOpenPetition_1, r_s_DrawOpenPetition_2, r_s_DrawOpenPetition_3, hn2, show IntKind.i64.wrap 4 = 4 from rfl, show IntKind.i64.wrap (3 + 1) = 4 from rfl, hn5, show IntKind.i64.wrap 5 = 5 from rfl, show IntKind.i64.wrap (3 + 2) = 5 from rfl]
      refine callQ_Mz [9] [14] (MCall.arg hM3 (by simp)) (by simp) (by simp) (by simp) (by simp) (by simp) (by first | rfl | simp) (by simp) ?_
      simp [c_s_DrawOpenPetition, r_s_DrawOpenPetition_0, r_s_DrawOpenPetition_1, r_s_DrawOpenPetition_2, r_s_DrawOpenPetition_3, hn2, show IntKind.i64.wrap 4 = 4 from rfl, show IntKind.i64.wrap (3 + 1) = 4 from rfl, hn5, show IntKind.i64.wrap 5 = 5 from rfl, show IntKind.i64.wrap (3 + 2) = 5 from rfl]
      refine callQ_Mz [9] [] (MCall.arg hM4 (by simp)) (by simp) (by simp) (by simp) (by simp) (by simp) (by first | rfl | simp) (by simp) ?_
      simp [c_s_DrawOpenPetition, r_s_DrawOpenPetition_0, r_s_DrawOpenPetition_1, r_s_DrawOpenPetition_2, r_s_DrawOpenPetition_3, hn2, show IntKind.i64.wrap 4 = 4 from rfl, show IntKind.i64.wrap (3 + 1) = 4 from rfl, hn5, show IntKind.i64.wrap 5 = 5 from rfl, show IntKind.i64.wrap (3 + 2) = 5 from rfl]
      refine callQ_Mz [9] [22] (MCall.arg hM6 (by simp)) (by simp) (by simp) (by simp) (by simp) (by simp) (by first | rfl | simp) (by simp) ?_
      simp [c_s_DrawOpenPetition, r_s_DrawOpenPetition_0, r_s_DrawOpenPetition_1, r_s_DrawOpenPetition_2, r_s_DrawOpenPetition_3, hn2, show IntKind.i64.wrap 4 = 4 from rfl, show IntKind.i64.wrap (3 + 1) = 4 from rfl, hn5, show IntKind.i64.wrap 5 = 5 from rfl, show IntKind.i64.wrap (3 + 2) = 5 from rfl]
  · obtain ⟨v3, k4, s4, ⟨hv3, hk3⟩, hM3⟩ := s_l1Cur_among code k2 s2 [1, 2, 5, 0, 6] (by omega) (by simp) (by simp)
    obtain ⟨v4, k5, s5, ⟨hv4, hk4⟩, hM4⟩ := s_l1Cur_pick code k4 s4 24 (by omega) (by omega)
    rcases quo11 (v := v4) (by omega) (by omega) with hn5 | hn5 | hn5
    · obtain ⟨v6, k7, s7, ⟨hv6, hk6⟩, hM6⟩ := s_l1Cur_among code k5 s5 [0, 30, 9999] (by omega) (by simp) (by simp)
      refine ⟨v0, v3, v6, ?_⟩
      refine PCall.of fn_s_DrawOpenPetition (by simp) ?_
      simp [c_s_DrawOpenPetition, r_s_DrawOpenPetition_0, r_s_DrawOpenPetition_1, r_s_DrawOpenPetition_2, r_s_DrawOpenPetition_3, hn2, show IntKind.i64.wrap 5 = 5 from rfl, show IntKind.i64.wrap (3 + 2) = 5 from rfl, hn5, show IntKind.i64.wrap 3 = 3 from rfl, show IntKind.i64.wrap (3 + 0) = 3 from rfl]
      refine callQ_Mz [9] [] (MCall.arg hM0 (by simp)) (by simp) (by simp) (by simp) (by simp) (by simp) (by first | rfl | simp) (by simp) ?_
      simp [c_s_DrawOpenPetition, r_s_DrawOpenPetition_0, r_s_DrawOpenPetition_1, r_s_DrawOpenPetition_2, r_s_DrawOpenPetition_3, hn2, show IntKind.i64.wrap 5 = 5 from rfl, show IntKind.i64.wrap (3 + 2) = 5 from rfl, hn5, show IntKind.i64.wrap 3 = 3 from rfl, show IntKind.i64.wrap (3 + 0) = 3 from rfl]
      refine callQ_Mz [9] [] (MCall.arg hM1 (by simp)) (by simp) (by simp) (by simp) (by simp) (by simp) (by first | rfl | simp) (by simp) ?_
      simp [c_s_DrawOpenPetition, r_s_DrawOpenPetition_0, r_s_DrawOpenPetition_1, r_s_DrawOpenPetition_2, r_s_DrawOpenPetition_3, hn2, show IntKind.i64.wrap 5 = 5 from rfl, show IntKind.i64.wrap (3 + 2) = 5 from rfl, hn5, show IntKind.i64.wrap 3 = 3 from rfl, show IntKind.i64.wrap (3 + 0) = 3 from rfl]
      refine callQ_Mz [9] [14] (MCall.arg hM3 (by simp)) (by simp) (by simp) (by simp) (by simp) (by simp) (by first | rfl | simp) (by simp) ?_
      simp [c_s_DrawOpenPetition, r_s_DrawOpenPetition_0, r_s_DrawOpenPetition_1, r_s_DrawOpenPetition_2, r_s_DrawOpenPetition_3, hn2, show IntKind.i64.wrap 5 = 5 from rfl, show IntKind.i64.wrap (3 + 2) = 5 from rfl, hn5, show IntKind.i64.wrap 3 = 3 from rfl, show IntKind.i64.wrap (3 + 0) = 3 from rfl]
      refine callQ_Mz [9] [] (MCall.arg hM4 (by simp)) (by simp) (by simp) (by simp) (by simp) (by simp) (by first | rfl | simp) (by simp) ?_
      simp [c_s_DrawOpenPetition, r_s_DrawOpenPetition_0, r_s_DrawOpenPetition_1, r_s_DrawOpenPetition_2, r_s_DrawOpenPetition_3, hn2, show IntKind.i64.wrap 5 = 5 from rfl, show IntKind.i64.wrap (3 + 2) = 5 from rfl, hn5, show IntKind.i64.wrap 3 = 3 from rfl, show IntKind.i64.wrap (3 + 0) = 3 from rfl]
      refine callQ_Mz [9] [22] (MCall.arg hM6 (by simp)) (by simp) (by simp) (by simp) (by simp) (by simp) (by first | rfl | simp) (by simp) ?_
      simp [c_s_DrawOpenPetition, r_s_DrawOpenPetition_0, r_s_DrawOpenPetition_1, r_s_DrawOpenPetition_2, r_s_DrawOpenPetition_3, hn2, show IntKind.i64.wrap 5 = 5 from rfl, show IntKind.i64.wrap (3 + 2) = 5 from rfl, hn5, show IntKind.i64.wrap 3 = 3 from rfl, show IntKind.i64.wrap (3 + 0) = 3 from rfl]
    · obtain ⟨v6, k7, s7, ⟨hv6, hk6⟩, hM6⟩ := s_l1Cur_among code k5 s5 [0, 30, 9999, -1] (by omega) (by simp) (by simp)
      refine ⟨v0, v3, v6, ?_⟩
      refine PCall.of fn_s_DrawOpenPetition (by simp) ?_
      simp [c_s_DrawOpenPetition, r_s_DrawOpenPetition_0, r_s_DrawOpenPetition_1, r_s_DrawOpenPetition_2, r_s_DrawOpenPetition_3, hn2, show IntKind.i64.wrap 5 = 5 from rfl, show IntKind.i64.wrap (3 + 2) = 5 from rfl, hn5, show IntKind.i64.wrap 4 = 4 from rfl, show IntKind.i64.wrap (3 + 1) = 4 from rfl]
      refine callQ_Mz [9] [] (MCall.arg hM0 (by simp)) (by simp) (by simp) (by simp) (by simp) (by simp) (by first | rfl | simp) (by simp) ?_
      simp [c_s_DrawOpenPetition, r_s_DrawOpenPetition_0, r_s_DrawOpenPetition_1, r_s_DrawOpenPetition_2, r_s_DrawOpenPetition_3, hn2, show IntKind.i64.wrap 5 = 5 from rfl, show IntKind.i64.wrap (3 + 2) = 5 from rfl, hn5, show IntKind.i64.wrap 4 = 4 from rfl, show IntKind.i64.wrap (3 + 1) = 4 from rfl]
      refine callQ_Mz [9] [] (MCall.arg hM1 (by simp)) (by simp) (by simp) (by simp) (by simp) (by simp) (by first | rfl | simp) (by simp) ?_
      simp [c_s_DrawOpenPetition, r_s_DrawOpenPetition_0, r_s_DrawOpenPetition_1, r_s_DrawOpenPetition_2, r_s_DrawOpenPetition_3, hn2, show IntKind.i64.wrap 5 = 5 from rfl, show IntKind.i64.wrap (3 + 2) = 5 from rfl, hn5, show IntKind.i64.wrap 4 = 4 from rfl, show IntKind.i64.wrap (3 + 1) = 4 from rfl]
      refine callQ_Mz [9] [14] (MCall.arg hM3 (by simp)) (by simp) (by simp) (by simp) (by simp) (by simp) (by first | rfl | simp) (by simp) ?_
      simp [c_s_DrawOpenPetition, r_s_DrawOpenPetition_0, r_s_DrawOpenPetition_1, r_s_DrawOpenPetition_2, r_s_DrawOpenPetition_3, hn2, show IntKind.i64.wrap 5 = 5 from rfl, show IntKind.i64.wrap (3 + 2) = 5 from rfl, hn5, show IntKind.i64.wrap 4 = 4 from rfl, show IntKind.i64.wrap (3 + 1) = 4 from rfl]
      refine callQ_Mz [9] [] (MCall.arg hM4 (by simp)) (by simp) (by simp) (by simp) (by simp) (by simp) (by first | rfl | simp) (by simp) ?_
      simp [c_s_DrawOpenPetition, r_s_DrawOpenPetition_0, r_s_DrawOpenPetition_1, r_s_DrawOpenPetition_2, r_s_DrawOpenPetition_3, hn2, show IntKind.i64.wrap 5 = 5 from rfl, show IntKind.i64.wrap (3 + 2) = 5 from rfl, hn5, show IntKind.i64.wrap 4 = 4 from rfl, show IntKind.i64.wrap (3 + 1) = 4 from rfl]
      refine callQ_Mz [9] [22] (MCall.arg hM6 (by simp)) (by simp) (by simp) (by simp) (by simp) (by simp) (by first | rfl | simp) (by simp) ?_
      simp [c_s_DrawOpenPetition, r_s_DrawOpenPetition_0, r_s_DrawOpenPetition_1, r_s_DrawOpenPetition_2, r_s_DrawOpenPetition_3, hn2, show IntKind.i64.wrap 5 = 5 from rfl, show IntKind.i64.wrap (3 + 2) = 5 from rfl, hn5, show IntKind.i64.wrap 4 = 4 from rfl, show IntKind.i64.wrap (3 + 1) = 4 from rfl]
    · obtain ⟨v6, k7, s7, ⟨hv6, hk6⟩, hM6⟩ := s_l1Cur_among code k5 s5 [0, 30, 9999, -1, 10000] (by omega) (by simp) (by simp)
      refine ⟨v0, v3, v6, ?_⟩
      refine PCall.of fn_s_DrawOpenPetition (by simp) ?_
      simp [c_s_DrawOpenPetition, r_s_DrawOpenPetition_0, r_s_DrawOpenPetition_1, r_s_DrawOpenPetition_2, r_s_DrawOpenPetition_3, hn2, show IntKind.i64.wrap 5 = 5 from rfl, show IntKind.i64.wrap (3 + 2) = 5 from rfl, hn5, show IntKind.i64.wrap 5 = 5 from rfl, show IntKind.i64.wrap (3 + 2) = 5 from rfl]
      refine callQ_Mz [9] [] (MCall.arg hM0 (by simp)) (by simp) (by simp) (by simp) (by simp) (by simp) (by first | rfl | simp) (by simp) ?_
      simp [c_s_DrawOpenPetition, r_s_DrawOpenPetition_0, r_s_DrawOpenPetition_1, r_s_DrawOpenPetition_2, r_s_DrawOpenPetition_3, hn2, show IntKind.i64.wrap 5 = 5 from rfl, show IntKind.i64.wrap (3 + 2) = 5 from rfl, hn5, show IntKind.i64.wrap 5 = 5 from rfl, show IntKind.i64.wrap (3 + 2) = 5 from rfl]
      refine callQ_Mz [9] [] (MCall.arg hM1 (by simp)) (by simp) (by simp) (by simp) (by simp) (by simp) (by first | rfl | simp) (by simp) ?_
      simp [c_s_DrawOpenPetition, r_s_DrawOpenPetition_0, r_s_DrawOpenPetition_1, r_s_DrawOpenPetition_2, r_s_DrawOpenPetition_3, hn2, show IntKind.i64.wrap 5 = 5 from rfl, show IntKind.i64.wrap (3 + 2) = 5 from rfl, hn5, show IntKind.i64.wrap 5 = 5 from rfl, show IntKind.i64.wrap (3 + 2) = 5 from rfl]
      refine callQ_Mz [9] [14] (MCall.arg hM3 (by simp)) (by simp) (by simp) (by simp) (by simp) (by simp) (by first | rfl | simp) (by simp) ?_
      simp [c_s_DrawOpenPetition, r_s_DrawOpenPetition_0, r_s_DrawOpenPetition_1, r_s_DrawOpenPetition_2, r_s_DrawOpenPetition_3, hn2, show IntKind.i64.wrap 5 = 5 from rfl, show IntKind.i64.wrap (3 + 2) = 5 from rfl, hn5, show IntKind.i64.wrap 5 = 5 from rfl, show IntKind.i64.wrap (3 + 2) = 5 from rfl]
      refine callQ_Mz [9] [] (MCall.arg hM4 (by simp)) (by simp) (by simp) (by simp) (by simp) (by simp) (by first | rfl | simp) (by simp) ?_
      simp [c_s_DrawOpenPetition, r_s_DrawOpenPetition_0, r_s_DrawOpenPetition_1, r_s_DrawOpenPetition_2, r_s_DrawOpenPetition_3, hn2, show IntKind.i64.wrap 5 = 5 from rfl, show IntKind.i64.wrap (3 + 2) = 5 from rfl, hn5, show IntKind.i64.wrap 5 = 5 from rfl, show IntKind.i64.wrap (3 + 2) = 5 from rfl]
      refine callQ_Mz [9] [22] (MCall.arg hM6 (by simp)) (by simp) (by simp) (by simp) (by simp) (by simp) (by first | rfl | simp) (by simp) ?_
      simp [c_s_DrawOpenPetition, r_s_DrawOpenPetition_0, r_s_DrawOpenPetition_1, r_s_DrawOpenPetition_2, r_s_DrawOpenPetition_3, hn2, show IntKind.i64.wrap 5 = 5 from rfl, show IntKind.i64.wrap (3 + 2) = 5 from rfl, hn5, show IntKind.i64.wrap 5 = 5 from rfl, show IntKind.i64.wrap (3 + 2) = 5 from rfl]
set_option maxHeartbeats 4000000 in
theorem s_DrawOverduePetitions (code : List UInt8) : ∃ (r0 : List Petition) (r1 : Int) (r2 : Int), PCall Try.prog n_s_DrawOverduePetitions [.ro 1 (code.map Y)] (.tup [.own 5 (r0.map ePetition), I r1, I r2]) := by
  obtain ⟨v0, k1, s1, ⟨hl0, hk0⟩, hM0⟩ := s_l1Cur_petitions code 0 0 (by omega)
  obtain ⟨v1, k2, s2, ⟨hv1, hk1⟩, hM1⟩ := s_l1Cur_pick code k1 s1 24 (by omega) (by omega)
  rcases quo11 (v := v1) (by omega) (by omega) with hn2 | hn2 | hn2
  · obtain ⟨v3, k4, s4, ⟨hv3, hk3⟩, hM3⟩ := s_l1Cur_among code k2 s2 [0, 30, 60, 100, 9999] (by omega) (by simp) (by simp)
    obtain ⟨v4, k5, s5, ⟨hv4, hk4⟩, hM4⟩ := s_l1Cur_among code k4 s4 [0, 5, 30, 9999] (by omega) (by simp) (by simp)
    refine ⟨v0, v3, v4, ?_⟩
    refine PCall.of fn_s_DrawOverduePetitions (by simp) ?_
    simp [c_s_DrawOverduePetitions, r_s_DrawOverduePetitions_0, r_s_DrawOverduePetitions_1, r_s_DrawOverduePetitions_2, r_s_DrawOverduePetitions_3, hn2, show IntKind.i64.wrap 5 = 5 from rfl, show IntKind.i64.wrap (5 + 0) = 5 from rfl]
    refine callQ_Mz [9] [] (MCall.arg hM0 (by simp)) (by simp) (by simp) (by simp) (by simp) (by simp) (by first | rfl | simp) (by simp) ?_
    simp [c_s_DrawOverduePetitions, r_s_DrawOverduePetitions_0, r_s_DrawOverduePetitions_1, r_s_DrawOverduePetitions_2, r_s_DrawOverduePetitions_3, hn2, show IntKind.i64.wrap 5 = 5 from rfl, show IntKind.i64.wrap (5 + 0) = 5 from rfl]
    refine callQ_Mz [9] [] (MCall.arg hM1 (by simp)) (by simp) (by simp) (by simp) (by simp) (by simp) (by first | rfl | simp) (by simp) ?_
    simp [c_s_DrawOverduePetitions, r_s_DrawOverduePetitions_0, r_s_DrawOverduePetitions_1, r_s_DrawOverduePetitions_2, r_s_DrawOverduePetitions_3, hn2, show IntKind.i64.wrap 5 = 5 from rfl, show IntKind.i64.wrap (5 + 0) = 5 from rfl]
    refine callQ_Mz [9] [14] (MCall.arg hM3 (by simp)) (by simp) (by simp) (by simp) (by simp) (by simp) (by first | rfl | simp) (by simp) ?_
    simp [c_s_DrawOverduePetitions, r_s_DrawOverduePetitions_0, r_s_DrawOverduePetitions_1, r_s_DrawOverduePetitions_2, r_s_DrawOverduePetitions_3, hn2, show IntKind.i64.wrap 5 = 5 from rfl, show IntKind.i64.wrap (5 + 0) = 5 from rfl]
    refine callQ_Mz [9] [22] (MCall.arg hM4 (by simp)) (by simp) (by simp) (by simp) (by simp) (by simp) (by first | rfl | simp) (by simp) ?_
    simp [c_s_DrawOverduePetitions, r_s_DrawOverduePetitions_0, r_s_DrawOverduePetitions_1, r_s_DrawOverduePetitions_2, r_s_DrawOverduePetitions_3, hn2, show IntKind.i64.wrap 5 = 5 from rfl, show IntKind.i64.wrap (5 + 0) = 5 from rfl]
  · obtain ⟨v3, k4, s4, ⟨hv3, hk3⟩, hM3⟩ := s_l1Cur_among code k2 s2 [0, 30, 60, 100, 9999, -1] (by omega) (by simp) (by simp)
    obtain ⟨v4, k5, s5, ⟨hv4, hk4⟩, hM4⟩ := s_l1Cur_among code k4 s4 [0, 5, 30, 9999] (by omega) (by simp) (by simp)
    refine ⟨v0, v3, v4, ?_⟩
    refine PCall.of fn_s_DrawOverduePetitions (by simp) ?_
    simp [c_s_DrawOverduePetitions, r_s_DrawOverduePetitions_0, r_s_DrawOverduePetitions_1, r_s_DrawOverduePetitions_2, r_s_DrawOverduePetitions_3, hn2, show IntKind.i64.wrap 6 = 6 from rfl, show IntKind.i64.wrap (5 + 1) = 6 from rfl]
    refine callQ_Mz [9] [] (MCall.arg hM0 (by simp)) (by simp) (by simp) (by simp) (by simp) (by simp) (by first | rfl | simp) (by simp) ?_
    simp [c_s_DrawOverduePetitions, r_s_DrawOverduePetitions_0, r_s_DrawOverduePetitions_1, r_s_DrawOverduePetitions_2, r_s_DrawOverduePetitions_3, hn2, show IntKind.i64.wrap 6 = 6 from rfl, show IntKind.i64.wrap (5 + 1) = 6 from rfl]
    refine callQ_Mz [9] [] (MCall.arg hM1 (by simp)) (by simp) (by simp) (by simp) (by simp) (by simp) (by first | rfl | simp) (by simp) ?_
    simp [c_s_DrawOverduePetitions, r_s_DrawOverduePetitions_0, r_s_DrawOverduePetitions_1, r_s_DrawOverduePetitions_2, r_s_DrawOverduePetitions_3, hn2, show IntKind.i64.wrap 6 = 6 from rfl, show IntKind.i64.wrap (5 + 1) = 6 from rfl]
    refine callQ_Mz [9] [14] (MCall.arg hM3 (by simp)) (by simp) (by simp) (by simp) (by simp) (by simp) (by first | rfl | simp) (by simp) ?_
    simp [c_s_DrawOverduePetitions, r_s_DrawOverduePetitions_0, r_s_DrawOverduePetitions_1, r_s_DrawOverduePetitions_2, r_s_DrawOverduePetitions_3, hn2, show IntKind.i64.wrap 6 = 6 from rfl, show IntKind.i64.wrap (5 + 1) = 6 from rfl]
    refine callQ_Mz [9] [22] (MCall.arg hM4 (by simp)) (by simp) (by simp) (by simp) (by simp) (by simp) (by first | rfl | simp) (by simp) ?_
    simp [c_s_DrawOverduePetitions, r_s_DrawOverduePetitions_0, r_s_DrawOverduePetitions_1, r_s_DrawOverduePetitions_2, r_s_DrawOverduePetitions_3, hn2, show IntKind.i64.wrap 6 = 6 from rfl, show IntKind.i64.wrap (5 + 1) = 6 from rfl]
  · obtain ⟨v3, k4, s4, ⟨hv3, hk3⟩, hM3⟩ := s_l1Cur_among code k2 s2 [0, 30, 60, 100, 9999, -1, 10000] (by omega) (by simp) (by simp)
    obtain ⟨v4, k5, s5, ⟨hv4, hk4⟩, hM4⟩ := s_l1Cur_among code k4 s4 [0, 5, 30, 9999] (by omega) (by simp) (by simp)
    refine ⟨v0, v3, v4, ?_⟩
    refine PCall.of fn_s_DrawOverduePetitions (by simp) ?_
    simp [c_s_DrawOverduePetitions, r_s_DrawOverduePetitions_0, r_s_DrawOverduePetitions_1, r_s_DrawOverduePetitions_2, r_s_DrawOverduePetitions_3, hn2, show IntKind.i64.wrap 7 = 7 from rfl, show IntKind.i64.wrap (5 + 2) = 7 from rfl]
    refine callQ_Mz [9] [] (MCall.arg hM0 (by simp)) (by simp) (by simp) (by simp) (by simp) (by simp) (by first | rfl | simp) (by simp) ?_
    simp [c_s_DrawOverduePetitions, r_s_DrawOverduePetitions_0, r_s_DrawOverduePetitions_1, r_s_DrawOverduePetitions_2, r_s_DrawOverduePetitions_3, hn2, show IntKind.i64.wrap 7 = 7 from rfl, show IntKind.i64.wrap (5 + 2) = 7 from rfl]
    refine callQ_Mz [9] [] (MCall.arg hM1 (by simp)) (by simp) (by simp) (by simp) (by simp) (by simp) (by first | rfl | simp) (by simp) ?_
    simp [c_s_DrawOverduePetitions, r_s_DrawOverduePetitions_0, r_s_DrawOverduePetitions_1, r_s_DrawOverduePetitions_2, r_s_DrawOverduePetitions_3, hn2, show IntKind.i64.wrap 7 = 7 from rfl, show IntKind.i64.wrap (5 + 2) = 7 from rfl]
    refine callQ_Mz [9] [14] (MCall.arg hM3 (by simp)) (by simp) (by simp) (by simp) (by simp) (by simp) (by first | rfl | simp) (by simp) ?_
    simp [c_s_DrawOverduePetitions, r_s_DrawOverduePetitions_0, r_s_DrawOverduePetitions_1, r_s_DrawOverduePetitions_2, r_s_DrawOverduePetitions_3, hn2, show IntKind.i64.wrap 7 = 7 from rfl, show IntKind.i64.wrap (5 + 2) = 7 from rfl]
    refine callQ_Mz [9] [22] (MCall.arg hM4 (by simp)) (by simp) (by simp) (by simp) (by simp) (by simp) (by first | rfl | simp) (by simp) ?_
    simp [c_s_DrawOverduePetitions, r_s_DrawOverduePetitions_0, r_s_DrawOverduePetitions_1, r_s_DrawOverduePetitions_2, r_s_DrawOverduePetitions_3, hn2, show IntKind.i64.wrap 7 = 7 from rfl, show IntKind.i64.wrap (5 + 2) = 7 from rfl]
end Go.Proofs.Ytgefdcllialhkaa
