/- Draws of fields, groups and arms: printed by drawgen.py. -/
import Derived.Test.YtgefdcllialhkaaCodeDrawArms
import Derived.Test.YtgefdcllialhkaaCursor
import Derived.Test.YtgefdcllialhkaaArms
set_option linter.unusedVariables false
set_option linter.unusedSimpArgs false
namespace Go.Proofs.Ytgefdcllialhkaa
open Go.Abs

set_option maxHeartbeats 4000000 in
theorem s_l1Cur_field (code : List UInt8) (k : Nat) (s : Int) (hk : k ≤ 10000000000) : ∃ (r0 : Field) (k' : Nat) (s' : Int), (k ≤ k' ∧ k' ≤ k + 10) ∧ MCall Try.prog n_s_l1Cur_field [curB code k s] [cR] (eField r0) [some (curB code k' s')] := by
  obtain ⟨v0, k1, s1, ⟨hv0, hk0⟩, hM0⟩ := s_l1Cur_tincture code k s (by omega)
  obtain ⟨v1, k2, s2, hk1, hM1⟩ := s_l1Cur_one code k1 s1 2 (by omega) (by omega)
  cases v1 with
  | true =>
    refine ⟨⟨0, 0, v0, 0⟩, k2, s2, by omega, ?_⟩
    refine MCall.of fn_s_l1Cur_field (by simp) rfl (by simp) ?_
    simp [c_s_l1Cur_field, r_s_l1Cur_field_0, r_s_l1Cur_field_1, r_s_l1Cur_field_2, r_s_l1Cur_field_3]
    refine callQ_Mz [1000000] [] (MCall.arg hM0 (by simp)) (by simp) (by simp) (by simp) (by simp) (by simp) (by first | rfl | simp) (by simp) ?_
    simp [c_s_l1Cur_field, r_s_l1Cur_field_0, r_s_l1Cur_field_1, r_s_l1Cur_field_2, r_s_l1Cur_field_3]
    refine callQ_Mz [1000000] [] (MCall.arg hM1 (by simp)) (by simp) (by simp) (by simp) (by simp) (by simp) (by first | rfl | simp) (by simp) ?_
    simp [c_s_l1Cur_field, r_s_l1Cur_field_0, r_s_l1Cur_field_1, r_s_l1Cur_field_2, r_s_l1Cur_field_3]
  | false =>
    obtain ⟨v3, k4, s4, ⟨hv3, hk3⟩, hM3⟩ := s_l1Cur_pick code k2 s2 7 (by omega) (by omega)
    obtain ⟨v4, k5, s5, ⟨hv4, hk4⟩, hM4⟩ := s_l1Cur_among code k4 s4 [0, 0, 1, 2, 3, 4] (by omega) (by simp) (by simp)
    obtain ⟨v5, k6, s6, ⟨hv5, hk5⟩, hM5⟩ := s_l1Cur_pick code k5 s5 8 (by omega) (by omega)
    refine ⟨⟨(IntKind.i64.wrap (1 + v3)), v4, v0, (IntKind.i64.wrap (1 + (Int.tmod (IntKind.i64.wrap (v0 + v5)) 9)))⟩, k6, s6, by omega, ?_⟩
    refine MCall.of fn_s_l1Cur_field (by simp) rfl (by simp) ?_
    simp [c_s_l1Cur_field, r_s_l1Cur_field_0, r_s_l1Cur_field_1, r_s_l1Cur_field_2, r_s_l1Cur_field_4, r_s_l1Cur_field_5, r_s_l1Cur_field_6, p_s_l1Cur_field_6, r_s_l1Cur_field_7]
    refine callQ_Mz [1000000] [] (MCall.arg hM0 (by simp)) (by simp) (by simp) (by simp) (by simp) (by simp) (by first | rfl | simp) (by simp) ?_
    simp [c_s_l1Cur_field, r_s_l1Cur_field_0, r_s_l1Cur_field_1, r_s_l1Cur_field_2, r_s_l1Cur_field_4, r_s_l1Cur_field_5, r_s_l1Cur_field_6, p_s_l1Cur_field_6, r_s_l1Cur_field_7]
    refine callQ_Mz [1000000] [] (MCall.arg hM1 (by simp)) (by simp) (by simp) (by simp) (by simp) (by simp) (by first | rfl | simp) (by simp) ?_
    simp [c_s_l1Cur_field, r_s_l1Cur_field_0, r_s_l1Cur_field_1, r_s_l1Cur_field_2, r_s_l1Cur_field_4, r_s_l1Cur_field_5, r_s_l1Cur_field_6, p_s_l1Cur_field_6, r_s_l1Cur_field_7]
    refine callQ_Mz [1000000] [] (MCall.arg hM3 (by simp)) (by simp) (by simp) (by simp) (by simp) (by simp) (by first | rfl | simp) (by simp) ?_
    simp [c_s_l1Cur_field, r_s_l1Cur_field_0, r_s_l1Cur_field_1, r_s_l1Cur_field_2, r_s_l1Cur_field_4, r_s_l1Cur_field_5, r_s_l1Cur_field_6, p_s_l1Cur_field_6, r_s_l1Cur_field_7]
    refine callQ_Mz [1000000] [15] (MCall.arg hM4 (by simp)) (by simp) (by simp) (by simp) (by simp) (by simp) (by first | rfl | simp) (by simp) ?_
    simp [c_s_l1Cur_field, r_s_l1Cur_field_0, r_s_l1Cur_field_1, r_s_l1Cur_field_2, r_s_l1Cur_field_4, r_s_l1Cur_field_5, r_s_l1Cur_field_6, p_s_l1Cur_field_6, r_s_l1Cur_field_7]
    refine callD_M [1000000] [] (l := [_]) (MCall.arg hM5 (by simp)) (by simp) (by simp) (by simp) (by simp) (by simp) (by first | rfl | simp) (by simp) (by simp) ?_
    simp [c_s_l1Cur_field, r_s_l1Cur_field_0, r_s_l1Cur_field_1, r_s_l1Cur_field_2, r_s_l1Cur_field_4, r_s_l1Cur_field_5, r_s_l1Cur_field_6, p_s_l1Cur_field_6, r_s_l1Cur_field_7]
    first | done | exact oEnd_of (by simp [p_s_l1Cur_field_6]) (by simp) | exact ⟨oEnd_of (by simp [p_s_l1Cur_field_6]) (by simp), by simp [c_s_l1Cur_field, r_s_l1Cur_field_0, r_s_l1Cur_field_1, r_s_l1Cur_field_2, r_s_l1Cur_field_4, r_s_l1Cur_field_5, r_s_l1Cur_field_6, p_s_l1Cur_field_6, r_s_l1Cur_field_7]⟩ | trace_state
set_option maxHeartbeats 4000000 in
theorem s_l1Cur_group (code : List UInt8) (k : Nat) (s : Int) (hk : k ≤ 10000000000) : ∃ (r0 : Group) (k' : Nat) (s' : Int), (k ≤ k' ∧ k' ≤ k + 8) ∧ MCall Try.prog n_s_l1Cur_group [curB code k s] [cR] (eGroup r0) [some (curB code k' s')] := by
  obtain ⟨v0, k1, s1, ⟨hv0, hk0⟩, hM0⟩ := s_l1Cur_among code k s [1, 1, 2, 3, 3, 4, 5, 6] (by omega) (by simp) (by simp)
  obtain ⟨v1, k2, s2, ⟨hv1, hk1⟩, hM1⟩ := s_l1Cur_pick code k1 s1 8 (by omega) (by omega)
  obtain ⟨v2, k3, s3, ⟨hv2, hk2⟩, hM2⟩ := s_l1Cur_tincture code k2 s2 (by omega)
  by_cases c3 : (IntKind.i64.wrap (1 + v1)) ≤ 3
  · obtain ⟨v4, k5, s5, ⟨hv4, hk4⟩, hM4⟩ := s_l1Cur_pick code k3 s3 2 (by omega) (by omega)
    refine ⟨⟨v0, (IntKind.i64.wrap (1 + v1)), (IntKind.i64.wrap (1 + v4)), v2⟩, k5, s5, by omega, ?_⟩
    refine MCall.of fn_s_l1Cur_group (by simp) rfl (by simp) ?_
    simp [c_s_l1Cur_group, r_s_l1Cur_group_0, r_s_l1Cur_group_1, r_s_l1Cur_group_2, r_s_l1Cur_group_3, r_s_l1Cur_group_4, c3]
    refine callQ_Mz [1000000] [5] (MCall.arg hM0 (by simp)) (by simp) (by simp) (by simp) (by simp) (by simp) (by first | rfl | simp) (by simp) ?_
    simp [c_s_l1Cur_group, r_s_l1Cur_group_0, r_s_l1Cur_group_1, r_s_l1Cur_group_2, r_s_l1Cur_group_3, r_s_l1Cur_group_4, c3]
    refine callQ_Mz [1000000] [] (MCall.arg hM1 (by simp)) (by simp) (by simp) (by simp) (by simp) (by simp) (by first | rfl | simp) (by simp) ?_
    simp [c_s_l1Cur_group, r_s_l1Cur_group_0, r_s_l1Cur_group_1, r_s_l1Cur_group_2, r_s_l1Cur_group_3, r_s_l1Cur_group_4, c3]
    refine callQ_Mz [1000000] [] (MCall.arg hM2 (by simp)) (by simp) (by simp) (by simp) (by simp) (by simp) (by first | rfl | simp) (by simp) ?_
    simp [c_s_l1Cur_group, r_s_l1Cur_group_0, r_s_l1Cur_group_1, r_s_l1Cur_group_2, r_s_l1Cur_group_3, r_s_l1Cur_group_4, c3]
    refine callQ_v (PCall.arg (s_l4Beast (IntKind.i64.wrap (1 + v1))) (by simp)) ?_
    simp [c_s_l1Cur_group, r_s_l1Cur_group_0, r_s_l1Cur_group_1, r_s_l1Cur_group_2, r_s_l1Cur_group_3, r_s_l1Cur_group_4, c3]
    refine callQ_Mz [1000000] [] (MCall.arg hM4 (by simp)) (by simp) (by simp) (by simp) (by simp) (by simp) (by first | rfl | simp) (by simp) ?_
    simp [c_s_l1Cur_group, r_s_l1Cur_group_0, r_s_l1Cur_group_1, r_s_l1Cur_group_2, r_s_l1Cur_group_3, r_s_l1Cur_group_4, c3]
  · refine ⟨⟨v0, (IntKind.i64.wrap (1 + v1)), 0, v2⟩, k3, s3, by omega, ?_⟩
    refine MCall.of fn_s_l1Cur_group (by simp) rfl (by simp) ?_
    simp [c_s_l1Cur_group, r_s_l1Cur_group_0, r_s_l1Cur_group_1, r_s_l1Cur_group_2, r_s_l1Cur_group_4, c3]
    refine callQ_Mz [1000000] [5] (MCall.arg hM0 (by simp)) (by simp) (by simp) (by simp) (by simp) (by simp) (by first | rfl | simp) (by simp) ?_
    simp [c_s_l1Cur_group, r_s_l1Cur_group_0, r_s_l1Cur_group_1, r_s_l1Cur_group_2, r_s_l1Cur_group_4, c3]
    refine callQ_Mz [1000000] [] (MCall.arg hM1 (by simp)) (by simp) (by simp) (by simp) (by simp) (by simp) (by first | rfl | simp) (by simp) ?_
    simp [c_s_l1Cur_group, r_s_l1Cur_group_0, r_s_l1Cur_group_1, r_s_l1Cur_group_2, r_s_l1Cur_group_4, c3]
    refine callQ_Mz [1000000] [] (MCall.arg hM2 (by simp)) (by simp) (by simp) (by simp) (by simp) (by simp) (by first | rfl | simp) (by simp) ?_
    simp [c_s_l1Cur_group, r_s_l1Cur_group_0, r_s_l1Cur_group_1, r_s_l1Cur_group_2, r_s_l1Cur_group_4, c3]
    refine callQ_v (PCall.arg (s_l4Beast (IntKind.i64.wrap (1 + v1))) (by simp)) ?_
    simp [c_s_l1Cur_group, r_s_l1Cur_group_0, r_s_l1Cur_group_1, r_s_l1Cur_group_2, r_s_l1Cur_group_4, c3]
set_option maxHeartbeats 4000000 in
theorem s_l1Cur_anyField (code : List UInt8) (k : Nat) (s : Int) (hk : k ≤ 1000000000) : ∃ (r0 : Field) (k' : Nat) (s' : Int), (k ≤ k' ∧ k' ≤ k + 14) ∧ MCall Try.prog n_s_l1Cur_anyField [curB code k s] [cR] (eField r0) [some (curB code k' s')] := by
  obtain ⟨v0, k1, s1, hk0, hM0⟩ := s_l1Cur_field code k s (by omega)
  obtain ⟨v1, k2, s2, ⟨hv1, hk1⟩, hM1⟩ := s_l1Cur_pick code k1 s1 24 (by omega) (by omega)
  by_cases c2 : v1 = 0
  · obtain ⟨v3, k4, s4, ⟨hv3, hk3⟩, hM3⟩ := s_l1Cur_among code k2 s2 [-1, 8, 0, 7, 1] (by omega) (by simp) (by simp)
    refine ⟨⟨v3, v0.line, v0.first, v0.second⟩, k4, s4, by omega, ?_⟩
    refine MCall.of fn_s_l1Cur_anyField (by simp) rfl (by simp) ?_
    simp [c_s_l1Cur_anyField, r_s_l1Cur_anyField_0, r_s_l1Cur_anyField_1, r_s_l1Cur_anyField_2, r_s_l1Cur_anyField_3, r_s_l1Cur_anyField_4, r_s_l1Cur_anyField_11, c2]
    refine callQ_Mz [1000000] [] (MCall.arg hM0 (by simp)) (by simp) (by simp) (by simp) (by simp) (by simp) (by first | rfl | simp) (by simp) ?_
    simp [c_s_l1Cur_anyField, r_s_l1Cur_anyField_0, r_s_l1Cur_anyField_1, r_s_l1Cur_anyField_2, r_s_l1Cur_anyField_3, r_s_l1Cur_anyField_4, r_s_l1Cur_anyField_11, c2]
    refine callQ_Mz [1000000] [] (MCall.arg hM1 (by simp)) (by simp) (by simp) (by simp) (by simp) (by simp) (by first | rfl | simp) (by simp) ?_
    simp [c_s_l1Cur_anyField, r_s_l1Cur_anyField_0, r_s_l1Cur_anyField_1, r_s_l1Cur_anyField_2, r_s_l1Cur_anyField_3, r_s_l1Cur_anyField_4, r_s_l1Cur_anyField_11, c2]
    refine callQ_Mz [1000000] [11] (MCall.arg hM3 (by simp)) (by simp) (by simp) (by simp) (by simp) (by simp) (by first | rfl | simp) (by simp) ?_
    simp [c_s_l1Cur_anyField, r_s_l1Cur_anyField_0, r_s_l1Cur_anyField_1, r_s_l1Cur_anyField_2, r_s_l1Cur_anyField_3, r_s_l1Cur_anyField_4, r_s_l1Cur_anyField_11, c2]
  · by_cases c3 : v1 = 1
    · obtain ⟨v4, k5, s5, ⟨hv4, hk4⟩, hM4⟩ := s_l1Cur_among code k2 s2 [-1, 5, 1, 4] (by omega) (by simp) (by simp)
      refine ⟨⟨v0.division, v4, v0.first, v0.second⟩, k5, s5, by omega, ?_⟩
      refine MCall.of fn_s_l1Cur_anyField (by simp) rfl (by simp) ?_
      simp [c_s_l1Cur_anyField, r_s_l1Cur_anyField_0, r_s_l1Cur_anyField_1, r_s_l1Cur_anyField_2, r_s_l1Cur_anyField_3, r_s_l1Cur_anyField_5, r_s_l1Cur_anyField_6, r_s_l1Cur_anyField_11, c2, c3]
      refine callQ_Mz [1000000] [] (MCall.arg hM0 (by simp)) (by simp) (by simp) (by simp) (by simp) (by simp) (by first | rfl | simp) (by simp) ?_
      simp [c_s_l1Cur_anyField, r_s_l1Cur_anyField_0, r_s_l1Cur_anyField_1, r_s_l1Cur_anyField_2, r_s_l1Cur_anyField_3, r_s_l1Cur_anyField_5, r_s_l1Cur_anyField_6, r_s_l1Cur_anyField_11, c2, c3]
      refine callQ_Mz [1000000] [] (MCall.arg hM1 (by simp)) (by simp) (by simp) (by simp) (by simp) (by simp) (by first | rfl | simp) (by simp) ?_
      simp [c_s_l1Cur_anyField, r_s_l1Cur_anyField_0, r_s_l1Cur_anyField_1, r_s_l1Cur_anyField_2, r_s_l1Cur_anyField_3, r_s_l1Cur_anyField_5, r_s_l1Cur_anyField_6, r_s_l1Cur_anyField_11, c2, c3]
      refine callQ_Mz [1000000] [17] (MCall.arg hM4 (by simp)) (by simp) (by simp) (by simp) (by simp) (by simp) (by first | rfl | simp) (by simp) ?_
      simp [c_s_l1Cur_anyField, r_s_l1Cur_anyField_0, r_s_l1Cur_anyField_1, r_s_l1Cur_anyField_2, r_s_l1Cur_anyField_3, r_s_l1Cur_anyField_5, r_s_l1Cur_anyField_6, r_s_l1Cur_anyField_11, c2, c3]
    · by_cases c4 : v1 = 2
      · obtain ⟨v5, k6, s6, ⟨hv5, hk5⟩, hM5⟩ := s_l1Cur_among code k2 s2 [0, 10, 9] (by omega) (by simp) (by simp)
        refine ⟨⟨v0.division, v0.line, v5, v0.second⟩, k6, s6, by omega, ?_⟩
        refine MCall.of fn_s_l1Cur_anyField (by simp) rfl (by simp) ?_
        simp [c_s_l1Cur_anyField, r_s_l1Cur_anyField_0, r_s_l1Cur_anyField_1, r_s_l1Cur_anyField_2, r_s_l1Cur_anyField_3, r_s_l1Cur_anyField_5, r_s_l1Cur_anyField_7, r_s_l1Cur_anyField_8, r_s_l1Cur_anyField_11, c2, c3, c4]
        refine callQ_Mz [1000000] [] (MCall.arg hM0 (by simp)) (by simp) (by simp) (by simp) (by simp) (by simp) (by first | rfl | simp) (by simp) ?_
        simp [c_s_l1Cur_anyField, r_s_l1Cur_anyField_0, r_s_l1Cur_anyField_1, r_s_l1Cur_anyField_2, r_s_l1Cur_anyField_3, r_s_l1Cur_anyField_5, r_s_l1Cur_anyField_7, r_s_l1Cur_anyField_8, r_s_l1Cur_anyField_11, c2, c3, c4]
        refine callQ_Mz [1000000] [] (MCall.arg hM1 (by simp)) (by simp) (by simp) (by simp) (by simp) (by simp) (by first | rfl | simp) (by simp) ?_
        simp [c_s_l1Cur_anyField, r_s_l1Cur_anyField_0, r_s_l1Cur_anyField_1, r_s_l1Cur_anyField_2, r_s_l1Cur_anyField_3, r_s_l1Cur_anyField_5, r_s_l1Cur_anyField_7, r_s_l1Cur_anyField_8, r_s_l1Cur_anyField_11, c2, c3, c4]
        refine callQ_Mz [1000000] [23] (MCall.arg hM5 (by simp)) (by simp) (by simp) (by simp) (by simp) (by simp) (by first | rfl | simp) (by simp) ?_
        simp [c_s_l1Cur_anyField, r_s_l1Cur_anyField_0, r_s_l1Cur_anyField_1, r_s_l1Cur_anyField_2, r_s_l1Cur_anyField_3, r_s_l1Cur_anyField_5, r_s_l1Cur_anyField_7, r_s_l1Cur_anyField_8, r_s_l1Cur_anyField_11, c2, c3, c4]
      · by_cases c5 : v1 = 3
        · obtain ⟨v6, k7, s7, ⟨hv6, hk6⟩, hM6⟩ := s_l1Cur_among code k2 s2 [0, 10, v0.first, 9] (by omega) (by simp) (by simp)
          refine ⟨⟨v0.division, v0.line, v0.first, v6⟩, k7, s7, by omega, ?_⟩
          refine MCall.of fn_s_l1Cur_anyField (by simp) rfl (by simp) ?_
          simp [c_s_l1Cur_anyField, r_s_l1Cur_anyField_0, r_s_l1Cur_anyField_1, r_s_l1Cur_anyField_2, r_s_l1Cur_anyField_3, r_s_l1Cur_anyField_5, r_s_l1Cur_anyField_7, r_s_l1Cur_anyField_9, r_s_l1Cur_anyField_10, r_s_l1Cur_anyField_11, c2, c3, c4, c5]
          refine callQ_Mz [1000000] [] (MCall.arg hM0 (by simp)) (by simp) (by simp) (by simp) (by simp) (by simp) (by first | rfl | simp) (by simp) ?_
          simp [c_s_l1Cur_anyField, r_s_l1Cur_anyField_0, r_s_l1Cur_anyField_1, r_s_l1Cur_anyField_2, r_s_l1Cur_anyField_3, r_s_l1Cur_anyField_5, r_s_l1Cur_anyField_7, r_s_l1Cur_anyField_9, r_s_l1Cur_anyField_10, r_s_l1Cur_anyField_11, c2, c3, c4, c5]
          refine callQ_Mz [1000000] [] (MCall.arg hM1 (by simp)) (by simp) (by simp) (by simp) (by simp) (by simp) (by first | rfl | simp) (by simp) ?_
          simp [c_s_l1Cur_anyField, r_s_l1Cur_anyField_0, r_s_l1Cur_anyField_1, r_s_l1Cur_anyField_2, r_s_l1Cur_anyField_3, r_s_l1Cur_anyField_5, r_s_l1Cur_anyField_7, r_s_l1Cur_anyField_9, r_s_l1Cur_anyField_10, r_s_l1Cur_anyField_11, c2, c3, c4, c5]
          refine callQ_Mz [1000000] [31] (MCall.arg hM6 (by simp)) (by simp) (by simp) (by simp) (by simp) (by simp) (by first | rfl | simp) (by simp) ?_
          simp [c_s_l1Cur_anyField, r_s_l1Cur_anyField_0, r_s_l1Cur_anyField_1, r_s_l1Cur_anyField_2, r_s_l1Cur_anyField_3, r_s_l1Cur_anyField_5, r_s_l1Cur_anyField_7, r_s_l1Cur_anyField_9, r_s_l1Cur_anyField_10, r_s_l1Cur_anyField_11, c2, c3, c4, c5]
        · refine ⟨⟨v0.division, v0.line, v0.first, v0.second⟩, k2, s2, by omega, ?_⟩
          refine MCall.of fn_s_l1Cur_anyField (by simp) rfl (by simp) ?_
          simp [c_s_l1Cur_anyField, r_s_l1Cur_anyField_0, r_s_l1Cur_anyField_1, r_s_l1Cur_anyField_2, r_s_l1Cur_anyField_3, r_s_l1Cur_anyField_5, r_s_l1Cur_anyField_7, r_s_l1Cur_anyField_9, r_s_l1Cur_anyField_11, c2, c3, c4, c5]
          refine callQ_Mz [1000000] [] (MCall.arg hM0 (by simp)) (by simp) (by simp) (by simp) (by simp) (by simp) (by first | rfl | simp) (by simp) ?_
          simp [c_s_l1Cur_anyField, r_s_l1Cur_anyField_0, r_s_l1Cur_anyField_1, r_s_l1Cur_anyField_2, r_s_l1Cur_anyField_3, r_s_l1Cur_anyField_5, r_s_l1Cur_anyField_7, r_s_l1Cur_anyField_9, r_s_l1Cur_anyField_11, c2, c3, c4, c5]
          refine callQ_Mz [1000000] [] (MCall.arg hM1 (by simp)) (by simp) (by simp) (by simp) (by simp) (by simp) (by first | rfl | simp) (by simp) ?_
          simp [c_s_l1Cur_anyField, r_s_l1Cur_anyField_0, r_s_l1Cur_anyField_1, r_s_l1Cur_anyField_2, r_s_l1Cur_anyField_3, r_s_l1Cur_anyField_5, r_s_l1Cur_anyField_7, r_s_l1Cur_anyField_9, r_s_l1Cur_anyField_11, c2, c3, c4, c5]
set_option maxHeartbeats 4000000 in
theorem s_l1Cur_anyGroup (code : List UInt8) (k : Nat) (s : Int) (hk : k ≤ 1000000000) : ∃ (r0 : Group) (k' : Nat) (s' : Int), (k ≤ k' ∧ k' ≤ k + 12) ∧ MCall Try.prog n_s_l1Cur_anyGroup [curB code k s] [cR] (eGroup r0) [some (curB code k' s')] := by
  obtain ⟨v0, k1, s1, hk0, hM0⟩ := s_l1Cur_group code k s (by omega)
  obtain ⟨v1, k2, s2, ⟨hv1, hk1⟩, hM1⟩ := s_l1Cur_pick code k1 s1 24 (by omega) (by omega)
  by_cases c2 : v1 = 0
  · obtain ⟨v3, k4, s4, ⟨hv3, hk3⟩, hM3⟩ := s_l1Cur_among code k2 s2 [0, 7, -1] (by omega) (by simp) (by simp)
    refine ⟨⟨v3, v0.kind, v0.attitude, v0.tincture⟩, k4, s4, by omega, ?_⟩
    refine MCall.of fn_s_l1Cur_anyGroup (by simp) rfl (by simp) ?_
    simp [c_s_l1Cur_anyGroup, r_s_l1Cur_anyGroup_0, r_s_l1Cur_anyGroup_1, r_s_l1Cur_anyGroup_2, r_s_l1Cur_anyGroup_3, r_s_l1Cur_anyGroup_4, r_s_l1Cur_anyGroup_13, c2]
    refine callQ_Mz [1000000] [] (MCall.arg hM0 (by simp)) (by simp) (by simp) (by simp) (by simp) (by simp) (by first | rfl | simp) (by simp) ?_
    simp [c_s_l1Cur_anyGroup, r_s_l1Cur_anyGroup_0, r_s_l1Cur_anyGroup_1, r_s_l1Cur_anyGroup_2, r_s_l1Cur_anyGroup_3, r_s_l1Cur_anyGroup_4, r_s_l1Cur_anyGroup_13, c2]
    refine callQ_Mz [1000000] [] (MCall.arg hM1 (by simp)) (by simp) (by simp) (by simp) (by simp) (by simp) (by first | rfl | simp) (by simp) ?_
    simp [c_s_l1Cur_anyGroup, r_s_l1Cur_anyGroup_0, r_s_l1Cur_anyGroup_1, r_s_l1Cur_anyGroup_2, r_s_l1Cur_anyGroup_3, r_s_l1Cur_anyGroup_4, r_s_l1Cur_anyGroup_13, c2]
    refine callQ_Mz [1000000] [11] (MCall.arg hM3 (by simp)) (by simp) (by simp) (by simp) (by simp) (by simp) (by first | rfl | simp) (by simp) ?_
    simp [c_s_l1Cur_anyGroup, r_s_l1Cur_anyGroup_0, r_s_l1Cur_anyGroup_1, r_s_l1Cur_anyGroup_2, r_s_l1Cur_anyGroup_3, r_s_l1Cur_anyGroup_4, r_s_l1Cur_anyGroup_13, c2]
  · by_cases c3 : v1 = 1
    · obtain ⟨v4, k5, s5, ⟨hv4, hk4⟩, hM4⟩ := s_l1Cur_among code k2 s2 [0, 9, 3, 4] (by omega) (by simp) (by simp)
      refine ⟨⟨v0.count, v4, v0.attitude, v0.tincture⟩, k5, s5, by omega, ?_⟩
      refine MCall.of fn_s_l1Cur_anyGroup (by simp) rfl (by simp) ?_
      simp [c_s_l1Cur_anyGroup, r_s_l1Cur_anyGroup_0, r_s_l1Cur_anyGroup_1, r_s_l1Cur_anyGroup_2, r_s_l1Cur_anyGroup_3, r_s_l1Cur_anyGroup_5, r_s_l1Cur_anyGroup_6, r_s_l1Cur_anyGroup_13, c2, c3]
      refine callQ_Mz [1000000] [] (MCall.arg hM0 (by simp)) (by simp) (by simp) (by simp) (by simp) (by simp) (by first | rfl | simp) (by simp) ?_
      simp [c_s_l1Cur_anyGroup, r_s_l1Cur_anyGroup_0, r_s_l1Cur_anyGroup_1, r_s_l1Cur_anyGroup_2, r_s_l1Cur_anyGroup_3, r_s_l1Cur_anyGroup_5, r_s_l1Cur_anyGroup_6, r_s_l1Cur_anyGroup_13, c2, c3]
      refine callQ_Mz [1000000] [] (MCall.arg hM1 (by simp)) (by simp) (by simp) (by simp) (by simp) (by simp) (by first | rfl | simp) (by simp) ?_
      simp [c_s_l1Cur_anyGroup, r_s_l1Cur_anyGroup_0, r_s_l1Cur_anyGroup_1, r_s_l1Cur_anyGroup_2, r_s_l1Cur_anyGroup_3, r_s_l1Cur_anyGroup_5, r_s_l1Cur_anyGroup_6, r_s_l1Cur_anyGroup_13, c2, c3]
      refine callQ_Mz [1000000] [17] (MCall.arg hM4 (by simp)) (by simp) (by simp) (by simp) (by simp) (by simp) (by first | rfl | simp) (by simp) ?_
      simp [c_s_l1Cur_anyGroup, r_s_l1Cur_anyGroup_0, r_s_l1Cur_anyGroup_1, r_s_l1Cur_anyGroup_2, r_s_l1Cur_anyGroup_3, r_s_l1Cur_anyGroup_5, r_s_l1Cur_anyGroup_6, r_s_l1Cur_anyGroup_13, c2, c3]
    · by_cases c4 : v1 = 2
      · obtain ⟨v5, k6, s6, ⟨hv5, hk5⟩, hM5⟩ := s_l1Cur_among code k2 s2 [0, 1, 2, 3, -1] (by omega) (by simp) (by simp)
        refine ⟨⟨v0.count, v0.kind, v5, v0.tincture⟩, k6, s6, by omega, ?_⟩
        refine MCall.of fn_s_l1Cur_anyGroup (by simp) rfl (by simp) ?_
        simp [c_s_l1Cur_anyGroup, r_s_l1Cur_anyGroup_0, r_s_l1Cur_anyGroup_1, r_s_l1Cur_anyGroup_2, r_s_l1Cur_anyGroup_3, r_s_l1Cur_anyGroup_5, r_s_l1Cur_anyGroup_7, r_s_l1Cur_anyGroup_8, r_s_l1Cur_anyGroup_13, c2, c3, c4]
        refine callQ_Mz [1000000] [] (MCall.arg hM0 (by simp)) (by simp) (by simp) (by simp) (by simp) (by simp) (by first | rfl | simp) (by simp) ?_
        simp [c_s_l1Cur_anyGroup, r_s_l1Cur_anyGroup_0, r_s_l1Cur_anyGroup_1, r_s_l1Cur_anyGroup_2, r_s_l1Cur_anyGroup_3, r_s_l1Cur_anyGroup_5, r_s_l1Cur_anyGroup_7, r_s_l1Cur_anyGroup_8, r_s_l1Cur_anyGroup_13, c2, c3, c4]
        refine callQ_Mz [1000000] [] (MCall.arg hM1 (by simp)) (by simp) (by simp) (by simp) (by simp) (by simp) (by first | rfl | simp) (by simp) ?_
        simp [c_s_l1Cur_anyGroup, r_s_l1Cur_anyGroup_0, r_s_l1Cur_anyGroup_1, r_s_l1Cur_anyGroup_2, r_s_l1Cur_anyGroup_3, r_s_l1Cur_anyGroup_5, r_s_l1Cur_anyGroup_7, r_s_l1Cur_anyGroup_8, r_s_l1Cur_anyGroup_13, c2, c3, c4]
        refine callQ_Mz [1000000] [23] (MCall.arg hM5 (by simp)) (by simp) (by simp) (by simp) (by simp) (by simp) (by first | rfl | simp) (by simp) ?_
        simp [c_s_l1Cur_anyGroup, r_s_l1Cur_anyGroup_0, r_s_l1Cur_anyGroup_1, r_s_l1Cur_anyGroup_2, r_s_l1Cur_anyGroup_3, r_s_l1Cur_anyGroup_5, r_s_l1Cur_anyGroup_7, r_s_l1Cur_anyGroup_8, r_s_l1Cur_anyGroup_13, c2, c3, c4]
      · by_cases c5 : v1 = 3
        · obtain ⟨v6, k7, s7, ⟨hv6, hk6⟩, hM6⟩ := s_l1Cur_among code k2 s2 [0, 10] (by omega) (by simp) (by simp)
          refine ⟨⟨v0.count, v0.kind, v0.attitude, v6⟩, k7, s7, by omega, ?_⟩
          refine MCall.of fn_s_l1Cur_anyGroup (by simp) rfl (by simp) ?_
          simp [c_s_l1Cur_anyGroup, r_s_l1Cur_anyGroup_0, r_s_l1Cur_anyGroup_1, r_s_l1Cur_anyGroup_2, r_s_l1Cur_anyGroup_3, r_s_l1Cur_anyGroup_5, r_s_l1Cur_anyGroup_7, r_s_l1Cur_anyGroup_9, r_s_l1Cur_anyGroup_10, r_s_l1Cur_anyGroup_13, c2, c3, c4, c5]
          refine callQ_Mz [1000000] [] (MCall.arg hM0 (by simp)) (by simp) (by simp) (by simp) (by simp) (by simp) (by first | rfl | simp) (by simp) ?_
          simp [c_s_l1Cur_anyGroup, r_s_l1Cur_anyGroup_0, r_s_l1Cur_anyGroup_1, r_s_l1Cur_anyGroup_2, r_s_l1Cur_anyGroup_3, r_s_l1Cur_anyGroup_5, r_s_l1Cur_anyGroup_7, r_s_l1Cur_anyGroup_9, r_s_l1Cur_anyGroup_10, r_s_l1Cur_anyGroup_13, c2, c3, c4, c5]
          refine callQ_Mz [1000000] [] (MCall.arg hM1 (by simp)) (by simp) (by simp) (by simp) (by simp) (by simp) (by first | rfl | simp) (by simp) ?_
          simp [c_s_l1Cur_anyGroup, r_s_l1Cur_anyGroup_0, r_s_l1Cur_anyGroup_1, r_s_l1Cur_anyGroup_2, r_s_l1Cur_anyGroup_3, r_s_l1Cur_anyGroup_5, r_s_l1Cur_anyGroup_7, r_s_l1Cur_anyGroup_9, r_s_l1Cur_anyGroup_10, r_s_l1Cur_anyGroup_13, c2, c3, c4, c5]
          refine callQ_Mz [1000000] [29] (MCall.arg hM6 (by simp)) (by simp) (by simp) (by simp) (by simp) (by simp) (by first | rfl | simp) (by simp) ?_
          simp [c_s_l1Cur_anyGroup, r_s_l1Cur_anyGroup_0, r_s_l1Cur_anyGroup_1, r_s_l1Cur_anyGroup_2, r_s_l1Cur_anyGroup_3, r_s_l1Cur_anyGroup_5, r_s_l1Cur_anyGroup_7, r_s_l1Cur_anyGroup_9, r_s_l1Cur_anyGroup_10, r_s_l1Cur_anyGroup_13, c2, c3, c4, c5]
        · by_cases c6 : v1 = 4
          · refine ⟨⟨0, 0, 0, 0⟩, k2, s2, by omega, ?_⟩
            refine MCall.of fn_s_l1Cur_anyGroup (by simp) rfl (by simp) ?_
            simp [c_s_l1Cur_anyGroup, r_s_l1Cur_anyGroup_0, r_s_l1Cur_anyGroup_1, r_s_l1Cur_anyGroup_2, r_s_l1Cur_anyGroup_3, r_s_l1Cur_anyGroup_5, r_s_l1Cur_anyGroup_7, r_s_l1Cur_anyGroup_9, r_s_l1Cur_anyGroup_11, r_s_l1Cur_anyGroup_12, c2, c3, c4, c5, c6]
            refine callQ_Mz [1000000] [] (MCall.arg hM0 (by simp)) (by simp) (by simp) (by simp) (by simp) (by simp) (by first | rfl | simp) (by simp) ?_
            simp [c_s_l1Cur_anyGroup, r_s_l1Cur_anyGroup_0, r_s_l1Cur_anyGroup_1, r_s_l1Cur_anyGroup_2, r_s_l1Cur_anyGroup_3, r_s_l1Cur_anyGroup_5, r_s_l1Cur_anyGroup_7, r_s_l1Cur_anyGroup_9, r_s_l1Cur_anyGroup_11, r_s_l1Cur_anyGroup_12, c2, c3, c4, c5, c6]
            refine callQ_Mz [1000000] [] (MCall.arg hM1 (by simp)) (by simp) (by simp) (by simp) (by simp) (by simp) (by first | rfl | simp) (by simp) ?_
            simp [c_s_l1Cur_anyGroup, r_s_l1Cur_anyGroup_0, r_s_l1Cur_anyGroup_1, r_s_l1Cur_anyGroup_2, r_s_l1Cur_anyGroup_3, r_s_l1Cur_anyGroup_5, r_s_l1Cur_anyGroup_7, r_s_l1Cur_anyGroup_9, r_s_l1Cur_anyGroup_11, r_s_l1Cur_anyGroup_12, c2, c3, c4, c5, c6]
          · refine ⟨⟨v0.count, v0.kind, v0.attitude, v0.tincture⟩, k2, s2, by omega, ?_⟩
            refine MCall.of fn_s_l1Cur_anyGroup (by simp) rfl (by simp) ?_
            simp [c_s_l1Cur_anyGroup, r_s_l1Cur_anyGroup_0, r_s_l1Cur_anyGroup_1, r_s_l1Cur_anyGroup_2, r_s_l1Cur_anyGroup_3, r_s_l1Cur_anyGroup_5, r_s_l1Cur_anyGroup_7, r_s_l1Cur_anyGroup_9, r_s_l1Cur_anyGroup_11, r_s_l1Cur_anyGroup_13, c2, c3, c4, c5, c6]
            refine callQ_Mz [1000000] [] (MCall.arg hM0 (by simp)) (by simp) (by simp) (by simp) (by simp) (by simp) (by first | rfl | simp) (by simp) ?_
            simp [c_s_l1Cur_anyGroup, r_s_l1Cur_anyGroup_0, r_s_l1Cur_anyGroup_1, r_s_l1Cur_anyGroup_2, r_s_l1Cur_anyGroup_3, r_s_l1Cur_anyGroup_5, r_s_l1Cur_anyGroup_7, r_s_l1Cur_anyGroup_9, r_s_l1Cur_anyGroup_11, r_s_l1Cur_anyGroup_13, c2, c3, c4, c5, c6]
            refine callQ_Mz [1000000] [] (MCall.arg hM1 (by simp)) (by simp) (by simp) (by simp) (by simp) (by simp) (by first | rfl | simp) (by simp) ?_
            simp [c_s_l1Cur_anyGroup, r_s_l1Cur_anyGroup_0, r_s_l1Cur_anyGroup_1, r_s_l1Cur_anyGroup_2, r_s_l1Cur_anyGroup_3, r_s_l1Cur_anyGroup_5, r_s_l1Cur_anyGroup_7, r_s_l1Cur_anyGroup_9, r_s_l1Cur_anyGroup_11, r_s_l1Cur_anyGroup_13, c2, c3, c4, c5, c6]
set_option maxHeartbeats 4000000 in
theorem s_l1Cur_arms (code : List UInt8) (k : Nat) (s : Int) (hk : k ≤ 1000000000) : ∃ (r0 : Arms) (k' : Nat) (s' : Int), (k ≤ k' ∧ k' ≤ k + 38) ∧ MCall Try.prog n_s_l1Cur_arms [curB code k s] [cR] (eArms r0) [some (curB code k' s')] := by
  obtain ⟨v0, k1, s1, hk0, hM0⟩ := s_l1Cur_field code k s (by omega)
  obtain ⟨v1, k2, s2, hk1, hM1⟩ := s_l1Cur_one code k1 s1 3 (by omega) (by omega)
  cases v1 with
  | true =>
    obtain ⟨v3, k4, s4, hk3, hM3⟩ := s_l1Cur_one code k2 s2 3 (by omega) (by omega)
    cases v3 with
    | true =>
      refine ⟨⟨⟨v0.division, v0.line, v0.first, v0.second⟩, 0, 0, 0, ⟨0, 0, 0, 0⟩, ⟨0, 0, 0, 0⟩⟩, k4, s4, by omega, ?_⟩
      refine MCall.of fn_s_l1Cur_arms (by simp) rfl (by simp) ?_
      simp [c_s_l1Cur_arms, r_s_l1Cur_arms_0, r_s_l1Cur_arms_1, r_s_l1Cur_arms_2, r_s_l1Cur_arms_8, r_s_l1Cur_arms_10]
      refine callQ_Mz [1000000] [] (MCall.arg hM0 (by simp)) (by simp) (by simp) (by simp) (by simp) (by simp) (by first | rfl | simp) (by simp) ?_
      simp [c_s_l1Cur_arms, r_s_l1Cur_arms_0, r_s_l1Cur_arms_1, r_s_l1Cur_arms_2, r_s_l1Cur_arms_8, r_s_l1Cur_arms_10]
      refine callQ_Mz [1000000] [] (MCall.arg hM1 (by simp)) (by simp) (by simp) (by simp) (by simp) (by simp) (by first | rfl | simp) (by simp) ?_
      simp [c_s_l1Cur_arms, r_s_l1Cur_arms_0, r_s_l1Cur_arms_1, r_s_l1Cur_arms_2, r_s_l1Cur_arms_8, r_s_l1Cur_arms_10]
      refine callQ_Mz [1000000] [] (MCall.arg hM3 (by simp)) (by simp) (by simp) (by simp) (by simp) (by simp) (by first | rfl | simp) (by simp) ?_
      simp [c_s_l1Cur_arms, r_s_l1Cur_arms_0, r_s_l1Cur_arms_1, r_s_l1Cur_arms_2, r_s_l1Cur_arms_8, r_s_l1Cur_arms_10]
    | false =>
      obtain ⟨v5, k6, s6, hk5, hM5⟩ := s_l1Cur_group code k4 s4 (by omega)
      refine ⟨⟨⟨v0.division, v0.line, v0.first, v0.second⟩, 0, 0, 0, ⟨0, 0, 0, 0⟩, ⟨v5.count, v5.kind, v5.attitude, v5.tincture⟩⟩, k6, s6, by omega, ?_⟩
      refine MCall.of fn_s_l1Cur_arms (by simp) rfl (by simp) ?_
      simp [c_s_l1Cur_arms, r_s_l1Cur_arms_0, r_s_l1Cur_arms_1, r_s_l1Cur_arms_2, r_s_l1Cur_arms_8, r_s_l1Cur_arms_9, r_s_l1Cur_arms_10]
      refine callQ_Mz [1000000] [] (MCall.arg hM0 (by simp)) (by simp) (by simp) (by simp) (by simp) (by simp) (by first | rfl | simp) (by simp) ?_
      simp [c_s_l1Cur_arms, r_s_l1Cur_arms_0, r_s_l1Cur_arms_1, r_s_l1Cur_arms_2, r_s_l1Cur_arms_8, r_s_l1Cur_arms_9, r_s_l1Cur_arms_10]
      refine callQ_Mz [1000000] [] (MCall.arg hM1 (by simp)) (by simp) (by simp) (by simp) (by simp) (by simp) (by first | rfl | simp) (by simp) ?_
      simp [c_s_l1Cur_arms, r_s_l1Cur_arms_0, r_s_l1Cur_arms_1, r_s_l1Cur_arms_2, r_s_l1Cur_arms_8, r_s_l1Cur_arms_9, r_s_l1Cur_arms_10]
      refine callQ_Mz [1000000] [] (MCall.arg hM3 (by simp)) (by simp) (by simp) (by simp) (by simp) (by simp) (by first | rfl | simp) (by simp) ?_
      simp [c_s_l1Cur_arms, r_s_l1Cur_arms_0, r_s_l1Cur_arms_1, r_s_l1Cur_arms_2, r_s_l1Cur_arms_8, r_s_l1Cur_arms_9, r_s_l1Cur_arms_10]
      refine callQ_Mz [1000000] [] (MCall.arg hM5 (by simp)) (by simp) (by simp) (by simp) (by simp) (by simp) (by first | rfl | simp) (by simp) ?_
      simp [c_s_l1Cur_arms, r_s_l1Cur_arms_0, r_s_l1Cur_arms_1, r_s_l1Cur_arms_2, r_s_l1Cur_arms_8, r_s_l1Cur_arms_9, r_s_l1Cur_arms_10]
  | false =>
    obtain ⟨v3, k4, s4, ⟨hv3, hk3⟩, hM3⟩ := s_l1Cur_pick code k2 s2 7 (by omega) (by omega)
    obtain ⟨v4, k5, s5, ⟨hv4, hk4⟩, hM4⟩ := s_l1Cur_among code k4 s4 [0, 0, 0, 1, 2, 3, 4] (by omega) (by simp) (by simp)
    obtain ⟨v5, k6, s6, ⟨hv5, hk5⟩, hM5⟩ := s_l1Cur_tincture code k5 s5 (by omega)
    obtain ⟨v6, k7, s7, hk6, hM6⟩ := s_l1Cur_one code k6 s6 3 (by omega) (by omega)
    cases v6 with
    | true =>
      obtain ⟨v8, k9, s9, hk8, hM8⟩ := s_l1Cur_group code k7 s7 (by omega)
      obtain ⟨v9, k10, s10, hk9, hM9⟩ := s_l1Cur_one code k9 s9 3 (by omega) (by omega)
      cases v9 with
      | true =>
        refine ⟨⟨⟨v0.division, v0.line, v0.first, v0.second⟩, (IntKind.i64.wrap (1 + v3)), v4, v5, ⟨v8.count, v8.kind, v8.attitude, v8.tincture⟩, ⟨0, 0, 0, 0⟩⟩, k10, s10, by omega, ?_⟩
        refine MCall.of fn_s_l1Cur_arms (by simp) rfl (by simp) ?_
        simp [c_s_l1Cur_arms, r_s_l1Cur_arms_0, r_s_l1Cur_arms_1, r_s_l1Cur_arms_2, r_s_l1Cur_arms_3, r_s_l1Cur_arms_4, r_s_l1Cur_arms_5, r_s_l1Cur_arms_6, r_s_l1Cur_arms_7, r_s_l1Cur_arms_8, r_s_l1Cur_arms_10]
        refine callQ_Mz [1000000] [] (MCall.arg hM0 (by simp)) (by simp) (by simp) (by simp) (by simp) (by simp) (by first | rfl | simp) (by simp) ?_
        simp [c_s_l1Cur_arms, r_s_l1Cur_arms_0, r_s_l1Cur_arms_1, r_s_l1Cur_arms_2, r_s_l1Cur_arms_3, r_s_l1Cur_arms_4, r_s_l1Cur_arms_5, r_s_l1Cur_arms_6, r_s_l1Cur_arms_7, r_s_l1Cur_arms_8, r_s_l1Cur_arms_10]
        refine callQ_Mz [1000000] [] (MCall.arg hM1 (by simp)) (by simp) (by simp) (by simp) (by simp) (by simp) (by first | rfl | simp) (by simp) ?_
        simp [c_s_l1Cur_arms, r_s_l1Cur_arms_0, r_s_l1Cur_arms_1, r_s_l1Cur_arms_2, r_s_l1Cur_arms_3, r_s_l1Cur_arms_4, r_s_l1Cur_arms_5, r_s_l1Cur_arms_6, r_s_l1Cur_arms_7, r_s_l1Cur_arms_8, r_s_l1Cur_arms_10]
        refine callQ_Mz [1000000] [] (MCall.arg hM3 (by simp)) (by simp) (by simp) (by simp) (by simp) (by simp) (by first | rfl | simp) (by simp) ?_
        simp [c_s_l1Cur_arms, r_s_l1Cur_arms_0, r_s_l1Cur_arms_1, r_s_l1Cur_arms_2, r_s_l1Cur_arms_3, r_s_l1Cur_arms_4, r_s_l1Cur_arms_5, r_s_l1Cur_arms_6, r_s_l1Cur_arms_7, r_s_l1Cur_arms_8, r_s_l1Cur_arms_10]
        refine callQ_Mz [1000000] [15] (MCall.arg hM4 (by simp)) (by simp) (by simp) (by simp) (by simp) (by simp) (by first | rfl | simp) (by simp) ?_
        simp [c_s_l1Cur_arms, r_s_l1Cur_arms_0, r_s_l1Cur_arms_1, r_s_l1Cur_arms_2, r_s_l1Cur_arms_3, r_s_l1Cur_arms_4, r_s_l1Cur_arms_5, r_s_l1Cur_arms_6, r_s_l1Cur_arms_7, r_s_l1Cur_arms_8, r_s_l1Cur_arms_10]
        refine callQ_Mz [1000000] [] (MCall.arg hM5 (by simp)) (by simp) (by simp) (by simp) (by simp) (by simp) (by first | rfl | simp) (by simp) ?_
        simp [c_s_l1Cur_arms, r_s_l1Cur_arms_0, r_s_l1Cur_arms_1, r_s_l1Cur_arms_2, r_s_l1Cur_arms_3, r_s_l1Cur_arms_4, r_s_l1Cur_arms_5, r_s_l1Cur_arms_6, r_s_l1Cur_arms_7, r_s_l1Cur_arms_8, r_s_l1Cur_arms_10]
        refine callQ_Mz [1000000] [] (MCall.arg hM6 (by simp)) (by simp) (by simp) (by simp) (by simp) (by simp) (by first | rfl | simp) (by simp) ?_
        simp [c_s_l1Cur_arms, r_s_l1Cur_arms_0, r_s_l1Cur_arms_1, r_s_l1Cur_arms_2, r_s_l1Cur_arms_3, r_s_l1Cur_arms_4, r_s_l1Cur_arms_5, r_s_l1Cur_arms_6, r_s_l1Cur_arms_7, r_s_l1Cur_arms_8, r_s_l1Cur_arms_10]
        refine callQ_Mz [1000000] [] (MCall.arg hM8 (by simp)) (by simp) (by simp) (by simp) (by simp) (by simp) (by first | rfl | simp) (by simp) ?_
        simp [c_s_l1Cur_arms, r_s_l1Cur_arms_0, r_s_l1Cur_arms_1, r_s_l1Cur_arms_2, r_s_l1Cur_arms_3, r_s_l1Cur_arms_4, r_s_l1Cur_arms_5, r_s_l1Cur_arms_6, r_s_l1Cur_arms_7, r_s_l1Cur_arms_8, r_s_l1Cur_arms_10]
        refine callQ_Mz [1000000] [] (MCall.arg hM9 (by simp)) (by simp) (by simp) (by simp) (by simp) (by simp) (by first | rfl | simp) (by simp) ?_
        simp [c_s_l1Cur_arms, r_s_l1Cur_arms_0, r_s_l1Cur_arms_1, r_s_l1Cur_arms_2, r_s_l1Cur_arms_3, r_s_l1Cur_arms_4, r_s_l1Cur_arms_5, r_s_l1Cur_arms_6, r_s_l1Cur_arms_7, r_s_l1Cur_arms_8, r_s_l1Cur_arms_10]
      | false =>
        obtain ⟨v11, k12, s12, hk11, hM11⟩ := s_l1Cur_group code k10 s10 (by omega)
        refine ⟨⟨⟨v0.division, v0.line, v0.first, v0.second⟩, (IntKind.i64.wrap (1 + v3)), v4, v5, ⟨v8.count, v8.kind, v8.attitude, v8.tincture⟩, ⟨v11.count, v11.kind, v11.attitude, v11.tincture⟩⟩, k12, s12, by omega, ?_⟩
        refine MCall.of fn_s_l1Cur_arms (by simp) rfl (by simp) ?_
        simp [c_s_l1Cur_arms, r_s_l1Cur_arms_0, r_s_l1Cur_arms_1, r_s_l1Cur_arms_2, r_s_l1Cur_arms_3, r_s_l1Cur_arms_4, r_s_l1Cur_arms_5, r_s_l1Cur_arms_6, r_s_l1Cur_arms_7, r_s_l1Cur_arms_8, r_s_l1Cur_arms_9, r_s_l1Cur_arms_10]
        refine callQ_Mz [1000000] [] (MCall.arg hM0 (by simp)) (by simp) (by simp) (by simp) (by simp) (by simp) (by first | rfl | simp) (by simp) ?_
        simp [c_s_l1Cur_arms, r_s_l1Cur_arms_0, r_s_l1Cur_arms_1, r_s_l1Cur_arms_2, r_s_l1Cur_arms_3, r_s_l1Cur_arms_4, r_s_l1Cur_arms_5, r_s_l1Cur_arms_6, r_s_l1Cur_arms_7, r_s_l1Cur_arms_8, r_s_l1Cur_arms_9, r_s_l1Cur_arms_10]
        refine callQ_Mz [1000000] [] (MCall.arg hM1 (by simp)) (by simp) (by simp) (by simp) (by simp) (by simp) (by first | rfl | simp) (by simp) ?_
        simp [c_s_l1Cur_arms, r_s_l1Cur_arms_0, r_s_l1Cur_arms_1, r_s_l1Cur_arms_2, r_s_l1Cur_arms_3, r_s_l1Cur_arms_4, r_s_l1Cur_arms_5, r_s_l1Cur_arms_6, r_s_l1Cur_arms_7, r_s_l1Cur_arms_8, r_s_l1Cur_arms_9, r_s_l1Cur_arms_10]
        refine callQ_Mz [1000000] [] (MCall.arg hM3 (by simp)) (by simp) (by simp) (by simp) (by simp) (by simp) (by first | rfl | simp) (by simp) ?_
        simp [c_s_l1Cur_arms, r_s_l1Cur_arms_0, r_s_l1Cur_arms_1, r_s_l1Cur_arms_2, r_s_l1Cur_arms_3, r_s_l1Cur_arms_4, r_s_l1Cur_arms_5, r_s_l1Cur_arms_6, r_s_l1Cur_arms_7, r_s_l1Cur_arms_8, r_s_l1Cur_arms_9, r_s_l1Cur_arms_10]
        refine callQ_Mz [1000000] [15] (MCall.arg hM4 (by simp)) (by simp) (by simp) (by simp) (by simp) (by simp) (by first | rfl | simp) (by simp) ?_
        simp [c_s_l1Cur_arms, r_s_l1Cur_arms_0, r_s_l1Cur_arms_1, r_s_l1Cur_arms_2, r_s_l1Cur_arms_3, r_s_l1Cur_arms_4, r_s_l1Cur_arms_5, r_s_l1Cur_arms_6, r_s_l1Cur_arms_7, r_s_l1Cur_arms_8, r_s_l1Cur_arms_9, r_s_l1Cur_arms_10]
        refine callQ_Mz [1000000] [] (MCall.arg hM5 (by simp)) (by simp) (by simp) (by simp) (by simp) (by simp) (by first | rfl | simp) (by simp) ?_
        simp [c_s_l1Cur_arms, r_s_l1Cur_arms_0, r_s_l1Cur_arms_1, r_s_l1Cur_arms_2, r_s_l1Cur_arms_3, r_s_l1Cur_arms_4, r_s_l1Cur_arms_5, r_s_l1Cur_arms_6, r_s_l1Cur_arms_7, r_s_l1Cur_arms_8, r_s_l1Cur_arms_9, r_s_l1Cur_arms_10]
        refine callQ_Mz [1000000] [] (MCall.arg hM6 (by simp)) (by simp) (by simp) (by simp) (by simp) (by simp) (by first | rfl | simp) (by simp) ?_
        simp [c_s_l1Cur_arms, r_s_l1Cur_arms_0, r_s_l1Cur_arms_1, r_s_l1Cur_arms_2, r_s_l1Cur_arms_3, r_s_l1Cur_arms_4, r_s_l1Cur_arms_5, r_s_l1Cur_arms_6, r_s_l1Cur_arms_7, r_s_l1Cur_arms_8, r_s_l1Cur_arms_9, r_s_l1Cur_arms_10]
        refine callQ_Mz [1000000] [] (MCall.arg hM8 (by simp)) (by simp) (by simp) (by simp) (by simp) (by simp) (by first | rfl | simp) (by simp) ?_
        simp [c_s_l1Cur_arms, r_s_l1Cur_arms_0, r_s_l1Cur_arms_1, r_s_l1Cur_arms_2, r_s_l1Cur_arms_3, r_s_l1Cur_arms_4, r_s_l1Cur_arms_5, r_s_l1Cur_arms_6, r_s_l1Cur_arms_7, r_s_l1Cur_arms_8, r_s_l1Cur_arms_9, r_s_l1Cur_arms_10]
        refine callQ_Mz [1000000] [] (MCall.arg hM9 (by simp)) (by simp) (by simp) (by simp) (by simp) (by simp) (by first | rfl | simp) (by simp) ?_
        simp [c_s_l1Cur_arms, r_s_l1Cur_arms_0, r_s_l1Cur_arms_1, r_s_l1Cur_arms_2, r_s_l1Cur_arms_3, r_s_l1Cur_arms_4, r_s_l1Cur_arms_5, r_s_l1Cur_arms_6, r_s_l1Cur_arms_7, r_s_l1Cur_arms_8, r_s_l1Cur_arms_9, r_s_l1Cur_arms_10]
        refine callQ_Mz [1000000] [] (MCall.arg hM11 (by simp)) (by simp) (by simp) (by simp) (by simp) (by simp) (by first | rfl | simp) (by simp) ?_
        simp [c_s_l1Cur_arms, r_s_l1Cur_arms_0, r_s_l1Cur_arms_1, r_s_l1Cur_arms_2, r_s_l1Cur_arms_3, r_s_l1Cur_arms_4, r_s_l1Cur_arms_5, r_s_l1Cur_arms_6, r_s_l1Cur_arms_7, r_s_l1Cur_arms_8, r_s_l1Cur_arms_9, r_s_l1Cur_arms_10]
    | false =>
      obtain ⟨v8, k9, s9, hk8, hM8⟩ := s_l1Cur_one code k7 s7 3 (by omega) (by omega)
      cases v8 with
      | true =>
        refine ⟨⟨⟨v0.division, v0.line, v0.first, v0.second⟩, (IntKind.i64.wrap (1 + v3)), v4, v5, ⟨0, 0, 0, 0⟩, ⟨0, 0, 0, 0⟩⟩, k9, s9, by omega, ?_⟩
        refine MCall.of fn_s_l1Cur_arms (by simp) rfl (by simp) ?_
        simp [c_s_l1Cur_arms, r_s_l1Cur_arms_0, r_s_l1Cur_arms_1, r_s_l1Cur_arms_2, r_s_l1Cur_arms_3, r_s_l1Cur_arms_4, r_s_l1Cur_arms_5, r_s_l1Cur_arms_6, r_s_l1Cur_arms_8, r_s_l1Cur_arms_10]
        refine callQ_Mz [1000000] [] (MCall.arg hM0 (by simp)) (by simp) (by simp) (by simp) (by simp) (by simp) (by first | rfl | simp) (by simp) ?_
        simp [c_s_l1Cur_arms, r_s_l1Cur_arms_0, r_s_l1Cur_arms_1, r_s_l1Cur_arms_2, r_s_l1Cur_arms_3, r_s_l1Cur_arms_4, r_s_l1Cur_arms_5, r_s_l1Cur_arms_6, r_s_l1Cur_arms_8, r_s_l1Cur_arms_10]
        refine callQ_Mz [1000000] [] (MCall.arg hM1 (by simp)) (by simp) (by simp) (by simp) (by simp) (by simp) (by first | rfl | simp) (by simp) ?_
        simp [c_s_l1Cur_arms, r_s_l1Cur_arms_0, r_s_l1Cur_arms_1, r_s_l1Cur_arms_2, r_s_l1Cur_arms_3, r_s_l1Cur_arms_4, r_s_l1Cur_arms_5, r_s_l1Cur_arms_6, r_s_l1Cur_arms_8, r_s_l1Cur_arms_10]
        refine callQ_Mz [1000000] [] (MCall.arg hM3 (by simp)) (by simp) (by simp) (by simp) (by simp) (by simp) (by first | rfl | simp) (by simp) ?_
        simp [c_s_l1Cur_arms, r_s_l1Cur_arms_0, r_s_l1Cur_arms_1, r_s_l1Cur_arms_2, r_s_l1Cur_arms_3, r_s_l1Cur_arms_4, r_s_l1Cur_arms_5, r_s_l1Cur_arms_6, r_s_l1Cur_arms_8, r_s_l1Cur_arms_10]
        refine callQ_Mz [1000000] [15] (MCall.arg hM4 (by simp)) (by simp) (by simp) (by simp) (by simp) (by simp) (by first | rfl | simp) (by simp) ?_
        simp [c_s_l1Cur_arms, r_s_l1Cur_arms_0, r_s_l1Cur_arms_1, r_s_l1Cur_arms_2, r_s_l1Cur_arms_3, r_s_l1Cur_arms_4, r_s_l1Cur_arms_5, r_s_l1Cur_arms_6, r_s_l1Cur_arms_8, r_s_l1Cur_arms_10]
        refine callQ_Mz [1000000] [] (MCall.arg hM5 (by simp)) (by simp) (by simp) (by simp) (by simp) (by simp) (by first | rfl | simp) (by simp) ?_
        simp [c_s_l1Cur_arms, r_s_l1Cur_arms_0, r_s_l1Cur_arms_1, r_s_l1Cur_arms_2, r_s_l1Cur_arms_3, r_s_l1Cur_arms_4, r_s_l1Cur_arms_5, r_s_l1Cur_arms_6, r_s_l1Cur_arms_8, r_s_l1Cur_arms_10]
        refine callQ_Mz [1000000] [] (MCall.arg hM6 (by simp)) (by simp) (by simp) (by simp) (by simp) (by simp) (by first | rfl | simp) (by simp) ?_
        simp [c_s_l1Cur_arms, r_s_l1Cur_arms_0, r_s_l1Cur_arms_1, r_s_l1Cur_arms_2, r_s_l1Cur_arms_3, r_s_l1Cur_arms_4, r_s_l1Cur_arms_5, r_s_l1Cur_arms_6, r_s_l1Cur_arms_8, r_s_l1Cur_arms_10]
        refine callQ_Mz [1000000] [] (MCall.arg hM8 (by simp)) (by simp) (by simp) (by simp) (by simp) (by simp) (by first | rfl | simp) (by simp) ?_
        simp [c_s_l1Cur_arms, r_s_l1Cur_arms_0, r_s_l1Cur_arms_1, r_s_l1Cur_arms_2, r_s_l1Cur_arms_3, r_s_l1Cur_arms_4, r_s_l1Cur_arms_5, r_s_l1Cur_arms_6, r_s_l1Cur_arms_8, r_s_l1Cur_arms_10]
      | false =>
        obtain ⟨v10, k11, s11, hk10, hM10⟩ := s_l1Cur_group code k9 s9 (by omega)
        refine ⟨⟨⟨v0.division, v0.line, v0.first, v0.second⟩, (IntKind.i64.wrap (1 + v3)), v4, v5, ⟨0, 0, 0, 0⟩, ⟨v10.count, v10.kind, v10.attitude, v10.tincture⟩⟩, k11, s11, by omega, ?_⟩
        refine MCall.of fn_s_l1Cur_arms (by simp) rfl (by simp) ?_
        simp [c_s_l1Cur_arms, r_s_l1Cur_arms_0, r_s_l1Cur_arms_1, r_s_l1Cur_arms_2, r_s_l1Cur_arms_3, r_s_l1Cur_arms_4, r_s_l1Cur_arms_5, r_s_l1Cur_arms_6, r_s_l1Cur_arms_8, r_s_l1Cur_arms_9, r_s_l1Cur_arms_10]
        refine callQ_Mz [1000000] [] (MCall.arg hM0 (by simp)) (by simp) (by simp) (by simp) (by simp) (by simp) (by first | rfl | simp) (by simp) ?_
        simp [c_s_l1Cur_arms, r_s_l1Cur_arms_0, r_s_l1Cur_arms_1, r_s_l1Cur_arms_2, r_s_l1Cur_arms_3, r_s_l1Cur_arms_4, r_s_l1Cur_arms_5, r_s_l1Cur_arms_6, r_s_l1Cur_arms_8, r_s_l1Cur_arms_9, r_s_l1Cur_arms_10]
        refine callQ_Mz [1000000] [] (MCall.arg hM1 (by simp)) (by simp) (by simp) (by simp) (by simp) (by simp) (by first | rfl | simp) (by simp) ?_
        simp [c_s_l1Cur_arms, r_s_l1Cur_arms_0, r_s_l1Cur_arms_1, r_s_l1Cur_arms_2, r_s_l1Cur_arms_3, r_s_l1Cur_arms_4, r_s_l1Cur_arms_5, r_s_l1Cur_arms_6, r_s_l1Cur_arms_8, r_s_l1Cur_arms_9, r_s_l1Cur_arms_10]
        refine callQ_Mz [1000000] [] (MCall.arg hM3 (by simp)) (by simp) (by simp) (by simp) (by simp) (by simp) (by first | rfl | simp) (by simp) ?_
        simp [c_s_l1Cur_arms, r_s_l1Cur_arms_0, r_s_l1Cur_arms_1, r_s_l1Cur_arms_2, r_s_l1Cur_arms_3, r_s_l1Cur_arms_4, r_s_l1Cur_arms_5, r_s_l1Cur_arms_6, r_s_l1Cur_arms_8, r_s_l1Cur_arms_9, r_s_l1Cur_arms_10]
        refine callQ_Mz [1000000] [15] (MCall.arg hM4 (by simp)) (by simp) (by simp) (by simp) (by simp) (by simp) (by first | rfl | simp) (by simp) ?_
        simp [c_s_l1Cur_arms, r_s_l1Cur_arms_0, r_s_l1Cur_arms_1, r_s_l1Cur_arms_2, r_s_l1Cur_arms_3, r_s_l1Cur_arms_4, r_s_l1Cur_arms_5, r_s_l1Cur_arms_6, r_s_l1Cur_arms_8, r_s_l1Cur_arms_9, r_s_l1Cur_arms_10]
        refine callQ_Mz [1000000] [] (MCall.arg hM5 (by simp)) (by simp) (by simp) (by simp) (by simp) (by simp) (by first | rfl | simp) (by simp) ?_
        simp [c_s_l1Cur_arms, r_s_l1Cur_arms_0, r_s_l1Cur_arms_1, r_s_l1Cur_arms_2, r_s_l1Cur_arms_3, r_s_l1Cur_arms_4, r_s_l1Cur_arms_5, r_s_l1Cur_arms_6, r_s_l1Cur_arms_8, r_s_l1Cur_arms_9, r_s_l1Cur_arms_10]
        refine callQ_Mz [1000000] [] (MCall.arg hM6 (by simp)) (by simp) (by simp) (by simp) (by simp) (by simp) (by first | rfl | simp) (by simp) ?_
        simp [c_s_l1Cur_arms, r_s_l1Cur_arms_0, r_s_l1Cur_arms_1, r_s_l1Cur_arms_2, r_s_l1Cur_arms_3, r_s_l1Cur_arms_4, r_s_l1Cur_arms_5, r_s_l1Cur_arms_6, r_s_l1Cur_arms_8, r_s_l1Cur_arms_9, r_s_l1Cur_arms_10]
        refine callQ_Mz [1000000] [] (MCall.arg hM8 (by simp)) (by simp) (by simp) (by simp) (by simp) (by simp) (by first | rfl | simp) (by simp) ?_
        simp [c_s_l1Cur_arms, r_s_l1Cur_arms_0, r_s_l1Cur_arms_1, r_s_l1Cur_arms_2, r_s_l1Cur_arms_3, r_s_l1Cur_arms_4, r_s_l1Cur_arms_5, r_s_l1Cur_arms_6, r_s_l1Cur_arms_8, r_s_l1Cur_arms_9, r_s_l1Cur_arms_10]
        refine callQ_Mz [1000000] [] (MCall.arg hM10 (by simp)) (by simp) (by simp) (by simp) (by simp) (by simp) (by first | rfl | simp) (by simp) ?_
        simp [c_s_l1Cur_arms, r_s_l1Cur_arms_0, r_s_l1Cur_arms_1, r_s_l1Cur_arms_2, r_s_l1Cur_arms_3, r_s_l1Cur_arms_4, r_s_l1Cur_arms_5, r_s_l1Cur_arms_6, r_s_l1Cur_arms_8, r_s_l1Cur_arms_9, r_s_l1Cur_arms_10]
set_option maxHeartbeats 4000000 in
theorem s_l1Cur_anyArms (code : List UInt8) (k : Nat) (s : Int) (hk : k ≤ 100000000) : ∃ (r0 : Arms) (k' : Nat) (s' : Int), (k ≤ k' ∧ k' ≤ k + 54) ∧ MCall Try.prog n_s_l1Cur_anyArms [curB code k s] [cR] (eArms r0) [some (curB code k' s')] := by
  obtain ⟨v0, k1, s1, hk0, hM0⟩ := s_l1Cur_arms code k s (by omega)
  obtain ⟨v1, k2, s2, ⟨hv1, hk1⟩, hM1⟩ := s_l1Cur_pick code k1 s1 24 (by omega) (by omega)
  by_cases c2 : v1 = 0
  · obtain ⟨v3, k4, s4, hk3, hM3⟩ := s_l1Cur_anyField code k2 s2 (by omega)
    refine ⟨⟨⟨v3.division, v3.line, v3.first, v3.second⟩, v0.ordinary, v0.line, v0.tincture, ⟨v0.on.count, v0.on.kind, v0.on.attitude, v0.on.tincture⟩, ⟨v0.around.count, v0.around.kind, v0.around.attitude, v0.around.tincture⟩⟩, k4, s4, by omega, ?_⟩
    refine MCall.of fn_s_l1Cur_anyArms (by simp) rfl (by simp) ?_
    simp [c_s_l1Cur_anyArms, r_s_l1Cur_anyArms_0, r_s_l1Cur_anyArms_1, r_s_l1Cur_anyArms_2, r_s_l1Cur_anyArms_3, r_s_l1Cur_anyArms_4, r_s_l1Cur_anyArms_15, c2]
    refine callQ_Mz [1000000] [] (MCall.arg hM0 (by simp)) (by simp) (by simp) (by simp) (by simp) (by simp) (by first | rfl | simp) (by simp) ?_
    simp [c_s_l1Cur_anyArms, r_s_l1Cur_anyArms_0, r_s_l1Cur_anyArms_1, r_s_l1Cur_anyArms_2, r_s_l1Cur_anyArms_3, r_s_l1Cur_anyArms_4, r_s_l1Cur_anyArms_15, c2]
    refine callQ_Mz [1000000] [] (MCall.arg hM1 (by simp)) (by simp) (by simp) (by simp) (by simp) (by simp) (by first | rfl | simp) (by simp) ?_
    simp [c_s_l1Cur_anyArms, r_s_l1Cur_anyArms_0, r_s_l1Cur_anyArms_1, r_s_l1Cur_anyArms_2, r_s_l1Cur_anyArms_3, r_s_l1Cur_anyArms_4, r_s_l1Cur_anyArms_15, c2]
    refine callQ_Mz [1000000] [] (MCall.arg hM3 (by simp)) (by simp) (by simp) (by simp) (by simp) (by simp) (by first | rfl | simp) (by simp) ?_
    simp [c_s_l1Cur_anyArms, r_s_l1Cur_anyArms_0, r_s_l1Cur_anyArms_1, r_s_l1Cur_anyArms_2, r_s_l1Cur_anyArms_3, r_s_l1Cur_anyArms_4, r_s_l1Cur_anyArms_15, c2]
  · by_cases c3 : v1 = 1
    · obtain ⟨v4, k5, s5, ⟨hv4, hk4⟩, hM4⟩ := s_l1Cur_among code k2 s2 [-1, 8, 0, 7] (by omega) (by simp) (by simp)
      refine ⟨⟨⟨v0.field.division, v0.field.line, v0.field.first, v0.field.second⟩, v4, v0.line, v0.tincture, ⟨v0.on.count, v0.on.kind, v0.on.attitude, v0.on.tincture⟩, ⟨v0.around.count, v0.around.kind, v0.around.attitude, v0.around.tincture⟩⟩, k5, s5, by omega, ?_⟩
      refine MCall.of fn_s_l1Cur_anyArms (by simp) rfl (by simp) ?_
      simp [c_s_l1Cur_anyArms, r_s_l1Cur_anyArms_0, r_s_l1Cur_anyArms_1, r_s_l1Cur_anyArms_2, r_s_l1Cur_anyArms_3, r_s_l1Cur_anyArms_5, r_s_l1Cur_anyArms_6, r_s_l1Cur_anyArms_15, c2, c3]
      refine callQ_Mz [1000000] [] (MCall.arg hM0 (by simp)) (by simp) (by simp) (by simp) (by simp) (by simp) (by first | rfl | simp) (by simp) ?_
      simp [c_s_l1Cur_anyArms, r_s_l1Cur_anyArms_0, r_s_l1Cur_anyArms_1, r_s_l1Cur_anyArms_2, r_s_l1Cur_anyArms_3, r_s_l1Cur_anyArms_5, r_s_l1Cur_anyArms_6, r_s_l1Cur_anyArms_15, c2, c3]
      refine callQ_Mz [1000000] [] (MCall.arg hM1 (by simp)) (by simp) (by simp) (by simp) (by simp) (by simp) (by first | rfl | simp) (by simp) ?_
      simp [c_s_l1Cur_anyArms, r_s_l1Cur_anyArms_0, r_s_l1Cur_anyArms_1, r_s_l1Cur_anyArms_2, r_s_l1Cur_anyArms_3, r_s_l1Cur_anyArms_5, r_s_l1Cur_anyArms_6, r_s_l1Cur_anyArms_15, c2, c3]
      refine callQ_Mz [1000000] [16] (MCall.arg hM4 (by simp)) (by simp) (by simp) (by simp) (by simp) (by simp) (by first | rfl | simp) (by simp) ?_
      simp [c_s_l1Cur_anyArms, r_s_l1Cur_anyArms_0, r_s_l1Cur_anyArms_1, r_s_l1Cur_anyArms_2, r_s_l1Cur_anyArms_3, r_s_l1Cur_anyArms_5, r_s_l1Cur_anyArms_6, r_s_l1Cur_anyArms_15, c2, c3]
    · by_cases c4 : v1 = 2
      · obtain ⟨v5, k6, s6, ⟨hv5, hk5⟩, hM5⟩ := s_l1Cur_among code k2 s2 [-1, 5, 1] (by omega) (by simp) (by simp)
        refine ⟨⟨⟨v0.field.division, v0.field.line, v0.field.first, v0.field.second⟩, v0.ordinary, v5, v0.tincture, ⟨v0.on.count, v0.on.kind, v0.on.attitude, v0.on.tincture⟩, ⟨v0.around.count, v0.around.kind, v0.around.attitude, v0.around.tincture⟩⟩, k6, s6, by omega, ?_⟩
        refine MCall.of fn_s_l1Cur_anyArms (by simp) rfl (by simp) ?_
        simp [c_s_l1Cur_anyArms, r_s_l1Cur_anyArms_0, r_s_l1Cur_anyArms_1, r_s_l1Cur_anyArms_2, r_s_l1Cur_anyArms_3, r_s_l1Cur_anyArms_5, r_s_l1Cur_anyArms_7, r_s_l1Cur_anyArms_8, r_s_l1Cur_anyArms_15, c2, c3, c4]
        refine callQ_Mz [1000000] [] (MCall.arg hM0 (by simp)) (by simp) (by simp) (by simp) (by simp) (by simp) (by first | rfl | simp) (by simp) ?_
        simp [c_s_l1Cur_anyArms, r_s_l1Cur_anyArms_0, r_s_l1Cur_anyArms_1, r_s_l1Cur_anyArms_2, r_s_l1Cur_anyArms_3, r_s_l1Cur_anyArms_5, r_s_l1Cur_anyArms_7, r_s_l1Cur_anyArms_8, r_s_l1Cur_anyArms_15, c2, c3, c4]
        refine callQ_Mz [1000000] [] (MCall.arg hM1 (by simp)) (by simp) (by simp) (by simp) (by simp) (by simp) (by first | rfl | simp) (by simp) ?_
        simp [c_s_l1Cur_anyArms, r_s_l1Cur_anyArms_0, r_s_l1Cur_anyArms_1, r_s_l1Cur_anyArms_2, r_s_l1Cur_anyArms_3, r_s_l1Cur_anyArms_5, r_s_l1Cur_anyArms_7, r_s_l1Cur_anyArms_8, r_s_l1Cur_anyArms_15, c2, c3, c4]
        refine callQ_Mz [1000000] [22] (MCall.arg hM5 (by simp)) (by simp) (by simp) (by simp) (by simp) (by simp) (by first | rfl | simp) (by simp) ?_
        simp [c_s_l1Cur_anyArms, r_s_l1Cur_anyArms_0, r_s_l1Cur_anyArms_1, r_s_l1Cur_anyArms_2, r_s_l1Cur_anyArms_3, r_s_l1Cur_anyArms_5, r_s_l1Cur_anyArms_7, r_s_l1Cur_anyArms_8, r_s_l1Cur_anyArms_15, c2, c3, c4]
      · by_cases c5 : v1 = 3
        · obtain ⟨v6, k7, s7, ⟨hv6, hk6⟩, hM6⟩ := s_l1Cur_among code k2 s2 [0, 10, 3] (by omega) (by simp) (by simp)
          refine ⟨⟨⟨v0.field.division, v0.field.line, v0.field.first, v0.field.second⟩, v0.ordinary, v0.line, v6, ⟨v0.on.count, v0.on.kind, v0.on.attitude, v0.on.tincture⟩, ⟨v0.around.count, v0.around.kind, v0.around.attitude, v0.around.tincture⟩⟩, k7, s7, by omega, ?_⟩
          refine MCall.of fn_s_l1Cur_anyArms (by simp) rfl (by simp) ?_
          simp [c_s_l1Cur_anyArms, r_s_l1Cur_anyArms_0, r_s_l1Cur_anyArms_1, r_s_l1Cur_anyArms_2, r_s_l1Cur_anyArms_3, r_s_l1Cur_anyArms_5, r_s_l1Cur_anyArms_7, r_s_l1Cur_anyArms_9, r_s_l1Cur_anyArms_10, r_s_l1Cur_anyArms_15, c2, c3, c4, c5]
          refine callQ_Mz [1000000] [] (MCall.arg hM0 (by simp)) (by simp) (by simp) (by simp) (by simp) (by simp) (by first | rfl | simp) (by simp) ?_
          simp [c_s_l1Cur_anyArms, r_s_l1Cur_anyArms_0, r_s_l1Cur_anyArms_1, r_s_l1Cur_anyArms_2, r_s_l1Cur_anyArms_3, r_s_l1Cur_anyArms_5, r_s_l1Cur_anyArms_7, r_s_l1Cur_anyArms_9, r_s_l1Cur_anyArms_10, r_s_l1Cur_anyArms_15, c2, c3, c4, c5]
          refine callQ_Mz [1000000] [] (MCall.arg hM1 (by simp)) (by simp) (by simp) (by simp) (by simp) (by simp) (by first | rfl | simp) (by simp) ?_
          simp [c_s_l1Cur_anyArms, r_s_l1Cur_anyArms_0, r_s_l1Cur_anyArms_1, r_s_l1Cur_anyArms_2, r_s_l1Cur_anyArms_3, r_s_l1Cur_anyArms_5, r_s_l1Cur_anyArms_7, r_s_l1Cur_anyArms_9, r_s_l1Cur_anyArms_10, r_s_l1Cur_anyArms_15, c2, c3, c4, c5]
          refine callQ_Mz [1000000] [28] (MCall.arg hM6 (by simp)) (by simp) (by simp) (by simp) (by simp) (by simp) (by first | rfl | simp) (by simp) ?_
          simp [c_s_l1Cur_anyArms, r_s_l1Cur_anyArms_0, r_s_l1Cur_anyArms_1, r_s_l1Cur_anyArms_2, r_s_l1Cur_anyArms_3, r_s_l1Cur_anyArms_5, r_s_l1Cur_anyArms_7, r_s_l1Cur_anyArms_9, r_s_l1Cur_anyArms_10, r_s_l1Cur_anyArms_15, c2, c3, c4, c5]
        · by_cases c6 : v1 = 4
          · obtain ⟨v7, k8, s8, hk7, hM7⟩ := s_l1Cur_anyGroup code k2 s2 (by omega)
            refine ⟨⟨⟨v0.field.division, v0.field.line, v0.field.first, v0.field.second⟩, v0.ordinary, v0.line, v0.tincture, ⟨v7.count, v7.kind, v7.attitude, v7.tincture⟩, ⟨v0.around.count, v0.around.kind, v0.around.attitude, v0.around.tincture⟩⟩, k8, s8, by omega, ?_⟩
            refine MCall.of fn_s_l1Cur_anyArms (by simp) rfl (by simp) ?_
            simp [c_s_l1Cur_anyArms, r_s_l1Cur_anyArms_0, r_s_l1Cur_anyArms_1, r_s_l1Cur_anyArms_2, r_s_l1Cur_anyArms_3, r_s_l1Cur_anyArms_5, r_s_l1Cur_anyArms_7, r_s_l1Cur_anyArms_9, r_s_l1Cur_anyArms_11, r_s_l1Cur_anyArms_12, r_s_l1Cur_anyArms_15, c2, c3, c4, c5, c6]
            refine callQ_Mz [1000000] [] (MCall.arg hM0 (by simp)) (by simp) (by simp) (by simp) (by simp) (by simp) (by first | rfl | simp) (by simp) ?_
            simp [c_s_l1Cur_anyArms, r_s_l1Cur_anyArms_0, r_s_l1Cur_anyArms_1, r_s_l1Cur_anyArms_2, r_s_l1Cur_anyArms_3, r_s_l1Cur_anyArms_5, r_s_l1Cur_anyArms_7, r_s_l1Cur_anyArms_9, r_s_l1Cur_anyArms_11, r_s_l1Cur_anyArms_12, r_s_l1Cur_anyArms_15, c2, c3, c4, c5, c6]
            refine callQ_Mz [1000000] [] (MCall.arg hM1 (by simp)) (by simp) (by simp) (by simp) (by simp) (by simp) (by first | rfl | simp) (by simp) ?_
            simp [c_s_l1Cur_anyArms, r_s_l1Cur_anyArms_0, r_s_l1Cur_anyArms_1, r_s_l1Cur_anyArms_2, r_s_l1Cur_anyArms_3, r_s_l1Cur_anyArms_5, r_s_l1Cur_anyArms_7, r_s_l1Cur_anyArms_9, r_s_l1Cur_anyArms_11, r_s_l1Cur_anyArms_12, r_s_l1Cur_anyArms_15, c2, c3, c4, c5, c6]
            refine callQ_Mz [1000000] [] (MCall.arg hM7 (by simp)) (by simp) (by simp) (by simp) (by simp) (by simp) (by first | rfl | simp) (by simp) ?_
            simp [c_s_l1Cur_anyArms, r_s_l1Cur_anyArms_0, r_s_l1Cur_anyArms_1, r_s_l1Cur_anyArms_2, r_s_l1Cur_anyArms_3, r_s_l1Cur_anyArms_5, r_s_l1Cur_anyArms_7, r_s_l1Cur_anyArms_9, r_s_l1Cur_anyArms_11, r_s_l1Cur_anyArms_12, r_s_l1Cur_anyArms_15, c2, c3, c4, c5, c6]
          · by_cases c7 : v1 = 5
            · obtain ⟨v8, k9, s9, hk8, hM8⟩ := s_l1Cur_anyGroup code k2 s2 (by omega)
              refine ⟨⟨⟨v0.field.division, v0.field.line, v0.field.first, v0.field.second⟩, v0.ordinary, v0.line, v0.tincture, ⟨v0.on.count, v0.on.kind, v0.on.attitude, v0.on.tincture⟩, ⟨v8.count, v8.kind, v8.attitude, v8.tincture⟩⟩, k9, s9, by omega, ?_⟩
              refine MCall.of fn_s_l1Cur_anyArms (by simp) rfl (by simp) ?_
              simp [c_s_l1Cur_anyArms, r_s_l1Cur_anyArms_0, r_s_l1Cur_anyArms_1, r_s_l1Cur_anyArms_2, r_s_l1Cur_anyArms_3, r_s_l1Cur_anyArms_5, r_s_l1Cur_anyArms_7, r_s_l1Cur_anyArms_9, r_s_l1Cur_anyArms_11, r_s_l1Cur_anyArms_13, r_s_l1Cur_anyArms_14, r_s_l1Cur_anyArms_15, c2, c3, c4, c5, c6, c7]
              refine callQ_Mz [1000000] [] (MCall.arg hM0 (by simp)) (by simp) (by simp) (by simp) (by simp) (by simp) (by first | rfl | simp) (by simp) ?_
              simp [c_s_l1Cur_anyArms, r_s_l1Cur_anyArms_0, r_s_l1Cur_anyArms_1, r_s_l1Cur_anyArms_2, r_s_l1Cur_anyArms_3, r_s_l1Cur_anyArms_5, r_s_l1Cur_anyArms_7, r_s_l1Cur_anyArms_9, r_s_l1Cur_anyArms_11, r_s_l1Cur_anyArms_13, r_s_l1Cur_anyArms_14, r_s_l1Cur_anyArms_15, c2, c3, c4, c5, c6, c7]
              refine callQ_Mz [1000000] [] (MCall.arg hM1 (by simp)) (by simp) (by simp) (by simp) (by simp) (by simp) (by first | rfl | simp) (by simp) ?_
              simp [c_s_l1Cur_anyArms, r_s_l1Cur_anyArms_0, r_s_l1Cur_anyArms_1, r_s_l1Cur_anyArms_2, r_s_l1Cur_anyArms_3, r_s_l1Cur_anyArms_5, r_s_l1Cur_anyArms_7, r_s_l1Cur_anyArms_9, r_s_l1Cur_anyArms_11, r_s_l1Cur_anyArms_13, r_s_l1Cur_anyArms_14, r_s_l1Cur_anyArms_15, c2, c3, c4, c5, c6, c7]
              refine callQ_Mz [1000000] [] (MCall.arg hM8 (by simp)) (by simp) (by simp) (by simp) (by simp) (by simp) (by first | rfl | simp) (by simp) ?_
              simp [c_s_l1Cur_anyArms, r_s_l1Cur_anyArms_0, r_s_l1Cur_anyArms_1, r_s_l1Cur_anyArms_2, r_s_l1Cur_anyArms_3, r_s_l1Cur_anyArms_5, r_s_l1Cur_anyArms_7, r_s_l1Cur_anyArms_9, r_s_l1Cur_anyArms_11, r_s_l1Cur_anyArms_13, r_s_l1Cur_anyArms_14, r_s_l1Cur_anyArms_15, c2, c3, c4, c5, c6, c7]
            · refine ⟨⟨⟨v0.field.division, v0.field.line, v0.field.first, v0.field.second⟩, v0.ordinary, v0.line, v0.tincture, ⟨v0.on.count, v0.on.kind, v0.on.attitude, v0.on.tincture⟩, ⟨v0.around.count, v0.around.kind, v0.around.attitude, v0.around.tincture⟩⟩, k2, s2, by omega, ?_⟩
              refine MCall.of fn_s_l1Cur_anyArms (by simp) rfl (by simp) ?_
              simp [c_s_l1Cur_anyArms, r_s_l1Cur_anyArms_0, r_s_l1Cur_anyArms_1, r_s_l1Cur_anyArms_2, r_s_l1Cur_anyArms_3, r_s_l1Cur_anyArms_5, r_s_l1Cur_anyArms_7, r_s_l1Cur_anyArms_9, r_s_l1Cur_anyArms_11, r_s_l1Cur_anyArms_13, r_s_l1Cur_anyArms_15, c2, c3, c4, c5, c6, c7]
              refine callQ_Mz [1000000] [] (MCall.arg hM0 (by simp)) (by simp) (by simp) (by simp) (by simp) (by simp) (by first | rfl | simp) (by simp) ?_
              simp [c_s_l1Cur_anyArms, r_s_l1Cur_anyArms_0, r_s_l1Cur_anyArms_1, r_s_l1Cur_anyArms_2, r_s_l1Cur_anyArms_3, r_s_l1Cur_anyArms_5, r_s_l1Cur_anyArms_7, r_s_l1Cur_anyArms_9, r_s_l1Cur_anyArms_11, r_s_l1Cur_anyArms_13, r_s_l1Cur_anyArms_15, c2, c3, c4, c5, c6, c7]
              refine callQ_Mz [1000000] [] (MCall.arg hM1 (by simp)) (by simp) (by simp) (by simp) (by simp) (by simp) (by first | rfl | simp) (by simp) ?_
              simp [c_s_l1Cur_anyArms, r_s_l1Cur_anyArms_0, r_s_l1Cur_anyArms_1, r_s_l1Cur_anyArms_2, r_s_l1Cur_anyArms_3, r_s_l1Cur_anyArms_5, r_s_l1Cur_anyArms_7, r_s_l1Cur_anyArms_9, r_s_l1Cur_anyArms_11, r_s_l1Cur_anyArms_13, r_s_l1Cur_anyArms_15, c2, c3, c4, c5, c6, c7]
end Go.Proofs.Ytgefdcllialhkaa
