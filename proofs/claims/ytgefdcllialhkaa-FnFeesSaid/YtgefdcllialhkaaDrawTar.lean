/- The draw of a tariff. -/
import Derived.Test.YtgefdcllialhkaaCodeDrawTar
import Derived.Test.YtgefdcllialhkaaCursor
import Derived.Test.YtgefdcllialhkaaTariff
set_option linter.unusedVariables false
set_option linter.unusedSimpArgs false
namespace Go.Proofs.Ytgefdcllialhkaa
open Go.Abs

theorem lit5_get {v : Int} (h : 0 ≤ v ∧ v < 5) : ∃ c, [I 100, I 200, I 300, I 400, I 500][v.toNat]? = some (I c) := by
  obtain rfl | rfl | rfl | rfl | rfl : v = 0 ∨ v = 1 ∨ v = 2 ∨ v = 3 ∨ v = 4 := by omega
  all_goals exact ⟨_, rfl⟩
set_option maxHeartbeats 4000000 in
theorem s_l1Cur_tariff (code : List UInt8) (k : Nat) (s : Int) (hk : k ≤ 1000000000) : ∃ (r0 : Tariff) (k' : Nat) (s' : Int), (k ≤ k' ∧ k' ≤ k + 20) ∧ MCall Try.prog n_s_l1Cur_tariff [curB code k s] [cR] (eTariff r0) [some (curB code k' s')] := by
  obtain ⟨v1, k1, s1, ⟨hv1, hk1⟩, hM1⟩ := s_l1Cur_among code k s [0, 10, 50] (by omega) (by simp) (by simp)
  obtain ⟨v2, k2, s2, ⟨hv2, hk2⟩, hM2⟩ := s_l1Cur_among code k1 s1 [0, 10, 33, 100, 500] (by omega) (by simp) (by simp)
  obtain ⟨v3, k3, s3, ⟨hv3, hk3⟩, hM3⟩ := s_l1Cur_among code k2 s2 [0, 50, 33, 100] (by omega) (by simp) (by simp)
  obtain ⟨b, k4, s4, hk4, hM4⟩ := s_l1Cur_one code k3 s3 2 (by omega) (by omega)
  obtain ⟨l, k6, s6, hl, hk6, hst⟩ : ∃ (l : List Int) (k6 : Nat) (s6 : Int), l.length = 5 ∧ (k4 ≤ k6 ∧ k6 ≤ k4 + 4) ∧ ((b = false ∧ l = [100, 200, 300, 400, 500] ∧ k6 = k4 ∧ s6 = s4) ∨
      (b = true ∧ ∃ (v w : Int) (k5 : Nat) (s5 : Int), (0 ≤ v ∧ v < 5) ∧ MCall Try.prog n_s_l1Cur_pick [curB code k4 s4] [cR, I 5] (I v) [some (curB code k5 s5)] ∧
        MCall Try.prog n_s_l1Cur_among [curB code k5 s5] [cR, .ro 1 ([0, 7, 100, 100000].map I)] (I w) [some (curB code k6 s6)] ∧ l = [100, 200, 300, 400, 500].set v.toNat w)) := by
    cases b with
    | false => exact ⟨_, k4, s4, rfl, by omega, .inl ⟨rfl, rfl, rfl, rfl⟩⟩
    | true =>
      obtain ⟨v, k5, s5, ⟨hv, hk5⟩, hM5⟩ := s_l1Cur_pick code k4 s4 5 (by omega) (by omega)
      obtain ⟨w, k6, s6, ⟨hw, hk6⟩, hM6⟩ := s_l1Cur_among code k5 s5 [0, 7, 100, 100000] (by omega) (by simp) (by simp)
      exact ⟨_, k6, s6, by simp, by omega, .inr ⟨rfl, v, w, k5, s5, by omega, hM5, hM6, rfl⟩⟩
  obtain ⟨x, k7, s7, ⟨hx, hk7⟩, hM7⟩ := s_l1Cur_pick code k6 s6 40 (by omega) (by omega)
  obtain ⟨y, k8, s8, ⟨hy, hk8⟩, hM8⟩ := s_l1Cur_among code k7 s7 [-1, 501] (by omega) (by simp) (by simp)
  obtain ⟨z, k9, s9, ⟨hz, hk9⟩, hM9⟩ := s_l1Cur_among code k7 s7 [-1, 101] (by omega) (by simp) (by simp)
  obtain ⟨u, k10, s10, ⟨hu, hk10⟩, hM10⟩ := s_l1Cur_among code k7 s7 [-1, 100001] (by omega) (by simp) (by simp)
  have h5 : 5 ≤ l.length := by omega
  have ht : (l.map I).take 5 = l.map I := List.take_of_length_le (by simp; omega)
  have htl : List.take (l.length - 1) (l.map I).tail = (l.drop 1).map I := by rw [List.take_of_length_le (by simp)]; simp
  obtain ⟨a, ha⟩ : ∃ a, l[0]? = some a := ⟨_, List.getElem?_eq_getElem (by omega)⟩
  have h5u : 5 ≤ (l.set 0 u).length := by simp; omega
  have htu : ((l.set 0 u).map I).take 5 = (l.set 0 u).map I := List.take_of_length_le (by simp; omega)
  have main : ∀ (t : Tariff) (k' : Nat) (s' : Int), ((x = 0 ∧ t = ⟨l.drop 1, v1, v2, v3⟩ ∧ k' = k7 ∧ s' = s7) ∨ (x = 1 ∧ t = ⟨l, v1, y, v3⟩ ∧ k' = k8 ∧ s' = s8) ∨ (x = 2 ∧ t = ⟨l, v1, v2, z⟩ ∧ k' = k9 ∧ s' = s9) ∨ (x = 3 ∧ t = ⟨l.set 0 u, v1, v2, v3⟩ ∧ k' = k10 ∧ s' = s10) ∨
      ((x ≠ 0 ∧ x ≠ 1 ∧ x ≠ 2 ∧ x ≠ 3) ∧ t = ⟨l, v1, v2, v3⟩ ∧ k' = k7 ∧ s' = s7)) → MCall Try.prog n_s_l1Cur_tariff [curB code k s] [cR] (eTariff t) [some (curB code k' s')] := by
    intro t k' s' hfin
    refine MCall.of fn_s_l1Cur_tariff (by simp) rfl (by simp) ?_
    simp [c_s_l1Cur_tariff, r_s_l1Cur_tariff_0, r_s_l1Cur_tariff_1]
    refine callQ_Mz [1000000] [6] (MCall.arg hM1 (by simp)) (by simp) (by simp) (by simp) (by simp) (by simp) (by first | rfl | simp) (by simp) ?_
    simp
    refine callQ_Mz [1000000] [9] (MCall.arg hM2 (by simp)) (by simp) (by simp) (by simp) (by simp) (by simp) (by first | rfl | simp) (by simp) ?_
    simp
    refine callQ_Mz [1000000] [12] (MCall.arg hM3 (by simp)) (by simp) (by simp) (by simp) (by simp) (by simp) (by first | rfl | simp) (by simp) ?_
    simp [r_s_l1Cur_tariff_2]
    refine callQ_Mz [1000000] [] (MCall.arg hM4 (by simp)) (by simp) (by simp) (by simp) (by simp) (by simp) (by first | rfl | simp) (by simp) ?_
    simp
    rcases hst with ⟨rfl, hl5, rfl, rfl⟩ | ⟨rfl, v, w, k5, s5, hv, hM5, hM6, hl5⟩
    case' inl =>
      simp
      refine wk_of ⟨[(0, cR), (2, .ref 2 0 0), (3, .ref 3 0 0)], [(1000000, curB code k6 s6), (3, ⟨4, [.agg [.sl 4 0 5, I v1, I v2, I v3]]⟩), (4, ⟨1, l.map I⟩), (2, ⟨4, [.agg [.v (.slice none 0 0), I 0, I 0, I 0]]⟩)], [1000000]⟩ (Wk.list rfl (by simp) (by simp [hl5, List.map_set])) ?_
    case' inr =>
      simp [r_s_l1Cur_tariff_3, p_s_l1Cur_tariff_3]
      refine callD_M [1000000] [] (l := [_]) (MCall.arg hM5 (by simp)) (by simp) (by simp) (by simp) (by simp) (by simp) (by first | rfl | simp) (by simp) (by simp) ?_
      simp
      refine callD_M [1000000] [22] (l := [_]) (MCall.arg hM6 (by simp)) (by simp) (by simp) (by simp) (by simp) (by simp) (by first | rfl | simp) (by simp) (by simp) ?_
      simp
      refine ⟨by omega, ?_⟩
      obtain ⟨c, hc⟩ := lit5_get hv
      rw [hc]
      simp
      refine ⟨oEnd_of (by simp [p_s_l1Cur_tariff_3]) (by simp), ?_⟩
      refine wk_of ⟨[(0, cR), (2, .ref 2 0 0), (3, .ref 3 0 0)], [(1000000, curB code k6 s6), (3, ⟨4, [.agg [.sl 4 0 5, I v1, I v2, I v3]]⟩), (4, ⟨1, l.map I⟩), (2, ⟨4, [.agg [.v (.slice none 0 0), I 0, I 0, I 0]]⟩)], [1000000]⟩ (Wk.list rfl (by simp) (by simp [hl5, List.map_set])) ?_
    all_goals
      simp [r_s_l1Cur_tariff_4]
      refine callQ_Mz [1000000] [] (MCall.arg hM7 (by simp)) (by simp) (by simp) (by simp) (by simp) (by simp) (by first | rfl | simp) (by simp) ?_
      simp [r_s_l1Cur_tariff_5]
      rcases hfin with ⟨rfl, rfl, rfl, rfl⟩ | ⟨rfl, rfl, rfl, rfl⟩ | ⟨rfl, rfl, rfl, rfl⟩ | ⟨rfl, rfl, rfl, rfl⟩ | ⟨⟨n0, n1, n2, n3⟩, rfl, rfl, rfl⟩
      · simp
        refine wk_of _ (Wk.frz 4 ⟨1, l.map I⟩ (by rfl) (by simp) (by simp)) ?_
        simp [r_s_l1Cur_tariff_6, h5, ht]
        refine ⟨by omega, ?_⟩
        refine wk_of _ (Wk.refl _) ?_
        rw [htl]
        simp [r_s_l1Cur_tariff_13]
      · simp [r_s_l1Cur_tariff_7, r_s_l1Cur_tariff_8]
        refine callQ_Mz [1000000] [36] (MCall.arg hM8 (by simp)) (by simp) (by simp) (by simp) (by simp) (by simp) (by first | rfl | simp) (by simp) ?_
        simp
        refine wk_of _ (Wk.frz 4 ⟨1, l.map I⟩ (by rfl) (by simp) (by simp)) ?_
        simp [r_s_l1Cur_tariff_13, h5, ht]
      · simp [r_s_l1Cur_tariff_7, r_s_l1Cur_tariff_9, r_s_l1Cur_tariff_10]
        refine callQ_Mz [1000000] [42] (MCall.arg hM9 (by simp)) (by simp) (by simp) (by simp) (by simp) (by simp) (by first | rfl | simp) (by simp) ?_
        simp
        refine wk_of _ (Wk.frz 4 ⟨1, l.map I⟩ (by rfl) (by simp) (by simp)) ?_
        simp [r_s_l1Cur_tariff_13, h5, ht]
      · simp [r_s_l1Cur_tariff_7, r_s_l1Cur_tariff_9, r_s_l1Cur_tariff_11, r_s_l1Cur_tariff_12, p_s_l1Cur_tariff_12]
        refine callD_M [1000000] [50] (l := [_]) (MCall.arg hM10 (by simp)) (by simp) (by simp) (by simp) (by simp) (by simp) (by first | rfl | simp) (by simp) (by simp) ?_
        simp [ha]
        refine ⟨oEnd_of (by simp [p_s_l1Cur_tariff_12]) (by simp), ?_⟩
        rw [← List.map_set]
        generalize l.set 0 u = m at h5u htu ⊢
        refine wk_of _ (Wk.frz 4 ⟨1, m.map I⟩ (by rfl) (by simp) (by simp)) ?_
        simp [r_s_l1Cur_tariff_13, h5u, htu]
      · simp [r_s_l1Cur_tariff_7, r_s_l1Cur_tariff_9, r_s_l1Cur_tariff_11, r_s_l1Cur_tariff_12, p_s_l1Cur_tariff_12, n0, n1, n2, n3]
        refine wk_of _ (Wk.frz 4 ⟨1, l.map I⟩ (by rfl) (by simp) (by simp)) ?_
        simp [r_s_l1Cur_tariff_13, h5, ht]
  by_cases c0 : x = 0
  · exact ⟨_, _, _, by omega, main _ _ _ (.inl ⟨c0, rfl, rfl, rfl⟩)⟩
  by_cases c1 : x = 1
  · exact ⟨_, _, _, by omega, main _ _ _ (.inr (.inl ⟨c1, rfl, rfl, rfl⟩))⟩
  by_cases c2 : x = 2
  · exact ⟨_, _, _, by omega, main _ _ _ (.inr (.inr (.inl ⟨c2, rfl, rfl, rfl⟩)))⟩
  by_cases c3 : x = 3
  · exact ⟨_, _, _, by omega, main _ _ _ (.inr (.inr (.inr (.inl ⟨c3, rfl, rfl, rfl⟩))))⟩
  · exact ⟨_, _, _, by omega, main _ _ _ (.inr (.inr (.inr (.inr ⟨⟨c0, c1, c2, c3⟩, rfl, rfl, rfl⟩))))⟩
end Go.Proofs.Ytgefdcllialhkaa
