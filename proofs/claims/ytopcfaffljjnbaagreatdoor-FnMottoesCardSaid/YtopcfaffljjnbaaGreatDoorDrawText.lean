/- Draws of texts. -/
import Derived.Test.YtopcfaffljjnbaaGreatDoorCursor
set_option linter.unusedVariables false
set_option linter.unusedSimpArgs false
namespace Go.Proofs.YtopcfaffljjnbaaGreatDoor
open Go.Abs

theorem s_l1Cur_of (code : List UInt8) (k : Nat) (s : Int) (l : List (List UInt8)) (hk : k ≤ 100000000000) (h0 : 0 < l.length) (hl : l.length ≤ 100000) :
    ∃ (v : List UInt8) (k' : Nat) (s' : Int), (v ∈ l ∧ (k ≤ k' ∧ k' ≤ k + 2)) ∧ MCall Tryz.prog n_s_l1Cur_of [curB code k s] [cR, .ro 1 (l.map S)] (S v) [some (curB code k' s')] := by
  obtain ⟨v, k', s', ⟨hv, hk'⟩, hM⟩ := s_l1Cur_pick code k s l.length hk (by omega)
  obtain ⟨i, rfl⟩ : ∃ i : Nat, v = i := ⟨v.toNat, by omega⟩
  have hi : i < l.length := by omega
  refine ⟨l[i], k', s', ⟨List.getElem_mem _, hk'⟩, ?_⟩
  refine MCall.of fn_s_l1Cur_of (by simp) rfl (by simp) ?_
  simp [c_s_l1Cur_of, r_s_l1Cur_of_0, r_s_l1Cur_of_1]
  refine callQ_Mz [1000000] [] (MCall.arg hM (by simp)) (by simp) (by simp) (by simp) (by simp) (by simp) (by first | rfl | simp) (by simp) ?_
  simp [hi]
theorem s_l1Cur_spoilt (code : List UInt8) (k : Nat) (s : Int) (t with_ : List UInt8) (hk : k ≤ 10000000000) (h0 : 0 < with_.length) (hl : with_.length ≤ 1000) (ht : t.length ≤ 100000) :
    ∃ (v : List UInt8) (k' : Nat) (s' : Int), (v.length ≤ t.length + 1 ∧ (k ≤ k' ∧ k' ≤ k + 6)) ∧ MCall Tryz.prog n_s_l1Cur_spoilt [curB code k s] [cR, S t, S with_] (S v) [some (curB code k' s')] := by
  by_cases he : t = []
  · refine ⟨with_.take 1, k, s, by simp; omega, ?_⟩
    refine MCall.of fn_s_l1Cur_spoilt (by simp) rfl (by simp) ?_
    simp [c_s_l1Cur_spoilt, r_s_l1Cur_spoilt_0, r_s_l1Cur_spoilt_1, r_s_l1Cur_spoilt_2, he]
    omega
  · have htl : 0 < t.length := by
      cases t with
      | nil => exact absurd rfl he
      | cons a t => simp
    obtain ⟨v1, k1, s1, ⟨hv1, hk1⟩, hM1⟩ := s_l1Cur_pick code k s t.length (by omega) (by omega)
    obtain ⟨v2, k2, s2, ⟨hv2, hk2⟩, hM2⟩ := s_l1Cur_pick code k1 s1 with_.length (by omega) (by omega)
    obtain ⟨v3, k3, s3, ⟨hv3, hk3⟩, hM3⟩ := s_l1Cur_pick code k2 s2 3 (by omega) (by omega)
    obtain ⟨i, rfl⟩ : ∃ i : Nat, v1 = i := ⟨v1.toNat, by omega⟩
    obtain ⟨j, rfl⟩ : ∃ i : Nat, v2 = i := ⟨v2.toNat, by omega⟩
    have main : ∀ v : List UInt8, ((v3 = 0 ∧ v = t.take i ++ (with_.drop j).take 1 ++ t.drop i) ∨ (v3 = 1 ∧ v = t.take i ++ (with_.drop j).take 1 ++ t.drop (i + 1)) ∨ ((v3 ≠ 0 ∧ v3 ≠ 1) ∧ v = t.take i ++ t.drop (i + 1))) →
        MCall Tryz.prog n_s_l1Cur_spoilt [curB code k s] [cR, S t, S with_] (S v) [some (curB code k3 s3)] := by
      intro v hv
      refine MCall.of fn_s_l1Cur_spoilt (by simp) rfl (by simp) ?_
      simp [c_s_l1Cur_spoilt, r_s_l1Cur_spoilt_0, r_s_l1Cur_spoilt_1, he]
      simp [r_s_l1Cur_spoilt_3]
      refine callQ_Mz [1000000] [] (MCall.arg hM1 (by simp)) (by simp) (by simp) (by simp) (by simp) (by simp) (by first | rfl | simp) (by simp) ?_
      simp [r_s_l1Cur_spoilt_4]
      refine callQ_Mz [1000000] [] (MCall.arg hM2 (by simp)) (by simp) (by simp) (by simp) (by simp) (by simp) (by first | rfl | simp) (by simp) ?_
      simp
      refine ⟨by omega, by omega, ?_⟩
      simp [r_s_l1Cur_spoilt_5]
      refine callQ_Mz [1000000] [] (MCall.arg hM3 (by simp)) (by simp) (by simp) (by simp) (by simp) (by simp) (by first | rfl | simp) (by simp) ?_
      rcases hv with ⟨rfl, rfl⟩ | ⟨rfl, rfl⟩ | ⟨⟨n0, n1⟩, rfl⟩
      · simp [r_s_l1Cur_spoilt_6, r_s_l1Cur_spoilt_7, p_s_l1Cur_spoilt_7]
        refine ⟨by omega, by omega, by omega, by omega, oEnd_of (by simp [p_s_l1Cur_spoilt_7]) (by simp), ?_⟩
        rw [List.take_of_length_le (l := t.drop i) (by simp), List.take_of_length_le (l := with_.drop j) (by simp)]
      · simp [r_s_l1Cur_spoilt_6, r_s_l1Cur_spoilt_8, r_s_l1Cur_spoilt_9, p_s_l1Cur_spoilt_9]
        rw [wrap64 (n := (i : Int) + 1) (by omega) (by omega), show ((i : Int) + 1).toNat = i + 1 by omega]
        refine ⟨by omega, by omega, by omega, by omega, oEnd_of (by simp [p_s_l1Cur_spoilt_9]) (by simp), ?_⟩
        rw [List.take_of_length_le (l := t.drop (i + 1)) (by simp), List.take_of_length_le (l := with_.drop j) (by simp)]
      · simp [r_s_l1Cur_spoilt_6, r_s_l1Cur_spoilt_8, r_s_l1Cur_spoilt_10, p_s_l1Cur_spoilt_10, n0, n1]
        rw [wrap64 (n := (i : Int) + 1) (by omega) (by omega), show ((i : Int) + 1).toNat = i + 1 by omega]
        refine ⟨by omega, by omega, by omega, oEnd_of (by simp [p_s_l1Cur_spoilt_10]) (by simp), ?_⟩
        rw [List.take_of_length_le (l := t.drop (i + 1)) (by simp)]
    by_cases c0 : v3 = 0
    · exact ⟨_, _, _, ⟨by simp; omega, by omega⟩, main _ (.inl ⟨c0, rfl⟩)⟩
    by_cases c1 : v3 = 1
    · exact ⟨_, _, _, ⟨by simp; omega, by omega⟩, main _ (.inr (.inl ⟨c1, rfl⟩))⟩
    · exact ⟨_, _, _, ⟨by simp; omega, by omega⟩, main _ (.inr (.inr ⟨⟨c0, c1⟩, rfl⟩))⟩
end Go.Proofs.YtopcfaffljjnbaaGreatDoor
