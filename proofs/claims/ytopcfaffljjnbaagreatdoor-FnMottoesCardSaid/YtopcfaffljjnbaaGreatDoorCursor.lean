/- The cursor of the draws: it reads choices from bytes. -/
import Derived.Test.YtopcfaffljjnbaaGreatDoorBase
set_option linter.unusedVariables false
set_option linter.unusedSimpArgs false
namespace Go.Proofs.YtopcfaffljjnbaaGreatDoor
open Go.Abs

abbrev U (n : Int) : V := .v (.int .u64 n)
/-- The cursor in memory. -/
abbrev curB (code : List UInt8) (k : Nat) (s : Int) : Blk := ⟨3, [.agg [.ro 1 (code.map Y), I k, U s]]⟩
abbrev cR : V := .ref (mid 0) 0 0
def seedN (s b : Int) : Int := IntKind.u64.wrap (IntKind.u64.wrap (IntKind.u64.wrap (s * 6364136223846793005) + IntKind.u64.wrap b) + 884884)
theorem s_l1Cur_next (code : List UInt8) (k : Nat) (s : Int) (hk : k ≤ 1000000000000) : ∃ (v : Int) (s' : Int), (0 ≤ v ∧ v ≤ 255) ∧ MCall Tryz.prog n_s_l1Cur_next [curB code k s] [cR] (I v) [some (curB code (k + 1) s')] := by
  by_cases hlt : k < code.length
  · have hb := UInt8.toNat_lt code[k]
    have hw : IntKind.i64.wrap (code[k].toNat : Int) = code[k].toNat := wrap64 (by omega) (by omega)
    refine ⟨code[k].toNat, seedN s code[k].toNat, by omega, ?_⟩
    refine MCall.of fn_s_l1Cur_next (by simp) rfl (by simp) ?_
    simp [c_s_l1Cur_next, r_s_l1Cur_next_0, r_s_l1Cur_next_1, r_s_l1Cur_next_2, p_s_l1Cur_next_2]
    refine ⟨oEnd_of (by first | kernel_rfl | simp) (by first | kernel_rfl | simp), fun _ => ?_, fun hge => by omega⟩
    simp [r_s_l1Cur_next_3, p_s_l1Cur_next_3, hlt, hw]
    refine ⟨oEnd_of (by first | kernel_rfl | simp) (by first | kernel_rfl | simp), ?_⟩
    simp [r_s_l1Cur_next_4]
    rw [wrap64 (n := (k : Int) + 1) (by omega) (by omega)]
    simp [r_s_l1Cur_next_5]
    simp [r_s_l1Cur_next_6, p_s_l1Cur_next_6]
    refine ⟨oEnd_of (by first | kernel_rfl | simp) (by first | kernel_rfl | simp), fun h => ?_, fun h => ?_⟩
    · simp [r_s_l1Cur_next_7, seedN]
    · omega
  · have hge : code.length ≤ k := by omega
    obtain ⟨x, hx⟩ : ∃ x : Nat, ((seedN s 0).fdiv (2 ^ min 40 IntKind.u64.bits) % 2 ^ IntKind.u64.bits).toNat &&& (255 % 2 ^ IntKind.u64.bits) = x := ⟨_, rfl⟩
    have hx255 : x ≤ 255 := by
      rw [← hx]
      have : (255 % 2 ^ IntKind.u64.bits : Nat) = 255 := by decide
      rw [this]; exact Nat.and_le_right
    have hw : IntKind.i64.wrap (IntKind.u64.wrap (x : Int)) = x := by
      have : IntKind.u64.wrap (x : Int) = x := by
        have h1 : IntKind.u64.signed = false := rfl
        have h2 : IntKind.u64.bits = 64 := rfl
        simp only [IntKind.wrap, h1, h2, Bool.false_and, Bool.false_eq_true, if_false]
        omega
      rw [this, wrap64 (by omega) (by omega)]
    refine ⟨x, seedN s 0, by omega, ?_⟩
    refine MCall.of fn_s_l1Cur_next (by simp) rfl (by simp) ?_
    simp [c_s_l1Cur_next, r_s_l1Cur_next_0, r_s_l1Cur_next_1, r_s_l1Cur_next_2, p_s_l1Cur_next_2]
    refine ⟨oEnd_of (by first | kernel_rfl | simp) (by first | kernel_rfl | simp), fun _ => by omega, fun _ => ?_⟩
    simp [r_s_l1Cur_next_4]
    rw [wrap64 (n := (k : Int) + 1) (by omega) (by omega)]
    simp [r_s_l1Cur_next_5]
    simp [r_s_l1Cur_next_6, p_s_l1Cur_next_6]
    refine ⟨oEnd_of (by first | kernel_rfl | simp) (by first | kernel_rfl | simp), fun h => by omega, fun h => ?_⟩
    simp [r_s_l1Cur_next_8]
    refine ⟨?_, rfl⟩
    rw [← hw, ← hx]
    rfl
theorem s_l1Cur_pick (code : List UInt8) (k : Nat) (s n : Int) (hk : k ≤ 100000000000) (hn : n ≤ 1000000) : ∃ (v : Int) (k' : Nat) (s' : Int), ((0 ≤ v ∧ (v < n ∨ v = 0)) ∧ (k ≤ k' ∧ k' ≤ k + 2)) ∧ MCall Tryz.prog n_s_l1Cur_pick [curB code k s] [cR, I n] (I v) [some (curB code k' s')] := by
  by_cases h1 : n ≤ 1
  · refine ⟨0, k, s, by omega, ?_⟩
    refine MCall.of fn_s_l1Cur_pick (by simp) rfl (by simp) ?_
    simp [c_s_l1Cur_pick, r_s_l1Cur_pick_0, r_s_l1Cur_pick_1, r_s_l1Cur_pick_2, h1]
  obtain ⟨v1, s1, hv1, hM1⟩ := s_l1Cur_next code k s (by omega)
  by_cases h2 : n ≤ 200
  · refine ⟨v1.tmod n, k + 1, s1, ⟨⟨Int.tmod_nonneg _ (by omega), .inl (Int.tmod_lt_of_pos _ (by omega))⟩, by omega⟩, ?_⟩
    refine MCall.of fn_s_l1Cur_pick (by simp) rfl (by simp) ?_
    simp [c_s_l1Cur_pick, r_s_l1Cur_pick_0, r_s_l1Cur_pick_1, h1]
    simp [r_s_l1Cur_pick_3]
    refine callQ_Mz [1000000] [] (MCall.arg hM1 (by simp)) (by simp) (by simp) (by simp) (by simp) (by simp) (by first | rfl | simp) (by simp) ?_
    simp [r_s_l1Cur_pick_4]
    refine ⟨fun h => by omega, fun _ => ?_⟩
    simp [r_s_l1Cur_pick_6]
    omega
  · obtain ⟨v2, s2, hv2, hM2⟩ := s_l1Cur_next code (k + 1) s1 (by omega)
    refine ⟨(v1 * 256 + v2).tmod n, k + 2, s2, ⟨⟨Int.tmod_nonneg _ (by omega), .inl (Int.tmod_lt_of_pos _ (by omega))⟩, by omega⟩, ?_⟩
    refine MCall.of fn_s_l1Cur_pick (by simp) rfl (by simp) ?_
    simp [c_s_l1Cur_pick, r_s_l1Cur_pick_0, r_s_l1Cur_pick_1, h1]
    simp [r_s_l1Cur_pick_3]
    refine callQ_Mz [1000000] [] (MCall.arg hM1 (by simp)) (by simp) (by simp) (by simp) (by simp) (by simp) (by first | rfl | simp) (by simp) ?_
    simp [r_s_l1Cur_pick_4]
    refine ⟨fun _ => ?_, fun h => by omega⟩
    simp [r_s_l1Cur_pick_5]
    rw [wrap64 (by omega) (by omega)]
    refine callQ_Mz [1000000] [] (MCall.arg hM2 (by simp)) (by simp) (by simp) (by simp) (by simp) (by simp) (by first | rfl | simp) (by simp) ?_
    simp
    rw [wrap64 (by omega) (by omega)]
    simp [r_s_l1Cur_pick_6]
    omega
/-- Once in n times. -/
theorem s_l1Cur_one (code : List UInt8) (k : Nat) (s n : Int) (hk : k ≤ 100000000000) (hn : n ≤ 1000000) : ∃ (v : Bool) (k' : Nat) (s' : Int), (k ≤ k' ∧ k' ≤ k + 2) ∧ MCall Tryz.prog n_s_l1Cur_one [curB code k s] [cR, I n] (B v) [some (curB code k' s')] := by
  obtain ⟨v, k', s', ⟨_, hk'⟩, hM⟩ := s_l1Cur_pick code k s n hk hn
  refine ⟨decide (v = 0), k', s', hk', ?_⟩
  refine MCall.of fn_s_l1Cur_one (by simp) rfl (by simp) ?_
  simp [c_s_l1Cur_one, r_s_l1Cur_one_0, r_s_l1Cur_one_1]
  refine callQ_Mz [1000000] [] (MCall.arg hM (by simp)) (by simp) (by simp) (by simp) (by simp) (by simp) (by first | rfl | simp) (by simp) ?_
  simp
  rfl
theorem s_l1Cur_among (code : List UInt8) (k : Nat) (s : Int) (l : List Int) (hk : k ≤ 100000000000) (h0 : 0 < l.length) (hl : l.length ≤ 100000) :
    ∃ (v : Int) (k' : Nat) (s' : Int), (v ∈ l ∧ (k ≤ k' ∧ k' ≤ k + 2)) ∧ MCall Tryz.prog n_s_l1Cur_among [curB code k s] [cR, .ro 1 (l.map I)] (I v) [some (curB code k' s')] := by
  obtain ⟨v, k', s', ⟨hv, hk'⟩, hM⟩ := s_l1Cur_pick code k s l.length hk (by omega)
  obtain ⟨i, rfl⟩ : ∃ i : Nat, v = i := ⟨v.toNat, by omega⟩
  have hi : i < l.length := by omega
  refine ⟨l[i], k', s', ⟨List.getElem_mem _, hk'⟩, ?_⟩
  refine MCall.of fn_s_l1Cur_among (by simp) rfl (by simp) ?_
  simp [c_s_l1Cur_among, r_s_l1Cur_among_0, r_s_l1Cur_among_1]
  refine callQ_Mz [1000000] [] (MCall.arg hM (by simp)) (by simp) (by simp) (by simp) (by simp) (by simp) (by first | rfl | simp) (by simp) ?_
  simp [hi]
end Go.Proofs.YtopcfaffljjnbaaGreatDoor
