/- A line between spaces, in the program and in the reference. -/
import Derived.Test.YtopcfaffljjnbaaGreatDoorMotto
set_option linter.unusedVariables false
set_option linter.unusedSimpArgs false
namespace Go.Proofs.YtopcfaffljjnbaaGreatDoor
open Go.Abs Go.RowKit

theorem repeatL_one (c : UInt8) : ∀ n, Lib.repeatL [c] n = List.replicate n c
  | 0 => rfl
  | n + 1 => by rw [Lib.repeatL, repeatL_one c n]; rfl
theorem strings_Repeat (c : UInt8) (n : Nat) (hn : n ≤ 100000) : PCall Tryz.prog n_strings_Repeat [S [c], I n] (S (List.replicate n c)) := by
  rw [← repeatL_one]
  refine PCall.below (vs := [.string (bs [c]), .int .i64 n]) (y := .string (bs (Lib.repeatL [c] n))) (by kernel_rfl) (fun _ _ => CV_mkv ?_) (fun w _ _ => ?_)
  · show Abs.one (Value.string _) = true
    have : (bs (Lib.repeatL [c] n)).size = n := by rw [repeatL_one]; simp [bs, ByteArray.size]
    simp only [Abs.one, this, decide_eq_true_iff]; omega
  have hsz : (bs [c]).size * n ≤ 140737488355328 := by
    have : (bs [c]).size = 1 := rfl
    rw [this]; omega
  exact Tryz.strings_Repeat (bs [c]) n w (by omega) hsz

def centerT (line : List UInt8) (w : Int) : List UInt8 := List.replicate ((w - line.length) / 2).toNat 32 ++ line ++ List.replicate (w - line.length - (w - line.length) / 2).toNat 32
theorem center_cut (line : List UInt8) (w : Int) (h1 : (line.length : Int) ≤ w) (h2 : w ≤ 100) : ∃ b a : Nat, (w - line.length) / 2 = b ∧ w - line.length - b = a ∧ b ≤ 100 ∧ a ≤ 100 ∧
    IntKind.i64.wrap ((w - line.length).tdiv 2) = b ∧ centerT line w = List.replicate b 32 ++ line ++ List.replicate a 32 := by
  refine ⟨((w - line.length) / 2).toNat, (w - line.length - (w - line.length) / 2).toNat, by omega, by omega, by omega, by omega, ?_, rfl⟩
  rw [Int.tdiv_eq_ediv_of_nonneg (by omega), wrap64 (by omega) (by omega)]; omega
theorem i_centered (line : List UInt8) (w : Int) (h1 : (line.length : Int) ≤ w) (h2 : w ≤ 100) : PCall Tryz.prog n_i_centered [S line, I w] (S (centerT line w)) := by
  refine PCall.of fn_i_centered (by simp) ?_
  obtain ⟨b, a, hb, ha, hb', ha', e, hc⟩ := center_cut line w h1 h2
  rw [hc]
  simp [c_i_centered, r_i_centered_0, r_i_centered_1]
  rw [wrap64 (by omega) (by omega)]
  simp [r_i_centered_2]
  rw [e]
  refine callQ_v (strings_Repeat 32 b (by omega)) ?_
  simp
  rw [e, ha]
  refine ⟨by omega, ?_⟩
  rw [wrap64 (by omega) (by omega)]
  refine callQ_v (strings_Repeat 32 a (by omega)) ?_
  simp
  omega

theorem s_l23Center (line : List UInt8) (w : Int) (h1 : (line.length : Int) ≤ w) (h2 : w ≤ 100) : PCall Tryz.prog n_s_l23Center [S line, I w] (S (centerT line w)) := by
  refine PCall.of fn_s_l23Center (by simp) ?_
  obtain ⟨b, a, hb, ha, hb', ha', e, hc⟩ := center_cut line w h1 h2
  rw [hc]
  simp [c_s_l23Center, r_s_l23Center_0, r_s_l23Center_1]
  rw [wrap64 (n := w - line.length) (by omega) (by omega), e]
  simp [r_s_l23Center_2, r_s_l23Center_6]
  refine loopK (fun k : Nat => ⟨[(0, S line), (1, I w), (5, I b), (6, S (List.replicate k 32))], [], []⟩) (fun k => b - k) (fun k => k ≤ b) 0 (Wk.list rfl (by simp) (by simp)) (by simp) ?_
  intro k hk K hN hR hE
  simp [r_s_l23Center_3, l_s_l23Center_5]
  refine ⟨fun hlt => ?_, fun hge => ?_⟩
  · simp [r_s_l23Center_4]
    refine ⟨by omega, ?_⟩
    refine hN (k + 1) _ (by omega) (by omega) (Wk.list rfl (by simp [List.replicate_succ']) (by simp))
  · obtain rfl : k = b := by omega
    refine hE _ _ ?_
    simp only [blockK_exit]
    simp [r_s_l23Center_6, r_s_l23Center_10]
    refine ⟨by omega, ?_⟩
    refine loopK (fun j : Nat => ⟨[(1, I w), (6, S (List.replicate k 32 ++ line ++ List.replicate j 32))], [], []⟩) (fun j => a - j) (fun j => j ≤ a) 0 (Wk.list rfl (by simp) (by simp)) (by simp) ?_
    intro j hj K' hN' hR' hE'
    simp [r_s_l23Center_7, l_s_l23Center_9]
    refine ⟨fun hlt => ?_, fun hge => ?_⟩
    · simp [r_s_l23Center_8]
      refine ⟨by omega, ?_⟩
      refine hN' (j + 1) _ (by omega) (by omega) (Wk.list rfl (by simp [List.replicate_succ']) (by simp))
    · obtain rfl : j = a := by omega
      refine hE' _ _ ?_
      simp only [blockK_exit]
      simp [r_s_l23Center_10]
end Go.Proofs.YtopcfaffljjnbaaGreatDoor
