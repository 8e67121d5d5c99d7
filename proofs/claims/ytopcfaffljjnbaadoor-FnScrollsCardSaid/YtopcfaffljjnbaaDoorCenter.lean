/- A line between spaces, in the program and in the reference. -/
import Derived.Test.YtopcfaffljjnbaaDoorCodeCenter
import Derived.Test.YtopcfaffljjnbaaDoorMotto
set_option linter.unusedVariables false
set_option linter.unusedSimpArgs false
namespace Go.Proofs.YtopcfaffljjnbaaDoor
open Go.Abs Go.RowKit

theorem repeatL_one (c : UInt8) : ∀ n, Lib.repeatL [c] n = List.replicate n c
  | 0 => rfl
  | n + 1 => by rw [Lib.repeatL, repeatL_one c n]; rfl
theorem strings_Repeat (c : UInt8) (n : Nat) (hn : n ≤ 100000) : PCall Tryd.prog n_strings_Repeat [S [c], I n] (S (List.replicate n c)) := by
  rw [← repeatL_one]
  refine PCall.below (vs := [.string (bs [c]), .int .i64 n]) (y := .string (bs (Lib.repeatL [c] n))) (by kernel_rfl) (fun _ _ => CV_mkv ?_) (fun w _ _ => ?_)
  · show Abs.one (Value.string _) = true
    have : (bs (Lib.repeatL [c] n)).size = n := by rw [repeatL_one]; simp [bs, ByteArray.size]
    simp only [Abs.one, this, decide_eq_true_iff]; omega
  have hsz : (bs [c]).size * n ≤ 140737488355328 := by
    have : (bs [c]).size = 1 := rfl
    rw [this]; omega
  exact Tryd.strings_Repeat (bs [c]) n w (by omega) hsz

def centerT (line : List UInt8) (w : Int) : List UInt8 := List.replicate ((w - line.length) / 2).toNat 32 ++ line ++ List.replicate (w - line.length - (w - line.length) / 2).toNat 32
theorem center_cut (line : List UInt8) (w : Int) (h1 : (line.length : Int) ≤ w) (h2 : w ≤ 100) : ∃ b a : Nat, (w - line.length) / 2 = b ∧ w - line.length - b = a ∧ b ≤ 100 ∧ a ≤ 100 ∧
    IntKind.i64.wrap ((w - line.length).tdiv 2) = b ∧ centerT line w = List.replicate b 32 ++ line ++ List.replicate a 32 := by
  refine ⟨((w - line.length) / 2).toNat, (w - line.length - (w - line.length) / 2).toNat, by omega, by omega, by omega, by omega, ?_, rfl⟩
  rw [Int.tdiv_eq_ediv_of_nonneg (by omega), wrap64 (by omega) (by omega)]; omega
theorem i_centered (line : List UInt8) (w : Int) (h1 : (line.length : Int) ≤ w) (h2 : w ≤ 100) : PCall Tryd.prog n_i_centered [S line, I w] (S (centerT line w)) := by
  refine PCall.of fn_i_centered (by simp) ?_
  obtain ⟨b, a, hb, ha, hb', ha', e, hc⟩ := center_cut line w h1 h2
  rw [hc]
  simp [c_i_centered, r_i_centered_0, r_i_centered_1]
  rw [wrap64 (by omega) (by omega)]
  simp [r_i_centered_2]
  rw [e]
  refine callQ_v (strings_Repeat 32 b (by omega)) ?_
  simp
  rw [e, ha]
  refine ⟨by omega, ?_⟩
  rw [wrap64 (by omega) (by omega)]
  refine callQ_v (strings_Repeat 32 a (by omega)) ?_
  simp
  omega

end Go.Proofs.YtopcfaffljjnbaaDoor
