/- The compact code of the functions, and that it is theirs: written by a program of this claim. -/
import Derived.Test.YtgefdcllialhkaaNums
namespace Go.Proofs.Ytgefdcllialhkaa
open Go.Abs
set_option maxRecDepth 100000
def r_s_KeepsProportion_0 : List CO := [⟨none, (some 3), (.box 2 (.t 1))⟩, ⟨none, (some 4), (.mv (.k (.v (.bool false))))⟩, ⟨none, (some 5), (.mv (.k (.v (.bool false))))⟩]
def r_s_KeepsProportion_1 : List CO := [⟨none, (some 6), (.mv (.t 0))⟩, ⟨none, (some 7), (.call n_s_l24Good [(.t 6)])⟩, ⟨none, (some 8), (.un .not (.t 7))⟩, ⟨none, (some 9), (.mv (.t 8))⟩, ⟨(some (9, false)), (some 10), (.ld true 2 (.t 3))⟩, ⟨(some (9, false)), (some 11), (.call n_s_l24Proportion [(.t 10)])⟩, ⟨(some (9, false)), (some 12), (.un .not (.t 11))⟩, ⟨none, (some 13), (.pick (.t 9) (.k (.v (.bool true))) (.t 12))⟩]
def r_s_KeepsProportion_2 : List CO := [⟨none, (some 4), (.mv (.k (.v (.bool false))))⟩, ⟨none, (some 5), (.mv (.k (.v (.bool false))))⟩]
def r_s_KeepsProportion_3 : List CO := [⟨none, (some 14), (.mv (.t 0))⟩, ⟨none, (some 15), (.len false (.t 14))⟩, ⟨none, (some 16), (.faddr 1 (.t 3))⟩, ⟨none, (some 17), (.ld false 1 (.t 16))⟩, ⟨none, (some 18), (.bin .mul .none (.t 15) (.t 17))⟩, ⟨none, (some 19), (.mv (.t 0))⟩, ⟨none, (some 20), (.iaddr 1 (.t 19) (.k (.v (.int .i64 (0)))))⟩, ⟨none, (some 21), (.ld false 1 (.t 20))⟩, ⟨none, (some 22), (.len false (.t 21))⟩, ⟨none, (some 23), (.faddr 0 (.t 3))⟩, ⟨none, (some 24), (.ld false 1 (.t 23))⟩, ⟨none, (some 25), (.bin .mul .none (.t 22) (.t 24))⟩, ⟨none, (some 26), (.bin .eql .none (.t 18) (.t 25))⟩, ⟨none, (some 4), (.mv (.t 26))⟩, ⟨none, (some 5), (.mv (.k (.v (.bool true))))⟩]
def p_s_KeepsProportion_3 : List (List Nat) := [[], [0], [], [2], [0, 1, 2, 3], [], [5], [5, 6], [5, 6, 7], [], [9], [5, 6, 7, 8, 9, 10], [0, 1, 2, 3, 4, 5, 6, 7, 8, 9, 10, 11], [0, 1, 2, 3, 4, 5, 6, 7, 8, 9, 10, 11, 12], [0, 1, 2, 3, 4, 5, 6, 7, 8, 9, 10, 11, 12, 13]]
/-- loop.example/g00884/spec.KeepsProportion -/
def c_s_KeepsProportion : C := (.seq (.reg r_s_KeepsProportion_0 [0, 3]) (.seq (.seq (.reg r_s_KeepsProportion_1 [0, 3, 13]) (.cond (.t 13) (.seq (.reg r_s_KeepsProportion_2 [4, 5]) .ret) .skip)) (.seq (.regD r_s_KeepsProportion_3 p_s_KeepsProportion_3 [4, 5]) .ret)))
def k_s_KeepsProportion : Nat → List Nat
  | 0 => [0, 3]
  | 1 => [0, 3, 13]
  | 2 => [4, 5]
  | 3 => [4, 5]
  | _ => []
theorem fn_s_KeepsProportion : FnC Try.prog n_s_KeepsProportion c_s_KeepsProportion [(.tmp 4), (.tmp 5)] 27 :=
  ⟨Try.f56, _, k_s_KeepsProportion, Try.func56, rfl, by kernel_rfl, by kernel_rfl, by kernel_rfl, rfl⟩
def r_i_KeepsProportion_0 : List CO := [⟨none, (some 3), (.box 2 (.t 1))⟩, ⟨none, (some 4), (.mv (.k (.v (.bool false))))⟩, ⟨none, (some 5), (.mv (.k (.v (.bool false))))⟩]
def r_i_KeepsProportion_1 : List CO := [⟨none, (some 6), (.mv (.t 0))⟩, ⟨none, (some 7), (.call n_i_IsValidBanner [(.t 6)])⟩, ⟨none, (some 8), (.un .not (.t 7))⟩, ⟨none, (some 9), (.mv (.t 8))⟩, ⟨(some (9, false)), (some 10), (.ld true 2 (.t 3))⟩, ⟨(some (9, false)), (some 11), (.call n_i_isProportion [(.t 10)])⟩, ⟨(some (9, false)), (some 12), (.un .not (.t 11))⟩, ⟨none, (some 13), (.pick (.t 9) (.k (.v (.bool true))) (.t 12))⟩]
def r_i_KeepsProportion_2 : List CO := [⟨none, (some 4), (.mv (.k (.v (.bool false))))⟩, ⟨none, (some 5), (.mv (.k (.v (.bool false))))⟩]
def r_i_KeepsProportion_3 : List CO := [⟨none, (some 14), (.mv (.t 0))⟩, ⟨none, (some 15), (.len false (.t 14))⟩, ⟨none, (some 16), (.faddr 1 (.t 3))⟩, ⟨none, (some 17), (.ld false 1 (.t 16))⟩, ⟨none, (some 18), (.bin .mul .none (.t 15) (.t 17))⟩, ⟨none, (some 19), (.mv (.t 0))⟩, ⟨none, (some 20), (.iaddr 1 (.t 19) (.k (.v (.int .i64 (0)))))⟩, ⟨none, (some 21), (.ld false 1 (.t 20))⟩, ⟨none, (some 22), (.len false (.t 21))⟩, ⟨none, (some 23), (.faddr 0 (.t 3))⟩, ⟨none, (some 24), (.ld false 1 (.t 23))⟩, ⟨none, (some 25), (.bin .mul .none (.t 22) (.t 24))⟩, ⟨none, (some 26), (.bin .eql .none (.t 18) (.t 25))⟩, ⟨none, (some 4), (.mv (.t 26))⟩, ⟨none, (some 5), (.mv (.k (.v (.bool true))))⟩]
def p_i_KeepsProportion_3 : List (List Nat) := [[], [0], [], [2], [0, 1, 2, 3], [], [5], [5, 6], [5, 6, 7], [], [9], [5, 6, 7, 8, 9, 10], [0, 1, 2, 3, 4, 5, 6, 7, 8, 9, 10, 11], [0, 1, 2, 3, 4, 5, 6, 7, 8, 9, 10, 11, 12], [0, 1, 2, 3, 4, 5, 6, 7, 8, 9, 10, 11, 12, 13]]
/-- loop.example/g00884/impl.KeepsProportion -/
def c_i_KeepsProportion : C := (.seq (.reg r_i_KeepsProportion_0 [0, 3]) (.seq (.seq (.reg r_i_KeepsProportion_1 [0, 3, 13]) (.cond (.t 13) (.seq (.reg r_i_KeepsProportion_2 [4, 5]) .ret) .skip)) (.seq (.regD r_i_KeepsProportion_3 p_i_KeepsProportion_3 [4, 5]) .ret)))
def k_i_KeepsProportion : Nat → List Nat
  | 0 => [0, 3]
  | 1 => [0, 3, 13]
  | 2 => [4, 5]
  | 3 => [4, 5]
  | _ => []
theorem fn_i_KeepsProportion : FnC Try.prog n_i_KeepsProportion c_i_KeepsProportion [(.tmp 4), (.tmp 5)] 27 :=
  ⟨Try.f49, _, k_i_KeepsProportion, Try.func49, rfl, by kernel_rfl, by kernel_rfl, by kernel_rfl, rfl⟩
end Go.Proofs.Ytgefdcllialhkaa
