/- The compact code of the functions, and that it is theirs: written by a program of this claim. -/
import Derived.Test.YtaieoaahmmcnmaaNums
namespace Go.Proofs.Ytaieoaahmmcnmaa
open Go.Abs
set_option maxRecDepth 100000
def r_w_FnExactIsValidBanner_0 : List CO := [⟨none, (some 2), (.mv (.k (.v (.bool false))))⟩]
def r_w_FnExactIsValidBanner_1 : List CO := [⟨none, (some 3), (.mv (.k (.v (.int .i64 (1048576)))))⟩]
def r_w_FnExactIsValidBanner_2 : List CO := [⟨none, (some 7), (.mv (.t 0))⟩, ⟨none, (some 8), (.mv (.t 3))⟩, ⟨none, (some 9), (.call n_w_szIntSS [(.t 7), (.t 8)])⟩, ⟨none, (some 3), (.mv (.t 9))⟩]
def r_w_FnExactIsValidBanner_3 : List CO := [⟨none, (some 10), (.mv (.t 3))⟩, ⟨none, (some 11), (.bin .lss .none (.t 10) (.k (.v (.int .i64 (0)))))⟩]
def r_w_FnExactIsValidBanner_4 : List CO := [⟨none, (some 2), (.mv (.k (.v (.bool true))))⟩]
def r_w_FnExactIsValidBanner_5 : List CO := [⟨none, (some 12), (.mv (.t 0))⟩, ⟨none, (some 13), (.call n_w_toIntSS [(.t 12)])⟩, ⟨none, (some 14), (.call n_s_IsValidBanner [(.t 13)])⟩, ⟨none, (some 4), (.mv (.t 14))⟩]
def r_w_FnExactIsValidBanner_6 : List CO := [⟨none, (some 15), (.mv (.t 0))⟩, ⟨none, (some 16), (.call n_w_toIntSS [(.t 15)])⟩, ⟨none, (some 5), (.mv (.t 16))⟩]
def r_w_FnExactIsValidBanner_7 : List CO := [⟨none, (some 17), (.mv (.t 5))⟩, ⟨none, (some 18), (.call n_i_IsValidBanner [(.t 17)])⟩, ⟨none, (some 6), (.mv (.t 18))⟩]
def r_w_FnExactIsValidBanner_8 : List CO := [⟨none, (some 19), (.mv (.t 6))⟩, ⟨none, (some 20), (.mv (.t 4))⟩, ⟨none, (some 21), (.bin .neq .bool (.t 19) (.t 20))⟩]
def r_w_FnExactIsValidBanner_9 : List CO := [⟨none, (some 2), (.mv (.k (.v (.bool false))))⟩]
def r_w_FnExactIsValidBanner_10 : List CO := [⟨none, (some 22), (.mv (.t 5))⟩, ⟨none, (some 23), (.mv (.t 0))⟩, ⟨none, (some 24), (.call n_w_toIntSS [(.t 23)])⟩, ⟨none, (some 25), (.call n_w_eqIntSS [(.t 22), (.t 24)])⟩, ⟨none, (some 26), (.un .not (.t 25))⟩]
def r_w_FnExactIsValidBanner_11 : List CO := [⟨none, (some 2), (.mv (.k (.v (.bool false))))⟩]
def r_w_FnExactIsValidBanner_12 : List CO := [⟨none, (some 2), (.mv (.k (.v (.bool true))))⟩]
/-- loop.example/g00884/laws.FnExactIsValidBanner -/
def c_w_FnExactIsValidBanner : C := (.seq (.reg r_w_FnExactIsValidBanner_0 [0]) (.seq (.reg r_w_FnExactIsValidBanner_1 [0, 3]) (.seq (.reg r_w_FnExactIsValidBanner_2 [0, 3]) (.seq (.seq (.reg r_w_FnExactIsValidBanner_3 [0, 11]) (.cond (.t 11) (.seq (.reg r_w_FnExactIsValidBanner_4 [2]) .ret) .skip)) (.seq (.reg r_w_FnExactIsValidBanner_5 [0, 4]) (.seq (.reg r_w_FnExactIsValidBanner_6 [0, 4, 5]) (.seq (.reg r_w_FnExactIsValidBanner_7 [0, 4, 5, 6]) (.seq (.seq (.reg r_w_FnExactIsValidBanner_8 [0, 5, 21]) (.cond (.t 21) (.seq (.reg r_w_FnExactIsValidBanner_9 [2]) .ret) .skip)) (.seq (.seq (.reg r_w_FnExactIsValidBanner_10 [26]) (.cond (.t 26) (.seq (.reg r_w_FnExactIsValidBanner_11 [2]) .ret) .skip)) (.seq (.reg r_w_FnExactIsValidBanner_12 [2]) .ret))))))))))
def k_w_FnExactIsValidBanner : Nat → List Nat
  | 0 => [0]
  | 1 => [0, 3]
  | 2 => [0, 3]
  | 3 => [0, 11]
  | 4 => [2]
  | 5 => [0, 4]
  | 6 => [0, 4, 5]
  | 7 => [0, 4, 5, 6]
  | 8 => [0, 5, 21]
  | 9 => [2]
  | 10 => [26]
  | 11 => [2]
  | 12 => [2]
  | _ => []
theorem fn_w_FnExactIsValidBanner : FnC Try.prog n_w_FnExactIsValidBanner c_w_FnExactIsValidBanner [(.tmp 2)] 27 :=
  ⟨Try.f7, _, k_w_FnExactIsValidBanner, Try.func7, rfl, by kernel_rfl, by kernel_rfl, by kernel_rfl, rfl⟩
def r_w_FnExactKeepsProportion_0 : List CO := [⟨none, (some 3), (.box 2 (.t 1))⟩, ⟨none, (some 4), (.mv (.k (.v (.bool false))))⟩]
def r_w_FnExactKeepsProportion_1 : List CO := [⟨none, (some 5), (.mv (.k (.v (.int .i64 (1048576)))))⟩]
def r_w_FnExactKeepsProportion_2 : List CO := [⟨none, (some 11), (.mv (.t 0))⟩, ⟨none, (some 12), (.mv (.t 5))⟩, ⟨none, (some 13), (.call n_w_szIntSS [(.t 11), (.t 12)])⟩, ⟨none, (some 5), (.mv (.t 13))⟩]
def r_w_FnExactKeepsProportion_3 : List CO := [⟨none, (some 14), (.mv (.t 5))⟩, ⟨none, (some 15), (.bin .lss .none (.t 14) (.k (.v (.int .i64 (0)))))⟩]
def r_w_FnExactKeepsProportion_4 : List CO := [⟨none, (some 4), (.mv (.k (.v (.bool true))))⟩]
def r_w_FnExactKeepsProportion_5 : List CO := [⟨none, (some 17), (.mv (.t 0))⟩, ⟨none, (some 18), (.call n_w_toIntSS [(.t 17)])⟩, ⟨none, (some 19), (.ld true 2 (.t 3))⟩, ⟨none, (some 20), (.call n_w_toProportion [(.t 19)])⟩, ⟨none, (some 21), (.call n_s_KeepsProportion [(.t 18), (.t 20)])⟩, ⟨none, (some 16), (.mv (.t 21))⟩, ⟨none, (some 22), (.ext (.t 16) 0)⟩, ⟨none, (some 23), (.ext (.t 16) 1)⟩, ⟨none, (some 6), (.mv (.t 22))⟩, ⟨none, (some 7), (.mv (.t 23))⟩]
def p_w_FnExactKeepsProportion_5 : List (List Nat) := [[], [0], [], [0, 1, 2], [0, 1, 2, 3], [0, 1, 2, 3, 4], [0, 1, 2, 3, 4, 5], [0, 1, 2, 3, 4, 5], [0, 1, 2, 3, 4, 5, 6], [0, 1, 2, 3, 4, 5, 6, 7, 8]]
def r_w_FnExactKeepsProportion_6 : List CO := [⟨none, (some 24), (.mv (.t 0))⟩, ⟨none, (some 25), (.call n_w_toIntSS [(.t 24)])⟩, ⟨none, (some 8), (.mv (.t 25))⟩]
def r_w_FnExactKeepsProportion_7 : List CO := [⟨none, (some 27), (.mv (.t 8))⟩, ⟨none, (some 28), (.ld true 2 (.t 3))⟩, ⟨none, (some 29), (.call n_w_toProportion [(.t 28)])⟩, ⟨none, (some 30), (.call n_i_KeepsProportion [(.t 27), (.t 29)])⟩, ⟨none, (some 26), (.mv (.t 30))⟩, ⟨none, (some 31), (.ext (.t 26) 0)⟩, ⟨none, (some 32), (.ext (.t 26) 1)⟩, ⟨none, (some 9), (.mv (.t 31))⟩, ⟨none, (some 10), (.mv (.t 32))⟩]
def r_w_FnExactKeepsProportion_8 : List CO := [⟨none, (some 33), (.mv (.t 9))⟩, ⟨none, (some 34), (.mv (.t 6))⟩, ⟨none, (some 35), (.bin .neq .bool (.t 33) (.t 34))⟩, ⟨none, (some 36), (.mv (.t 35))⟩, ⟨(some (36, false)), (some 37), (.mv (.t 10))⟩, ⟨(some (36, false)), (some 38), (.mv (.t 7))⟩, ⟨(some (36, false)), (some 39), (.bin .neq .bool (.t 37) (.t 38))⟩, ⟨none, (some 40), (.pick (.t 36) (.k (.v (.bool true))) (.t 39))⟩]
def r_w_FnExactKeepsProportion_9 : List CO := [⟨none, (some 4), (.mv (.k (.v (.bool false))))⟩]
def r_w_FnExactKeepsProportion_10 : List CO := [⟨none, (some 41), (.mv (.t 8))⟩, ⟨none, (some 42), (.mv (.t 0))⟩, ⟨none, (some 43), (.call n_w_toIntSS [(.t 42)])⟩, ⟨none, (some 44), (.call n_w_eqIntSS [(.t 41), (.t 43)])⟩, ⟨none, (some 45), (.un .not (.t 44))⟩]
def r_w_FnExactKeepsProportion_11 : List CO := [⟨none, (some 4), (.mv (.k (.v (.bool false))))⟩]
def r_w_FnExactKeepsProportion_12 : List CO := [⟨none, (some 4), (.mv (.k (.v (.bool true))))⟩]
/-- loop.example/g00884/laws.FnExactKeepsProportion -/
def c_w_FnExactKeepsProportion : C := (.seq (.reg r_w_FnExactKeepsProportion_0 [0, 3]) (.seq (.reg r_w_FnExactKeepsProportion_1 [0, 3, 5]) (.seq (.reg r_w_FnExactKeepsProportion_2 [0, 3, 5]) (.seq (.seq (.reg r_w_FnExactKeepsProportion_3 [0, 3, 15]) (.cond (.t 15) (.seq (.reg r_w_FnExactKeepsProportion_4 [4]) .ret) .skip)) (.seq (.regD r_w_FnExactKeepsProportion_5 p_w_FnExactKeepsProportion_5 [0, 3, 6, 7]) (.seq (.reg r_w_FnExactKeepsProportion_6 [0, 3, 6, 7, 8]) (.seq (.reg r_w_FnExactKeepsProportion_7 [0, 6, 7, 8, 9, 10]) (.seq (.seq (.reg r_w_FnExactKeepsProportion_8 [0, 8, 40]) (.cond (.t 40) (.seq (.reg r_w_FnExactKeepsProportion_9 [4]) .ret) .skip)) (.seq (.seq (.reg r_w_FnExactKeepsProportion_10 [45]) (.cond (.t 45) (.seq (.reg r_w_FnExactKeepsProportion_11 [4]) .ret) .skip)) (.seq (.reg r_w_FnExactKeepsProportion_12 [4]) .ret))))))))))
def k_w_FnExactKeepsProportion : Nat → List Nat
  | 0 => [0, 3]
  | 1 => [0, 3, 5]
  | 2 => [0, 3, 5]
  | 3 => [0, 3, 15]
  | 4 => [4]
  | 5 => [0, 3, 6, 7]
  | 6 => [0, 3, 6, 7, 8]
  | 7 => [0, 6, 7, 8, 9, 10]
  | 8 => [0, 8, 40]
  | 9 => [4]
  | 10 => [45]
  | 11 => [4]
  | 12 => [4]
  | _ => []
theorem fn_w_FnExactKeepsProportion : FnC Try.prog n_w_FnExactKeepsProportion c_w_FnExactKeepsProportion [(.tmp 4)] 46 :=
  ⟨Try.f10, _, k_w_FnExactKeepsProportion, Try.func10, rfl, by kernel_rfl, by kernel_rfl, by kernel_rfl, rfl⟩
end Go.Proofs.Ytaieoaahmmcnmaa
