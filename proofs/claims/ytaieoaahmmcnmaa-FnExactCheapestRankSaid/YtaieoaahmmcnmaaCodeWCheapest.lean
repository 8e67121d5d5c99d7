/- The compact code of the functions, and that it is theirs: written by a program of this claim. -/
import Derived.Test.YtaieoaahmmcnmaaNums
namespace Go.Proofs.Ytaieoaahmmcnmaa
open Go.Abs
set_option maxRecDepth 100000
def r_w_FnExactCheapestRank_0 : List CO := [⟨none, (some 1), (.box 4 (.t 0))⟩, ⟨none, (some 2), (.mv (.k (.v (.bool false))))⟩]
def r_w_FnExactCheapestRank_1 : List CO := [⟨none, (some 3), (.mv (.k (.v (.int .i64 (1048576)))))⟩]
def r_w_FnExactCheapestRank_2 : List CO := [⟨none, (some 9), (.ld true 4 (.t 1))⟩, ⟨none, (some 10), (.mv (.t 3))⟩, ⟨none, (some 11), (.call n_w_szTariff [(.t 9), (.t 10)])⟩, ⟨none, (some 3), (.mv (.t 11))⟩]
def r_w_FnExactCheapestRank_3 : List CO := [⟨none, (some 12), (.mv (.t 3))⟩, ⟨none, (some 13), (.bin .lss .none (.t 12) (.k (.v (.int .i64 (0)))))⟩]
def r_w_FnExactCheapestRank_4 : List CO := [⟨none, (some 2), (.mv (.k (.v (.bool true))))⟩]
def r_w_FnExactCheapestRank_5 : List CO := [⟨none, (some 15), (.ld true 4 (.t 1))⟩, ⟨none, (some 16), (.call n_w_toTariff [(.t 15)])⟩, ⟨none, (some 17), (.call n_s_CheapestRank [(.t 16)])⟩, ⟨none, (some 14), (.mv (.t 17))⟩, ⟨none, (some 18), (.ext (.t 14) 0)⟩, ⟨none, (some 19), (.ext (.t 14) 1)⟩, ⟨none, (some 4), (.mv (.t 18))⟩, ⟨none, (some 5), (.mv (.t 19))⟩]
def r_w_FnExactCheapestRank_6 : List CO := [⟨none, (some 20), (.ld true 4 (.t 1))⟩, ⟨none, (some 21), (.call n_w_toTariff [(.t 20)])⟩, ⟨none, (some 6), (.box 4 (.k (.agg [(.v (.slice none 0 0)), (.v (.int .i64 (0))), (.v (.int .i64 (0))), (.v (.int .i64 (0)))])))⟩, ⟨none, none, (.st 4 (.t 6) (.t 21))⟩]
def r_w_FnExactCheapestRank_7 : List CO := [⟨none, (some 23), (.ld true 4 (.t 6))⟩, ⟨none, (some 24), (.call n_i_CheapestRank [(.t 23)])⟩, ⟨none, (some 22), (.mv (.t 24))⟩, ⟨none, (some 25), (.ext (.t 22) 0)⟩, ⟨none, (some 26), (.ext (.t 22) 1)⟩, ⟨none, (some 7), (.mv (.t 25))⟩, ⟨none, (some 8), (.mv (.t 26))⟩]
def r_w_FnExactCheapestRank_8 : List CO := [⟨none, (some 27), (.mv (.t 7))⟩, ⟨none, (some 28), (.mv (.t 4))⟩, ⟨none, (some 29), (.bin .neq .none (.t 27) (.t 28))⟩, ⟨none, (some 30), (.mv (.t 29))⟩, ⟨(some (30, false)), (some 31), (.mv (.t 8))⟩, ⟨(some (30, false)), (some 32), (.mv (.t 5))⟩, ⟨(some (30, false)), (some 33), (.bin .neq .bool (.t 31) (.t 32))⟩, ⟨none, (some 34), (.pick (.t 30) (.k (.v (.bool true))) (.t 33))⟩]
def r_w_FnExactCheapestRank_9 : List CO := [⟨none, (some 2), (.mv (.k (.v (.bool false))))⟩]
def r_w_FnExactCheapestRank_10 : List CO := [⟨none, (some 35), (.ld true 4 (.t 6))⟩, ⟨none, (some 36), (.ld true 4 (.t 1))⟩, ⟨none, (some 37), (.call n_w_toTariff [(.t 36)])⟩, ⟨none, (some 38), (.call n_w_eqTariff [(.t 35), (.t 37)])⟩, ⟨none, (some 39), (.un .not (.t 38))⟩]
def p_w_FnExactCheapestRank_10 : List (List Nat) := [[], [], [1], [0, 1, 2], [0, 1, 2, 3]]
def r_w_FnExactCheapestRank_11 : List CO := [⟨none, (some 2), (.mv (.k (.v (.bool false))))⟩]
def r_w_FnExactCheapestRank_12 : List CO := [⟨none, (some 2), (.mv (.k (.v (.bool true))))⟩]
/-- loop.example/g00884/laws.FnExactCheapestRank -/
def c_w_FnExactCheapestRank : C := (.seq (.reg r_w_FnExactCheapestRank_0 [1]) (.seq (.reg r_w_FnExactCheapestRank_1 [1, 3]) (.seq (.reg r_w_FnExactCheapestRank_2 [1, 3]) (.seq (.seq (.reg r_w_FnExactCheapestRank_3 [1, 13]) (.cond (.t 13) (.seq (.reg r_w_FnExactCheapestRank_4 [2]) .ret) .skip)) (.seq (.reg r_w_FnExactCheapestRank_5 [1, 4, 5]) (.seq (.reg r_w_FnExactCheapestRank_6 [1, 4, 5, 6]) (.seq (.reg r_w_FnExactCheapestRank_7 [1, 4, 5, 6, 7, 8]) (.seq (.seq (.reg r_w_FnExactCheapestRank_8 [1, 6, 34]) (.cond (.t 34) (.seq (.reg r_w_FnExactCheapestRank_9 [2]) .ret) .skip)) (.seq (.seq (.regD r_w_FnExactCheapestRank_10 p_w_FnExactCheapestRank_10 [39]) (.cond (.t 39) (.seq (.reg r_w_FnExactCheapestRank_11 [2]) .ret) .skip)) (.seq (.reg r_w_FnExactCheapestRank_12 [2]) .ret))))))))))
def k_w_FnExactCheapestRank : Nat → List Nat
  | 0 => [1]
  | 1 => [1, 3]
  | 2 => [1, 3]
  | 3 => [1, 13]
  | 4 => [2]
  | 5 => [1, 4, 5]
  | 6 => [1, 4, 5, 6]
  | 7 => [1, 4, 5, 6, 7, 8]
  | 8 => [1, 6, 34]
  | 9 => [2]
  | 10 => [39]
  | 11 => [2]
  | 12 => [2]
  | _ => []
theorem fn_w_FnExactCheapestRank : FnC Try.prog n_w_FnExactCheapestRank c_w_FnExactCheapestRank [(.tmp 2)] 40 :=
  ⟨Try.f9, _, k_w_FnExactCheapestRank, Try.func9, rfl, by kernel_rfl, by kernel_rfl, by kernel_rfl, rfl⟩
end Go.Proofs.Ytaieoaahmmcnmaa
