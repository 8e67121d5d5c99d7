/- The compact code of the functions, and that it is theirs: written by a program of this claim. -/
import Derived.Test.YtaieoaahmmcnmaaNums
namespace Go.Proofs.Ytaieoaahmmcnmaa
open Go.Abs
set_option maxRecDepth 100000
def r_w_FnExactBannerSizes_0 : List CO := [⟨none, (some 1), (.box 2 (.t 0))⟩, ⟨none, (some 2), (.mv (.k (.v (.bool false))))⟩]
def r_w_FnExactBannerSizes_1 : List CO := [⟨none, (some 12), (.ld true 2 (.t 1))⟩, ⟨none, (some 13), (.call n_w_toProportion [(.t 12)])⟩, ⟨none, (some 14), (.call n_s_BannerSizes [(.t 13)])⟩, ⟨none, (some 11), (.mv (.t 14))⟩, ⟨none, (some 15), (.ext (.t 11) 0)⟩, ⟨none, (some 16), (.ext (.t 11) 1)⟩, ⟨none, (some 3), (.mv (.t 15))⟩, ⟨none, (some 4), (.mv (.t 16))⟩]
def r_w_FnExactBannerSizes_2 : List CO := [⟨none, (some 18), (.ld true 2 (.t 1))⟩, ⟨none, (some 19), (.call n_w_toProportion [(.t 18)])⟩, ⟨none, (some 20), (.call n_i_BannerSizes [(.t 19)])⟩, ⟨none, (some 17), (.mv (.t 20))⟩, ⟨none, (some 21), (.ext (.t 17) 0)⟩, ⟨none, (some 22), (.ext (.t 17) 1)⟩, ⟨none, (some 5), (.mv (.t 21))⟩, ⟨none, (some 6), (.mv (.t 22))⟩]
def r_w_FnExactBannerSizes_3 : List CO := [⟨none, (some 23), (.mv (.t 5))⟩, ⟨none, (some 24), (.mv (.t 3))⟩, ⟨none, (some 25), (.call n_w_eqIntSS [(.t 23), (.t 24)])⟩, ⟨none, (some 26), (.un .not (.t 25))⟩, ⟨none, (some 27), (.mv (.t 26))⟩, ⟨(some (27, false)), (some 28), (.mv (.t 6))⟩, ⟨(some (27, false)), (some 29), (.mv (.t 4))⟩, ⟨(some (27, false)), (some 30), (.bin .neq .bool (.t 28) (.t 29))⟩, ⟨none, (some 31), (.pick (.t 27) (.k (.v (.bool true))) (.t 30))⟩]
def r_w_FnExactBannerSizes_4 : List CO := [⟨none, (some 2), (.mv (.k (.v (.bool false))))⟩]
def r_w_FnExactBannerSizes_5 : List CO := [⟨none, (some 7), (.mv (.k (.v (.int .i64 (1)))))⟩]
def r_w_FnExactBannerSizes_6 : List CO := [⟨none, (some 32), (.mv (.t 5))⟩, ⟨none, (some 33), (.mv (.t 7))⟩, ⟨none, (some 34), (.call n_w_markIntSS [(.t 32), (.t 33)])⟩, ⟨none, (some 7), (.mv (.t 34))⟩]
def r_w_FnExactBannerSizes_7 : List CO := [⟨none, (some 8), (.mv (.k (.v (.int .i64 (1)))))⟩]
def r_w_FnExactBannerSizes_8 : List CO := [⟨none, (some 35), (.mv (.t 5))⟩, ⟨none, (some 36), (.mv (.t 8))⟩, ⟨none, (some 37), (.call n_w_heldIntSS [(.t 35), (.t 36)])⟩, ⟨none, (some 8), (.mv (.t 37))⟩]
def r_w_FnExactBannerSizes_9 : List CO := [⟨none, (some 38), (.mv (.t 8))⟩, ⟨none, (some 39), (.bin .lss .none (.t 38) (.k (.v (.int .i64 (0)))))⟩]
def r_w_FnExactBannerSizes_10 : List CO := [⟨none, (some 2), (.mv (.k (.v (.bool false))))⟩]
def r_w_FnExactBannerSizes_11 : List CO := [⟨none, (some 40), (.mv (.t 8))⟩, ⟨none, (some 41), (.mv (.t 7))⟩, ⟨none, (some 42), (.bin .neq .none (.t 40) (.t 41))⟩]
def r_w_FnExactBannerSizes_12 : List CO := [⟨none, (some 2), (.mv (.k (.v (.bool false))))⟩]
def r_w_FnExactBannerSizes_13 : List CO := [⟨none, (some 44), (.ld true 2 (.t 1))⟩, ⟨none, (some 45), (.call n_w_toProportion [(.t 44)])⟩, ⟨none, (some 46), (.call n_i_BannerSizes [(.t 45)])⟩, ⟨none, (some 43), (.mv (.t 46))⟩, ⟨none, (some 47), (.ext (.t 43) 0)⟩, ⟨none, (some 48), (.ext (.t 43) 1)⟩, ⟨none, (some 9), (.mv (.t 47))⟩, ⟨none, (some 10), (.mv (.t 48))⟩]
def r_w_FnExactBannerSizes_14 : List CO := [⟨none, (some 49), (.mv (.t 9))⟩, ⟨none, (some 50), (.mv (.t 3))⟩, ⟨none, (some 51), (.call n_w_eqIntSS [(.t 49), (.t 50)])⟩, ⟨none, (some 52), (.un .not (.t 51))⟩, ⟨none, (some 53), (.mv (.t 52))⟩, ⟨(some (53, false)), (some 54), (.mv (.t 10))⟩, ⟨(some (53, false)), (some 55), (.mv (.t 4))⟩, ⟨(some (53, false)), (some 56), (.bin .neq .bool (.t 54) (.t 55))⟩, ⟨none, (some 57), (.pick (.t 53) (.k (.v (.bool true))) (.t 56))⟩]
def r_w_FnExactBannerSizes_15 : List CO := [⟨none, (some 2), (.mv (.k (.v (.bool false))))⟩]
def r_w_FnExactBannerSizes_16 : List CO := [⟨none, (some 8), (.mv (.k (.v (.int .i64 (1)))))⟩]
def r_w_FnExactBannerSizes_17 : List CO := [⟨none, (some 58), (.mv (.t 5))⟩, ⟨none, (some 59), (.mv (.t 8))⟩, ⟨none, (some 60), (.call n_w_heldIntSS [(.t 58), (.t 59)])⟩, ⟨none, (some 8), (.mv (.t 60))⟩]
def r_w_FnExactBannerSizes_18 : List CO := [⟨none, (some 61), (.mv (.t 8))⟩, ⟨none, (some 62), (.bin .lss .none (.t 61) (.k (.v (.int .i64 (0)))))⟩]
def r_w_FnExactBannerSizes_19 : List CO := [⟨none, (some 2), (.mv (.k (.v (.bool false))))⟩]
def r_w_FnExactBannerSizes_20 : List CO := [⟨none, (some 63), (.mv (.t 8))⟩, ⟨none, (some 64), (.mv (.t 7))⟩, ⟨none, (some 65), (.bin .neq .none (.t 63) (.t 64))⟩]
def r_w_FnExactBannerSizes_21 : List CO := [⟨none, (some 2), (.mv (.k (.v (.bool false))))⟩]
def r_w_FnExactBannerSizes_22 : List CO := [⟨none, (some 2), (.mv (.k (.v (.bool true))))⟩]
/-- loop.example/g00884/laws.FnExactBannerSizes -/
def c_w_FnExactBannerSizes : C := (.seq (.reg r_w_FnExactBannerSizes_0 [1]) (.seq (.reg r_w_FnExactBannerSizes_1 [1, 3, 4]) (.seq (.reg r_w_FnExactBannerSizes_2 [1, 3, 4, 5, 6]) (.seq (.seq (.reg r_w_FnExactBannerSizes_3 [1, 3, 4, 5, 31]) (.cond (.t 31) (.seq (.reg r_w_FnExactBannerSizes_4 [2]) .ret) .skip)) (.seq (.reg r_w_FnExactBannerSizes_5 [1, 3, 4, 5, 7]) (.seq (.reg r_w_FnExactBannerSizes_6 [1, 3, 4, 5, 7]) (.seq (.reg r_w_FnExactBannerSizes_7 [1, 3, 4, 5, 7, 8]) (.seq (.reg r_w_FnExactBannerSizes_8 [1, 3, 4, 5, 7, 8]) (.seq (.seq (.reg r_w_FnExactBannerSizes_9 [1, 3, 4, 5, 7, 8, 39]) (.cond (.t 39) (.seq (.reg r_w_FnExactBannerSizes_10 [2]) .ret) .skip)) (.seq (.seq (.reg r_w_FnExactBannerSizes_11 [1, 3, 4, 5, 7, 42]) (.cond (.t 42) (.seq (.reg r_w_FnExactBannerSizes_12 [2]) .ret) .skip)) (.seq (.reg r_w_FnExactBannerSizes_13 [3, 4, 5, 7, 9, 10]) (.seq (.seq (.reg r_w_FnExactBannerSizes_14 [5, 7, 57]) (.cond (.t 57) (.seq (.reg r_w_FnExactBannerSizes_15 [2]) .ret) .skip)) (.seq (.reg r_w_FnExactBannerSizes_16 [5, 7, 8]) (.seq (.reg r_w_FnExactBannerSizes_17 [7, 8]) (.seq (.seq (.reg r_w_FnExactBannerSizes_18 [7, 8, 62]) (.cond (.t 62) (.seq (.reg r_w_FnExactBannerSizes_19 [2]) .ret) .skip)) (.seq (.seq (.reg r_w_FnExactBannerSizes_20 [65]) (.cond (.t 65) (.seq (.reg r_w_FnExactBannerSizes_21 [2]) .ret) .skip)) (.seq (.reg r_w_FnExactBannerSizes_22 [2]) .ret)))))))))))))))))
def k_w_FnExactBannerSizes : Nat → List Nat
  | 0 => [1]
  | 1 => [1, 3, 4]
  | 2 => [1, 3, 4, 5, 6]
  | 3 => [1, 3, 4, 5, 31]
  | 4 => [2]
  | 5 => [1, 3, 4, 5, 7]
  | 6 => [1, 3, 4, 5, 7]
  | 7 => [1, 3, 4, 5, 7, 8]
  | 8 => [1, 3, 4, 5, 7, 8]
  | 9 => [1, 3, 4, 5, 7, 8, 39]
  | 10 => [2]
  | 11 => [1, 3, 4, 5, 7, 42]
  | 12 => [2]
  | 13 => [3, 4, 5, 7, 9, 10]
  | 14 => [5, 7, 57]
  | 15 => [2]
  | 16 => [5, 7, 8]
  | 17 => [7, 8]
  | 18 => [7, 8, 62]
  | 19 => [2]
  | 20 => [65]
  | 21 => [2]
  | 22 => [2]
  | _ => []
theorem fn_w_FnExactBannerSizes : FnC Try.prog n_w_FnExactBannerSizes c_w_FnExactBannerSizes [(.tmp 2)] 66 :=
  ⟨Try.f8, _, k_w_FnExactBannerSizes, Try.func8, rfl, by kernel_rfl, by kernel_rfl, by kernel_rfl, rfl⟩
end Go.Proofs.Ytaieoaahmmcnmaa
