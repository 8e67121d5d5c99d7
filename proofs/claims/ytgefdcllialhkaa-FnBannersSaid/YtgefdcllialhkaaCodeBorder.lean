/- The compact code of the functions, and that it is theirs: written by a program of this claim. -/
import Derived.Test.YtgefdcllialhkaaNums
namespace Go.Proofs.Ytgefdcllialhkaa
open Go.Abs
set_option maxRecDepth 100000
def r_s_l1Least_0 : List CO := [⟨none, (some 4), (.mv (.k (.v (.int .i64 (0)))))⟩]
def r_s_l1Least_1 : List CO := [⟨none, (some 5), (.mv (.t 0))⟩, ⟨none, (some 6), (.mv (.t 1))⟩, ⟨none, (some 7), (.bin .lss .none (.t 5) (.t 6))⟩]
def r_s_l1Least_2 : List CO := [⟨none, (some 8), (.mv (.t 0))⟩, ⟨none, (some 4), (.mv (.t 8))⟩]
def r_s_l1Least_3 : List CO := [⟨none, (some 9), (.mv (.t 1))⟩, ⟨none, (some 4), (.mv (.t 9))⟩]
/-- loop.example/g00884/spec.l1Least -/
def c_s_l1Least : C := (.seq (.reg r_s_l1Least_0 [0, 1]) (.seq (.seq (.reg r_s_l1Least_1 [0, 1, 7]) (.cond (.t 7) (.seq (.reg r_s_l1Least_2 [4]) .ret) .skip)) (.seq (.reg r_s_l1Least_3 [4]) .ret)))
def k_s_l1Least : Nat → List Nat
  | 0 => [0, 1]
  | 1 => [0, 1, 7]
  | 2 => [4]
  | 3 => [4]
  | _ => []
theorem fn_s_l1Least : FnC Try.prog n_s_l1Least c_s_l1Least [(.tmp 4)] 10 :=
  ⟨Try.f71, _, k_s_l1Least, Try.func71, rfl, by kernel_rfl, by kernel_rfl, by kernel_rfl, rfl⟩
def r_i_BorderBanner_1_0 : List CO := [⟨none, (some 9), (.mv (.k (.v (.int .i64 (0)))))⟩]
def r_i_BorderBanner_1_1 : List CO := [⟨none, (some 10), (.mv (.t 0))⟩, ⟨none, (some 11), (.mv (.t 1))⟩, ⟨none, (some 12), (.ld false 1 (.t 2))⟩, ⟨none, (some 13), (.bin .sub .none (.t 12) (.k (.v (.int .i64 (1)))))⟩, ⟨none, (some 14), (.mv (.t 0))⟩, ⟨none, (some 15), (.bin .sub .none (.t 13) (.t 14))⟩, ⟨none, (some 16), (.ld false 1 (.t 3))⟩, ⟨none, (some 17), (.bin .sub .none (.t 16) (.k (.v (.int .i64 (1)))))⟩, ⟨none, (some 18), (.mv (.t 1))⟩, ⟨none, (some 19), (.bin .sub .none (.t 17) (.t 18))⟩, ⟨none, (some 20), (.mm false [(.t 10), (.t 11), (.t 15), (.t 19)])⟩, ⟨none, (some 21), (.ld false 1 (.t 4))⟩, ⟨none, (some 22), (.bin .lss .none (.t 20) (.t 21))⟩]
def r_i_BorderBanner_1_2 : List CO := [⟨none, (some 23), (.ld false 1 (.t 5))⟩, ⟨none, (some 9), (.mv (.t 23))⟩]
def r_i_BorderBanner_1_3 : List CO := [⟨none, (some 24), (.ld false 1 (.t 6))⟩, ⟨none, (some 25), (.mv (.t 1))⟩, ⟨none, (some 26), (.iaddr 1 (.t 24) (.t 25))⟩, ⟨none, (some 27), (.ld false 1 (.t 26))⟩, ⟨none, (some 28), (.mv (.t 0))⟩, ⟨none, (some 29), (.iaddr 1 (.t 27) (.t 28))⟩, ⟨none, (some 30), (.ld false 1 (.t 29))⟩, ⟨none, (some 9), (.mv (.t 30))⟩]
/-- loop.example/g00884/impl.BorderBanner$1 -/
def c_i_BorderBanner_1 : C := (.seq (.reg r_i_BorderBanner_1_0 [0, 1, 2, 3, 4, 5, 6]) (.seq (.seq (.reg r_i_BorderBanner_1_1 [0, 1, 5, 6, 22]) (.cond (.t 22) (.seq (.reg r_i_BorderBanner_1_2 [9]) .ret) .skip)) (.seq (.reg r_i_BorderBanner_1_3 [9]) .ret)))
def k_i_BorderBanner_1 : Nat → List Nat
  | 0 => [0, 1, 2, 3, 4, 5, 6]
  | 1 => [0, 1, 5, 6, 22]
  | 2 => [9]
  | 3 => [9]
  | _ => []
theorem fn_i_BorderBanner_1 : FnC Try.prog n_i_BorderBanner_1 c_i_BorderBanner_1 [(.tmp 9)] 31 :=
  ⟨Try.f67, _, k_i_BorderBanner_1, Try.func67, rfl, by kernel_rfl, by kernel_rfl, by kernel_rfl, rfl⟩
def r_i_BorderBanner_0 : List CO := [⟨none, (some 3), (.box 1 (.t 0))⟩, ⟨none, (some 4), (.box 1 (.t 1))⟩, ⟨none, (some 5), (.box 1 (.t 2))⟩, ⟨none, (some 6), (.mv (.k (.v (.slice none 0 0))))⟩, ⟨none, (some 7), (.mv (.k (.v (.bool false))))⟩]
def r_i_BorderBanner_1 : List CO := [⟨none, (some 10), (.ld false 1 (.t 3))⟩, ⟨none, (some 11), (.call n_i_IsValidBanner [(.t 10)])⟩, ⟨none, (some 12), (.un .not (.t 11))⟩, ⟨none, (some 13), (.mv (.t 12))⟩, ⟨(some (13, false)), (some 14), (.ld false 1 (.t 4))⟩, ⟨(some (13, false)), (some 15), (.call n_i_IsTincture [(.t 14)])⟩, ⟨(some (13, false)), (some 16), (.un .not (.t 15))⟩, ⟨none, (some 17), (.pick (.t 13) (.k (.v (.bool true))) (.t 16))⟩, ⟨none, (some 18), (.mv (.t 17))⟩, ⟨(some (18, false)), (some 19), (.ld false 1 (.t 5))⟩, ⟨(some (18, false)), (some 20), (.call n_i_inside [(.t 19), (.k (.v (.int .i64 (0)))), (.k (.v (.int .i64 (60))))])⟩, ⟨(some (18, false)), (some 21), (.un .not (.t 20))⟩, ⟨none, (some 22), (.pick (.t 18) (.k (.v (.bool true))) (.t 21))⟩]
def r_i_BorderBanner_2 : List CO := [⟨none, (some 6), (.mv (.k (.v (.slice none 0 0))))⟩, ⟨none, (some 7), (.mv (.k (.v (.bool false))))⟩]
def r_i_BorderBanner_3 : List CO := [⟨none, (some 23), (.ld false 1 (.t 3))⟩, ⟨none, (some 24), (.len false (.t 23))⟩, ⟨none, (some 25), (.ld false 1 (.t 3))⟩, ⟨none, (some 26), (.iaddr 1 (.t 25) (.k (.v (.int .i64 (0)))))⟩, ⟨none, (some 27), (.ld false 1 (.t 26))⟩, ⟨none, (some 28), (.len false (.t 27))⟩, ⟨none, (some 8), (.box 1 (.k (.v (.int .i64 (0)))))⟩, ⟨none, (some 9), (.box 1 (.k (.v (.int .i64 (0)))))⟩, ⟨none, none, (.st 1 (.t 8) (.t 24))⟩, ⟨none, none, (.st 1 (.t 9) (.t 28))⟩]
def p_i_BorderBanner_3 : List (List Nat) := [[], [0], [], [2], [2, 3], [2, 3, 4], [], [], [0, 1, 6, 7], [0, 1, 2, 3, 4, 5, 6, 7, 8]]
def r_i_BorderBanner_4 : List CO := [⟨none, (some 29), (.ld false 1 (.t 8))⟩, ⟨none, (some 30), (.ld false 1 (.t 9))⟩, ⟨none, (some 31), (.clo n_i_BorderBanner_1 [(.t 9), (.t 8), (.t 5), (.t 4), (.t 3)])⟩, ⟨none, (some 32), (.call n_i_table [(.t 29), (.t 30), (.t 31)])⟩, ⟨none, (some 6), (.mv (.t 32))⟩, ⟨none, (some 7), (.mv (.k (.v (.bool true))))⟩]
/-- loop.example/g00884/impl.BorderBanner -/
def c_i_BorderBanner : C := (.seq (.reg r_i_BorderBanner_0 [3, 4, 5]) (.seq (.seq (.reg r_i_BorderBanner_1 [3, 4, 5, 22]) (.cond (.t 22) (.seq (.reg r_i_BorderBanner_2 [6, 7]) .ret) .skip)) (.seq (.regD r_i_BorderBanner_3 p_i_BorderBanner_3 [3, 4, 5, 8, 9]) (.seq (.reg r_i_BorderBanner_4 [6, 7]) .ret))))
def k_i_BorderBanner : Nat → List Nat
  | 0 => [3, 4, 5]
  | 1 => [3, 4, 5, 22]
  | 2 => [6, 7]
  | 3 => [3, 4, 5, 8, 9]
  | 4 => [6, 7]
  | _ => []
theorem fn_i_BorderBanner : FnC Try.prog n_i_BorderBanner c_i_BorderBanner [(.tmp 6), (.tmp 7)] 33 :=
  ⟨Try.f12, _, k_i_BorderBanner, Try.func12, rfl, by kernel_rfl, by kernel_rfl, by kernel_rfl, rfl⟩
def r_s_BorderBanner_0 : List CO := [⟨none, (some 6), (.mv (.k (.v (.slice none 0 0))))⟩, ⟨none, (some 7), (.mv (.k (.v (.bool false))))⟩]
def r_s_BorderBanner_1 : List CO := [⟨none, (some 15), (.bslice 1 (.v (.slice none 0 0)) 0 [])⟩, ⟨none, (some 8), (.mv (.t 15))⟩]
def r_s_BorderBanner_2 : List CO := [⟨none, (some 16), (.mv (.t 0))⟩, ⟨none, (some 17), (.call n_s_l24Good [(.t 16)])⟩, ⟨none, (some 18), (.un .not (.t 17))⟩, ⟨none, (some 19), (.mv (.t 18))⟩, ⟨(some (19, false)), (some 20), (.mv (.t 1))⟩, ⟨(some (19, false)), (some 21), (.call n_s_l2Good [(.t 20)])⟩, ⟨(some (19, false)), (some 22), (.un .not (.t 21))⟩, ⟨none, (some 23), (.pick (.t 19) (.k (.v (.bool true))) (.t 22))⟩, ⟨none, (some 24), (.mv (.t 23))⟩, ⟨(some (24, false)), (some 25), (.mv (.t 2))⟩, ⟨(some (24, false)), (some 26), (.call n_s_l1In [(.t 25), (.k (.v (.int .i64 (0)))), (.k (.v (.int .i64 (60))))])⟩, ⟨(some (24, false)), (some 27), (.un .not (.t 26))⟩, ⟨none, (some 28), (.pick (.t 24) (.k (.v (.bool true))) (.t 27))⟩]
def r_s_BorderBanner_3 : List CO := [⟨none, (some 29), (.mv (.t 8))⟩, ⟨none, (some 6), (.mv (.t 29))⟩, ⟨none, (some 7), (.mv (.k (.v (.bool false))))⟩]
def r_s_BorderBanner_4 : List CO := [⟨none, (some 30), (.mv (.t 0))⟩, ⟨none, (some 31), (.len false (.t 30))⟩, ⟨none, (some 32), (.mv (.t 0))⟩, ⟨none, (some 33), (.iaddr 1 (.t 32) (.k (.v (.int .i64 (0)))))⟩, ⟨none, (some 34), (.ld false 1 (.t 33))⟩, ⟨none, (some 35), (.len false (.t 34))⟩, ⟨none, (some 9), (.mv (.t 31))⟩, ⟨none, (some 10), (.mv (.t 35))⟩]
def p_s_BorderBanner_4 : List (List Nat) := [[], [0], [], [2], [2, 3], [2, 3, 4], [0, 1], [0, 1, 2, 3, 4, 5, 6]]
def r_s_BorderBanner_5 : List CO := [⟨none, (some 11), (.mv (.k (.v (.int .i64 (0)))))⟩]
def r_s_BorderBanner_6 : List CO := [⟨none, (some 36), (.mv (.t 11))⟩, ⟨none, (some 37), (.mv (.t 9))⟩, ⟨none, (some 38), (.bin .lss .none (.t 36) (.t 37))⟩]
def r_s_BorderBanner_7 : List CO := [⟨none, (some 41), (.bslice 1 (.v (.int .i64 (0))) 0 [])⟩, ⟨none, (some 12), (.mv (.t 41))⟩]
def r_s_BorderBanner_8 : List CO := [⟨none, (some 13), (.mv (.k (.v (.int .i64 (0)))))⟩]
def r_s_BorderBanner_9 : List CO := [⟨none, (some 42), (.mv (.t 13))⟩, ⟨none, (some 43), (.mv (.t 10))⟩, ⟨none, (some 44), (.bin .lss .none (.t 42) (.t 43))⟩]
def r_s_BorderBanner_10 : List CO := [⟨none, (some 47), (.mv (.t 13))⟩, ⟨none, (some 48), (.mv (.t 10))⟩, ⟨none, (some 49), (.bin .sub .none (.t 48) (.k (.v (.int .i64 (1)))))⟩, ⟨none, (some 50), (.mv (.t 13))⟩, ⟨none, (some 51), (.bin .sub .none (.t 49) (.t 50))⟩, ⟨none, (some 52), (.call n_s_l1Least [(.t 47), (.t 51)])⟩, ⟨none, (some 53), (.mv (.t 11))⟩, ⟨none, (some 54), (.mv (.t 9))⟩, ⟨none, (some 55), (.bin .sub .none (.t 54) (.k (.v (.int .i64 (1)))))⟩, ⟨none, (some 56), (.mv (.t 11))⟩, ⟨none, (some 57), (.bin .sub .none (.t 55) (.t 56))⟩, ⟨none, (some 58), (.call n_s_l1Least [(.t 53), (.t 57)])⟩, ⟨none, (some 59), (.call n_s_l1Least [(.t 52), (.t 58)])⟩, ⟨none, (some 14), (.mv (.t 59))⟩]
def r_s_BorderBanner_11 : List CO := [⟨none, (some 60), (.mv (.t 14))⟩, ⟨none, (some 61), (.mv (.t 2))⟩, ⟨none, (some 62), (.bin .lss .none (.t 60) (.t 61))⟩]
def r_s_BorderBanner_12 : List CO := [⟨none, (some 63), (.mv (.t 12))⟩, ⟨none, (some 64), (.mv (.t 1))⟩, ⟨none, (some 65), (.bslice 1 (.v (.int .i64 (0))) 1 [(0, (.t 64))])⟩, ⟨none, (some 66), (.app 1 8 (.t 63) (.t 65))⟩, ⟨none, (some 12), (.mv (.t 66))⟩]
def r_s_BorderBanner_13 : List CO := [⟨none, (some 67), (.mv (.t 12))⟩, ⟨none, (some 68), (.mv (.t 0))⟩, ⟨none, (some 69), (.mv (.t 11))⟩, ⟨none, (some 70), (.iaddr 1 (.t 68) (.t 69))⟩, ⟨none, (some 71), (.ld false 1 (.t 70))⟩, ⟨none, (some 72), (.mv (.t 13))⟩, ⟨none, (some 73), (.iaddr 1 (.t 71) (.t 72))⟩, ⟨none, (some 74), (.ld false 1 (.t 73))⟩, ⟨none, (some 75), (.bslice 1 (.v (.int .i64 (0))) 1 [(0, (.t 74))])⟩, ⟨none, (some 76), (.app 1 8 (.t 67) (.t 75))⟩, ⟨none, (some 12), (.mv (.t 76))⟩]
def r_s_BorderBanner_14 : List CO := [⟨none, (some 45), (.mv (.t 13))⟩, ⟨none, (some 46), (.bin .add .none (.t 45) (.k (.v (.int .i64 (1)))))⟩, ⟨none, (some 13), (.mv (.t 46))⟩]
def l_s_BorderBanner_15 : C := (.seq (.seq (.reg r_s_BorderBanner_9 [0, 1, 2, 8, 9, 10, 11, 12, 13, 44]) (.cond (.t 44) .skip (.exit 2))) (.seq (.block 3 (.seq (.reg r_s_BorderBanner_10 [0, 1, 2, 8, 9, 10, 11, 12, 13, 14]) (.seq (.reg r_s_BorderBanner_11 [0, 1, 2, 8, 9, 10, 11, 12, 13, 62]) (.cond (.t 62) (.reg r_s_BorderBanner_12 [0, 1, 2, 8, 9, 10, 11, 12, 13]) (.reg r_s_BorderBanner_13 [0, 1, 2, 8, 9, 10, 11, 12, 13]))))) (.reg r_s_BorderBanner_14 [0, 1, 2, 8, 9, 10, 11, 12, 13])))
def r_s_BorderBanner_16 : List CO := [⟨none, (some 77), (.mv (.t 8))⟩, ⟨none, (some 78), (.mv (.t 12))⟩, ⟨none, (some 79), (.bslice 1 (.v (.slice none 0 0)) 1 [(0, (.t 78))])⟩, ⟨none, (some 80), (.app 1 24 (.t 77) (.t 79))⟩, ⟨none, (some 8), (.mv (.t 80))⟩]
def r_s_BorderBanner_17 : List CO := [⟨none, (some 39), (.mv (.t 11))⟩, ⟨none, (some 40), (.bin .add .none (.t 39) (.k (.v (.int .i64 (1)))))⟩, ⟨none, (some 11), (.mv (.t 40))⟩]
def l_s_BorderBanner_18 : C := (.seq (.seq (.reg r_s_BorderBanner_6 [0, 1, 2, 8, 9, 10, 11, 38]) (.cond (.t 38) .skip (.exit 0))) (.seq (.block 1 (.seq (.reg r_s_BorderBanner_7 [0, 1, 2, 8, 9, 10, 11, 12]) (.seq (.seq (.reg r_s_BorderBanner_8 [0, 1, 2, 8, 9, 10, 11, 12, 13]) (.block 2 (.loop l_s_BorderBanner_15))) (.reg r_s_BorderBanner_16 [0, 1, 2, 8, 9, 10, 11])))) (.reg r_s_BorderBanner_17 [0, 1, 2, 8, 9, 10, 11])))
def r_s_BorderBanner_19 : List CO := [⟨none, (some 81), (.mv (.t 8))⟩, ⟨none, (some 6), (.mv (.t 81))⟩, ⟨none, (some 7), (.mv (.k (.v (.bool true))))⟩]
/-- loop.example/g00884/spec.BorderBanner -/
def c_s_BorderBanner : C := (.seq (.reg r_s_BorderBanner_0 [0, 1, 2]) (.seq (.reg r_s_BorderBanner_1 [0, 1, 2, 8]) (.seq (.seq (.reg r_s_BorderBanner_2 [0, 1, 2, 8, 28]) (.cond (.t 28) (.seq (.reg r_s_BorderBanner_3 [6, 7]) .ret) .skip)) (.seq (.regD r_s_BorderBanner_4 p_s_BorderBanner_4 [0, 1, 2, 8, 9, 10]) (.seq (.seq (.reg r_s_BorderBanner_5 [0, 1, 2, 8, 9, 10, 11]) (.block 0 (.loop l_s_BorderBanner_18))) (.seq (.reg r_s_BorderBanner_19 [6, 7]) .ret))))))
def k_s_BorderBanner : Nat → List Nat
  | 0 => [0, 1, 2]
  | 1 => [0, 1, 2, 8]
  | 2 => [0, 1, 2, 8, 28]
  | 3 => [6, 7]
  | 4 => [0, 1, 2, 8, 9, 10]
  | 5 => [0, 1, 2, 8, 9, 10, 11]
  | 6 => [0, 1, 2, 8, 9, 10, 11, 38]
  | 8 => [0, 1, 2, 8, 9, 10, 11, 12]
  | 9 => [0, 1, 2, 8, 9, 10, 11, 12, 13]
  | 10 => [0, 1, 2, 8, 9, 10, 11, 12, 13, 44]
  | 12 => [0, 1, 2, 8, 9, 10, 11, 12, 13, 14]
  | 13 => [0, 1, 2, 8, 9, 10, 11, 12, 13, 62]
  | 14 => [0, 1, 2, 8, 9, 10, 11, 12, 13]
  | 15 => [0, 1, 2, 8, 9, 10, 11, 12, 13]
  | 11 => [0, 1, 2, 8, 9, 10, 11, 12, 13]
  | 16 => [0, 1, 2, 8, 9, 10, 11]
  | 7 => [0, 1, 2, 8, 9, 10, 11]
  | 17 => [6, 7]
  | _ => []
theorem fn_s_BorderBanner : FnC Try.prog n_s_BorderBanner c_s_BorderBanner [(.tmp 6), (.tmp 7)] 82 :=
  ⟨Try.f14, _, k_s_BorderBanner, Try.func14, rfl, by kernel_rfl, by kernel_rfl, by kernel_rfl, rfl⟩
end Go.Proofs.Ytgefdcllialhkaa
