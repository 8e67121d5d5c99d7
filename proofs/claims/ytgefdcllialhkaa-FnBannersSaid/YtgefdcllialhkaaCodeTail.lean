/- The compact code of the functions, and that it is theirs: written by a program of this claim. -/
import Derived.Test.YtgefdcllialhkaaNums
namespace Go.Proofs.Ytgefdcllialhkaa
open Go.Abs
set_option maxRecDepth 100000
def r_s_l1Most_0 : List CO := [⟨none, (some 4), (.mv (.k (.v (.int .i64 (0)))))⟩]
def r_s_l1Most_1 : List CO := [⟨none, (some 5), (.mv (.t 0))⟩, ⟨none, (some 6), (.mv (.t 1))⟩, ⟨none, (some 7), (.bin .gtr .none (.t 5) (.t 6))⟩]
def r_s_l1Most_2 : List CO := [⟨none, (some 8), (.mv (.t 0))⟩, ⟨none, (some 4), (.mv (.t 8))⟩]
def r_s_l1Most_3 : List CO := [⟨none, (some 9), (.mv (.t 1))⟩, ⟨none, (some 4), (.mv (.t 9))⟩]
/-- loop.example/g00884/spec.l1Most -/
def c_s_l1Most : C := (.seq (.reg r_s_l1Most_0 [0, 1]) (.seq (.seq (.reg r_s_l1Most_1 [0, 1, 7]) (.cond (.t 7) (.seq (.reg r_s_l1Most_2 [4]) .ret) .skip)) (.seq (.reg r_s_l1Most_3 [4]) .ret)))
def k_s_l1Most : Nat → List Nat
  | 0 => [0, 1]
  | 1 => [0, 1, 7]
  | 2 => [4]
  | 3 => [4]
  | _ => []
theorem fn_s_l1Most : FnC Try.prog n_s_l1Most c_s_l1Most [(.tmp 4)] 10 :=
  ⟨Try.f110, _, k_s_l1Most, Try.func110, rfl, by kernel_rfl, by kernel_rfl, by kernel_rfl, rfl⟩
def r_s_l9Abs_0 : List CO := [⟨none, (some 2), (.mv (.k (.v (.int .i64 (0)))))⟩]
def r_s_l9Abs_1 : List CO := [⟨none, (some 3), (.mv (.t 0))⟩, ⟨none, (some 4), (.mv (.t 0))⟩, ⟨none, (some 5), (.un .neg (.t 4))⟩, ⟨none, (some 6), (.call n_s_l1Most [(.t 3), (.t 5)])⟩, ⟨none, (some 2), (.mv (.t 6))⟩]
/-- loop.example/g00884/spec.l9Abs -/
def c_s_l9Abs : C := (.seq (.reg r_s_l9Abs_0 [0]) (.seq (.reg r_s_l9Abs_1 [2]) .ret))
def k_s_l9Abs : Nat → List Nat
  | 0 => [0]
  | 1 => [2]
  | _ => []
theorem fn_s_l9Abs : FnC Try.prog n_s_l9Abs c_s_l9Abs [(.tmp 2)] 7 :=
  ⟨Try.f65, _, k_s_l9Abs, Try.func65, rfl, by kernel_rfl, by kernel_rfl, by kernel_rfl, rfl⟩
def r_i_TailBanner_1_0 : List CO := [⟨none, (some 8), (.mv (.k (.v (.int .i64 (0)))))⟩]
def r_i_TailBanner_1_1 : List CO := [⟨none, (some 9), (.ld false 1 (.t 2))⟩, ⟨none, (some 10), (.mv (.t 0))⟩, ⟨none, (some 11), (.bin .sub .none (.t 9) (.t 10))⟩, ⟨none, (some 12), (.bin .sub .none (.t 11) (.k (.v (.int .i64 (1)))))⟩, ⟨none, (some 13), (.ld false 1 (.t 3))⟩, ⟨none, (some 14), (.bin .mul .none (.t 12) (.t 13))⟩, ⟨none, (some 15), (.ld false 1 (.t 4))⟩, ⟨none, (some 16), (.ld false 1 (.t 3))⟩, ⟨none, (some 17), (.mv (.t 1))⟩, ⟨none, (some 18), (.bin .mul .none (.k (.v (.int .i64 (2)))) (.t 17))⟩, ⟨none, (some 19), (.bin .add .none (.t 18) (.k (.v (.int .i64 (1)))))⟩, ⟨none, (some 20), (.ld false 1 (.t 3))⟩, ⟨none, (some 21), (.bin .sub .none (.t 19) (.t 20))⟩, ⟨none, (some 22), (.call n_i_absOf [(.t 21)])⟩, ⟨none, (some 23), (.bin .sub .none (.t 16) (.t 22))⟩, ⟨none, (some 24), (.bin .mul .none (.t 15) (.t 23))⟩, ⟨none, (some 25), (.bin .lss .none (.t 14) (.t 24))⟩]
def p_i_TailBanner_1_1 : List (List Nat) := [[], [], [0, 1], [0, 1, 2], [], [0, 1, 2, 3, 4], [], [], [], [8], [8, 9], [], [8, 9, 10, 11], [8, 9, 10, 11, 12], [7, 8, 9, 10, 11, 12, 13], [6, 7, 8, 9, 10, 11, 12, 13, 14], [0, 1, 2, 3, 4, 5, 6, 7, 8, 9, 10, 11, 12, 13, 14, 15]]
def r_i_TailBanner_1_2 : List CO := [⟨none, (some 8), (.mv (.k (.v (.int .i64 (0)))))⟩]
def r_i_TailBanner_1_3 : List CO := [⟨none, (some 26), (.ld false 1 (.t 5))⟩, ⟨none, (some 27), (.mv (.t 1))⟩, ⟨none, (some 28), (.iaddr 1 (.t 26) (.t 27))⟩, ⟨none, (some 29), (.ld false 1 (.t 28))⟩, ⟨none, (some 30), (.mv (.t 0))⟩, ⟨none, (some 31), (.iaddr 1 (.t 29) (.t 30))⟩, ⟨none, (some 32), (.ld false 1 (.t 31))⟩, ⟨none, (some 8), (.mv (.t 32))⟩]
/-- loop.example/g00884/impl.TailBanner$1 -/
def c_i_TailBanner_1 : C := (.seq (.reg r_i_TailBanner_1_0 [0, 1, 2, 3, 4, 5]) (.seq (.seq (.regD r_i_TailBanner_1_1 p_i_TailBanner_1_1 [0, 1, 5, 25]) (.cond (.t 25) (.seq (.reg r_i_TailBanner_1_2 [8]) .ret) .skip)) (.seq (.reg r_i_TailBanner_1_3 [8]) .ret)))
def k_i_TailBanner_1 : Nat → List Nat
  | 0 => [0, 1, 2, 3, 4, 5]
  | 1 => [0, 1, 5, 25]
  | 2 => [8]
  | 3 => [8]
  | _ => []
theorem fn_i_TailBanner_1 : FnC Try.prog n_i_TailBanner_1 c_i_TailBanner_1 [(.tmp 8)] 33 :=
  ⟨Try.f61, _, k_i_TailBanner_1, Try.func61, rfl, by kernel_rfl, by kernel_rfl, by kernel_rfl, rfl⟩
def r_i_TailBanner_0 : List CO := [⟨none, (some 2), (.box 1 (.t 0))⟩, ⟨none, (some 3), (.box 1 (.t 1))⟩, ⟨none, (some 4), (.mv (.k (.v (.slice none 0 0))))⟩, ⟨none, (some 5), (.mv (.k (.v (.bool false))))⟩]
def r_i_TailBanner_1 : List CO := [⟨none, (some 8), (.ld false 1 (.t 2))⟩, ⟨none, (some 9), (.call n_i_IsValidBanner [(.t 8)])⟩, ⟨none, (some 10), (.un .not (.t 9))⟩, ⟨none, (some 11), (.mv (.t 10))⟩, ⟨(some (11, false)), (some 12), (.ld false 1 (.t 3))⟩, ⟨(some (11, false)), (some 13), (.ld false 1 (.t 2))⟩, ⟨(some (11, false)), (some 14), (.iaddr 1 (.t 13) (.k (.v (.int .i64 (0)))))⟩, ⟨(some (11, false)), (some 15), (.ld false 1 (.t 14))⟩, ⟨(some (11, false)), (some 16), (.len false (.t 15))⟩, ⟨(some (11, false)), (some 17), (.call n_i_inside [(.t 12), (.k (.v (.int .i64 (0)))), (.t 16)])⟩, ⟨(some (11, false)), (some 18), (.un .not (.t 17))⟩, ⟨none, (some 19), (.pick (.t 11) (.k (.v (.bool true))) (.t 18))⟩]
def p_i_TailBanner_1 : List (List Nat) := [[], [0], [0, 1], [0, 1, 2], [0, 1, 2, 3], [0, 1, 2, 3], [0, 1, 2, 3, 5], [0, 1, 2, 3, 5, 6], [0, 1, 2, 3, 5, 6, 7], [0, 1, 2, 3, 4, 5, 6, 7, 8], [0, 1, 2, 3, 4, 5, 6, 7, 8, 9], [0, 1, 2, 3, 4, 5, 6, 7, 8, 9, 10]]
def r_i_TailBanner_2 : List CO := [⟨none, (some 4), (.mv (.k (.v (.slice none 0 0))))⟩, ⟨none, (some 5), (.mv (.k (.v (.bool false))))⟩]
def r_i_TailBanner_3 : List CO := [⟨none, (some 20), (.ld false 1 (.t 2))⟩, ⟨none, (some 21), (.len false (.t 20))⟩, ⟨none, (some 22), (.ld false 1 (.t 2))⟩, ⟨none, (some 23), (.iaddr 1 (.t 22) (.k (.v (.int .i64 (0)))))⟩, ⟨none, (some 24), (.ld false 1 (.t 23))⟩, ⟨none, (some 25), (.len false (.t 24))⟩, ⟨none, (some 6), (.box 1 (.k (.v (.int .i64 (0)))))⟩, ⟨none, (some 7), (.box 1 (.k (.v (.int .i64 (0)))))⟩, ⟨none, none, (.st 1 (.t 6) (.t 21))⟩, ⟨none, none, (.st 1 (.t 7) (.t 25))⟩]
def p_i_TailBanner_3 : List (List Nat) := [[], [0], [], [2], [2, 3], [2, 3, 4], [], [], [0, 1, 6, 7], [0, 1, 2, 3, 4, 5, 6, 7, 8]]
def r_i_TailBanner_4 : List CO := [⟨none, (some 26), (.ld false 1 (.t 6))⟩, ⟨none, (some 27), (.ld false 1 (.t 7))⟩, ⟨none, (some 28), (.clo n_i_TailBanner_1 [(.t 7), (.t 6), (.t 3), (.t 2)])⟩, ⟨none, (some 29), (.call n_i_table [(.t 26), (.t 27), (.t 28)])⟩, ⟨none, (some 4), (.mv (.t 29))⟩, ⟨none, (some 5), (.mv (.k (.v (.bool true))))⟩]
/-- loop.example/g00884/impl.TailBanner -/
def c_i_TailBanner : C := (.seq (.reg r_i_TailBanner_0 [2, 3]) (.seq (.seq (.regD r_i_TailBanner_1 p_i_TailBanner_1 [2, 3, 19]) (.cond (.t 19) (.seq (.reg r_i_TailBanner_2 [4, 5]) .ret) .skip)) (.seq (.regD r_i_TailBanner_3 p_i_TailBanner_3 [2, 3, 6, 7]) (.seq (.reg r_i_TailBanner_4 [4, 5]) .ret))))
def k_i_TailBanner : Nat → List Nat
  | 0 => [2, 3]
  | 1 => [2, 3, 19]
  | 2 => [4, 5]
  | 3 => [2, 3, 6, 7]
  | 4 => [4, 5]
  | _ => []
theorem fn_i_TailBanner : FnC Try.prog n_i_TailBanner c_i_TailBanner [(.tmp 4), (.tmp 5)] 30 :=
  ⟨Try.f9, _, k_i_TailBanner, Try.func9, rfl, by kernel_rfl, by kernel_rfl, by kernel_rfl, rfl⟩
def r_s_TailBanner_0 : List CO := [⟨none, (some 4), (.mv (.k (.v (.slice none 0 0))))⟩, ⟨none, (some 5), (.mv (.k (.v (.bool false))))⟩]
def r_s_TailBanner_1 : List CO := [⟨none, (some 12), (.bslice 1 (.v (.slice none 0 0)) 0 [])⟩, ⟨none, (some 6), (.mv (.t 12))⟩]
def r_s_TailBanner_2 : List CO := [⟨none, (some 13), (.mv (.t 0))⟩, ⟨none, (some 14), (.call n_s_l24Good [(.t 13)])⟩, ⟨none, (some 15), (.un .not (.t 14))⟩, ⟨none, (some 16), (.mv (.t 15))⟩, ⟨(some (16, false)), (some 17), (.mv (.t 1))⟩, ⟨(some (16, false)), (some 18), (.mv (.t 0))⟩, ⟨(some (16, false)), (some 19), (.iaddr 1 (.t 18) (.k (.v (.int .i64 (0)))))⟩, ⟨(some (16, false)), (some 20), (.ld false 1 (.t 19))⟩, ⟨(some (16, false)), (some 21), (.len false (.t 20))⟩, ⟨(some (16, false)), (some 22), (.call n_s_l1In [(.t 17), (.k (.v (.int .i64 (0)))), (.t 21)])⟩, ⟨(some (16, false)), (some 23), (.un .not (.t 22))⟩, ⟨none, (some 24), (.pick (.t 16) (.k (.v (.bool true))) (.t 23))⟩]
def r_s_TailBanner_3 : List CO := [⟨none, (some 25), (.mv (.t 6))⟩, ⟨none, (some 4), (.mv (.t 25))⟩, ⟨none, (some 5), (.mv (.k (.v (.bool false))))⟩]
def r_s_TailBanner_4 : List CO := [⟨none, (some 26), (.mv (.t 0))⟩, ⟨none, (some 27), (.len false (.t 26))⟩, ⟨none, (some 28), (.mv (.t 0))⟩, ⟨none, (some 29), (.iaddr 1 (.t 28) (.k (.v (.int .i64 (0)))))⟩, ⟨none, (some 30), (.ld false 1 (.t 29))⟩, ⟨none, (some 31), (.len false (.t 30))⟩, ⟨none, (some 7), (.mv (.t 27))⟩, ⟨none, (some 8), (.mv (.t 31))⟩]
def p_s_TailBanner_4 : List (List Nat) := [[], [0], [], [2], [2, 3], [2, 3, 4], [0, 1], [0, 1, 2, 3, 4, 5, 6]]
def r_s_TailBanner_5 : List CO := [⟨none, (some 9), (.mv (.k (.v (.int .i64 (0)))))⟩]
def r_s_TailBanner_6 : List CO := [⟨none, (some 32), (.mv (.t 9))⟩, ⟨none, (some 33), (.mv (.t 7))⟩, ⟨none, (some 34), (.bin .lss .none (.t 32) (.t 33))⟩]
def r_s_TailBanner_7 : List CO := [⟨none, (some 37), (.bslice 1 (.v (.int .i64 (0))) 0 [])⟩, ⟨none, (some 10), (.mv (.t 37))⟩]
def r_s_TailBanner_8 : List CO := [⟨none, (some 11), (.mv (.k (.v (.int .i64 (0)))))⟩]
def r_s_TailBanner_9 : List CO := [⟨none, (some 38), (.mv (.t 11))⟩, ⟨none, (some 39), (.mv (.t 8))⟩, ⟨none, (some 40), (.bin .lss .none (.t 38) (.t 39))⟩]
def r_s_TailBanner_10 : List CO := [⟨none, (some 43), (.mv (.t 8))⟩, ⟨none, (some 44), (.mv (.t 11))⟩, ⟨none, (some 45), (.bin .sub .none (.t 43) (.t 44))⟩, ⟨none, (some 46), (.bin .sub .none (.t 45) (.k (.v (.int .i64 (1)))))⟩, ⟨none, (some 47), (.mv (.t 7))⟩, ⟨none, (some 48), (.bin .mul .none (.t 46) (.t 47))⟩, ⟨none, (some 49), (.mv (.t 1))⟩, ⟨none, (some 50), (.mv (.t 7))⟩, ⟨none, (some 51), (.mv (.t 9))⟩, ⟨none, (some 52), (.bin .mul .none (.k (.v (.int .i64 (2)))) (.t 51))⟩, ⟨none, (some 53), (.bin .add .none (.t 52) (.k (.v (.int .i64 (1)))))⟩, ⟨none, (some 54), (.mv (.t 7))⟩, ⟨none, (some 55), (.bin .sub .none (.t 53) (.t 54))⟩, ⟨none, (some 56), (.call n_s_l9Abs [(.t 55)])⟩, ⟨none, (some 57), (.bin .sub .none (.t 50) (.t 56))⟩, ⟨none, (some 58), (.bin .mul .none (.t 49) (.t 57))⟩, ⟨none, (some 59), (.bin .lss .none (.t 48) (.t 58))⟩]
def r_s_TailBanner_11 : List CO := [⟨none, (some 60), (.mv (.t 10))⟩, ⟨none, (some 61), (.bslice 1 (.v (.int .i64 (0))) 1 [(0, (.k (.v (.int .i64 (0)))))])⟩, ⟨none, (some 62), (.app 1 8 (.t 60) (.t 61))⟩, ⟨none, (some 10), (.mv (.t 62))⟩]
def r_s_TailBanner_12 : List CO := [⟨none, (some 63), (.mv (.t 10))⟩, ⟨none, (some 64), (.mv (.t 0))⟩, ⟨none, (some 65), (.mv (.t 9))⟩, ⟨none, (some 66), (.iaddr 1 (.t 64) (.t 65))⟩, ⟨none, (some 67), (.ld false 1 (.t 66))⟩, ⟨none, (some 68), (.mv (.t 11))⟩, ⟨none, (some 69), (.iaddr 1 (.t 67) (.t 68))⟩, ⟨none, (some 70), (.ld false 1 (.t 69))⟩, ⟨none, (some 71), (.bslice 1 (.v (.int .i64 (0))) 1 [(0, (.t 70))])⟩, ⟨none, (some 72), (.app 1 8 (.t 63) (.t 71))⟩, ⟨none, (some 10), (.mv (.t 72))⟩]
def r_s_TailBanner_13 : List CO := [⟨none, (some 41), (.mv (.t 11))⟩, ⟨none, (some 42), (.bin .add .none (.t 41) (.k (.v (.int .i64 (1)))))⟩, ⟨none, (some 11), (.mv (.t 42))⟩]
def l_s_TailBanner_14 : C := (.seq (.seq (.reg r_s_TailBanner_9 [0, 1, 6, 7, 8, 9, 10, 11, 40]) (.cond (.t 40) .skip (.exit 2))) (.seq (.block 3 (.seq (.reg r_s_TailBanner_10 [0, 1, 6, 7, 8, 9, 10, 11, 59]) (.cond (.t 59) (.reg r_s_TailBanner_11 [0, 1, 6, 7, 8, 9, 10, 11]) (.reg r_s_TailBanner_12 [0, 1, 6, 7, 8, 9, 10, 11])))) (.reg r_s_TailBanner_13 [0, 1, 6, 7, 8, 9, 10, 11])))
def r_s_TailBanner_15 : List CO := [⟨none, (some 73), (.mv (.t 6))⟩, ⟨none, (some 74), (.mv (.t 10))⟩, ⟨none, (some 75), (.bslice 1 (.v (.slice none 0 0)) 1 [(0, (.t 74))])⟩, ⟨none, (some 76), (.app 1 24 (.t 73) (.t 75))⟩, ⟨none, (some 6), (.mv (.t 76))⟩]
def r_s_TailBanner_16 : List CO := [⟨none, (some 35), (.mv (.t 9))⟩, ⟨none, (some 36), (.bin .add .none (.t 35) (.k (.v (.int .i64 (1)))))⟩, ⟨none, (some 9), (.mv (.t 36))⟩]
def l_s_TailBanner_17 : C := (.seq (.seq (.reg r_s_TailBanner_6 [0, 1, 6, 7, 8, 9, 34]) (.cond (.t 34) .skip (.exit 0))) (.seq (.block 1 (.seq (.reg r_s_TailBanner_7 [0, 1, 6, 7, 8, 9, 10]) (.seq (.seq (.reg r_s_TailBanner_8 [0, 1, 6, 7, 8, 9, 10, 11]) (.block 2 (.loop l_s_TailBanner_14))) (.reg r_s_TailBanner_15 [0, 1, 6, 7, 8, 9])))) (.reg r_s_TailBanner_16 [0, 1, 6, 7, 8, 9])))
def r_s_TailBanner_18 : List CO := [⟨none, (some 77), (.mv (.t 6))⟩, ⟨none, (some 4), (.mv (.t 77))⟩, ⟨none, (some 5), (.mv (.k (.v (.bool true))))⟩]
/-- loop.example/g00884/spec.TailBanner -/
def c_s_TailBanner : C := (.seq (.reg r_s_TailBanner_0 [0, 1]) (.seq (.reg r_s_TailBanner_1 [0, 1, 6]) (.seq (.seq (.reg r_s_TailBanner_2 [0, 1, 6, 24]) (.cond (.t 24) (.seq (.reg r_s_TailBanner_3 [4, 5]) .ret) .skip)) (.seq (.regD r_s_TailBanner_4 p_s_TailBanner_4 [0, 1, 6, 7, 8]) (.seq (.seq (.reg r_s_TailBanner_5 [0, 1, 6, 7, 8, 9]) (.block 0 (.loop l_s_TailBanner_17))) (.seq (.reg r_s_TailBanner_18 [4, 5]) .ret))))))
def k_s_TailBanner : Nat → List Nat
  | 0 => [0, 1]
  | 1 => [0, 1, 6]
  | 2 => [0, 1, 6, 24]
  | 3 => [4, 5]
  | 4 => [0, 1, 6, 7, 8]
  | 5 => [0, 1, 6, 7, 8, 9]
  | 6 => [0, 1, 6, 7, 8, 9, 34]
  | 8 => [0, 1, 6, 7, 8, 9, 10]
  | 9 => [0, 1, 6, 7, 8, 9, 10, 11]
  | 10 => [0, 1, 6, 7, 8, 9, 10, 11, 40]
  | 12 => [0, 1, 6, 7, 8, 9, 10, 11, 59]
  | 13 => [0, 1, 6, 7, 8, 9, 10, 11]
  | 14 => [0, 1, 6, 7, 8, 9, 10, 11]
  | 11 => [0, 1, 6, 7, 8, 9, 10, 11]
  | 15 => [0, 1, 6, 7, 8, 9]
  | 7 => [0, 1, 6, 7, 8, 9]
  | 16 => [4, 5]
  | _ => []
theorem fn_s_TailBanner : FnC Try.prog n_s_TailBanner c_s_TailBanner [(.tmp 4), (.tmp 5)] 78 :=
  ⟨Try.f10, _, k_s_TailBanner, Try.func10, rfl, by kernel_rfl, by kernel_rfl, by kernel_rfl, rfl⟩
end Go.Proofs.Ytgefdcllialhkaa
