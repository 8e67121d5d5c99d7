/- Parts of the proof, merged: CodeWText, Rep, WText. -/
import Derived.Test.YtbeoijlggphklaaGreatDoorShelf
import Derived.Test.YtbeoijlggphklaaGreatDoorAbs4
import Derived.Test.YtbeoijlggphklaaGreatDoorQ3
/- The compact code of the functions, and that it is theirs: written by a program of this claim. -/
namespace Go.Proofs.YtbeoijlggphklaaGreatDoor
open Go.Abs
set_option maxRecDepth 100000
def r_i_RollText_0 : List CO := [⟨none, (some 2), (.box 1 (.t 0))⟩, ⟨none, (some 3), (.box 3 (.t 1))⟩, ⟨none, (some 4), (.mv (.k (.v (.string (bs [])))))⟩, ⟨none, (some 5), (.mv (.k (.v (.bool false))))⟩]
def r_i_RollText_1 : List CO := [⟨none, (some 15), (.ld true 1 (.t 2))⟩, ⟨none, (some 16), (.ld true 3 (.t 3))⟩, ⟨none, (some 17), (.call n_i_paged [(.t 15), (.t 16)])⟩, ⟨none, (some 14), (.mv (.t 17))⟩, ⟨none, (some 18), (.ext (.t 14) 0)⟩, ⟨none, (some 19), (.ext (.t 14) 1)⟩, ⟨none, (some 20), (.ext (.t 14) 2)⟩, ⟨none, (some 6), (.mv (.t 18))⟩, ⟨none, (some 7), (.mv (.t 19))⟩, ⟨none, (some 8), (.mv (.t 20))⟩]
def r_i_RollText_2 : List CO := [⟨none, (some 21), (.mv (.t 8))⟩, ⟨none, (some 22), (.un .not (.t 21))⟩]
def r_i_RollText_3 : List CO := [⟨none, (some 4), (.mv (.k (.v (.string (bs [])))))⟩, ⟨none, (some 5), (.mv (.k (.v (.bool false))))⟩]
def r_i_RollText_4 : List CO := [⟨none, (some 9), (.mv (.k (.v (.string (bs [])))))⟩]
def r_i_RollText_5 : List CO := [⟨none, (some 23), (.mv (.t 6))⟩, ⟨none, (some 24), (.len false (.t 23))⟩, ⟨none, (some 25), (.mv (.k (.v (.int .i64 (0)))))⟩]
def r_i_RollText_6 : List CO := [⟨none, (some 26), (.bin .lss .none (.t 25) (.t 24))⟩]
def r_i_RollText_7 : List CO := [⟨none, (some 27), (.mv (.t 25))⟩, ⟨none, (some 28), (.iaddr 1 (.t 23) (.t 25))⟩, ⟨none, (some 29), (.ld false 1 (.t 28))⟩, ⟨none, (some 10), (.mv (.t 27))⟩, ⟨none, (some 11), (.mv (.t 29))⟩]
def r_i_RollText_8 : List CO := [⟨none, (some 30), (.mv (.t 11))⟩, ⟨none, (some 31), (.len false (.t 30))⟩, ⟨none, (some 32), (.mv (.k (.v (.int .i64 (0)))))⟩]
def r_i_RollText_9 : List CO := [⟨none, (some 33), (.bin .lss .none (.t 32) (.t 31))⟩]
def r_i_RollText_10 : List CO := [⟨none, (some 34), (.iaddr 1 (.t 30) (.t 32))⟩, ⟨none, (some 35), (.ld false 1 (.t 34))⟩, ⟨none, (some 13), (.mv (.t 35))⟩]
def r_i_RollText_11 : List CO := [⟨none, (some 36), (.mv (.t 9))⟩, ⟨none, (some 37), (.mv (.t 13))⟩, ⟨none, (some 38), (.bin .add .none (.t 37) (.k (.v (.string (bs [10])))))⟩, ⟨none, (some 39), (.bin .add .none (.t 36) (.t 38))⟩, ⟨none, (some 9), (.mv (.t 39))⟩]
def r_i_RollText_12 : List CO := [⟨none, (some 40), (.bin .add .none (.t 32) (.k (.v (.int .i64 (1)))))⟩, ⟨none, (some 32), (.mv (.t 40))⟩]
def l_i_RollText_13 : C := (.seq (.reg r_i_RollText_9 [3, 9, 10, 11, 23, 24, 25, 30, 31, 32, 33]) (.seq (.cond (.t 33) .skip (.exit 2)) (.seq (.block 3 (.seq (.reg r_i_RollText_10 [3, 9, 10, 11, 13, 23, 24, 25, 30, 31, 32]) (.reg r_i_RollText_11 [3, 9, 10, 11, 23, 24, 25, 30, 31, 32]))) (.reg r_i_RollText_12 [3, 9, 10, 11, 23, 24, 25, 30, 31, 32]))))
def r_i_RollText_14 : List CO := [⟨none, (some 41), (.mv (.t 9))⟩, ⟨none, (some 42), (.faddr 2 (.t 3))⟩, ⟨none, (some 43), (.ld false 1 (.t 42))⟩, ⟨none, (some 44), (.mv (.t 11))⟩, ⟨none, (some 45), (.len false (.t 44))⟩, ⟨none, (some 46), (.bin .sub .none (.t 43) (.t 45))⟩, ⟨none, (some 47), (.call n_strings_Repeat [(.k (.v (.string (bs [10])))), (.t 46)])⟩, ⟨none, (some 48), (.bin .add .none (.t 47) (.k (.v (.string (bs [45, 32])))))⟩, ⟨none, (some 49), (.mv (.t 10))⟩, ⟨none, (some 50), (.bin .add .none (.t 49) (.k (.v (.int .i64 (1)))))⟩, ⟨none, (some 51), (.call n_strconv_Itoa [(.t 50)])⟩, ⟨none, (some 52), (.bin .add .none (.t 48) (.t 51))⟩, ⟨none, (some 53), (.bin .add .none (.t 52) (.k (.v (.string (bs [32, 45, 10])))))⟩, ⟨none, (some 54), (.bin .add .none (.t 41) (.t 53))⟩, ⟨none, (some 9), (.mv (.t 54))⟩]
def r_i_RollText_15 : List CO := [⟨none, (some 55), (.bin .add .none (.t 25) (.k (.v (.int .i64 (1)))))⟩, ⟨none, (some 25), (.mv (.t 55))⟩]
def l_i_RollText_16 : C := (.seq (.reg r_i_RollText_6 [3, 9, 23, 24, 25, 26]) (.seq (.cond (.t 26) .skip (.exit 0)) (.seq (.block 1 (.seq (.reg r_i_RollText_7 [3, 9, 10, 11, 23, 24, 25]) (.seq (.seq (.reg r_i_RollText_8 [3, 9, 10, 11, 23, 24, 25, 30, 31, 32]) (.block 2 (.loop l_i_RollText_13))) (.reg r_i_RollText_14 [3, 9, 23, 24, 25])))) (.reg r_i_RollText_15 [3, 9, 23, 24, 25]))))
def r_i_RollText_17 : List CO := [⟨none, (some 56), (.mv (.t 9))⟩, ⟨none, (some 4), (.mv (.t 56))⟩, ⟨none, (some 5), (.mv (.k (.v (.bool true))))⟩]
/-- loop.example/g00884/impl.RollText -/
def c_i_RollText : C := (.seq (.reg r_i_RollText_0 [2, 3]) (.seq (.reg r_i_RollText_1 [3, 6, 8]) (.seq (.seq (.reg r_i_RollText_2 [3, 6, 22]) (.cond (.t 22) (.seq (.reg r_i_RollText_3 [4, 5]) .ret) .skip)) (.seq (.reg r_i_RollText_4 [3, 6, 9]) (.seq (.seq (.reg r_i_RollText_5 [3, 9, 23, 24, 25]) (.block 0 (.loop l_i_RollText_16))) (.seq (.reg r_i_RollText_17 [4, 5]) .ret))))))
def k_i_RollText : Nat → List Nat
  | 0 => [2, 3]
  | 1 => [3, 6, 8]
  | 2 => [3, 6, 22]
  | 3 => [4, 5]
  | 4 => [3, 6, 9]
  | 5 => [3, 9, 23, 24, 25]
  | 6 => [3, 9, 23, 24, 25, 26]
  | 7 => [3, 9, 10, 11, 23, 24, 25]
  | 8 => [3, 9, 10, 11, 23, 24, 25, 30, 31, 32]
  | 9 => [3, 9, 10, 11, 23, 24, 25, 30, 31, 32, 33]
  | 10 => [3, 9, 10, 11, 13, 23, 24, 25, 30, 31, 32]
  | 11 => [3, 9, 10, 11, 23, 24, 25, 30, 31, 32]
  | 12 => [3, 9, 10, 11, 23, 24, 25, 30, 31, 32]
  | 13 => [3, 9, 23, 24, 25]
  | 14 => [3, 9, 23, 24, 25]
  | 15 => [4, 5]
  | _ => []
theorem fn_i_RollText : FnC Tryz.prog n_i_RollText c_i_RollText [(.tmp 4), (.tmp 5)] 57 :=
  ⟨Tryz.f47, _, k_i_RollText, Tryz.func47, rfl, by kernel_rfl, by kernel_rfl, by kernel_rfl, rfl⟩
def r_s_RollText_0 : List CO := [⟨none, (some 2), (.box 1 (.t 0))⟩, ⟨none, (some 3), (.box 3 (.t 1))⟩, ⟨none, (some 4), (.mv (.k (.v (.string (bs [])))))⟩, ⟨none, (some 5), (.mv (.k (.v (.bool false))))⟩]
def r_s_RollText_1 : List CO := [⟨none, (some 12), (.ld true 1 (.t 2))⟩, ⟨none, (some 13), (.ld true 3 (.t 3))⟩, ⟨none, (some 14), (.call n_s_RollPages [(.t 12), (.t 13)])⟩, ⟨none, (some 11), (.mv (.t 14))⟩, ⟨none, (some 15), (.ext (.t 11) 0)⟩, ⟨none, (some 16), (.ext (.t 11) 1)⟩, ⟨none, (some 6), (.mv (.t 15))⟩, ⟨none, (some 7), (.mv (.t 16))⟩]
def r_s_RollText_2 : List CO := [⟨none, (some 17), (.mv (.t 7))⟩, ⟨none, (some 18), (.un .not (.t 17))⟩]
def r_s_RollText_3 : List CO := [⟨none, (some 4), (.mv (.k (.v (.string (bs [])))))⟩, ⟨none, (some 5), (.mv (.k (.v (.bool false))))⟩]
def r_s_RollText_4 : List CO := [⟨none, (some 8), (.mv (.k (.v (.string (bs [])))))⟩]
def r_s_RollText_5 : List CO := [⟨none, (some 9), (.mv (.k (.v (.int .i64 (0)))))⟩]
def r_s_RollText_6 : List CO := [⟨none, (some 19), (.mv (.t 9))⟩, ⟨none, (some 20), (.mv (.t 6))⟩, ⟨none, (some 21), (.len false (.t 20))⟩, ⟨none, (some 22), (.bin .lss .none (.t 19) (.t 21))⟩]
def r_s_RollText_7 : List CO := [⟨none, (some 10), (.mv (.k (.v (.int .i64 (0)))))⟩]
def r_s_RollText_8 : List CO := [⟨none, (some 25), (.mv (.t 10))⟩, ⟨none, (some 26), (.faddr 2 (.t 3))⟩, ⟨none, (some 27), (.ld false 1 (.t 26))⟩, ⟨none, (some 28), (.bin .lss .none (.t 25) (.t 27))⟩]
def r_s_RollText_9 : List CO := [⟨none, (some 31), (.mv (.t 10))⟩, ⟨none, (some 32), (.mv (.t 6))⟩, ⟨none, (some 33), (.mv (.t 9))⟩, ⟨none, (some 34), (.iaddr 1 (.t 32) (.t 33))⟩, ⟨none, (some 35), (.ld false 1 (.t 34))⟩, ⟨none, (some 36), (.len false (.t 35))⟩, ⟨none, (some 37), (.bin .lss .none (.t 31) (.t 36))⟩]
def r_s_RollText_10 : List CO := [⟨none, (some 38), (.mv (.t 8))⟩, ⟨none, (some 39), (.mv (.t 6))⟩, ⟨none, (some 40), (.mv (.t 9))⟩, ⟨none, (some 41), (.iaddr 1 (.t 39) (.t 40))⟩, ⟨none, (some 42), (.ld false 1 (.t 41))⟩, ⟨none, (some 43), (.mv (.t 10))⟩, ⟨none, (some 44), (.iaddr 1 (.t 42) (.t 43))⟩, ⟨none, (some 45), (.ld false 1 (.t 44))⟩, ⟨none, (some 46), (.bin .add .none (.t 38) (.t 45))⟩, ⟨none, (some 8), (.mv (.t 46))⟩]
def r_s_RollText_11 : List CO := [⟨none, (some 47), (.mv (.t 8))⟩, ⟨none, (some 48), (.bin .add .none (.t 47) (.k (.v (.string (bs [10])))))⟩, ⟨none, (some 8), (.mv (.t 48))⟩]
def r_s_RollText_12 : List CO := [⟨none, (some 29), (.mv (.t 10))⟩, ⟨none, (some 30), (.bin .add .none (.t 29) (.k (.v (.int .i64 (1)))))⟩, ⟨none, (some 10), (.mv (.t 30))⟩]
def l_s_RollText_13 : C := (.seq (.seq (.reg r_s_RollText_8 [3, 6, 8, 9, 10, 28]) (.cond (.t 28) .skip (.exit 2))) (.seq (.block 3 (.seq (.seq (.reg r_s_RollText_9 [3, 6, 8, 9, 10, 37]) (.cond (.t 37) (.reg r_s_RollText_10 [3, 6, 8, 9, 10]) .skip)) (.reg r_s_RollText_11 [3, 6, 8, 9, 10]))) (.reg r_s_RollText_12 [3, 6, 8, 9, 10])))
def r_s_RollText_14 : List CO := [⟨none, (some 49), (.mv (.t 8))⟩, ⟨none, (some 50), (.bin .add .none (.t 49) (.k (.v (.string (bs [45, 32])))))⟩, ⟨none, (some 51), (.mv (.t 9))⟩, ⟨none, (some 52), (.bin .add .none (.t 51) (.k (.v (.int .i64 (1)))))⟩, ⟨none, (some 53), (.call n_s_l1Num [(.t 52)])⟩, ⟨none, (some 54), (.bin .add .none (.t 50) (.t 53))⟩, ⟨none, (some 55), (.bin .add .none (.t 54) (.k (.v (.string (bs [32, 45, 10])))))⟩, ⟨none, (some 8), (.mv (.t 55))⟩]
def r_s_RollText_15 : List CO := [⟨none, (some 23), (.mv (.t 9))⟩, ⟨none, (some 24), (.bin .add .none (.t 23) (.k (.v (.int .i64 (1)))))⟩, ⟨none, (some 9), (.mv (.t 24))⟩]
def l_s_RollText_16 : C := (.seq (.seq (.reg r_s_RollText_6 [3, 6, 8, 9, 22]) (.cond (.t 22) .skip (.exit 0))) (.seq (.block 1 (.seq (.seq (.reg r_s_RollText_7 [3, 6, 8, 9, 10]) (.block 2 (.loop l_s_RollText_13))) (.reg r_s_RollText_14 [3, 6, 8, 9]))) (.reg r_s_RollText_15 [3, 6, 8, 9])))
def r_s_RollText_17 : List CO := [⟨none, (some 56), (.mv (.t 8))⟩, ⟨none, (some 4), (.mv (.t 56))⟩, ⟨none, (some 5), (.mv (.k (.v (.bool true))))⟩]
/-- loop.example/g00884/spec.RollText -/
def c_s_RollText : C := (.seq (.reg r_s_RollText_0 [2, 3]) (.seq (.reg r_s_RollText_1 [3, 6, 7]) (.seq (.seq (.reg r_s_RollText_2 [3, 6, 18]) (.cond (.t 18) (.seq (.reg r_s_RollText_3 [4, 5]) .ret) .skip)) (.seq (.reg r_s_RollText_4 [3, 6, 8]) (.seq (.seq (.reg r_s_RollText_5 [3, 6, 8, 9]) (.block 0 (.loop l_s_RollText_16))) (.seq (.reg r_s_RollText_17 [4, 5]) .ret))))))
def k_s_RollText : Nat → List Nat
  | 0 => [2, 3]
  | 1 => [3, 6, 7]
  | 2 => [3, 6, 18]
  | 3 => [4, 5]
  | 4 => [3, 6, 8]
  | 5 => [3, 6, 8, 9]
  | 6 => [3, 6, 8, 9, 22]
  | 8 => [3, 6, 8, 9, 10]
  | 9 => [3, 6, 8, 9, 10, 28]
  | 11 => [3, 6, 8, 9, 10, 37]
  | 12 => [3, 6, 8, 9, 10]
  | 13 => [3, 6, 8, 9, 10]
  | 10 => [3, 6, 8, 9, 10]
  | 14 => [3, 6, 8, 9]
  | 7 => [3, 6, 8, 9]
  | 15 => [4, 5]
  | _ => []
theorem fn_s_RollText : FnC Tryz.prog n_s_RollText c_s_RollText [(.tmp 4), (.tmp 5)] 57 :=
  ⟨Tryz.f46, _, k_s_RollText, Tryz.func46, rfl, by kernel_rfl, by kernel_rfl, by kernel_rfl, rfl⟩
def r_w_FnExactRollText_0 : List CO := [⟨none, (some 2), (.box 1 (.t 0))⟩, ⟨none, (some 3), (.box 3 (.t 1))⟩, ⟨none, (some 4), (.mv (.k (.v (.bool false))))⟩]
def r_w_FnExactRollText_1 : List CO := [⟨none, (some 5), (.mv (.k (.v (.int .i64 (1048576)))))⟩]
def r_w_FnExactRollText_2 : List CO := [⟨none, (some 11), (.ld true 1 (.t 2))⟩, ⟨none, (some 12), (.mv (.t 5))⟩, ⟨none, (some 13), (.call n_w_szRegister [(.t 11), (.t 12)])⟩, ⟨none, (some 5), (.mv (.t 13))⟩]
def r_w_FnExactRollText_3 : List CO := [⟨none, (some 14), (.mv (.t 5))⟩, ⟨none, (some 15), (.bin .lss .none (.t 14) (.k (.v (.int .i64 (0)))))⟩]
def r_w_FnExactRollText_4 : List CO := [⟨none, (some 4), (.mv (.k (.v (.bool true))))⟩]
def r_w_FnExactRollText_5 : List CO := [⟨none, (some 17), (.ld true 1 (.t 2))⟩, ⟨none, (some 18), (.call n_w_toRegister [(.t 17)])⟩, ⟨none, (some 19), (.ld true 3 (.t 3))⟩, ⟨none, (some 20), (.call n_w_toRoll [(.t 19)])⟩, ⟨none, (some 21), (.call n_s_RollText [(.t 18), (.t 20)])⟩, ⟨none, (some 16), (.mv (.t 21))⟩, ⟨none, (some 22), (.ext (.t 16) 0)⟩, ⟨none, (some 23), (.ext (.t 16) 1)⟩, ⟨none, (some 6), (.mv (.t 22))⟩, ⟨none, (some 7), (.mv (.t 23))⟩]
def p_w_FnExactRollText_5 : List (List Nat) := [[], [0], [], [0, 1, 2], [0, 1, 2, 3], [0, 1, 2, 3, 4], [0, 1, 2, 3, 4, 5], [0, 1, 2, 3, 4, 5], [0, 1, 2, 3, 4, 5, 6], [0, 1, 2, 3, 4, 5, 6, 7, 8]]
def r_w_FnExactRollText_6 : List CO := [⟨none, (some 24), (.ld true 1 (.t 2))⟩, ⟨none, (some 25), (.call n_w_toRegister [(.t 24)])⟩, ⟨none, (some 8), (.box 1 (.k (.agg [(.v (.slice none 0 0))])))⟩, ⟨none, none, (.st 1 (.t 8) (.t 25))⟩]
def r_w_FnExactRollText_7 : List CO := [⟨none, (some 27), (.ld true 1 (.t 8))⟩, ⟨none, (some 28), (.ld true 3 (.t 3))⟩, ⟨none, (some 29), (.call n_w_toRoll [(.t 28)])⟩, ⟨none, (some 30), (.call n_i_RollText [(.t 27), (.t 29)])⟩, ⟨none, (some 26), (.mv (.t 30))⟩, ⟨none, (some 31), (.ext (.t 26) 0)⟩, ⟨none, (some 32), (.ext (.t 26) 1)⟩, ⟨none, (some 9), (.mv (.t 31))⟩, ⟨none, (some 10), (.mv (.t 32))⟩]
def p_w_FnExactRollText_7 : List (List Nat) := [[], [], [1], [0, 1, 2], [0, 1, 2, 3], [0, 1, 2, 3, 4], [0, 1, 2, 3, 4], [0, 1, 2, 3, 4, 5], [0, 1, 2, 3, 4, 5, 6, 7]]
def r_w_FnExactRollText_8 : List CO := [⟨none, (some 33), (.mv (.t 9))⟩, ⟨none, (some 34), (.mv (.t 6))⟩, ⟨none, (some 35), (.bin .neq .none (.t 33) (.t 34))⟩, ⟨none, (some 36), (.mv (.t 35))⟩, ⟨(some (36, false)), (some 37), (.mv (.t 10))⟩, ⟨(some (36, false)), (some 38), (.mv (.t 7))⟩, ⟨(some (36, false)), (some 39), (.bin .neq .bool (.t 37) (.t 38))⟩, ⟨none, (some 40), (.pick (.t 36) (.k (.v (.bool true))) (.t 39))⟩]
def r_w_FnExactRollText_9 : List CO := [⟨none, (some 4), (.mv (.k (.v (.bool false))))⟩]
def r_w_FnExactRollText_10 : List CO := [⟨none, (some 41), (.ld true 1 (.t 8))⟩, ⟨none, (some 42), (.ld true 1 (.t 2))⟩, ⟨none, (some 43), (.call n_w_toRegister [(.t 42)])⟩, ⟨none, (some 44), (.call n_w_eqRegister [(.t 41), (.t 43)])⟩, ⟨none, (some 45), (.un .not (.t 44))⟩]
def p_w_FnExactRollText_10 : List (List Nat) := [[], [], [1], [0, 1, 2], [0, 1, 2, 3]]
def r_w_FnExactRollText_11 : List CO := [⟨none, (some 4), (.mv (.k (.v (.bool false))))⟩]
def r_w_FnExactRollText_12 : List CO := [⟨none, (some 4), (.mv (.k (.v (.bool true))))⟩]
/-- loop.example/g00884/laws.FnExactRollText -/
def c_w_FnExactRollText : C := (.seq (.reg r_w_FnExactRollText_0 [2, 3]) (.seq (.reg r_w_FnExactRollText_1 [2, 3, 5]) (.seq (.reg r_w_FnExactRollText_2 [2, 3, 5]) (.seq (.seq (.reg r_w_FnExactRollText_3 [2, 3, 15]) (.cond (.t 15) (.seq (.reg r_w_FnExactRollText_4 [4]) .ret) .skip)) (.seq (.regD r_w_FnExactRollText_5 p_w_FnExactRollText_5 [2, 3, 6, 7]) (.seq (.reg r_w_FnExactRollText_6 [2, 3, 6, 7, 8]) (.seq (.regD r_w_FnExactRollText_7 p_w_FnExactRollText_7 [2, 6, 7, 8, 9, 10]) (.seq (.seq (.reg r_w_FnExactRollText_8 [2, 8, 40]) (.cond (.t 40) (.seq (.reg r_w_FnExactRollText_9 [4]) .ret) .skip)) (.seq (.seq (.regD r_w_FnExactRollText_10 p_w_FnExactRollText_10 [45]) (.cond (.t 45) (.seq (.reg r_w_FnExactRollText_11 [4]) .ret) .skip)) (.seq (.reg r_w_FnExactRollText_12 [4]) .ret))))))))))
def k_w_FnExactRollText : Nat → List Nat
  | 0 => [2, 3]
  | 1 => [2, 3, 5]
  | 2 => [2, 3, 5]
  | 3 => [2, 3, 15]
  | 4 => [4]
  | 5 => [2, 3, 6, 7]
  | 6 => [2, 3, 6, 7, 8]
  | 7 => [2, 6, 7, 8, 9, 10]
  | 8 => [2, 8, 40]
  | 9 => [4]
  | 10 => [45]
  | 11 => [4]
  | 12 => [4]
  | _ => []
theorem fn_w_FnExactRollText : FnC Tryz.prog n_w_FnExactRollText c_w_FnExactRollText [(.tmp 4)] 46 :=
  ⟨Tryz.f9, _, k_w_FnExactRollText, Tryz.func9, rfl, by kernel_rfl, by kernel_rfl, by kernel_rfl, rfl⟩
end Go.Proofs.YtbeoijlggphklaaGreatDoor

/- Library: a byte many times. -/
set_option linter.unusedVariables false
set_option linter.unusedSimpArgs false
namespace Go.Proofs.YtbeoijlggphklaaGreatDoor
open Go.Abs Go.RowKit

theorem repeatL_one (c : UInt8) : ∀ n, Lib.repeatL [c] n = List.replicate n c
  | 0 => rfl
  | n + 1 => by rw [Lib.repeatL, repeatL_one c n]; rfl
theorem strings_Repeat (c : UInt8) (n : Nat) (hn : n ≤ 100000) : PCall Tryz.prog n_strings_Repeat [S [c], I n] (S (List.replicate n c)) := by
  rw [← repeatL_one]
  refine PCall.below (vs := [.string (bs [c]), .int .i64 n]) (y := .string (bs (Lib.repeatL [c] n))) (by kernel_rfl) (fun _ _ => CV_mkv ?_) (fun w _ _ => ?_)
  · show Abs.one (Value.string _) = true
    have : (bs (Lib.repeatL [c] n)).size = n := by rw [repeatL_one]; simp [bs, ByteArray.size]
    simp only [Abs.one, this, decide_eq_true_iff]; omega
  have hsz : (bs [c]).size * n ≤ 140737488355328 := by
    have : (bs [c]).size = 1 := rfl
    rw [this]; omega
  exact Tryz.strings_Repeat (bs [c]) n w (by omega) hsz
end Go.Proofs.YtbeoijlggphklaaGreatDoor

/- RollText: program, reference, law. -/
set_option linter.unusedVariables false
set_option linter.unusedSimpArgs false
namespace Go.Proofs.YtbeoijlggphklaaGreatDoor
open Go.Abs

theorem pagesL_no {l : Register} {x : Roll} (h : textOk l x = false) : pagesL l x = [] := by
  unfold textOk at h
  unfold pagesL
  cases e : asked l x with
  | none => rfl
  | some p => rw [e] at h; cases h
theorem textOk_roll {l : Register} {x : Roll} (h : textOk l x = true) : rollOk x = true := by
  unfold textOk at h
  cases e : asked l x with
  | none => rw [e] at h; cases h
  | some p => exact (asked_iff e).2.1
theorem rollT_at {h : Nat} {L : List (List (List UInt8))} {i : Nat} (hi : i < L.length) : rollT h L (i + 1) = rollT h L i ++ (endsT L[i] ++ List.replicate (h - L[i].length) 10 ++ ([45, 32] ++ digits (i + 1) ++ [32, 45, 10])) := by
  rw [rollT_succ, pageT, footT, List.getD_eq_getElem?_getD, List.getElem?_eq_getElem hi]; rfl
set_option maxHeartbeats 2000000 in
theorem i_RollText (l : Register) (x : Roll) : PCall Tryz.prog n_i_RollText [eRegister l, eRoll x] (.tup [S (textR l x), B (textOk l x)]) := by
  obtain ⟨hn, hp⟩ := pagesL_ok (l := l) (x := x)
  have hP := i_paged l x
  have h0 := @pagesL_no l x
  have hok := @textOk_roll l x
  unfold textR
  generalize pagesL l x = L at hn hp hP h0 ⊢
  refine PCall.of fn_i_RollText (by simp) ?_
  simp [c_i_RollText, r_i_RollText_0, r_i_RollText_1]
  refine callQ_of (PCall.arg hP (by simp)) rfl (.inl (by simp)) (by simp) ?_
  cases hb : textOk l x with
  | false =>
    obtain rfl := h0 hb
    simp [r_i_RollText_2, r_i_RollText_3, rollT]
  | true =>
  obtain ⟨_, _, k3⟩ := rollOk_iff (hok hb)
  have hlen := rollT_len (h := x.height.toNat) (ps := L) (by omega) fun p h => ⟨(hp p h).2.1, (hp p h).2.2.2⟩
  have hstep := @rollT_at x.height.toNat L
  simp [r_i_RollText_2, r_i_RollText_4, r_i_RollText_5]
  refine loopK (fun i : Nat => ⟨[(3, .ref 3 0 0), (9, S (rollT x.height.toNat L i)), (23, .sl 17 0 L.length), (24, I L.length), (25, I i)], [(3, ⟨3, [eRoll x]⟩), (17, ⟨1, L.map roS⟩)], []⟩) (fun i => L.length - i) (fun i => i ≤ L.length) 0
    (Wk.trans (Wk.roes 17 3 (by rfl) (by simp)) (Wk.list rfl (by simp [rollT]) (by simp))) (by simp) ?_
  intro i hi K hN hR hE
  simp [l_i_RollText_16, r_i_RollText_6]
  refine ⟨fun hlt => ?_, fun hge => ?_⟩
  · obtain ⟨p, hpd⟩ : ∃ p, L[i] = p := ⟨_, rfl⟩
    obtain ⟨_, q1, q2, q3⟩ := hp p (hpd ▸ List.getElem_mem _)
    have hs := hstep hlt
    have hli := hlen i (by omega)
    have hel := endsT_len q3
    have hel2 : 1003 * p.length ≤ 1003 * 20 := Nat.mul_le_mul_left _ q1
    have hdl := digits_len 3 (i + 1) (by omega)
    rw [hpd] at hs
    obtain ⟨T1, hs1⟩ : ∃ T1, rollT x.height.toNat L (i + 1) = T1 := ⟨_, rfl⟩
    rw [hs1] at hs
    obtain ⟨T, hT⟩ : ∃ T, rollT x.height.toNat L i = T := ⟨_, rfl⟩
    rw [hT] at hs hli ⊢
    simp [r_i_RollText_7, hlt, hpd]
    simp [r_i_RollText_8]
    refine loopK (fun k : Nat => ⟨[(3, .ref 3 0 0), (9, S (T ++ endsT (p.take k))), (10, I i), (11, .ro 1 (p.map S)), (23, .sl 17 0 L.length), (24, I L.length), (25, I i), (30, .ro 1 (p.map S)), (31, I p.length), (32, I k)], [(3, ⟨3, [eRoll x]⟩), (17, ⟨1, L.map roS⟩)], []⟩) (fun k => p.length - k) (fun k => k ≤ p.length) 0
      (Wk.list rfl (by simp [endsT]) (by simp)) (by simp) ?_
    intro k hk K2 hN2 hR2 hE2
    simp [l_i_RollText_13, r_i_RollText_9]
    refine ⟨fun hklt => ?_, fun hkge => ?_⟩
    · have hx := q3 p[k] (List.getElem_mem _)
      have hes := endsT_take hklt
      have hel3 := endsT_len (p := p.take k) (m := 1002) fun s hs => q3 s (List.mem_of_mem_take hs)
      rw [List.length_take] at hel3
      have hel4 : 1003 * min k p.length ≤ 1003 * 20 := Nat.mul_le_mul_left _ (by omega)
      simp [r_i_RollText_10, hklt]
      simp [r_i_RollText_11, r_i_RollText_12]
      refine ⟨by omega, by omega, ?_⟩
      rw [wrap64 (by omega) (by omega)]
      refine hN2 (k + 1) _ (by omega) (by omega) (Wk.list rfl (by simp [hes]) (by simp))
    · obtain rfl : k = p.length := by omega
      refine hE2 _ _ ?_
      simp only [blockK_exit]
      rw [List.take_length]
      simp [r_i_RollText_14]
      have eh : IntKind.i64.wrap (x.height - p.length) = ((x.height.toNat - p.length : Nat) : Int) := by rw [wrap64 (by omega) (by omega)]; omega
      have hT1 : T1.length ≤ 1000000 := by
        rw [hs]
        simp only [List.length_append, List.length_replicate, List.length_cons, List.length_nil]; omega
      rw [eh]
      refine callQ_v (PCall.arg (strings_Repeat 10 (x.height.toNat - p.length) (by omega)) (by simp)) ?_
      simp
      refine ⟨by omega, ?_⟩
      rw [wrap64 (n := (i : Int) + 1) (by omega) (by omega)]
      refine callQ_v (PCall.arg (strconv_Itoa (i + 1) (by omega)) (by simp)) ?_
      simp
      refine ⟨by omega, by omega, by omega, ?_⟩
      simp [r_i_RollText_15]
      rw [wrap64 (by omega) (by omega)]
      refine hN (i + 1) _ (by omega) (by omega) (Wk.list rfl (by simp [hs1, hs]) (by simp))
  · obtain rfl : i = L.length := by omega
    refine hE _ _ ?_
    simp only [blockK_exit]
    simp [r_i_RollText_17]
/-- The first k lines of a page of the reference, with ends. -/
def lineT (p : List (List UInt8)) (k : Nat) : List UInt8 := endsT (p.take k) ++ List.replicate (k - p.length) 10
theorem lineT_in {p : List (List UInt8)} {k : Nat} (h : k < p.length) : lineT p (k + 1) = lineT p k ++ p[k] ++ [10] := by
  rw [lineT, lineT, endsT_take h, show k + 1 - p.length = 0 by omega, show k - p.length = 0 by omega]
  simp
theorem lineT_out {p : List (List UInt8)} {k : Nat} (h : p.length ≤ k) : lineT p (k + 1) = lineT p k ++ [10] := by
  rw [lineT, lineT, List.take_of_length_le (by omega), List.take_of_length_le h, show k + 1 - p.length = (k - p.length) + 1 by omega, List.replicate_succ', List.append_assoc]
theorem lineT_len {p : List (List UInt8)} {k : Nat} (hk : k ≤ 20) (hp : p.length ≤ 20) (h : ∀ s ∈ p, s.length ≤ 1002) : (lineT p k).length ≤ 30000 := by
  have h1 := endsT_len (p := p.take k) (m := 1002) fun s hs => h s (List.mem_of_mem_take hs)
  rw [List.length_take] at h1
  have h2 : 1003 * min k p.length ≤ 1003 * 20 := Nat.mul_le_mul_left _ (by omega)
  simp only [lineT, List.length_append, List.length_replicate]; omega
theorem lineT_all {p : List (List UInt8)} {h : Nat} (hp : p.length ≤ h) : lineT p h = endsT p ++ List.replicate (h - p.length) 10 := by rw [lineT, List.take_of_length_le hp]
set_option maxHeartbeats 2000000 in
theorem s_RollText (l : Register) (x : Roll) : PCall Tryz.prog n_s_RollText [eRegister l, eRoll x] (.tup [S (textR l x), B (textOk l x)]) := by
  obtain ⟨hn, hp⟩ := pagesL_ok (l := l) (x := x)
  have hP := s_RollPages l x
  have h0 := @pagesL_no l x
  have hok := @textOk_roll l x
  unfold textR
  generalize pagesL l x = L at hn hp hP h0 ⊢
  refine PCall.of fn_s_RollText (by simp) ?_
  simp [c_s_RollText, r_s_RollText_0, r_s_RollText_1]
  refine callQ_of (PCall.arg hP (by simp)) rfl (.inl (by simp)) (by simp) ?_
  cases hb : textOk l x with
  | false =>
    obtain rfl := h0 hb
    simp [r_s_RollText_2, r_s_RollText_3, rollT]
  | true =>
  obtain ⟨_, _, k3⟩ := rollOk_iff (hok hb)
  have hlen := rollT_len (h := x.height.toNat) (ps := L) (by omega) fun p h => ⟨(hp p h).2.1, (hp p h).2.2.2⟩
  have hstep := @rollT_at x.height.toNat L
  have hh : ((x.height.toNat : Nat) : Int) = x.height := by omega
  simp [r_s_RollText_2, r_s_RollText_4, r_s_RollText_5]
  refine loopK (fun i : Nat => ⟨[(3, .ref 3 0 0), (6, .sl 14 0 L.length), (8, S (rollT x.height.toNat L i)), (9, I i)], [(3, ⟨3, [eRoll x]⟩), (14, ⟨1, L.map roS⟩)], []⟩) (fun i => L.length - i) (fun i => i ≤ L.length) 0
    (Wk.trans (Wk.roes 14 3 (by rfl) (by simp)) (Wk.list rfl (by simp [rollT]) (by simp))) (by simp) ?_
  intro i hi K hN hR hE
  simp [l_s_RollText_16, r_s_RollText_6]
  refine ⟨fun hlt => ?_, fun hge => ?_⟩
  · obtain ⟨p, hpd⟩ : ∃ p, L[i] = p := ⟨_, rfl⟩
    obtain ⟨_, q1, q2, q3⟩ := hp p (hpd ▸ List.getElem_mem _)
    have hs := hstep hlt
    have hli := hlen i (by omega)
    have hdl := digits_len 3 (i + 1) (by omega)
    rw [hpd, ← lineT_all q2] at hs
    obtain ⟨T1, hs1⟩ : ∃ T1, rollT x.height.toNat L (i + 1) = T1 := ⟨_, rfl⟩
    rw [hs1] at hs
    obtain ⟨T, hT⟩ : ∃ T, rollT x.height.toNat L i = T := ⟨_, rfl⟩
    rw [hT] at hs hli ⊢
    simp [r_s_RollText_7]
    refine loopK (fun k : Nat => ⟨[(3, .ref 3 0 0), (6, .sl 14 0 L.length), (8, S (T ++ lineT p k)), (9, I i), (10, I k)], [(3, ⟨3, [eRoll x]⟩), (14, ⟨1, L.map roS⟩)], []⟩) (fun k => x.height.toNat - k) (fun k => k ≤ x.height.toNat) 0
      (Wk.list rfl (by simp [lineT, endsT]) (by simp)) (by simp) ?_
    intro k hk K2 hN2 hR2 hE2
    have hll := lineT_len (k := k) (by omega) q1 q3
    simp [l_s_RollText_13, r_s_RollText_8]
    refine ⟨fun hklt => ?_, fun hkge => ?_⟩
    · simp [r_s_RollText_9, hlt, hpd]
      refine ⟨fun hin => ?_, fun hout => ?_⟩
      · have hx := q3 p[k] (List.getElem_mem _)
        have hst := lineT_in hin
        simp [r_s_RollText_10, hlt, hpd, hin]
        refine ⟨by omega, ?_⟩
        simp [r_s_RollText_11, r_s_RollText_12]
        refine ⟨by omega, ?_⟩
        rw [wrap64 (by omega) (by omega)]
        refine hN2 (k + 1) _ (by omega) (by omega) (Wk.list rfl (by simp [hst]) (by simp))
      · have hst := lineT_out hout
        simp [r_s_RollText_11, r_s_RollText_12]
        refine ⟨by omega, ?_⟩
        rw [wrap64 (by omega) (by omega)]
        refine hN2 (k + 1) _ (by omega) (by omega) (Wk.list rfl (by simp [hst]) (by simp))
    · obtain rfl : k = x.height.toNat := by omega
      refine hE2 _ _ ?_
      simp only [blockK_exit]
      simp [r_s_RollText_14]
      rw [wrap64 (n := (i : Int) + 1) (by omega) (by omega)]
      refine ⟨by omega, ?_⟩
      refine callQ_v (PCall.arg (s_l1Num (i + 1) (by omega)) (by simp)) ?_
      simp
      refine ⟨by omega, by omega, ?_⟩
      simp [r_s_RollText_15]
      rw [wrap64 (by omega) (by omega)]
      refine hN (i + 1) _ (by omega) (by omega) (Wk.list rfl (by simp [hs1, hs]) (by simp))
  · obtain rfl : i = L.length := by omega
    refine hE _ _ ?_
    simp only [blockK_exit]
    simp [r_s_RollText_17]
theorem w_FnExactRollText (l : Register) (x : Roll) : PCall Tryz.prog n_w_FnExactRollText [eRegister l, eRoll x] (B true) := by
  have hS := s_RollText l x
  have hI := i_RollText l x
  generalize textR l x = m at hS hI
  generalize textOk l x = b at hS hI
  refine PCall.of fn_w_FnExactRollText (by simp) ?_
  simp [c_w_FnExactRollText, r_w_FnExactRollText_0, r_w_FnExactRollText_1, r_w_FnExactRollText_2]
  refine callQ_v (PCall.arg (w_szRegister l 1048576 (by omega) (by omega)) (by simp)) ?_
  simp [r_w_FnExactRollText_3]
  refine ⟨fun _ => by simp [r_w_FnExactRollText_4], fun hge => ?_⟩
  have hs := rest_nonneg (left := 1048576) (n := szG l) (by omega)
  have hl : List.length l ≤ 1048576 := by unfold szG at hs; omega
  have hto := w_toRegister l hl
  have htr := w_toRoll x
  simp [r_w_FnExactRollText_5, p_w_FnExactRollText_5]
  refine callD_of (PCall.arg hto (by simp)) rfl (.inl (by simp)) ?_ ?_ ?_
  · simp
  · simp
  simp
  refine callD_of (PCall.arg htr (by simp)) rfl (.inl (by simp)) ?_ ?_ ?_
  · simp
  · simp
  simp
  refine callD_of (PCall.arg hS (by simp)) rfl (.inl (by simp)) ?_ ?_ ?_
  · simp
  · simp
  simp
  refine ⟨oEnd_of (by simp [p_w_FnExactRollText_5]) (by simp), ?_⟩
  simp [r_w_FnExactRollText_6]
  refine callQ_of (PCall.arg hto (by simp)) rfl (.inl (by simp)) (by simp) ?_
  simp [r_w_FnExactRollText_7, p_w_FnExactRollText_7]
  refine callD_of (PCall.arg htr (by simp)) rfl (.inl (by simp)) ?_ ?_ ?_
  · simp
  · simp
  simp
  refine callD_of (PCall.arg hI (by simp)) rfl (.inl (by simp)) ?_ ?_ ?_
  · simp
  · simp
  simp
  refine ⟨oEnd_of (by simp [p_w_FnExactRollText_7]) (by simp), ?_⟩
  simp [r_w_FnExactRollText_8]
  simp [r_w_FnExactRollText_10, p_w_FnExactRollText_10]
  refine callD_of (PCall.arg hto (by simp)) rfl (.inl (by simp)) ?_ ?_ ?_
  · simp
  · simp
  simp
  refine callD_v (PCall.arg (w_eqRegister l l) (by simp [List.take_of_length_le])) ?_ ?_ ?_
  · simp
  · simp
  simp
  refine ⟨oEnd_of (by simp [p_w_FnExactRollText_10]) (by simp), ?_⟩
  simp [r_w_FnExactRollText_12]
end Go.Proofs.YtbeoijlggphklaaGreatDoor
