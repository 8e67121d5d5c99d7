/- The compact code of the functions, and that it is theirs: written by a program of this claim. -/
import Derived.Test.YtopcfaffljjnbaaDoorNums
namespace Go.Proofs.YtopcfaffljjnbaaDoor
open Go.Abs
set_option maxRecDepth 100000
def r_i_IsValidMotto_0 : List CO := [⟨none, (some 2), (.mv (.k (.v (.bool false))))⟩]
def r_i_IsValidMotto_1 : List CO := [⟨none, (some 5), (.mv (.t 0))⟩, ⟨none, (some 6), (.len true (.t 5))⟩, ⟨none, (some 7), (.call n_i_inside [(.t 6), (.k (.v (.int .i64 (1)))), (.k (.v (.int .i64 (60))))])⟩, ⟨none, (some 8), (.un .not (.t 7))⟩]
def r_i_IsValidMotto_2 : List CO := [⟨none, (some 2), (.mv (.k (.v (.bool false))))⟩]
def r_i_IsValidMotto_3 : List CO := [⟨none, (some 9), (.mv (.t 0))⟩, ⟨none, (some 10), (.call n_strings_Split [(.t 9), (.k (.v (.string (bs [32]))))])⟩, ⟨none, (some 11), (.len false (.t 10))⟩, ⟨none, (some 12), (.mv (.k (.v (.int .i64 (0)))))⟩]
def r_i_IsValidMotto_4 : List CO := [⟨none, (some 13), (.bin .lss .none (.t 12) (.t 11))⟩]
def r_i_IsValidMotto_5 : List CO := [⟨none, (some 14), (.iaddr 1 (.t 10) (.t 12))⟩, ⟨none, (some 15), (.ld false 1 (.t 14))⟩, ⟨none, (some 4), (.mv (.t 15))⟩]
def r_i_IsValidMotto_6 : List CO := [⟨none, (some 16), (.mv (.t 4))⟩, ⟨none, (some 17), (.bin .eql .none (.t 16) (.k (.v (.string (bs [])))))⟩, ⟨none, (some 18), (.mv (.t 17))⟩, ⟨(some (18, false)), (some 19), (.mv (.t 4))⟩, ⟨(some (18, false)), (some 20), (.call n_strings_Trim [(.t 19), (.k (.v (.string (bs [65, 66, 67, 68, 69, 70, 71, 72, 73, 74, 75, 76, 77, 78, 79, 80, 81, 82, 83, 84, 85, 86, 87, 88, 89, 90]))))])⟩, ⟨(some (18, false)), (some 21), (.bin .neq .none (.t 20) (.k (.v (.string (bs [])))))⟩, ⟨none, (some 22), (.pick (.t 18) (.k (.v (.bool true))) (.t 21))⟩]
def r_i_IsValidMotto_7 : List CO := [⟨none, (some 2), (.mv (.k (.v (.bool false))))⟩]
def r_i_IsValidMotto_8 : List CO := [⟨none, (some 23), (.bin .add .none (.t 12) (.k (.v (.int .i64 (1)))))⟩, ⟨none, (some 12), (.mv (.t 23))⟩]
def l_i_IsValidMotto_9 : C := (.seq (.reg r_i_IsValidMotto_4 [10, 11, 12, 13]) (.seq (.cond (.t 13) .skip (.exit 0)) (.seq (.block 1 (.seq (.reg r_i_IsValidMotto_5 [4, 10, 11, 12]) (.seq (.reg r_i_IsValidMotto_6 [10, 11, 12, 22]) (.cond (.t 22) (.seq (.reg r_i_IsValidMotto_7 [2]) .ret) .skip)))) (.reg r_i_IsValidMotto_8 [10, 11, 12]))))
def r_i_IsValidMotto_10 : List CO := [⟨none, (some 2), (.mv (.k (.v (.bool true))))⟩]
/-- loop.example/g00884/impl.IsValidMotto -/
def c_i_IsValidMotto : C := (.seq (.reg r_i_IsValidMotto_0 [0]) (.seq (.seq (.reg r_i_IsValidMotto_1 [0, 8]) (.cond (.t 8) (.seq (.reg r_i_IsValidMotto_2 [2]) .ret) .skip)) (.seq (.seq (.reg r_i_IsValidMotto_3 [10, 11, 12]) (.block 0 (.loop l_i_IsValidMotto_9))) (.seq (.reg r_i_IsValidMotto_10 [2]) .ret))))
def k_i_IsValidMotto : Nat → List Nat
  | 0 => [0]
  | 1 => [0, 8]
  | 2 => [2]
  | 3 => [10, 11, 12]
  | 4 => [10, 11, 12, 13]
  | 5 => [4, 10, 11, 12]
  | 6 => [10, 11, 12, 22]
  | 7 => [2]
  | 8 => [10, 11, 12]
  | 9 => [2]
  | _ => []
theorem fn_i_IsValidMotto : FnC Tryd.prog n_i_IsValidMotto c_i_IsValidMotto [(.tmp 2)] 24 :=
  ⟨Tryd.f32, _, k_i_IsValidMotto, Tryd.func32, rfl, by kernel_rfl, by kernel_rfl, by kernel_rfl, rfl⟩
def r_s_l23Good_0 : List CO := [⟨none, (some 2), (.mv (.k (.v (.bool false))))⟩]
def r_s_l23Good_1 : List CO := [⟨none, (some 4), (.mv (.t 0))⟩, ⟨none, (some 5), (.len true (.t 4))⟩, ⟨none, (some 6), (.call n_s_l1In [(.t 5), (.k (.v (.int .i64 (1)))), (.k (.v (.int .i64 (60))))])⟩, ⟨none, (some 7), (.un .not (.t 6))⟩, ⟨none, (some 8), (.mv (.t 7))⟩, ⟨(some (8, false)), (some 9), (.mv (.t 0))⟩, ⟨(some (8, false)), (some 10), (.idx (.t 9) (.k (.v (.int .i64 (0)))))⟩, ⟨(some (8, false)), (some 11), (.bin .eql .none (.t 10) (.k (.v (.int .u8 (32)))))⟩, ⟨none, (some 12), (.pick (.t 8) (.k (.v (.bool true))) (.t 11))⟩, ⟨none, (some 13), (.mv (.t 12))⟩, ⟨(some (13, false)), (some 14), (.mv (.t 0))⟩, ⟨(some (13, false)), (some 15), (.mv (.t 0))⟩, ⟨(some (13, false)), (some 16), (.len true (.t 15))⟩, ⟨(some (13, false)), (some 17), (.bin .sub .none (.t 16) (.k (.v (.int .i64 (1)))))⟩, ⟨(some (13, false)), (some 18), (.idx (.t 14) (.t 17))⟩, ⟨(some (13, false)), (some 19), (.bin .eql .none (.t 18) (.k (.v (.int .u8 (32)))))⟩, ⟨none, (some 20), (.pick (.t 13) (.k (.v (.bool true))) (.t 19))⟩]
def r_s_l23Good_2 : List CO := [⟨none, (some 2), (.mv (.k (.v (.bool false))))⟩]
def r_s_l23Good_3 : List CO := [⟨none, (some 3), (.mv (.k (.v (.int .i64 (0)))))⟩]
def r_s_l23Good_4 : List CO := [⟨none, (some 21), (.mv (.t 3))⟩, ⟨none, (some 22), (.mv (.t 0))⟩, ⟨none, (some 23), (.len true (.t 22))⟩, ⟨none, (some 24), (.bin .lss .none (.t 21) (.t 23))⟩]
def r_s_l23Good_5 : List CO := [⟨none, (some 27), (.mv (.t 0))⟩, ⟨none, (some 28), (.mv (.t 3))⟩, ⟨none, (some 29), (.idx (.t 27) (.t 28))⟩, ⟨none, (some 30), (.bin .eql .none (.t 29) (.k (.v (.int .u8 (32)))))⟩]
def r_s_l23Good_6 : List CO := [⟨none, (some 31), (.mv (.t 0))⟩, ⟨none, (some 32), (.mv (.t 3))⟩, ⟨none, (some 33), (.bin .sub .none (.t 32) (.k (.v (.int .i64 (1)))))⟩, ⟨none, (some 34), (.idx (.t 31) (.t 33))⟩, ⟨none, (some 35), (.bin .eql .none (.t 34) (.k (.v (.int .u8 (32)))))⟩]
def r_s_l23Good_7 : List CO := [⟨none, (some 2), (.mv (.k (.v (.bool false))))⟩]
def r_s_l23Good_8 : List CO := [⟨none, (some 36), (.mv (.t 0))⟩, ⟨none, (some 37), (.mv (.t 3))⟩, ⟨none, (some 38), (.idx (.t 36) (.t 37))⟩, ⟨none, (some 39), (.bin .lss .none (.t 38) (.k (.v (.int .u8 (65)))))⟩, ⟨none, (some 40), (.mv (.t 39))⟩, ⟨(some (40, false)), (some 41), (.mv (.t 0))⟩, ⟨(some (40, false)), (some 42), (.mv (.t 3))⟩, ⟨(some (40, false)), (some 43), (.idx (.t 41) (.t 42))⟩, ⟨(some (40, false)), (some 44), (.bin .gtr .none (.t 43) (.k (.v (.int .u8 (90)))))⟩, ⟨none, (some 45), (.pick (.t 40) (.k (.v (.bool true))) (.t 44))⟩]
def r_s_l23Good_9 : List CO := [⟨none, (some 2), (.mv (.k (.v (.bool false))))⟩]
def r_s_l23Good_10 : List CO := [⟨none, (some 25), (.mv (.t 3))⟩, ⟨none, (some 26), (.bin .add .none (.t 25) (.k (.v (.int .i64 (1)))))⟩, ⟨none, (some 3), (.mv (.t 26))⟩]
def l_s_l23Good_11 : C := (.seq (.seq (.reg r_s_l23Good_4 [0, 3, 24]) (.cond (.t 24) .skip (.exit 0))) (.seq (.block 1 (.seq (.reg r_s_l23Good_5 [0, 3, 30]) (.cond (.t 30) (.seq (.reg r_s_l23Good_6 [0, 3, 35]) (.cond (.t 35) (.seq (.reg r_s_l23Good_7 [2]) .ret) .skip)) (.seq (.reg r_s_l23Good_8 [0, 3, 45]) (.cond (.t 45) (.seq (.reg r_s_l23Good_9 [2]) .ret) .skip))))) (.reg r_s_l23Good_10 [0, 3])))
def r_s_l23Good_12 : List CO := [⟨none, (some 2), (.mv (.k (.v (.bool true))))⟩]
/-- loop.example/g00884/spec.l23Good -/
def c_s_l23Good : C := (.seq (.reg r_s_l23Good_0 [0]) (.seq (.seq (.reg r_s_l23Good_1 [0, 20]) (.cond (.t 20) (.seq (.reg r_s_l23Good_2 [2]) .ret) .skip)) (.seq (.seq (.reg r_s_l23Good_3 [0, 3]) (.block 0 (.loop l_s_l23Good_11))) (.seq (.reg r_s_l23Good_12 [2]) .ret))))
def k_s_l23Good : Nat → List Nat
  | 0 => [0]
  | 1 => [0, 20]
  | 2 => [2]
  | 3 => [0, 3]
  | 4 => [0, 3, 24]
  | 6 => [0, 3, 30]
  | 7 => [0, 3, 35]
  | 8 => [2]
  | 9 => [0, 3, 45]
  | 10 => [2]
  | 5 => [0, 3]
  | 11 => [2]
  | _ => []
theorem fn_s_l23Good : FnC Tryd.prog n_s_l23Good c_s_l23Good [(.tmp 2)] 46 :=
  ⟨Tryd.f39, _, k_s_l23Good, Tryd.func39, rfl, by kernel_rfl, by kernel_rfl, by kernel_rfl, rfl⟩
def r_i_isWidth_0 : List CO := [⟨none, (some 2), (.mv (.k (.v (.bool false))))⟩]
def r_i_isWidth_1 : List CO := [⟨none, (some 3), (.mv (.t 0))⟩, ⟨none, (some 4), (.call n_i_inside [(.t 3), (.k (.v (.int .i64 (1)))), (.k (.v (.int .i64 (40))))])⟩, ⟨none, (some 2), (.mv (.t 4))⟩]
/-- loop.example/g00884/impl.isWidth -/
def c_i_isWidth : C := (.seq (.reg r_i_isWidth_0 [0]) (.seq (.reg r_i_isWidth_1 [2]) .ret))
def k_i_isWidth : Nat → List Nat
  | 0 => [0]
  | 1 => [2]
  | _ => []
theorem fn_i_isWidth : FnC Tryd.prog n_i_isWidth c_i_isWidth [(.tmp 2)] 5 :=
  ⟨Tryd.f33, _, k_i_isWidth, Tryd.func33, rfl, by kernel_rfl, by kernel_rfl, by kernel_rfl, rfl⟩
def r_i_longest_0 : List CO := [⟨none, (some 2), (.mv (.k (.v (.int .i64 (0)))))⟩]
def r_i_longest_1 : List CO := [⟨none, (some 3), (.mv (.k (.v (.int .i64 (0)))))⟩]
def r_i_longest_2 : List CO := [⟨none, (some 6), (.mv (.t 0))⟩, ⟨none, (some 7), (.call n_strings_Split [(.t 6), (.k (.v (.string (bs [32]))))])⟩, ⟨none, (some 8), (.len false (.t 7))⟩, ⟨none, (some 9), (.mv (.k (.v (.int .i64 (0)))))⟩]
def r_i_longest_3 : List CO := [⟨none, (some 10), (.bin .lss .none (.t 9) (.t 8))⟩]
def r_i_longest_4 : List CO := [⟨none, (some 11), (.iaddr 1 (.t 7) (.t 9))⟩, ⟨none, (some 12), (.ld false 1 (.t 11))⟩, ⟨none, (some 5), (.mv (.t 12))⟩]
def r_i_longest_5 : List CO := [⟨none, (some 13), (.mv (.t 3))⟩, ⟨none, (some 14), (.mv (.t 5))⟩, ⟨none, (some 15), (.len true (.t 14))⟩, ⟨none, (some 16), (.mm true [(.t 13), (.t 15)])⟩, ⟨none, (some 3), (.mv (.t 16))⟩]
def r_i_longest_6 : List CO := [⟨none, (some 17), (.bin .add .none (.t 9) (.k (.v (.int .i64 (1)))))⟩, ⟨none, (some 9), (.mv (.t 17))⟩]
def l_i_longest_7 : C := (.seq (.reg r_i_longest_3 [3, 7, 8, 9, 10]) (.seq (.cond (.t 10) .skip (.exit 0)) (.seq (.block 1 (.seq (.reg r_i_longest_4 [3, 5, 7, 8, 9]) (.reg r_i_longest_5 [3, 7, 8, 9]))) (.reg r_i_longest_6 [3, 7, 8, 9]))))
def r_i_longest_8 : List CO := [⟨none, (some 18), (.mv (.t 3))⟩, ⟨none, (some 2), (.mv (.t 18))⟩]
/-- loop.example/g00884/impl.longest -/
def c_i_longest : C := (.seq (.reg r_i_longest_0 [0]) (.seq (.reg r_i_longest_1 [0, 3]) (.seq (.seq (.reg r_i_longest_2 [3, 7, 8, 9]) (.block 0 (.loop l_i_longest_7))) (.seq (.reg r_i_longest_8 [2]) .ret))))
def k_i_longest : Nat → List Nat
  | 0 => [0]
  | 1 => [0, 3]
  | 2 => [3, 7, 8, 9]
  | 3 => [3, 7, 8, 9, 10]
  | 4 => [3, 5, 7, 8, 9]
  | 5 => [3, 7, 8, 9]
  | 6 => [3, 7, 8, 9]
  | 7 => [2]
  | _ => []
theorem fn_i_longest : FnC Tryd.prog n_i_longest c_i_longest [(.tmp 2)] 19 :=
  ⟨Tryd.f34, _, k_i_longest, Tryd.func34, rfl, by kernel_rfl, by kernel_rfl, by kernel_rfl, rfl⟩
def r_i_isOnScroll_0 : List CO := [⟨none, (some 4), (.mv (.k (.v (.bool false))))⟩]
def r_i_isOnScroll_1 : List CO := [⟨none, (some 5), (.mv (.t 0))⟩, ⟨none, (some 6), (.call n_i_IsValidMotto [(.t 5)])⟩, ⟨none, (some 7), (.mv (.t 6))⟩, ⟨(some (7, true)), (some 8), (.mv (.t 1))⟩, ⟨(some (7, true)), (some 9), (.call n_i_isWidth [(.t 8)])⟩, ⟨none, (some 10), (.pick (.t 7) (.t 9) (.k (.v (.bool false))))⟩, ⟨none, (some 11), (.mv (.t 10))⟩, ⟨(some (11, true)), (some 12), (.mv (.t 0))⟩, ⟨(some (11, true)), (some 13), (.call n_i_longest [(.t 12)])⟩, ⟨(some (11, true)), (some 14), (.mv (.t 1))⟩, ⟨(some (11, true)), (some 15), (.bin .leq .none (.t 13) (.t 14))⟩, ⟨none, (some 16), (.pick (.t 11) (.t 15) (.k (.v (.bool false))))⟩, ⟨none, (some 4), (.mv (.t 16))⟩]
/-- loop.example/g00884/impl.isOnScroll -/
def c_i_isOnScroll : C := (.seq (.reg r_i_isOnScroll_0 [0, 1]) (.seq (.reg r_i_isOnScroll_1 [4]) .ret))
def k_i_isOnScroll : Nat → List Nat
  | 0 => [0, 1]
  | 1 => [4]
  | _ => []
theorem fn_i_isOnScroll : FnC Tryd.prog n_i_isOnScroll c_i_isOnScroll [(.tmp 4)] 17 :=
  ⟨Tryd.f16, _, k_i_isOnScroll, Tryd.func16, rfl, by kernel_rfl, by kernel_rfl, by kernel_rfl, rfl⟩
def r_s_l23Line_0 : List CO := [⟨none, (some 6), (.mv (.k (.v (.string (bs [])))))⟩]
def r_s_l23Line_1 : List CO := [⟨none, (some 7), (.mv (.k (.v (.string (bs [])))))⟩]
def r_s_l23Line_2 : List CO := [⟨none, (some 9), (.mv (.t 1))⟩, ⟨none, (some 8), (.mv (.t 9))⟩]
def r_s_l23Line_3 : List CO := [⟨none, (some 10), (.mv (.t 8))⟩, ⟨none, (some 11), (.mv (.t 2))⟩, ⟨none, (some 12), (.bin .lss .none (.t 10) (.t 11))⟩]
def r_s_l23Line_4 : List CO := [⟨none, (some 15), (.mv (.t 8))⟩, ⟨none, (some 16), (.mv (.t 1))⟩, ⟨none, (some 17), (.bin .gtr .none (.t 15) (.t 16))⟩]
def r_s_l23Line_5 : List CO := [⟨none, (some 18), (.mv (.t 7))⟩, ⟨none, (some 19), (.bin .add .none (.t 18) (.k (.v (.string (bs [32])))))⟩, ⟨none, (some 7), (.mv (.t 19))⟩]
def r_s_l23Line_6 : List CO := [⟨none, (some 20), (.mv (.t 7))⟩, ⟨none, (some 21), (.mv (.t 0))⟩, ⟨none, (some 22), (.mv (.t 8))⟩, ⟨none, (some 23), (.iaddr 1 (.t 21) (.t 22))⟩, ⟨none, (some 24), (.ld false 1 (.t 23))⟩, ⟨none, (some 25), (.bin .add .none (.t 20) (.t 24))⟩, ⟨none, (some 7), (.mv (.t 25))⟩]
def r_s_l23Line_7 : List CO := [⟨none, (some 13), (.mv (.t 8))⟩, ⟨none, (some 14), (.bin .add .none (.t 13) (.k (.v (.int .i64 (1)))))⟩, ⟨none, (some 8), (.mv (.t 14))⟩]
def l_s_l23Line_8 : C := (.seq (.seq (.reg r_s_l23Line_3 [0, 1, 2, 7, 8, 12]) (.cond (.t 12) .skip (.exit 0))) (.seq (.block 1 (.seq (.seq (.reg r_s_l23Line_4 [0, 1, 2, 7, 8, 17]) (.cond (.t 17) (.reg r_s_l23Line_5 [0, 1, 2, 7, 8]) .skip)) (.reg r_s_l23Line_6 [0, 1, 2, 7, 8]))) (.reg r_s_l23Line_7 [0, 1, 2, 7, 8])))
def r_s_l23Line_9 : List CO := [⟨none, (some 26), (.mv (.t 7))⟩, ⟨none, (some 6), (.mv (.t 26))⟩]
/-- loop.example/g00884/spec.l23Line -/
def c_s_l23Line : C := (.seq (.reg r_s_l23Line_0 [0, 1, 2]) (.seq (.reg r_s_l23Line_1 [0, 1, 2, 7]) (.seq (.seq (.reg r_s_l23Line_2 [0, 1, 2, 7, 8]) (.block 0 (.loop l_s_l23Line_8))) (.seq (.reg r_s_l23Line_9 [6]) .ret))))
def k_s_l23Line : Nat → List Nat
  | 0 => [0, 1, 2]
  | 1 => [0, 1, 2, 7]
  | 2 => [0, 1, 2, 7, 8]
  | 3 => [0, 1, 2, 7, 8, 12]
  | 5 => [0, 1, 2, 7, 8, 17]
  | 6 => [0, 1, 2, 7, 8]
  | 7 => [0, 1, 2, 7, 8]
  | 4 => [0, 1, 2, 7, 8]
  | 8 => [6]
  | _ => []
theorem fn_s_l23Line : FnC Tryd.prog n_s_l23Line c_s_l23Line [(.tmp 6)] 27 :=
  ⟨Tryd.f21, _, k_s_l23Line, Tryd.func21, rfl, by kernel_rfl, by kernel_rfl, by kernel_rfl, rfl⟩
def r_s_l23Fits_0 : List CO := [⟨none, (some 4), (.mv (.k (.v (.bool false))))⟩]
def r_s_l23Fits_1 : List CO := [⟨none, (some 7), (.mv (.t 0))⟩, ⟨none, (some 8), (.call n_s_l23Good [(.t 7)])⟩, ⟨none, (some 9), (.un .not (.t 8))⟩, ⟨none, (some 10), (.mv (.t 9))⟩, ⟨(some (10, false)), (some 11), (.mv (.t 1))⟩, ⟨(some (10, false)), (some 12), (.call n_s_l1In [(.t 11), (.k (.v (.int .i64 (1)))), (.k (.v (.int .i64 (40))))])⟩, ⟨(some (10, false)), (some 13), (.un .not (.t 12))⟩, ⟨none, (some 14), (.pick (.t 10) (.k (.v (.bool true))) (.t 13))⟩]
def r_s_l23Fits_2 : List CO := [⟨none, (some 4), (.mv (.k (.v (.bool false))))⟩]
def r_s_l23Fits_3 : List CO := [⟨none, (some 15), (.mv (.t 0))⟩, ⟨none, (some 16), (.call n_s_l1Split [(.t 15), (.k (.v (.int .u8 (32))))])⟩, ⟨none, (some 5), (.mv (.t 16))⟩]
def r_s_l23Fits_4 : List CO := [⟨none, (some 6), (.mv (.k (.v (.int .i64 (0)))))⟩]
def r_s_l23Fits_5 : List CO := [⟨none, (some 17), (.mv (.t 6))⟩, ⟨none, (some 18), (.mv (.t 5))⟩, ⟨none, (some 19), (.len false (.t 18))⟩, ⟨none, (some 20), (.bin .lss .none (.t 17) (.t 19))⟩]
def r_s_l23Fits_6 : List CO := [⟨none, (some 23), (.mv (.t 5))⟩, ⟨none, (some 24), (.mv (.t 6))⟩, ⟨none, (some 25), (.iaddr 1 (.t 23) (.t 24))⟩, ⟨none, (some 26), (.ld false 1 (.t 25))⟩, ⟨none, (some 27), (.len true (.t 26))⟩, ⟨none, (some 28), (.mv (.t 1))⟩, ⟨none, (some 29), (.bin .gtr .none (.t 27) (.t 28))⟩]
def r_s_l23Fits_7 : List CO := [⟨none, (some 4), (.mv (.k (.v (.bool false))))⟩]
def r_s_l23Fits_8 : List CO := [⟨none, (some 21), (.mv (.t 6))⟩, ⟨none, (some 22), (.bin .add .none (.t 21) (.k (.v (.int .i64 (1)))))⟩, ⟨none, (some 6), (.mv (.t 22))⟩]
def l_s_l23Fits_9 : C := (.seq (.seq (.reg r_s_l23Fits_5 [1, 5, 6, 20]) (.cond (.t 20) .skip (.exit 0))) (.seq (.block 1 (.seq (.reg r_s_l23Fits_6 [1, 5, 6, 29]) (.cond (.t 29) (.seq (.reg r_s_l23Fits_7 [4]) .ret) .skip))) (.reg r_s_l23Fits_8 [1, 5, 6])))
def r_s_l23Fits_10 : List CO := [⟨none, (some 4), (.mv (.k (.v (.bool true))))⟩]
/-- loop.example/g00884/spec.l23Fits -/
def c_s_l23Fits : C := (.seq (.reg r_s_l23Fits_0 [0, 1]) (.seq (.seq (.reg r_s_l23Fits_1 [0, 1, 14]) (.cond (.t 14) (.seq (.reg r_s_l23Fits_2 [4]) .ret) .skip)) (.seq (.reg r_s_l23Fits_3 [1, 5]) (.seq (.seq (.reg r_s_l23Fits_4 [1, 5, 6]) (.block 0 (.loop l_s_l23Fits_9))) (.seq (.reg r_s_l23Fits_10 [4]) .ret)))))
def k_s_l23Fits : Nat → List Nat
  | 0 => [0, 1]
  | 1 => [0, 1, 14]
  | 2 => [4]
  | 3 => [1, 5]
  | 4 => [1, 5, 6]
  | 5 => [1, 5, 6, 20]
  | 7 => [1, 5, 6, 29]
  | 8 => [4]
  | 6 => [1, 5, 6]
  | 9 => [4]
  | _ => []
theorem fn_s_l23Fits : FnC Tryd.prog n_s_l23Fits c_s_l23Fits [(.tmp 4)] 30 :=
  ⟨Tryd.f19, _, k_s_l23Fits, Tryd.func19, rfl, by kernel_rfl, by kernel_rfl, by kernel_rfl, rfl⟩
end Go.Proofs.YtopcfaffljjnbaaDoor
