/- The compact code of the functions, and that it is theirs: written by a program of this claim. -/
import Derived.Test.YtbeoijlggphklaaGreatNums
namespace Go.Proofs.YtbeoijlggphklaaGreat
open Go.Abs
set_option maxRecDepth 100000
def r_w_eqField_0 : List CO := [⟨none, (some 2), (.box 4 (.t 0))⟩, ⟨none, (some 3), (.box 4 (.t 1))⟩, ⟨none, (some 4), (.mv (.k (.v (.bool false))))⟩]
def r_w_eqField_1 : List CO := [⟨none, (some 5), (.faddr 0 (.t 2))⟩, ⟨none, (some 6), (.ld false 1 (.t 5))⟩, ⟨none, (some 7), (.faddr 0 (.t 3))⟩, ⟨none, (some 8), (.ld false 1 (.t 7))⟩, ⟨none, (some 9), (.bin .neq .none (.t 6) (.t 8))⟩]
def r_w_eqField_2 : List CO := [⟨none, (some 4), (.mv (.k (.v (.bool false))))⟩]
def r_w_eqField_3 : List CO := [⟨none, (some 10), (.faddr 1 (.t 2))⟩, ⟨none, (some 11), (.ld false 1 (.t 10))⟩, ⟨none, (some 12), (.faddr 1 (.t 3))⟩, ⟨none, (some 13), (.ld false 1 (.t 12))⟩, ⟨none, (some 14), (.bin .neq .none (.t 11) (.t 13))⟩]
def r_w_eqField_4 : List CO := [⟨none, (some 4), (.mv (.k (.v (.bool false))))⟩]
def r_w_eqField_5 : List CO := [⟨none, (some 15), (.faddr 2 (.t 2))⟩, ⟨none, (some 16), (.ld false 1 (.t 15))⟩, ⟨none, (some 17), (.faddr 2 (.t 3))⟩, ⟨none, (some 18), (.ld false 1 (.t 17))⟩, ⟨none, (some 19), (.bin .neq .none (.t 16) (.t 18))⟩]
def r_w_eqField_6 : List CO := [⟨none, (some 4), (.mv (.k (.v (.bool false))))⟩]
def r_w_eqField_7 : List CO := [⟨none, (some 20), (.faddr 3 (.t 2))⟩, ⟨none, (some 21), (.ld false 1 (.t 20))⟩, ⟨none, (some 22), (.faddr 3 (.t 3))⟩, ⟨none, (some 23), (.ld false 1 (.t 22))⟩, ⟨none, (some 24), (.bin .neq .none (.t 21) (.t 23))⟩]
def r_w_eqField_8 : List CO := [⟨none, (some 4), (.mv (.k (.v (.bool false))))⟩]
def r_w_eqField_9 : List CO := [⟨none, (some 4), (.mv (.k (.v (.bool true))))⟩]
/-- loop.example/g00884/laws.eqField -/
def c_w_eqField : C := (.seq (.reg r_w_eqField_0 [2, 3]) (.seq (.seq (.reg r_w_eqField_1 [2, 3, 9]) (.cond (.t 9) (.seq (.reg r_w_eqField_2 [4]) .ret) .skip)) (.seq (.seq (.reg r_w_eqField_3 [2, 3, 14]) (.cond (.t 14) (.seq (.reg r_w_eqField_4 [4]) .ret) .skip)) (.seq (.seq (.reg r_w_eqField_5 [2, 3, 19]) (.cond (.t 19) (.seq (.reg r_w_eqField_6 [4]) .ret) .skip)) (.seq (.seq (.reg r_w_eqField_7 [24]) (.cond (.t 24) (.seq (.reg r_w_eqField_8 [4]) .ret) .skip)) (.seq (.reg r_w_eqField_9 [4]) .ret))))))
def k_w_eqField : Nat → List Nat
  | 0 => [2, 3]
  | 1 => [2, 3, 9]
  | 2 => [4]
  | 3 => [2, 3, 14]
  | 4 => [4]
  | 5 => [2, 3, 19]
  | 6 => [4]
  | 7 => [24]
  | 8 => [4]
  | 9 => [4]
  | _ => []
theorem fn_w_eqField : FnC Tryz.prog n_w_eqField c_w_eqField [(.tmp 4)] 25 :=
  ⟨Tryz.f83, _, k_w_eqField, Tryz.func83, rfl, by kernel_rfl, by kernel_rfl, by kernel_rfl, rfl⟩
def r_w_eqGroup_0 : List CO := [⟨none, (some 2), (.box 4 (.t 0))⟩, ⟨none, (some 3), (.box 4 (.t 1))⟩, ⟨none, (some 4), (.mv (.k (.v (.bool false))))⟩]
def r_w_eqGroup_1 : List CO := [⟨none, (some 5), (.faddr 0 (.t 2))⟩, ⟨none, (some 6), (.ld false 1 (.t 5))⟩, ⟨none, (some 7), (.faddr 0 (.t 3))⟩, ⟨none, (some 8), (.ld false 1 (.t 7))⟩, ⟨none, (some 9), (.bin .neq .none (.t 6) (.t 8))⟩]
def r_w_eqGroup_2 : List CO := [⟨none, (some 4), (.mv (.k (.v (.bool false))))⟩]
def r_w_eqGroup_3 : List CO := [⟨none, (some 10), (.faddr 1 (.t 2))⟩, ⟨none, (some 11), (.ld false 1 (.t 10))⟩, ⟨none, (some 12), (.faddr 1 (.t 3))⟩, ⟨none, (some 13), (.ld false 1 (.t 12))⟩, ⟨none, (some 14), (.bin .neq .none (.t 11) (.t 13))⟩]
def r_w_eqGroup_4 : List CO := [⟨none, (some 4), (.mv (.k (.v (.bool false))))⟩]
def r_w_eqGroup_5 : List CO := [⟨none, (some 15), (.faddr 2 (.t 2))⟩, ⟨none, (some 16), (.ld false 1 (.t 15))⟩, ⟨none, (some 17), (.faddr 2 (.t 3))⟩, ⟨none, (some 18), (.ld false 1 (.t 17))⟩, ⟨none, (some 19), (.bin .neq .none (.t 16) (.t 18))⟩]
def r_w_eqGroup_6 : List CO := [⟨none, (some 4), (.mv (.k (.v (.bool false))))⟩]
def r_w_eqGroup_7 : List CO := [⟨none, (some 20), (.faddr 3 (.t 2))⟩, ⟨none, (some 21), (.ld false 1 (.t 20))⟩, ⟨none, (some 22), (.faddr 3 (.t 3))⟩, ⟨none, (some 23), (.ld false 1 (.t 22))⟩, ⟨none, (some 24), (.bin .neq .none (.t 21) (.t 23))⟩]
def r_w_eqGroup_8 : List CO := [⟨none, (some 4), (.mv (.k (.v (.bool false))))⟩]
def r_w_eqGroup_9 : List CO := [⟨none, (some 4), (.mv (.k (.v (.bool true))))⟩]
/-- loop.example/g00884/laws.eqGroup -/
def c_w_eqGroup : C := (.seq (.reg r_w_eqGroup_0 [2, 3]) (.seq (.seq (.reg r_w_eqGroup_1 [2, 3, 9]) (.cond (.t 9) (.seq (.reg r_w_eqGroup_2 [4]) .ret) .skip)) (.seq (.seq (.reg r_w_eqGroup_3 [2, 3, 14]) (.cond (.t 14) (.seq (.reg r_w_eqGroup_4 [4]) .ret) .skip)) (.seq (.seq (.reg r_w_eqGroup_5 [2, 3, 19]) (.cond (.t 19) (.seq (.reg r_w_eqGroup_6 [4]) .ret) .skip)) (.seq (.seq (.reg r_w_eqGroup_7 [24]) (.cond (.t 24) (.seq (.reg r_w_eqGroup_8 [4]) .ret) .skip)) (.seq (.reg r_w_eqGroup_9 [4]) .ret))))))
def k_w_eqGroup : Nat → List Nat
  | 0 => [2, 3]
  | 1 => [2, 3, 9]
  | 2 => [4]
  | 3 => [2, 3, 14]
  | 4 => [4]
  | 5 => [2, 3, 19]
  | 6 => [4]
  | 7 => [24]
  | 8 => [4]
  | 9 => [4]
  | _ => []
theorem fn_w_eqGroup : FnC Tryz.prog n_w_eqGroup c_w_eqGroup [(.tmp 4)] 25 :=
  ⟨Tryz.f84, _, k_w_eqGroup, Tryz.func84, rfl, by kernel_rfl, by kernel_rfl, by kernel_rfl, rfl⟩
def r_w_eqArms_0 : List CO := [⟨none, (some 2), (.box 15 (.t 0))⟩, ⟨none, (some 3), (.box 15 (.t 1))⟩, ⟨none, (some 4), (.mv (.k (.v (.bool false))))⟩]
def r_w_eqArms_1 : List CO := [⟨none, (some 5), (.faddr 0 (.t 2))⟩, ⟨none, (some 6), (.ld true 4 (.t 5))⟩, ⟨none, (some 7), (.faddr 0 (.t 3))⟩, ⟨none, (some 8), (.ld true 4 (.t 7))⟩, ⟨none, (some 9), (.call n_w_eqField [(.t 6), (.t 8)])⟩, ⟨none, (some 10), (.un .not (.t 9))⟩]
def r_w_eqArms_2 : List CO := [⟨none, (some 4), (.mv (.k (.v (.bool false))))⟩]
def r_w_eqArms_3 : List CO := [⟨none, (some 11), (.faddr 4 (.t 2))⟩, ⟨none, (some 12), (.ld false 1 (.t 11))⟩, ⟨none, (some 13), (.faddr 4 (.t 3))⟩, ⟨none, (some 14), (.ld false 1 (.t 13))⟩, ⟨none, (some 15), (.bin .neq .none (.t 12) (.t 14))⟩]
def r_w_eqArms_4 : List CO := [⟨none, (some 4), (.mv (.k (.v (.bool false))))⟩]
def r_w_eqArms_5 : List CO := [⟨none, (some 16), (.faddr 5 (.t 2))⟩, ⟨none, (some 17), (.ld false 1 (.t 16))⟩, ⟨none, (some 18), (.faddr 5 (.t 3))⟩, ⟨none, (some 19), (.ld false 1 (.t 18))⟩, ⟨none, (some 20), (.bin .neq .none (.t 17) (.t 19))⟩]
def r_w_eqArms_6 : List CO := [⟨none, (some 4), (.mv (.k (.v (.bool false))))⟩]
def r_w_eqArms_7 : List CO := [⟨none, (some 21), (.faddr 6 (.t 2))⟩, ⟨none, (some 22), (.ld false 1 (.t 21))⟩, ⟨none, (some 23), (.faddr 6 (.t 3))⟩, ⟨none, (some 24), (.ld false 1 (.t 23))⟩, ⟨none, (some 25), (.bin .neq .none (.t 22) (.t 24))⟩]
def r_w_eqArms_8 : List CO := [⟨none, (some 4), (.mv (.k (.v (.bool false))))⟩]
def r_w_eqArms_9 : List CO := [⟨none, (some 26), (.faddr 7 (.t 2))⟩, ⟨none, (some 27), (.ld true 4 (.t 26))⟩, ⟨none, (some 28), (.faddr 7 (.t 3))⟩, ⟨none, (some 29), (.ld true 4 (.t 28))⟩, ⟨none, (some 30), (.call n_w_eqGroup [(.t 27), (.t 29)])⟩, ⟨none, (some 31), (.un .not (.t 30))⟩]
def r_w_eqArms_10 : List CO := [⟨none, (some 4), (.mv (.k (.v (.bool false))))⟩]
def r_w_eqArms_11 : List CO := [⟨none, (some 32), (.faddr 11 (.t 2))⟩, ⟨none, (some 33), (.ld true 4 (.t 32))⟩, ⟨none, (some 34), (.faddr 11 (.t 3))⟩, ⟨none, (some 35), (.ld true 4 (.t 34))⟩, ⟨none, (some 36), (.call n_w_eqGroup [(.t 33), (.t 35)])⟩, ⟨none, (some 37), (.un .not (.t 36))⟩]
def r_w_eqArms_12 : List CO := [⟨none, (some 4), (.mv (.k (.v (.bool false))))⟩]
def r_w_eqArms_13 : List CO := [⟨none, (some 4), (.mv (.k (.v (.bool true))))⟩]
/-- loop.example/g00884/laws.eqArms -/
def c_w_eqArms : C := (.seq (.reg r_w_eqArms_0 [2, 3]) (.seq (.seq (.reg r_w_eqArms_1 [2, 3, 10]) (.cond (.t 10) (.seq (.reg r_w_eqArms_2 [4]) .ret) .skip)) (.seq (.seq (.reg r_w_eqArms_3 [2, 3, 15]) (.cond (.t 15) (.seq (.reg r_w_eqArms_4 [4]) .ret) .skip)) (.seq (.seq (.reg r_w_eqArms_5 [2, 3, 20]) (.cond (.t 20) (.seq (.reg r_w_eqArms_6 [4]) .ret) .skip)) (.seq (.seq (.reg r_w_eqArms_7 [2, 3, 25]) (.cond (.t 25) (.seq (.reg r_w_eqArms_8 [4]) .ret) .skip)) (.seq (.seq (.reg r_w_eqArms_9 [2, 3, 31]) (.cond (.t 31) (.seq (.reg r_w_eqArms_10 [4]) .ret) .skip)) (.seq (.seq (.reg r_w_eqArms_11 [37]) (.cond (.t 37) (.seq (.reg r_w_eqArms_12 [4]) .ret) .skip)) (.seq (.reg r_w_eqArms_13 [4]) .ret))))))))
def k_w_eqArms : Nat → List Nat
  | 0 => [2, 3]
  | 1 => [2, 3, 10]
  | 2 => [4]
  | 3 => [2, 3, 15]
  | 4 => [4]
  | 5 => [2, 3, 20]
  | 6 => [4]
  | 7 => [2, 3, 25]
  | 8 => [4]
  | 9 => [2, 3, 31]
  | 10 => [4]
  | 11 => [37]
  | 12 => [4]
  | 13 => [4]
  | _ => []
theorem fn_w_eqArms : FnC Tryz.prog n_w_eqArms c_w_eqArms [(.tmp 4)] 38 :=
  ⟨Tryz.f55, _, k_w_eqArms, Tryz.func55, rfl, by kernel_rfl, by kernel_rfl, by kernel_rfl, rfl⟩
def r_w_eqGrant_0 : List CO := [⟨none, (some 2), (.box 18 (.t 0))⟩, ⟨none, (some 3), (.box 18 (.t 1))⟩, ⟨none, (some 4), (.mv (.k (.v (.bool false))))⟩]
def r_w_eqGrant_1 : List CO := [⟨none, (some 5), (.faddr 0 (.t 2))⟩, ⟨none, (some 6), (.ld false 1 (.t 5))⟩, ⟨none, (some 7), (.faddr 0 (.t 3))⟩, ⟨none, (some 8), (.ld false 1 (.t 7))⟩, ⟨none, (some 9), (.bin .neq .none (.t 6) (.t 8))⟩]
def r_w_eqGrant_2 : List CO := [⟨none, (some 4), (.mv (.k (.v (.bool false))))⟩]
def r_w_eqGrant_3 : List CO := [⟨none, (some 10), (.faddr 1 (.t 2))⟩, ⟨none, (some 11), (.ld false 1 (.t 10))⟩, ⟨none, (some 12), (.faddr 1 (.t 3))⟩, ⟨none, (some 13), (.ld false 1 (.t 12))⟩, ⟨none, (some 14), (.bin .neq .none (.t 11) (.t 13))⟩]
def r_w_eqGrant_4 : List CO := [⟨none, (some 4), (.mv (.k (.v (.bool false))))⟩]
def r_w_eqGrant_5 : List CO := [⟨none, (some 15), (.faddr 2 (.t 2))⟩, ⟨none, (some 16), (.ld false 1 (.t 15))⟩, ⟨none, (some 17), (.faddr 2 (.t 3))⟩, ⟨none, (some 18), (.ld false 1 (.t 17))⟩, ⟨none, (some 19), (.bin .neq .none (.t 16) (.t 18))⟩]
def r_w_eqGrant_6 : List CO := [⟨none, (some 4), (.mv (.k (.v (.bool false))))⟩]
def r_w_eqGrant_7 : List CO := [⟨none, (some 20), (.faddr 3 (.t 2))⟩, ⟨none, (some 21), (.ld true 15 (.t 20))⟩, ⟨none, (some 22), (.faddr 3 (.t 3))⟩, ⟨none, (some 23), (.ld true 15 (.t 22))⟩, ⟨none, (some 24), (.call n_w_eqArms [(.t 21), (.t 23)])⟩, ⟨none, (some 25), (.un .not (.t 24))⟩]
def r_w_eqGrant_8 : List CO := [⟨none, (some 4), (.mv (.k (.v (.bool false))))⟩]
def r_w_eqGrant_9 : List CO := [⟨none, (some 4), (.mv (.k (.v (.bool true))))⟩]
/-- loop.example/g00884/laws.eqGrant -/
def c_w_eqGrant : C := (.seq (.reg r_w_eqGrant_0 [2, 3]) (.seq (.seq (.reg r_w_eqGrant_1 [2, 3, 9]) (.cond (.t 9) (.seq (.reg r_w_eqGrant_2 [4]) .ret) .skip)) (.seq (.seq (.reg r_w_eqGrant_3 [2, 3, 14]) (.cond (.t 14) (.seq (.reg r_w_eqGrant_4 [4]) .ret) .skip)) (.seq (.seq (.reg r_w_eqGrant_5 [2, 3, 19]) (.cond (.t 19) (.seq (.reg r_w_eqGrant_6 [4]) .ret) .skip)) (.seq (.seq (.reg r_w_eqGrant_7 [25]) (.cond (.t 25) (.seq (.reg r_w_eqGrant_8 [4]) .ret) .skip)) (.seq (.reg r_w_eqGrant_9 [4]) .ret))))))
def k_w_eqGrant : Nat → List Nat
  | 0 => [2, 3]
  | 1 => [2, 3, 9]
  | 2 => [4]
  | 3 => [2, 3, 14]
  | 4 => [4]
  | 5 => [2, 3, 19]
  | 6 => [4]
  | 7 => [25]
  | 8 => [4]
  | 9 => [4]
  | _ => []
theorem fn_w_eqGrant : FnC Tryz.prog n_w_eqGrant c_w_eqGrant [(.tmp 4)] 26 :=
  ⟨Tryz.f39, _, k_w_eqGrant, Tryz.func39, rfl, by kernel_rfl, by kernel_rfl, by kernel_rfl, rfl⟩
def r_w_eqGrantS_0 : List CO := [⟨none, (some 4), (.mv (.k (.v (.bool false))))⟩]
def r_w_eqGrantS_1 : List CO := [⟨none, (some 6), (.mv (.t 0))⟩, ⟨none, (some 7), (.len false (.t 6))⟩, ⟨none, (some 8), (.mv (.t 1))⟩, ⟨none, (some 9), (.len false (.t 8))⟩, ⟨none, (some 10), (.bin .neq .none (.t 7) (.t 9))⟩]
def r_w_eqGrantS_2 : List CO := [⟨none, (some 4), (.mv (.k (.v (.bool false))))⟩]
def r_w_eqGrantS_3 : List CO := [⟨none, (some 5), (.mv (.k (.v (.int .i64 (0)))))⟩]
def r_w_eqGrantS_4 : List CO := [⟨none, (some 11), (.mv (.t 5))⟩, ⟨none, (some 12), (.mv (.t 0))⟩, ⟨none, (some 13), (.len false (.t 12))⟩, ⟨none, (some 14), (.bin .lss .none (.t 11) (.t 13))⟩]
def r_w_eqGrantS_5 : List CO := [⟨none, (some 17), (.mv (.t 0))⟩, ⟨none, (some 18), (.mv (.t 5))⟩, ⟨none, (some 19), (.iaddr 18 (.t 17) (.t 18))⟩, ⟨none, (some 20), (.ld true 18 (.t 19))⟩, ⟨none, (some 21), (.mv (.t 1))⟩, ⟨none, (some 22), (.mv (.t 5))⟩, ⟨none, (some 23), (.iaddr 18 (.t 21) (.t 22))⟩, ⟨none, (some 24), (.ld true 18 (.t 23))⟩, ⟨none, (some 25), (.call n_w_eqGrant [(.t 20), (.t 24)])⟩, ⟨none, (some 26), (.un .not (.t 25))⟩]
def p_w_eqGrantS_5 : List (List Nat) := [[], [], [0, 1], [0, 1, 2], [], [], [4, 5], [4, 5, 6], [0, 1, 2, 3, 4, 5, 6, 7], [0, 1, 2, 3, 4, 5, 6, 7, 8]]
def r_w_eqGrantS_6 : List CO := [⟨none, (some 4), (.mv (.k (.v (.bool false))))⟩]
def r_w_eqGrantS_7 : List CO := [⟨none, (some 15), (.mv (.t 5))⟩, ⟨none, (some 16), (.bin .add .none (.t 15) (.k (.v (.int .i64 (1)))))⟩, ⟨none, (some 5), (.mv (.t 16))⟩]
def l_w_eqGrantS_8 : C := (.seq (.seq (.reg r_w_eqGrantS_4 [0, 1, 5, 14]) (.cond (.t 14) .skip (.exit 0))) (.seq (.block 1 (.seq (.regD r_w_eqGrantS_5 p_w_eqGrantS_5 [0, 1, 5, 26]) (.cond (.t 26) (.seq (.reg r_w_eqGrantS_6 [4]) .ret) .skip))) (.reg r_w_eqGrantS_7 [0, 1, 5])))
def r_w_eqGrantS_9 : List CO := [⟨none, (some 4), (.mv (.k (.v (.bool true))))⟩]
/-- loop.example/g00884/laws.eqGrantS -/
def c_w_eqGrantS : C := (.seq (.reg r_w_eqGrantS_0 [0, 1]) (.seq (.seq (.reg r_w_eqGrantS_1 [0, 1, 10]) (.cond (.t 10) (.seq (.reg r_w_eqGrantS_2 [4]) .ret) .skip)) (.seq (.seq (.reg r_w_eqGrantS_3 [0, 1, 5]) (.block 0 (.loop l_w_eqGrantS_8))) (.seq (.reg r_w_eqGrantS_9 [4]) .ret))))
def k_w_eqGrantS : Nat → List Nat
  | 0 => [0, 1]
  | 1 => [0, 1, 10]
  | 2 => [4]
  | 3 => [0, 1, 5]
  | 4 => [0, 1, 5, 14]
  | 6 => [0, 1, 5, 26]
  | 7 => [4]
  | 5 => [0, 1, 5]
  | 8 => [4]
  | _ => []
theorem fn_w_eqGrantS : FnC Tryz.prog n_w_eqGrantS c_w_eqGrantS [(.tmp 4)] 27 :=
  ⟨Tryz.f21, _, k_w_eqGrantS, Tryz.func21, rfl, by kernel_rfl, by kernel_rfl, by kernel_rfl, rfl⟩
def r_w_eqRegister_0 : List CO := [⟨none, (some 2), (.box 1 (.t 0))⟩, ⟨none, (some 3), (.box 1 (.t 1))⟩, ⟨none, (some 4), (.mv (.k (.v (.bool false))))⟩]
def r_w_eqRegister_1 : List CO := [⟨none, (some 5), (.faddr 0 (.t 2))⟩, ⟨none, (some 6), (.ld false 1 (.t 5))⟩, ⟨none, (some 7), (.faddr 0 (.t 3))⟩, ⟨none, (some 8), (.ld false 1 (.t 7))⟩, ⟨none, (some 9), (.call n_w_eqGrantS [(.t 6), (.t 8)])⟩, ⟨none, (some 10), (.un .not (.t 9))⟩]
def r_w_eqRegister_2 : List CO := [⟨none, (some 4), (.mv (.k (.v (.bool false))))⟩]
def r_w_eqRegister_3 : List CO := [⟨none, (some 4), (.mv (.k (.v (.bool true))))⟩]
/-- loop.example/g00884/laws.eqRegister -/
def c_w_eqRegister : C := (.seq (.reg r_w_eqRegister_0 [2, 3]) (.seq (.seq (.reg r_w_eqRegister_1 [10]) (.cond (.t 10) (.seq (.reg r_w_eqRegister_2 [4]) .ret) .skip)) (.seq (.reg r_w_eqRegister_3 [4]) .ret)))
def k_w_eqRegister : Nat → List Nat
  | 0 => [2, 3]
  | 1 => [10]
  | 2 => [4]
  | 3 => [4]
  | _ => []
theorem fn_w_eqRegister : FnC Tryz.prog n_w_eqRegister c_w_eqRegister [(.tmp 4)] 11 :=
  ⟨Tryz.f9, _, k_w_eqRegister, Tryz.func9, rfl, by kernel_rfl, by kernel_rfl, by kernel_rfl, rfl⟩
def r_w_toGrant_0 : List CO := [⟨none, (some 1), (.box 18 (.t 0))⟩, ⟨none, (some 2), (.box 18 (.k (.agg [(.v (.int .i64 (0))), (.v (.string (bs []))), (.v (.int .i64 (0))), (.v (.int .i64 (0))), (.v (.int .i64 (0))), (.v (.int .i64 (0))), (.v (.int .i64 (0))), (.v (.int .i64 (0))), (.v (.int .i64 (0))), (.v (.int .i64 (0))), (.v (.int .i64 (0))), (.v (.int .i64 (0))), (.v (.int .i64 (0))), (.v (.int .i64 (0))), (.v (.int .i64 (0))), (.v (.int .i64 (0))), (.v (.int .i64 (0))), (.v (.int .i64 (0)))])))⟩]
def r_w_toGrant_1 : List CO := [⟨none, (some 3), (.box 18 (.k (.agg [(.v (.int .i64 (0))), (.v (.string (bs []))), (.v (.int .i64 (0))), (.v (.int .i64 (0))), (.v (.int .i64 (0))), (.v (.int .i64 (0))), (.v (.int .i64 (0))), (.v (.int .i64 (0))), (.v (.int .i64 (0))), (.v (.int .i64 (0))), (.v (.int .i64 (0))), (.v (.int .i64 (0))), (.v (.int .i64 (0))), (.v (.int .i64 (0))), (.v (.int .i64 (0))), (.v (.int .i64 (0))), (.v (.int .i64 (0))), (.v (.int .i64 (0)))])))⟩]
def r_w_toGrant_2 : List CO := [⟨none, (some 4), (.faddr 0 (.t 1))⟩, ⟨none, (some 5), (.ld false 1 (.t 4))⟩, ⟨none, (some 6), (.faddr 0 (.t 3))⟩, ⟨none, none, (.st 1 (.t 6) (.t 5))⟩]
def r_w_toGrant_3 : List CO := [⟨none, (some 7), (.faddr 1 (.t 1))⟩, ⟨none, (some 8), (.ld false 1 (.t 7))⟩, ⟨none, (some 9), (.faddr 1 (.t 3))⟩, ⟨none, none, (.st 1 (.t 9) (.t 8))⟩]
def r_w_toGrant_4 : List CO := [⟨none, (some 10), (.faddr 2 (.t 1))⟩, ⟨none, (some 11), (.ld false 1 (.t 10))⟩, ⟨none, (some 12), (.faddr 2 (.t 3))⟩, ⟨none, none, (.st 1 (.t 12) (.t 11))⟩]
def r_w_toGrant_5 : List CO := [⟨none, (some 13), (.faddr 3 (.t 1))⟩, ⟨none, (some 14), (.ld true 15 (.t 13))⟩, ⟨none, (some 15), (.call n_w_toArms [(.t 14)])⟩, ⟨none, (some 16), (.faddr 3 (.t 3))⟩, ⟨none, none, (.st 15 (.t 16) (.t 15))⟩]
def r_w_toGrant_6 : List CO := [⟨none, (some 17), (.ld true 18 (.t 3))⟩, ⟨none, none, (.st 18 (.t 2) (.t 17))⟩]
/-- loop.example/g00884/laws.toGrant -/
def c_w_toGrant : C := (.seq (.reg r_w_toGrant_0 [1, 2]) (.seq (.reg r_w_toGrant_1 [1, 2, 3]) (.seq (.reg r_w_toGrant_2 [1, 2, 3]) (.seq (.reg r_w_toGrant_3 [1, 2, 3]) (.seq (.reg r_w_toGrant_4 [1, 2, 3]) (.seq (.reg r_w_toGrant_5 [2, 3]) (.seq (.reg r_w_toGrant_6 [2]) .ret)))))))
def k_w_toGrant : Nat → List Nat
  | 0 => [1, 2]
  | 1 => [1, 2, 3]
  | 2 => [1, 2, 3]
  | 3 => [1, 2, 3]
  | 4 => [1, 2, 3]
  | 5 => [2, 3]
  | 6 => [2]
  | _ => []
theorem fn_w_toGrant : FnC Tryz.prog n_w_toGrant c_w_toGrant [(.cell 2 true 18)] 18 :=
  ⟨Tryz.f28, _, k_w_toGrant, Tryz.func28, rfl, by kernel_rfl, by kernel_rfl, by kernel_rfl, rfl⟩
def r_w_szGrant_0 : List CO := [⟨none, (some 2), (.box 18 (.t 0))⟩, ⟨none, (some 4), (.mv (.k (.v (.int .i64 (0)))))⟩]
def r_w_szGrant_1 : List CO := [⟨none, (some 5), (.mv (.t 1))⟩, ⟨none, (some 6), (.faddr 1 (.t 2))⟩, ⟨none, (some 7), (.ld false 1 (.t 6))⟩, ⟨none, (some 8), (.len true (.t 7))⟩, ⟨none, (some 9), (.bin .sub .none (.t 5) (.t 8))⟩, ⟨none, (some 1), (.mv (.t 9))⟩]
def r_w_szGrant_2 : List CO := [⟨none, (some 10), (.mv (.t 1))⟩, ⟨none, (some 11), (.bin .lss .none (.t 10) (.k (.v (.int .i64 (0)))))⟩]
def r_w_szGrant_3 : List CO := [⟨none, (some 4), (.mv (.k (.v (.int .i64 (-1)))))⟩]
def r_w_szGrant_4 : List CO := [⟨none, (some 12), (.mv (.t 1))⟩, ⟨none, (some 4), (.mv (.t 12))⟩]
/-- loop.example/g00884/laws.szGrant -/
def c_w_szGrant : C := (.seq (.reg r_w_szGrant_0 [1, 2]) (.seq (.reg r_w_szGrant_1 [1]) (.seq (.seq (.reg r_w_szGrant_2 [1, 11]) (.cond (.t 11) (.seq (.reg r_w_szGrant_3 [4]) .ret) .skip)) (.seq (.reg r_w_szGrant_4 [4]) .ret))))
def k_w_szGrant : Nat → List Nat
  | 0 => [1, 2]
  | 1 => [1]
  | 2 => [1, 11]
  | 3 => [4]
  | 4 => [4]
  | _ => []
theorem fn_w_szGrant : FnC Tryz.prog n_w_szGrant c_w_szGrant [(.tmp 4)] 13 :=
  ⟨Tryz.f23, _, k_w_szGrant, Tryz.func23, rfl, by kernel_rfl, by kernel_rfl, by kernel_rfl, rfl⟩
def r_w_szGrantS_0 : List CO := [⟨none, (some 4), (.mv (.k (.v (.int .i64 (0)))))⟩]
def r_w_szGrantS_1 : List CO := [⟨none, (some 6), (.mv (.t 1))⟩, ⟨none, (some 7), (.mv (.t 0))⟩, ⟨none, (some 8), (.len false (.t 7))⟩, ⟨none, (some 9), (.bin .sub .none (.t 6) (.t 8))⟩, ⟨none, (some 1), (.mv (.t 9))⟩]
def r_w_szGrantS_2 : List CO := [⟨none, (some 10), (.mv (.t 1))⟩, ⟨none, (some 11), (.bin .lss .none (.t 10) (.k (.v (.int .i64 (0)))))⟩]
def r_w_szGrantS_3 : List CO := [⟨none, (some 4), (.mv (.k (.v (.int .i64 (-1)))))⟩]
def r_w_szGrantS_4 : List CO := [⟨none, (some 5), (.mv (.k (.v (.int .i64 (0)))))⟩]
def r_w_szGrantS_5 : List CO := [⟨none, (some 12), (.mv (.t 5))⟩, ⟨none, (some 13), (.mv (.t 0))⟩, ⟨none, (some 14), (.len false (.t 13))⟩, ⟨none, (some 15), (.bin .lss .none (.t 12) (.t 14))⟩]
def r_w_szGrantS_6 : List CO := [⟨none, (some 18), (.mv (.t 0))⟩, ⟨none, (some 19), (.mv (.t 5))⟩, ⟨none, (some 20), (.iaddr 18 (.t 18) (.t 19))⟩, ⟨none, (some 21), (.ld true 18 (.t 20))⟩, ⟨none, (some 22), (.mv (.t 1))⟩, ⟨none, (some 23), (.call n_w_szGrant [(.t 21), (.t 22)])⟩, ⟨none, (some 1), (.mv (.t 23))⟩]
def r_w_szGrantS_7 : List CO := [⟨none, (some 24), (.mv (.t 1))⟩, ⟨none, (some 25), (.bin .lss .none (.t 24) (.k (.v (.int .i64 (0)))))⟩]
def r_w_szGrantS_8 : List CO := [⟨none, (some 4), (.mv (.k (.v (.int .i64 (-1)))))⟩]
def r_w_szGrantS_9 : List CO := [⟨none, (some 16), (.mv (.t 5))⟩, ⟨none, (some 17), (.bin .add .none (.t 16) (.k (.v (.int .i64 (1)))))⟩, ⟨none, (some 5), (.mv (.t 17))⟩]
def l_w_szGrantS_10 : C := (.seq (.seq (.reg r_w_szGrantS_5 [0, 1, 5, 15]) (.cond (.t 15) .skip (.exit 0))) (.seq (.block 1 (.seq (.reg r_w_szGrantS_6 [0, 1, 5]) (.seq (.reg r_w_szGrantS_7 [0, 1, 5, 25]) (.cond (.t 25) (.seq (.reg r_w_szGrantS_8 [4]) .ret) .skip)))) (.reg r_w_szGrantS_9 [0, 1, 5])))
def r_w_szGrantS_11 : List CO := [⟨none, (some 26), (.mv (.t 1))⟩, ⟨none, (some 4), (.mv (.t 26))⟩]
/-- loop.example/g00884/laws.szGrantS -/
def c_w_szGrantS : C := (.seq (.reg r_w_szGrantS_0 [0, 1]) (.seq (.reg r_w_szGrantS_1 [0, 1]) (.seq (.seq (.reg r_w_szGrantS_2 [0, 1, 11]) (.cond (.t 11) (.seq (.reg r_w_szGrantS_3 [4]) .ret) .skip)) (.seq (.seq (.reg r_w_szGrantS_4 [0, 1, 5]) (.block 0 (.loop l_w_szGrantS_10))) (.seq (.reg r_w_szGrantS_11 [4]) .ret)))))
def k_w_szGrantS : Nat → List Nat
  | 0 => [0, 1]
  | 1 => [0, 1]
  | 2 => [0, 1, 11]
  | 3 => [4]
  | 4 => [0, 1, 5]
  | 5 => [0, 1, 5, 15]
  | 7 => [0, 1, 5]
  | 8 => [0, 1, 5, 25]
  | 9 => [4]
  | 6 => [0, 1, 5]
  | 10 => [4]
  | _ => []
theorem fn_w_szGrantS : FnC Tryz.prog n_w_szGrantS c_w_szGrantS [(.tmp 4)] 27 :=
  ⟨Tryz.f13, _, k_w_szGrantS, Tryz.func13, rfl, by kernel_rfl, by kernel_rfl, by kernel_rfl, rfl⟩
def r_w_szRegister_0 : List CO := [⟨none, (some 2), (.box 1 (.t 0))⟩, ⟨none, (some 4), (.mv (.k (.v (.int .i64 (0)))))⟩]
def r_w_szRegister_1 : List CO := [⟨none, (some 5), (.faddr 0 (.t 2))⟩, ⟨none, (some 6), (.ld false 1 (.t 5))⟩, ⟨none, (some 7), (.mv (.t 1))⟩, ⟨none, (some 8), (.call n_w_szGrantS [(.t 6), (.t 7)])⟩, ⟨none, (some 1), (.mv (.t 8))⟩]
def r_w_szRegister_2 : List CO := [⟨none, (some 9), (.mv (.t 1))⟩, ⟨none, (some 10), (.bin .lss .none (.t 9) (.k (.v (.int .i64 (0)))))⟩]
def r_w_szRegister_3 : List CO := [⟨none, (some 4), (.mv (.k (.v (.int .i64 (-1)))))⟩]
def r_w_szRegister_4 : List CO := [⟨none, (some 11), (.mv (.t 1))⟩, ⟨none, (some 4), (.mv (.t 11))⟩]
/-- loop.example/g00884/laws.szRegister -/
def c_w_szRegister : C := (.seq (.reg r_w_szRegister_0 [1, 2]) (.seq (.reg r_w_szRegister_1 [1]) (.seq (.seq (.reg r_w_szRegister_2 [1, 10]) (.cond (.t 10) (.seq (.reg r_w_szRegister_3 [4]) .ret) .skip)) (.seq (.reg r_w_szRegister_4 [4]) .ret))))
def k_w_szRegister : Nat → List Nat
  | 0 => [1, 2]
  | 1 => [1]
  | 2 => [1, 10]
  | 3 => [4]
  | 4 => [4]
  | _ => []
theorem fn_w_szRegister : FnC Tryz.prog n_w_szRegister c_w_szRegister [(.tmp 4)] 12 :=
  ⟨Tryz.f4, _, k_w_szRegister, Tryz.func4, rfl, by kernel_rfl, by kernel_rfl, by kernel_rfl, rfl⟩
def r_w_toGrantS_0 : List CO := [⟨none, (some 2), (.mv (.k (.v (.slice none 0 0))))⟩]
def r_w_toGrantS_1 : List CO := [⟨none, (some 5), (.mv (.t 0))⟩, ⟨none, (some 6), (.len false (.t 5))⟩, ⟨none, (some 7), (.mks 18 (.agg [(.v (.int .i64 (0))), (.v (.string (bs []))), (.v (.int .i64 (0))), (.v (.int .i64 (0))), (.v (.int .i64 (0))), (.v (.int .i64 (0))), (.v (.int .i64 (0))), (.v (.int .i64 (0))), (.v (.int .i64 (0))), (.v (.int .i64 (0))), (.v (.int .i64 (0))), (.v (.int .i64 (0))), (.v (.int .i64 (0))), (.v (.int .i64 (0))), (.v (.int .i64 (0))), (.v (.int .i64 (0))), (.v (.int .i64 (0))), (.v (.int .i64 (0)))]) 152 (.t 6) (.t 6))⟩, ⟨none, (some 3), (.mv (.t 7))⟩]
def r_w_toGrantS_2 : List CO := [⟨none, (some 4), (.mv (.k (.v (.int .i64 (0)))))⟩]
def r_w_toGrantS_3 : List CO := [⟨none, (some 8), (.mv (.t 4))⟩, ⟨none, (some 9), (.mv (.t 0))⟩, ⟨none, (some 10), (.len false (.t 9))⟩, ⟨none, (some 11), (.bin .lss .none (.t 8) (.t 10))⟩]
def r_w_toGrantS_4 : List CO := [⟨none, (some 14), (.mv (.t 3))⟩, ⟨none, (some 15), (.mv (.t 4))⟩, ⟨none, (some 16), (.mv (.t 0))⟩, ⟨none, (some 17), (.mv (.t 4))⟩, ⟨none, (some 18), (.iaddr 18 (.t 16) (.t 17))⟩, ⟨none, (some 19), (.ld true 18 (.t 18))⟩, ⟨none, (some 20), (.call n_w_toGrant [(.t 19)])⟩, ⟨none, (some 21), (.iaddr 18 (.t 14) (.t 15))⟩, ⟨none, none, (.st 18 (.t 21) (.t 20))⟩]
def r_w_toGrantS_5 : List CO := [⟨none, (some 12), (.mv (.t 4))⟩, ⟨none, (some 13), (.bin .add .none (.t 12) (.k (.v (.int .i64 (1)))))⟩, ⟨none, (some 4), (.mv (.t 13))⟩]
def l_w_toGrantS_6 : C := (.seq (.seq (.reg r_w_toGrantS_3 [0, 3, 4, 11]) (.cond (.t 11) .skip (.exit 0))) (.seq (.block 1 (.reg r_w_toGrantS_4 [0, 3, 4])) (.reg r_w_toGrantS_5 [0, 3, 4])))
def r_w_toGrantS_7 : List CO := [⟨none, (some 22), (.mv (.t 3))⟩, ⟨none, (some 2), (.mv (.t 22))⟩]
/-- loop.example/g00884/laws.toGrantS -/
def c_w_toGrantS : C := (.seq (.reg r_w_toGrantS_0 [0]) (.seq (.reg r_w_toGrantS_1 [0, 3]) (.seq (.seq (.reg r_w_toGrantS_2 [0, 3, 4]) (.block 0 (.loop l_w_toGrantS_6))) (.seq (.reg r_w_toGrantS_7 [2]) .ret))))
def k_w_toGrantS : Nat → List Nat
  | 0 => [0]
  | 1 => [0, 3]
  | 2 => [0, 3, 4]
  | 3 => [0, 3, 4, 11]
  | 5 => [0, 3, 4]
  | 4 => [0, 3, 4]
  | 6 => [2]
  | _ => []
theorem fn_w_toGrantS : FnC Tryz.prog n_w_toGrantS c_w_toGrantS [(.tmp 2)] 23 :=
  ⟨Tryz.f17, _, k_w_toGrantS, Tryz.func17, rfl, by kernel_rfl, by kernel_rfl, by kernel_rfl, rfl⟩
def r_w_toRegister_0 : List CO := [⟨none, (some 1), (.box 1 (.t 0))⟩, ⟨none, (some 2), (.box 1 (.k (.agg [(.v (.slice none 0 0))])))⟩]
def r_w_toRegister_1 : List CO := [⟨none, (some 3), (.box 1 (.k (.agg [(.v (.slice none 0 0))])))⟩]
def r_w_toRegister_2 : List CO := [⟨none, (some 4), (.faddr 0 (.t 1))⟩, ⟨none, (some 5), (.ld false 1 (.t 4))⟩, ⟨none, (some 6), (.call n_w_toGrantS [(.t 5)])⟩, ⟨none, (some 7), (.faddr 0 (.t 3))⟩, ⟨none, none, (.st 1 (.t 7) (.t 6))⟩]
def r_w_toRegister_3 : List CO := [⟨none, (some 8), (.ld true 1 (.t 3))⟩, ⟨none, none, (.st 1 (.t 2) (.t 8))⟩]
/-- loop.example/g00884/laws.toRegister -/
def c_w_toRegister : C := (.seq (.reg r_w_toRegister_0 [1, 2]) (.seq (.reg r_w_toRegister_1 [1, 2, 3]) (.seq (.reg r_w_toRegister_2 [2, 3]) (.seq (.reg r_w_toRegister_3 [2]) .ret))))
def k_w_toRegister : Nat → List Nat
  | 0 => [1, 2]
  | 1 => [1, 2, 3]
  | 2 => [2, 3]
  | 3 => [2]
  | _ => []
theorem fn_w_toRegister : FnC Tryz.prog n_w_toRegister c_w_toRegister [(.cell 2 true 1)] 9 :=
  ⟨Tryz.f6, _, k_w_toRegister, Tryz.func6, rfl, by kernel_rfl, by kernel_rfl, by kernel_rfl, rfl⟩
end Go.Proofs.YtbeoijlggphklaaGreat
