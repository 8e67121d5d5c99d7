/- The compact code of the functions, and that it is theirs: written by a program of this claim. -/
import Derived.Test.YtbeoijlggphklaaGreatNums
namespace Go.Proofs.YtbeoijlggphklaaGreat
open Go.Abs
set_option maxRecDepth 100000
def r_i_Field_tinctures_0 : List CO := [⟨none, (some 1), (.box 4 (.t 0))⟩, ⟨none, (some 2), (.mv (.k (.v (.slice none 0 0))))⟩]
def r_i_Field_tinctures_1 : List CO := [⟨none, (some 3), (.faddr 0 (.t 1))⟩, ⟨none, (some 4), (.ld false 1 (.t 3))⟩, ⟨none, (some 5), (.bin .eql .none (.t 4) (.k (.v (.int .i64 (0)))))⟩]
def r_i_Field_tinctures_2 : List CO := [⟨none, (some 6), (.faddr 2 (.t 1))⟩, ⟨none, (some 7), (.ld false 1 (.t 6))⟩, ⟨none, (some 8), (.bslice 1 (.v (.int .i64 (0))) 1 [(0, (.t 7))])⟩, ⟨none, (some 2), (.mv (.t 8))⟩]
def r_i_Field_tinctures_3 : List CO := [⟨none, (some 9), (.faddr 2 (.t 1))⟩, ⟨none, (some 10), (.ld false 1 (.t 9))⟩, ⟨none, (some 11), (.faddr 3 (.t 1))⟩, ⟨none, (some 12), (.ld false 1 (.t 11))⟩, ⟨none, (some 13), (.bslice 1 (.v (.int .i64 (0))) 2 [(0, (.t 10)), (1, (.t 12))])⟩, ⟨none, (some 2), (.mv (.t 13))⟩]
/-- (loop.example/g00884/impl.Field).tinctures -/
def c_i_Field_tinctures : C := (.seq (.reg r_i_Field_tinctures_0 [1]) (.seq (.seq (.reg r_i_Field_tinctures_1 [1, 5]) (.cond (.t 5) (.seq (.reg r_i_Field_tinctures_2 [2]) .ret) .skip)) (.seq (.reg r_i_Field_tinctures_3 [2]) .ret)))
def k_i_Field_tinctures : Nat → List Nat
  | 0 => [1]
  | 1 => [1, 5]
  | 2 => [2]
  | 3 => [2]
  | _ => []
theorem fn_i_Field_tinctures : FnC Tryz.prog n_i_Field_tinctures c_i_Field_tinctures [(.tmp 2)] 14 :=
  ⟨Tryz.f94, _, k_i_Field_tinctures, Tryz.func94, rfl, by kernel_rfl, by kernel_rfl, by kernel_rfl, rfl⟩
def r_s_l3Tinctures_0 : List CO := [⟨none, (some 1), (.box 4 (.t 0))⟩, ⟨none, (some 2), (.mv (.k (.v (.slice none 0 0))))⟩]
def r_s_l3Tinctures_1 : List CO := [⟨none, (some 3), (.faddr 0 (.t 1))⟩, ⟨none, (some 4), (.ld false 1 (.t 3))⟩, ⟨none, (some 5), (.bin .eql .none (.t 4) (.k (.v (.int .i64 (0)))))⟩]
def r_s_l3Tinctures_2 : List CO := [⟨none, (some 6), (.faddr 2 (.t 1))⟩, ⟨none, (some 7), (.ld false 1 (.t 6))⟩, ⟨none, (some 8), (.bslice 1 (.v (.int .i64 (0))) 1 [(0, (.t 7))])⟩, ⟨none, (some 2), (.mv (.t 8))⟩]
def r_s_l3Tinctures_3 : List CO := [⟨none, (some 9), (.faddr 2 (.t 1))⟩, ⟨none, (some 10), (.ld false 1 (.t 9))⟩, ⟨none, (some 11), (.faddr 3 (.t 1))⟩, ⟨none, (some 12), (.ld false 1 (.t 11))⟩, ⟨none, (some 13), (.bslice 1 (.v (.int .i64 (0))) 2 [(0, (.t 10)), (1, (.t 12))])⟩, ⟨none, (some 2), (.mv (.t 13))⟩]
/-- loop.example/g00884/spec.l3Tinctures -/
def c_s_l3Tinctures : C := (.seq (.reg r_s_l3Tinctures_0 [1]) (.seq (.seq (.reg r_s_l3Tinctures_1 [1, 5]) (.cond (.t 5) (.seq (.reg r_s_l3Tinctures_2 [2]) .ret) .skip)) (.seq (.reg r_s_l3Tinctures_3 [2]) .ret)))
def k_s_l3Tinctures : Nat → List Nat
  | 0 => [1]
  | 1 => [1, 5]
  | 2 => [2]
  | 3 => [2]
  | _ => []
theorem fn_s_l3Tinctures : FnC Tryz.prog n_s_l3Tinctures c_s_l3Tinctures [(.tmp 2)] 14 :=
  ⟨Tryz.f88, _, k_s_l3Tinctures, Tryz.func88, rfl, by kernel_rfl, by kernel_rfl, by kernel_rfl, rfl⟩
def r_s_l1Same_0 : List CO := [⟨none, (some 4), (.mv (.k (.v (.bool false))))⟩]
def r_s_l1Same_1 : List CO := [⟨none, (some 6), (.mv (.t 0))⟩, ⟨none, (some 7), (.len false (.t 6))⟩, ⟨none, (some 8), (.mv (.t 1))⟩, ⟨none, (some 9), (.len false (.t 8))⟩, ⟨none, (some 10), (.bin .neq .none (.t 7) (.t 9))⟩]
def r_s_l1Same_2 : List CO := [⟨none, (some 4), (.mv (.k (.v (.bool false))))⟩]
def r_s_l1Same_3 : List CO := [⟨none, (some 5), (.mv (.k (.v (.int .i64 (0)))))⟩]
def r_s_l1Same_4 : List CO := [⟨none, (some 11), (.mv (.t 5))⟩, ⟨none, (some 12), (.mv (.t 0))⟩, ⟨none, (some 13), (.len false (.t 12))⟩, ⟨none, (some 14), (.bin .lss .none (.t 11) (.t 13))⟩]
def r_s_l1Same_5 : List CO := [⟨none, (some 17), (.mv (.t 0))⟩, ⟨none, (some 18), (.mv (.t 5))⟩, ⟨none, (some 19), (.iaddr 1 (.t 17) (.t 18))⟩, ⟨none, (some 20), (.ld false 1 (.t 19))⟩, ⟨none, (some 21), (.mv (.t 1))⟩, ⟨none, (some 22), (.mv (.t 5))⟩, ⟨none, (some 23), (.iaddr 1 (.t 21) (.t 22))⟩, ⟨none, (some 24), (.ld false 1 (.t 23))⟩, ⟨none, (some 25), (.bin .neq .none (.t 20) (.t 24))⟩]
def p_s_l1Same_5 : List (List Nat) := [[], [], [0, 1], [0, 1, 2], [], [], [4, 5], [4, 5, 6], [0, 1, 2, 3, 4, 5, 6, 7]]
def r_s_l1Same_6 : List CO := [⟨none, (some 4), (.mv (.k (.v (.bool false))))⟩]
def r_s_l1Same_7 : List CO := [⟨none, (some 15), (.mv (.t 5))⟩, ⟨none, (some 16), (.bin .add .none (.t 15) (.k (.v (.int .i64 (1)))))⟩, ⟨none, (some 5), (.mv (.t 16))⟩]
def l_s_l1Same_8 : C := (.seq (.seq (.reg r_s_l1Same_4 [0, 1, 5, 14]) (.cond (.t 14) .skip (.exit 0))) (.seq (.block 1 (.seq (.regD r_s_l1Same_5 p_s_l1Same_5 [0, 1, 5, 25]) (.cond (.t 25) (.seq (.reg r_s_l1Same_6 [4]) .ret) .skip))) (.reg r_s_l1Same_7 [0, 1, 5])))
def r_s_l1Same_9 : List CO := [⟨none, (some 4), (.mv (.k (.v (.bool true))))⟩]
/-- loop.example/g00884/spec.l1Same -/
def c_s_l1Same : C := (.seq (.reg r_s_l1Same_0 [0, 1]) (.seq (.seq (.reg r_s_l1Same_1 [0, 1, 10]) (.cond (.t 10) (.seq (.reg r_s_l1Same_2 [4]) .ret) .skip)) (.seq (.seq (.reg r_s_l1Same_3 [0, 1, 5]) (.block 0 (.loop l_s_l1Same_8))) (.seq (.reg r_s_l1Same_9 [4]) .ret))))
def k_s_l1Same : Nat → List Nat
  | 0 => [0, 1]
  | 1 => [0, 1, 10]
  | 2 => [4]
  | 3 => [0, 1, 5]
  | 4 => [0, 1, 5, 14]
  | 6 => [0, 1, 5, 25]
  | 7 => [4]
  | 5 => [0, 1, 5]
  | 8 => [4]
  | _ => []
theorem fn_s_l1Same : FnC Tryz.prog n_s_l1Same c_s_l1Same [(.tmp 4)] 26 :=
  ⟨Tryz.f87, _, k_s_l1Same, Tryz.func87, rfl, by kernel_rfl, by kernel_rfl, by kernel_rfl, rfl⟩
def r_slices_Equal_int_int_0 : List CO := [⟨none, (some 4), (.mv (.k (.v (.bool false))))⟩]
def r_slices_Equal_int_int_1 : List CO := [⟨none, (some 6), (.mv (.t 0))⟩, ⟨none, (some 7), (.len false (.t 6))⟩, ⟨none, (some 8), (.mv (.t 1))⟩, ⟨none, (some 9), (.len false (.t 8))⟩, ⟨none, (some 10), (.bin .neq .none (.t 7) (.t 9))⟩]
def r_slices_Equal_int_int_2 : List CO := [⟨none, (some 4), (.mv (.k (.v (.bool false))))⟩]
def r_slices_Equal_int_int_3 : List CO := [⟨none, (some 11), (.mv (.t 0))⟩, ⟨none, (some 12), (.len false (.t 11))⟩, ⟨none, (some 13), (.mv (.k (.v (.int .i64 (0)))))⟩]
def r_slices_Equal_int_int_4 : List CO := [⟨none, (some 14), (.bin .lss .none (.t 13) (.t 12))⟩]
def r_slices_Equal_int_int_5 : List CO := [⟨none, (some 15), (.mv (.t 13))⟩, ⟨none, (some 5), (.mv (.t 15))⟩]
def r_slices_Equal_int_int_6 : List CO := [⟨none, (some 16), (.mv (.t 0))⟩, ⟨none, (some 17), (.mv (.t 5))⟩, ⟨none, (some 18), (.iaddr 1 (.t 16) (.t 17))⟩, ⟨none, (some 19), (.ld false 1 (.t 18))⟩, ⟨none, (some 20), (.mv (.t 1))⟩, ⟨none, (some 21), (.mv (.t 5))⟩, ⟨none, (some 22), (.iaddr 1 (.t 20) (.t 21))⟩, ⟨none, (some 23), (.ld false 1 (.t 22))⟩, ⟨none, (some 24), (.bin .neq .none (.t 19) (.t 23))⟩]
def p_slices_Equal_int_int_6 : List (List Nat) := [[], [], [0, 1], [0, 1, 2], [], [], [4, 5], [4, 5, 6], [0, 1, 2, 3, 4, 5, 6, 7]]
def r_slices_Equal_int_int_7 : List CO := [⟨none, (some 4), (.mv (.k (.v (.bool false))))⟩]
def r_slices_Equal_int_int_8 : List CO := [⟨none, (some 25), (.bin .add .none (.t 13) (.k (.v (.int .i64 (1)))))⟩, ⟨none, (some 13), (.mv (.t 25))⟩]
def l_slices_Equal_int_int_9 : C := (.seq (.reg r_slices_Equal_int_int_4 [0, 1, 12, 13, 14]) (.seq (.cond (.t 14) .skip (.exit 0)) (.seq (.block 1 (.seq (.reg r_slices_Equal_int_int_5 [0, 1, 5, 12, 13]) (.seq (.regD r_slices_Equal_int_int_6 p_slices_Equal_int_int_6 [0, 1, 12, 13, 24]) (.cond (.t 24) (.seq (.reg r_slices_Equal_int_int_7 [4]) .ret) .skip)))) (.reg r_slices_Equal_int_int_8 [0, 1, 12, 13]))))
def r_slices_Equal_int_int_10 : List CO := [⟨none, (some 4), (.mv (.k (.v (.bool true))))⟩]
/-- slices.Equal[[]int,int] -/
def c_slices_Equal_int_int : C := (.seq (.reg r_slices_Equal_int_int_0 [0, 1]) (.seq (.seq (.reg r_slices_Equal_int_int_1 [0, 1, 10]) (.cond (.t 10) (.seq (.reg r_slices_Equal_int_int_2 [4]) .ret) .skip)) (.seq (.seq (.reg r_slices_Equal_int_int_3 [0, 1, 12, 13]) (.block 0 (.loop l_slices_Equal_int_int_9))) (.seq (.reg r_slices_Equal_int_int_10 [4]) .ret))))
def k_slices_Equal_int_int : Nat → List Nat
  | 0 => [0, 1]
  | 1 => [0, 1, 10]
  | 2 => [4]
  | 3 => [0, 1, 12, 13]
  | 4 => [0, 1, 12, 13, 14]
  | 5 => [0, 1, 5, 12, 13]
  | 6 => [0, 1, 12, 13, 24]
  | 7 => [4]
  | 8 => [0, 1, 12, 13]
  | 9 => [4]
  | _ => []
theorem fn_slices_Equal_int_int : FnC Tryz.prog n_slices_Equal_int_int c_slices_Equal_int_int [(.tmp 4)] 26 :=
  ⟨Tryz.f93, _, k_slices_Equal_int_int, Tryz.func93, rfl, by kernel_rfl, by kernel_rfl, by kernel_rfl, rfl⟩
def r_i_FieldDifferences_0 : List CO := [⟨none, (some 2), (.box 4 (.t 0))⟩, ⟨none, (some 3), (.box 4 (.t 1))⟩, ⟨none, (some 4), (.mv (.k (.v (.int .i64 (0)))))⟩, ⟨none, (some 5), (.mv (.k (.v (.bool false))))⟩]
def r_i_FieldDifferences_1 : List CO := [⟨none, (some 6), (.ld true 4 (.t 2))⟩, ⟨none, (some 7), (.call n_i_IsValidField [(.t 6)])⟩, ⟨none, (some 8), (.un .not (.t 7))⟩, ⟨none, (some 9), (.mv (.t 8))⟩, ⟨(some (9, false)), (some 10), (.ld true 4 (.t 3))⟩, ⟨(some (9, false)), (some 11), (.call n_i_IsValidField [(.t 10)])⟩, ⟨(some (9, false)), (some 12), (.un .not (.t 11))⟩, ⟨none, (some 13), (.pick (.t 9) (.k (.v (.bool true))) (.t 12))⟩]
def r_i_FieldDifferences_2 : List CO := [⟨none, (some 4), (.mv (.k (.v (.int .i64 (0)))))⟩, ⟨none, (some 5), (.mv (.k (.v (.bool false))))⟩]
def r_i_FieldDifferences_3 : List CO := [⟨none, (some 14), (.faddr 0 (.t 2))⟩, ⟨none, (some 15), (.ld false 1 (.t 14))⟩, ⟨none, (some 16), (.faddr 0 (.t 3))⟩, ⟨none, (some 17), (.ld false 1 (.t 16))⟩, ⟨none, (some 18), (.bin .neq .none (.t 15) (.t 17))⟩, ⟨none, (some 19), (.call n_i_number [(.t 18)])⟩, ⟨none, (some 20), (.faddr 1 (.t 2))⟩, ⟨none, (some 21), (.ld false 1 (.t 20))⟩, ⟨none, (some 22), (.faddr 1 (.t 3))⟩, ⟨none, (some 23), (.ld false 1 (.t 22))⟩, ⟨none, (some 24), (.bin .neq .none (.t 21) (.t 23))⟩, ⟨none, (some 25), (.call n_i_number [(.t 24)])⟩, ⟨none, (some 26), (.bin .add .none (.t 19) (.t 25))⟩, ⟨none, (some 27), (.ld true 4 (.t 2))⟩, ⟨none, (some 28), (.call n_i_Field_tinctures [(.t 27)])⟩, ⟨none, (some 29), (.ld true 4 (.t 3))⟩, ⟨none, (some 30), (.call n_i_Field_tinctures [(.t 29)])⟩, ⟨none, (some 31), (.call n_slices_Equal_int_int [(.t 28), (.t 30)])⟩, ⟨none, (some 32), (.un .not (.t 31))⟩, ⟨none, (some 33), (.call n_i_number [(.t 32)])⟩, ⟨none, (some 34), (.bin .add .none (.t 26) (.t 33))⟩, ⟨none, (some 4), (.mv (.t 34))⟩, ⟨none, (some 5), (.mv (.k (.v (.bool true))))⟩]
def p_i_FieldDifferences_3 : List (List Nat) := [[], [0], [], [2], [0, 1, 2, 3], [0, 1, 2, 3, 4], [], [6], [], [8], [6, 7, 8, 9], [0, 1, 2, 3, 4, 5, 6, 7, 8, 9, 10], [0, 1, 2, 3, 4, 5, 6, 7, 8, 9, 10, 11], [], [0, 1, 2, 3, 4, 5, 6, 7, 8, 9, 10, 11, 13], [], [0, 1, 2, 3, 4, 5, 6, 7, 8, 9, 10, 11, 13, 14, 15], [0, 1, 2, 3, 4, 5, 6, 7, 8, 9, 10, 11, 13, 14, 15, 16], [0, 1, 2, 3, 4, 5, 6, 7, 8, 9, 10, 11, 13, 14, 15, 16, 17], [0, 1, 2, 3, 4, 5, 6, 7, 8, 9, 10, 11, 13, 14, 15, 16, 17, 18], [0, 1, 2, 3, 4, 5, 6, 7, 8, 9, 10, 11, 12, 13, 14, 15, 16, 17, 18, 19], [0, 1, 2, 3, 4, 5, 6, 7, 8, 9, 10, 11, 12, 13, 14, 15, 16, 17, 18, 19, 20], [0, 1, 2, 3, 4, 5, 6, 7, 8, 9, 10, 11, 12, 13, 14, 15, 16, 17, 18, 19, 20, 21]]
/-- loop.example/g00884/impl.FieldDifferences -/
def c_i_FieldDifferences : C := (.seq (.reg r_i_FieldDifferences_0 [2, 3]) (.seq (.seq (.reg r_i_FieldDifferences_1 [2, 3, 13]) (.cond (.t 13) (.seq (.reg r_i_FieldDifferences_2 [4, 5]) .ret) .skip)) (.seq (.regD r_i_FieldDifferences_3 p_i_FieldDifferences_3 [4, 5]) .ret)))
def k_i_FieldDifferences : Nat → List Nat
  | 0 => [2, 3]
  | 1 => [2, 3, 13]
  | 2 => [4, 5]
  | 3 => [4, 5]
  | _ => []
theorem fn_i_FieldDifferences : FnC Tryz.prog n_i_FieldDifferences c_i_FieldDifferences [(.tmp 4), (.tmp 5)] 35 :=
  ⟨Tryz.f73, _, k_i_FieldDifferences, Tryz.func73, rfl, by kernel_rfl, by kernel_rfl, by kernel_rfl, rfl⟩
def r_s_l3Differences_0 : List CO := [⟨none, (some 2), (.box 4 (.t 0))⟩, ⟨none, (some 3), (.box 4 (.t 1))⟩, ⟨none, (some 4), (.mv (.k (.v (.int .i64 (0)))))⟩]
def r_s_l3Differences_1 : List CO := [⟨none, (some 5), (.mv (.k (.v (.int .i64 (0)))))⟩]
def r_s_l3Differences_2 : List CO := [⟨none, (some 6), (.faddr 0 (.t 2))⟩, ⟨none, (some 7), (.ld false 1 (.t 6))⟩, ⟨none, (some 8), (.faddr 0 (.t 3))⟩, ⟨none, (some 9), (.ld false 1 (.t 8))⟩, ⟨none, (some 10), (.bin .neq .none (.t 7) (.t 9))⟩]
def r_s_l3Differences_3 : List CO := [⟨none, (some 11), (.mv (.t 5))⟩, ⟨none, (some 12), (.bin .add .none (.t 11) (.k (.v (.int .i64 (1)))))⟩, ⟨none, (some 5), (.mv (.t 12))⟩]
def r_s_l3Differences_4 : List CO := [⟨none, (some 13), (.faddr 1 (.t 2))⟩, ⟨none, (some 14), (.ld false 1 (.t 13))⟩, ⟨none, (some 15), (.faddr 1 (.t 3))⟩, ⟨none, (some 16), (.ld false 1 (.t 15))⟩, ⟨none, (some 17), (.bin .neq .none (.t 14) (.t 16))⟩]
def r_s_l3Differences_5 : List CO := [⟨none, (some 18), (.mv (.t 5))⟩, ⟨none, (some 19), (.bin .add .none (.t 18) (.k (.v (.int .i64 (1)))))⟩, ⟨none, (some 5), (.mv (.t 19))⟩]
def r_s_l3Differences_6 : List CO := [⟨none, (some 20), (.ld true 4 (.t 2))⟩, ⟨none, (some 21), (.call n_s_l3Tinctures [(.t 20)])⟩, ⟨none, (some 22), (.ld true 4 (.t 3))⟩, ⟨none, (some 23), (.call n_s_l3Tinctures [(.t 22)])⟩, ⟨none, (some 24), (.call n_s_l1Same [(.t 21), (.t 23)])⟩, ⟨none, (some 25), (.un .not (.t 24))⟩]
def p_s_l3Differences_6 : List (List Nat) := [[], [0], [], [0, 1, 2], [0, 1, 2, 3], [0, 1, 2, 3, 4]]
def r_s_l3Differences_7 : List CO := [⟨none, (some 26), (.mv (.t 5))⟩, ⟨none, (some 27), (.bin .add .none (.t 26) (.k (.v (.int .i64 (1)))))⟩, ⟨none, (some 5), (.mv (.t 27))⟩]
def r_s_l3Differences_8 : List CO := [⟨none, (some 28), (.mv (.t 5))⟩, ⟨none, (some 4), (.mv (.t 28))⟩]
/-- loop.example/g00884/spec.l3Differences -/
def c_s_l3Differences : C := (.seq (.reg r_s_l3Differences_0 [2, 3]) (.seq (.reg r_s_l3Differences_1 [2, 3, 5]) (.seq (.seq (.reg r_s_l3Differences_2 [2, 3, 5, 10]) (.cond (.t 10) (.reg r_s_l3Differences_3 [2, 3, 5]) .skip)) (.seq (.seq (.reg r_s_l3Differences_4 [2, 3, 5, 17]) (.cond (.t 17) (.reg r_s_l3Differences_5 [2, 3, 5]) .skip)) (.seq (.seq (.regD r_s_l3Differences_6 p_s_l3Differences_6 [5, 25]) (.cond (.t 25) (.reg r_s_l3Differences_7 [5]) .skip)) (.seq (.reg r_s_l3Differences_8 [4]) .ret))))))
def k_s_l3Differences : Nat → List Nat
  | 0 => [2, 3]
  | 1 => [2, 3, 5]
  | 2 => [2, 3, 5, 10]
  | 3 => [2, 3, 5]
  | 4 => [2, 3, 5, 17]
  | 5 => [2, 3, 5]
  | 6 => [5, 25]
  | 7 => [5]
  | 8 => [4]
  | _ => []
theorem fn_s_l3Differences : FnC Tryz.prog n_s_l3Differences c_s_l3Differences [(.tmp 4)] 29 :=
  ⟨Tryz.f61, _, k_s_l3Differences, Tryz.func61, rfl, by kernel_rfl, by kernel_rfl, by kernel_rfl, rfl⟩
def r_i_groupDifferences_0 : List CO := [⟨none, (some 2), (.box 4 (.t 0))⟩, ⟨none, (some 3), (.box 4 (.t 1))⟩, ⟨none, (some 4), (.mv (.k (.v (.int .i64 (0)))))⟩]
def r_i_groupDifferences_1 : List CO := [⟨none, (some 6), (.ld true 4 (.t 2))⟩, ⟨none, (some 7), (.ld true 4 (.t 3))⟩, ⟨none, (some 8), (.bin .eql (.struct [EK.int, EK.int, EK.int, EK.int]) (.t 6) (.t 7))⟩]
def r_i_groupDifferences_2 : List CO := [⟨none, (some 4), (.mv (.k (.v (.int .i64 (0)))))⟩]
def r_i_groupDifferences_3 : List CO := [⟨none, (some 9), (.ld true 4 (.t 2))⟩, ⟨none, (some 10), (.build (.agg [(.v (.int .i64 (0))), (.v (.int .i64 (0))), (.v (.int .i64 (0))), (.v (.int .i64 (0)))]) [])⟩, ⟨none, (some 11), (.bin .eql (.struct [EK.int, EK.int, EK.int, EK.int]) (.t 9) (.t 10))⟩, ⟨none, (some 12), (.mv (.t 11))⟩, ⟨(some (12, false)), (some 13), (.ld true 4 (.t 3))⟩, ⟨(some (12, false)), (some 14), (.build (.agg [(.v (.int .i64 (0))), (.v (.int .i64 (0))), (.v (.int .i64 (0))), (.v (.int .i64 (0)))]) [])⟩, ⟨(some (12, false)), (some 15), (.bin .eql (.struct [EK.int, EK.int, EK.int, EK.int]) (.t 13) (.t 14))⟩, ⟨none, (some 16), (.pick (.t 12) (.k (.v (.bool true))) (.t 15))⟩]
def r_i_groupDifferences_4 : List CO := [⟨none, (some 4), (.mv (.k (.v (.int .i64 (2)))))⟩]
def r_i_groupDifferences_5 : List CO := [⟨none, (some 17), (.faddr 0 (.t 2))⟩, ⟨none, (some 18), (.ld false 1 (.t 17))⟩, ⟨none, (some 19), (.faddr 0 (.t 3))⟩, ⟨none, (some 20), (.ld false 1 (.t 19))⟩, ⟨none, (some 21), (.bin .neq .none (.t 18) (.t 20))⟩, ⟨none, (some 22), (.call n_i_number [(.t 21)])⟩, ⟨none, (some 23), (.faddr 3 (.t 2))⟩, ⟨none, (some 24), (.ld false 1 (.t 23))⟩, ⟨none, (some 25), (.faddr 3 (.t 3))⟩, ⟨none, (some 26), (.ld false 1 (.t 25))⟩, ⟨none, (some 27), (.bin .neq .none (.t 24) (.t 26))⟩, ⟨none, (some 28), (.call n_i_number [(.t 27)])⟩, ⟨none, (some 29), (.bin .add .none (.t 22) (.t 28))⟩, ⟨none, (some 5), (.mv (.t 29))⟩]
def p_i_groupDifferences_5 : List (List Nat) := [[], [0], [], [2], [0, 1, 2, 3], [0, 1, 2, 3, 4], [], [6], [], [8], [6, 7, 8, 9], [0, 1, 2, 3, 4, 5, 6, 7, 8, 9, 10], [0, 1, 2, 3, 4, 5, 6, 7, 8, 9, 10, 11], [0, 1, 2, 3, 4, 5, 6, 7, 8, 9, 10, 11, 12]]
def r_i_groupDifferences_6 : List CO := [⟨none, (some 30), (.faddr 1 (.t 2))⟩, ⟨none, (some 31), (.ld false 1 (.t 30))⟩, ⟨none, (some 32), (.faddr 1 (.t 3))⟩, ⟨none, (some 33), (.ld false 1 (.t 32))⟩, ⟨none, (some 34), (.bin .neq .none (.t 31) (.t 33))⟩]
def r_i_groupDifferences_7 : List CO := [⟨none, (some 35), (.mv (.t 5))⟩, ⟨none, (some 36), (.bin .add .none (.t 35) (.k (.v (.int .i64 (2)))))⟩, ⟨none, (some 4), (.mv (.t 36))⟩]
def r_i_groupDifferences_8 : List CO := [⟨none, (some 37), (.mv (.t 5))⟩, ⟨none, (some 38), (.faddr 2 (.t 2))⟩, ⟨none, (some 39), (.ld false 1 (.t 38))⟩, ⟨none, (some 40), (.faddr 2 (.t 3))⟩, ⟨none, (some 41), (.ld false 1 (.t 40))⟩, ⟨none, (some 42), (.bin .neq .none (.t 39) (.t 41))⟩, ⟨none, (some 43), (.call n_i_number [(.t 42)])⟩, ⟨none, (some 44), (.bin .add .none (.t 37) (.t 43))⟩, ⟨none, (some 4), (.mv (.t 44))⟩]
/-- loop.example/g00884/impl.groupDifferences -/
def c_i_groupDifferences : C := (.seq (.reg r_i_groupDifferences_0 [2, 3]) (.seq (.seq (.reg r_i_groupDifferences_1 [2, 3, 8]) (.cond (.t 8) (.seq (.reg r_i_groupDifferences_2 [4]) .ret) .skip)) (.seq (.seq (.reg r_i_groupDifferences_3 [2, 3, 16]) (.cond (.t 16) (.seq (.reg r_i_groupDifferences_4 [4]) .ret) .skip)) (.seq (.regD r_i_groupDifferences_5 p_i_groupDifferences_5 [2, 3, 5]) (.seq (.seq (.reg r_i_groupDifferences_6 [2, 3, 5, 34]) (.cond (.t 34) (.seq (.reg r_i_groupDifferences_7 [4]) .ret) .skip)) (.seq (.reg r_i_groupDifferences_8 [4]) .ret))))))
def k_i_groupDifferences : Nat → List Nat
  | 0 => [2, 3]
  | 1 => [2, 3, 8]
  | 2 => [4]
  | 3 => [2, 3, 16]
  | 4 => [4]
  | 5 => [2, 3, 5]
  | 6 => [2, 3, 5, 34]
  | 7 => [4]
  | 8 => [4]
  | _ => []
theorem fn_i_groupDifferences : FnC Tryz.prog n_i_groupDifferences c_i_groupDifferences [(.tmp 4)] 45 :=
  ⟨Tryz.f74, _, k_i_groupDifferences, Tryz.func74, rfl, by kernel_rfl, by kernel_rfl, by kernel_rfl, rfl⟩
def r_s_l4Differences_0 : List CO := [⟨none, (some 2), (.box 4 (.t 0))⟩, ⟨none, (some 3), (.box 4 (.t 1))⟩, ⟨none, (some 4), (.mv (.k (.v (.int .i64 (0)))))⟩]
def r_s_l4Differences_1 : List CO := [⟨none, (some 6), (.ld true 4 (.t 2))⟩, ⟨none, (some 7), (.call n_s_l4None [(.t 6)])⟩, ⟨none, (some 8), (.ld true 4 (.t 3))⟩, ⟨none, (some 9), (.call n_s_l4None [(.t 8)])⟩, ⟨none, (some 10), (.bin .neq .bool (.t 7) (.t 9))⟩]
def p_s_l4Differences_1 : List (List Nat) := [[], [0], [], [0, 1, 2], [0, 1, 2, 3]]
def r_s_l4Differences_2 : List CO := [⟨none, (some 4), (.mv (.k (.v (.int .i64 (2)))))⟩]
def r_s_l4Differences_3 : List CO := [⟨none, (some 5), (.mv (.k (.v (.int .i64 (0)))))⟩]
def r_s_l4Differences_4 : List CO := [⟨none, (some 11), (.faddr 0 (.t 2))⟩, ⟨none, (some 12), (.ld false 1 (.t 11))⟩, ⟨none, (some 13), (.faddr 0 (.t 3))⟩, ⟨none, (some 14), (.ld false 1 (.t 13))⟩, ⟨none, (some 15), (.bin .neq .none (.t 12) (.t 14))⟩]
def r_s_l4Differences_5 : List CO := [⟨none, (some 16), (.mv (.t 5))⟩, ⟨none, (some 17), (.bin .add .none (.t 16) (.k (.v (.int .i64 (1)))))⟩, ⟨none, (some 5), (.mv (.t 17))⟩]
def r_s_l4Differences_6 : List CO := [⟨none, (some 18), (.faddr 1 (.t 2))⟩, ⟨none, (some 19), (.ld false 1 (.t 18))⟩, ⟨none, (some 20), (.faddr 1 (.t 3))⟩, ⟨none, (some 21), (.ld false 1 (.t 20))⟩, ⟨none, (some 22), (.bin .neq .none (.t 19) (.t 21))⟩]
def r_s_l4Differences_7 : List CO := [⟨none, (some 23), (.mv (.t 5))⟩, ⟨none, (some 24), (.bin .add .none (.t 23) (.k (.v (.int .i64 (2)))))⟩, ⟨none, (some 5), (.mv (.t 24))⟩]
def r_s_l4Differences_8 : List CO := [⟨none, (some 25), (.faddr 2 (.t 2))⟩, ⟨none, (some 26), (.ld false 1 (.t 25))⟩, ⟨none, (some 27), (.faddr 2 (.t 3))⟩, ⟨none, (some 28), (.ld false 1 (.t 27))⟩, ⟨none, (some 29), (.bin .neq .none (.t 26) (.t 28))⟩]
def r_s_l4Differences_9 : List CO := [⟨none, (some 30), (.mv (.t 5))⟩, ⟨none, (some 31), (.bin .add .none (.t 30) (.k (.v (.int .i64 (1)))))⟩, ⟨none, (some 5), (.mv (.t 31))⟩]
def r_s_l4Differences_10 : List CO := [⟨none, (some 32), (.faddr 3 (.t 2))⟩, ⟨none, (some 33), (.ld false 1 (.t 32))⟩, ⟨none, (some 34), (.faddr 3 (.t 3))⟩, ⟨none, (some 35), (.ld false 1 (.t 34))⟩, ⟨none, (some 36), (.bin .neq .none (.t 33) (.t 35))⟩]
def r_s_l4Differences_11 : List CO := [⟨none, (some 37), (.mv (.t 5))⟩, ⟨none, (some 38), (.bin .add .none (.t 37) (.k (.v (.int .i64 (1)))))⟩, ⟨none, (some 5), (.mv (.t 38))⟩]
def r_s_l4Differences_12 : List CO := [⟨none, (some 39), (.mv (.t 5))⟩, ⟨none, (some 4), (.mv (.t 39))⟩]
/-- loop.example/g00884/spec.l4Differences -/
def c_s_l4Differences : C := (.seq (.reg r_s_l4Differences_0 [2, 3]) (.seq (.seq (.regD r_s_l4Differences_1 p_s_l4Differences_1 [2, 3, 10]) (.cond (.t 10) (.seq (.reg r_s_l4Differences_2 [4]) .ret) .skip)) (.seq (.reg r_s_l4Differences_3 [2, 3, 5]) (.seq (.seq (.reg r_s_l4Differences_4 [2, 3, 5, 15]) (.cond (.t 15) (.reg r_s_l4Differences_5 [2, 3, 5]) .skip)) (.seq (.seq (.reg r_s_l4Differences_6 [2, 3, 5, 22]) (.cond (.t 22) (.reg r_s_l4Differences_7 [2, 3, 5]) (.seq (.reg r_s_l4Differences_8 [2, 3, 5, 29]) (.cond (.t 29) (.reg r_s_l4Differences_9 [2, 3, 5]) .skip)))) (.seq (.seq (.reg r_s_l4Differences_10 [5, 36]) (.cond (.t 36) (.reg r_s_l4Differences_11 [5]) .skip)) (.seq (.reg r_s_l4Differences_12 [4]) .ret)))))))
def k_s_l4Differences : Nat → List Nat
  | 0 => [2, 3]
  | 1 => [2, 3, 10]
  | 2 => [4]
  | 3 => [2, 3, 5]
  | 4 => [2, 3, 5, 15]
  | 5 => [2, 3, 5]
  | 6 => [2, 3, 5, 22]
  | 7 => [2, 3, 5]
  | 8 => [2, 3, 5, 29]
  | 9 => [2, 3, 5]
  | 10 => [5, 36]
  | 11 => [5]
  | 12 => [4]
  | _ => []
theorem fn_s_l4Differences : FnC Tryz.prog n_s_l4Differences c_s_l4Differences [(.tmp 4)] 40 :=
  ⟨Tryz.f62, _, k_s_l4Differences, Tryz.func62, rfl, by kernel_rfl, by kernel_rfl, by kernel_rfl, rfl⟩
def r_i_differences_0 : List CO := [⟨none, (some 2), (.box 15 (.t 0))⟩, ⟨none, (some 3), (.box 15 (.t 1))⟩, ⟨none, (some 4), (.mv (.k (.v (.int .i64 (0)))))⟩]
def r_i_differences_1 : List CO := [⟨none, (some 8), (.faddr 0 (.t 2))⟩, ⟨none, (some 9), (.ld true 4 (.t 8))⟩, ⟨none, (some 10), (.faddr 0 (.t 3))⟩, ⟨none, (some 11), (.ld true 4 (.t 10))⟩, ⟨none, (some 12), (.call n_i_FieldDifferences [(.t 9), (.t 11)])⟩, ⟨none, (some 7), (.mv (.t 12))⟩, ⟨none, (some 13), (.ext (.t 7) 0)⟩, ⟨none, (some 14), (.ext (.t 7) 1)⟩, ⟨none, (some 5), (.mv (.t 13))⟩, ⟨none, (some 6), (.mv (.t 14))⟩]
def r_i_differences_2 : List CO := [⟨none, (some 15), (.mv (.t 5))⟩, ⟨none, (some 16), (.faddr 7 (.t 2))⟩, ⟨none, (some 17), (.ld true 4 (.t 16))⟩, ⟨none, (some 18), (.faddr 7 (.t 3))⟩, ⟨none, (some 19), (.ld true 4 (.t 18))⟩, ⟨none, (some 20), (.call n_i_groupDifferences [(.t 17), (.t 19)])⟩, ⟨none, (some 21), (.faddr 11 (.t 2))⟩, ⟨none, (some 22), (.ld true 4 (.t 21))⟩, ⟨none, (some 23), (.faddr 11 (.t 3))⟩, ⟨none, (some 24), (.ld true 4 (.t 23))⟩, ⟨none, (some 25), (.call n_i_groupDifferences [(.t 22), (.t 24)])⟩, ⟨none, (some 26), (.bin .add .none (.t 20) (.t 25))⟩, ⟨none, (some 27), (.bin .add .none (.t 15) (.t 26))⟩, ⟨none, (some 5), (.mv (.t 27))⟩]
def p_i_differences_2 : List (List Nat) := [[], [], [1], [], [3], [1, 2, 3, 4], [], [6], [], [8], [1, 2, 3, 4, 5, 6, 7, 8, 9], [1, 2, 3, 4, 5, 6, 7, 8, 9, 10], [0, 1, 2, 3, 4, 5, 6, 7, 8, 9, 10, 11], [0, 1, 2, 3, 4, 5, 6, 7, 8, 9, 10, 11, 12]]
def r_i_differences_3 : List CO := [⟨none, (some 28), (.faddr 4 (.t 2))⟩, ⟨none, (some 29), (.ld false 1 (.t 28))⟩, ⟨none, (some 30), (.faddr 4 (.t 3))⟩, ⟨none, (some 31), (.ld false 1 (.t 30))⟩, ⟨none, (some 32), (.bin .neq .none (.t 29) (.t 31))⟩]
def r_i_differences_4 : List CO := [⟨none, (some 33), (.mv (.t 5))⟩, ⟨none, (some 34), (.bin .add .none (.t 33) (.k (.v (.int .i64 (2)))))⟩, ⟨none, (some 4), (.mv (.t 34))⟩]
def r_i_differences_5 : List CO := [⟨none, (some 35), (.mv (.t 5))⟩, ⟨none, (some 36), (.faddr 5 (.t 2))⟩, ⟨none, (some 37), (.ld false 1 (.t 36))⟩, ⟨none, (some 38), (.faddr 5 (.t 3))⟩, ⟨none, (some 39), (.ld false 1 (.t 38))⟩, ⟨none, (some 40), (.bin .neq .none (.t 37) (.t 39))⟩, ⟨none, (some 41), (.call n_i_number [(.t 40)])⟩, ⟨none, (some 42), (.bin .add .none (.t 35) (.t 41))⟩, ⟨none, (some 43), (.faddr 6 (.t 2))⟩, ⟨none, (some 44), (.ld false 1 (.t 43))⟩, ⟨none, (some 45), (.faddr 6 (.t 3))⟩, ⟨none, (some 46), (.ld false 1 (.t 45))⟩, ⟨none, (some 47), (.bin .neq .none (.t 44) (.t 46))⟩, ⟨none, (some 48), (.call n_i_number [(.t 47)])⟩, ⟨none, (some 49), (.bin .add .none (.t 42) (.t 48))⟩, ⟨none, (some 4), (.mv (.t 49))⟩]
def p_i_differences_5 : List (List Nat) := [[], [], [1], [], [3], [1, 2, 3, 4], [1, 2, 3, 4, 5], [0, 1, 2, 3, 4, 5, 6], [], [8], [], [10], [8, 9, 10, 11], [1, 2, 3, 4, 5, 6, 8, 9, 10, 11, 12], [0, 1, 2, 3, 4, 5, 6, 7, 8, 9, 10, 11, 12, 13], [0, 1, 2, 3, 4, 5, 6, 7, 8, 9, 10, 11, 12, 13, 14]]
/-- loop.example/g00884/impl.differences -/
def c_i_differences : C := (.seq (.reg r_i_differences_0 [2, 3]) (.seq (.reg r_i_differences_1 [2, 3, 5]) (.seq (.regD r_i_differences_2 p_i_differences_2 [2, 3, 5]) (.seq (.seq (.reg r_i_differences_3 [2, 3, 5, 32]) (.cond (.t 32) (.seq (.reg r_i_differences_4 [4]) .ret) .skip)) (.seq (.regD r_i_differences_5 p_i_differences_5 [4]) .ret)))))
def k_i_differences : Nat → List Nat
  | 0 => [2, 3]
  | 1 => [2, 3, 5]
  | 2 => [2, 3, 5]
  | 3 => [2, 3, 5, 32]
  | 4 => [4]
  | 5 => [4]
  | _ => []
theorem fn_i_differences : FnC Tryz.prog n_i_differences c_i_differences [(.tmp 4)] 50 :=
  ⟨Tryz.f50, _, k_i_differences, Tryz.func50, rfl, by kernel_rfl, by kernel_rfl, by kernel_rfl, rfl⟩
def r_i_conflict_0 : List CO := [⟨none, (some 2), (.box 15 (.t 0))⟩, ⟨none, (some 3), (.box 15 (.t 1))⟩, ⟨none, (some 4), (.mv (.k (.v (.bool false))))⟩]
def r_i_conflict_1 : List CO := [⟨none, (some 5), (.ld true 15 (.t 2))⟩, ⟨none, (some 6), (.ld true 15 (.t 3))⟩, ⟨none, (some 7), (.call n_i_differences [(.t 5), (.t 6)])⟩, ⟨none, (some 8), (.bin .lss .none (.t 7) (.k (.v (.int .i64 (2)))))⟩, ⟨none, (some 4), (.mv (.t 8))⟩]
/-- loop.example/g00884/impl.conflict -/
def c_i_conflict : C := (.seq (.reg r_i_conflict_0 [2, 3]) (.seq (.reg r_i_conflict_1 [4]) .ret))
def k_i_conflict : Nat → List Nat
  | 0 => [2, 3]
  | 1 => [4]
  | _ => []
theorem fn_i_conflict : FnC Tryz.prog n_i_conflict c_i_conflict [(.tmp 4)] 9 :=
  ⟨Tryz.f33, _, k_i_conflict, Tryz.func33, rfl, by kernel_rfl, by kernel_rfl, by kernel_rfl, rfl⟩
def r_s_l15Count_0 : List CO := [⟨none, (some 2), (.box 15 (.t 0))⟩, ⟨none, (some 3), (.box 15 (.t 1))⟩, ⟨none, (some 4), (.mv (.k (.v (.int .i64 (0)))))⟩]
def r_s_l15Count_1 : List CO := [⟨none, (some 6), (.faddr 0 (.t 2))⟩, ⟨none, (some 7), (.ld true 4 (.t 6))⟩, ⟨none, (some 8), (.faddr 0 (.t 3))⟩, ⟨none, (some 9), (.ld true 4 (.t 8))⟩, ⟨none, (some 10), (.call n_s_l3Differences [(.t 7), (.t 9)])⟩, ⟨none, (some 11), (.faddr 7 (.t 2))⟩, ⟨none, (some 12), (.ld true 4 (.t 11))⟩, ⟨none, (some 13), (.faddr 7 (.t 3))⟩, ⟨none, (some 14), (.ld true 4 (.t 13))⟩, ⟨none, (some 15), (.call n_s_l4Differences [(.t 12), (.t 14)])⟩, ⟨none, (some 16), (.bin .add .none (.t 10) (.t 15))⟩, ⟨none, (some 17), (.faddr 11 (.t 2))⟩, ⟨none, (some 18), (.ld true 4 (.t 17))⟩, ⟨none, (some 19), (.faddr 11 (.t 3))⟩, ⟨none, (some 20), (.ld true 4 (.t 19))⟩, ⟨none, (some 21), (.call n_s_l4Differences [(.t 18), (.t 20)])⟩, ⟨none, (some 22), (.bin .add .none (.t 16) (.t 21))⟩, ⟨none, (some 5), (.mv (.t 22))⟩]
def p_s_l15Count_1 : List (List Nat) := [[], [0], [], [2], [0, 1, 2, 3], [], [5], [], [7], [0, 1, 2, 3, 4, 5, 6, 7, 8], [0, 1, 2, 3, 4, 5, 6, 7, 8, 9], [], [11], [], [13], [0, 1, 2, 3, 4, 5, 6, 7, 8, 9, 11, 12, 13, 14], [0, 1, 2, 3, 4, 5, 6, 7, 8, 9, 10, 11, 12, 13, 14, 15], [0, 1, 2, 3, 4, 5, 6, 7, 8, 9, 10, 11, 12, 13, 14, 15, 16]]
def r_s_l15Count_2 : List CO := [⟨none, (some 23), (.faddr 4 (.t 2))⟩, ⟨none, (some 24), (.ld false 1 (.t 23))⟩, ⟨none, (some 25), (.faddr 4 (.t 3))⟩, ⟨none, (some 26), (.ld false 1 (.t 25))⟩, ⟨none, (some 27), (.bin .neq .none (.t 24) (.t 26))⟩]
def r_s_l15Count_3 : List CO := [⟨none, (some 28), (.mv (.t 5))⟩, ⟨none, (some 29), (.bin .add .none (.t 28) (.k (.v (.int .i64 (2)))))⟩, ⟨none, (some 4), (.mv (.t 29))⟩]
def r_s_l15Count_4 : List CO := [⟨none, (some 30), (.faddr 5 (.t 2))⟩, ⟨none, (some 31), (.ld false 1 (.t 30))⟩, ⟨none, (some 32), (.faddr 5 (.t 3))⟩, ⟨none, (some 33), (.ld false 1 (.t 32))⟩, ⟨none, (some 34), (.bin .neq .none (.t 31) (.t 33))⟩]
def r_s_l15Count_5 : List CO := [⟨none, (some 35), (.mv (.t 5))⟩, ⟨none, (some 36), (.bin .add .none (.t 35) (.k (.v (.int .i64 (1)))))⟩, ⟨none, (some 5), (.mv (.t 36))⟩]
def r_s_l15Count_6 : List CO := [⟨none, (some 37), (.faddr 6 (.t 2))⟩, ⟨none, (some 38), (.ld false 1 (.t 37))⟩, ⟨none, (some 39), (.faddr 6 (.t 3))⟩, ⟨none, (some 40), (.ld false 1 (.t 39))⟩, ⟨none, (some 41), (.bin .neq .none (.t 38) (.t 40))⟩]
def r_s_l15Count_7 : List CO := [⟨none, (some 42), (.mv (.t 5))⟩, ⟨none, (some 43), (.bin .add .none (.t 42) (.k (.v (.int .i64 (1)))))⟩, ⟨none, (some 5), (.mv (.t 43))⟩]
def r_s_l15Count_8 : List CO := [⟨none, (some 44), (.mv (.t 5))⟩, ⟨none, (some 4), (.mv (.t 44))⟩]
/-- loop.example/g00884/spec.l15Count -/
def c_s_l15Count : C := (.seq (.reg r_s_l15Count_0 [2, 3]) (.seq (.regD r_s_l15Count_1 p_s_l15Count_1 [2, 3, 5]) (.seq (.seq (.reg r_s_l15Count_2 [2, 3, 5, 27]) (.cond (.t 27) (.seq (.reg r_s_l15Count_3 [4]) .ret) .skip)) (.seq (.seq (.reg r_s_l15Count_4 [2, 3, 5, 34]) (.cond (.t 34) (.reg r_s_l15Count_5 [2, 3, 5]) .skip)) (.seq (.seq (.reg r_s_l15Count_6 [5, 41]) (.cond (.t 41) (.reg r_s_l15Count_7 [5]) .skip)) (.seq (.reg r_s_l15Count_8 [4]) .ret))))))
def k_s_l15Count : Nat → List Nat
  | 0 => [2, 3]
  | 1 => [2, 3, 5]
  | 2 => [2, 3, 5, 27]
  | 3 => [4]
  | 4 => [2, 3, 5, 34]
  | 5 => [2, 3, 5]
  | 6 => [5, 41]
  | 7 => [5]
  | 8 => [4]
  | _ => []
theorem fn_s_l15Count : FnC Tryz.prog n_s_l15Count c_s_l15Count [(.tmp 4)] 45 :=
  ⟨Tryz.f43, _, k_s_l15Count, Tryz.func43, rfl, by kernel_rfl, by kernel_rfl, by kernel_rfl, rfl⟩
def r_s_l15Conflict_0 : List CO := [⟨none, (some 2), (.box 15 (.t 0))⟩, ⟨none, (some 3), (.box 15 (.t 1))⟩, ⟨none, (some 4), (.mv (.k (.v (.bool false))))⟩]
def r_s_l15Conflict_1 : List CO := [⟨none, (some 5), (.ld true 15 (.t 2))⟩, ⟨none, (some 6), (.ld true 15 (.t 3))⟩, ⟨none, (some 7), (.call n_s_l15Count [(.t 5), (.t 6)])⟩, ⟨none, (some 8), (.bin .lss .none (.t 7) (.k (.v (.int .i64 (2)))))⟩, ⟨none, (some 4), (.mv (.t 8))⟩]
/-- loop.example/g00884/spec.l15Conflict -/
def c_s_l15Conflict : C := (.seq (.reg r_s_l15Conflict_0 [2, 3]) (.seq (.reg r_s_l15Conflict_1 [4]) .ret))
def k_s_l15Conflict : Nat → List Nat
  | 0 => [2, 3]
  | 1 => [4]
  | _ => []
theorem fn_s_l15Conflict : FnC Tryz.prog n_s_l15Conflict c_s_l15Conflict [(.tmp 4)] 9 :=
  ⟨Tryz.f25, _, k_s_l15Conflict, Tryz.func25, rfl, by kernel_rfl, by kernel_rfl, by kernel_rfl, rfl⟩
end Go.Proofs.YtbeoijlggphklaaGreat
