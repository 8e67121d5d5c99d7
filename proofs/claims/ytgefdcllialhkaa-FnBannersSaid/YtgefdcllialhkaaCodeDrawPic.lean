/- The compact code of the functions, and that it is theirs: written by a program of this claim. -/
import Derived.Test.YtgefdcllialhkaaNums
namespace Go.Proofs.Ytgefdcllialhkaa
open Go.Abs
set_option maxRecDepth 100000
def r_s_l9Has_0 : List CO := [⟨none, (some 3), (.box 1 (.t 0))⟩, ⟨none, (some 6), (.mv (.k (.v (.bool false))))⟩]
def r_s_l9Has_1 : List CO := [⟨none, (some 7), (.mv (.t 1))⟩, ⟨none, (some 8), (.call n_s_l1In [(.t 7), (.k (.v (.int .i64 (0)))), (.k (.v (.int .i64 (19))))])⟩, ⟨none, (some 9), (.mv (.t 8))⟩, ⟨(some (9, true)), (some 10), (.mv (.t 2))⟩, ⟨(some (9, true)), (some 11), (.call n_s_l1In [(.t 10), (.k (.v (.int .i64 (0)))), (.k (.v (.int .i64 (23))))])⟩, ⟨none, (some 12), (.pick (.t 9) (.t 11) (.k (.v (.bool false))))⟩, ⟨none, (some 13), (.mv (.t 12))⟩, ⟨(some (13, true)), (some 14), (.faddr 0 (.t 3))⟩, ⟨(some (13, true)), (some 15), (.ld false 1 (.t 14))⟩, ⟨(some (13, true)), (some 16), (.mv (.t 2))⟩, ⟨(some (13, true)), (some 17), (.iaddr 1 (.t 15) (.t 16))⟩, ⟨(some (13, true)), (some 18), (.ld false 1 (.t 17))⟩, ⟨(some (13, true)), (some 19), (.mv (.t 1))⟩, ⟨(some (13, true)), (some 20), (.conv (.int .u64) (.t 19))⟩, ⟨(some (13, true)), (some 21), (.bin .shr .none (.t 18) (.t 20))⟩, ⟨(some (13, true)), (some 22), (.bin .and .none (.t 21) (.k (.v (.int .i64 (1)))))⟩, ⟨(some (13, true)), (some 23), (.bin .eql .none (.t 22) (.k (.v (.int .i64 (1)))))⟩, ⟨none, (some 24), (.pick (.t 13) (.t 23) (.k (.v (.bool false))))⟩, ⟨none, (some 6), (.mv (.t 24))⟩]
/-- loop.example/g00884/spec.l9Has -/
def c_s_l9Has : C := (.seq (.reg r_s_l9Has_0 [1, 2, 3]) (.seq (.reg r_s_l9Has_1 [6]) .ret))
def k_s_l9Has : Nat → List Nat
  | 0 => [1, 2, 3]
  | 1 => [6]
  | _ => []
theorem fn_s_l9Has : FnC Try.prog n_s_l9Has c_s_l9Has [(.tmp 6)] 25 :=
  ⟨Try.f138, _, k_s_l9Has, Try.func138, rfl, by kernel_rfl, by kernel_rfl, by kernel_rfl, rfl⟩
def r_s_l9Empty_0 : List CO := [⟨none, (some 0), (.box 1 (.k (.agg [(.v (.slice none 0 0))])))⟩]
def r_s_l9Empty_1 : List CO := [⟨none, (some 1), (.mks 1 (.v (.int .i64 (0))) 8 (.k (.v (.int .i64 (24)))) (.k (.v (.int .i64 (24)))))⟩, ⟨none, (some 2), (.build (.agg [(.v (.slice none 0 0))]) [(0, (1, (.t 1)))])⟩, ⟨none, none, (.st 1 (.t 0) (.t 2))⟩]
/-- loop.example/g00884/spec.l9Empty -/
def c_s_l9Empty : C := (.seq (.reg r_s_l9Empty_0 [0]) (.seq (.reg r_s_l9Empty_1 [0]) .ret))
def k_s_l9Empty : Nat → List Nat
  | 0 => [0]
  | 1 => [0]
  | _ => []
theorem fn_s_l9Empty : FnC Try.prog n_s_l9Empty c_s_l9Empty [(.cell 0 true 1)] 3 :=
  ⟨Try.f142, _, k_s_l9Empty, Try.func142, rfl, by kernel_rfl, by kernel_rfl, by kernel_rfl, rfl⟩
def r_s_l9Add_0 : List CO := [⟨none, (some 3), (.box 1 (.t 0))⟩]
def r_s_l9Add_1 : List CO := [⟨none, (some 6), (.mv (.t 1))⟩, ⟨none, (some 7), (.mv (.t 2))⟩, ⟨none, (some 8), (.call n_s_l9In [(.t 6), (.t 7)])⟩]
def r_s_l9Add_2 : List CO := [⟨none, (some 9), (.faddr 0 (.t 3))⟩, ⟨none, (some 10), (.ld false 1 (.t 9))⟩, ⟨none, (some 11), (.mv (.t 2))⟩, ⟨none, (some 12), (.faddr 0 (.t 3))⟩, ⟨none, (some 13), (.ld false 1 (.t 12))⟩, ⟨none, (some 14), (.mv (.t 2))⟩, ⟨none, (some 15), (.iaddr 1 (.t 13) (.t 14))⟩, ⟨none, (some 16), (.ld false 1 (.t 15))⟩, ⟨none, (some 17), (.mv (.t 1))⟩, ⟨none, (some 18), (.conv (.int .u64) (.t 17))⟩, ⟨none, (some 19), (.bin .shl .none (.k (.v (.int .i64 (1)))) (.t 18))⟩, ⟨none, (some 20), (.bin .or .none (.t 16) (.t 19))⟩, ⟨none, (some 21), (.iaddr 1 (.t 10) (.t 11))⟩, ⟨none, none, (.st 1 (.t 21) (.t 20))⟩]
def p_s_l9Add_2 : List (List Nat) := [[], [0], [], [], [3], [], [3, 4, 5], [3, 4, 5, 6], [], [8], [8, 9], [3, 4, 5, 6, 7, 8, 9, 10], [0, 1, 2, 3, 4, 5, 6, 7, 8, 9, 10, 11], [0, 1, 2, 3, 4, 5, 6, 7, 8, 9, 10, 11, 12]]
/-- loop.example/g00884/spec.l9Add -/
def c_s_l9Add : C := (.seq (.reg r_s_l9Add_0 [1, 2, 3]) (.seq (.reg r_s_l9Add_1 [1, 2, 3, 8]) (.cond (.t 8) (.regD r_s_l9Add_2 p_s_l9Add_2 []) .skip)))
def k_s_l9Add : Nat → List Nat
  | 0 => [1, 2, 3]
  | 1 => [1, 2, 3, 8]
  | 2 => []
  | _ => []
theorem fn_s_l9Add : FnC Try.prog n_s_l9Add c_s_l9Add [] 22 :=
  ⟨Try.f144, _, k_s_l9Add, Try.func144, rfl, by kernel_rfl, by kernel_rfl, by kernel_rfl, rfl⟩
def r_s_l9Down_0 : List CO := [⟨none, (some 4), (.mv (.k (.v (.int .i64 (0)))))⟩]
def r_s_l9Down_1 : List CO := [⟨none, (some 5), (.mv (.t 0))⟩, ⟨none, (some 6), (.bin .mul .none (.k (.v (.int .i64 (2)))) (.t 5))⟩, ⟨none, (some 7), (.bin .add .none (.t 6) (.k (.v (.int .i64 (1)))))⟩, ⟨none, (some 8), (.bin .mul .none (.k (.v (.int .i64 (24)))) (.t 7))⟩, ⟨none, (some 9), (.mv (.t 1))⟩, ⟨none, (some 10), (.bin .mul .none (.k (.v (.int .i64 (2)))) (.t 9))⟩, ⟨none, (some 11), (.bin .add .none (.t 10) (.k (.v (.int .i64 (1)))))⟩, ⟨none, (some 12), (.bin .mul .none (.k (.v (.int .i64 (20)))) (.t 11))⟩, ⟨none, (some 13), (.bin .sub .none (.t 8) (.t 12))⟩, ⟨none, (some 4), (.mv (.t 13))⟩]
/-- loop.example/g00884/spec.l9Down -/
def c_s_l9Down : C := (.seq (.reg r_s_l9Down_0 [0, 1]) (.seq (.reg r_s_l9Down_1 [4]) .ret))
def k_s_l9Down : Nat → List Nat
  | 0 => [0, 1]
  | 1 => [4]
  | _ => []
theorem fn_s_l9Down : FnC Try.prog n_s_l9Down c_s_l9Down [(.tmp 4)] 14 :=
  ⟨Try.f147, _, k_s_l9Down, Try.func147, rfl, by kernel_rfl, by kernel_rfl, by kernel_rfl, rfl⟩
def r_s_l9Ord_0 : List CO := [⟨none, (some 6), (.mv (.k (.v (.bool false))))⟩]
def r_s_l9Ord_1 : List CO := [⟨none, (some 7), (.mv (.t 0))⟩]
def r_s_l9Ord_2 : List CO := [⟨none, (some 9), (.bin .eql .none (.t 7) (.k (.v (.int .i64 (1)))))⟩, ⟨none, (some 8), (.mv (.t 9))⟩]
def r_s_l9Ord_3 : List CO := [⟨none, (some 10), (.mv (.t 1))⟩, ⟨none, (some 11), (.call n_s_l1In [(.t 10), (.k (.v (.int .i64 (7)))), (.k (.v (.int .i64 (12))))])⟩, ⟨none, (some 6), (.mv (.t 11))⟩]
def r_s_l9Ord_4 : List CO := [⟨none, (some 13), (.bin .eql .none (.t 7) (.k (.v (.int .i64 (2)))))⟩, ⟨none, (some 12), (.mv (.t 13))⟩]
def r_s_l9Ord_5 : List CO := [⟨none, (some 14), (.mv (.t 2))⟩, ⟨none, (some 15), (.call n_s_l1In [(.t 14), (.k (.v (.int .i64 (8)))), (.k (.v (.int .i64 (15))))])⟩, ⟨none, (some 6), (.mv (.t 15))⟩]
def r_s_l9Ord_6 : List CO := [⟨none, (some 17), (.bin .eql .none (.t 7) (.k (.v (.int .i64 (3)))))⟩, ⟨none, (some 16), (.mv (.t 17))⟩]
def r_s_l9Ord_7 : List CO := [⟨none, (some 18), (.mv (.t 1))⟩, ⟨none, (some 19), (.mv (.t 2))⟩, ⟨none, (some 20), (.call n_s_l9Down [(.t 18), (.t 19)])⟩, ⟨none, (some 21), (.call n_s_l9Abs [(.t 20)])⟩, ⟨none, (some 22), (.bin .leq .none (.t 21) (.k (.v (.int .i64 (160)))))⟩, ⟨none, (some 6), (.mv (.t 22))⟩]
def r_s_l9Ord_8 : List CO := [⟨none, (some 24), (.bin .eql .none (.t 7) (.k (.v (.int .i64 (4)))))⟩, ⟨none, (some 23), (.mv (.t 24))⟩]
def r_s_l9Ord_9 : List CO := [⟨none, (some 25), (.mv (.t 2))⟩, ⟨none, (some 26), (.bin .mul .none (.k (.v (.int .i64 (2)))) (.t 25))⟩, ⟨none, (some 27), (.bin .add .none (.t 26) (.k (.v (.int .i64 (1)))))⟩, ⟨none, (some 28), (.mv (.t 1))⟩, ⟨none, (some 29), (.bin .mul .none (.k (.v (.int .i64 (2)))) (.t 28))⟩, ⟨none, (some 30), (.bin .sub .none (.t 29) (.k (.v (.int .i64 (19)))))⟩, ⟨none, (some 31), (.call n_s_l9Abs [(.t 30)])⟩, ⟨none, (some 32), (.bin .sub .none (.t 27) (.t 31))⟩, ⟨none, (some 33), (.call n_s_l1In [(.t 32), (.k (.v (.int .i64 (11)))), (.k (.v (.int .i64 (22))))])⟩, ⟨none, (some 6), (.mv (.t 33))⟩]
def r_s_l9Ord_10 : List CO := [⟨none, (some 35), (.bin .eql .none (.t 7) (.k (.v (.int .i64 (5)))))⟩, ⟨none, (some 34), (.mv (.t 35))⟩]
def r_s_l9Ord_11 : List CO := [⟨none, (some 36), (.mv (.t 1))⟩, ⟨none, (some 37), (.call n_s_l1In [(.t 36), (.k (.v (.int .i64 (8)))), (.k (.v (.int .i64 (11))))])⟩, ⟨none, (some 38), (.mv (.t 37))⟩, ⟨(some (38, false)), (some 39), (.mv (.t 2))⟩, ⟨(some (38, false)), (some 40), (.call n_s_l1In [(.t 39), (.k (.v (.int .i64 (10)))), (.k (.v (.int .i64 (13))))])⟩, ⟨none, (some 41), (.pick (.t 38) (.k (.v (.bool true))) (.t 40))⟩, ⟨none, (some 6), (.mv (.t 41))⟩]
def r_s_l9Ord_12 : List CO := [⟨none, (some 43), (.bin .eql .none (.t 7) (.k (.v (.int .i64 (6)))))⟩, ⟨none, (some 42), (.mv (.t 43))⟩]
def r_s_l9Ord_13 : List CO := [⟨none, (some 44), (.mv (.t 1))⟩, ⟨none, (some 45), (.mv (.t 2))⟩, ⟨none, (some 46), (.call n_s_l9Down [(.t 44), (.t 45)])⟩, ⟨none, (some 47), (.call n_s_l9Abs [(.t 46)])⟩, ⟨none, (some 48), (.bin .leq .none (.t 47) (.k (.v (.int .i64 (120)))))⟩, ⟨none, (some 49), (.mv (.t 48))⟩, ⟨(some (49, false)), (some 50), (.mv (.t 1))⟩, ⟨(some (49, false)), (some 51), (.bin .sub .none (.k (.v (.int .i64 (19)))) (.t 50))⟩, ⟨(some (49, false)), (some 52), (.mv (.t 2))⟩, ⟨(some (49, false)), (some 53), (.call n_s_l9Down [(.t 51), (.t 52)])⟩, ⟨(some (49, false)), (some 54), (.call n_s_l9Abs [(.t 53)])⟩, ⟨(some (49, false)), (some 55), (.bin .leq .none (.t 54) (.k (.v (.int .i64 (120)))))⟩, ⟨none, (some 56), (.pick (.t 49) (.k (.v (.bool true))) (.t 55))⟩, ⟨none, (some 6), (.mv (.t 56))⟩]
def r_s_l9Ord_14 : List CO := [⟨none, (some 58), (.bin .eql .none (.t 7) (.k (.v (.int .i64 (7)))))⟩, ⟨none, (some 57), (.mv (.t 58))⟩]
def r_s_l9Ord_15 : List CO := [⟨none, (some 59), (.mv (.t 2))⟩, ⟨none, (some 60), (.bin .lss .none (.t 59) (.k (.v (.int .i64 (8)))))⟩, ⟨none, (some 6), (.mv (.t 60))⟩]
def r_s_l9Ord_16 : List CO := [⟨none, (some 6), (.mv (.k (.v (.bool false))))⟩]
/-- loop.example/g00884/spec.l9Ord -/
def c_s_l9Ord : C := (.seq (.reg r_s_l9Ord_0 [0, 1, 2]) (.seq (.seq (.reg r_s_l9Ord_1 [1, 2, 7]) (.block 0 (.seq (.reg r_s_l9Ord_2 [1, 2, 7, 8]) (.cond (.t 8) (.seq (.reg r_s_l9Ord_3 [6]) .ret) (.seq (.reg r_s_l9Ord_4 [1, 2, 7, 12]) (.cond (.t 12) (.seq (.reg r_s_l9Ord_5 [6]) .ret) (.seq (.reg r_s_l9Ord_6 [1, 2, 7, 16]) (.cond (.t 16) (.seq (.reg r_s_l9Ord_7 [6]) .ret) (.seq (.reg r_s_l9Ord_8 [1, 2, 7, 23]) (.cond (.t 23) (.seq (.reg r_s_l9Ord_9 [6]) .ret) (.seq (.reg r_s_l9Ord_10 [1, 2, 7, 34]) (.cond (.t 34) (.seq (.reg r_s_l9Ord_11 [6]) .ret) (.seq (.reg r_s_l9Ord_12 [1, 2, 7, 42]) (.cond (.t 42) (.seq (.reg r_s_l9Ord_13 [6]) .ret) (.seq (.reg r_s_l9Ord_14 [2, 57]) (.cond (.t 57) (.seq (.reg r_s_l9Ord_15 [6]) .ret) .skip)))))))))))))))) (.seq (.reg r_s_l9Ord_16 [6]) .ret)))
def k_s_l9Ord : Nat → List Nat
  | 0 => [0, 1, 2]
  | 1 => [1, 2, 7]
  | 2 => [1, 2, 7, 8]
  | 3 => [6]
  | 4 => [1, 2, 7, 12]
  | 5 => [6]
  | 6 => [1, 2, 7, 16]
  | 7 => [6]
  | 8 => [1, 2, 7, 23]
  | 9 => [6]
  | 10 => [1, 2, 7, 34]
  | 11 => [6]
  | 12 => [1, 2, 7, 42]
  | 13 => [6]
  | 14 => [2, 57]
  | 15 => [6]
  | 16 => [6]
  | _ => []
theorem fn_s_l9Ord : FnC Try.prog n_s_l9Ord c_s_l9Ord [(.tmp 6)] 61 :=
  ⟨Try.f143, _, k_s_l9Ord, Try.func143, rfl, by kernel_rfl, by kernel_rfl, by kernel_rfl, rfl⟩
def r_s_l9Part_0 : List CO := [⟨none, (some 6), (.mv (.k (.v (.int .i64 (0)))))⟩]
def r_s_l9Part_1 : List CO := [⟨none, (some 7), (.mv (.k (.v (.bool true))))⟩]
def r_s_l9Part_2 : List CO := [⟨none, (some 8), (.mv (.t 0))⟩]
def r_s_l9Part_3 : List CO := [⟨none, (some 10), (.bin .eql .none (.t 8) (.k (.v (.int .i64 (1)))))⟩, ⟨none, (some 9), (.mv (.t 10))⟩]
def r_s_l9Part_4 : List CO := [⟨none, (some 11), (.mv (.t 1))⟩, ⟨none, (some 12), (.bin .lss .none (.t 11) (.k (.v (.int .i64 (10)))))⟩, ⟨none, (some 7), (.mv (.t 12))⟩]
def r_s_l9Part_5 : List CO := [⟨none, (some 14), (.bin .eql .none (.t 8) (.k (.v (.int .i64 (2)))))⟩, ⟨none, (some 13), (.mv (.t 14))⟩]
def r_s_l9Part_6 : List CO := [⟨none, (some 15), (.mv (.t 2))⟩, ⟨none, (some 16), (.bin .lss .none (.t 15) (.k (.v (.int .i64 (12)))))⟩, ⟨none, (some 7), (.mv (.t 16))⟩]
def r_s_l9Part_7 : List CO := [⟨none, (some 18), (.bin .eql .none (.t 8) (.k (.v (.int .i64 (3)))))⟩, ⟨none, (some 17), (.mv (.t 18))⟩]
def r_s_l9Part_8 : List CO := [⟨none, (some 19), (.mv (.t 1))⟩, ⟨none, (some 20), (.mv (.t 2))⟩, ⟨none, (some 21), (.call n_s_l9Down [(.t 19), (.t 20)])⟩, ⟨none, (some 22), (.bin .gtr .none (.t 21) (.k (.v (.int .i64 (0)))))⟩, ⟨none, (some 7), (.mv (.t 22))⟩]
def r_s_l9Part_9 : List CO := [⟨none, (some 24), (.bin .eql .none (.t 8) (.k (.v (.int .i64 (4)))))⟩, ⟨none, (some 23), (.mv (.t 24))⟩]
def r_s_l9Part_10 : List CO := [⟨none, (some 25), (.mv (.t 1))⟩, ⟨none, (some 26), (.bin .lss .none (.t 25) (.k (.v (.int .i64 (10)))))⟩, ⟨none, (some 27), (.mv (.t 2))⟩, ⟨none, (some 28), (.bin .lss .none (.t 27) (.k (.v (.int .i64 (12)))))⟩, ⟨none, (some 29), (.bin .eql .bool (.t 26) (.t 28))⟩, ⟨none, (some 7), (.mv (.t 29))⟩]
def r_s_l9Part_11 : List CO := [⟨none, (some 31), (.bin .eql .none (.t 8) (.k (.v (.int .i64 (5)))))⟩, ⟨none, (some 30), (.mv (.t 31))⟩]
def r_s_l9Part_12 : List CO := [⟨none, (some 32), (.mv (.t 1))⟩, ⟨none, (some 33), (.mv (.t 2))⟩, ⟨none, (some 34), (.call n_s_l9Down [(.t 32), (.t 33)])⟩, ⟨none, (some 35), (.bin .gtr .none (.t 34) (.k (.v (.int .i64 (0)))))⟩, ⟨none, (some 36), (.mv (.t 1))⟩, ⟨none, (some 37), (.bin .sub .none (.k (.v (.int .i64 (19)))) (.t 36))⟩, ⟨none, (some 38), (.mv (.t 2))⟩, ⟨none, (some 39), (.call n_s_l9Down [(.t 37), (.t 38)])⟩, ⟨none, (some 40), (.bin .gtr .none (.t 39) (.k (.v (.int .i64 (0)))))⟩, ⟨none, (some 41), (.bin .eql .bool (.t 35) (.t 40))⟩, ⟨none, (some 7), (.mv (.t 41))⟩]
def r_s_l9Part_13 : List CO := [⟨none, (some 43), (.bin .eql .none (.t 8) (.k (.v (.int .i64 (6)))))⟩, ⟨none, (some 42), (.mv (.t 43))⟩]
def r_s_l9Part_14 : List CO := [⟨none, (some 44), (.mv (.t 1))⟩, ⟨none, (some 45), (.bin .mul .none (.k (.v (.int .i64 (6)))) (.t 44))⟩, ⟨none, (some 46), (.bin .quo .none (.t 45) (.k (.v (.int .i64 (20)))))⟩, ⟨none, (some 47), (.bin .rem .none (.t 46) (.k (.v (.int .i64 (2)))))⟩, ⟨none, (some 48), (.bin .eql .none (.t 47) (.k (.v (.int .i64 (0)))))⟩, ⟨none, (some 7), (.mv (.t 48))⟩]
def r_s_l9Part_15 : List CO := [⟨none, (some 50), (.bin .eql .none (.t 8) (.k (.v (.int .i64 (7)))))⟩, ⟨none, (some 49), (.mv (.t 50))⟩]
def r_s_l9Part_16 : List CO := [⟨none, (some 51), (.mv (.t 2))⟩, ⟨none, (some 52), (.bin .quo .none (.t 51) (.k (.v (.int .i64 (4)))))⟩, ⟨none, (some 53), (.bin .rem .none (.t 52) (.k (.v (.int .i64 (2)))))⟩, ⟨none, (some 54), (.bin .eql .none (.t 53) (.k (.v (.int .i64 (0)))))⟩, ⟨none, (some 7), (.mv (.t 54))⟩]
def r_s_l9Part_17 : List CO := [⟨none, (some 55), (.mv (.t 7))⟩]
def r_s_l9Part_18 : List CO := [⟨none, (some 6), (.mv (.k (.v (.int .i64 (0)))))⟩]
def r_s_l9Part_19 : List CO := [⟨none, (some 6), (.mv (.k (.v (.int .i64 (1)))))⟩]
/-- loop.example/g00884/spec.l9Part -/
def c_s_l9Part : C := (.seq (.reg r_s_l9Part_0 [0, 1, 2]) (.seq (.reg r_s_l9Part_1 [0, 1, 2, 7]) (.seq (.seq (.reg r_s_l9Part_2 [1, 2, 7, 8]) (.block 0 (.seq (.reg r_s_l9Part_3 [1, 2, 7, 8, 9]) (.cond (.t 9) (.reg r_s_l9Part_4 [7]) (.seq (.reg r_s_l9Part_5 [1, 2, 7, 8, 13]) (.cond (.t 13) (.reg r_s_l9Part_6 [7]) (.seq (.reg r_s_l9Part_7 [1, 2, 7, 8, 17]) (.cond (.t 17) (.reg r_s_l9Part_8 [7]) (.seq (.reg r_s_l9Part_9 [1, 2, 7, 8, 23]) (.cond (.t 23) (.reg r_s_l9Part_10 [7]) (.seq (.reg r_s_l9Part_11 [1, 2, 7, 8, 30]) (.cond (.t 30) (.reg r_s_l9Part_12 [7]) (.seq (.reg r_s_l9Part_13 [1, 2, 7, 8, 42]) (.cond (.t 42) (.reg r_s_l9Part_14 [7]) (.seq (.reg r_s_l9Part_15 [2, 7, 49]) (.cond (.t 49) (.reg r_s_l9Part_16 [7]) .skip)))))))))))))))) (.seq (.seq (.reg r_s_l9Part_17 [55]) (.cond (.t 55) (.seq (.reg r_s_l9Part_18 [6]) .ret) .skip)) (.seq (.reg r_s_l9Part_19 [6]) .ret)))))
def k_s_l9Part : Nat → List Nat
  | 0 => [0, 1, 2]
  | 1 => [0, 1, 2, 7]
  | 2 => [1, 2, 7, 8]
  | 3 => [1, 2, 7, 8, 9]
  | 4 => [7]
  | 5 => [1, 2, 7, 8, 13]
  | 6 => [7]
  | 7 => [1, 2, 7, 8, 17]
  | 8 => [7]
  | 9 => [1, 2, 7, 8, 23]
  | 10 => [7]
  | 11 => [1, 2, 7, 8, 30]
  | 12 => [7]
  | 13 => [1, 2, 7, 8, 42]
  | 14 => [7]
  | 15 => [2, 7, 49]
  | 16 => [7]
  | 17 => [55]
  | 18 => [6]
  | 19 => [6]
  | _ => []
theorem fn_s_l9Part : FnC Try.prog n_s_l9Part c_s_l9Part [(.tmp 6)] 56 :=
  ⟨Try.f151, _, k_s_l9Part, Try.func151, rfl, by kernel_rfl, by kernel_rfl, by kernel_rfl, rfl⟩
def r_s_l10Offsets_0 : List CO := [⟨none, (some 2), (.mv (.k (.v (.slice none 0 0))))⟩]
def r_s_l10Offsets_1 : List CO := [⟨none, (some 3), (.mv (.t 0))⟩]
def r_s_l10Offsets_2 : List CO := [⟨none, (some 5), (.bin .eql .none (.t 3) (.k (.v (.int .i64 (1)))))⟩, ⟨none, (some 4), (.mv (.t 5))⟩]
def r_s_l10Offsets_3 : List CO := [⟨none, (some 6), (.bslice 1 (.v (.int .i64 (0))) 4 [(0, (.k (.v (.int .i64 (0))))), (1, (.k (.v (.int .i64 (1))))), (2, (.k (.v (.int .i64 (1))))), (3, (.k (.v (.int .i64 (0)))))])⟩, ⟨none, (some 2), (.mv (.t 6))⟩]
def r_s_l10Offsets_4 : List CO := [⟨none, (some 8), (.bin .eql .none (.t 3) (.k (.v (.int .i64 (2)))))⟩, ⟨none, (some 7), (.mv (.t 8))⟩]
def r_s_l10Offsets_5 : List CO := [⟨none, (some 9), (.bslice 1 (.v (.int .i64 (0))) 8 [(0, (.k (.v (.int .i64 (0))))), (1, (.k (.v (.int .i64 (1))))), (2, (.k (.v (.int .i64 (1))))), (3, (.k (.v (.int .i64 (0))))), (4, (.k (.v (.int .i64 (0))))), (5, (.k (.v (.int .i64 (-1))))), (6, (.k (.v (.int .i64 (-1))))), (7, (.k (.v (.int .i64 (0)))))])⟩, ⟨none, (some 2), (.mv (.t 9))⟩]
def r_s_l10Offsets_6 : List CO := [⟨none, (some 11), (.bin .eql .none (.t 3) (.k (.v (.int .i64 (3)))))⟩, ⟨none, (some 10), (.mv (.t 11))⟩]
def r_s_l10Offsets_7 : List CO := [⟨none, (some 12), (.bslice 1 (.v (.int .i64 (0))) 4 [(0, (.k (.v (.int .i64 (0))))), (1, (.k (.v (.int .i64 (0))))), (2, (.k (.v (.int .i64 (2))))), (3, (.k (.v (.int .i64 (2)))))])⟩, ⟨none, (some 2), (.mv (.t 12))⟩]
def r_s_l10Offsets_8 : List CO := [⟨none, (some 14), (.bin .eql .none (.t 3) (.k (.v (.int .i64 (4)))))⟩, ⟨none, (some 13), (.mv (.t 14))⟩]
def r_s_l10Offsets_9 : List CO := [⟨none, (some 15), (.bslice 1 (.v (.int .i64 (0))) 4 [(0, (.k (.v (.int .i64 (0))))), (1, (.k (.v (.int .i64 (1))))), (2, (.k (.v (.int .i64 (2))))), (3, (.k (.v (.int .i64 (1)))))])⟩, ⟨none, (some 2), (.mv (.t 15))⟩]
def r_s_l10Offsets_10 : List CO := [⟨none, (some 16), (.bslice 1 (.v (.int .i64 (0))) 1 [(0, (.k (.v (.int .i64 (0)))))])⟩, ⟨none, (some 2), (.mv (.t 16))⟩]
/-- loop.example/g00884/spec.l10Offsets -/
def c_s_l10Offsets : C := (.seq (.reg r_s_l10Offsets_0 [0]) (.seq (.seq (.reg r_s_l10Offsets_1 [3]) (.block 0 (.seq (.reg r_s_l10Offsets_2 [3, 4]) (.cond (.t 4) (.seq (.reg r_s_l10Offsets_3 [2]) .ret) (.seq (.reg r_s_l10Offsets_4 [3, 7]) (.cond (.t 7) (.seq (.reg r_s_l10Offsets_5 [2]) .ret) (.seq (.reg r_s_l10Offsets_6 [3, 10]) (.cond (.t 10) (.seq (.reg r_s_l10Offsets_7 [2]) .ret) (.seq (.reg r_s_l10Offsets_8 [13]) (.cond (.t 13) (.seq (.reg r_s_l10Offsets_9 [2]) .ret) .skip)))))))))) (.seq (.reg r_s_l10Offsets_10 [2]) .ret)))
def k_s_l10Offsets : Nat → List Nat
  | 0 => [0]
  | 1 => [3]
  | 2 => [3, 4]
  | 3 => [2]
  | 4 => [3, 7]
  | 5 => [2]
  | 6 => [3, 10]
  | 7 => [2]
  | 8 => [13]
  | 9 => [2]
  | 10 => [2]
  | _ => []
theorem fn_s_l10Offsets : FnC Try.prog n_s_l10Offsets c_s_l10Offsets [(.tmp 2)] 17 :=
  ⟨Try.f152, _, k_s_l10Offsets, Try.func152, rfl, by kernel_rfl, by kernel_rfl, by kernel_rfl, rfl⟩
def r_s_l10Offset_0 : List CO := [⟨none, (some 4), (.mv (.k (.v (.int .i64 (0)))))⟩]
def r_s_l10Offset_1 : List CO := [⟨none, (some 6), (.mv (.t 0))⟩, ⟨none, (some 7), (.call n_s_l10Offsets [(.t 6)])⟩, ⟨none, (some 5), (.mv (.t 7))⟩]
def r_s_l10Offset_2 : List CO := [⟨none, (some 8), (.mv (.t 5))⟩, ⟨none, (some 9), (.mv (.t 1))⟩, ⟨none, (some 10), (.mv (.t 5))⟩, ⟨none, (some 11), (.len false (.t 10))⟩, ⟨none, (some 12), (.bin .rem .none (.t 9) (.t 11))⟩, ⟨none, (some 13), (.iaddr 1 (.t 8) (.t 12))⟩, ⟨none, (some 14), (.ld false 1 (.t 13))⟩, ⟨none, (some 4), (.mv (.t 14))⟩]
/-- loop.example/g00884/spec.l10Offset -/
def c_s_l10Offset : C := (.seq (.reg r_s_l10Offset_0 [0, 1]) (.seq (.reg r_s_l10Offset_1 [1, 5]) (.seq (.reg r_s_l10Offset_2 [4]) .ret)))
def k_s_l10Offset : Nat → List Nat
  | 0 => [0, 1]
  | 1 => [1, 5]
  | 2 => [4]
  | _ => []
theorem fn_s_l10Offset : FnC Try.prog n_s_l10Offset c_s_l10Offset [(.tmp 4)] 15 :=
  ⟨Try.f150, _, k_s_l10Offset, Try.func150, rfl, by kernel_rfl, by kernel_rfl, by kernel_rfl, rfl⟩
def r_s_l10Down_0 : List CO := [⟨none, (some 6), (.mv (.k (.v (.int .i64 (0)))))⟩]
def r_s_l10Down_1 : List CO := [⟨none, (some 7), (.mv (.t 1))⟩, ⟨none, (some 8), (.mv (.t 2))⟩, ⟨none, (some 9), (.call n_s_l9Down [(.t 7), (.t 8)])⟩, ⟨none, (some 10), (.mv (.t 0))⟩, ⟨none, (some 11), (.mv (.t 1))⟩, ⟨none, (some 12), (.mv (.t 2))⟩, ⟨none, (some 13), (.bin .add .none (.t 11) (.t 12))⟩, ⟨none, (some 14), (.call n_s_l10Offset [(.t 10), (.t 13)])⟩, ⟨none, (some 15), (.bin .mul .none (.k (.v (.int .i64 (40)))) (.t 14))⟩, ⟨none, (some 16), (.bin .sub .none (.t 9) (.t 15))⟩, ⟨none, (some 6), (.mv (.t 16))⟩]
/-- loop.example/g00884/spec.l10Down -/
def c_s_l10Down : C := (.seq (.reg r_s_l10Down_0 [0, 1, 2]) (.seq (.reg r_s_l10Down_1 [6]) .ret))
def k_s_l10Down : Nat → List Nat
  | 0 => [0, 1, 2]
  | 1 => [6]
  | _ => []
theorem fn_s_l10Down : FnC Try.prog n_s_l10Down c_s_l10Down [(.tmp 6)] 17 :=
  ⟨Try.f149, _, k_s_l10Down, Try.func149, rfl, by kernel_rfl, by kernel_rfl, by kernel_rfl, rfl⟩
def r_s_l10Part_0 : List CO := [⟨none, (some 3), (.box 4 (.t 0))⟩, ⟨none, (some 6), (.mv (.k (.v (.int .i64 (0)))))⟩]
def r_s_l10Part_1 : List CO := [⟨none, (some 7), (.mv (.k (.v (.bool true))))⟩]
def r_s_l10Part_2 : List CO := [⟨none, (some 8), (.faddr 0 (.t 3))⟩, ⟨none, (some 9), (.ld false 1 (.t 8))⟩]
def r_s_l10Part_3 : List CO := [⟨none, (some 11), (.bin .eql .none (.t 9) (.k (.v (.int .i64 (3)))))⟩, ⟨none, (some 10), (.mv (.t 11))⟩]
def r_s_l10Part_4 : List CO := [⟨none, (some 12), (.faddr 1 (.t 3))⟩, ⟨none, (some 13), (.ld false 1 (.t 12))⟩, ⟨none, (some 14), (.mv (.t 1))⟩, ⟨none, (some 15), (.mv (.t 2))⟩, ⟨none, (some 16), (.call n_s_l10Down [(.t 13), (.t 14), (.t 15)])⟩, ⟨none, (some 17), (.bin .gtr .none (.t 16) (.k (.v (.int .i64 (0)))))⟩, ⟨none, (some 7), (.mv (.t 17))⟩]
def r_s_l10Part_5 : List CO := [⟨none, (some 19), (.bin .eql .none (.t 9) (.k (.v (.int .i64 (5)))))⟩, ⟨none, (some 18), (.mv (.t 19))⟩]
def r_s_l10Part_6 : List CO := [⟨none, (some 20), (.faddr 1 (.t 3))⟩, ⟨none, (some 21), (.ld false 1 (.t 20))⟩, ⟨none, (some 22), (.mv (.t 1))⟩, ⟨none, (some 23), (.mv (.t 2))⟩, ⟨none, (some 24), (.call n_s_l10Down [(.t 21), (.t 22), (.t 23)])⟩, ⟨none, (some 25), (.bin .gtr .none (.t 24) (.k (.v (.int .i64 (0)))))⟩, ⟨none, (some 26), (.faddr 1 (.t 3))⟩, ⟨none, (some 27), (.ld false 1 (.t 26))⟩, ⟨none, (some 28), (.mv (.t 1))⟩, ⟨none, (some 29), (.bin .sub .none (.k (.v (.int .i64 (19)))) (.t 28))⟩, ⟨none, (some 30), (.mv (.t 2))⟩, ⟨none, (some 31), (.call n_s_l10Down [(.t 27), (.t 29), (.t 30)])⟩, ⟨none, (some 32), (.bin .gtr .none (.t 31) (.k (.v (.int .i64 (0)))))⟩, ⟨none, (some 33), (.bin .eql .bool (.t 25) (.t 32))⟩, ⟨none, (some 7), (.mv (.t 33))⟩]
def p_s_l10Part_6 : List (List Nat) := [[], [0], [], [], [0, 1, 2, 3], [0, 1, 2, 3, 4], [], [6], [], [8], [], [0, 1, 2, 3, 4, 6, 7, 8, 9, 10], [0, 1, 2, 3, 4, 6, 7, 8, 9, 10, 11], [0, 1, 2, 3, 4, 5, 6, 7, 8, 9, 10, 11, 12], [0, 1, 2, 3, 4, 5, 6, 7, 8, 9, 10, 11, 12, 13]]
def r_s_l10Part_7 : List CO := [⟨none, (some 35), (.bin .eql .none (.t 9) (.k (.v (.int .i64 (4)))))⟩, ⟨none, (some 34), (.mv (.t 35))⟩]
def r_s_l10Part_8 : List CO := [⟨none, (some 36), (.mv (.t 1))⟩, ⟨none, (some 37), (.faddr 1 (.t 3))⟩, ⟨none, (some 38), (.ld false 1 (.t 37))⟩, ⟨none, (some 39), (.mv (.t 2))⟩, ⟨none, (some 40), (.call n_s_l10Offset [(.t 38), (.t 39)])⟩, ⟨none, (some 41), (.bin .sub .none (.t 36) (.t 40))⟩, ⟨none, (some 42), (.bin .lss .none (.t 41) (.k (.v (.int .i64 (10)))))⟩, ⟨none, (some 43), (.mv (.t 2))⟩, ⟨none, (some 44), (.faddr 1 (.t 3))⟩, ⟨none, (some 45), (.ld false 1 (.t 44))⟩, ⟨none, (some 46), (.mv (.t 1))⟩, ⟨none, (some 47), (.call n_s_l10Offset [(.t 45), (.t 46)])⟩, ⟨none, (some 48), (.bin .sub .none (.t 43) (.t 47))⟩, ⟨none, (some 49), (.bin .lss .none (.t 48) (.k (.v (.int .i64 (12)))))⟩, ⟨none, (some 50), (.bin .eql .bool (.t 42) (.t 49))⟩, ⟨none, (some 7), (.mv (.t 50))⟩]
def p_s_l10Part_8 : List (List Nat) := [[], [], [1], [], [1, 2, 3], [0, 1, 2, 3, 4], [0, 1, 2, 3, 4, 5], [], [], [8], [], [1, 2, 3, 4, 8, 9, 10], [1, 2, 3, 4, 7, 8, 9, 10, 11], [1, 2, 3, 4, 7, 8, 9, 10, 11, 12], [0, 1, 2, 3, 4, 5, 6, 7, 8, 9, 10, 11, 12, 13], [0, 1, 2, 3, 4, 5, 6, 7, 8, 9, 10, 11, 12, 13, 14]]
def r_s_l10Part_9 : List CO := [⟨none, (some 52), (.bin .eql .none (.t 9) (.k (.v (.int .i64 (1)))))⟩, ⟨none, (some 51), (.mv (.t 52))⟩]
def r_s_l10Part_10 : List CO := [⟨none, (some 53), (.bin .eql .none (.t 9) (.k (.v (.int .i64 (6)))))⟩, ⟨none, (some 51), (.mv (.t 53))⟩]
def r_s_l10Part_11 : List CO := [⟨none, (some 54), (.faddr 0 (.t 3))⟩, ⟨none, (some 55), (.ld false 1 (.t 54))⟩, ⟨none, (some 56), (.mv (.t 1))⟩, ⟨none, (some 57), (.faddr 1 (.t 3))⟩, ⟨none, (some 58), (.ld false 1 (.t 57))⟩, ⟨none, (some 59), (.mv (.t 2))⟩, ⟨none, (some 60), (.call n_s_l10Offset [(.t 58), (.t 59)])⟩, ⟨none, (some 61), (.bin .sub .none (.t 56) (.t 60))⟩, ⟨none, (some 62), (.call n_s_l1Least [(.k (.v (.int .i64 (19)))), (.t 61)])⟩, ⟨none, (some 63), (.call n_s_l1Most [(.k (.v (.int .i64 (0)))), (.t 62)])⟩, ⟨none, (some 64), (.mv (.t 2))⟩, ⟨none, (some 65), (.call n_s_l9Part [(.t 55), (.t 63), (.t 64)])⟩, ⟨none, (some 6), (.mv (.t 65))⟩]
def p_s_l10Part_11 : List (List Nat) := [[], [0], [], [], [3], [], [3, 4, 5], [2, 3, 4, 5, 6], [2, 3, 4, 5, 6, 7], [2, 3, 4, 5, 6, 7, 8], [], [0, 1, 2, 3, 4, 5, 6, 7, 8, 9, 10], [0, 1, 2, 3, 4, 5, 6, 7, 8, 9, 10, 11]]
def r_s_l10Part_12 : List CO := [⟨none, (some 67), (.bin .eql .none (.t 9) (.k (.v (.int .i64 (2)))))⟩, ⟨none, (some 66), (.mv (.t 67))⟩]
def r_s_l10Part_13 : List CO := [⟨none, (some 68), (.bin .eql .none (.t 9) (.k (.v (.int .i64 (7)))))⟩, ⟨none, (some 66), (.mv (.t 68))⟩]
def r_s_l10Part_14 : List CO := [⟨none, (some 69), (.faddr 0 (.t 3))⟩, ⟨none, (some 70), (.ld false 1 (.t 69))⟩, ⟨none, (some 71), (.mv (.t 1))⟩, ⟨none, (some 72), (.mv (.t 2))⟩, ⟨none, (some 73), (.faddr 1 (.t 3))⟩, ⟨none, (some 74), (.ld false 1 (.t 73))⟩, ⟨none, (some 75), (.mv (.t 1))⟩, ⟨none, (some 76), (.call n_s_l10Offset [(.t 74), (.t 75)])⟩, ⟨none, (some 77), (.bin .sub .none (.t 72) (.t 76))⟩, ⟨none, (some 78), (.call n_s_l1Least [(.k (.v (.int .i64 (23)))), (.t 77)])⟩, ⟨none, (some 79), (.call n_s_l1Most [(.k (.v (.int .i64 (0)))), (.t 78)])⟩, ⟨none, (some 80), (.call n_s_l9Part [(.t 70), (.t 71), (.t 79)])⟩, ⟨none, (some 6), (.mv (.t 80))⟩]
def p_s_l10Part_14 : List (List Nat) := [[], [0], [], [], [], [4], [], [4, 5, 6], [3, 4, 5, 6, 7], [3, 4, 5, 6, 7, 8], [3, 4, 5, 6, 7, 8, 9], [0, 1, 2, 3, 4, 5, 6, 7, 8, 9, 10], [0, 1, 2, 3, 4, 5, 6, 7, 8, 9, 10, 11]]
def r_s_l10Part_15 : List CO := [⟨none, (some 81), (.mv (.t 7))⟩]
def r_s_l10Part_16 : List CO := [⟨none, (some 6), (.mv (.k (.v (.int .i64 (0)))))⟩]
def r_s_l10Part_17 : List CO := [⟨none, (some 6), (.mv (.k (.v (.int .i64 (1)))))⟩]
/-- loop.example/g00884/spec.l10Part -/
def c_s_l10Part : C := (.seq (.reg r_s_l10Part_0 [1, 2, 3]) (.seq (.reg r_s_l10Part_1 [1, 2, 3, 7]) (.seq (.seq (.reg r_s_l10Part_2 [1, 2, 3, 7, 9]) (.block 0 (.seq (.reg r_s_l10Part_3 [1, 2, 3, 7, 9, 10]) (.cond (.t 10) (.reg r_s_l10Part_4 [7]) (.seq (.reg r_s_l10Part_5 [1, 2, 3, 7, 9, 18]) (.cond (.t 18) (.regD r_s_l10Part_6 p_s_l10Part_6 [7]) (.seq (.reg r_s_l10Part_7 [1, 2, 3, 7, 9, 34]) (.cond (.t 34) (.regD r_s_l10Part_8 p_s_l10Part_8 [7]) (.seq (.seq (.reg r_s_l10Part_9 [1, 2, 3, 7, 9, 51]) (.cond (.t 51) .skip (.reg r_s_l10Part_10 [1, 2, 3, 7, 9, 51]))) (.cond (.t 51) (.seq (.regD r_s_l10Part_11 p_s_l10Part_11 [6]) .ret) (.seq (.seq (.reg r_s_l10Part_12 [1, 2, 3, 7, 9, 66]) (.cond (.t 66) .skip (.reg r_s_l10Part_13 [1, 2, 3, 7, 66]))) (.cond (.t 66) (.seq (.regD r_s_l10Part_14 p_s_l10Part_14 [6]) .ret) .skip)))))))))))) (.seq (.seq (.reg r_s_l10Part_15 [81]) (.cond (.t 81) (.seq (.reg r_s_l10Part_16 [6]) .ret) .skip)) (.seq (.reg r_s_l10Part_17 [6]) .ret)))))
def k_s_l10Part : Nat → List Nat
  | 0 => [1, 2, 3]
  | 1 => [1, 2, 3, 7]
  | 2 => [1, 2, 3, 7, 9]
  | 3 => [1, 2, 3, 7, 9, 10]
  | 4 => [7]
  | 5 => [1, 2, 3, 7, 9, 18]
  | 6 => [7]
  | 7 => [1, 2, 3, 7, 9, 34]
  | 8 => [7]
  | 9 => [1, 2, 3, 7, 9, 51]
  | 10 => [1, 2, 3, 7, 9, 51]
  | 11 => [6]
  | 12 => [1, 2, 3, 7, 9, 66]
  | 13 => [1, 2, 3, 7, 66]
  | 14 => [6]
  | 15 => [81]
  | 16 => [6]
  | 17 => [6]
  | _ => []
theorem fn_s_l10Part : FnC Try.prog n_s_l10Part c_s_l10Part [(.tmp 6)] 82 :=
  ⟨Try.f148, _, k_s_l10Part, Try.func148, rfl, by kernel_rfl, by kernel_rfl, by kernel_rfl, rfl⟩
def r_s_FieldTincture_0 : List CO := [⟨none, (some 3), (.box 4 (.t 0))⟩, ⟨none, (some 6), (.mv (.k (.v (.int .i64 (0)))))⟩, ⟨none, (some 7), (.mv (.k (.v (.bool false))))⟩]
def r_s_FieldTincture_1 : List CO := [⟨none, (some 8), (.ld true 4 (.t 3))⟩, ⟨none, (some 9), (.call n_s_l3Good [(.t 8)])⟩, ⟨none, (some 10), (.un .not (.t 9))⟩, ⟨none, (some 11), (.mv (.t 10))⟩, ⟨(some (11, false)), (some 12), (.mv (.t 1))⟩, ⟨(some (11, false)), (some 13), (.mv (.t 2))⟩, ⟨(some (11, false)), (some 14), (.call n_s_l9In [(.t 12), (.t 13)])⟩, ⟨(some (11, false)), (some 15), (.un .not (.t 14))⟩, ⟨none, (some 16), (.pick (.t 11) (.k (.v (.bool true))) (.t 15))⟩]
def r_s_FieldTincture_2 : List CO := [⟨none, (some 6), (.mv (.k (.v (.int .i64 (0)))))⟩, ⟨none, (some 7), (.mv (.k (.v (.bool false))))⟩]
def r_s_FieldTincture_3 : List CO := [⟨none, (some 17), (.ld true 4 (.t 3))⟩, ⟨none, (some 18), (.mv (.t 1))⟩, ⟨none, (some 19), (.mv (.t 2))⟩, ⟨none, (some 20), (.call n_s_l10Part [(.t 17), (.t 18), (.t 19)])⟩, ⟨none, (some 21), (.bin .eql .none (.t 20) (.k (.v (.int .i64 (0)))))⟩]
def r_s_FieldTincture_4 : List CO := [⟨none, (some 22), (.faddr 2 (.t 3))⟩, ⟨none, (some 23), (.ld false 1 (.t 22))⟩, ⟨none, (some 6), (.mv (.t 23))⟩, ⟨none, (some 7), (.mv (.k (.v (.bool true))))⟩]
def r_s_FieldTincture_5 : List CO := [⟨none, (some 24), (.faddr 3 (.t 3))⟩, ⟨none, (some 25), (.ld false 1 (.t 24))⟩, ⟨none, (some 6), (.mv (.t 25))⟩, ⟨none, (some 7), (.mv (.k (.v (.bool true))))⟩]
/-- loop.example/g00884/spec.FieldTincture -/
def c_s_FieldTincture : C := (.seq (.reg r_s_FieldTincture_0 [1, 2, 3]) (.seq (.seq (.reg r_s_FieldTincture_1 [1, 2, 3, 16]) (.cond (.t 16) (.seq (.reg r_s_FieldTincture_2 [6, 7]) .ret) .skip)) (.seq (.seq (.reg r_s_FieldTincture_3 [3, 21]) (.cond (.t 21) (.seq (.reg r_s_FieldTincture_4 [6, 7]) .ret) .skip)) (.seq (.reg r_s_FieldTincture_5 [6, 7]) .ret))))
def k_s_FieldTincture : Nat → List Nat
  | 0 => [1, 2, 3]
  | 1 => [1, 2, 3, 16]
  | 2 => [6, 7]
  | 3 => [3, 21]
  | 4 => [6, 7]
  | 5 => [6, 7]
  | _ => []
theorem fn_s_FieldTincture : FnC Try.prog n_s_FieldTincture c_s_FieldTincture [(.tmp 6), (.tmp 7)] 26 :=
  ⟨Try.f145, _, k_s_FieldTincture, Try.func145, rfl, by kernel_rfl, by kernel_rfl, by kernel_rfl, rfl⟩
def r_s_l14Other_0 : List CO := [⟨none, (some 2), (.box 4 (.t 0))⟩, ⟨none, (some 4), (.mv (.k (.v (.int .i64 (0)))))⟩]
def r_s_l14Other_1 : List CO := [⟨none, (some 5), (.faddr 2 (.t 2))⟩, ⟨none, (some 6), (.ld false 1 (.t 5))⟩, ⟨none, (some 7), (.faddr 3 (.t 2))⟩, ⟨none, (some 8), (.ld false 1 (.t 7))⟩, ⟨none, (some 9), (.bin .add .none (.t 6) (.t 8))⟩, ⟨none, (some 10), (.mv (.t 1))⟩, ⟨none, (some 11), (.bin .sub .none (.t 9) (.t 10))⟩, ⟨none, (some 4), (.mv (.t 11))⟩]
/-- loop.example/g00884/spec.l14Other -/
def c_s_l14Other : C := (.seq (.reg r_s_l14Other_0 [1, 2]) (.seq (.reg r_s_l14Other_1 [4]) .ret))
def k_s_l14Other : Nat → List Nat
  | 0 => [1, 2]
  | 1 => [4]
  | _ => []
theorem fn_s_l14Other : FnC Try.prog n_s_l14Other c_s_l14Other [(.tmp 4)] 12 :=
  ⟨Try.f146, _, k_s_l14Other, Try.func146, rfl, by kernel_rfl, by kernel_rfl, by kernel_rfl, rfl⟩
end Go.Proofs.Ytgefdcllialhkaa
