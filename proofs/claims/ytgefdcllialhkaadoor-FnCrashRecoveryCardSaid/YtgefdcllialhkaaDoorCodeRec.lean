/- The compact code of the functions, and that it is theirs: written by a program of this claim. -/
import Derived.Test.YtgefdcllialhkaaDoorNums
namespace Go.Proofs.YtgefdcllialhkaaDoor
open Go.Abs
set_option maxRecDepth 100000
def r_s_l1Stands_0 : List CO := [⟨none, (some 4), (.mv (.k (.v (.bool false))))⟩]
def r_s_l1Stands_1 : List CO := [⟨none, (some 5), (.mv (.k (.v (.int .i64 (0)))))⟩]
def r_s_l1Stands_2 : List CO := [⟨none, (some 6), (.mv (.t 5))⟩, ⟨none, (some 7), (.mv (.t 0))⟩, ⟨none, (some 8), (.len true (.t 7))⟩, ⟨none, (some 9), (.bin .lss .none (.t 6) (.t 8))⟩]
def r_s_l1Stands_3 : List CO := [⟨none, (some 12), (.mv (.t 0))⟩, ⟨none, (some 13), (.mv (.t 5))⟩, ⟨none, (some 14), (.idx (.t 12) (.t 13))⟩, ⟨none, (some 15), (.mv (.t 1))⟩, ⟨none, (some 16), (.bin .eql .none (.t 14) (.t 15))⟩]
def r_s_l1Stands_4 : List CO := [⟨none, (some 4), (.mv (.k (.v (.bool true))))⟩]
def r_s_l1Stands_5 : List CO := [⟨none, (some 10), (.mv (.t 5))⟩, ⟨none, (some 11), (.bin .add .none (.t 10) (.k (.v (.int .i64 (1)))))⟩, ⟨none, (some 5), (.mv (.t 11))⟩]
def l_s_l1Stands_6 : C := (.seq (.seq (.reg r_s_l1Stands_2 [0, 1, 5, 9]) (.cond (.t 9) .skip (.exit 0))) (.seq (.block 1 (.seq (.reg r_s_l1Stands_3 [0, 1, 5, 16]) (.cond (.t 16) (.seq (.reg r_s_l1Stands_4 [4]) .ret) .skip))) (.reg r_s_l1Stands_5 [0, 1, 5])))
def r_s_l1Stands_7 : List CO := [⟨none, (some 4), (.mv (.k (.v (.bool false))))⟩]
/-- loop.example/g00884/spec.l1Stands -/
def c_s_l1Stands : C := (.seq (.reg r_s_l1Stands_0 [0, 1]) (.seq (.seq (.reg r_s_l1Stands_1 [0, 1, 5]) (.block 0 (.loop l_s_l1Stands_6))) (.seq (.reg r_s_l1Stands_7 [4]) .ret)))
def k_s_l1Stands : Nat → List Nat
  | 0 => [0, 1]
  | 1 => [0, 1, 5]
  | 2 => [0, 1, 5, 9]
  | 4 => [0, 1, 5, 16]
  | 5 => [4]
  | 3 => [0, 1, 5]
  | 6 => [4]
  | _ => []
theorem fn_s_l1Stands : FnC Tryd.prog n_s_l1Stands c_s_l1Stands [(.tmp 4)] 17 :=
  ⟨Tryd.f51, _, k_s_l1Stands, Tryd.func51, rfl, by kernel_rfl, by kernel_rfl, by kernel_rfl, rfl⟩
def r_i_isPlain_0 : List CO := [⟨none, (some 2), (.mv (.k (.v (.bool false))))⟩]
def r_i_isPlain_1 : List CO := [⟨none, (some 3), (.mv (.k (.v (.int .i64 (0)))))⟩]
def r_i_isPlain_2 : List CO := [⟨none, (some 4), (.mv (.t 3))⟩, ⟨none, (some 5), (.mv (.t 0))⟩, ⟨none, (some 6), (.len true (.t 5))⟩, ⟨none, (some 7), (.bin .lss .none (.t 4) (.t 6))⟩]
def r_i_isPlain_3 : List CO := [⟨none, (some 10), (.mv (.t 0))⟩, ⟨none, (some 11), (.mv (.t 3))⟩, ⟨none, (some 12), (.idx (.t 10) (.t 11))⟩, ⟨none, (some 13), (.bin .lss .none (.t 12) (.k (.v (.int .u8 (32)))))⟩, ⟨none, (some 14), (.mv (.t 13))⟩, ⟨(some (14, false)), (some 15), (.mv (.t 0))⟩, ⟨(some (14, false)), (some 16), (.mv (.t 3))⟩, ⟨(some (14, false)), (some 17), (.idx (.t 15) (.t 16))⟩, ⟨(some (14, false)), (some 18), (.bin .gtr .none (.t 17) (.k (.v (.int .u8 (126)))))⟩, ⟨none, (some 19), (.pick (.t 14) (.k (.v (.bool true))) (.t 18))⟩, ⟨none, (some 20), (.mv (.t 19))⟩, ⟨(some (20, false)), (some 21), (.mv (.t 0))⟩, ⟨(some (20, false)), (some 22), (.mv (.t 3))⟩, ⟨(some (20, false)), (some 23), (.idx (.t 21) (.t 22))⟩, ⟨(some (20, false)), (some 24), (.bin .eql .none (.t 23) (.k (.v (.int .u8 (35)))))⟩, ⟨none, (some 25), (.pick (.t 20) (.k (.v (.bool true))) (.t 24))⟩]
def r_i_isPlain_4 : List CO := [⟨none, (some 2), (.mv (.k (.v (.bool false))))⟩]
def r_i_isPlain_5 : List CO := [⟨none, (some 8), (.mv (.t 3))⟩, ⟨none, (some 9), (.bin .add .none (.t 8) (.k (.v (.int .i64 (1)))))⟩, ⟨none, (some 3), (.mv (.t 9))⟩]
def l_i_isPlain_6 : C := (.seq (.seq (.reg r_i_isPlain_2 [0, 3, 7]) (.cond (.t 7) .skip (.exit 0))) (.seq (.block 1 (.seq (.reg r_i_isPlain_3 [0, 3, 25]) (.cond (.t 25) (.seq (.reg r_i_isPlain_4 [2]) .ret) .skip))) (.reg r_i_isPlain_5 [0, 3])))
def r_i_isPlain_7 : List CO := [⟨none, (some 2), (.mv (.k (.v (.bool true))))⟩]
/-- loop.example/g00884/impl.isPlain -/
def c_i_isPlain : C := (.seq (.reg r_i_isPlain_0 [0]) (.seq (.seq (.reg r_i_isPlain_1 [0, 3]) (.block 0 (.loop l_i_isPlain_6))) (.seq (.reg r_i_isPlain_7 [2]) .ret)))
def k_i_isPlain : Nat → List Nat
  | 0 => [0]
  | 1 => [0, 3]
  | 2 => [0, 3, 7]
  | 4 => [0, 3, 25]
  | 5 => [2]
  | 3 => [0, 3]
  | 6 => [2]
  | _ => []
theorem fn_i_isPlain : FnC Tryd.prog n_i_isPlain c_i_isPlain [(.tmp 2)] 26 :=
  ⟨Tryd.f40, _, k_i_isPlain, Tryd.func40, rfl, by kernel_rfl, by kernel_rfl, by kernel_rfl, rfl⟩
def r_s_l27Plain_0 : List CO := [⟨none, (some 4), (.mv (.k (.v (.bool false))))⟩]
def r_s_l27Plain_1 : List CO := [⟨none, (some 5), (.mv (.k (.v (.int .i64 (0)))))⟩]
def r_s_l27Plain_2 : List CO := [⟨none, (some 6), (.mv (.t 5))⟩, ⟨none, (some 7), (.mv (.t 0))⟩, ⟨none, (some 8), (.len true (.t 7))⟩, ⟨none, (some 9), (.bin .lss .none (.t 6) (.t 8))⟩]
def r_s_l27Plain_3 : List CO := [⟨none, (some 12), (.mv (.t 0))⟩, ⟨none, (some 13), (.mv (.t 5))⟩, ⟨none, (some 14), (.idx (.t 12) (.t 13))⟩, ⟨none, (some 15), (.conv (.int .i64) (.t 14))⟩, ⟨none, (some 16), (.call n_s_l1In [(.t 15), (.k (.v (.int .i64 (32)))), (.k (.v (.int .i64 (126))))])⟩, ⟨none, (some 17), (.un .not (.t 16))⟩, ⟨none, (some 18), (.mv (.t 17))⟩, ⟨(some (18, false)), (some 19), (.mv (.t 0))⟩, ⟨(some (18, false)), (some 20), (.mv (.t 5))⟩, ⟨(some (18, false)), (some 21), (.idx (.t 19) (.t 20))⟩, ⟨(some (18, false)), (some 22), (.bin .eql .none (.t 21) (.k (.v (.int .u8 (35)))))⟩, ⟨none, (some 23), (.pick (.t 18) (.k (.v (.bool true))) (.t 22))⟩]
def r_s_l27Plain_4 : List CO := [⟨none, (some 4), (.mv (.k (.v (.bool false))))⟩]
def r_s_l27Plain_5 : List CO := [⟨none, (some 10), (.mv (.t 5))⟩, ⟨none, (some 11), (.bin .add .none (.t 10) (.k (.v (.int .i64 (1)))))⟩, ⟨none, (some 5), (.mv (.t 11))⟩]
def l_s_l27Plain_6 : C := (.seq (.seq (.reg r_s_l27Plain_2 [0, 1, 5, 9]) (.cond (.t 9) .skip (.exit 0))) (.seq (.block 1 (.seq (.reg r_s_l27Plain_3 [0, 1, 5, 23]) (.cond (.t 23) (.seq (.reg r_s_l27Plain_4 [4]) .ret) .skip))) (.reg r_s_l27Plain_5 [0, 1, 5])))
def r_s_l27Plain_7 : List CO := [⟨none, (some 24), (.mv (.t 0))⟩, ⟨none, (some 25), (.len true (.t 24))⟩, ⟨none, (some 26), (.mv (.t 1))⟩, ⟨none, (some 27), (.bin .leq .none (.t 25) (.t 26))⟩, ⟨none, (some 4), (.mv (.t 27))⟩]
/-- loop.example/g00884/spec.l27Plain -/
def c_s_l27Plain : C := (.seq (.reg r_s_l27Plain_0 [0, 1]) (.seq (.seq (.reg r_s_l27Plain_1 [0, 1, 5]) (.block 0 (.loop l_s_l27Plain_6))) (.seq (.reg r_s_l27Plain_7 [4]) .ret)))
def k_s_l27Plain : Nat → List Nat
  | 0 => [0, 1]
  | 1 => [0, 1, 5]
  | 2 => [0, 1, 5, 9]
  | 4 => [0, 1, 5, 23]
  | 5 => [4]
  | 3 => [0, 1, 5]
  | 6 => [4]
  | _ => []
theorem fn_s_l27Plain : FnC Tryd.prog n_s_l27Plain c_s_l27Plain [(.tmp 4)] 28 :=
  ⟨Tryd.f50, _, k_s_l27Plain, Tryd.func50, rfl, by kernel_rfl, by kernel_rfl, by kernel_rfl, rfl⟩
def r_i_IsValidRecord_0 : List CO := [⟨none, (some 1), (.box 2 (.t 0))⟩, ⟨none, (some 2), (.mv (.k (.v (.bool false))))⟩]
def r_i_IsValidRecord_1 : List CO := [⟨none, (some 3), (.faddr 0 (.t 1))⟩, ⟨none, (some 4), (.ld false 1 (.t 3))⟩, ⟨none, (some 5), (.len true (.t 4))⟩, ⟨none, (some 6), (.call n_i_inside [(.t 5), (.k (.v (.int .i64 (1)))), (.k (.v (.int .i64 (160))))])⟩, ⟨none, (some 7), (.mv (.t 6))⟩, ⟨(some (7, true)), (some 8), (.faddr 1 (.t 1))⟩, ⟨(some (7, true)), (some 9), (.ld false 1 (.t 8))⟩, ⟨(some (7, true)), (some 10), (.len true (.t 9))⟩, ⟨(some (7, true)), (some 11), (.bin .leq .none (.t 10) (.k (.v (.int .i64 (200)))))⟩, ⟨none, (some 12), (.pick (.t 7) (.t 11) (.k (.v (.bool false))))⟩, ⟨none, (some 13), (.mv (.t 12))⟩, ⟨(some (13, true)), (some 14), (.faddr 0 (.t 1))⟩, ⟨(some (13, true)), (some 15), (.ld false 1 (.t 14))⟩, ⟨(some (13, true)), (some 16), (.call n_i_isPlain [(.t 15)])⟩, ⟨none, (some 17), (.pick (.t 13) (.t 16) (.k (.v (.bool false))))⟩, ⟨none, (some 18), (.mv (.t 17))⟩, ⟨(some (18, true)), (some 19), (.faddr 1 (.t 1))⟩, ⟨(some (18, true)), (some 20), (.ld false 1 (.t 19))⟩, ⟨(some (18, true)), (some 21), (.call n_i_isPlain [(.t 20)])⟩, ⟨none, (some 22), (.pick (.t 18) (.t 21) (.k (.v (.bool false))))⟩, ⟨none, (some 23), (.mv (.t 22))⟩, ⟨(some (23, true)), (some 24), (.faddr 0 (.t 1))⟩, ⟨(some (23, true)), (some 25), (.ld false 1 (.t 24))⟩, ⟨(some (23, true)), (some 26), (.call n_strings_Contains [(.t 25), (.k (.v (.string (bs [64]))))])⟩, ⟨(some (23, true)), (some 27), (.un .not (.t 26))⟩, ⟨none, (some 28), (.pick (.t 23) (.t 27) (.k (.v (.bool false))))⟩, ⟨none, (some 2), (.mv (.t 28))⟩]
/-- loop.example/g00884/impl.IsValidRecord -/
def c_i_IsValidRecord : C := (.seq (.reg r_i_IsValidRecord_0 [1]) (.seq (.reg r_i_IsValidRecord_1 [2]) .ret))
def k_i_IsValidRecord : Nat → List Nat
  | 0 => [1]
  | 1 => [2]
  | _ => []
theorem fn_i_IsValidRecord : FnC Tryd.prog n_i_IsValidRecord c_i_IsValidRecord [(.tmp 2)] 29 :=
  ⟨Tryd.f17, _, k_i_IsValidRecord, Tryd.func17, rfl, by kernel_rfl, by kernel_rfl, by kernel_rfl, rfl⟩
def r_s_l27Good_0 : List CO := [⟨none, (some 1), (.box 2 (.t 0))⟩, ⟨none, (some 2), (.mv (.k (.v (.bool false))))⟩]
def r_s_l27Good_1 : List CO := [⟨none, (some 3), (.faddr 0 (.t 1))⟩, ⟨none, (some 4), (.ld false 1 (.t 3))⟩, ⟨none, (some 5), (.bin .neq .none (.t 4) (.k (.v (.string (bs [])))))⟩, ⟨none, (some 6), (.mv (.t 5))⟩, ⟨(some (6, true)), (some 7), (.faddr 0 (.t 1))⟩, ⟨(some (6, true)), (some 8), (.ld false 1 (.t 7))⟩, ⟨(some (6, true)), (some 9), (.call n_s_l27Plain [(.t 8), (.k (.v (.int .i64 (160))))])⟩, ⟨none, (some 10), (.pick (.t 6) (.t 9) (.k (.v (.bool false))))⟩, ⟨none, (some 11), (.mv (.t 10))⟩, ⟨(some (11, true)), (some 12), (.faddr 0 (.t 1))⟩, ⟨(some (11, true)), (some 13), (.ld false 1 (.t 12))⟩, ⟨(some (11, true)), (some 14), (.call n_s_l1Stands [(.t 13), (.k (.v (.int .u8 (64))))])⟩, ⟨(some (11, true)), (some 15), (.un .not (.t 14))⟩, ⟨none, (some 16), (.pick (.t 11) (.t 15) (.k (.v (.bool false))))⟩, ⟨none, (some 17), (.mv (.t 16))⟩, ⟨(some (17, true)), (some 18), (.faddr 1 (.t 1))⟩, ⟨(some (17, true)), (some 19), (.ld false 1 (.t 18))⟩, ⟨(some (17, true)), (some 20), (.call n_s_l27Plain [(.t 19), (.k (.v (.int .i64 (200))))])⟩, ⟨none, (some 21), (.pick (.t 17) (.t 20) (.k (.v (.bool false))))⟩, ⟨none, (some 2), (.mv (.t 21))⟩]
/-- loop.example/g00884/spec.l27Good -/
def c_s_l27Good : C := (.seq (.reg r_s_l27Good_0 [1]) (.seq (.reg r_s_l27Good_1 [2]) .ret))
def k_s_l27Good : Nat → List Nat
  | 0 => [1]
  | 1 => [2]
  | _ => []
theorem fn_s_l27Good : FnC Tryd.prog n_s_l27Good c_s_l27Good [(.tmp 2)] 22 :=
  ⟨Tryd.f37, _, k_s_l27Good, Tryd.func37, rfl, by kernel_rfl, by kernel_rfl, by kernel_rfl, rfl⟩
def r_s_IsValidRecord_0 : List CO := [⟨none, (some 1), (.box 2 (.t 0))⟩, ⟨none, (some 2), (.mv (.k (.v (.bool false))))⟩]
def r_s_IsValidRecord_1 : List CO := [⟨none, (some 3), (.ld true 2 (.t 1))⟩, ⟨none, (some 4), (.call n_s_l27Good [(.t 3)])⟩, ⟨none, (some 2), (.mv (.t 4))⟩]
/-- loop.example/g00884/spec.IsValidRecord -/
def c_s_IsValidRecord : C := (.seq (.reg r_s_IsValidRecord_0 [1]) (.seq (.reg r_s_IsValidRecord_1 [2]) .ret))
def k_s_IsValidRecord : Nat → List Nat
  | 0 => [1]
  | 1 => [2]
  | _ => []
theorem fn_s_IsValidRecord : FnC Tryd.prog n_s_IsValidRecord c_s_IsValidRecord [(.tmp 2)] 5 :=
  ⟨Tryd.f18, _, k_s_IsValidRecord, Tryd.func18, rfl, by kernel_rfl, by kernel_rfl, by kernel_rfl, rfl⟩
end Go.Proofs.YtgefdcllialhkaaDoor
