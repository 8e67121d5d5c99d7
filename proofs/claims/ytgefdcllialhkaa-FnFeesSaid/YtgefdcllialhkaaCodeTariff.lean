/- The compact code of the functions, and that it is theirs: written by a program of this claim. -/
import Derived.Test.YtgefdcllialhkaaNums
namespace Go.Proofs.Ytgefdcllialhkaa
open Go.Abs
set_option maxRecDepth 100000
def r_s_l26Tariff_0 : List CO := [⟨none, (some 1), (.box 4 (.t 0))⟩, ⟨none, (some 2), (.mv (.k (.v (.bool false))))⟩]
def r_s_l26Tariff_1 : List CO := [⟨none, (some 4), (.faddr 0 (.t 1))⟩, ⟨none, (some 5), (.ld false 1 (.t 4))⟩, ⟨none, (some 6), (.len false (.t 5))⟩, ⟨none, (some 7), (.bin .neq .none (.t 6) (.k (.v (.int .i64 (5)))))⟩, ⟨none, (some 8), (.mv (.t 7))⟩, ⟨(some (8, false)), (some 9), (.faddr 1 (.t 1))⟩, ⟨(some (8, false)), (some 10), (.ld false 1 (.t 9))⟩, ⟨(some (8, false)), (some 11), (.call n_s_l1In [(.t 10), (.k (.v (.int .i64 (0)))), (.k (.v (.int .i64 (100000))))])⟩, ⟨(some (8, false)), (some 12), (.un .not (.t 11))⟩, ⟨none, (some 13), (.pick (.t 8) (.k (.v (.bool true))) (.t 12))⟩, ⟨none, (some 14), (.mv (.t 13))⟩, ⟨(some (14, false)), (some 15), (.faddr 2 (.t 1))⟩, ⟨(some (14, false)), (some 16), (.ld false 1 (.t 15))⟩, ⟨(some (14, false)), (some 17), (.call n_s_l1In [(.t 16), (.k (.v (.int .i64 (0)))), (.k (.v (.int .i64 (500))))])⟩, ⟨(some (14, false)), (some 18), (.un .not (.t 17))⟩, ⟨none, (some 19), (.pick (.t 14) (.k (.v (.bool true))) (.t 18))⟩, ⟨none, (some 20), (.mv (.t 19))⟩, ⟨(some (20, false)), (some 21), (.faddr 3 (.t 1))⟩, ⟨(some (20, false)), (some 22), (.ld false 1 (.t 21))⟩, ⟨(some (20, false)), (some 23), (.call n_s_l1In [(.t 22), (.k (.v (.int .i64 (0)))), (.k (.v (.int .i64 (100))))])⟩, ⟨(some (20, false)), (some 24), (.un .not (.t 23))⟩, ⟨none, (some 25), (.pick (.t 20) (.k (.v (.bool true))) (.t 24))⟩]
def r_s_l26Tariff_2 : List CO := [⟨none, (some 2), (.mv (.k (.v (.bool false))))⟩]
def r_s_l26Tariff_3 : List CO := [⟨none, (some 3), (.mv (.k (.v (.int .i64 (0)))))⟩]
def r_s_l26Tariff_4 : List CO := [⟨none, (some 26), (.mv (.t 3))⟩, ⟨none, (some 27), (.bin .lss .none (.t 26) (.k (.v (.int .i64 (5)))))⟩]
def r_s_l26Tariff_5 : List CO := [⟨none, (some 30), (.faddr 0 (.t 1))⟩, ⟨none, (some 31), (.ld false 1 (.t 30))⟩, ⟨none, (some 32), (.mv (.t 3))⟩, ⟨none, (some 33), (.iaddr 1 (.t 31) (.t 32))⟩, ⟨none, (some 34), (.ld false 1 (.t 33))⟩, ⟨none, (some 35), (.call n_s_l1In [(.t 34), (.k (.v (.int .i64 (0)))), (.k (.v (.int .i64 (100000))))])⟩, ⟨none, (some 36), (.un .not (.t 35))⟩]
def r_s_l26Tariff_6 : List CO := [⟨none, (some 2), (.mv (.k (.v (.bool false))))⟩]
def r_s_l26Tariff_7 : List CO := [⟨none, (some 28), (.mv (.t 3))⟩, ⟨none, (some 29), (.bin .add .none (.t 28) (.k (.v (.int .i64 (1)))))⟩, ⟨none, (some 3), (.mv (.t 29))⟩]
def l_s_l26Tariff_8 : C := (.seq (.seq (.reg r_s_l26Tariff_4 [1, 3, 27]) (.cond (.t 27) .skip (.exit 0))) (.seq (.block 1 (.seq (.reg r_s_l26Tariff_5 [1, 3, 36]) (.cond (.t 36) (.seq (.reg r_s_l26Tariff_6 [2]) .ret) .skip))) (.reg r_s_l26Tariff_7 [1, 3])))
def r_s_l26Tariff_9 : List CO := [⟨none, (some 2), (.mv (.k (.v (.bool true))))⟩]
/-- loop.example/g00884/spec.l26Tariff -/
def c_s_l26Tariff : C := (.seq (.reg r_s_l26Tariff_0 [1]) (.seq (.seq (.reg r_s_l26Tariff_1 [1, 25]) (.cond (.t 25) (.seq (.reg r_s_l26Tariff_2 [2]) .ret) .skip)) (.seq (.seq (.reg r_s_l26Tariff_3 [1, 3]) (.block 0 (.loop l_s_l26Tariff_8))) (.seq (.reg r_s_l26Tariff_9 [2]) .ret))))
def k_s_l26Tariff : Nat → List Nat
  | 0 => [1]
  | 1 => [1, 25]
  | 2 => [2]
  | 3 => [1, 3]
  | 4 => [1, 3, 27]
  | 6 => [1, 3, 36]
  | 7 => [2]
  | 5 => [1, 3]
  | 8 => [2]
  | _ => []
theorem fn_s_l26Tariff : FnC Try.prog n_s_l26Tariff c_s_l26Tariff [(.tmp 2)] 37 :=
  ⟨Try.f89, _, k_s_l26Tariff, Try.func89, rfl, by kernel_rfl, by kernel_rfl, by kernel_rfl, rfl⟩
def r_i_isTariff_1_0 : List CO := [⟨none, (some 2), (.mv (.k (.v (.bool false))))⟩]
def r_i_isTariff_1_1 : List CO := [⟨none, (some 3), (.mv (.t 0))⟩, ⟨none, (some 4), (.call n_i_inside [(.t 3), (.k (.v (.int .i64 (0)))), (.k (.v (.int .i64 (100000))))])⟩, ⟨none, (some 5), (.un .not (.t 4))⟩, ⟨none, (some 2), (.mv (.t 5))⟩]
/-- loop.example/g00884/impl.isTariff$1 -/
def c_i_isTariff_1 : C := (.seq (.reg r_i_isTariff_1_0 [0]) (.seq (.reg r_i_isTariff_1_1 [2]) .ret))
def k_i_isTariff_1 : Nat → List Nat
  | 0 => [0]
  | 1 => [2]
  | _ => []
theorem fn_i_isTariff_1 : FnC Try.prog n_i_isTariff_1 c_i_isTariff_1 [(.tmp 2)] 6 :=
  ⟨Try.f115, _, k_i_isTariff_1, Try.func115, rfl, by kernel_rfl, by kernel_rfl, by kernel_rfl, rfl⟩
def r_i_isTariff_0 : List CO := [⟨none, (some 1), (.box 4 (.t 0))⟩, ⟨none, (some 2), (.mv (.k (.v (.bool false))))⟩]
def r_i_isTariff_1 : List CO := [⟨none, (some 3), (.faddr 0 (.t 1))⟩, ⟨none, (some 4), (.ld false 1 (.t 3))⟩, ⟨none, (some 5), (.call n_slices_ContainsFunc_int_int [(.t 4), (.k (.clo n_i_isTariff_1 []))])⟩]
def r_i_isTariff_2 : List CO := [⟨none, (some 2), (.mv (.k (.v (.bool false))))⟩]
def r_i_isTariff_3 : List CO := [⟨none, (some 6), (.faddr 0 (.t 1))⟩, ⟨none, (some 7), (.ld false 1 (.t 6))⟩, ⟨none, (some 8), (.len false (.t 7))⟩, ⟨none, (some 9), (.bin .eql .none (.t 8) (.k (.v (.int .i64 (5)))))⟩, ⟨none, (some 10), (.mv (.t 9))⟩, ⟨(some (10, true)), (some 11), (.faddr 1 (.t 1))⟩, ⟨(some (10, true)), (some 12), (.ld false 1 (.t 11))⟩, ⟨(some (10, true)), (some 13), (.call n_i_inside [(.t 12), (.k (.v (.int .i64 (0)))), (.k (.v (.int .i64 (100000))))])⟩, ⟨none, (some 14), (.pick (.t 10) (.t 13) (.k (.v (.bool false))))⟩, ⟨none, (some 15), (.mv (.t 14))⟩, ⟨(some (15, true)), (some 16), (.faddr 2 (.t 1))⟩, ⟨(some (15, true)), (some 17), (.ld false 1 (.t 16))⟩, ⟨(some (15, true)), (some 18), (.call n_i_inside [(.t 17), (.k (.v (.int .i64 (0)))), (.k (.v (.int .i64 (500))))])⟩, ⟨none, (some 19), (.pick (.t 15) (.t 18) (.k (.v (.bool false))))⟩, ⟨none, (some 20), (.mv (.t 19))⟩, ⟨(some (20, true)), (some 21), (.faddr 3 (.t 1))⟩, ⟨(some (20, true)), (some 22), (.ld false 1 (.t 21))⟩, ⟨(some (20, true)), (some 23), (.call n_i_inside [(.t 22), (.k (.v (.int .i64 (0)))), (.k (.v (.int .i64 (100))))])⟩, ⟨none, (some 24), (.pick (.t 20) (.t 23) (.k (.v (.bool false))))⟩, ⟨none, (some 2), (.mv (.t 24))⟩]
/-- loop.example/g00884/impl.isTariff -/
def c_i_isTariff : C := (.seq (.reg r_i_isTariff_0 [1]) (.seq (.seq (.reg r_i_isTariff_1 [1, 5]) (.cond (.t 5) (.seq (.reg r_i_isTariff_2 [2]) .ret) .skip)) (.seq (.reg r_i_isTariff_3 [2]) .ret)))
def k_i_isTariff : Nat → List Nat
  | 0 => [1]
  | 1 => [1, 5]
  | 2 => [2]
  | 3 => [2]
  | _ => []
theorem fn_i_isTariff : FnC Try.prog n_i_isTariff c_i_isTariff [(.tmp 2)] 25 :=
  ⟨Try.f88, _, k_i_isTariff, Try.func88, rfl, by kernel_rfl, by kernel_rfl, by kernel_rfl, rfl⟩
def r_i_CheapestRank_0 : List CO := [⟨none, (some 1), (.box 4 (.t 0))⟩, ⟨none, (some 2), (.mv (.k (.v (.int .i64 (0)))))⟩, ⟨none, (some 3), (.mv (.k (.v (.bool false))))⟩]
def r_i_CheapestRank_1 : List CO := [⟨none, (some 4), (.ld true 4 (.t 1))⟩, ⟨none, (some 5), (.call n_i_isTariff [(.t 4)])⟩, ⟨none, (some 6), (.un .not (.t 5))⟩]
def r_i_CheapestRank_2 : List CO := [⟨none, (some 2), (.mv (.k (.v (.int .i64 (0)))))⟩, ⟨none, (some 3), (.mv (.k (.v (.bool false))))⟩]
def r_i_CheapestRank_3 : List CO := [⟨none, (some 7), (.faddr 0 (.t 1))⟩, ⟨none, (some 8), (.ld false 1 (.t 7))⟩, ⟨none, (some 9), (.faddr 0 (.t 1))⟩, ⟨none, (some 10), (.ld false 1 (.t 9))⟩, ⟨none, (some 11), (.call n_slices_Min_int_int [(.t 10)])⟩, ⟨none, (some 12), (.call n_slices_Index_int_int [(.t 8), (.t 11)])⟩, ⟨none, (some 13), (.bin .add .none (.t 12) (.k (.v (.int .i64 (1)))))⟩, ⟨none, (some 2), (.mv (.t 13))⟩, ⟨none, (some 3), (.mv (.k (.v (.bool true))))⟩]
def p_i_CheapestRank_3 : List (List Nat) := [[], [0], [], [2], [2, 3], [0, 1, 2, 3, 4], [0, 1, 2, 3, 4, 5], [0, 1, 2, 3, 4, 5, 6], [0, 1, 2, 3, 4, 5, 6, 7]]
/-- loop.example/g00884/impl.CheapestRank -/
def c_i_CheapestRank : C := (.seq (.reg r_i_CheapestRank_0 [1]) (.seq (.seq (.reg r_i_CheapestRank_1 [1, 6]) (.cond (.t 6) (.seq (.reg r_i_CheapestRank_2 [2, 3]) .ret) .skip)) (.seq (.regD r_i_CheapestRank_3 p_i_CheapestRank_3 [2, 3]) .ret)))
def k_i_CheapestRank : Nat → List Nat
  | 0 => [1]
  | 1 => [1, 6]
  | 2 => [2, 3]
  | 3 => [2, 3]
  | _ => []
theorem fn_i_CheapestRank : FnC Try.prog n_i_CheapestRank c_i_CheapestRank [(.tmp 2), (.tmp 3)] 14 :=
  ⟨Try.f36, _, k_i_CheapestRank, Try.func36, rfl, by kernel_rfl, by kernel_rfl, by kernel_rfl, rfl⟩
def r_s_CheapestRank_0 : List CO := [⟨none, (some 1), (.box 4 (.t 0))⟩, ⟨none, (some 2), (.mv (.k (.v (.int .i64 (0)))))⟩, ⟨none, (some 3), (.mv (.k (.v (.bool false))))⟩]
def r_s_CheapestRank_1 : List CO := [⟨none, (some 6), (.ld true 4 (.t 1))⟩, ⟨none, (some 7), (.call n_s_l26Tariff [(.t 6)])⟩, ⟨none, (some 8), (.un .not (.t 7))⟩]
def r_s_CheapestRank_2 : List CO := [⟨none, (some 2), (.mv (.k (.v (.int .i64 (0)))))⟩, ⟨none, (some 3), (.mv (.k (.v (.bool false))))⟩]
def r_s_CheapestRank_3 : List CO := [⟨none, (some 4), (.mv (.k (.v (.int .i64 (0)))))⟩]
def r_s_CheapestRank_4 : List CO := [⟨none, (some 5), (.mv (.k (.v (.int .i64 (1)))))⟩]
def r_s_CheapestRank_5 : List CO := [⟨none, (some 9), (.mv (.t 5))⟩, ⟨none, (some 10), (.bin .lss .none (.t 9) (.k (.v (.int .i64 (5)))))⟩]
def r_s_CheapestRank_6 : List CO := [⟨none, (some 13), (.faddr 0 (.t 1))⟩, ⟨none, (some 14), (.ld false 1 (.t 13))⟩, ⟨none, (some 15), (.mv (.t 5))⟩, ⟨none, (some 16), (.iaddr 1 (.t 14) (.t 15))⟩, ⟨none, (some 17), (.ld false 1 (.t 16))⟩, ⟨none, (some 18), (.faddr 0 (.t 1))⟩, ⟨none, (some 19), (.ld false 1 (.t 18))⟩, ⟨none, (some 20), (.mv (.t 4))⟩, ⟨none, (some 21), (.iaddr 1 (.t 19) (.t 20))⟩, ⟨none, (some 22), (.ld false 1 (.t 21))⟩, ⟨none, (some 23), (.bin .lss .none (.t 17) (.t 22))⟩]
def p_s_CheapestRank_6 : List (List Nat) := [[], [0], [], [0, 1, 2], [0, 1, 2, 3], [], [5], [], [5, 6, 7], [5, 6, 7, 8], [0, 1, 2, 3, 4, 5, 6, 7, 8, 9]]
def r_s_CheapestRank_7 : List CO := [⟨none, (some 24), (.mv (.t 5))⟩, ⟨none, (some 4), (.mv (.t 24))⟩]
def r_s_CheapestRank_8 : List CO := [⟨none, (some 11), (.mv (.t 5))⟩, ⟨none, (some 12), (.bin .add .none (.t 11) (.k (.v (.int .i64 (1)))))⟩, ⟨none, (some 5), (.mv (.t 12))⟩]
def l_s_CheapestRank_9 : C := (.seq (.seq (.reg r_s_CheapestRank_5 [1, 4, 5, 10]) (.cond (.t 10) .skip (.exit 0))) (.seq (.block 1 (.seq (.regD r_s_CheapestRank_6 p_s_CheapestRank_6 [1, 4, 5, 23]) (.cond (.t 23) (.reg r_s_CheapestRank_7 [1, 4, 5]) .skip))) (.reg r_s_CheapestRank_8 [1, 4, 5])))
def r_s_CheapestRank_10 : List CO := [⟨none, (some 25), (.mv (.t 4))⟩, ⟨none, (some 26), (.bin .add .none (.t 25) (.k (.v (.int .i64 (1)))))⟩, ⟨none, (some 2), (.mv (.t 26))⟩, ⟨none, (some 3), (.mv (.k (.v (.bool true))))⟩]
/-- loop.example/g00884/spec.CheapestRank -/
def c_s_CheapestRank : C := (.seq (.reg r_s_CheapestRank_0 [1]) (.seq (.seq (.reg r_s_CheapestRank_1 [1, 8]) (.cond (.t 8) (.seq (.reg r_s_CheapestRank_2 [2, 3]) .ret) .skip)) (.seq (.reg r_s_CheapestRank_3 [1, 4]) (.seq (.seq (.reg r_s_CheapestRank_4 [1, 4, 5]) (.block 0 (.loop l_s_CheapestRank_9))) (.seq (.reg r_s_CheapestRank_10 [2, 3]) .ret)))))
def k_s_CheapestRank : Nat → List Nat
  | 0 => [1]
  | 1 => [1, 8]
  | 2 => [2, 3]
  | 3 => [1, 4]
  | 4 => [1, 4, 5]
  | 5 => [1, 4, 5, 10]
  | 7 => [1, 4, 5, 23]
  | 8 => [1, 4, 5]
  | 6 => [1, 4, 5]
  | 9 => [2, 3]
  | _ => []
theorem fn_s_CheapestRank : FnC Try.prog n_s_CheapestRank c_s_CheapestRank [(.tmp 2), (.tmp 3)] 27 :=
  ⟨Try.f38, _, k_s_CheapestRank, Try.func38, rfl, by kernel_rfl, by kernel_rfl, by kernel_rfl, rfl⟩
end Go.Proofs.Ytgefdcllialhkaa
