/- The compact code of the functions, and that it is theirs: written by a program of this claim. -/
import Derived.Test.YtgefdcllialhkaaNums
namespace Go.Proofs.Ytgefdcllialhkaa
open Go.Abs
set_option maxRecDepth 100000
def r_i_FeeFor_0 : List CO := [⟨none, (some 4), (.box 4 (.t 0))⟩, ⟨none, (some 6), (.box 15 (.t 2))⟩, ⟨none, (some 8), (.mv (.k (.v (.int .i64 (0)))))⟩, ⟨none, (some 9), (.mv (.k (.v (.bool false))))⟩]
def r_i_FeeFor_1 : List CO := [⟨none, (some 11), (.ld true 4 (.t 4))⟩, ⟨none, (some 12), (.call n_i_isTariff [(.t 11)])⟩, ⟨none, (some 13), (.un .not (.t 12))⟩, ⟨none, (some 14), (.mv (.t 13))⟩, ⟨(some (14, false)), (some 15), (.mv (.t 1))⟩, ⟨(some (14, false)), (some 16), (.call n_i_isRank [(.t 15)])⟩, ⟨(some (14, false)), (some 17), (.un .not (.t 16))⟩, ⟨none, (some 18), (.pick (.t 14) (.k (.v (.bool true))) (.t 17))⟩, ⟨none, (some 19), (.mv (.t 18))⟩, ⟨(some (19, false)), (some 20), (.ld true 15 (.t 6))⟩, ⟨(some (19, false)), (some 21), (.call n_i_IsValidArms [(.t 20)])⟩, ⟨(some (19, false)), (some 22), (.un .not (.t 21))⟩, ⟨none, (some 23), (.pick (.t 19) (.k (.v (.bool true))) (.t 22))⟩]
def r_i_FeeFor_2 : List CO := [⟨none, (some 8), (.mv (.k (.v (.int .i64 (0)))))⟩, ⟨none, (some 9), (.mv (.k (.v (.bool false))))⟩]
def r_i_FeeFor_3 : List CO := [⟨none, (some 24), (.faddr 0 (.t 4))⟩, ⟨none, (some 25), (.ld false 1 (.t 24))⟩, ⟨none, (some 26), (.mv (.t 1))⟩, ⟨none, (some 27), (.bin .sub .none (.t 26) (.k (.v (.int .i64 (1)))))⟩, ⟨none, (some 28), (.iaddr 1 (.t 25) (.t 27))⟩, ⟨none, (some 29), (.ld false 1 (.t 28))⟩, ⟨none, (some 30), (.faddr 1 (.t 4))⟩, ⟨none, (some 31), (.ld false 1 (.t 30))⟩, ⟨none, (some 32), (.ld true 15 (.t 6))⟩, ⟨none, (some 33), (.call n_i_Arms_layers [(.t 32)])⟩, ⟨none, (some 34), (.bin .sub .none (.t 33) (.k (.v (.int .i64 (1)))))⟩, ⟨none, (some 35), (.bin .mul .none (.t 31) (.t 34))⟩, ⟨none, (some 36), (.bin .add .none (.t 29) (.t 35))⟩, ⟨none, (some 10), (.mv (.t 36))⟩]
def p_i_FeeFor_3 : List (List Nat) := [[], [0], [], [2], [0, 1, 2, 3], [0, 1, 2, 3, 4], [], [6], [], [8], [8, 9], [6, 7, 8, 9, 10], [0, 1, 2, 3, 4, 5, 6, 7, 8, 9, 10, 11], [0, 1, 2, 3, 4, 5, 6, 7, 8, 9, 10, 11, 12]]
def r_i_FeeFor_4 : List CO := [⟨none, (some 37), (.mv (.t 3))⟩]
def r_i_FeeFor_5 : List CO := [⟨none, (some 38), (.mv (.t 10))⟩, ⟨none, (some 39), (.mv (.t 10))⟩, ⟨none, (some 40), (.faddr 2 (.t 4))⟩, ⟨none, (some 41), (.ld false 1 (.t 40))⟩, ⟨none, (some 42), (.bin .mul .none (.t 39) (.t 41))⟩, ⟨none, (some 43), (.bin .add .none (.t 42) (.k (.v (.int .i64 (99)))))⟩, ⟨none, (some 44), (.bin .quo .none (.t 43) (.k (.v (.int .i64 (100)))))⟩, ⟨none, (some 45), (.bin .add .none (.t 38) (.t 44))⟩, ⟨none, (some 10), (.mv (.t 45))⟩]
def r_i_FeeFor_6 : List CO := [⟨none, (some 46), (.mv (.t 10))⟩, ⟨none, (some 8), (.mv (.t 46))⟩, ⟨none, (some 9), (.mv (.k (.v (.bool true))))⟩]
/-- loop.example/g00884/impl.FeeFor -/
def c_i_FeeFor : C := (.seq (.reg r_i_FeeFor_0 [1, 3, 4, 6]) (.seq (.seq (.reg r_i_FeeFor_1 [1, 3, 4, 6, 23]) (.cond (.t 23) (.seq (.reg r_i_FeeFor_2 [8, 9]) .ret) .skip)) (.seq (.regD r_i_FeeFor_3 p_i_FeeFor_3 [3, 4, 10]) (.seq (.seq (.reg r_i_FeeFor_4 [4, 10, 37]) (.cond (.t 37) (.reg r_i_FeeFor_5 [10]) .skip)) (.seq (.reg r_i_FeeFor_6 [8, 9]) .ret)))))
def k_i_FeeFor : Nat → List Nat
  | 0 => [1, 3, 4, 6]
  | 1 => [1, 3, 4, 6, 23]
  | 2 => [8, 9]
  | 3 => [3, 4, 10]
  | 4 => [4, 10, 37]
  | 5 => [10]
  | 6 => [8, 9]
  | _ => []
theorem fn_i_FeeFor : FnC Try.prog n_i_FeeFor c_i_FeeFor [(.tmp 8), (.tmp 9)] 47 :=
  ⟨Try.f34, _, k_i_FeeFor, Try.func34, rfl, by kernel_rfl, by kernel_rfl, by kernel_rfl, rfl⟩
def r_s_FeeFor_0 : List CO := [⟨none, (some 4), (.box 4 (.t 0))⟩, ⟨none, (some 6), (.box 15 (.t 2))⟩, ⟨none, (some 8), (.mv (.k (.v (.int .i64 (0)))))⟩, ⟨none, (some 9), (.mv (.k (.v (.bool false))))⟩]
def r_s_FeeFor_1 : List CO := [⟨none, (some 11), (.ld true 4 (.t 4))⟩, ⟨none, (some 12), (.call n_s_l26Tariff [(.t 11)])⟩, ⟨none, (some 13), (.un .not (.t 12))⟩, ⟨none, (some 14), (.mv (.t 13))⟩, ⟨(some (14, false)), (some 15), (.mv (.t 1))⟩, ⟨(some (14, false)), (some 16), (.call n_s_l22Rank [(.t 15)])⟩, ⟨(some (14, false)), (some 17), (.un .not (.t 16))⟩, ⟨none, (some 18), (.pick (.t 14) (.k (.v (.bool true))) (.t 17))⟩, ⟨none, (some 19), (.mv (.t 18))⟩, ⟨(some (19, false)), (some 20), (.ld true 15 (.t 6))⟩, ⟨(some (19, false)), (some 21), (.call n_s_l5Good [(.t 20)])⟩, ⟨(some (19, false)), (some 22), (.un .not (.t 21))⟩, ⟨none, (some 23), (.pick (.t 19) (.k (.v (.bool true))) (.t 22))⟩]
def r_s_FeeFor_2 : List CO := [⟨none, (some 8), (.mv (.k (.v (.int .i64 (0)))))⟩, ⟨none, (some 9), (.mv (.k (.v (.bool false))))⟩]
def r_s_FeeFor_3 : List CO := [⟨none, (some 24), (.faddr 0 (.t 4))⟩, ⟨none, (some 25), (.ld false 1 (.t 24))⟩, ⟨none, (some 26), (.mv (.t 1))⟩, ⟨none, (some 27), (.bin .sub .none (.t 26) (.k (.v (.int .i64 (1)))))⟩, ⟨none, (some 28), (.iaddr 1 (.t 25) (.t 27))⟩, ⟨none, (some 29), (.ld false 1 (.t 28))⟩, ⟨none, (some 30), (.faddr 1 (.t 4))⟩, ⟨none, (some 31), (.ld false 1 (.t 30))⟩, ⟨none, (some 32), (.ld true 15 (.t 6))⟩, ⟨none, (some 33), (.call n_s_l5Layers [(.t 32)])⟩, ⟨none, (some 34), (.bin .sub .none (.t 33) (.k (.v (.int .i64 (1)))))⟩, ⟨none, (some 35), (.bin .mul .none (.t 31) (.t 34))⟩, ⟨none, (some 36), (.bin .add .none (.t 29) (.t 35))⟩, ⟨none, (some 10), (.mv (.t 36))⟩]
def p_s_FeeFor_3 : List (List Nat) := [[], [0], [], [2], [0, 1, 2, 3], [0, 1, 2, 3, 4], [], [6], [], [8], [8, 9], [6, 7, 8, 9, 10], [0, 1, 2, 3, 4, 5, 6, 7, 8, 9, 10, 11], [0, 1, 2, 3, 4, 5, 6, 7, 8, 9, 10, 11, 12]]
def r_s_FeeFor_4 : List CO := [⟨none, (some 37), (.mv (.t 3))⟩]
def r_s_FeeFor_5 : List CO := [⟨none, (some 38), (.mv (.t 10))⟩, ⟨none, (some 39), (.mv (.t 10))⟩, ⟨none, (some 40), (.faddr 2 (.t 4))⟩, ⟨none, (some 41), (.ld false 1 (.t 40))⟩, ⟨none, (some 42), (.bin .mul .none (.t 39) (.t 41))⟩, ⟨none, (some 43), (.bin .add .none (.t 42) (.k (.v (.int .i64 (99)))))⟩, ⟨none, (some 44), (.bin .quo .none (.t 43) (.k (.v (.int .i64 (100)))))⟩, ⟨none, (some 45), (.bin .add .none (.t 38) (.t 44))⟩, ⟨none, (some 10), (.mv (.t 45))⟩]
def r_s_FeeFor_6 : List CO := [⟨none, (some 46), (.mv (.t 10))⟩, ⟨none, (some 8), (.mv (.t 46))⟩, ⟨none, (some 9), (.mv (.k (.v (.bool true))))⟩]
/-- loop.example/g00884/spec.FeeFor -/
def c_s_FeeFor : C := (.seq (.reg r_s_FeeFor_0 [1, 3, 4, 6]) (.seq (.seq (.reg r_s_FeeFor_1 [1, 3, 4, 6, 23]) (.cond (.t 23) (.seq (.reg r_s_FeeFor_2 [8, 9]) .ret) .skip)) (.seq (.regD r_s_FeeFor_3 p_s_FeeFor_3 [3, 4, 10]) (.seq (.seq (.reg r_s_FeeFor_4 [4, 10, 37]) (.cond (.t 37) (.reg r_s_FeeFor_5 [10]) .skip)) (.seq (.reg r_s_FeeFor_6 [8, 9]) .ret)))))
def k_s_FeeFor : Nat → List Nat
  | 0 => [1, 3, 4, 6]
  | 1 => [1, 3, 4, 6, 23]
  | 2 => [8, 9]
  | 3 => [3, 4, 10]
  | 4 => [4, 10, 37]
  | 5 => [10]
  | 6 => [8, 9]
  | _ => []
theorem fn_s_FeeFor : FnC Try.prog n_s_FeeFor c_s_FeeFor [(.tmp 8), (.tmp 9)] 47 :=
  ⟨Try.f35, _, k_s_FeeFor, Try.func35, rfl, by kernel_rfl, by kernel_rfl, by kernel_rfl, rfl⟩
end Go.Proofs.Ytgefdcllialhkaa
