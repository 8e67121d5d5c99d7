/- The compact code of the functions, and that it is theirs: written by a program of this claim. -/
import Derived.Test.YtnihjjelamfgdaaNums
namespace Go.Proofs.Ytnihjjelamfgdaa
open Go.Abs
set_option maxRecDepth 100000
def r_w_FnExactFeeFor_0 : List CO := [⟨none, (some 4), (.box 4 (.t 0))⟩, ⟨none, (some 6), (.box 15 (.t 2))⟩, ⟨none, (some 8), (.mv (.k (.v (.bool false))))⟩]
def r_w_FnExactFeeFor_1 : List CO := [⟨none, (some 9), (.mv (.k (.v (.int .i64 (1048576)))))⟩]
def r_w_FnExactFeeFor_2 : List CO := [⟨none, (some 15), (.ld true 4 (.t 4))⟩, ⟨none, (some 16), (.mv (.t 9))⟩, ⟨none, (some 17), (.call n_w_szTariff [(.t 15), (.t 16)])⟩, ⟨none, (some 9), (.mv (.t 17))⟩]
def r_w_FnExactFeeFor_3 : List CO := [⟨none, (some 18), (.mv (.t 9))⟩, ⟨none, (some 19), (.bin .lss .none (.t 18) (.k (.v (.int .i64 (0)))))⟩]
def r_w_FnExactFeeFor_4 : List CO := [⟨none, (some 8), (.mv (.k (.v (.bool true))))⟩]
def r_w_FnExactFeeFor_5 : List CO := [⟨none, (some 21), (.ld true 4 (.t 4))⟩, ⟨none, (some 22), (.call n_w_toTariff [(.t 21)])⟩, ⟨none, (some 23), (.mv (.t 1))⟩, ⟨none, (some 24), (.ld true 15 (.t 6))⟩, ⟨none, (some 25), (.call n_w_toArms [(.t 24)])⟩, ⟨none, (some 26), (.mv (.t 3))⟩, ⟨none, (some 27), (.call n_s_FeeFor [(.t 22), (.t 23), (.t 25), (.t 26)])⟩, ⟨none, (some 20), (.mv (.t 27))⟩, ⟨none, (some 28), (.ext (.t 20) 0)⟩, ⟨none, (some 29), (.ext (.t 20) 1)⟩, ⟨none, (some 10), (.mv (.t 28))⟩, ⟨none, (some 11), (.mv (.t 29))⟩]
def p_w_FnExactFeeFor_5 : List (List Nat) := [[], [0], [], [], [0, 1, 3], [], [0, 1, 2, 3, 4, 5], [0, 1, 2, 3, 4, 5, 6], [0, 1, 2, 3, 4, 5, 6, 7], [0, 1, 2, 3, 4, 5, 6, 7], [0, 1, 2, 3, 4, 5, 6, 7, 8], [0, 1, 2, 3, 4, 5, 6, 7, 8, 9, 10]]
def r_w_FnExactFeeFor_6 : List CO := [⟨none, (some 30), (.ld true 4 (.t 4))⟩, ⟨none, (some 31), (.call n_w_toTariff [(.t 30)])⟩, ⟨none, (some 12), (.box 4 (.k (.agg [(.v (.slice none 0 0)), (.v (.int .i64 (0))), (.v (.int .i64 (0))), (.v (.int .i64 (0)))])))⟩, ⟨none, none, (.st 4 (.t 12) (.t 31))⟩]
def r_w_FnExactFeeFor_7 : List CO := [⟨none, (some 33), (.ld true 4 (.t 12))⟩, ⟨none, (some 34), (.mv (.t 1))⟩, ⟨none, (some 35), (.ld true 15 (.t 6))⟩, ⟨none, (some 36), (.call n_w_toArms [(.t 35)])⟩, ⟨none, (some 37), (.mv (.t 3))⟩, ⟨none, (some 38), (.call n_i_FeeFor [(.t 33), (.t 34), (.t 36), (.t 37)])⟩, ⟨none, (some 32), (.mv (.t 38))⟩, ⟨none, (some 39), (.ext (.t 32) 0)⟩, ⟨none, (some 40), (.ext (.t 32) 1)⟩, ⟨none, (some 13), (.mv (.t 39))⟩, ⟨none, (some 14), (.mv (.t 40))⟩]
def p_w_FnExactFeeFor_7 : List (List Nat) := [[], [], [], [2], [], [0, 1, 2, 3, 4], [0, 1, 2, 3, 4, 5], [0, 1, 2, 3, 4, 5, 6], [0, 1, 2, 3, 4, 5, 6], [0, 1, 2, 3, 4, 5, 6, 7], [0, 1, 2, 3, 4, 5, 6, 7, 8, 9]]
def r_w_FnExactFeeFor_8 : List CO := [⟨none, (some 41), (.mv (.t 13))⟩, ⟨none, (some 42), (.mv (.t 10))⟩, ⟨none, (some 43), (.bin .neq .none (.t 41) (.t 42))⟩, ⟨none, (some 44), (.mv (.t 43))⟩, ⟨(some (44, false)), (some 45), (.mv (.t 14))⟩, ⟨(some (44, false)), (some 46), (.mv (.t 11))⟩, ⟨(some (44, false)), (some 47), (.bin .neq .bool (.t 45) (.t 46))⟩, ⟨none, (some 48), (.pick (.t 44) (.k (.v (.bool true))) (.t 47))⟩]
def r_w_FnExactFeeFor_9 : List CO := [⟨none, (some 8), (.mv (.k (.v (.bool false))))⟩]
def r_w_FnExactFeeFor_10 : List CO := [⟨none, (some 49), (.ld true 4 (.t 12))⟩, ⟨none, (some 50), (.ld true 4 (.t 4))⟩, ⟨none, (some 51), (.call n_w_toTariff [(.t 50)])⟩, ⟨none, (some 52), (.call n_w_eqTariff [(.t 49), (.t 51)])⟩, ⟨none, (some 53), (.un .not (.t 52))⟩]
def p_w_FnExactFeeFor_10 : List (List Nat) := [[], [], [1], [0, 1, 2], [0, 1, 2, 3]]
def r_w_FnExactFeeFor_11 : List CO := [⟨none, (some 8), (.mv (.k (.v (.bool false))))⟩]
def r_w_FnExactFeeFor_12 : List CO := [⟨none, (some 8), (.mv (.k (.v (.bool true))))⟩]
/-- loop.example/g00884/laws.FnExactFeeFor -/
def c_w_FnExactFeeFor : C := (.seq (.reg r_w_FnExactFeeFor_0 [1, 3, 4, 6]) (.seq (.reg r_w_FnExactFeeFor_1 [1, 3, 4, 6, 9]) (.seq (.reg r_w_FnExactFeeFor_2 [1, 3, 4, 6, 9]) (.seq (.seq (.reg r_w_FnExactFeeFor_3 [1, 3, 4, 6, 19]) (.cond (.t 19) (.seq (.reg r_w_FnExactFeeFor_4 [8]) .ret) .skip)) (.seq (.regD r_w_FnExactFeeFor_5 p_w_FnExactFeeFor_5 [1, 3, 4, 6, 10, 11]) (.seq (.reg r_w_FnExactFeeFor_6 [1, 3, 4, 6, 10, 11, 12]) (.seq (.regD r_w_FnExactFeeFor_7 p_w_FnExactFeeFor_7 [4, 10, 11, 12, 13, 14]) (.seq (.seq (.reg r_w_FnExactFeeFor_8 [4, 12, 48]) (.cond (.t 48) (.seq (.reg r_w_FnExactFeeFor_9 [8]) .ret) .skip)) (.seq (.seq (.regD r_w_FnExactFeeFor_10 p_w_FnExactFeeFor_10 [53]) (.cond (.t 53) (.seq (.reg r_w_FnExactFeeFor_11 [8]) .ret) .skip)) (.seq (.reg r_w_FnExactFeeFor_12 [8]) .ret))))))))))
def k_w_FnExactFeeFor : Nat → List Nat
  | 0 => [1, 3, 4, 6]
  | 1 => [1, 3, 4, 6, 9]
  | 2 => [1, 3, 4, 6, 9]
  | 3 => [1, 3, 4, 6, 19]
  | 4 => [8]
  | 5 => [1, 3, 4, 6, 10, 11]
  | 6 => [1, 3, 4, 6, 10, 11, 12]
  | 7 => [4, 10, 11, 12, 13, 14]
  | 8 => [4, 12, 48]
  | 9 => [8]
  | 10 => [53]
  | 11 => [8]
  | 12 => [8]
  | _ => []
theorem fn_w_FnExactFeeFor : FnC Try.prog n_w_FnExactFeeFor c_w_FnExactFeeFor [(.tmp 8)] 54 :=
  ⟨Try.f10, _, k_w_FnExactFeeFor, Try.func10, rfl, by kernel_rfl, by kernel_rfl, by kernel_rfl, rfl⟩
end Go.Proofs.Ytnihjjelamfgdaa
