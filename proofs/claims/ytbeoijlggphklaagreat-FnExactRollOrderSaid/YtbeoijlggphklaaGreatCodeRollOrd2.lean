/- The compact code of the functions, and that it is theirs: written by a program of this claim. -/
import Derived.Test.YtbeoijlggphklaaGreatNums
namespace Go.Proofs.YtbeoijlggphklaaGreat
open Go.Abs
set_option maxRecDepth 100000
def r_i_RollOrder_0 : List CO := [⟨none, (some 2), (.box 1 (.t 0))⟩, ⟨none, (some 4), (.mv (.k (.v (.slice none 0 0))))⟩, ⟨none, (some 5), (.mv (.k (.v (.bool false))))⟩]
def r_i_RollOrder_1 : List CO := [⟨none, (some 9), (.ld true 1 (.t 2))⟩, ⟨none, (some 10), (.call n_i_IsValidRegister [(.t 9)])⟩, ⟨none, (some 11), (.un .not (.t 10))⟩, ⟨none, (some 12), (.mv (.t 11))⟩, ⟨(some (12, false)), (some 13), (.mv (.t 1))⟩, ⟨(some (12, false)), (some 14), (.call n_i_inside [(.t 13), (.k (.v (.int .i64 (1)))), (.k (.v (.int .i64 (3))))])⟩, ⟨(some (12, false)), (some 15), (.un .not (.t 14))⟩, ⟨none, (some 16), (.pick (.t 12) (.k (.v (.bool true))) (.t 15))⟩]
def r_i_RollOrder_2 : List CO := [⟨none, (some 4), (.mv (.k (.v (.slice none 0 0))))⟩, ⟨none, (some 5), (.mv (.k (.v (.bool false))))⟩]
def r_i_RollOrder_3 : List CO := [⟨none, (some 17), (.bslice 1 (.v (.int .i64 (0))) 0 [])⟩, ⟨none, (some 6), (.mv (.t 17))⟩]
def r_i_RollOrder_4 : List CO := [⟨none, (some 18), (.ld true 1 (.t 2))⟩, ⟨none, (some 19), (.mv (.t 1))⟩, ⟨none, (some 20), (.call n_i_Register_ordered [(.t 18), (.t 19)])⟩, ⟨none, (some 21), (.len false (.t 20))⟩, ⟨none, (some 22), (.mv (.k (.v (.int .i64 (0)))))⟩]
def r_i_RollOrder_5 : List CO := [⟨none, (some 23), (.bin .lss .none (.t 22) (.t 21))⟩]
def r_i_RollOrder_6 : List CO := [⟨none, (some 24), (.iaddr 18 (.t 20) (.t 22))⟩, ⟨none, (some 25), (.ld true 18 (.t 24))⟩, ⟨none, (some 8), (.box 18 (.k (.agg [(.v (.int .i64 (0))), (.v (.string (bs []))), (.v (.int .i64 (0))), (.v (.int .i64 (0))), (.v (.int .i64 (0))), (.v (.int .i64 (0))), (.v (.int .i64 (0))), (.v (.int .i64 (0))), (.v (.int .i64 (0))), (.v (.int .i64 (0))), (.v (.int .i64 (0))), (.v (.int .i64 (0))), (.v (.int .i64 (0))), (.v (.int .i64 (0))), (.v (.int .i64 (0))), (.v (.int .i64 (0))), (.v (.int .i64 (0))), (.v (.int .i64 (0)))])))⟩, ⟨none, none, (.st 18 (.t 8) (.t 25))⟩]
def r_i_RollOrder_7 : List CO := [⟨none, (some 26), (.mv (.t 6))⟩, ⟨none, (some 27), (.faddr 0 (.t 8))⟩, ⟨none, (some 28), (.ld false 1 (.t 27))⟩, ⟨none, (some 29), (.bslice 1 (.v (.int .i64 (0))) 1 [(0, (.t 28))])⟩, ⟨none, (some 30), (.app 1 8 (.t 26) (.t 29))⟩, ⟨none, (some 6), (.mv (.t 30))⟩]
def r_i_RollOrder_8 : List CO := [⟨none, (some 31), (.bin .add .none (.t 22) (.k (.v (.int .i64 (1)))))⟩, ⟨none, (some 22), (.mv (.t 31))⟩]
def l_i_RollOrder_9 : C := (.seq (.reg r_i_RollOrder_5 [6, 20, 21, 22, 23]) (.seq (.cond (.t 23) .skip (.exit 0)) (.seq (.block 1 (.seq (.reg r_i_RollOrder_6 [6, 8, 20, 21, 22]) (.reg r_i_RollOrder_7 [6, 20, 21, 22]))) (.reg r_i_RollOrder_8 [6, 20, 21, 22]))))
def r_i_RollOrder_10 : List CO := [⟨none, (some 32), (.mv (.t 6))⟩, ⟨none, (some 4), (.mv (.t 32))⟩, ⟨none, (some 5), (.mv (.k (.v (.bool true))))⟩]
/-- loop.example/g00884/impl.RollOrder -/
def c_i_RollOrder : C := (.seq (.reg r_i_RollOrder_0 [1, 2]) (.seq (.seq (.reg r_i_RollOrder_1 [1, 2, 16]) (.cond (.t 16) (.seq (.reg r_i_RollOrder_2 [4, 5]) .ret) .skip)) (.seq (.reg r_i_RollOrder_3 [1, 2, 6]) (.seq (.seq (.reg r_i_RollOrder_4 [6, 20, 21, 22]) (.block 0 (.loop l_i_RollOrder_9))) (.seq (.reg r_i_RollOrder_10 [4, 5]) .ret)))))
def k_i_RollOrder : Nat → List Nat
  | 0 => [1, 2]
  | 1 => [1, 2, 16]
  | 2 => [4, 5]
  | 3 => [1, 2, 6]
  | 4 => [6, 20, 21, 22]
  | 5 => [6, 20, 21, 22, 23]
  | 6 => [6, 8, 20, 21, 22]
  | 7 => [6, 20, 21, 22]
  | 8 => [6, 20, 21, 22]
  | 9 => [4, 5]
  | _ => []
theorem fn_i_RollOrder : FnC Tryz.prog n_i_RollOrder c_i_RollOrder [(.tmp 4), (.tmp 5)] 33 :=
  ⟨Tryz.f7, _, k_i_RollOrder, Tryz.func7, rfl, by kernel_rfl, by kernel_rfl, by kernel_rfl, rfl⟩
def r_s_RollOrder_0 : List CO := [⟨none, (some 2), (.box 1 (.t 0))⟩, ⟨none, (some 4), (.mv (.k (.v (.slice none 0 0))))⟩, ⟨none, (some 5), (.mv (.k (.v (.bool false))))⟩]
def r_s_RollOrder_1 : List CO := [⟨none, (some 9), (.bslice 1 (.v (.int .i64 (0))) 0 [])⟩, ⟨none, (some 6), (.mv (.t 9))⟩]
def r_s_RollOrder_2 : List CO := [⟨none, (some 10), (.ld true 1 (.t 2))⟩, ⟨none, (some 11), (.call n_s_l16Good [(.t 10)])⟩, ⟨none, (some 12), (.un .not (.t 11))⟩, ⟨none, (some 13), (.mv (.t 12))⟩, ⟨(some (13, false)), (some 14), (.mv (.t 1))⟩, ⟨(some (13, false)), (some 15), (.call n_s_l25By [(.t 14)])⟩, ⟨(some (13, false)), (some 16), (.un .not (.t 15))⟩, ⟨none, (some 17), (.pick (.t 13) (.k (.v (.bool true))) (.t 16))⟩]
def r_s_RollOrder_3 : List CO := [⟨none, (some 18), (.mv (.t 6))⟩, ⟨none, (some 4), (.mv (.t 18))⟩, ⟨none, (some 5), (.mv (.k (.v (.bool false))))⟩]
def r_s_RollOrder_4 : List CO := [⟨none, (some 19), (.ld true 1 (.t 2))⟩, ⟨none, (some 20), (.mv (.t 1))⟩, ⟨none, (some 21), (.call n_s_l25Order [(.t 19), (.t 20)])⟩, ⟨none, (some 7), (.mv (.t 21))⟩]
def r_s_RollOrder_5 : List CO := [⟨none, (some 8), (.mv (.k (.v (.int .i64 (0)))))⟩]
def r_s_RollOrder_6 : List CO := [⟨none, (some 22), (.mv (.t 8))⟩, ⟨none, (some 23), (.mv (.t 7))⟩, ⟨none, (some 24), (.len false (.t 23))⟩, ⟨none, (some 25), (.bin .lss .none (.t 22) (.t 24))⟩]
def r_s_RollOrder_7 : List CO := [⟨none, (some 28), (.mv (.t 6))⟩, ⟨none, (some 29), (.faddr 0 (.t 2))⟩, ⟨none, (some 30), (.ld false 1 (.t 29))⟩, ⟨none, (some 31), (.mv (.t 7))⟩, ⟨none, (some 32), (.mv (.t 8))⟩, ⟨none, (some 33), (.iaddr 1 (.t 31) (.t 32))⟩, ⟨none, (some 34), (.ld false 1 (.t 33))⟩, ⟨none, (some 35), (.iaddr 18 (.t 30) (.t 34))⟩, ⟨none, (some 36), (.faddr 0 (.t 35))⟩, ⟨none, (some 37), (.ld false 1 (.t 36))⟩, ⟨none, (some 38), (.bslice 1 (.v (.int .i64 (0))) 1 [(0, (.t 37))])⟩, ⟨none, (some 39), (.app 1 8 (.t 28) (.t 38))⟩, ⟨none, (some 6), (.mv (.t 39))⟩]
def p_s_RollOrder_7 : List (List Nat) := [[], [], [1], [], [], [3, 4], [3, 4, 5], [1, 2, 3, 4, 5, 6], [1, 2, 3, 4, 5, 6, 7], [1, 2, 3, 4, 5, 6, 7, 8], [1, 2, 3, 4, 5, 6, 7, 8, 9], [0, 1, 2, 3, 4, 5, 6, 7, 8, 9, 10], [0, 1, 2, 3, 4, 5, 6, 7, 8, 9, 10, 11]]
def r_s_RollOrder_8 : List CO := [⟨none, (some 26), (.mv (.t 8))⟩, ⟨none, (some 27), (.bin .add .none (.t 26) (.k (.v (.int .i64 (1)))))⟩, ⟨none, (some 8), (.mv (.t 27))⟩]
def l_s_RollOrder_9 : C := (.seq (.seq (.reg r_s_RollOrder_6 [2, 6, 7, 8, 25]) (.cond (.t 25) .skip (.exit 0))) (.seq (.block 1 (.regD r_s_RollOrder_7 p_s_RollOrder_7 [2, 6, 7, 8])) (.reg r_s_RollOrder_8 [2, 6, 7, 8])))
def r_s_RollOrder_10 : List CO := [⟨none, (some 40), (.mv (.t 6))⟩, ⟨none, (some 4), (.mv (.t 40))⟩, ⟨none, (some 5), (.mv (.k (.v (.bool true))))⟩]
/-- loop.example/g00884/spec.RollOrder -/
def c_s_RollOrder : C := (.seq (.reg r_s_RollOrder_0 [1, 2]) (.seq (.reg r_s_RollOrder_1 [1, 2, 6]) (.seq (.seq (.reg r_s_RollOrder_2 [1, 2, 6, 17]) (.cond (.t 17) (.seq (.reg r_s_RollOrder_3 [4, 5]) .ret) .skip)) (.seq (.reg r_s_RollOrder_4 [2, 6, 7]) (.seq (.seq (.reg r_s_RollOrder_5 [2, 6, 7, 8]) (.block 0 (.loop l_s_RollOrder_9))) (.seq (.reg r_s_RollOrder_10 [4, 5]) .ret))))))
def k_s_RollOrder : Nat → List Nat
  | 0 => [1, 2]
  | 1 => [1, 2, 6]
  | 2 => [1, 2, 6, 17]
  | 3 => [4, 5]
  | 4 => [2, 6, 7]
  | 5 => [2, 6, 7, 8]
  | 6 => [2, 6, 7, 8, 25]
  | 8 => [2, 6, 7, 8]
  | 7 => [2, 6, 7, 8]
  | 9 => [4, 5]
  | _ => []
theorem fn_s_RollOrder : FnC Tryz.prog n_s_RollOrder c_s_RollOrder [(.tmp 4), (.tmp 5)] 41 :=
  ⟨Tryz.f5, _, k_s_RollOrder, Tryz.func5, rfl, by kernel_rfl, by kernel_rfl, by kernel_rfl, rfl⟩
end Go.Proofs.YtbeoijlggphklaaGreat
