/- The compact code of the functions, and that it is theirs: written by a program of this claim. -/
import Derived.Test.YtopcfaffljjnbaaDoorNums
namespace Go.Proofs.YtopcfaffljjnbaaDoor
open Go.Abs
set_option maxRecDepth 100000
def r_w_rTexts_0 : List CO := [⟨none, (some 4), (.mv (.k (.v (.bool false))))⟩]
def r_w_rTexts_1 : List CO := [⟨none, (some 6), (.mv (.t 0))⟩, ⟨none, (some 7), (.len false (.t 6))⟩, ⟨none, (some 8), (.mv (.t 1))⟩, ⟨none, (some 9), (.len false (.t 8))⟩, ⟨none, (some 10), (.bin .neq .none (.t 7) (.t 9))⟩]
def r_w_rTexts_2 : List CO := [⟨none, (some 4), (.mv (.k (.v (.bool false))))⟩]
def r_w_rTexts_3 : List CO := [⟨none, (some 5), (.mv (.k (.v (.int .i64 (0)))))⟩]
def r_w_rTexts_4 : List CO := [⟨none, (some 11), (.mv (.t 5))⟩, ⟨none, (some 12), (.mv (.t 0))⟩, ⟨none, (some 13), (.len false (.t 12))⟩, ⟨none, (some 14), (.bin .lss .none (.t 11) (.t 13))⟩]
def r_w_rTexts_5 : List CO := [⟨none, (some 17), (.mv (.t 0))⟩, ⟨none, (some 18), (.mv (.t 5))⟩, ⟨none, (some 19), (.iaddr 1 (.t 17) (.t 18))⟩, ⟨none, (some 20), (.ld false 1 (.t 19))⟩, ⟨none, (some 21), (.mv (.t 1))⟩, ⟨none, (some 22), (.mv (.t 5))⟩, ⟨none, (some 23), (.iaddr 1 (.t 21) (.t 22))⟩, ⟨none, (some 24), (.ld false 1 (.t 23))⟩, ⟨none, (some 25), (.bin .neq .none (.t 20) (.t 24))⟩]
def p_w_rTexts_5 : List (List Nat) := [[], [], [0, 1], [0, 1, 2], [], [], [4, 5], [4, 5, 6], [0, 1, 2, 3, 4, 5, 6, 7]]
def r_w_rTexts_6 : List CO := [⟨none, (some 4), (.mv (.k (.v (.bool false))))⟩]
def r_w_rTexts_7 : List CO := [⟨none, (some 15), (.mv (.t 5))⟩, ⟨none, (some 16), (.bin .add .none (.t 15) (.k (.v (.int .i64 (1)))))⟩, ⟨none, (some 5), (.mv (.t 16))⟩]
def l_w_rTexts_8 : C := (.seq (.seq (.reg r_w_rTexts_4 [0, 1, 5, 14]) (.cond (.t 14) .skip (.exit 0))) (.seq (.block 1 (.seq (.regD r_w_rTexts_5 p_w_rTexts_5 [0, 1, 5, 25]) (.cond (.t 25) (.seq (.reg r_w_rTexts_6 [4]) .ret) .skip))) (.reg r_w_rTexts_7 [0, 1, 5])))
def r_w_rTexts_9 : List CO := [⟨none, (some 4), (.mv (.k (.v (.bool true))))⟩]
/-- loop.example/g00884/laws.rTexts -/
def c_w_rTexts : C := (.seq (.reg r_w_rTexts_0 [0, 1]) (.seq (.seq (.reg r_w_rTexts_1 [0, 1, 10]) (.cond (.t 10) (.seq (.reg r_w_rTexts_2 [4]) .ret) .skip)) (.seq (.seq (.reg r_w_rTexts_3 [0, 1, 5]) (.block 0 (.loop l_w_rTexts_8))) (.seq (.reg r_w_rTexts_9 [4]) .ret))))
def k_w_rTexts : Nat → List Nat
  | 0 => [0, 1]
  | 1 => [0, 1, 10]
  | 2 => [4]
  | 3 => [0, 1, 5]
  | 4 => [0, 1, 5, 14]
  | 6 => [0, 1, 5, 25]
  | 7 => [4]
  | 5 => [0, 1, 5]
  | 8 => [4]
  | _ => []
theorem fn_w_rTexts : FnC Tryd.prog n_w_rTexts c_w_rTexts [(.tmp 4)] 26 :=
  ⟨Tryd.f8, _, k_w_rTexts, Tryd.func8, rfl, by kernel_rfl, by kernel_rfl, by kernel_rfl, rfl⟩
def r_w_rBig_0 : List CO := [⟨none, (some 2), (.mv (.k (.v (.bool false))))⟩]
def r_w_rBig_1 : List CO := [⟨none, (some 3), (.mv (.t 0))⟩, ⟨none, (some 4), (.len false (.t 3))⟩, ⟨none, (some 5), (.bin .gtr .none (.t 4) (.k (.v (.int .i64 (65536)))))⟩, ⟨none, (some 2), (.mv (.t 5))⟩]
/-- loop.example/g00884/laws.rBig -/
def c_w_rBig : C := (.seq (.reg r_w_rBig_0 [0]) (.seq (.reg r_w_rBig_1 [2]) .ret))
def k_w_rBig : Nat → List Nat
  | 0 => [0]
  | 1 => [2]
  | _ => []
theorem fn_w_rBig : FnC Tryd.prog n_w_rBig c_w_rBig [(.tmp 2)] 6 :=
  ⟨Tryd.f4, _, k_w_rBig, Tryd.func4, rfl, by kernel_rfl, by kernel_rfl, by kernel_rfl, rfl⟩
def r_w_rJoined_0 : List CO := [⟨none, (some 2), (.mv (.k (.v (.string (bs [])))))⟩]
def r_w_rJoined_1 : List CO := [⟨none, (some 3), (.mv (.k (.v (.string (bs [])))))⟩]
def r_w_rJoined_2 : List CO := [⟨none, (some 4), (.mv (.k (.v (.int .i64 (0)))))⟩]
def r_w_rJoined_3 : List CO := [⟨none, (some 5), (.mv (.t 4))⟩, ⟨none, (some 6), (.mv (.t 0))⟩, ⟨none, (some 7), (.len false (.t 6))⟩, ⟨none, (some 8), (.bin .lss .none (.t 5) (.t 7))⟩]
def r_w_rJoined_4 : List CO := [⟨none, (some 11), (.mv (.t 4))⟩, ⟨none, (some 12), (.bin .gtr .none (.t 11) (.k (.v (.int .i64 (0)))))⟩]
def r_w_rJoined_5 : List CO := [⟨none, (some 13), (.mv (.t 3))⟩, ⟨none, (some 14), (.bin .add .none (.t 13) (.k (.v (.string (bs [32])))))⟩, ⟨none, (some 3), (.mv (.t 14))⟩]
def r_w_rJoined_6 : List CO := [⟨none, (some 15), (.mv (.t 3))⟩, ⟨none, (some 16), (.mv (.t 0))⟩, ⟨none, (some 17), (.mv (.t 4))⟩, ⟨none, (some 18), (.iaddr 1 (.t 16) (.t 17))⟩, ⟨none, (some 19), (.ld false 1 (.t 18))⟩, ⟨none, (some 20), (.bin .add .none (.t 15) (.t 19))⟩, ⟨none, (some 3), (.mv (.t 20))⟩]
def r_w_rJoined_7 : List CO := [⟨none, (some 9), (.mv (.t 4))⟩, ⟨none, (some 10), (.bin .add .none (.t 9) (.k (.v (.int .i64 (1)))))⟩, ⟨none, (some 4), (.mv (.t 10))⟩]
def l_w_rJoined_8 : C := (.seq (.seq (.reg r_w_rJoined_3 [0, 3, 4, 8]) (.cond (.t 8) .skip (.exit 0))) (.seq (.block 1 (.seq (.seq (.reg r_w_rJoined_4 [0, 3, 4, 12]) (.cond (.t 12) (.reg r_w_rJoined_5 [0, 3, 4]) .skip)) (.reg r_w_rJoined_6 [0, 3, 4]))) (.reg r_w_rJoined_7 [0, 3, 4])))
def r_w_rJoined_9 : List CO := [⟨none, (some 21), (.mv (.t 3))⟩, ⟨none, (some 2), (.mv (.t 21))⟩]
/-- loop.example/g00884/laws.rJoined -/
def c_w_rJoined : C := (.seq (.reg r_w_rJoined_0 [0]) (.seq (.reg r_w_rJoined_1 [0, 3]) (.seq (.seq (.reg r_w_rJoined_2 [0, 3, 4]) (.block 0 (.loop l_w_rJoined_8))) (.seq (.reg r_w_rJoined_9 [2]) .ret))))
def k_w_rJoined : Nat → List Nat
  | 0 => [0]
  | 1 => [0, 3]
  | 2 => [0, 3, 4]
  | 3 => [0, 3, 4, 8]
  | 5 => [0, 3, 4, 12]
  | 6 => [0, 3, 4]
  | 7 => [0, 3, 4]
  | 4 => [0, 3, 4]
  | 8 => [2]
  | _ => []
theorem fn_w_rJoined : FnC Tryd.prog n_w_rJoined c_w_rJoined [(.tmp 2)] 22 :=
  ⟨Tryd.f11, _, k_w_rJoined, Tryd.func11, rfl, by kernel_rfl, by kernel_rfl, by kernel_rfl, rfl⟩
def r_w_rRagged_0 : List CO := [⟨none, (some 4), (.mv (.k (.v (.int .i64 (0)))))⟩]
def r_w_rRagged_1 : List CO := [⟨none, (some 5), (.mv (.k (.v (.int .i64 (0)))))⟩]
def r_w_rRagged_2 : List CO := [⟨none, (some 6), (.mv (.k (.v (.int .i64 (0)))))⟩]
def r_w_rRagged_3 : List CO := [⟨none, (some 7), (.mv (.t 6))⟩, ⟨none, (some 8), (.mv (.t 0))⟩, ⟨none, (some 9), (.len false (.t 8))⟩, ⟨none, (some 10), (.bin .lss .none (.t 7) (.t 9))⟩]
def r_w_rRagged_4 : List CO := [⟨none, (some 13), (.mv (.t 5))⟩, ⟨none, (some 14), (.mv (.t 1))⟩, ⟨none, (some 15), (.mv (.t 0))⟩, ⟨none, (some 16), (.mv (.t 6))⟩, ⟨none, (some 17), (.iaddr 1 (.t 15) (.t 16))⟩, ⟨none, (some 18), (.ld false 1 (.t 17))⟩, ⟨none, (some 19), (.len true (.t 18))⟩, ⟨none, (some 20), (.bin .sub .none (.t 14) (.t 19))⟩, ⟨none, (some 21), (.mv (.t 1))⟩, ⟨none, (some 22), (.mv (.t 0))⟩, ⟨none, (some 23), (.mv (.t 6))⟩, ⟨none, (some 24), (.iaddr 1 (.t 22) (.t 23))⟩, ⟨none, (some 25), (.ld false 1 (.t 24))⟩, ⟨none, (some 26), (.len true (.t 25))⟩, ⟨none, (some 27), (.bin .sub .none (.t 21) (.t 26))⟩, ⟨none, (some 28), (.bin .mul .none (.t 20) (.t 27))⟩, ⟨none, (some 29), (.bin .add .none (.t 13) (.t 28))⟩, ⟨none, (some 5), (.mv (.t 29))⟩]
def p_w_rRagged_4 : List (List Nat) := [[], [], [], [], [2, 3], [2, 3, 4], [2, 3, 4, 5], [1, 2, 3, 4, 5, 6], [], [], [], [9, 10], [9, 10, 11], [9, 10, 11, 12], [8, 9, 10, 11, 12, 13], [1, 2, 3, 4, 5, 6, 7, 8, 9, 10, 11, 12, 13, 14], [0, 1, 2, 3, 4, 5, 6, 7, 8, 9, 10, 11, 12, 13, 14, 15], [0, 1, 2, 3, 4, 5, 6, 7, 8, 9, 10, 11, 12, 13, 14, 15, 16]]
def r_w_rRagged_5 : List CO := [⟨none, (some 11), (.mv (.t 6))⟩, ⟨none, (some 12), (.bin .add .none (.t 11) (.k (.v (.int .i64 (1)))))⟩, ⟨none, (some 6), (.mv (.t 12))⟩]
def l_w_rRagged_6 : C := (.seq (.seq (.reg r_w_rRagged_3 [0, 1, 5, 6, 10]) (.cond (.t 10) .skip (.exit 0))) (.seq (.block 1 (.regD r_w_rRagged_4 p_w_rRagged_4 [0, 1, 5, 6])) (.reg r_w_rRagged_5 [0, 1, 5, 6])))
def r_w_rRagged_7 : List CO := [⟨none, (some 30), (.mv (.t 5))⟩, ⟨none, (some 4), (.mv (.t 30))⟩]
/-- loop.example/g00884/laws.rRagged -/
def c_w_rRagged : C := (.seq (.reg r_w_rRagged_0 [0, 1]) (.seq (.reg r_w_rRagged_1 [0, 1, 5]) (.seq (.seq (.reg r_w_rRagged_2 [0, 1, 5, 6]) (.block 0 (.loop l_w_rRagged_6))) (.seq (.reg r_w_rRagged_7 [4]) .ret))))
def k_w_rRagged : Nat → List Nat
  | 0 => [0, 1]
  | 1 => [0, 1, 5]
  | 2 => [0, 1, 5, 6]
  | 3 => [0, 1, 5, 6, 10]
  | 5 => [0, 1, 5, 6]
  | 4 => [0, 1, 5, 6]
  | 6 => [4]
  | _ => []
theorem fn_w_rRagged : FnC Tryd.prog n_w_rRagged c_w_rRagged [(.tmp 4)] 31 :=
  ⟨Tryd.f12, _, k_w_rRagged, Tryd.func12, rfl, by kernel_rfl, by kernel_rfl, by kernel_rfl, rfl⟩
end Go.Proofs.YtopcfaffljjnbaaDoor
