/- The compact code of the functions, and that it is theirs: written by a program of this claim. -/
import Derived.Test.YtbeoijlggphklaaGreatNums
namespace Go.Proofs.YtbeoijlggphklaaGreat
open Go.Abs
set_option maxRecDepth 100000
def r_s_l2Word_0 : List CO := [⟨none, (some 2), (.mv (.k (.v (.string (bs [])))))⟩]
def r_s_l2Word_1 : List CO := [⟨none, (some 3), (.bslice 1 (.v (.string (bs []))) 9 [(0, (.k (.v (.string (bs [103, 111, 108, 100]))))), (1, (.k (.v (.string (bs [115, 105, 108, 118, 101, 114]))))), (2, (.k (.v (.string (bs [114, 101, 100]))))), (3, (.k (.v (.string (bs [98, 108, 117, 101]))))), (4, (.k (.v (.string (bs [98, 108, 97, 99, 107]))))), (5, (.k (.v (.string (bs [103, 114, 101, 101, 110]))))), (6, (.k (.v (.string (bs [112, 117, 114, 112, 108, 101]))))), (7, (.k (.v (.string (bs [101, 114, 109, 105, 110, 101]))))), (8, (.k (.v (.string (bs [118, 97, 105, 114])))))])⟩, ⟨none, (some 4), (.mv (.t 0))⟩, ⟨none, (some 5), (.bin .sub .none (.t 4) (.k (.v (.int .i64 (1)))))⟩, ⟨none, (some 6), (.iaddr 1 (.t 3) (.t 5))⟩, ⟨none, (some 7), (.ld false 1 (.t 6))⟩, ⟨none, (some 2), (.mv (.t 7))⟩]
/-- loop.example/g00884/spec.l2Word -/
def c_s_l2Word : C := (.seq (.reg r_s_l2Word_0 [0]) (.seq (.reg r_s_l2Word_1 [2]) .ret))
def k_s_l2Word : Nat → List Nat
  | 0 => [0]
  | 1 => [2]
  | _ => []
theorem fn_s_l2Word : FnC Tryz.prog n_s_l2Word c_s_l2Word [(.tmp 2)] 8 :=
  ⟨Tryz.f65, _, k_s_l2Word, Tryz.func65, rfl, by kernel_rfl, by kernel_rfl, by kernel_rfl, rfl⟩
def r_s_l3LineWord_0 : List CO := [⟨none, (some 2), (.mv (.k (.v (.string (bs [])))))⟩]
def r_s_l3LineWord_1 : List CO := [⟨none, (some 3), (.bslice 1 (.v (.string (bs []))) 5 [(0, (.k (.v (.string (bs []))))), (1, (.k (.v (.string (bs [101, 110, 103, 114, 97, 105, 108, 101, 100]))))), (2, (.k (.v (.string (bs [119, 97, 118, 121]))))), (3, (.k (.v (.string (bs [101, 109, 98, 97, 116, 116, 108, 101, 100]))))), (4, (.k (.v (.string (bs [105, 110, 100, 101, 110, 116, 101, 100])))))])⟩, ⟨none, (some 4), (.mv (.t 0))⟩, ⟨none, (some 5), (.iaddr 1 (.t 3) (.t 4))⟩, ⟨none, (some 6), (.ld false 1 (.t 5))⟩, ⟨none, (some 2), (.mv (.t 6))⟩]
/-- loop.example/g00884/spec.l3LineWord -/
def c_s_l3LineWord : C := (.seq (.reg r_s_l3LineWord_0 [0]) (.seq (.reg r_s_l3LineWord_1 [2]) .ret))
def k_s_l3LineWord : Nat → List Nat
  | 0 => [0]
  | 1 => [2]
  | _ => []
theorem fn_s_l3LineWord : FnC Tryz.prog n_s_l3LineWord c_s_l3LineWord [(.tmp 2)] 7 :=
  ⟨Tryz.f89, _, k_s_l3LineWord, Tryz.func89, rfl, by kernel_rfl, by kernel_rfl, by kernel_rfl, rfl⟩
def r_s_l3Text_0 : List CO := [⟨none, (some 1), (.box 4 (.t 0))⟩, ⟨none, (some 2), (.mv (.k (.v (.string (bs [])))))⟩]
def r_s_l3Text_1 : List CO := [⟨none, (some 4), (.faddr 0 (.t 1))⟩, ⟨none, (some 5), (.ld false 1 (.t 4))⟩, ⟨none, (some 6), (.bin .eql .none (.t 5) (.k (.v (.int .i64 (0)))))⟩]
def r_s_l3Text_2 : List CO := [⟨none, (some 7), (.faddr 2 (.t 1))⟩, ⟨none, (some 8), (.ld false 1 (.t 7))⟩, ⟨none, (some 9), (.call n_s_l2Word [(.t 8)])⟩, ⟨none, (some 2), (.mv (.t 9))⟩]
def r_s_l3Text_3 : List CO := [⟨none, (some 10), (.bslice 1 (.v (.string (bs []))) 8 [(0, (.k (.v (.string (bs []))))), (1, (.k (.v (.string (bs [112, 101, 114, 32, 112, 97, 108, 101]))))), (2, (.k (.v (.string (bs [112, 101, 114, 32, 102, 101, 115, 115]))))), (3, (.k (.v (.string (bs [112, 101, 114, 32, 98, 101, 110, 100]))))), (4, (.k (.v (.string (bs [113, 117, 97, 114, 116, 101, 114, 108, 121]))))), (5, (.k (.v (.string (bs [112, 101, 114, 32, 115, 97, 108, 116, 105, 114, 101]))))), (6, (.k (.v (.string (bs [112, 97, 108, 121]))))), (7, (.k (.v (.string (bs [98, 97, 114, 114, 121])))))])⟩, ⟨none, (some 11), (.faddr 0 (.t 1))⟩, ⟨none, (some 12), (.ld false 1 (.t 11))⟩, ⟨none, (some 13), (.iaddr 1 (.t 10) (.t 12))⟩, ⟨none, (some 14), (.ld false 1 (.t 13))⟩, ⟨none, (some 3), (.mv (.t 14))⟩]
def r_s_l3Text_4 : List CO := [⟨none, (some 15), (.faddr 1 (.t 1))⟩, ⟨none, (some 16), (.ld false 1 (.t 15))⟩, ⟨none, (some 17), (.bin .gtr .none (.t 16) (.k (.v (.int .i64 (0)))))⟩]
def r_s_l3Text_5 : List CO := [⟨none, (some 18), (.mv (.t 3))⟩, ⟨none, (some 19), (.bin .add .none (.t 18) (.k (.v (.string (bs [32])))))⟩, ⟨none, (some 20), (.faddr 1 (.t 1))⟩, ⟨none, (some 21), (.ld false 1 (.t 20))⟩, ⟨none, (some 22), (.call n_s_l3LineWord [(.t 21)])⟩, ⟨none, (some 23), (.bin .add .none (.t 19) (.t 22))⟩, ⟨none, (some 3), (.mv (.t 23))⟩]
def r_s_l3Text_6 : List CO := [⟨none, (some 24), (.mv (.t 3))⟩, ⟨none, (some 25), (.bin .add .none (.t 24) (.k (.v (.string (bs [32])))))⟩, ⟨none, (some 26), (.faddr 2 (.t 1))⟩, ⟨none, (some 27), (.ld false 1 (.t 26))⟩, ⟨none, (some 28), (.call n_s_l2Word [(.t 27)])⟩, ⟨none, (some 29), (.bin .add .none (.t 25) (.t 28))⟩, ⟨none, (some 30), (.bin .add .none (.t 29) (.k (.v (.string (bs [32, 97, 110, 100, 32])))))⟩, ⟨none, (some 31), (.faddr 3 (.t 1))⟩, ⟨none, (some 32), (.ld false 1 (.t 31))⟩, ⟨none, (some 33), (.call n_s_l2Word [(.t 32)])⟩, ⟨none, (some 34), (.bin .add .none (.t 30) (.t 33))⟩, ⟨none, (some 2), (.mv (.t 34))⟩]
def p_s_l3Text_6 : List (List Nat) := [[], [0], [], [2], [2, 3], [0, 1, 2, 3, 4], [0, 1, 2, 3, 4, 5], [], [7], [2, 3, 4, 7, 8], [0, 1, 2, 3, 4, 5, 6, 7, 8, 9], [0, 1, 2, 3, 4, 5, 6, 7, 8, 9, 10]]
/-- loop.example/g00884/spec.l3Text -/
def c_s_l3Text : C := (.seq (.reg r_s_l3Text_0 [1]) (.seq (.seq (.reg r_s_l3Text_1 [1, 6]) (.cond (.t 6) (.seq (.reg r_s_l3Text_2 [2]) .ret) .skip)) (.seq (.reg r_s_l3Text_3 [1, 3]) (.seq (.seq (.reg r_s_l3Text_4 [1, 3, 17]) (.cond (.t 17) (.reg r_s_l3Text_5 [1, 3]) .skip)) (.seq (.regD r_s_l3Text_6 p_s_l3Text_6 [2]) .ret)))))
def k_s_l3Text : Nat → List Nat
  | 0 => [1]
  | 1 => [1, 6]
  | 2 => [2]
  | 3 => [1, 3]
  | 4 => [1, 3, 17]
  | 5 => [1, 3]
  | 6 => [2]
  | _ => []
theorem fn_s_l3Text : FnC Tryz.prog n_s_l3Text c_s_l3Text [(.tmp 2)] 35 :=
  ⟨Tryz.f63, _, k_s_l3Text, Tryz.func63, rfl, by kernel_rfl, by kernel_rfl, by kernel_rfl, rfl⟩
def r_s_l6Ordinary_0 : List CO := [⟨none, (some 4), (.mv (.k (.v (.string (bs [])))))⟩]
def r_s_l6Ordinary_1 : List CO := [⟨none, (some 6), (.bslice 1 (.v (.string (bs []))) 8 [(0, (.k (.v (.string (bs []))))), (1, (.k (.v (.string (bs [112, 97, 108, 101]))))), (2, (.k (.v (.string (bs [102, 101, 115, 115]))))), (3, (.k (.v (.string (bs [98, 101, 110, 100]))))), (4, (.k (.v (.string (bs [99, 104, 101, 118, 114, 111, 110]))))), (5, (.k (.v (.string (bs [99, 114, 111, 115, 115]))))), (6, (.k (.v (.string (bs [115, 97, 108, 116, 105, 114, 101]))))), (7, (.k (.v (.string (bs [99, 104, 105, 101, 102])))))])⟩, ⟨none, (some 7), (.mv (.t 0))⟩, ⟨none, (some 8), (.iaddr 1 (.t 6) (.t 7))⟩, ⟨none, (some 9), (.ld false 1 (.t 8))⟩, ⟨none, (some 10), (.bin .add .none (.k (.v (.string (bs [97, 32])))) (.t 9))⟩, ⟨none, (some 5), (.mv (.t 10))⟩]
def r_s_l6Ordinary_2 : List CO := [⟨none, (some 11), (.mv (.t 1))⟩, ⟨none, (some 12), (.bin .gtr .none (.t 11) (.k (.v (.int .i64 (0)))))⟩]
def r_s_l6Ordinary_3 : List CO := [⟨none, (some 13), (.mv (.t 5))⟩, ⟨none, (some 14), (.bin .add .none (.t 13) (.k (.v (.string (bs [32])))))⟩, ⟨none, (some 15), (.mv (.t 1))⟩, ⟨none, (some 16), (.call n_s_l3LineWord [(.t 15)])⟩, ⟨none, (some 17), (.bin .add .none (.t 14) (.t 16))⟩, ⟨none, (some 5), (.mv (.t 17))⟩]
def r_s_l6Ordinary_4 : List CO := [⟨none, (some 18), (.mv (.t 5))⟩, ⟨none, (some 4), (.mv (.t 18))⟩]
/-- loop.example/g00884/spec.l6Ordinary -/
def c_s_l6Ordinary : C := (.seq (.reg r_s_l6Ordinary_0 [0, 1]) (.seq (.reg r_s_l6Ordinary_1 [1, 5]) (.seq (.seq (.reg r_s_l6Ordinary_2 [1, 5, 12]) (.cond (.t 12) (.reg r_s_l6Ordinary_3 [5]) .skip)) (.seq (.reg r_s_l6Ordinary_4 [4]) .ret))))
def k_s_l6Ordinary : Nat → List Nat
  | 0 => [0, 1]
  | 1 => [1, 5]
  | 2 => [1, 5, 12]
  | 3 => [5]
  | 4 => [4]
  | _ => []
theorem fn_s_l6Ordinary : FnC Tryz.prog n_s_l6Ordinary c_s_l6Ordinary [(.tmp 4)] 19 :=
  ⟨Tryz.f64, _, k_s_l6Ordinary, Tryz.func64, rfl, by kernel_rfl, by kernel_rfl, by kernel_rfl, rfl⟩
def r_s_l6Join_0 : List CO := [⟨none, (some 2), (.mv (.k (.v (.string (bs [])))))⟩]
def r_s_l6Join_1 : List CO := [⟨none, (some 3), (.mv (.t 0))⟩]
def r_s_l6Join_2 : List CO := [⟨none, (some 5), (.bin .eql .none (.t 3) (.k (.v (.int .i64 (0)))))⟩, ⟨none, (some 4), (.mv (.t 5))⟩]
def r_s_l6Join_3 : List CO := [⟨none, (some 2), (.mv (.k (.v (.string (bs [44, 32])))))⟩]
def r_s_l6Join_4 : List CO := [⟨none, (some 7), (.bin .eql .none (.t 3) (.k (.v (.int .i64 (7)))))⟩, ⟨none, (some 6), (.mv (.t 7))⟩]
def r_s_l6Join_5 : List CO := [⟨none, (some 2), (.mv (.k (.v (.string (bs [32, 97, 98, 111, 118, 101, 32])))))⟩]
def r_s_l6Join_6 : List CO := [⟨none, (some 2), (.mv (.k (.v (.string (bs [32, 98, 101, 116, 119, 101, 101, 110, 32])))))⟩]
/-- loop.example/g00884/spec.l6Join -/
def c_s_l6Join : C := (.seq (.reg r_s_l6Join_0 [0]) (.seq (.seq (.reg r_s_l6Join_1 [3]) (.block 0 (.seq (.reg r_s_l6Join_2 [3, 4]) (.cond (.t 4) (.seq (.reg r_s_l6Join_3 [2]) .ret) (.seq (.reg r_s_l6Join_4 [6]) (.cond (.t 6) (.seq (.reg r_s_l6Join_5 [2]) .ret) .skip)))))) (.seq (.reg r_s_l6Join_6 [2]) .ret)))
def k_s_l6Join : Nat → List Nat
  | 0 => [0]
  | 1 => [3]
  | 2 => [3, 4]
  | 3 => [2]
  | 4 => [6]
  | 5 => [2]
  | 6 => [2]
  | _ => []
theorem fn_s_l6Join : FnC Tryz.prog n_s_l6Join c_s_l6Join [(.tmp 2)] 8 :=
  ⟨Tryz.f67, _, k_s_l6Join, Tryz.func67, rfl, by kernel_rfl, by kernel_rfl, by kernel_rfl, rfl⟩
def r_s_l4Attitudes_0 : List CO := [⟨none, (some 2), (.mv (.k (.v (.slice none 0 0))))⟩]
def r_s_l4Attitudes_1 : List CO := [⟨none, (some 3), (.mv (.t 0))⟩]
def r_s_l4Attitudes_2 : List CO := [⟨none, (some 5), (.bin .eql .none (.t 3) (.k (.v (.int .i64 (1)))))⟩, ⟨none, (some 4), (.mv (.t 5))⟩]
def r_s_l4Attitudes_3 : List CO := [⟨none, (some 6), (.bslice 1 (.v (.string (bs []))) 2 [(0, (.k (.v (.string (bs [114, 97, 109, 112, 97, 110, 116]))))), (1, (.k (.v (.string (bs [112, 97, 115, 115, 97, 110, 116])))))])⟩, ⟨none, (some 2), (.mv (.t 6))⟩]
def r_s_l4Attitudes_4 : List CO := [⟨none, (some 8), (.bin .eql .none (.t 3) (.k (.v (.int .i64 (2)))))⟩, ⟨none, (some 7), (.mv (.t 8))⟩]
def r_s_l4Attitudes_5 : List CO := [⟨none, (some 9), (.bslice 1 (.v (.string (bs []))) 2 [(0, (.k (.v (.string (bs [100, 105, 115, 112, 108, 97, 121, 101, 100]))))), (1, (.k (.v (.string (bs [114, 105, 115, 105, 110, 103])))))])⟩, ⟨none, (some 2), (.mv (.t 9))⟩]
def r_s_l4Attitudes_6 : List CO := [⟨none, (some 11), (.bin .eql .none (.t 3) (.k (.v (.int .i64 (3)))))⟩, ⟨none, (some 10), (.mv (.t 11))⟩]
def r_s_l4Attitudes_7 : List CO := [⟨none, (some 12), (.bslice 1 (.v (.string (bs []))) 2 [(0, (.k (.v (.string (bs [115, 119, 105, 109, 109, 105, 110, 103]))))), (1, (.k (.v (.string (bs [117, 112, 114, 105, 103, 104, 116])))))])⟩, ⟨none, (some 2), (.mv (.t 12))⟩]
def r_s_l4Attitudes_8 : List CO := [⟨none, (some 13), (.bslice 1 (.v (.string (bs []))) 0 [])⟩, ⟨none, (some 2), (.mv (.t 13))⟩]
/-- loop.example/g00884/spec.l4Attitudes -/
def c_s_l4Attitudes : C := (.seq (.reg r_s_l4Attitudes_0 [0]) (.seq (.seq (.reg r_s_l4Attitudes_1 [3]) (.block 0 (.seq (.reg r_s_l4Attitudes_2 [3, 4]) (.cond (.t 4) (.seq (.reg r_s_l4Attitudes_3 [2]) .ret) (.seq (.reg r_s_l4Attitudes_4 [3, 7]) (.cond (.t 7) (.seq (.reg r_s_l4Attitudes_5 [2]) .ret) (.seq (.reg r_s_l4Attitudes_6 [10]) (.cond (.t 10) (.seq (.reg r_s_l4Attitudes_7 [2]) .ret) .skip)))))))) (.seq (.reg r_s_l4Attitudes_8 [2]) .ret)))
def k_s_l4Attitudes : Nat → List Nat
  | 0 => [0]
  | 1 => [3]
  | 2 => [3, 4]
  | 3 => [2]
  | 4 => [3, 7]
  | 5 => [2]
  | 6 => [10]
  | 7 => [2]
  | 8 => [2]
  | _ => []
theorem fn_s_l4Attitudes : FnC Tryz.prog n_s_l4Attitudes c_s_l4Attitudes [(.tmp 2)] 14 :=
  ⟨Tryz.f103, _, k_s_l4Attitudes, Tryz.func103, rfl, by kernel_rfl, by kernel_rfl, by kernel_rfl, rfl⟩
def r_s_l4Word_0 : List CO := [⟨none, (some 4), (.mv (.k (.v (.string (bs [])))))⟩]
def r_s_l4Word_1 : List CO := [⟨none, (some 6), (.bslice 1 (.v (.string (bs []))) 8 [(0, (.k (.v (.string (bs [108, 105, 111, 110]))))), (1, (.k (.v (.string (bs [101, 97, 103, 108, 101]))))), (2, (.k (.v (.string (bs [102, 105, 115, 104]))))), (3, (.k (.v (.string (bs [114, 111, 115, 101]))))), (4, (.k (.v (.string (bs [115, 116, 97, 114]))))), (5, (.k (.v (.string (bs [116, 111, 119, 101, 114]))))), (6, (.k (.v (.string (bs [107, 101, 121]))))), (7, (.k (.v (.string (bs [115, 119, 111, 114, 100])))))])⟩, ⟨none, (some 7), (.mv (.t 0))⟩, ⟨none, (some 8), (.bin .sub .none (.t 7) (.k (.v (.int .i64 (1)))))⟩, ⟨none, (some 9), (.iaddr 1 (.t 6) (.t 8))⟩, ⟨none, (some 10), (.ld false 1 (.t 9))⟩, ⟨none, (some 5), (.mv (.t 10))⟩]
def r_s_l4Word_2 : List CO := [⟨none, (some 11), (.mv (.t 1))⟩, ⟨none, (some 12), (.bin .gtr .none (.t 11) (.k (.v (.int .i64 (1)))))⟩, ⟨none, (some 13), (.mv (.t 12))⟩, ⟨(some (13, true)), (some 14), (.mv (.t 0))⟩, ⟨(some (13, true)), (some 15), (.bin .neq .none (.t 14) (.k (.v (.int .i64 (3)))))⟩, ⟨none, (some 16), (.pick (.t 13) (.t 15) (.k (.v (.bool false))))⟩]
def r_s_l4Word_3 : List CO := [⟨none, (some 17), (.mv (.t 5))⟩, ⟨none, (some 18), (.bin .add .none (.t 17) (.k (.v (.string (bs [115])))))⟩, ⟨none, (some 5), (.mv (.t 18))⟩]
def r_s_l4Word_4 : List CO := [⟨none, (some 19), (.mv (.t 5))⟩, ⟨none, (some 4), (.mv (.t 19))⟩]
/-- loop.example/g00884/spec.l4Word -/
def c_s_l4Word : C := (.seq (.reg r_s_l4Word_0 [0, 1]) (.seq (.reg r_s_l4Word_1 [0, 1, 5]) (.seq (.seq (.reg r_s_l4Word_2 [5, 16]) (.cond (.t 16) (.reg r_s_l4Word_3 [5]) .skip)) (.seq (.reg r_s_l4Word_4 [4]) .ret))))
def k_s_l4Word : Nat → List Nat
  | 0 => [0, 1]
  | 1 => [0, 1, 5]
  | 2 => [5, 16]
  | 3 => [5]
  | 4 => [4]
  | _ => []
theorem fn_s_l4Word : FnC Tryz.prog n_s_l4Word c_s_l4Word [(.tmp 4)] 20 :=
  ⟨Tryz.f102, _, k_s_l4Word, Tryz.func102, rfl, by kernel_rfl, by kernel_rfl, by kernel_rfl, rfl⟩
def r_s_l4Bare_0 : List CO := [⟨none, (some 1), (.box 4 (.t 0))⟩, ⟨none, (some 2), (.mv (.k (.v (.string (bs [])))))⟩]
def r_s_l4Bare_1 : List CO := [⟨none, (some 4), (.bslice 1 (.v (.string (bs []))) 6 [(0, (.k (.v (.string (bs [97]))))), (1, (.k (.v (.string (bs [116, 119, 111]))))), (2, (.k (.v (.string (bs [116, 104, 114, 101, 101]))))), (3, (.k (.v (.string (bs [102, 111, 117, 114]))))), (4, (.k (.v (.string (bs [102, 105, 118, 101]))))), (5, (.k (.v (.string (bs [115, 105, 120])))))])⟩, ⟨none, (some 5), (.faddr 0 (.t 1))⟩, ⟨none, (some 6), (.ld false 1 (.t 5))⟩, ⟨none, (some 7), (.bin .sub .none (.t 6) (.k (.v (.int .i64 (1)))))⟩, ⟨none, (some 8), (.iaddr 1 (.t 4) (.t 7))⟩, ⟨none, (some 9), (.ld false 1 (.t 8))⟩, ⟨none, (some 3), (.mv (.t 9))⟩]
def r_s_l4Bare_2 : List CO := [⟨none, (some 10), (.faddr 0 (.t 1))⟩, ⟨none, (some 11), (.ld false 1 (.t 10))⟩, ⟨none, (some 12), (.bin .eql .none (.t 11) (.k (.v (.int .i64 (1)))))⟩, ⟨none, (some 13), (.mv (.t 12))⟩, ⟨(some (13, true)), (some 14), (.faddr 1 (.t 1))⟩, ⟨(some (13, true)), (some 15), (.ld false 1 (.t 14))⟩, ⟨(some (13, true)), (some 16), (.bin .eql .none (.t 15) (.k (.v (.int .i64 (2)))))⟩, ⟨none, (some 17), (.pick (.t 13) (.t 16) (.k (.v (.bool false))))⟩]
def r_s_l4Bare_3 : List CO := [⟨none, (some 3), (.mv (.k (.v (.string (bs [97, 110])))))⟩]
def r_s_l4Bare_4 : List CO := [⟨none, (some 18), (.mv (.t 3))⟩, ⟨none, (some 19), (.bin .add .none (.t 18) (.k (.v (.string (bs [32])))))⟩, ⟨none, (some 20), (.faddr 1 (.t 1))⟩, ⟨none, (some 21), (.ld false 1 (.t 20))⟩, ⟨none, (some 22), (.faddr 0 (.t 1))⟩, ⟨none, (some 23), (.ld false 1 (.t 22))⟩, ⟨none, (some 24), (.call n_s_l4Word [(.t 21), (.t 23)])⟩, ⟨none, (some 25), (.bin .add .none (.t 19) (.t 24))⟩, ⟨none, (some 3), (.mv (.t 25))⟩]
def r_s_l4Bare_5 : List CO := [⟨none, (some 26), (.faddr 2 (.t 1))⟩, ⟨none, (some 27), (.ld false 1 (.t 26))⟩, ⟨none, (some 28), (.bin .gtr .none (.t 27) (.k (.v (.int .i64 (0)))))⟩]
def r_s_l4Bare_6 : List CO := [⟨none, (some 29), (.mv (.t 3))⟩, ⟨none, (some 30), (.bin .add .none (.t 29) (.k (.v (.string (bs [32])))))⟩, ⟨none, (some 31), (.faddr 1 (.t 1))⟩, ⟨none, (some 32), (.ld false 1 (.t 31))⟩, ⟨none, (some 33), (.call n_s_l4Attitudes [(.t 32)])⟩, ⟨none, (some 34), (.faddr 2 (.t 1))⟩, ⟨none, (some 35), (.ld false 1 (.t 34))⟩, ⟨none, (some 36), (.bin .sub .none (.t 35) (.k (.v (.int .i64 (1)))))⟩, ⟨none, (some 37), (.iaddr 1 (.t 33) (.t 36))⟩, ⟨none, (some 38), (.ld false 1 (.t 37))⟩, ⟨none, (some 39), (.bin .add .none (.t 30) (.t 38))⟩, ⟨none, (some 3), (.mv (.t 39))⟩]
def p_s_l4Bare_6 : List (List Nat) := [[], [0], [], [2], [2, 3], [], [5], [5, 6], [2, 3, 4, 5, 6, 7], [2, 3, 4, 5, 6, 7, 8], [0, 1, 2, 3, 4, 5, 6, 7, 8, 9], [0, 1, 2, 3, 4, 5, 6, 7, 8, 9, 10]]
def r_s_l4Bare_7 : List CO := [⟨none, (some 40), (.mv (.t 3))⟩, ⟨none, (some 2), (.mv (.t 40))⟩]
/-- loop.example/g00884/spec.l4Bare -/
def c_s_l4Bare : C := (.seq (.reg r_s_l4Bare_0 [1]) (.seq (.reg r_s_l4Bare_1 [1, 3]) (.seq (.seq (.reg r_s_l4Bare_2 [1, 3, 17]) (.cond (.t 17) (.reg r_s_l4Bare_3 [1, 3]) .skip)) (.seq (.wk (.reg r_s_l4Bare_4 [1, 3])) (.seq (.seq (.reg r_s_l4Bare_5 [1, 3, 28]) (.cond (.t 28) (.regD r_s_l4Bare_6 p_s_l4Bare_6 [3]) .skip)) (.seq (.reg r_s_l4Bare_7 [2]) .ret))))))
def k_s_l4Bare : Nat → List Nat
  | 0 => [1]
  | 1 => [1, 3]
  | 2 => [1, 3, 17]
  | 3 => [1, 3]
  | 4 => [999999, 1, 3]
  | 5 => [1, 3, 28]
  | 6 => [3]
  | 7 => [2]
  | _ => []
theorem fn_s_l4Bare : FnC Tryz.prog n_s_l4Bare c_s_l4Bare [(.tmp 2)] 41 :=
  ⟨Tryz.f90, _, k_s_l4Bare, Tryz.func90, rfl, by kernel_rfl, by kernel_rfl, by kernel_rfl, rfl⟩
def r_s_l4Text_0 : List CO := [⟨none, (some 1), (.box 4 (.t 0))⟩, ⟨none, (some 2), (.mv (.k (.v (.string (bs [])))))⟩]
def r_s_l4Text_1 : List CO := [⟨none, (some 3), (.ld true 4 (.t 1))⟩, ⟨none, (some 4), (.call n_s_l4Bare [(.t 3)])⟩, ⟨none, (some 5), (.bin .add .none (.t 4) (.k (.v (.string (bs [32])))))⟩, ⟨none, (some 6), (.faddr 3 (.t 1))⟩, ⟨none, (some 7), (.ld false 1 (.t 6))⟩, ⟨none, (some 8), (.call n_s_l2Word [(.t 7)])⟩, ⟨none, (some 9), (.bin .add .none (.t 5) (.t 8))⟩, ⟨none, (some 2), (.mv (.t 9))⟩]
def p_s_l4Text_1 : List (List Nat) := [[], [0], [0, 1], [], [3], [0, 1, 3, 4], [0, 1, 2, 3, 4, 5], [0, 1, 2, 3, 4, 5, 6]]
/-- loop.example/g00884/spec.l4Text -/
def c_s_l4Text : C := (.seq (.reg r_s_l4Text_0 [1]) (.seq (.regD r_s_l4Text_1 p_s_l4Text_1 [2]) .ret))
def k_s_l4Text : Nat → List Nat
  | 0 => [1]
  | 1 => [2]
  | _ => []
theorem fn_s_l4Text : FnC Tryz.prog n_s_l4Text c_s_l4Text [(.tmp 2)] 10 :=
  ⟨Tryz.f66, _, k_s_l4Text, Tryz.func66, rfl, by kernel_rfl, by kernel_rfl, by kernel_rfl, rfl⟩
def r_i_tinctureWords_0 : List CO := [⟨none, (some 0), (.mv (.k (.v (.slice none 0 0))))⟩]
def r_i_tinctureWords_1 : List CO := [⟨none, (some 1), (.bslice 1 (.v (.string (bs []))) 9 [(0, (.k (.v (.string (bs [103, 111, 108, 100]))))), (1, (.k (.v (.string (bs [115, 105, 108, 118, 101, 114]))))), (2, (.k (.v (.string (bs [114, 101, 100]))))), (3, (.k (.v (.string (bs [98, 108, 117, 101]))))), (4, (.k (.v (.string (bs [98, 108, 97, 99, 107]))))), (5, (.k (.v (.string (bs [103, 114, 101, 101, 110]))))), (6, (.k (.v (.string (bs [112, 117, 114, 112, 108, 101]))))), (7, (.k (.v (.string (bs [101, 114, 109, 105, 110, 101]))))), (8, (.k (.v (.string (bs [118, 97, 105, 114])))))])⟩, ⟨none, (some 0), (.mv (.t 1))⟩]
/-- loop.example/g00884/impl.tinctureWords -/
def c_i_tinctureWords : C := (.seq (.reg r_i_tinctureWords_0 []) (.seq (.reg r_i_tinctureWords_1 [0]) .ret))
def k_i_tinctureWords : Nat → List Nat
  | 0 => []
  | 1 => [0]
  | _ => []
theorem fn_i_tinctureWords : FnC Tryz.prog n_i_tinctureWords c_i_tinctureWords [(.tmp 0)] 2 :=
  ⟨Tryz.f99, _, k_i_tinctureWords, Tryz.func99, rfl, by kernel_rfl, by kernel_rfl, by kernel_rfl, rfl⟩
def r_i_lineWords_0 : List CO := [⟨none, (some 0), (.mv (.k (.v (.slice none 0 0))))⟩]
def r_i_lineWords_1 : List CO := [⟨none, (some 1), (.bslice 1 (.v (.string (bs []))) 4 [(0, (.k (.v (.string (bs [101, 110, 103, 114, 97, 105, 108, 101, 100]))))), (1, (.k (.v (.string (bs [119, 97, 118, 121]))))), (2, (.k (.v (.string (bs [101, 109, 98, 97, 116, 116, 108, 101, 100]))))), (3, (.k (.v (.string (bs [105, 110, 100, 101, 110, 116, 101, 100])))))])⟩, ⟨none, (some 0), (.mv (.t 1))⟩]
/-- loop.example/g00884/impl.lineWords -/
def c_i_lineWords : C := (.seq (.reg r_i_lineWords_0 []) (.seq (.reg r_i_lineWords_1 [0]) .ret))
def k_i_lineWords : Nat → List Nat
  | 0 => []
  | 1 => [0]
  | _ => []
theorem fn_i_lineWords : FnC Tryz.prog n_i_lineWords c_i_lineWords [(.tmp 0)] 2 :=
  ⟨Tryz.f105, _, k_i_lineWords, Tryz.func105, rfl, by kernel_rfl, by kernel_rfl, by kernel_rfl, rfl⟩
def r_i_divisionWords_0 : List CO := [⟨none, (some 0), (.mv (.k (.v (.slice none 0 0))))⟩]
def r_i_divisionWords_1 : List CO := [⟨none, (some 1), (.bslice 1 (.v (.string (bs []))) 7 [(0, (.k (.v (.string (bs [112, 101, 114, 32, 112, 97, 108, 101]))))), (1, (.k (.v (.string (bs [112, 101, 114, 32, 102, 101, 115, 115]))))), (2, (.k (.v (.string (bs [112, 101, 114, 32, 98, 101, 110, 100]))))), (3, (.k (.v (.string (bs [113, 117, 97, 114, 116, 101, 114, 108, 121]))))), (4, (.k (.v (.string (bs [112, 101, 114, 32, 115, 97, 108, 116, 105, 114, 101]))))), (5, (.k (.v (.string (bs [112, 97, 108, 121]))))), (6, (.k (.v (.string (bs [98, 97, 114, 114, 121])))))])⟩, ⟨none, (some 0), (.mv (.t 1))⟩]
/-- loop.example/g00884/impl.divisionWords -/
def c_i_divisionWords : C := (.seq (.reg r_i_divisionWords_0 []) (.seq (.reg r_i_divisionWords_1 [0]) .ret))
def k_i_divisionWords : Nat → List Nat
  | 0 => []
  | 1 => [0]
  | _ => []
theorem fn_i_divisionWords : FnC Tryz.prog n_i_divisionWords c_i_divisionWords [(.tmp 0)] 2 :=
  ⟨Tryz.f97, _, k_i_divisionWords, Tryz.func97, rfl, by kernel_rfl, by kernel_rfl, by kernel_rfl, rfl⟩
def r_i_ordinaryWords_0 : List CO := [⟨none, (some 0), (.mv (.k (.v (.slice none 0 0))))⟩]
def r_i_ordinaryWords_1 : List CO := [⟨none, (some 1), (.bslice 1 (.v (.string (bs []))) 7 [(0, (.k (.v (.string (bs [112, 97, 108, 101]))))), (1, (.k (.v (.string (bs [102, 101, 115, 115]))))), (2, (.k (.v (.string (bs [98, 101, 110, 100]))))), (3, (.k (.v (.string (bs [99, 104, 101, 118, 114, 111, 110]))))), (4, (.k (.v (.string (bs [99, 114, 111, 115, 115]))))), (5, (.k (.v (.string (bs [115, 97, 108, 116, 105, 114, 101]))))), (6, (.k (.v (.string (bs [99, 104, 105, 101, 102])))))])⟩, ⟨none, (some 0), (.mv (.t 1))⟩]
/-- loop.example/g00884/impl.ordinaryWords -/
def c_i_ordinaryWords : C := (.seq (.reg r_i_ordinaryWords_0 []) (.seq (.reg r_i_ordinaryWords_1 [0]) .ret))
def k_i_ordinaryWords : Nat → List Nat
  | 0 => []
  | 1 => [0]
  | _ => []
theorem fn_i_ordinaryWords : FnC Tryz.prog n_i_ordinaryWords c_i_ordinaryWords [(.tmp 0)] 2 :=
  ⟨Tryz.f98, _, k_i_ordinaryWords, Tryz.func98, rfl, by kernel_rfl, by kernel_rfl, by kernel_rfl, rfl⟩
def r_i_kindWords_0 : List CO := [⟨none, (some 0), (.mv (.k (.v (.slice none 0 0))))⟩]
def r_i_kindWords_1 : List CO := [⟨none, (some 1), (.bslice 1 (.v (.string (bs []))) 8 [(0, (.k (.v (.string (bs [108, 105, 111, 110]))))), (1, (.k (.v (.string (bs [101, 97, 103, 108, 101]))))), (2, (.k (.v (.string (bs [102, 105, 115, 104]))))), (3, (.k (.v (.string (bs [114, 111, 115, 101]))))), (4, (.k (.v (.string (bs [115, 116, 97, 114]))))), (5, (.k (.v (.string (bs [116, 111, 119, 101, 114]))))), (6, (.k (.v (.string (bs [107, 101, 121]))))), (7, (.k (.v (.string (bs [115, 119, 111, 114, 100])))))])⟩, ⟨none, (some 0), (.mv (.t 1))⟩]
/-- loop.example/g00884/impl.kindWords -/
def c_i_kindWords : C := (.seq (.reg r_i_kindWords_0 []) (.seq (.reg r_i_kindWords_1 [0]) .ret))
def k_i_kindWords : Nat → List Nat
  | 0 => []
  | 1 => [0]
  | _ => []
theorem fn_i_kindWords : FnC Tryz.prog n_i_kindWords c_i_kindWords [(.tmp 0)] 2 :=
  ⟨Tryz.f106, _, k_i_kindWords, Tryz.func106, rfl, by kernel_rfl, by kernel_rfl, by kernel_rfl, rfl⟩
def r_i_tincture_0 : List CO := [⟨none, (some 2), (.mv (.k (.v (.string (bs [])))))⟩]
def r_i_tincture_1 : List CO := [⟨none, (some 3), (.call n_i_tinctureWords [])⟩, ⟨none, (some 4), (.mv (.t 0))⟩, ⟨none, (some 5), (.bin .sub .none (.t 4) (.k (.v (.int .i64 (1)))))⟩, ⟨none, (some 6), (.iaddr 1 (.t 3) (.t 5))⟩, ⟨none, (some 7), (.ld false 1 (.t 6))⟩, ⟨none, (some 2), (.mv (.t 7))⟩]
/-- loop.example/g00884/impl.tincture -/
def c_i_tincture : C := (.seq (.reg r_i_tincture_0 [0]) (.seq (.reg r_i_tincture_1 [2]) .ret))
def k_i_tincture : Nat → List Nat
  | 0 => [0]
  | 1 => [2]
  | _ => []
theorem fn_i_tincture : FnC Tryz.prog n_i_tincture c_i_tincture [(.tmp 2)] 8 :=
  ⟨Tryz.f81, _, k_i_tincture, Tryz.func81, rfl, by kernel_rfl, by kernel_rfl, by kernel_rfl, rfl⟩
def r_i_withLine_0 : List CO := [⟨none, (some 4), (.mv (.k (.v (.string (bs [])))))⟩]
def r_i_withLine_1 : List CO := [⟨none, (some 5), (.mv (.t 1))⟩, ⟨none, (some 6), (.bin .eql .none (.t 5) (.k (.v (.int .i64 (0)))))⟩]
def r_i_withLine_2 : List CO := [⟨none, (some 7), (.mv (.t 0))⟩, ⟨none, (some 4), (.mv (.t 7))⟩]
def r_i_withLine_3 : List CO := [⟨none, (some 8), (.mv (.t 0))⟩, ⟨none, (some 9), (.bin .add .none (.t 8) (.k (.v (.string (bs [32])))))⟩, ⟨none, (some 10), (.call n_i_lineWords [])⟩, ⟨none, (some 11), (.mv (.t 1))⟩, ⟨none, (some 12), (.bin .sub .none (.t 11) (.k (.v (.int .i64 (1)))))⟩, ⟨none, (some 13), (.iaddr 1 (.t 10) (.t 12))⟩, ⟨none, (some 14), (.ld false 1 (.t 13))⟩, ⟨none, (some 15), (.bin .add .none (.t 9) (.t 14))⟩, ⟨none, (some 4), (.mv (.t 15))⟩]
/-- loop.example/g00884/impl.withLine -/
def c_i_withLine : C := (.seq (.reg r_i_withLine_0 [0, 1]) (.seq (.seq (.reg r_i_withLine_1 [0, 1, 6]) (.cond (.t 6) (.seq (.reg r_i_withLine_2 [4]) .ret) .skip)) (.seq (.reg r_i_withLine_3 [4]) .ret)))
def k_i_withLine : Nat → List Nat
  | 0 => [0, 1]
  | 1 => [0, 1, 6]
  | 2 => [4]
  | 3 => [4]
  | _ => []
theorem fn_i_withLine : FnC Tryz.prog n_i_withLine c_i_withLine [(.tmp 4)] 16 :=
  ⟨Tryz.f96, _, k_i_withLine, Tryz.func96, rfl, by kernel_rfl, by kernel_rfl, by kernel_rfl, rfl⟩
def r_i_ordinaryStart_0 : List CO := [⟨none, (some 4), (.mv (.k (.v (.string (bs [])))))⟩]
def r_i_ordinaryStart_1 : List CO := [⟨none, (some 5), (.call n_i_ordinaryWords [])⟩, ⟨none, (some 6), (.mv (.t 0))⟩, ⟨none, (some 7), (.bin .sub .none (.t 6) (.k (.v (.int .i64 (1)))))⟩, ⟨none, (some 8), (.iaddr 1 (.t 5) (.t 7))⟩, ⟨none, (some 9), (.ld false 1 (.t 8))⟩, ⟨none, (some 10), (.bin .add .none (.k (.v (.string (bs [97, 32])))) (.t 9))⟩, ⟨none, (some 11), (.mv (.t 1))⟩, ⟨none, (some 12), (.call n_i_withLine [(.t 10), (.t 11)])⟩, ⟨none, (some 4), (.mv (.t 12))⟩]
/-- loop.example/g00884/impl.ordinaryStart -/
def c_i_ordinaryStart : C := (.seq (.reg r_i_ordinaryStart_0 [0, 1]) (.seq (.reg r_i_ordinaryStart_1 [4]) .ret))
def k_i_ordinaryStart : Nat → List Nat
  | 0 => [0, 1]
  | 1 => [4]
  | _ => []
theorem fn_i_ordinaryStart : FnC Tryz.prog n_i_ordinaryStart c_i_ordinaryStart [(.tmp 4)] 13 :=
  ⟨Tryz.f80, _, k_i_ordinaryStart, Tryz.func80, rfl, by kernel_rfl, by kernel_rfl, by kernel_rfl, rfl⟩
def r_i_countWord_0 : List CO := [⟨none, (some 4), (.mv (.k (.v (.string (bs [])))))⟩]
def r_i_countWord_1 : List CO := [⟨none, (some 5), (.mv (.t 0))⟩, ⟨none, (some 6), (.bin .eql .none (.t 5) (.k (.v (.int .i64 (1)))))⟩, ⟨none, (some 7), (.mv (.t 6))⟩, ⟨(some (7, true)), (some 8), (.mv (.t 1))⟩, ⟨(some (7, true)), (some 9), (.bin .eql .none (.t 8) (.k (.v (.int .i64 (2)))))⟩, ⟨none, (some 10), (.pick (.t 7) (.t 9) (.k (.v (.bool false))))⟩]
def r_i_countWord_2 : List CO := [⟨none, (some 4), (.mv (.k (.v (.string (bs [97, 110])))))⟩]
def r_i_countWord_3 : List CO := [⟨none, (some 11), (.bslice 1 (.v (.string (bs []))) 6 [(0, (.k (.v (.string (bs [97]))))), (1, (.k (.v (.string (bs [116, 119, 111]))))), (2, (.k (.v (.string (bs [116, 104, 114, 101, 101]))))), (3, (.k (.v (.string (bs [102, 111, 117, 114]))))), (4, (.k (.v (.string (bs [102, 105, 118, 101]))))), (5, (.k (.v (.string (bs [115, 105, 120])))))])⟩, ⟨none, (some 12), (.mv (.t 0))⟩, ⟨none, (some 13), (.bin .sub .none (.t 12) (.k (.v (.int .i64 (1)))))⟩, ⟨none, (some 14), (.iaddr 1 (.t 11) (.t 13))⟩, ⟨none, (some 15), (.ld false 1 (.t 14))⟩, ⟨none, (some 4), (.mv (.t 15))⟩]
/-- loop.example/g00884/impl.countWord -/
def c_i_countWord : C := (.seq (.reg r_i_countWord_0 [0, 1]) (.seq (.seq (.reg r_i_countWord_1 [0, 10]) (.cond (.t 10) (.seq (.reg r_i_countWord_2 [4]) .ret) .skip)) (.seq (.reg r_i_countWord_3 [4]) .ret)))
def k_i_countWord : Nat → List Nat
  | 0 => [0, 1]
  | 1 => [0, 10]
  | 2 => [4]
  | 3 => [4]
  | _ => []
theorem fn_i_countWord : FnC Tryz.prog n_i_countWord c_i_countWord [(.tmp 4)] 16 :=
  ⟨Tryz.f100, _, k_i_countWord, Tryz.func100, rfl, by kernel_rfl, by kernel_rfl, by kernel_rfl, rfl⟩
def r_i_kindWord_0 : List CO := [⟨none, (some 4), (.mv (.k (.v (.string (bs [])))))⟩]
def r_i_kindWord_1 : List CO := [⟨none, (some 6), (.call n_i_kindWords [])⟩, ⟨none, (some 7), (.mv (.t 0))⟩, ⟨none, (some 8), (.bin .sub .none (.t 7) (.k (.v (.int .i64 (1)))))⟩, ⟨none, (some 9), (.iaddr 1 (.t 6) (.t 8))⟩, ⟨none, (some 10), (.ld false 1 (.t 9))⟩, ⟨none, (some 5), (.mv (.t 10))⟩]
def r_i_kindWord_2 : List CO := [⟨none, (some 11), (.mv (.t 1))⟩, ⟨none, (some 12), (.bin .gtr .none (.t 11) (.k (.v (.int .i64 (1)))))⟩, ⟨none, (some 13), (.mv (.t 12))⟩, ⟨(some (13, true)), (some 14), (.mv (.t 0))⟩, ⟨(some (13, true)), (some 15), (.bin .neq .none (.t 14) (.k (.v (.int .i64 (3)))))⟩, ⟨none, (some 16), (.pick (.t 13) (.t 15) (.k (.v (.bool false))))⟩]
def r_i_kindWord_3 : List CO := [⟨none, (some 17), (.mv (.t 5))⟩, ⟨none, (some 18), (.bin .add .none (.t 17) (.k (.v (.string (bs [115])))))⟩, ⟨none, (some 5), (.mv (.t 18))⟩]
def r_i_kindWord_4 : List CO := [⟨none, (some 19), (.mv (.t 5))⟩, ⟨none, (some 4), (.mv (.t 19))⟩]
/-- loop.example/g00884/impl.kindWord -/
def c_i_kindWord : C := (.seq (.reg r_i_kindWord_0 [0, 1]) (.seq (.reg r_i_kindWord_1 [0, 1, 5]) (.seq (.seq (.reg r_i_kindWord_2 [5, 16]) (.cond (.t 16) (.reg r_i_kindWord_3 [5]) .skip)) (.seq (.reg r_i_kindWord_4 [4]) .ret))))
def k_i_kindWord : Nat → List Nat
  | 0 => [0, 1]
  | 1 => [0, 1, 5]
  | 2 => [5, 16]
  | 3 => [5]
  | 4 => [4]
  | _ => []
theorem fn_i_kindWord : FnC Tryz.prog n_i_kindWord c_i_kindWord [(.tmp 4)] 20 :=
  ⟨Tryz.f101, _, k_i_kindWord, Tryz.func101, rfl, by kernel_rfl, by kernel_rfl, by kernel_rfl, rfl⟩
end Go.Proofs.YtbeoijlggphklaaGreat
