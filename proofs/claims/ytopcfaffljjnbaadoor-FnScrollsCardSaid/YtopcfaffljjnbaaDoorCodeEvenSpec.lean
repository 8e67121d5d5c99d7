/- The compact code of the functions, and that it is theirs: written by a program of this claim. -/
import Derived.Test.YtopcfaffljjnbaaDoorNums
namespace Go.Proofs.YtopcfaffljjnbaaDoor
open Go.Abs
set_option maxRecDepth 100000
def r_s_EvenLines_0 : List CO := [⟨none, (some 4), (.mv (.k (.v (.slice none 0 0))))⟩, ⟨none, (some 5), (.mv (.k (.v (.int .i64 (0)))))⟩, ⟨none, (some 6), (.mv (.k (.v (.bool false))))⟩]
def r_s_EvenLines_1 : List CO := [⟨none, (some 18), (.bslice 1 (.v (.string (bs []))) 0 [])⟩, ⟨none, (some 7), (.mv (.t 18))⟩]
def r_s_EvenLines_2 : List CO := [⟨none, (some 19), (.mv (.t 0))⟩, ⟨none, (some 20), (.mv (.t 1))⟩, ⟨none, (some 21), (.call n_s_l23Fits [(.t 19), (.t 20)])⟩, ⟨none, (some 22), (.un .not (.t 21))⟩]
def r_s_EvenLines_3 : List CO := [⟨none, (some 23), (.mv (.t 7))⟩, ⟨none, (some 4), (.mv (.t 23))⟩, ⟨none, (some 5), (.mv (.k (.v (.int .i64 (0)))))⟩, ⟨none, (some 6), (.mv (.k (.v (.bool false))))⟩]
def r_s_EvenLines_4 : List CO := [⟨none, (some 24), (.mv (.t 0))⟩, ⟨none, (some 25), (.call n_s_l1Split [(.t 24), (.k (.v (.int .u8 (32))))])⟩, ⟨none, (some 8), (.mv (.t 25))⟩]
def r_s_EvenLines_5 : List CO := [⟨none, (some 26), (.mv (.t 8))⟩, ⟨none, (some 27), (.len false (.t 26))⟩, ⟨none, (some 9), (.mv (.t 27))⟩]
def r_s_EvenLines_6 : List CO := [⟨none, (some 28), (.mv (.t 9))⟩, ⟨none, (some 29), (.bin .add .none (.t 28) (.k (.v (.int .i64 (1)))))⟩, ⟨none, (some 30), (.mks 1 (.v (.int .i64 (0))) 8 (.t 29) (.t 29))⟩, ⟨none, (some 10), (.mv (.t 30))⟩]
def r_s_EvenLines_7 : List CO := [⟨none, (some 31), (.mv (.t 9))⟩, ⟨none, (some 32), (.bin .sub .none (.t 31) (.k (.v (.int .i64 (1)))))⟩, ⟨none, (some 11), (.mv (.t 32))⟩]
def r_s_EvenLines_8 : List CO := [⟨none, (some 33), (.mv (.t 11))⟩, ⟨none, (some 34), (.bin .geq .none (.t 33) (.k (.v (.int .i64 (0)))))⟩]
def r_s_EvenLines_9 : List CO := [⟨none, (some 37), (.mv (.t 10))⟩, ⟨none, (some 38), (.mv (.t 11))⟩, ⟨none, (some 39), (.iaddr 1 (.t 37) (.t 38))⟩, ⟨none, none, (.st 1 (.t 39) (.k (.v (.int .i64 (-1)))))⟩]
def r_s_EvenLines_10 : List CO := [⟨none, (some 40), (.mv (.t 11))⟩, ⟨none, (some 41), (.bin .add .none (.t 40) (.k (.v (.int .i64 (1)))))⟩, ⟨none, (some 12), (.mv (.t 41))⟩]
def r_s_EvenLines_11 : List CO := [⟨none, (some 42), (.mv (.t 12))⟩, ⟨none, (some 43), (.mv (.t 9))⟩, ⟨none, (some 44), (.bin .leq .none (.t 42) (.t 43))⟩, ⟨none, (some 45), (.mv (.t 44))⟩, ⟨(some (45, true)), (some 46), (.mv (.t 8))⟩, ⟨(some (45, true)), (some 47), (.mv (.t 11))⟩, ⟨(some (45, true)), (some 48), (.mv (.t 12))⟩, ⟨(some (45, true)), (some 49), (.call n_s_l23Line [(.t 46), (.t 47), (.t 48)])⟩, ⟨(some (45, true)), (some 50), (.len true (.t 49))⟩, ⟨(some (45, true)), (some 51), (.mv (.t 1))⟩, ⟨(some (45, true)), (some 52), (.bin .leq .none (.t 50) (.t 51))⟩, ⟨none, (some 53), (.pick (.t 45) (.t 52) (.k (.v (.bool false))))⟩]
def r_s_EvenLines_12 : List CO := [⟨none, (some 56), (.mv (.t 1))⟩, ⟨none, (some 57), (.mv (.t 8))⟩, ⟨none, (some 58), (.mv (.t 11))⟩, ⟨none, (some 59), (.mv (.t 12))⟩, ⟨none, (some 60), (.call n_s_l23Line [(.t 57), (.t 58), (.t 59)])⟩, ⟨none, (some 61), (.len true (.t 60))⟩, ⟨none, (some 62), (.bin .sub .none (.t 56) (.t 61))⟩, ⟨none, (some 13), (.mv (.t 62))⟩]
def r_s_EvenLines_13 : List CO := [⟨none, (some 63), (.mv (.t 13))⟩, ⟨none, (some 64), (.mv (.t 13))⟩, ⟨none, (some 65), (.bin .mul .none (.t 63) (.t 64))⟩, ⟨none, (some 66), (.mv (.t 10))⟩, ⟨none, (some 67), (.mv (.t 12))⟩, ⟨none, (some 68), (.iaddr 1 (.t 66) (.t 67))⟩, ⟨none, (some 69), (.ld false 1 (.t 68))⟩, ⟨none, (some 70), (.bin .add .none (.t 65) (.t 69))⟩, ⟨none, (some 14), (.mv (.t 70))⟩]
def r_s_EvenLines_14 : List CO := [⟨none, (some 71), (.mv (.t 10))⟩, ⟨none, (some 72), (.mv (.t 11))⟩, ⟨none, (some 73), (.iaddr 1 (.t 71) (.t 72))⟩, ⟨none, (some 74), (.ld false 1 (.t 73))⟩, ⟨none, (some 75), (.bin .lss .none (.t 74) (.k (.v (.int .i64 (0)))))⟩, ⟨none, (some 76), (.mv (.t 75))⟩, ⟨(some (76, false)), (some 77), (.mv (.t 14))⟩, ⟨(some (76, false)), (some 78), (.mv (.t 10))⟩, ⟨(some (76, false)), (some 79), (.mv (.t 11))⟩, ⟨(some (76, false)), (some 80), (.iaddr 1 (.t 78) (.t 79))⟩, ⟨(some (76, false)), (some 81), (.ld false 1 (.t 80))⟩, ⟨(some (76, false)), (some 82), (.bin .lss .none (.t 77) (.t 81))⟩, ⟨none, (some 83), (.pick (.t 76) (.k (.v (.bool true))) (.t 82))⟩]
def r_s_EvenLines_15 : List CO := [⟨none, (some 84), (.mv (.t 10))⟩, ⟨none, (some 85), (.mv (.t 11))⟩, ⟨none, (some 86), (.mv (.t 14))⟩, ⟨none, (some 87), (.iaddr 1 (.t 84) (.t 85))⟩, ⟨none, none, (.st 1 (.t 87) (.t 86))⟩]
def r_s_EvenLines_16 : List CO := [⟨none, (some 54), (.mv (.t 12))⟩, ⟨none, (some 55), (.bin .add .none (.t 54) (.k (.v (.int .i64 (1)))))⟩, ⟨none, (some 12), (.mv (.t 55))⟩]
def l_s_EvenLines_17 : C := (.seq (.seq (.reg r_s_EvenLines_11 [1, 7, 8, 9, 10, 11, 12, 53]) (.cond (.t 53) .skip (.exit 2))) (.seq (.block 3 (.seq (.reg r_s_EvenLines_12 [1, 7, 8, 9, 10, 11, 12, 13]) (.seq (.reg r_s_EvenLines_13 [1, 7, 8, 9, 10, 11, 12, 14]) (.seq (.reg r_s_EvenLines_14 [1, 7, 8, 9, 10, 11, 12, 14, 83]) (.cond (.t 83) (.reg r_s_EvenLines_15 [1, 7, 8, 9, 10, 11, 12]) .skip))))) (.reg r_s_EvenLines_16 [1, 7, 8, 9, 10, 11, 12])))
def r_s_EvenLines_18 : List CO := [⟨none, (some 35), (.mv (.t 11))⟩, ⟨none, (some 36), (.bin .sub .none (.t 35) (.k (.v (.int .i64 (1)))))⟩, ⟨none, (some 11), (.mv (.t 36))⟩]
def l_s_EvenLines_19 : C := (.seq (.seq (.reg r_s_EvenLines_8 [1, 7, 8, 9, 10, 11, 34]) (.cond (.t 34) .skip (.exit 0))) (.seq (.block 1 (.seq (.reg r_s_EvenLines_9 [1, 7, 8, 9, 10, 11]) (.seq (.reg r_s_EvenLines_10 [1, 7, 8, 9, 10, 11, 12]) (.block 2 (.loop l_s_EvenLines_17))))) (.reg r_s_EvenLines_18 [1, 7, 8, 9, 10, 11])))
def r_s_EvenLines_20 : List CO := [⟨none, (some 15), (.mv (.k (.v (.int .i64 (0)))))⟩]
def r_s_EvenLines_21 : List CO := [⟨none, (some 88), (.mv (.t 15))⟩, ⟨none, (some 89), (.mv (.t 9))⟩, ⟨none, (some 90), (.bin .lss .none (.t 88) (.t 89))⟩]
def r_s_EvenLines_22 : List CO := [⟨none, (some 91), (.mv (.t 15))⟩, ⟨none, (some 92), (.bin .add .none (.t 91) (.k (.v (.int .i64 (1)))))⟩, ⟨none, (some 16), (.mv (.t 92))⟩]
def r_s_EvenLines_23 : List CO := [⟨none, (some 93), (.mv (.t 1))⟩, ⟨none, (some 94), (.mv (.t 8))⟩, ⟨none, (some 95), (.mv (.t 15))⟩, ⟨none, (some 96), (.mv (.t 16))⟩, ⟨none, (some 97), (.call n_s_l23Line [(.t 94), (.t 95), (.t 96)])⟩, ⟨none, (some 98), (.len true (.t 97))⟩, ⟨none, (some 99), (.bin .sub .none (.t 93) (.t 98))⟩, ⟨none, (some 17), (.mv (.t 99))⟩]
def r_s_EvenLines_24 : List CO := [⟨none, (some 100), (.mv (.t 17))⟩, ⟨none, (some 101), (.mv (.t 17))⟩, ⟨none, (some 102), (.bin .mul .none (.t 100) (.t 101))⟩, ⟨none, (some 103), (.mv (.t 10))⟩, ⟨none, (some 104), (.mv (.t 16))⟩, ⟨none, (some 105), (.iaddr 1 (.t 103) (.t 104))⟩, ⟨none, (some 106), (.ld false 1 (.t 105))⟩, ⟨none, (some 107), (.bin .add .none (.t 102) (.t 106))⟩, ⟨none, (some 108), (.mv (.t 10))⟩, ⟨none, (some 109), (.mv (.t 15))⟩, ⟨none, (some 110), (.iaddr 1 (.t 108) (.t 109))⟩, ⟨none, (some 111), (.ld false 1 (.t 110))⟩, ⟨none, (some 112), (.bin .eql .none (.t 107) (.t 111))⟩]
def p_s_EvenLines_24 : List (List Nat) := [[], [], [0, 1], [], [], [3, 4], [3, 4, 5], [0, 1, 2, 3, 4, 5, 6], [], [], [8, 9], [8, 9, 10], [0, 1, 2, 3, 4, 5, 6, 7, 8, 9, 10, 11]]
def r_s_EvenLines_25 : List CO := [⟨none, (some 113), (.mv (.t 16))⟩, ⟨none, (some 114), (.bin .add .none (.t 113) (.k (.v (.int .i64 (1)))))⟩, ⟨none, (some 16), (.mv (.t 114))⟩]
def l_s_EvenLines_26 : C := (.block 7 (.seq (.reg r_s_EvenLines_23 [1, 7, 8, 9, 10, 15, 16, 17]) (.seq (.seq (.regD r_s_EvenLines_24 p_s_EvenLines_24 [1, 7, 8, 9, 10, 15, 16, 112]) (.cond (.t 112) (.exit 6) .skip)) (.reg r_s_EvenLines_25 [1, 7, 8, 9, 10, 15, 16]))))
def r_s_EvenLines_27 : List CO := [⟨none, (some 115), (.mv (.t 7))⟩, ⟨none, (some 116), (.mv (.t 8))⟩, ⟨none, (some 117), (.mv (.t 15))⟩, ⟨none, (some 118), (.mv (.t 16))⟩, ⟨none, (some 119), (.call n_s_l23Line [(.t 116), (.t 117), (.t 118)])⟩, ⟨none, (some 120), (.bslice 1 (.v (.string (bs []))) 1 [(0, (.t 119))])⟩, ⟨none, (some 121), (.app 1 16 (.t 115) (.t 120))⟩, ⟨none, (some 7), (.mv (.t 121))⟩]
def r_s_EvenLines_28 : List CO := [⟨none, (some 122), (.mv (.t 16))⟩, ⟨none, (some 15), (.mv (.t 122))⟩]
def l_s_EvenLines_29 : C := (.seq (.seq (.reg r_s_EvenLines_21 [1, 7, 8, 9, 10, 15, 90]) (.cond (.t 90) .skip (.exit 4))) (.block 5 (.seq (.reg r_s_EvenLines_22 [1, 7, 8, 9, 10, 15, 16]) (.seq (.block 6 (.loop l_s_EvenLines_26)) (.seq (.reg r_s_EvenLines_27 [1, 7, 8, 9, 10, 16]) (.reg r_s_EvenLines_28 [1, 7, 8, 9, 10, 15]))))))
def r_s_EvenLines_30 : List CO := [⟨none, (some 123), (.mv (.t 7))⟩, ⟨none, (some 124), (.mv (.t 10))⟩, ⟨none, (some 125), (.iaddr 1 (.t 124) (.k (.v (.int .i64 (0)))))⟩, ⟨none, (some 126), (.ld false 1 (.t 125))⟩, ⟨none, (some 4), (.mv (.t 123))⟩, ⟨none, (some 5), (.mv (.t 126))⟩, ⟨none, (some 6), (.mv (.k (.v (.bool true))))⟩]
def p_s_EvenLines_30 : List (List Nat) := [[], [], [1], [1, 2], [0], [0, 1, 2, 3, 4], [0, 1, 2, 3, 4, 5]]
/-- loop.example/g00884/spec.EvenLines -/
def c_s_EvenLines : C := (.seq (.reg r_s_EvenLines_0 [0, 1]) (.seq (.reg r_s_EvenLines_1 [0, 1, 7]) (.seq (.seq (.reg r_s_EvenLines_2 [0, 1, 7, 22]) (.cond (.t 22) (.seq (.reg r_s_EvenLines_3 [4, 5, 6]) .ret) .skip)) (.seq (.reg r_s_EvenLines_4 [1, 7, 8]) (.seq (.reg r_s_EvenLines_5 [1, 7, 8, 9]) (.seq (.reg r_s_EvenLines_6 [1, 7, 8, 9, 10]) (.seq (.seq (.reg r_s_EvenLines_7 [1, 7, 8, 9, 10, 11]) (.block 0 (.loop l_s_EvenLines_19))) (.seq (.seq (.reg r_s_EvenLines_20 [1, 7, 8, 9, 10, 15]) (.block 4 (.loop l_s_EvenLines_29))) (.seq (.regD r_s_EvenLines_30 p_s_EvenLines_30 [4, 5, 6]) .ret)))))))))
def k_s_EvenLines : Nat → List Nat
  | 0 => [0, 1]
  | 1 => [0, 1, 7]
  | 2 => [0, 1, 7, 22]
  | 3 => [4, 5, 6]
  | 4 => [1, 7, 8]
  | 5 => [1, 7, 8, 9]
  | 6 => [1, 7, 8, 9, 10]
  | 7 => [1, 7, 8, 9, 10, 11]
  | 8 => [1, 7, 8, 9, 10, 11, 34]
  | 10 => [1, 7, 8, 9, 10, 11]
  | 11 => [1, 7, 8, 9, 10, 11, 12]
  | 12 => [1, 7, 8, 9, 10, 11, 12, 53]
  | 14 => [1, 7, 8, 9, 10, 11, 12, 13]
  | 15 => [1, 7, 8, 9, 10, 11, 12, 14]
  | 16 => [1, 7, 8, 9, 10, 11, 12, 14, 83]
  | 17 => [1, 7, 8, 9, 10, 11, 12]
  | 13 => [1, 7, 8, 9, 10, 11, 12]
  | 9 => [1, 7, 8, 9, 10, 11]
  | 18 => [1, 7, 8, 9, 10, 15]
  | 19 => [1, 7, 8, 9, 10, 15, 90]
  | 20 => [1, 7, 8, 9, 10, 15, 16]
  | 21 => [1, 7, 8, 9, 10, 15, 16, 17]
  | 22 => [1, 7, 8, 9, 10, 15, 16, 112]
  | 23 => [1, 7, 8, 9, 10, 15, 16]
  | 24 => [1, 7, 8, 9, 10, 16]
  | 25 => [1, 7, 8, 9, 10, 15]
  | 26 => [4, 5, 6]
  | _ => []
theorem fn_s_EvenLines : FnC Tryd.prog n_s_EvenLines c_s_EvenLines [(.tmp 4), (.tmp 5), (.tmp 6)] 127 :=
  ⟨Tryd.f7, _, k_s_EvenLines, Tryd.func7, rfl, by kernel_rfl, by kernel_rfl, by kernel_rfl, rfl⟩
end Go.Proofs.YtopcfaffljjnbaaDoor
