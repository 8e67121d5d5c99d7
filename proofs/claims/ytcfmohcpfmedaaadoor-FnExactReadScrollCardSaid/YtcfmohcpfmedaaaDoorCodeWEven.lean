/- The compact code of the functions, and that it is theirs: written by a program of this claim. -/
import Derived.Test.YtcfmohcpfmedaaaDoorNums
namespace Go.Proofs.YtcfmohcpfmedaaaDoor
open Go.Abs
set_option maxRecDepth 100000
def r_i_EvenLines_0 : List CO := [⟨none, (some 4), (.mv (.k (.v (.slice none 0 0))))⟩, ⟨none, (some 5), (.mv (.k (.v (.int .i64 (0)))))⟩, ⟨none, (some 6), (.mv (.k (.v (.bool false))))⟩]
def r_i_EvenLines_1 : List CO := [⟨none, (some 9), (.mv (.t 0))⟩, ⟨none, (some 10), (.mv (.t 1))⟩, ⟨none, (some 11), (.call n_i_isOnScroll [(.t 9), (.t 10)])⟩, ⟨none, (some 12), (.un .not (.t 11))⟩]
def r_i_EvenLines_2 : List CO := [⟨none, (some 4), (.mv (.k (.v (.slice none 0 0))))⟩, ⟨none, (some 5), (.mv (.k (.v (.int .i64 (0)))))⟩, ⟨none, (some 6), (.mv (.k (.v (.bool false))))⟩]
def r_i_EvenLines_3 : List CO := [⟨none, (some 14), (.mv (.t 0))⟩, ⟨none, (some 15), (.call n_strings_Split [(.t 14), (.k (.v (.string (bs [32]))))])⟩, ⟨none, (some 16), (.mv (.t 1))⟩, ⟨none, (some 17), (.call n_i_even [(.t 15), (.t 16)])⟩, ⟨none, (some 13), (.mv (.t 17))⟩, ⟨none, (some 18), (.ext (.t 13) 0)⟩, ⟨none, (some 19), (.ext (.t 13) 1)⟩, ⟨none, (some 7), (.mv (.t 18))⟩, ⟨none, (some 8), (.mv (.t 19))⟩]
def r_i_EvenLines_4 : List CO := [⟨none, (some 20), (.mv (.t 7))⟩, ⟨none, (some 21), (.mv (.t 8))⟩, ⟨none, (some 4), (.mv (.t 20))⟩, ⟨none, (some 5), (.mv (.t 21))⟩, ⟨none, (some 6), (.mv (.k (.v (.bool true))))⟩]
/-- loop.example/g00884/impl.EvenLines -/
def c_i_EvenLines : C := (.seq (.reg r_i_EvenLines_0 [0, 1]) (.seq (.seq (.reg r_i_EvenLines_1 [0, 1, 12]) (.cond (.t 12) (.seq (.reg r_i_EvenLines_2 [4, 5, 6]) .ret) .skip)) (.seq (.reg r_i_EvenLines_3 [7, 8]) (.seq (.reg r_i_EvenLines_4 [4, 5, 6]) .ret))))
def k_i_EvenLines : Nat → List Nat
  | 0 => [0, 1]
  | 1 => [0, 1, 12]
  | 2 => [4, 5, 6]
  | 3 => [7, 8]
  | 4 => [4, 5, 6]
  | _ => []
theorem fn_i_EvenLines : FnC Tryd.prog n_i_EvenLines c_i_EvenLines [(.tmp 4), (.tmp 5), (.tmp 6)] 22 :=
  ⟨Tryd.f17, _, k_i_EvenLines, Tryd.func17, rfl, by kernel_rfl, by kernel_rfl, by kernel_rfl, rfl⟩
def r_w_FnExactEvenLines_0 : List CO := [⟨none, (some 4), (.mv (.k (.v (.bool false))))⟩]
def r_w_FnExactEvenLines_1 : List CO := [⟨none, (some 16), (.mv (.t 0))⟩, ⟨none, (some 17), (.len true (.t 16))⟩, ⟨none, (some 18), (.bin .gtr .none (.t 17) (.k (.v (.int .i64 (1048576)))))⟩]
def r_w_FnExactEvenLines_2 : List CO := [⟨none, (some 4), (.mv (.k (.v (.bool true))))⟩]
def r_w_FnExactEvenLines_3 : List CO := [⟨none, (some 20), (.mv (.t 0))⟩, ⟨none, (some 21), (.mv (.t 1))⟩, ⟨none, (some 22), (.call n_s_EvenLines [(.t 20), (.t 21)])⟩, ⟨none, (some 19), (.mv (.t 22))⟩, ⟨none, (some 23), (.ext (.t 19) 0)⟩, ⟨none, (some 24), (.ext (.t 19) 1)⟩, ⟨none, (some 25), (.ext (.t 19) 2)⟩, ⟨none, (some 5), (.mv (.t 23))⟩, ⟨none, (some 6), (.mv (.t 24))⟩, ⟨none, (some 7), (.mv (.t 25))⟩]
def r_w_FnExactEvenLines_4 : List CO := [⟨none, (some 27), (.mv (.t 0))⟩, ⟨none, (some 28), (.mv (.t 1))⟩, ⟨none, (some 29), (.call n_i_EvenLines [(.t 27), (.t 28)])⟩, ⟨none, (some 26), (.mv (.t 29))⟩, ⟨none, (some 30), (.ext (.t 26) 0)⟩, ⟨none, (some 31), (.ext (.t 26) 1)⟩, ⟨none, (some 32), (.ext (.t 26) 2)⟩, ⟨none, (some 8), (.mv (.t 30))⟩, ⟨none, (some 9), (.mv (.t 31))⟩, ⟨none, (some 10), (.mv (.t 32))⟩]
def r_w_FnExactEvenLines_5 : List CO := [⟨none, (some 33), (.mv (.t 8))⟩, ⟨none, (some 34), (.mv (.t 5))⟩, ⟨none, (some 35), (.call n_w_eqStringS [(.t 33), (.t 34)])⟩, ⟨none, (some 36), (.un .not (.t 35))⟩, ⟨none, (some 37), (.mv (.t 36))⟩, ⟨(some (37, false)), (some 38), (.mv (.t 9))⟩, ⟨(some (37, false)), (some 39), (.mv (.t 6))⟩, ⟨(some (37, false)), (some 40), (.bin .neq .none (.t 38) (.t 39))⟩, ⟨none, (some 41), (.pick (.t 37) (.k (.v (.bool true))) (.t 40))⟩, ⟨none, (some 42), (.mv (.t 41))⟩, ⟨(some (42, false)), (some 43), (.mv (.t 10))⟩, ⟨(some (42, false)), (some 44), (.mv (.t 7))⟩, ⟨(some (42, false)), (some 45), (.bin .neq .bool (.t 43) (.t 44))⟩, ⟨none, (some 46), (.pick (.t 42) (.k (.v (.bool true))) (.t 45))⟩]
def r_w_FnExactEvenLines_6 : List CO := [⟨none, (some 4), (.mv (.k (.v (.bool false))))⟩]
def r_w_FnExactEvenLines_7 : List CO := [⟨none, (some 11), (.mv (.k (.v (.int .i64 (1)))))⟩]
def r_w_FnExactEvenLines_8 : List CO := [⟨none, (some 47), (.mv (.t 8))⟩, ⟨none, (some 48), (.mv (.t 11))⟩, ⟨none, (some 49), (.call n_w_markStringS [(.t 47), (.t 48)])⟩, ⟨none, (some 11), (.mv (.t 49))⟩]
def r_w_FnExactEvenLines_9 : List CO := [⟨none, (some 12), (.mv (.k (.v (.int .i64 (1)))))⟩]
def r_w_FnExactEvenLines_10 : List CO := [⟨none, (some 50), (.mv (.t 8))⟩, ⟨none, (some 51), (.mv (.t 12))⟩, ⟨none, (some 52), (.call n_w_heldStringS [(.t 50), (.t 51)])⟩, ⟨none, (some 12), (.mv (.t 52))⟩]
def r_w_FnExactEvenLines_11 : List CO := [⟨none, (some 53), (.mv (.t 12))⟩, ⟨none, (some 54), (.bin .lss .none (.t 53) (.k (.v (.int .i64 (0)))))⟩]
def r_w_FnExactEvenLines_12 : List CO := [⟨none, (some 4), (.mv (.k (.v (.bool false))))⟩]
def r_w_FnExactEvenLines_13 : List CO := [⟨none, (some 55), (.mv (.t 12))⟩, ⟨none, (some 56), (.mv (.t 11))⟩, ⟨none, (some 57), (.bin .neq .none (.t 55) (.t 56))⟩]
def r_w_FnExactEvenLines_14 : List CO := [⟨none, (some 4), (.mv (.k (.v (.bool false))))⟩]
def r_w_FnExactEvenLines_15 : List CO := [⟨none, (some 59), (.mv (.t 0))⟩, ⟨none, (some 60), (.mv (.t 1))⟩, ⟨none, (some 61), (.call n_i_EvenLines [(.t 59), (.t 60)])⟩, ⟨none, (some 58), (.mv (.t 61))⟩, ⟨none, (some 62), (.ext (.t 58) 0)⟩, ⟨none, (some 63), (.ext (.t 58) 1)⟩, ⟨none, (some 64), (.ext (.t 58) 2)⟩, ⟨none, (some 13), (.mv (.t 62))⟩, ⟨none, (some 14), (.mv (.t 63))⟩, ⟨none, (some 15), (.mv (.t 64))⟩]
def r_w_FnExactEvenLines_16 : List CO := [⟨none, (some 65), (.mv (.t 13))⟩, ⟨none, (some 66), (.mv (.t 5))⟩, ⟨none, (some 67), (.call n_w_eqStringS [(.t 65), (.t 66)])⟩, ⟨none, (some 68), (.un .not (.t 67))⟩, ⟨none, (some 69), (.mv (.t 68))⟩, ⟨(some (69, false)), (some 70), (.mv (.t 14))⟩, ⟨(some (69, false)), (some 71), (.mv (.t 6))⟩, ⟨(some (69, false)), (some 72), (.bin .neq .none (.t 70) (.t 71))⟩, ⟨none, (some 73), (.pick (.t 69) (.k (.v (.bool true))) (.t 72))⟩, ⟨none, (some 74), (.mv (.t 73))⟩, ⟨(some (74, false)), (some 75), (.mv (.t 15))⟩, ⟨(some (74, false)), (some 76), (.mv (.t 7))⟩, ⟨(some (74, false)), (some 77), (.bin .neq .bool (.t 75) (.t 76))⟩, ⟨none, (some 78), (.pick (.t 74) (.k (.v (.bool true))) (.t 77))⟩]
def r_w_FnExactEvenLines_17 : List CO := [⟨none, (some 4), (.mv (.k (.v (.bool false))))⟩]
def r_w_FnExactEvenLines_18 : List CO := [⟨none, (some 12), (.mv (.k (.v (.int .i64 (1)))))⟩]
def r_w_FnExactEvenLines_19 : List CO := [⟨none, (some 79), (.mv (.t 8))⟩, ⟨none, (some 80), (.mv (.t 12))⟩, ⟨none, (some 81), (.call n_w_heldStringS [(.t 79), (.t 80)])⟩, ⟨none, (some 12), (.mv (.t 81))⟩]
def r_w_FnExactEvenLines_20 : List CO := [⟨none, (some 82), (.mv (.t 12))⟩, ⟨none, (some 83), (.bin .lss .none (.t 82) (.k (.v (.int .i64 (0)))))⟩]
def r_w_FnExactEvenLines_21 : List CO := [⟨none, (some 4), (.mv (.k (.v (.bool false))))⟩]
def r_w_FnExactEvenLines_22 : List CO := [⟨none, (some 84), (.mv (.t 12))⟩, ⟨none, (some 85), (.mv (.t 11))⟩, ⟨none, (some 86), (.bin .neq .none (.t 84) (.t 85))⟩]
def r_w_FnExactEvenLines_23 : List CO := [⟨none, (some 4), (.mv (.k (.v (.bool false))))⟩]
def r_w_FnExactEvenLines_24 : List CO := [⟨none, (some 4), (.mv (.k (.v (.bool true))))⟩]
/-- loop.example/g00884/laws.FnExactEvenLines -/
def c_w_FnExactEvenLines : C := (.seq (.reg r_w_FnExactEvenLines_0 [0, 1]) (.seq (.seq (.reg r_w_FnExactEvenLines_1 [0, 1, 18]) (.cond (.t 18) (.seq (.reg r_w_FnExactEvenLines_2 [4]) .ret) .skip)) (.seq (.reg r_w_FnExactEvenLines_3 [0, 1, 5, 6, 7]) (.seq (.reg r_w_FnExactEvenLines_4 [0, 1, 5, 6, 7, 8, 9, 10]) (.seq (.seq (.reg r_w_FnExactEvenLines_5 [0, 1, 5, 6, 7, 8, 46]) (.cond (.t 46) (.seq (.reg r_w_FnExactEvenLines_6 [4]) .ret) .skip)) (.seq (.reg r_w_FnExactEvenLines_7 [0, 1, 5, 6, 7, 8, 11]) (.seq (.reg r_w_FnExactEvenLines_8 [0, 1, 5, 6, 7, 8, 11]) (.seq (.reg r_w_FnExactEvenLines_9 [0, 1, 5, 6, 7, 8, 11, 12]) (.seq (.reg r_w_FnExactEvenLines_10 [0, 1, 5, 6, 7, 8, 11, 12]) (.seq (.seq (.reg r_w_FnExactEvenLines_11 [0, 1, 5, 6, 7, 8, 11, 12, 54]) (.cond (.t 54) (.seq (.reg r_w_FnExactEvenLines_12 [4]) .ret) .skip)) (.seq (.seq (.reg r_w_FnExactEvenLines_13 [0, 1, 5, 6, 7, 8, 11, 57]) (.cond (.t 57) (.seq (.reg r_w_FnExactEvenLines_14 [4]) .ret) .skip)) (.seq (.reg r_w_FnExactEvenLines_15 [5, 6, 7, 8, 11, 13, 14, 15]) (.seq (.seq (.reg r_w_FnExactEvenLines_16 [8, 11, 78]) (.cond (.t 78) (.seq (.reg r_w_FnExactEvenLines_17 [4]) .ret) .skip)) (.seq (.reg r_w_FnExactEvenLines_18 [8, 11, 12]) (.seq (.reg r_w_FnExactEvenLines_19 [11, 12]) (.seq (.seq (.reg r_w_FnExactEvenLines_20 [11, 12, 83]) (.cond (.t 83) (.seq (.reg r_w_FnExactEvenLines_21 [4]) .ret) .skip)) (.seq (.seq (.reg r_w_FnExactEvenLines_22 [86]) (.cond (.t 86) (.seq (.reg r_w_FnExactEvenLines_23 [4]) .ret) .skip)) (.seq (.reg r_w_FnExactEvenLines_24 [4]) .ret))))))))))))))))))
def k_w_FnExactEvenLines : Nat → List Nat
  | 0 => [0, 1]
  | 1 => [0, 1, 18]
  | 2 => [4]
  | 3 => [0, 1, 5, 6, 7]
  | 4 => [0, 1, 5, 6, 7, 8, 9, 10]
  | 5 => [0, 1, 5, 6, 7, 8, 46]
  | 6 => [4]
  | 7 => [0, 1, 5, 6, 7, 8, 11]
  | 8 => [0, 1, 5, 6, 7, 8, 11]
  | 9 => [0, 1, 5, 6, 7, 8, 11, 12]
  | 10 => [0, 1, 5, 6, 7, 8, 11, 12]
  | 11 => [0, 1, 5, 6, 7, 8, 11, 12, 54]
  | 12 => [4]
  | 13 => [0, 1, 5, 6, 7, 8, 11, 57]
  | 14 => [4]
  | 15 => [5, 6, 7, 8, 11, 13, 14, 15]
  | 16 => [8, 11, 78]
  | 17 => [4]
  | 18 => [8, 11, 12]
  | 19 => [11, 12]
  | 20 => [11, 12, 83]
  | 21 => [4]
  | 22 => [86]
  | 23 => [4]
  | 24 => [4]
  | _ => []
theorem fn_w_FnExactEvenLines : FnC Tryd.prog n_w_FnExactEvenLines c_w_FnExactEvenLines [(.tmp 4)] 87 :=
  ⟨Tryd.f5, _, k_w_FnExactEvenLines, Tryd.func5, rfl, by kernel_rfl, by kernel_rfl, by kernel_rfl, rfl⟩
end Go.Proofs.YtcfmohcpfmedaaaDoor
