/- The compact code of the functions, and that it is theirs: written by a program of this claim. -/
import Derived.Test.YtopcfaffljjnbaaDoorNums
namespace Go.Proofs.YtopcfaffljjnbaaDoor
open Go.Abs
set_option maxRecDepth 100000
def r_w_FnScrolls_0 : List CO := [⟨none, (some 2), (.mv (.k (.v (.bool false))))⟩]
def r_w_FnScrolls_1 : List CO := [⟨none, (some 20), (.mv (.t 0))⟩, ⟨none, (some 21), (.call n_w_rBig [(.t 20)])⟩]
def r_w_FnScrolls_2 : List CO := [⟨none, (some 2), (.mv (.k (.v (.bool true))))⟩]
def r_w_FnScrolls_3 : List CO := [⟨none, (some 23), (.mv (.t 0))⟩, ⟨none, (some 24), (.call n_s_DrawEvenLines [(.t 23)])⟩, ⟨none, (some 22), (.mv (.t 24))⟩, ⟨none, (some 25), (.ext (.t 22) 0)⟩, ⟨none, (some 26), (.ext (.t 22) 1)⟩, ⟨none, (some 3), (.mv (.t 25))⟩, ⟨none, (some 4), (.mv (.t 26))⟩]
def r_w_FnScrolls_4 : List CO := [⟨none, (some 28), (.mv (.t 3))⟩, ⟨none, (some 29), (.mv (.t 4))⟩, ⟨none, (some 30), (.call n_i_EvenLines [(.t 28), (.t 29)])⟩, ⟨none, (some 27), (.mv (.t 30))⟩, ⟨none, (some 31), (.ext (.t 27) 0)⟩, ⟨none, (some 32), (.ext (.t 27) 1)⟩, ⟨none, (some 33), (.ext (.t 27) 2)⟩, ⟨none, (some 5), (.mv (.t 31))⟩, ⟨none, (some 6), (.mv (.t 32))⟩, ⟨none, (some 7), (.mv (.t 33))⟩]
def r_w_FnScrolls_5 : List CO := [⟨none, (some 35), (.mv (.t 3))⟩, ⟨none, (some 36), (.mv (.t 4))⟩, ⟨none, (some 37), (.call n_s_EvenLines [(.t 35), (.t 36)])⟩, ⟨none, (some 34), (.mv (.t 37))⟩, ⟨none, (some 38), (.ext (.t 34) 0)⟩, ⟨none, (some 39), (.ext (.t 34) 1)⟩, ⟨none, (some 40), (.ext (.t 34) 2)⟩, ⟨none, (some 8), (.mv (.t 38))⟩, ⟨none, (some 9), (.mv (.t 39))⟩, ⟨none, (some 10), (.mv (.t 40))⟩]
def r_w_FnScrolls_6 : List CO := [⟨none, (some 41), (.mv (.t 7))⟩, ⟨none, (some 42), (.mv (.t 10))⟩, ⟨none, (some 43), (.bin .neq .bool (.t 41) (.t 42))⟩, ⟨none, (some 44), (.mv (.t 43))⟩, ⟨(some (44, false)), (some 45), (.mv (.t 6))⟩, ⟨(some (44, false)), (some 46), (.mv (.t 9))⟩, ⟨(some (44, false)), (some 47), (.bin .neq .none (.t 45) (.t 46))⟩, ⟨none, (some 48), (.pick (.t 44) (.k (.v (.bool true))) (.t 47))⟩, ⟨none, (some 49), (.mv (.t 48))⟩, ⟨(some (49, false)), (some 50), (.mv (.t 5))⟩, ⟨(some (49, false)), (some 51), (.mv (.t 8))⟩, ⟨(some (49, false)), (some 52), (.call n_w_rTexts [(.t 50), (.t 51)])⟩, ⟨(some (49, false)), (some 53), (.un .not (.t 52))⟩, ⟨none, (some 54), (.pick (.t 49) (.k (.v (.bool true))) (.t 53))⟩]
def r_w_FnScrolls_7 : List CO := [⟨none, (some 2), (.mv (.k (.v (.bool false))))⟩]
def r_w_FnScrolls_8 : List CO := [⟨none, (some 56), (.mv (.t 3))⟩, ⟨none, (some 57), (.mv (.t 4))⟩, ⟨none, (some 58), (.call n_i_FillLines [(.t 56), (.t 57)])⟩, ⟨none, (some 55), (.mv (.t 58))⟩, ⟨none, (some 59), (.ext (.t 55) 0)⟩, ⟨none, (some 60), (.ext (.t 55) 1)⟩, ⟨none, (some 11), (.mv (.t 59))⟩, ⟨none, (some 12), (.mv (.t 60))⟩]
def r_w_FnScrolls_9 : List CO := [⟨none, (some 62), (.mv (.t 3))⟩, ⟨none, (some 63), (.mv (.t 4))⟩, ⟨none, (some 64), (.call n_s_FillLines [(.t 62), (.t 63)])⟩, ⟨none, (some 61), (.mv (.t 64))⟩, ⟨none, (some 65), (.ext (.t 61) 0)⟩, ⟨none, (some 66), (.ext (.t 61) 1)⟩, ⟨none, (some 13), (.mv (.t 65))⟩, ⟨none, (some 14), (.mv (.t 66))⟩]
def r_w_FnScrolls_10 : List CO := [⟨none, (some 67), (.mv (.t 12))⟩, ⟨none, (some 68), (.mv (.t 14))⟩, ⟨none, (some 69), (.bin .neq .bool (.t 67) (.t 68))⟩, ⟨none, (some 70), (.mv (.t 69))⟩, ⟨(some (70, false)), (some 71), (.mv (.t 12))⟩, ⟨(some (70, false)), (some 72), (.mv (.t 7))⟩, ⟨(some (70, false)), (some 73), (.bin .neq .bool (.t 71) (.t 72))⟩, ⟨none, (some 74), (.pick (.t 70) (.k (.v (.bool true))) (.t 73))⟩, ⟨none, (some 75), (.mv (.t 74))⟩, ⟨(some (75, false)), (some 76), (.mv (.t 11))⟩, ⟨(some (75, false)), (some 77), (.mv (.t 13))⟩, ⟨(some (75, false)), (some 78), (.call n_w_rTexts [(.t 76), (.t 77)])⟩, ⟨(some (75, false)), (some 79), (.un .not (.t 78))⟩, ⟨none, (some 80), (.pick (.t 75) (.k (.v (.bool true))) (.t 79))⟩]
def r_w_FnScrolls_11 : List CO := [⟨none, (some 2), (.mv (.k (.v (.bool false))))⟩]
def r_w_FnScrolls_12 : List CO := [⟨none, (some 81), (.mv (.t 7))⟩, ⟨none, (some 82), (.un .not (.t 81))⟩]
def r_w_FnScrolls_13 : List CO := [⟨none, (some 2), (.mv (.k (.v (.bool true))))⟩]
def r_w_FnScrolls_14 : List CO := [⟨none, (some 83), (.mv (.t 5))⟩, ⟨none, (some 84), (.call n_w_rJoined [(.t 83)])⟩, ⟨none, (some 85), (.mv (.t 3))⟩, ⟨none, (some 86), (.bin .neq .none (.t 84) (.t 85))⟩, ⟨none, (some 87), (.mv (.t 86))⟩, ⟨(some (87, false)), (some 88), (.mv (.t 11))⟩, ⟨(some (87, false)), (some 89), (.call n_w_rJoined [(.t 88)])⟩, ⟨(some (87, false)), (some 90), (.mv (.t 3))⟩, ⟨(some (87, false)), (some 91), (.bin .neq .none (.t 89) (.t 90))⟩, ⟨none, (some 92), (.pick (.t 87) (.k (.v (.bool true))) (.t 91))⟩, ⟨none, (some 93), (.mv (.t 92))⟩, ⟨(some (93, false)), (some 94), (.mv (.t 5))⟩, ⟨(some (93, false)), (some 95), (.mv (.t 4))⟩, ⟨(some (93, false)), (some 96), (.call n_w_rRagged [(.t 94), (.t 95)])⟩, ⟨(some (93, false)), (some 97), (.mv (.t 6))⟩, ⟨(some (93, false)), (some 98), (.bin .neq .none (.t 96) (.t 97))⟩, ⟨none, (some 99), (.pick (.t 93) (.k (.v (.bool true))) (.t 98))⟩, ⟨none, (some 100), (.mv (.t 99))⟩, ⟨(some (100, false)), (some 101), (.mv (.t 11))⟩, ⟨(some (100, false)), (some 102), (.mv (.t 4))⟩, ⟨(some (100, false)), (some 103), (.call n_w_rRagged [(.t 101), (.t 102)])⟩, ⟨(some (100, false)), (some 104), (.mv (.t 6))⟩, ⟨(some (100, false)), (some 105), (.bin .lss .none (.t 103) (.t 104))⟩, ⟨none, (some 106), (.pick (.t 100) (.k (.v (.bool true))) (.t 105))⟩]
def r_w_FnScrolls_15 : List CO := [⟨none, (some 2), (.mv (.k (.v (.bool false))))⟩]
def r_w_FnScrolls_16 : List CO := [⟨none, (some 108), (.mv (.t 3))⟩, ⟨none, (some 109), (.mv (.t 4))⟩, ⟨none, (some 110), (.call n_i_ScrollPicture [(.t 108), (.t 109)])⟩, ⟨none, (some 107), (.mv (.t 110))⟩, ⟨none, (some 111), (.ext (.t 107) 0)⟩, ⟨none, (some 112), (.ext (.t 107) 1)⟩, ⟨none, (some 15), (.mv (.t 111))⟩, ⟨none, (some 16), (.mv (.t 112))⟩]
def r_w_FnScrolls_17 : List CO := [⟨none, (some 114), (.mv (.t 15))⟩, ⟨none, (some 115), (.call n_i_ReadScroll [(.t 114)])⟩, ⟨none, (some 113), (.mv (.t 115))⟩, ⟨none, (some 116), (.ext (.t 113) 0)⟩, ⟨none, (some 117), (.ext (.t 113) 1)⟩, ⟨none, (some 118), (.ext (.t 113) 2)⟩, ⟨none, (some 17), (.mv (.t 116))⟩, ⟨none, (some 18), (.mv (.t 117))⟩, ⟨none, (some 19), (.mv (.t 118))⟩]
def r_w_FnScrolls_18 : List CO := [⟨none, (some 119), (.mv (.t 16))⟩, ⟨none, (some 120), (.mv (.t 119))⟩, ⟨(some (120, true)), (some 121), (.mv (.t 19))⟩, ⟨none, (some 122), (.pick (.t 120) (.t 121) (.k (.v (.bool false))))⟩, ⟨none, (some 123), (.mv (.t 122))⟩, ⟨(some (123, true)), (some 124), (.mv (.t 17))⟩, ⟨(some (123, true)), (some 125), (.mv (.t 3))⟩, ⟨(some (123, true)), (some 126), (.bin .eql .none (.t 124) (.t 125))⟩, ⟨none, (some 127), (.pick (.t 123) (.t 126) (.k (.v (.bool false))))⟩, ⟨none, (some 128), (.mv (.t 127))⟩, ⟨(some (128, true)), (some 129), (.mv (.t 18))⟩, ⟨(some (128, true)), (some 130), (.mv (.t 4))⟩, ⟨(some (128, true)), (some 131), (.bin .eql .none (.t 129) (.t 130))⟩, ⟨none, (some 132), (.pick (.t 128) (.t 131) (.k (.v (.bool false))))⟩, ⟨none, (some 2), (.mv (.t 132))⟩]
/-- loop.example/g00884/laws.FnScrolls -/
def c_w_FnScrolls : C := (.seq (.reg r_w_FnScrolls_0 [0]) (.seq (.seq (.reg r_w_FnScrolls_1 [0, 21]) (.cond (.t 21) (.seq (.reg r_w_FnScrolls_2 [2]) .ret) .skip)) (.seq (.reg r_w_FnScrolls_3 [3, 4]) (.seq (.reg r_w_FnScrolls_4 [3, 4, 5, 6, 7]) (.seq (.reg r_w_FnScrolls_5 [3, 4, 5, 6, 7, 8, 9, 10]) (.seq (.seq (.reg r_w_FnScrolls_6 [3, 4, 5, 6, 7, 54]) (.cond (.t 54) (.seq (.reg r_w_FnScrolls_7 [2]) .ret) .skip)) (.seq (.reg r_w_FnScrolls_8 [3, 4, 5, 6, 7, 11, 12]) (.seq (.seq (.reg r_w_FnScrolls_9 [3, 4, 5, 6, 7, 11, 12, 13, 14]) (.seq (.reg r_w_FnScrolls_10 [3, 4, 5, 6, 7, 11, 80]) (.cond (.t 80) (.seq (.reg r_w_FnScrolls_11 [2]) .ret) .skip))) (.seq (.seq (.reg r_w_FnScrolls_12 [3, 4, 5, 6, 11, 82]) (.cond (.t 82) (.seq (.reg r_w_FnScrolls_13 [2]) .ret) .skip)) (.seq (.seq (.reg r_w_FnScrolls_14 [3, 4, 106]) (.cond (.t 106) (.seq (.reg r_w_FnScrolls_15 [2]) .ret) .skip)) (.seq (.reg r_w_FnScrolls_16 [3, 4, 15, 16]) (.seq (.reg r_w_FnScrolls_17 [3, 4, 16, 17, 18, 19]) (.seq (.reg r_w_FnScrolls_18 [2]) .ret)))))))))))))
def k_w_FnScrolls : Nat → List Nat
  | 0 => [0]
  | 1 => [0, 21]
  | 2 => [2]
  | 3 => [3, 4]
  | 4 => [3, 4, 5, 6, 7]
  | 5 => [3, 4, 5, 6, 7, 8, 9, 10]
  | 6 => [3, 4, 5, 6, 7, 54]
  | 7 => [2]
  | 8 => [3, 4, 5, 6, 7, 11, 12]
  | 9 => [3, 4, 5, 6, 7, 11, 12, 13, 14]
  | 10 => [3, 4, 5, 6, 7, 11, 80]
  | 11 => [2]
  | 12 => [3, 4, 5, 6, 11, 82]
  | 13 => [2]
  | 14 => [3, 4, 106]
  | 15 => [2]
  | 16 => [3, 4, 15, 16]
  | 17 => [3, 4, 16, 17, 18, 19]
  | 18 => [2]
  | _ => []
theorem fn_w_FnScrolls : FnC Tryd.prog n_w_FnScrolls c_w_FnScrolls [(.tmp 2)] 133 :=
  ⟨Tryd.f3, _, k_w_FnScrolls, Tryd.func3, rfl, by kernel_rfl, by kernel_rfl, by kernel_rfl, rfl⟩
end Go.Proofs.YtopcfaffljjnbaaDoor
