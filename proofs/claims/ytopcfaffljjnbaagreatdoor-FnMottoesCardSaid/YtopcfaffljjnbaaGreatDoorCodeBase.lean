/- The compact code of the functions, and that it is theirs: written by a program of this claim. -/
import Derived.Test.YtopcfaffljjnbaaGreatDoorNums
namespace Go.Proofs.YtopcfaffljjnbaaGreatDoor
open Go.Abs
set_option maxRecDepth 100000
def r_w_FnMottoes_0 : List CO := [⟨none, (some 2), (.mv (.k (.v (.bool false))))⟩]
def r_w_FnMottoes_1 : List CO := [⟨none, (some 39), (.mv (.t 0))⟩, ⟨none, (some 40), (.call n_w_rBig [(.t 39)])⟩]
def r_w_FnMottoes_2 : List CO := [⟨none, (some 2), (.mv (.k (.v (.bool true))))⟩]
def r_w_FnMottoes_3 : List CO := [⟨none, (some 42), (.mv (.t 0))⟩, ⟨none, (some 43), (.call n_s_DrawFewestLines [(.t 42)])⟩, ⟨none, (some 41), (.mv (.t 43))⟩, ⟨none, (some 44), (.ext (.t 41) 0)⟩, ⟨none, (some 45), (.ext (.t 41) 1)⟩, ⟨none, (some 3), (.mv (.t 44))⟩, ⟨none, (some 4), (.mv (.t 45))⟩]
def r_w_FnMottoes_4 : List CO := [⟨none, (some 47), (.mv (.t 3))⟩, ⟨none, (some 48), (.mv (.t 4))⟩, ⟨none, (some 49), (.call n_i_FewestLines [(.t 47), (.t 48)])⟩, ⟨none, (some 46), (.mv (.t 49))⟩, ⟨none, (some 50), (.ext (.t 46) 0)⟩, ⟨none, (some 51), (.ext (.t 46) 1)⟩, ⟨none, (some 5), (.mv (.t 50))⟩, ⟨none, (some 6), (.mv (.t 51))⟩]
def r_w_FnMottoes_5 : List CO := [⟨none, (some 53), (.mv (.t 3))⟩, ⟨none, (some 54), (.mv (.t 4))⟩, ⟨none, (some 55), (.call n_s_FewestLines [(.t 53), (.t 54)])⟩, ⟨none, (some 52), (.mv (.t 55))⟩, ⟨none, (some 56), (.ext (.t 52) 0)⟩, ⟨none, (some 57), (.ext (.t 52) 1)⟩, ⟨none, (some 7), (.mv (.t 56))⟩, ⟨none, (some 8), (.mv (.t 57))⟩]
def r_w_FnMottoes_6 : List CO := [⟨none, (some 58), (.mv (.t 5))⟩, ⟨none, (some 59), (.mv (.t 7))⟩, ⟨none, (some 60), (.bin .neq .none (.t 58) (.t 59))⟩, ⟨none, (some 61), (.mv (.t 60))⟩, ⟨(some (61, false)), (some 62), (.mv (.t 6))⟩, ⟨(some (61, false)), (some 63), (.mv (.t 8))⟩, ⟨(some (61, false)), (some 64), (.bin .neq .bool (.t 62) (.t 63))⟩, ⟨none, (some 65), (.pick (.t 61) (.k (.v (.bool true))) (.t 64))⟩, ⟨none, (some 66), (.mv (.t 65))⟩, ⟨(some (66, false)), (some 67), (.mv (.t 6))⟩, ⟨(some (66, false)), (some 68), (.mv (.t 67))⟩, ⟨(some (68, true)), (some 69), (.mv (.t 3))⟩, ⟨(some (68, true)), (some 70), (.call n_i_IsValidMotto [(.t 69)])⟩, ⟨(some (68, true)), (some 71), (.un .not (.t 70))⟩, ⟨(some (66, false)), (some 72), (.pick (.t 68) (.t 71) (.k (.v (.bool false))))⟩, ⟨none, (some 73), (.pick (.t 66) (.k (.v (.bool true))) (.t 72))⟩]
def r_w_FnMottoes_7 : List CO := [⟨none, (some 2), (.mv (.k (.v (.bool false))))⟩]
def r_w_FnMottoes_8 : List CO := [⟨none, (some 74), (.mv (.t 6))⟩]
def r_w_FnMottoes_9 : List CO := [⟨none, (some 76), (.mv (.t 3))⟩, ⟨none, (some 77), (.mv (.t 5))⟩, ⟨none, (some 78), (.call n_i_FillLines [(.t 76), (.t 77)])⟩, ⟨none, (some 75), (.mv (.t 78))⟩, ⟨none, (some 79), (.ext (.t 75) 0)⟩, ⟨none, (some 80), (.ext (.t 75) 1)⟩, ⟨none, (some 9), (.mv (.t 79))⟩, ⟨none, (some 10), (.mv (.t 80))⟩]
def r_w_FnMottoes_10 : List CO := [⟨none, (some 81), (.mv (.t 10))⟩, ⟨none, (some 82), (.un .not (.t 81))⟩, ⟨none, (some 83), (.mv (.t 82))⟩, ⟨(some (83, false)), (some 84), (.mv (.t 9))⟩, ⟨(some (83, false)), (some 85), (.len false (.t 84))⟩, ⟨(some (83, false)), (some 86), (.mv (.t 4))⟩, ⟨(some (83, false)), (some 87), (.bin .gtr .none (.t 85) (.t 86))⟩, ⟨none, (some 88), (.pick (.t 83) (.k (.v (.bool true))) (.t 87))⟩]
def r_w_FnMottoes_11 : List CO := [⟨none, (some 2), (.mv (.k (.v (.bool false))))⟩]
def r_w_FnMottoes_12 : List CO := [⟨none, (some 90), (.mv (.t 3))⟩, ⟨none, (some 91), (.mv (.t 5))⟩, ⟨none, (some 92), (.bin .sub .none (.t 91) (.k (.v (.int .i64 (1)))))⟩, ⟨none, (some 93), (.call n_i_FillLines [(.t 90), (.t 92)])⟩, ⟨none, (some 89), (.mv (.t 93))⟩, ⟨none, (some 94), (.ext (.t 89) 0)⟩, ⟨none, (some 95), (.ext (.t 89) 1)⟩, ⟨none, (some 11), (.mv (.t 94))⟩, ⟨none, (some 12), (.mv (.t 95))⟩]
def r_w_FnMottoes_13 : List CO := [⟨none, (some 96), (.mv (.t 12))⟩, ⟨none, (some 97), (.mv (.t 96))⟩, ⟨(some (97, true)), (some 98), (.mv (.t 11))⟩, ⟨(some (97, true)), (some 99), (.len false (.t 98))⟩, ⟨(some (97, true)), (some 100), (.mv (.t 4))⟩, ⟨(some (97, true)), (some 101), (.bin .leq .none (.t 99) (.t 100))⟩, ⟨none, (some 102), (.pick (.t 97) (.t 101) (.k (.v (.bool false))))⟩]
def r_w_FnMottoes_14 : List CO := [⟨none, (some 2), (.mv (.k (.v (.bool false))))⟩]
def r_w_FnMottoes_15 : List CO := [⟨none, (some 104), (.mv (.t 0))⟩, ⟨none, (some 105), (.call n_s_DrawCenterLine [(.t 104)])⟩, ⟨none, (some 103), (.mv (.t 105))⟩, ⟨none, (some 106), (.ext (.t 103) 0)⟩, ⟨none, (some 107), (.ext (.t 103) 1)⟩, ⟨none, (some 13), (.mv (.t 106))⟩, ⟨none, (some 14), (.mv (.t 107))⟩]
def r_w_FnMottoes_16 : List CO := [⟨none, (some 109), (.mv (.t 13))⟩, ⟨none, (some 110), (.mv (.t 14))⟩, ⟨none, (some 111), (.call n_i_CenterLine [(.t 109), (.t 110)])⟩, ⟨none, (some 108), (.mv (.t 111))⟩, ⟨none, (some 112), (.ext (.t 108) 0)⟩, ⟨none, (some 113), (.ext (.t 108) 1)⟩, ⟨none, (some 15), (.mv (.t 112))⟩, ⟨none, (some 16), (.mv (.t 113))⟩]
def r_w_FnMottoes_17 : List CO := [⟨none, (some 115), (.mv (.t 13))⟩, ⟨none, (some 116), (.mv (.t 14))⟩, ⟨none, (some 117), (.call n_s_CenterLine [(.t 115), (.t 116)])⟩, ⟨none, (some 114), (.mv (.t 117))⟩, ⟨none, (some 118), (.ext (.t 114) 0)⟩, ⟨none, (some 119), (.ext (.t 114) 1)⟩, ⟨none, (some 17), (.mv (.t 118))⟩, ⟨none, (some 18), (.mv (.t 119))⟩]
def r_w_FnMottoes_18 : List CO := [⟨none, (some 120), (.mv (.t 15))⟩, ⟨none, (some 121), (.mv (.t 17))⟩, ⟨none, (some 122), (.bin .neq .none (.t 120) (.t 121))⟩, ⟨none, (some 123), (.mv (.t 122))⟩, ⟨(some (123, false)), (some 124), (.mv (.t 16))⟩, ⟨(some (123, false)), (some 125), (.mv (.t 18))⟩, ⟨(some (123, false)), (some 126), (.bin .neq .bool (.t 124) (.t 125))⟩, ⟨none, (some 127), (.pick (.t 123) (.k (.v (.bool true))) (.t 126))⟩, ⟨none, (some 128), (.mv (.t 127))⟩, ⟨(some (128, false)), (some 129), (.mv (.t 16))⟩, ⟨(some (128, false)), (some 130), (.mv (.t 129))⟩, ⟨(some (130, true)), (some 131), (.mv (.t 15))⟩, ⟨(some (130, true)), (some 132), (.len true (.t 131))⟩, ⟨(some (130, true)), (some 133), (.mv (.t 14))⟩, ⟨(some (130, true)), (some 134), (.bin .neq .none (.t 132) (.t 133))⟩, ⟨(some (128, false)), (some 135), (.pick (.t 130) (.t 134) (.k (.v (.bool false))))⟩, ⟨none, (some 136), (.pick (.t 128) (.k (.v (.bool true))) (.t 135))⟩]
def r_w_FnMottoes_19 : List CO := [⟨none, (some 2), (.mv (.k (.v (.bool false))))⟩]
def r_w_FnMottoes_20 : List CO := [⟨none, (some 137), (.mv (.t 0))⟩, ⟨none, (some 138), (.call n_s_DrawReadScroll [(.t 137)])⟩, ⟨none, (some 19), (.mv (.t 138))⟩]
def r_w_FnMottoes_21 : List CO := [⟨none, (some 140), (.mv (.t 19))⟩, ⟨none, (some 141), (.call n_i_ReadScroll [(.t 140)])⟩, ⟨none, (some 139), (.mv (.t 141))⟩, ⟨none, (some 142), (.ext (.t 139) 0)⟩, ⟨none, (some 143), (.ext (.t 139) 1)⟩, ⟨none, (some 144), (.ext (.t 139) 2)⟩, ⟨none, (some 20), (.mv (.t 142))⟩, ⟨none, (some 21), (.mv (.t 143))⟩, ⟨none, (some 22), (.mv (.t 144))⟩]
def r_w_FnMottoes_22 : List CO := [⟨none, (some 146), (.mv (.t 19))⟩, ⟨none, (some 147), (.call n_s_ReadScroll [(.t 146)])⟩, ⟨none, (some 145), (.mv (.t 147))⟩, ⟨none, (some 148), (.ext (.t 145) 0)⟩, ⟨none, (some 149), (.ext (.t 145) 1)⟩, ⟨none, (some 150), (.ext (.t 145) 2)⟩, ⟨none, (some 23), (.mv (.t 148))⟩, ⟨none, (some 24), (.mv (.t 149))⟩, ⟨none, (some 25), (.mv (.t 150))⟩]
def r_w_FnMottoes_23 : List CO := [⟨none, (some 151), (.mv (.t 20))⟩, ⟨none, (some 152), (.mv (.t 23))⟩, ⟨none, (some 153), (.bin .neq .none (.t 151) (.t 152))⟩, ⟨none, (some 154), (.mv (.t 153))⟩, ⟨(some (154, false)), (some 155), (.mv (.t 21))⟩, ⟨(some (154, false)), (some 156), (.mv (.t 24))⟩, ⟨(some (154, false)), (some 157), (.bin .neq .none (.t 155) (.t 156))⟩, ⟨none, (some 158), (.pick (.t 154) (.k (.v (.bool true))) (.t 157))⟩, ⟨none, (some 159), (.mv (.t 158))⟩, ⟨(some (159, false)), (some 160), (.mv (.t 22))⟩, ⟨(some (159, false)), (some 161), (.mv (.t 25))⟩, ⟨(some (159, false)), (some 162), (.bin .neq .bool (.t 160) (.t 161))⟩, ⟨none, (some 163), (.pick (.t 159) (.k (.v (.bool true))) (.t 162))⟩]
def r_w_FnMottoes_24 : List CO := [⟨none, (some 2), (.mv (.k (.v (.bool false))))⟩]
def r_w_FnMottoes_25 : List CO := [⟨none, (some 165), (.mv (.t 0))⟩, ⟨none, (some 166), (.call n_s_DrawSharedWords [(.t 165)])⟩, ⟨none, (some 164), (.mv (.t 166))⟩, ⟨none, (some 167), (.ext (.t 164) 0)⟩, ⟨none, (some 168), (.ext (.t 164) 1)⟩, ⟨none, (some 26), (.mv (.t 167))⟩, ⟨none, (some 27), (.mv (.t 168))⟩]
def r_w_FnMottoes_26 : List CO := [⟨none, (some 170), (.mv (.t 26))⟩, ⟨none, (some 171), (.mv (.t 27))⟩, ⟨none, (some 172), (.call n_i_SharedWords [(.t 170), (.t 171)])⟩, ⟨none, (some 169), (.mv (.t 172))⟩, ⟨none, (some 173), (.ext (.t 169) 0)⟩, ⟨none, (some 174), (.ext (.t 169) 1)⟩, ⟨none, (some 28), (.mv (.t 173))⟩, ⟨none, (some 29), (.mv (.t 174))⟩]
def r_w_FnMottoes_27 : List CO := [⟨none, (some 176), (.mv (.t 27))⟩, ⟨none, (some 177), (.mv (.t 26))⟩, ⟨none, (some 178), (.call n_i_SharedWords [(.t 176), (.t 177)])⟩, ⟨none, (some 175), (.mv (.t 178))⟩, ⟨none, (some 179), (.ext (.t 175) 0)⟩, ⟨none, (some 180), (.ext (.t 175) 1)⟩, ⟨none, (some 30), (.mv (.t 179))⟩, ⟨none, (some 31), (.mv (.t 180))⟩]
def r_w_FnMottoes_28 : List CO := [⟨none, (some 181), (.mv (.t 0))⟩, ⟨none, (some 182), (.call n_s_DrawInitialLetters [(.t 181)])⟩, ⟨none, (some 32), (.mv (.t 182))⟩]
def r_w_FnMottoes_29 : List CO := [⟨none, (some 184), (.mv (.t 32))⟩, ⟨none, (some 185), (.call n_i_InitialLetters [(.t 184)])⟩, ⟨none, (some 183), (.mv (.t 185))⟩, ⟨none, (some 186), (.ext (.t 183) 0)⟩, ⟨none, (some 187), (.ext (.t 183) 1)⟩, ⟨none, (some 33), (.mv (.t 186))⟩, ⟨none, (some 34), (.mv (.t 187))⟩]
def r_w_FnMottoes_30 : List CO := [⟨none, (some 189), (.mv (.t 32))⟩, ⟨none, (some 190), (.call n_s_InitialLetters [(.t 189)])⟩, ⟨none, (some 188), (.mv (.t 190))⟩, ⟨none, (some 191), (.ext (.t 188) 0)⟩, ⟨none, (some 192), (.ext (.t 188) 1)⟩, ⟨none, (some 35), (.mv (.t 191))⟩, ⟨none, (some 36), (.mv (.t 192))⟩]
def r_w_FnMottoes_31 : List CO := [⟨none, (some 194), (.mv (.t 26))⟩, ⟨none, (some 195), (.mv (.t 27))⟩, ⟨none, (some 196), (.call n_s_SharedWords [(.t 194), (.t 195)])⟩, ⟨none, (some 193), (.mv (.t 196))⟩, ⟨none, (some 197), (.ext (.t 193) 0)⟩, ⟨none, (some 198), (.ext (.t 193) 1)⟩, ⟨none, (some 37), (.mv (.t 197))⟩, ⟨none, (some 38), (.mv (.t 198))⟩]
def r_w_FnMottoes_32 : List CO := [⟨none, (some 199), (.mv (.t 29))⟩, ⟨none, (some 200), (.mv (.t 38))⟩, ⟨none, (some 201), (.bin .eql .bool (.t 199) (.t 200))⟩, ⟨none, (some 202), (.mv (.t 201))⟩, ⟨(some (202, true)), (some 203), (.mv (.t 31))⟩, ⟨(some (202, true)), (some 204), (.mv (.t 38))⟩, ⟨(some (202, true)), (some 205), (.bin .eql .bool (.t 203) (.t 204))⟩, ⟨none, (some 206), (.pick (.t 202) (.t 205) (.k (.v (.bool false))))⟩, ⟨none, (some 207), (.mv (.t 206))⟩, ⟨(some (207, true)), (some 208), (.mv (.t 28))⟩, ⟨(some (207, true)), (some 209), (.mv (.t 37))⟩, ⟨(some (207, true)), (some 210), (.call n_w_rTexts [(.t 208), (.t 209)])⟩, ⟨none, (some 211), (.pick (.t 207) (.t 210) (.k (.v (.bool false))))⟩, ⟨none, (some 212), (.mv (.t 211))⟩, ⟨(some (212, true)), (some 213), (.mv (.t 30))⟩, ⟨(some (212, true)), (some 214), (.mv (.t 28))⟩, ⟨(some (212, true)), (some 215), (.call n_w_rTexts [(.t 213), (.t 214)])⟩, ⟨none, (some 216), (.pick (.t 212) (.t 215) (.k (.v (.bool false))))⟩, ⟨none, (some 217), (.mv (.t 216))⟩, ⟨(some (217, true)), (some 218), (.mv (.t 33))⟩, ⟨(some (217, true)), (some 219), (.mv (.t 35))⟩, ⟨(some (217, true)), (some 220), (.bin .eql .none (.t 218) (.t 219))⟩, ⟨none, (some 221), (.pick (.t 217) (.t 220) (.k (.v (.bool false))))⟩, ⟨none, (some 222), (.mv (.t 221))⟩, ⟨(some (222, true)), (some 223), (.mv (.t 34))⟩, ⟨(some (222, true)), (some 224), (.mv (.t 36))⟩, ⟨(some (222, true)), (some 225), (.bin .eql .bool (.t 223) (.t 224))⟩, ⟨none, (some 226), (.pick (.t 222) (.t 225) (.k (.v (.bool false))))⟩, ⟨none, (some 2), (.mv (.t 226))⟩]
/-- loop.example/g00884/laws.FnMottoes -/
def c_w_FnMottoes : C := (.seq (.reg r_w_FnMottoes_0 [0]) (.seq (.seq (.reg r_w_FnMottoes_1 [0, 40]) (.cond (.t 40) (.seq (.reg r_w_FnMottoes_2 [2]) .ret) .skip)) (.seq (.reg r_w_FnMottoes_3 [0, 3, 4]) (.seq (.reg r_w_FnMottoes_4 [0, 3, 4, 5, 6]) (.seq (.seq (.reg r_w_FnMottoes_5 [0, 3, 4, 5, 6, 7, 8]) (.seq (.reg r_w_FnMottoes_6 [0, 3, 4, 5, 6, 73]) (.cond (.t 73) (.seq (.reg r_w_FnMottoes_7 [2]) .ret) .skip))) (.seq (.seq (.reg r_w_FnMottoes_8 [0, 3, 4, 5, 74]) (.cond (.t 74) (.seq (.reg r_w_FnMottoes_9 [0, 3, 4, 5, 9, 10]) (.seq (.seq (.reg r_w_FnMottoes_10 [0, 3, 4, 5, 88]) (.cond (.t 88) (.seq (.reg r_w_FnMottoes_11 [2]) .ret) .skip)) (.seq (.reg r_w_FnMottoes_12 [0, 4, 11, 12]) (.seq (.reg r_w_FnMottoes_13 [0, 102]) (.cond (.t 102) (.seq (.reg r_w_FnMottoes_14 [2]) .ret) .skip))))) .skip)) (.seq (.wk (.reg r_w_FnMottoes_15 [0, 13, 14])) (.seq (.reg r_w_FnMottoes_16 [0, 13, 14, 15, 16]) (.seq (.seq (.reg r_w_FnMottoes_17 [0, 14, 15, 16, 17, 18]) (.seq (.reg r_w_FnMottoes_18 [0, 136]) (.cond (.t 136) (.seq (.reg r_w_FnMottoes_19 [2]) .ret) .skip))) (.seq (.reg r_w_FnMottoes_20 [0, 19]) (.seq (.reg r_w_FnMottoes_21 [0, 19, 20, 21, 22]) (.seq (.seq (.reg r_w_FnMottoes_22 [0, 20, 21, 22, 23, 24, 25]) (.seq (.reg r_w_FnMottoes_23 [0, 163]) (.cond (.t 163) (.seq (.reg r_w_FnMottoes_24 [2]) .ret) .skip))) (.seq (.reg r_w_FnMottoes_25 [0, 26, 27]) (.seq (.reg r_w_FnMottoes_26 [0, 26, 27, 28, 29]) (.seq (.reg r_w_FnMottoes_27 [0, 26, 27, 28, 29, 30, 31]) (.seq (.reg r_w_FnMottoes_28 [26, 27, 28, 29, 30, 31, 32]) (.seq (.reg r_w_FnMottoes_29 [26, 27, 28, 29, 30, 31, 32, 33, 34]) (.seq (.reg r_w_FnMottoes_30 [26, 27, 28, 29, 30, 31, 33, 34, 35, 36]) (.seq (.reg r_w_FnMottoes_31 [28, 29, 30, 31, 33, 34, 35, 36, 37, 38]) (.seq (.reg r_w_FnMottoes_32 [2]) .ret))))))))))))))))))))
def k_w_FnMottoes : Nat → List Nat
  | 0 => [0]
  | 1 => [0, 40]
  | 2 => [2]
  | 3 => [0, 3, 4]
  | 4 => [0, 3, 4, 5, 6]
  | 5 => [0, 3, 4, 5, 6, 7, 8]
  | 6 => [0, 3, 4, 5, 6, 73]
  | 7 => [2]
  | 8 => [0, 3, 4, 5, 74]
  | 9 => [0, 3, 4, 5, 9, 10]
  | 10 => [0, 3, 4, 5, 88]
  | 11 => [2]
  | 12 => [0, 4, 11, 12]
  | 13 => [0, 102]
  | 14 => [2]
  | 15 => [999999, 0, 13, 14]
  | 16 => [0, 13, 14, 15, 16]
  | 17 => [0, 14, 15, 16, 17, 18]
  | 18 => [0, 136]
  | 19 => [2]
  | 20 => [0, 19]
  | 21 => [0, 19, 20, 21, 22]
  | 22 => [0, 20, 21, 22, 23, 24, 25]
  | 23 => [0, 163]
  | 24 => [2]
  | 25 => [0, 26, 27]
  | 26 => [0, 26, 27, 28, 29]
  | 27 => [0, 26, 27, 28, 29, 30, 31]
  | 28 => [26, 27, 28, 29, 30, 31, 32]
  | 29 => [26, 27, 28, 29, 30, 31, 32, 33, 34]
  | 30 => [26, 27, 28, 29, 30, 31, 33, 34, 35, 36]
  | 31 => [28, 29, 30, 31, 33, 34, 35, 36, 37, 38]
  | 32 => [2]
  | _ => []
theorem fn_w_FnMottoes : FnC Tryz.prog n_w_FnMottoes c_w_FnMottoes [(.tmp 2)] 227 :=
  ⟨Tryz.f3, _, k_w_FnMottoes, Tryz.func3, rfl, by kernel_rfl, by kernel_rfl, by kernel_rfl, rfl⟩
def r_w_rBig_0 : List CO := [⟨none, (some 2), (.mv (.k (.v (.bool false))))⟩]
def r_w_rBig_1 : List CO := [⟨none, (some 3), (.mv (.t 0))⟩, ⟨none, (some 4), (.len false (.t 3))⟩, ⟨none, (some 5), (.bin .gtr .none (.t 4) (.k (.v (.int .i64 (65536)))))⟩, ⟨none, (some 2), (.mv (.t 5))⟩]
/-- loop.example/g00884/laws.rBig -/
def c_w_rBig : C := (.seq (.reg r_w_rBig_0 [0]) (.seq (.reg r_w_rBig_1 [2]) .ret))
def k_w_rBig : Nat → List Nat
  | 0 => [0]
  | 1 => [2]
  | _ => []
theorem fn_w_rBig : FnC Tryz.prog n_w_rBig c_w_rBig [(.tmp 2)] 6 :=
  ⟨Tryz.f4, _, k_w_rBig, Tryz.func4, rfl, by kernel_rfl, by kernel_rfl, by kernel_rfl, rfl⟩
def r_s_DrawFewestLines_0 : List CO := [⟨none, (some 2), (.mv (.k (.v (.string (bs [])))))⟩, ⟨none, (some 3), (.mv (.k (.v (.int .i64 (0)))))⟩]
def r_s_DrawFewestLines_1 : List CO := [⟨none, (some 6), (.mv (.t 0))⟩, ⟨none, (some 7), (.build (.agg [(.v (.slice none 0 0)), (.v (.int .i64 (0))), (.v (.int .u64 (0)))]) [(0, (1, (.t 6)))])⟩, ⟨none, (some 8), (.box 3 (.t 7))⟩, ⟨none, (some 4), (.mv (.t 8))⟩]
def r_s_DrawFewestLines_2 : List CO := [⟨none, (some 9), (.mv (.t 4))⟩, ⟨none, (some 10), (.call n_s_l1Cur_motto [(.t 9)])⟩, ⟨none, (some 5), (.mv (.t 10))⟩]
def r_s_DrawFewestLines_3 : List CO := [⟨none, (some 11), (.mv (.t 5))⟩, ⟨none, (some 12), (.mv (.t 4))⟩, ⟨none, (some 13), (.bslice 1 (.v (.int .i64 (0))) 7 [(0, (.k (.v (.int .i64 (1))))), (1, (.k (.v (.int .i64 (2))))), (2, (.k (.v (.int .i64 (3))))), (3, (.k (.v (.int .i64 (5))))), (4, (.k (.v (.int .i64 (20))))), (5, (.k (.v (.int .i64 (0))))), (6, (.k (.v (.int .i64 (21)))))])⟩, ⟨none, (some 14), (.mv (.t 4))⟩, ⟨none, (some 15), (.call n_s_l1Cur_pick [(.t 14), (.k (.v (.int .i64 (24))))])⟩, ⟨none, (some 16), (.bin .quo .none (.t 15) (.k (.v (.int .i64 (11)))))⟩, ⟨none, (some 17), (.bin .add .none (.k (.v (.int .i64 (5)))) (.t 16))⟩, ⟨none, (some 18), (.slc (some 1) (.t 13) none (some (.t 17)))⟩, ⟨none, (some 19), (.call n_s_l1Cur_among [(.t 12), (.t 18)])⟩, ⟨none, (some 2), (.mv (.t 11))⟩, ⟨none, (some 3), (.mv (.t 19))⟩]
/-- loop.example/g00884/spec.DrawFewestLines -/
def c_s_DrawFewestLines : C := (.seq (.reg r_s_DrawFewestLines_0 [0]) (.seq (.reg r_s_DrawFewestLines_1 [4]) (.seq (.reg r_s_DrawFewestLines_2 [4, 5]) (.seq (.reg r_s_DrawFewestLines_3 [2, 3]) .ret))))
def k_s_DrawFewestLines : Nat → List Nat
  | 0 => [0]
  | 1 => [4]
  | 2 => [4, 5]
  | 3 => [2, 3]
  | _ => []
theorem fn_s_DrawFewestLines : FnC Tryz.prog n_s_DrawFewestLines c_s_DrawFewestLines [(.tmp 2), (.tmp 3)] 20 :=
  ⟨Tryz.f5, _, k_s_DrawFewestLines, Tryz.func5, rfl, by kernel_rfl, by kernel_rfl, by kernel_rfl, rfl⟩
def r_i_FewestLines_0 : List CO := [⟨none, (some 4), (.mv (.k (.v (.int .i64 (0)))))⟩, ⟨none, (some 5), (.mv (.k (.v (.bool false))))⟩]
def r_i_FewestLines_1 : List CO := [⟨none, (some 7), (.mv (.t 0))⟩, ⟨none, (some 8), (.call n_i_IsValidMotto [(.t 7)])⟩, ⟨none, (some 9), (.un .not (.t 8))⟩, ⟨none, (some 10), (.mv (.t 9))⟩, ⟨(some (10, false)), (some 11), (.mv (.t 1))⟩, ⟨(some (10, false)), (some 12), (.call n_i_inside [(.t 11), (.k (.v (.int .i64 (1)))), (.k (.v (.int .i64 (20))))])⟩, ⟨(some (10, false)), (some 13), (.un .not (.t 12))⟩, ⟨none, (some 14), (.pick (.t 10) (.k (.v (.bool true))) (.t 13))⟩]
def r_i_FewestLines_2 : List CO := [⟨none, (some 4), (.mv (.k (.v (.int .i64 (0)))))⟩, ⟨none, (some 5), (.mv (.k (.v (.bool false))))⟩]
def r_i_FewestLines_3 : List CO := [⟨none, (some 15), (.mv (.t 0))⟩, ⟨none, (some 16), (.call n_i_longest [(.t 15)])⟩, ⟨none, (some 6), (.mv (.t 16))⟩]
def r_i_FewestLines_4 : List CO := [⟨none, (some 17), (.mv (.t 6))⟩, ⟨none, (some 18), (.bin .leq .none (.t 17) (.k (.v (.int .i64 (40)))))⟩]
def r_i_FewestLines_5 : List CO := [⟨none, (some 21), (.mv (.t 0))⟩, ⟨none, (some 22), (.mv (.t 6))⟩, ⟨none, (some 23), (.call n_i_wrapped [(.t 21), (.t 22)])⟩, ⟨none, (some 24), (.len false (.t 23))⟩, ⟨none, (some 25), (.mv (.t 1))⟩, ⟨none, (some 26), (.bin .leq .none (.t 24) (.t 25))⟩]
def r_i_FewestLines_6 : List CO := [⟨none, (some 27), (.mv (.t 6))⟩, ⟨none, (some 4), (.mv (.t 27))⟩, ⟨none, (some 5), (.mv (.k (.v (.bool true))))⟩]
def r_i_FewestLines_7 : List CO := [⟨none, (some 19), (.mv (.t 6))⟩, ⟨none, (some 20), (.bin .add .none (.t 19) (.k (.v (.int .i64 (1)))))⟩, ⟨none, (some 6), (.mv (.t 20))⟩]
def l_i_FewestLines_8 : C := (.seq (.seq (.reg r_i_FewestLines_4 [0, 1, 6, 18]) (.cond (.t 18) .skip (.exit 0))) (.seq (.block 1 (.seq (.reg r_i_FewestLines_5 [0, 1, 6, 26]) (.cond (.t 26) (.seq (.reg r_i_FewestLines_6 [4, 5]) .ret) .skip))) (.reg r_i_FewestLines_7 [0, 1, 6])))
def r_i_FewestLines_9 : List CO := [⟨none, (some 4), (.mv (.k (.v (.int .i64 (0)))))⟩, ⟨none, (some 5), (.mv (.k (.v (.bool false))))⟩]
/-- loop.example/g00884/impl.FewestLines -/
def c_i_FewestLines : C := (.seq (.reg r_i_FewestLines_0 [0, 1]) (.seq (.seq (.reg r_i_FewestLines_1 [0, 1, 14]) (.cond (.t 14) (.seq (.reg r_i_FewestLines_2 [4, 5]) .ret) .skip)) (.seq (.seq (.reg r_i_FewestLines_3 [0, 1, 6]) (.block 0 (.loop l_i_FewestLines_8))) (.seq (.reg r_i_FewestLines_9 [4, 5]) .ret))))
def k_i_FewestLines : Nat → List Nat
  | 0 => [0, 1]
  | 1 => [0, 1, 14]
  | 2 => [4, 5]
  | 3 => [0, 1, 6]
  | 4 => [0, 1, 6, 18]
  | 6 => [0, 1, 6, 26]
  | 7 => [4, 5]
  | 5 => [0, 1, 6]
  | 8 => [4, 5]
  | _ => []
theorem fn_i_FewestLines : FnC Tryz.prog n_i_FewestLines c_i_FewestLines [(.tmp 4), (.tmp 5)] 28 :=
  ⟨Tryz.f6, _, k_i_FewestLines, Tryz.func6, rfl, by kernel_rfl, by kernel_rfl, by kernel_rfl, rfl⟩
def r_s_FewestLines_0 : List CO := [⟨none, (some 4), (.mv (.k (.v (.int .i64 (0)))))⟩, ⟨none, (some 5), (.mv (.k (.v (.bool false))))⟩]
def r_s_FewestLines_1 : List CO := [⟨none, (some 7), (.mv (.t 0))⟩, ⟨none, (some 8), (.call n_s_l23Good [(.t 7)])⟩, ⟨none, (some 9), (.un .not (.t 8))⟩, ⟨none, (some 10), (.mv (.t 9))⟩, ⟨(some (10, false)), (some 11), (.mv (.t 1))⟩, ⟨(some (10, false)), (some 12), (.call n_s_l1In [(.t 11), (.k (.v (.int .i64 (1)))), (.k (.v (.int .i64 (20))))])⟩, ⟨(some (10, false)), (some 13), (.un .not (.t 12))⟩, ⟨none, (some 14), (.pick (.t 10) (.k (.v (.bool true))) (.t 13))⟩]
def r_s_FewestLines_2 : List CO := [⟨none, (some 4), (.mv (.k (.v (.int .i64 (0)))))⟩, ⟨none, (some 5), (.mv (.k (.v (.bool false))))⟩]
def r_s_FewestLines_3 : List CO := [⟨none, (some 6), (.mv (.k (.v (.int .i64 (1)))))⟩]
def r_s_FewestLines_4 : List CO := [⟨none, (some 15), (.mv (.t 6))⟩, ⟨none, (some 16), (.bin .leq .none (.t 15) (.k (.v (.int .i64 (40)))))⟩]
def r_s_FewestLines_5 : List CO := [⟨none, (some 19), (.mv (.t 0))⟩, ⟨none, (some 20), (.mv (.t 6))⟩, ⟨none, (some 21), (.call n_s_l23Fits [(.t 19), (.t 20)])⟩, ⟨none, (some 22), (.mv (.t 21))⟩, ⟨(some (22, true)), (some 23), (.mv (.t 0))⟩, ⟨(some (22, true)), (some 24), (.mv (.t 6))⟩, ⟨(some (22, true)), (some 25), (.call n_s_l23Fill [(.t 23), (.t 24)])⟩, ⟨(some (22, true)), (some 26), (.len false (.t 25))⟩, ⟨(some (22, true)), (some 27), (.mv (.t 1))⟩, ⟨(some (22, true)), (some 28), (.bin .leq .none (.t 26) (.t 27))⟩, ⟨none, (some 29), (.pick (.t 22) (.t 28) (.k (.v (.bool false))))⟩]
def r_s_FewestLines_6 : List CO := [⟨none, (some 30), (.mv (.t 6))⟩, ⟨none, (some 4), (.mv (.t 30))⟩, ⟨none, (some 5), (.mv (.k (.v (.bool true))))⟩]
def r_s_FewestLines_7 : List CO := [⟨none, (some 17), (.mv (.t 6))⟩, ⟨none, (some 18), (.bin .add .none (.t 17) (.k (.v (.int .i64 (1)))))⟩, ⟨none, (some 6), (.mv (.t 18))⟩]
def l_s_FewestLines_8 : C := (.seq (.seq (.reg r_s_FewestLines_4 [0, 1, 6, 16]) (.cond (.t 16) .skip (.exit 0))) (.seq (.block 1 (.seq (.reg r_s_FewestLines_5 [0, 1, 6, 29]) (.cond (.t 29) (.seq (.reg r_s_FewestLines_6 [4, 5]) .ret) .skip))) (.reg r_s_FewestLines_7 [0, 1, 6])))
def r_s_FewestLines_9 : List CO := [⟨none, (some 4), (.mv (.k (.v (.int .i64 (0)))))⟩, ⟨none, (some 5), (.mv (.k (.v (.bool false))))⟩]
/-- loop.example/g00884/spec.FewestLines -/
def c_s_FewestLines : C := (.seq (.reg r_s_FewestLines_0 [0, 1]) (.seq (.seq (.reg r_s_FewestLines_1 [0, 1, 14]) (.cond (.t 14) (.seq (.reg r_s_FewestLines_2 [4, 5]) .ret) .skip)) (.seq (.seq (.reg r_s_FewestLines_3 [0, 1, 6]) (.block 0 (.loop l_s_FewestLines_8))) (.seq (.reg r_s_FewestLines_9 [4, 5]) .ret))))
def k_s_FewestLines : Nat → List Nat
  | 0 => [0, 1]
  | 1 => [0, 1, 14]
  | 2 => [4, 5]
  | 3 => [0, 1, 6]
  | 4 => [0, 1, 6, 16]
  | 6 => [0, 1, 6, 29]
  | 7 => [4, 5]
  | 5 => [0, 1, 6]
  | 8 => [4, 5]
  | _ => []
theorem fn_s_FewestLines : FnC Tryz.prog n_s_FewestLines c_s_FewestLines [(.tmp 4), (.tmp 5)] 31 :=
  ⟨Tryz.f7, _, k_s_FewestLines, Tryz.func7, rfl, by kernel_rfl, by kernel_rfl, by kernel_rfl, rfl⟩
def r_i_IsValidMotto_0 : List CO := [⟨none, (some 2), (.mv (.k (.v (.bool false))))⟩]
def r_i_IsValidMotto_1 : List CO := [⟨none, (some 5), (.mv (.t 0))⟩, ⟨none, (some 6), (.len true (.t 5))⟩, ⟨none, (some 7), (.call n_i_inside [(.t 6), (.k (.v (.int .i64 (1)))), (.k (.v (.int .i64 (60))))])⟩, ⟨none, (some 8), (.un .not (.t 7))⟩]
def r_i_IsValidMotto_2 : List CO := [⟨none, (some 2), (.mv (.k (.v (.bool false))))⟩]
def r_i_IsValidMotto_3 : List CO := [⟨none, (some 9), (.mv (.t 0))⟩, ⟨none, (some 10), (.call n_strings_Split [(.t 9), (.k (.v (.string (bs [32]))))])⟩, ⟨none, (some 11), (.len false (.t 10))⟩, ⟨none, (some 12), (.mv (.k (.v (.int .i64 (0)))))⟩]
def r_i_IsValidMotto_4 : List CO := [⟨none, (some 13), (.bin .lss .none (.t 12) (.t 11))⟩]
def r_i_IsValidMotto_5 : List CO := [⟨none, (some 14), (.iaddr 1 (.t 10) (.t 12))⟩, ⟨none, (some 15), (.ld false 1 (.t 14))⟩, ⟨none, (some 4), (.mv (.t 15))⟩]
def r_i_IsValidMotto_6 : List CO := [⟨none, (some 16), (.mv (.t 4))⟩, ⟨none, (some 17), (.bin .eql .none (.t 16) (.k (.v (.string (bs [])))))⟩, ⟨none, (some 18), (.mv (.t 17))⟩, ⟨(some (18, false)), (some 19), (.mv (.t 4))⟩, ⟨(some (18, false)), (some 20), (.call n_strings_Trim [(.t 19), (.k (.v (.string (bs [65, 66, 67, 68, 69, 70, 71, 72, 73, 74, 75, 76, 77, 78, 79, 80, 81, 82, 83, 84, 85, 86, 87, 88, 89, 90]))))])⟩, ⟨(some (18, false)), (some 21), (.bin .neq .none (.t 20) (.k (.v (.string (bs [])))))⟩, ⟨none, (some 22), (.pick (.t 18) (.k (.v (.bool true))) (.t 21))⟩]
def r_i_IsValidMotto_7 : List CO := [⟨none, (some 2), (.mv (.k (.v (.bool false))))⟩]
def r_i_IsValidMotto_8 : List CO := [⟨none, (some 23), (.bin .add .none (.t 12) (.k (.v (.int .i64 (1)))))⟩, ⟨none, (some 12), (.mv (.t 23))⟩]
def l_i_IsValidMotto_9 : C := (.seq (.reg r_i_IsValidMotto_4 [10, 11, 12, 13]) (.seq (.cond (.t 13) .skip (.exit 0)) (.seq (.block 1 (.seq (.reg r_i_IsValidMotto_5 [4, 10, 11, 12]) (.seq (.reg r_i_IsValidMotto_6 [10, 11, 12, 22]) (.cond (.t 22) (.seq (.reg r_i_IsValidMotto_7 [2]) .ret) .skip)))) (.reg r_i_IsValidMotto_8 [10, 11, 12]))))
def r_i_IsValidMotto_10 : List CO := [⟨none, (some 2), (.mv (.k (.v (.bool true))))⟩]
/-- loop.example/g00884/impl.IsValidMotto -/
def c_i_IsValidMotto : C := (.seq (.reg r_i_IsValidMotto_0 [0]) (.seq (.seq (.reg r_i_IsValidMotto_1 [0, 8]) (.cond (.t 8) (.seq (.reg r_i_IsValidMotto_2 [2]) .ret) .skip)) (.seq (.seq (.reg r_i_IsValidMotto_3 [10, 11, 12]) (.block 0 (.loop l_i_IsValidMotto_9))) (.seq (.reg r_i_IsValidMotto_10 [2]) .ret))))
def k_i_IsValidMotto : Nat → List Nat
  | 0 => [0]
  | 1 => [0, 8]
  | 2 => [2]
  | 3 => [10, 11, 12]
  | 4 => [10, 11, 12, 13]
  | 5 => [4, 10, 11, 12]
  | 6 => [10, 11, 12, 22]
  | 7 => [2]
  | 8 => [10, 11, 12]
  | 9 => [2]
  | _ => []
theorem fn_i_IsValidMotto : FnC Tryz.prog n_i_IsValidMotto c_i_IsValidMotto [(.tmp 2)] 24 :=
  ⟨Tryz.f8, _, k_i_IsValidMotto, Tryz.func8, rfl, by kernel_rfl, by kernel_rfl, by kernel_rfl, rfl⟩
def r_i_FillLines_0 : List CO := [⟨none, (some 4), (.mv (.k (.v (.slice none 0 0))))⟩, ⟨none, (some 5), (.mv (.k (.v (.bool false))))⟩]
def r_i_FillLines_1 : List CO := [⟨none, (some 6), (.mv (.t 0))⟩, ⟨none, (some 7), (.mv (.t 1))⟩, ⟨none, (some 8), (.call n_i_isOnScroll [(.t 6), (.t 7)])⟩, ⟨none, (some 9), (.un .not (.t 8))⟩]
def r_i_FillLines_2 : List CO := [⟨none, (some 4), (.mv (.k (.v (.slice none 0 0))))⟩, ⟨none, (some 5), (.mv (.k (.v (.bool false))))⟩]
def r_i_FillLines_3 : List CO := [⟨none, (some 10), (.mv (.t 0))⟩, ⟨none, (some 11), (.mv (.t 1))⟩, ⟨none, (some 12), (.call n_i_wrapped [(.t 10), (.t 11)])⟩, ⟨none, (some 4), (.mv (.t 12))⟩, ⟨none, (some 5), (.mv (.k (.v (.bool true))))⟩]
/-- loop.example/g00884/impl.FillLines -/
def c_i_FillLines : C := (.seq (.reg r_i_FillLines_0 [0, 1]) (.seq (.seq (.reg r_i_FillLines_1 [0, 1, 9]) (.cond (.t 9) (.seq (.reg r_i_FillLines_2 [4, 5]) .ret) .skip)) (.seq (.reg r_i_FillLines_3 [4, 5]) .ret)))
def k_i_FillLines : Nat → List Nat
  | 0 => [0, 1]
  | 1 => [0, 1, 9]
  | 2 => [4, 5]
  | 3 => [4, 5]
  | _ => []
theorem fn_i_FillLines : FnC Tryz.prog n_i_FillLines c_i_FillLines [(.tmp 4), (.tmp 5)] 13 :=
  ⟨Tryz.f9, _, k_i_FillLines, Tryz.func9, rfl, by kernel_rfl, by kernel_rfl, by kernel_rfl, rfl⟩
def r_s_DrawCenterLine_0 : List CO := [⟨none, (some 2), (.mv (.k (.v (.string (bs [])))))⟩, ⟨none, (some 3), (.mv (.k (.v (.int .i64 (0)))))⟩]
def r_s_DrawCenterLine_1 : List CO := [⟨none, (some 6), (.mv (.t 0))⟩, ⟨none, (some 7), (.build (.agg [(.v (.slice none 0 0)), (.v (.int .i64 (0))), (.v (.int .u64 (0)))]) [(0, (1, (.t 6)))])⟩, ⟨none, (some 8), (.box 3 (.t 7))⟩, ⟨none, (some 4), (.mv (.t 8))⟩]
def r_s_DrawCenterLine_2 : List CO := [⟨none, (some 9), (.mv (.t 4))⟩, ⟨none, (some 10), (.call n_s_l1Cur_motto [(.t 9)])⟩, ⟨none, (some 5), (.mv (.t 10))⟩]
def r_s_DrawCenterLine_3 : List CO := [⟨none, (some 11), (.mv (.t 5))⟩, ⟨none, (some 12), (.mv (.t 4))⟩, ⟨none, (some 13), (.mv (.t 5))⟩, ⟨none, (some 14), (.len true (.t 13))⟩, ⟨none, (some 15), (.mv (.t 5))⟩, ⟨none, (some 16), (.len true (.t 15))⟩, ⟨none, (some 17), (.bin .add .none (.t 16) (.k (.v (.int .i64 (1)))))⟩, ⟨none, (some 18), (.mv (.t 5))⟩, ⟨none, (some 19), (.len true (.t 18))⟩, ⟨none, (some 20), (.bin .add .none (.t 19) (.k (.v (.int .i64 (2)))))⟩, ⟨none, (some 21), (.mv (.t 5))⟩, ⟨none, (some 22), (.len true (.t 21))⟩, ⟨none, (some 23), (.bin .add .none (.t 22) (.k (.v (.int .i64 (5)))))⟩, ⟨none, (some 24), (.mv (.t 5))⟩, ⟨none, (some 25), (.len true (.t 24))⟩, ⟨none, (some 26), (.bin .sub .none (.t 25) (.k (.v (.int .i64 (1)))))⟩, ⟨none, (some 27), (.bslice 1 (.v (.int .i64 (0))) 7 [(0, (.t 14)), (1, (.t 17)), (2, (.t 20)), (3, (.t 23)), (4, (.k (.v (.int .i64 (40))))), (5, (.t 26)), (6, (.k (.v (.int .i64 (41)))))])⟩, ⟨none, (some 28), (.call n_s_l1Cur_among [(.t 12), (.t 27)])⟩, ⟨none, (some 2), (.mv (.t 11))⟩, ⟨none, (some 3), (.mv (.t 28))⟩]
/-- loop.example/g00884/spec.DrawCenterLine -/
def c_s_DrawCenterLine : C := (.seq (.reg r_s_DrawCenterLine_0 [0]) (.seq (.reg r_s_DrawCenterLine_1 [4]) (.seq (.reg r_s_DrawCenterLine_2 [4, 5]) (.seq (.reg r_s_DrawCenterLine_3 [2, 3]) .ret))))
def k_s_DrawCenterLine : Nat → List Nat
  | 0 => [0]
  | 1 => [4]
  | 2 => [4, 5]
  | 3 => [2, 3]
  | _ => []
theorem fn_s_DrawCenterLine : FnC Tryz.prog n_s_DrawCenterLine c_s_DrawCenterLine [(.tmp 2), (.tmp 3)] 29 :=
  ⟨Tryz.f10, _, k_s_DrawCenterLine, Tryz.func10, rfl, by kernel_rfl, by kernel_rfl, by kernel_rfl, rfl⟩
def r_i_CenterLine_0 : List CO := [⟨none, (some 4), (.mv (.k (.v (.string (bs [])))))⟩, ⟨none, (some 5), (.mv (.k (.v (.bool false))))⟩]
def r_i_CenterLine_1 : List CO := [⟨none, (some 6), (.mv (.t 0))⟩, ⟨none, (some 7), (.call n_i_IsValidMotto [(.t 6)])⟩, ⟨none, (some 8), (.un .not (.t 7))⟩, ⟨none, (some 9), (.mv (.t 8))⟩, ⟨(some (9, false)), (some 10), (.mv (.t 1))⟩, ⟨(some (9, false)), (some 11), (.call n_i_isWidth [(.t 10)])⟩, ⟨(some (9, false)), (some 12), (.un .not (.t 11))⟩, ⟨none, (some 13), (.pick (.t 9) (.k (.v (.bool true))) (.t 12))⟩, ⟨none, (some 14), (.mv (.t 13))⟩, ⟨(some (14, false)), (some 15), (.mv (.t 0))⟩, ⟨(some (14, false)), (some 16), (.len true (.t 15))⟩, ⟨(some (14, false)), (some 17), (.mv (.t 1))⟩, ⟨(some (14, false)), (some 18), (.bin .gtr .none (.t 16) (.t 17))⟩, ⟨none, (some 19), (.pick (.t 14) (.k (.v (.bool true))) (.t 18))⟩]
def r_i_CenterLine_2 : List CO := [⟨none, (some 4), (.mv (.k (.v (.string (bs [])))))⟩, ⟨none, (some 5), (.mv (.k (.v (.bool false))))⟩]
def r_i_CenterLine_3 : List CO := [⟨none, (some 20), (.mv (.t 0))⟩, ⟨none, (some 21), (.mv (.t 1))⟩, ⟨none, (some 22), (.call n_i_centered [(.t 20), (.t 21)])⟩, ⟨none, (some 4), (.mv (.t 22))⟩, ⟨none, (some 5), (.mv (.k (.v (.bool true))))⟩]
/-- loop.example/g00884/impl.CenterLine -/
def c_i_CenterLine : C := (.seq (.reg r_i_CenterLine_0 [0, 1]) (.seq (.seq (.reg r_i_CenterLine_1 [0, 1, 19]) (.cond (.t 19) (.seq (.reg r_i_CenterLine_2 [4, 5]) .ret) .skip)) (.seq (.reg r_i_CenterLine_3 [4, 5]) .ret)))
def k_i_CenterLine : Nat → List Nat
  | 0 => [0, 1]
  | 1 => [0, 1, 19]
  | 2 => [4, 5]
  | 3 => [4, 5]
  | _ => []
theorem fn_i_CenterLine : FnC Tryz.prog n_i_CenterLine c_i_CenterLine [(.tmp 4), (.tmp 5)] 23 :=
  ⟨Tryz.f11, _, k_i_CenterLine, Tryz.func11, rfl, by kernel_rfl, by kernel_rfl, by kernel_rfl, rfl⟩
def r_s_CenterLine_0 : List CO := [⟨none, (some 4), (.mv (.k (.v (.string (bs [])))))⟩, ⟨none, (some 5), (.mv (.k (.v (.bool false))))⟩]
def r_s_CenterLine_1 : List CO := [⟨none, (some 6), (.mv (.t 0))⟩, ⟨none, (some 7), (.call n_s_l23Good [(.t 6)])⟩, ⟨none, (some 8), (.un .not (.t 7))⟩, ⟨none, (some 9), (.mv (.t 8))⟩, ⟨(some (9, false)), (some 10), (.mv (.t 1))⟩, ⟨(some (9, false)), (some 11), (.mv (.t 0))⟩, ⟨(some (9, false)), (some 12), (.len true (.t 11))⟩, ⟨(some (9, false)), (some 13), (.call n_s_l1In [(.t 10), (.t 12), (.k (.v (.int .i64 (40))))])⟩, ⟨(some (9, false)), (some 14), (.un .not (.t 13))⟩, ⟨none, (some 15), (.pick (.t 9) (.k (.v (.bool true))) (.t 14))⟩]
def r_s_CenterLine_2 : List CO := [⟨none, (some 4), (.mv (.k (.v (.string (bs [])))))⟩, ⟨none, (some 5), (.mv (.k (.v (.bool false))))⟩]
def r_s_CenterLine_3 : List CO := [⟨none, (some 16), (.mv (.t 0))⟩, ⟨none, (some 17), (.mv (.t 1))⟩, ⟨none, (some 18), (.call n_s_l23Center [(.t 16), (.t 17)])⟩, ⟨none, (some 4), (.mv (.t 18))⟩, ⟨none, (some 5), (.mv (.k (.v (.bool true))))⟩]
/-- loop.example/g00884/spec.CenterLine -/
def c_s_CenterLine : C := (.seq (.reg r_s_CenterLine_0 [0, 1]) (.seq (.seq (.reg r_s_CenterLine_1 [0, 1, 15]) (.cond (.t 15) (.seq (.reg r_s_CenterLine_2 [4, 5]) .ret) .skip)) (.seq (.reg r_s_CenterLine_3 [4, 5]) .ret)))
def k_s_CenterLine : Nat → List Nat
  | 0 => [0, 1]
  | 1 => [0, 1, 15]
  | 2 => [4, 5]
  | 3 => [4, 5]
  | _ => []
theorem fn_s_CenterLine : FnC Tryz.prog n_s_CenterLine c_s_CenterLine [(.tmp 4), (.tmp 5)] 19 :=
  ⟨Tryz.f12, _, k_s_CenterLine, Tryz.func12, rfl, by kernel_rfl, by kernel_rfl, by kernel_rfl, rfl⟩
def r_s_DrawReadScroll_0 : List CO := [⟨none, (some 2), (.mv (.k (.v (.string (bs [])))))⟩]
def r_s_DrawReadScroll_1 : List CO := [⟨none, (some 7), (.mv (.t 0))⟩, ⟨none, (some 8), (.build (.agg [(.v (.slice none 0 0)), (.v (.int .i64 (0))), (.v (.int .u64 (0)))]) [(0, (1, (.t 7)))])⟩, ⟨none, (some 9), (.box 3 (.t 8))⟩, ⟨none, (some 3), (.mv (.t 9))⟩]
def r_s_DrawReadScroll_2 : List CO := [⟨none, (some 10), (.mv (.t 3))⟩, ⟨none, (some 11), (.call n_s_l1Cur_motto [(.t 10)])⟩, ⟨none, (some 4), (.mv (.t 11))⟩]
def r_s_DrawReadScroll_3 : List CO := [⟨none, (some 13), (.mv (.t 4))⟩, ⟨none, (some 14), (.mv (.t 3))⟩, ⟨none, (some 15), (.call n_s_l1Cur_scroll [(.t 14)])⟩, ⟨none, (some 16), (.call n_s_ScrollPicture [(.t 13), (.t 15)])⟩, ⟨none, (some 12), (.mv (.t 16))⟩, ⟨none, (some 17), (.ext (.t 12) 0)⟩, ⟨none, (some 18), (.ext (.t 12) 1)⟩, ⟨none, (some 5), (.mv (.t 17))⟩, ⟨none, (some 6), (.mv (.t 18))⟩]
def r_s_DrawReadScroll_4 : List CO := [⟨none, (some 19), (.mv (.t 3))⟩, ⟨none, (some 20), (.call n_s_l1Cur_one [(.t 19), (.k (.v (.int .i64 (4))))])⟩]
def r_s_DrawReadScroll_5 : List CO := [⟨none, (some 21), (.mv (.t 3))⟩, ⟨none, (some 22), (.mv (.t 5))⟩, ⟨none, (some 23), (.call n_s_l1Cur_spoilt [(.t 21), (.t 22), (.k (.v (.string (bs [32, 61, 65, 10]))))])⟩, ⟨none, (some 5), (.mv (.t 23))⟩]
def r_s_DrawReadScroll_6 : List CO := [⟨none, (some 24), (.mv (.t 5))⟩, ⟨none, (some 2), (.mv (.t 24))⟩]
/-- loop.example/g00884/spec.DrawReadScroll -/
def c_s_DrawReadScroll : C := (.seq (.reg r_s_DrawReadScroll_0 [0]) (.seq (.reg r_s_DrawReadScroll_1 [3]) (.seq (.reg r_s_DrawReadScroll_2 [3, 4]) (.seq (.reg r_s_DrawReadScroll_3 [3, 5]) (.seq (.seq (.reg r_s_DrawReadScroll_4 [3, 5, 20]) (.cond (.t 20) (.reg r_s_DrawReadScroll_5 [5]) .skip)) (.seq (.reg r_s_DrawReadScroll_6 [2]) .ret))))))
def k_s_DrawReadScroll : Nat → List Nat
  | 0 => [0]
  | 1 => [3]
  | 2 => [3, 4]
  | 3 => [3, 5]
  | 4 => [3, 5, 20]
  | 5 => [5]
  | 6 => [2]
  | _ => []
theorem fn_s_DrawReadScroll : FnC Tryz.prog n_s_DrawReadScroll c_s_DrawReadScroll [(.tmp 2)] 25 :=
  ⟨Tryz.f13, _, k_s_DrawReadScroll, Tryz.func13, rfl, by kernel_rfl, by kernel_rfl, by kernel_rfl, rfl⟩
def r_i_ReadScroll_0 : List CO := [⟨none, (some 2), (.mv (.k (.v (.string (bs [])))))⟩, ⟨none, (some 3), (.mv (.k (.v (.int .i64 (0)))))⟩, ⟨none, (some 4), (.mv (.k (.v (.bool false))))⟩]
def r_i_ReadScroll_1 : List CO := [⟨none, (some 15), (.mv (.t 0))⟩, ⟨none, (some 16), (.len true (.t 15))⟩, ⟨none, (some 17), (.bin .gtr .none (.t 16) (.k (.v (.int .i64 (4000)))))⟩]
def r_i_ReadScroll_2 : List CO := [⟨none, (some 2), (.mv (.k (.v (.string (bs [])))))⟩, ⟨none, (some 3), (.mv (.k (.v (.int .i64 (0)))))⟩, ⟨none, (some 4), (.mv (.k (.v (.bool false))))⟩]
def r_i_ReadScroll_3 : List CO := [⟨none, (some 18), (.mv (.t 0))⟩, ⟨none, (some 19), (.call n_strings_Split [(.t 18), (.k (.v (.string (bs [10]))))])⟩, ⟨none, (some 5), (.mv (.t 19))⟩]
def r_i_ReadScroll_4 : List CO := [⟨none, (some 20), (.bslice 1 (.v (.string (bs []))) 0 [])⟩, ⟨none, (some 21), (.mv (.t 5))⟩, ⟨none, (some 22), (.iaddr 1 (.t 21) (.k (.v (.int .i64 (0)))))⟩, ⟨none, (some 23), (.ld false 1 (.t 22))⟩, ⟨none, (some 24), (.len true (.t 23))⟩, ⟨none, (some 25), (.bin .sub .none (.t 24) (.k (.v (.int .i64 (4)))))⟩, ⟨none, (some 6), (.mv (.t 20))⟩, ⟨none, (some 7), (.mv (.t 25))⟩]
def p_i_ReadScroll_4 : List (List Nat) := [[], [], [1], [1, 2], [1, 2, 3], [1, 2, 3, 4], [0], [0, 1, 2, 3, 4, 5, 6]]
def r_i_ReadScroll_5 : List CO := [⟨none, (some 26), (.mv (.t 5))⟩, ⟨none, (some 27), (.slc (some 1) (.t 26) (some (.k (.v (.int .i64 (1))))) none)⟩, ⟨none, (some 28), (.len false (.t 27))⟩, ⟨none, (some 29), (.mv (.k (.v (.int .i64 (0)))))⟩]
def r_i_ReadScroll_6 : List CO := [⟨none, (some 30), (.bin .lss .none (.t 29) (.t 28))⟩]
def r_i_ReadScroll_7 : List CO := [⟨none, (some 31), (.iaddr 1 (.t 27) (.t 29))⟩, ⟨none, (some 32), (.ld false 1 (.t 31))⟩, ⟨none, (some 9), (.mv (.t 32))⟩]
def r_i_ReadScroll_8 : List CO := [⟨none, (some 34), (.mv (.t 9))⟩, ⟨none, (some 35), (.call n_strings_CutPrefix [(.t 34), (.k (.v (.string (bs [40, 32]))))])⟩, ⟨none, (some 33), (.mv (.t 35))⟩, ⟨none, (some 36), (.ext (.t 33) 0)⟩, ⟨none, (some 37), (.ext (.t 33) 1)⟩, ⟨none, (some 10), (.mv (.t 36))⟩, ⟨none, (some 11), (.mv (.t 37))⟩]
def r_i_ReadScroll_9 : List CO := [⟨none, (some 38), (.mv (.t 11))⟩]
def r_i_ReadScroll_10 : List CO := [⟨none, (some 39), (.mv (.t 6))⟩, ⟨none, (some 40), (.mv (.t 10))⟩, ⟨none, (some 41), (.call n_strings_TrimSuffix [(.t 40), (.k (.v (.string (bs [32, 41]))))])⟩, ⟨none, (some 42), (.call n_strings_Trim [(.t 41), (.k (.v (.string (bs [32]))))])⟩, ⟨none, (some 43), (.bslice 1 (.v (.string (bs []))) 1 [(0, (.t 42))])⟩, ⟨none, (some 44), (.app 1 16 (.t 39) (.t 43))⟩, ⟨none, (some 6), (.mv (.t 44))⟩]
def r_i_ReadScroll_11 : List CO := [⟨none, (some 45), (.bin .add .none (.t 29) (.k (.v (.int .i64 (1)))))⟩, ⟨none, (some 29), (.mv (.t 45))⟩]
def l_i_ReadScroll_12 : C := (.seq (.reg r_i_ReadScroll_6 [0, 6, 7, 27, 28, 29, 30]) (.seq (.cond (.t 30) .skip (.exit 0)) (.seq (.block 1 (.seq (.reg r_i_ReadScroll_7 [0, 6, 7, 9, 27, 28, 29]) (.seq (.reg r_i_ReadScroll_8 [0, 6, 7, 10, 11, 27, 28, 29]) (.seq (.reg r_i_ReadScroll_9 [0, 6, 7, 10, 27, 28, 29, 38]) (.cond (.t 38) (.reg r_i_ReadScroll_10 [0, 6, 7, 27, 28, 29]) .skip))))) (.reg r_i_ReadScroll_11 [0, 6, 7, 27, 28, 29]))))
def r_i_ReadScroll_13 : List CO := [⟨none, (some 46), (.mv (.t 6))⟩, ⟨none, (some 47), (.call n_strings_Join [(.t 46), (.k (.v (.string (bs [32]))))])⟩, ⟨none, (some 12), (.mv (.t 47))⟩]
def r_i_ReadScroll_14 : List CO := [⟨none, (some 49), (.mv (.t 12))⟩, ⟨none, (some 50), (.mv (.t 7))⟩, ⟨none, (some 51), (.call n_i_ScrollPicture [(.t 49), (.t 50)])⟩, ⟨none, (some 48), (.mv (.t 51))⟩, ⟨none, (some 52), (.ext (.t 48) 0)⟩, ⟨none, (some 53), (.ext (.t 48) 1)⟩, ⟨none, (some 13), (.mv (.t 52))⟩, ⟨none, (some 14), (.mv (.t 53))⟩]
def r_i_ReadScroll_15 : List CO := [⟨none, (some 54), (.mv (.t 14))⟩, ⟨none, (some 55), (.un .not (.t 54))⟩, ⟨none, (some 56), (.mv (.t 55))⟩, ⟨(some (56, false)), (some 57), (.mv (.t 13))⟩, ⟨(some (56, false)), (some 58), (.mv (.t 0))⟩, ⟨(some (56, false)), (some 59), (.bin .neq .none (.t 57) (.t 58))⟩, ⟨none, (some 60), (.pick (.t 56) (.k (.v (.bool true))) (.t 59))⟩]
def r_i_ReadScroll_16 : List CO := [⟨none, (some 2), (.mv (.k (.v (.string (bs [])))))⟩, ⟨none, (some 3), (.mv (.k (.v (.int .i64 (0)))))⟩, ⟨none, (some 4), (.mv (.k (.v (.bool false))))⟩]
def r_i_ReadScroll_17 : List CO := [⟨none, (some 61), (.mv (.t 12))⟩, ⟨none, (some 62), (.mv (.t 7))⟩, ⟨none, (some 2), (.mv (.t 61))⟩, ⟨none, (some 3), (.mv (.t 62))⟩, ⟨none, (some 4), (.mv (.k (.v (.bool true))))⟩]
/-- loop.example/g00884/impl.ReadScroll -/
def c_i_ReadScroll : C := (.seq (.reg r_i_ReadScroll_0 [0]) (.seq (.seq (.reg r_i_ReadScroll_1 [0, 17]) (.cond (.t 17) (.seq (.reg r_i_ReadScroll_2 [2, 3, 4]) .ret) .skip)) (.seq (.reg r_i_ReadScroll_3 [0, 5]) (.seq (.regD r_i_ReadScroll_4 p_i_ReadScroll_4 [0, 5, 6, 7]) (.seq (.seq (.reg r_i_ReadScroll_5 [0, 6, 7, 27, 28, 29]) (.block 0 (.loop l_i_ReadScroll_12))) (.seq (.reg r_i_ReadScroll_13 [0, 7, 12]) (.seq (.seq (.reg r_i_ReadScroll_14 [0, 7, 12, 13, 14]) (.seq (.reg r_i_ReadScroll_15 [7, 12, 60]) (.cond (.t 60) (.seq (.reg r_i_ReadScroll_16 [2, 3, 4]) .ret) .skip))) (.seq (.reg r_i_ReadScroll_17 [2, 3, 4]) .ret))))))))
def k_i_ReadScroll : Nat → List Nat
  | 0 => [0]
  | 1 => [0, 17]
  | 2 => [2, 3, 4]
  | 3 => [0, 5]
  | 4 => [0, 5, 6, 7]
  | 5 => [0, 6, 7, 27, 28, 29]
  | 6 => [0, 6, 7, 27, 28, 29, 30]
  | 7 => [0, 6, 7, 9, 27, 28, 29]
  | 8 => [0, 6, 7, 10, 11, 27, 28, 29]
  | 9 => [0, 6, 7, 10, 27, 28, 29, 38]
  | 10 => [0, 6, 7, 27, 28, 29]
  | 11 => [0, 6, 7, 27, 28, 29]
  | 12 => [0, 7, 12]
  | 13 => [0, 7, 12, 13, 14]
  | 14 => [7, 12, 60]
  | 15 => [2, 3, 4]
  | 16 => [2, 3, 4]
  | _ => []
theorem fn_i_ReadScroll : FnC Tryz.prog n_i_ReadScroll c_i_ReadScroll [(.tmp 2), (.tmp 3), (.tmp 4)] 63 :=
  ⟨Tryz.f14, _, k_i_ReadScroll, Tryz.func14, rfl, by kernel_rfl, by kernel_rfl, by kernel_rfl, rfl⟩
def r_s_ReadScroll_0 : List CO := [⟨none, (some 2), (.mv (.k (.v (.string (bs [])))))⟩, ⟨none, (some 3), (.mv (.k (.v (.int .i64 (0)))))⟩, ⟨none, (some 4), (.mv (.k (.v (.bool false))))⟩]
def r_s_ReadScroll_1 : List CO := [⟨none, (some 13), (.mv (.t 0))⟩, ⟨none, (some 14), (.call n_s_l1Split [(.t 13), (.k (.v (.int .u8 (10))))])⟩, ⟨none, (some 5), (.mv (.t 14))⟩]
def r_s_ReadScroll_2 : List CO := [⟨none, (some 15), (.mv (.t 0))⟩, ⟨none, (some 16), (.len true (.t 15))⟩, ⟨none, (some 17), (.bin .gtr .none (.t 16) (.k (.v (.int .i64 (4000)))))⟩, ⟨none, (some 18), (.mv (.t 17))⟩, ⟨(some (18, false)), (some 19), (.mv (.t 5))⟩, ⟨(some (18, false)), (some 20), (.len false (.t 19))⟩, ⟨(some (18, false)), (some 21), (.bin .lss .none (.t 20) (.k (.v (.int .i64 (4)))))⟩, ⟨none, (some 22), (.pick (.t 18) (.k (.v (.bool true))) (.t 21))⟩]
def r_s_ReadScroll_3 : List CO := [⟨none, (some 2), (.mv (.k (.v (.string (bs [])))))⟩, ⟨none, (some 3), (.mv (.k (.v (.int .i64 (0)))))⟩, ⟨none, (some 4), (.mv (.k (.v (.bool false))))⟩]
def r_s_ReadScroll_4 : List CO := [⟨none, (some 23), (.mv (.t 5))⟩, ⟨none, (some 24), (.iaddr 1 (.t 23) (.k (.v (.int .i64 (0)))))⟩, ⟨none, (some 25), (.ld false 1 (.t 24))⟩, ⟨none, (some 26), (.len true (.t 25))⟩, ⟨none, (some 27), (.bin .sub .none (.t 26) (.k (.v (.int .i64 (4)))))⟩, ⟨none, (some 6), (.mv (.t 27))⟩]
def r_s_ReadScroll_5 : List CO := [⟨none, (some 7), (.mv (.k (.v (.string (bs [])))))⟩]
def r_s_ReadScroll_6 : List CO := [⟨none, (some 28), (.mv (.t 6))⟩, ⟨none, (some 29), (.call n_s_l1In [(.t 28), (.k (.v (.int .i64 (1)))), (.k (.v (.int .i64 (40))))])⟩, ⟨none, (some 30), (.un .not (.t 29))⟩]
def r_s_ReadScroll_7 : List CO := [⟨none, (some 2), (.mv (.k (.v (.string (bs [])))))⟩, ⟨none, (some 3), (.mv (.k (.v (.int .i64 (0)))))⟩, ⟨none, (some 4), (.mv (.k (.v (.bool false))))⟩]
def r_s_ReadScroll_8 : List CO := [⟨none, (some 8), (.mv (.k (.v (.int .i64 (1)))))⟩]
def r_s_ReadScroll_9 : List CO := [⟨none, (some 31), (.mv (.t 8))⟩, ⟨none, (some 32), (.mv (.t 5))⟩, ⟨none, (some 33), (.len false (.t 32))⟩, ⟨none, (some 34), (.bin .sub .none (.t 33) (.k (.v (.int .i64 (2)))))⟩, ⟨none, (some 35), (.bin .lss .none (.t 31) (.t 34))⟩]
def r_s_ReadScroll_10 : List CO := [⟨none, (some 38), (.mv (.t 5))⟩, ⟨none, (some 39), (.mv (.t 8))⟩, ⟨none, (some 40), (.iaddr 1 (.t 38) (.t 39))⟩, ⟨none, (some 41), (.ld false 1 (.t 40))⟩, ⟨none, (some 42), (.len true (.t 41))⟩, ⟨none, (some 43), (.mv (.t 6))⟩, ⟨none, (some 44), (.bin .add .none (.t 43) (.k (.v (.int .i64 (4)))))⟩, ⟨none, (some 45), (.bin .neq .none (.t 42) (.t 44))⟩]
def r_s_ReadScroll_11 : List CO := [⟨none, (some 2), (.mv (.k (.v (.string (bs [])))))⟩, ⟨none, (some 3), (.mv (.k (.v (.int .i64 (0)))))⟩, ⟨none, (some 4), (.mv (.k (.v (.bool false))))⟩]
def r_s_ReadScroll_12 : List CO := [⟨none, (some 46), (.mv (.t 5))⟩, ⟨none, (some 47), (.mv (.t 8))⟩, ⟨none, (some 48), (.iaddr 1 (.t 46) (.t 47))⟩, ⟨none, (some 49), (.ld false 1 (.t 48))⟩, ⟨none, (some 50), (.len true (.t 49))⟩, ⟨none, (some 51), (.bin .sub .none (.t 50) (.k (.v (.int .i64 (2)))))⟩, ⟨none, (some 9), (.mv (.k (.v (.int .i64 (2)))))⟩, ⟨none, (some 10), (.mv (.t 51))⟩]
def p_s_ReadScroll_12 : List (List Nat) := [[], [], [0, 1], [0, 1, 2], [0, 1, 2, 3], [0, 1, 2, 3, 4], [], [0, 1, 2, 3, 4, 5, 6]]
def r_s_ReadScroll_13 : List CO := [⟨none, (some 52), (.mv (.t 9))⟩, ⟨none, (some 53), (.mv (.t 10))⟩, ⟨none, (some 54), (.bin .lss .none (.t 52) (.t 53))⟩, ⟨none, (some 55), (.mv (.t 54))⟩, ⟨(some (55, true)), (some 56), (.mv (.t 5))⟩, ⟨(some (55, true)), (some 57), (.mv (.t 8))⟩, ⟨(some (55, true)), (some 58), (.iaddr 1 (.t 56) (.t 57))⟩, ⟨(some (55, true)), (some 59), (.ld false 1 (.t 58))⟩, ⟨(some (55, true)), (some 60), (.mv (.t 9))⟩, ⟨(some (55, true)), (some 61), (.idx (.t 59) (.t 60))⟩, ⟨(some (55, true)), (some 62), (.bin .eql .none (.t 61) (.k (.v (.int .u8 (32)))))⟩, ⟨none, (some 63), (.pick (.t 55) (.t 62) (.k (.v (.bool false))))⟩]
def r_s_ReadScroll_14 : List CO := [⟨none, (some 64), (.mv (.t 9))⟩, ⟨none, (some 65), (.bin .add .none (.t 64) (.k (.v (.int .i64 (1)))))⟩, ⟨none, (some 9), (.mv (.t 65))⟩]
def l_s_ReadScroll_15 : C := (.seq (.seq (.reg r_s_ReadScroll_13 [0, 5, 6, 7, 8, 9, 10, 63]) (.cond (.t 63) .skip (.exit 2))) (.block 3 (.reg r_s_ReadScroll_14 [0, 5, 6, 7, 8, 9, 10])))
def r_s_ReadScroll_16 : List CO := [⟨none, (some 66), (.mv (.t 10))⟩, ⟨none, (some 67), (.mv (.t 9))⟩, ⟨none, (some 68), (.bin .gtr .none (.t 66) (.t 67))⟩, ⟨none, (some 69), (.mv (.t 68))⟩, ⟨(some (69, true)), (some 70), (.mv (.t 5))⟩, ⟨(some (69, true)), (some 71), (.mv (.t 8))⟩, ⟨(some (69, true)), (some 72), (.iaddr 1 (.t 70) (.t 71))⟩, ⟨(some (69, true)), (some 73), (.ld false 1 (.t 72))⟩, ⟨(some (69, true)), (some 74), (.mv (.t 10))⟩, ⟨(some (69, true)), (some 75), (.bin .sub .none (.t 74) (.k (.v (.int .i64 (1)))))⟩, ⟨(some (69, true)), (some 76), (.idx (.t 73) (.t 75))⟩, ⟨(some (69, true)), (some 77), (.bin .eql .none (.t 76) (.k (.v (.int .u8 (32)))))⟩, ⟨none, (some 78), (.pick (.t 69) (.t 77) (.k (.v (.bool false))))⟩]
def r_s_ReadScroll_17 : List CO := [⟨none, (some 79), (.mv (.t 10))⟩, ⟨none, (some 80), (.bin .sub .none (.t 79) (.k (.v (.int .i64 (1)))))⟩, ⟨none, (some 10), (.mv (.t 80))⟩]
def l_s_ReadScroll_18 : C := (.seq (.seq (.reg r_s_ReadScroll_16 [0, 5, 6, 7, 8, 9, 10, 78]) (.cond (.t 78) .skip (.exit 4))) (.block 5 (.reg r_s_ReadScroll_17 [0, 5, 6, 7, 8, 9, 10])))
def r_s_ReadScroll_19 : List CO := [⟨none, (some 81), (.mv (.t 7))⟩, ⟨none, (some 82), (.bin .neq .none (.t 81) (.k (.v (.string (bs [])))))⟩]
def r_s_ReadScroll_20 : List CO := [⟨none, (some 83), (.mv (.t 7))⟩, ⟨none, (some 84), (.bin .add .none (.t 83) (.k (.v (.string (bs [32])))))⟩, ⟨none, (some 7), (.mv (.t 84))⟩]
def r_s_ReadScroll_21 : List CO := [⟨none, (some 85), (.mv (.t 7))⟩, ⟨none, (some 86), (.mv (.t 5))⟩, ⟨none, (some 87), (.mv (.t 8))⟩, ⟨none, (some 88), (.iaddr 1 (.t 86) (.t 87))⟩, ⟨none, (some 89), (.ld false 1 (.t 88))⟩, ⟨none, (some 90), (.mv (.t 9))⟩, ⟨none, (some 91), (.mv (.t 10))⟩, ⟨none, (some 92), (.slc none (.t 89) (some (.t 90)) (some (.t 91)))⟩, ⟨none, (some 93), (.bin .add .none (.t 85) (.t 92))⟩, ⟨none, (some 7), (.mv (.t 93))⟩]
def r_s_ReadScroll_22 : List CO := [⟨none, (some 36), (.mv (.t 8))⟩, ⟨none, (some 37), (.bin .add .none (.t 36) (.k (.v (.int .i64 (1)))))⟩, ⟨none, (some 8), (.mv (.t 37))⟩]
def l_s_ReadScroll_23 : C := (.seq (.seq (.reg r_s_ReadScroll_9 [0, 5, 6, 7, 8, 35]) (.cond (.t 35) .skip (.exit 0))) (.seq (.block 1 (.seq (.seq (.reg r_s_ReadScroll_10 [0, 5, 6, 7, 8, 45]) (.cond (.t 45) (.seq (.reg r_s_ReadScroll_11 [2, 3, 4]) .ret) .skip)) (.seq (.regD r_s_ReadScroll_12 p_s_ReadScroll_12 [0, 5, 6, 7, 8, 9, 10]) (.seq (.block 2 (.loop l_s_ReadScroll_15)) (.seq (.block 4 (.loop l_s_ReadScroll_18)) (.seq (.seq (.reg r_s_ReadScroll_19 [0, 5, 6, 7, 8, 9, 10, 82]) (.cond (.t 82) (.reg r_s_ReadScroll_20 [0, 5, 6, 7, 8, 9, 10]) .skip)) (.reg r_s_ReadScroll_21 [0, 5, 6, 7, 8]))))))) (.reg r_s_ReadScroll_22 [0, 5, 6, 7, 8])))
def r_s_ReadScroll_24 : List CO := [⟨none, (some 95), (.mv (.t 7))⟩, ⟨none, (some 96), (.mv (.t 6))⟩, ⟨none, (some 97), (.call n_s_ScrollPicture [(.t 95), (.t 96)])⟩, ⟨none, (some 94), (.mv (.t 97))⟩, ⟨none, (some 98), (.ext (.t 94) 0)⟩, ⟨none, (some 99), (.ext (.t 94) 1)⟩, ⟨none, (some 11), (.mv (.t 98))⟩, ⟨none, (some 12), (.mv (.t 99))⟩]
def r_s_ReadScroll_25 : List CO := [⟨none, (some 100), (.mv (.t 12))⟩, ⟨none, (some 101), (.un .not (.t 100))⟩, ⟨none, (some 102), (.mv (.t 101))⟩, ⟨(some (102, false)), (some 103), (.mv (.t 11))⟩, ⟨(some (102, false)), (some 104), (.mv (.t 0))⟩, ⟨(some (102, false)), (some 105), (.bin .neq .none (.t 103) (.t 104))⟩, ⟨none, (some 106), (.pick (.t 102) (.k (.v (.bool true))) (.t 105))⟩]
def r_s_ReadScroll_26 : List CO := [⟨none, (some 2), (.mv (.k (.v (.string (bs [])))))⟩, ⟨none, (some 3), (.mv (.k (.v (.int .i64 (0)))))⟩, ⟨none, (some 4), (.mv (.k (.v (.bool false))))⟩]
def r_s_ReadScroll_27 : List CO := [⟨none, (some 107), (.mv (.t 7))⟩, ⟨none, (some 108), (.mv (.t 6))⟩, ⟨none, (some 2), (.mv (.t 107))⟩, ⟨none, (some 3), (.mv (.t 108))⟩, ⟨none, (some 4), (.mv (.k (.v (.bool true))))⟩]
/-- loop.example/g00884/spec.ReadScroll -/
def c_s_ReadScroll : C := (.seq (.reg r_s_ReadScroll_0 [0]) (.seq (.reg r_s_ReadScroll_1 [0, 5]) (.seq (.seq (.reg r_s_ReadScroll_2 [0, 5, 22]) (.cond (.t 22) (.seq (.reg r_s_ReadScroll_3 [2, 3, 4]) .ret) .skip)) (.seq (.reg r_s_ReadScroll_4 [0, 5, 6]) (.seq (.reg r_s_ReadScroll_5 [0, 5, 6, 7]) (.seq (.seq (.reg r_s_ReadScroll_6 [0, 5, 6, 7, 30]) (.cond (.t 30) (.seq (.reg r_s_ReadScroll_7 [2, 3, 4]) .ret) .skip)) (.seq (.seq (.reg r_s_ReadScroll_8 [0, 5, 6, 7, 8]) (.block 0 (.loop l_s_ReadScroll_23))) (.seq (.seq (.reg r_s_ReadScroll_24 [0, 6, 7, 11, 12]) (.seq (.reg r_s_ReadScroll_25 [6, 7, 106]) (.cond (.t 106) (.seq (.reg r_s_ReadScroll_26 [2, 3, 4]) .ret) .skip))) (.seq (.reg r_s_ReadScroll_27 [2, 3, 4]) .ret)))))))))
def k_s_ReadScroll : Nat → List Nat
  | 0 => [0]
  | 1 => [0, 5]
  | 2 => [0, 5, 22]
  | 3 => [2, 3, 4]
  | 4 => [0, 5, 6]
  | 5 => [0, 5, 6, 7]
  | 6 => [0, 5, 6, 7, 30]
  | 7 => [2, 3, 4]
  | 8 => [0, 5, 6, 7, 8]
  | 9 => [0, 5, 6, 7, 8, 35]
  | 11 => [0, 5, 6, 7, 8, 45]
  | 12 => [2, 3, 4]
  | 13 => [0, 5, 6, 7, 8, 9, 10]
  | 14 => [0, 5, 6, 7, 8, 9, 10, 63]
  | 15 => [0, 5, 6, 7, 8, 9, 10]
  | 16 => [0, 5, 6, 7, 8, 9, 10, 78]
  | 17 => [0, 5, 6, 7, 8, 9, 10]
  | 18 => [0, 5, 6, 7, 8, 9, 10, 82]
  | 19 => [0, 5, 6, 7, 8, 9, 10]
  | 20 => [0, 5, 6, 7, 8]
  | 10 => [0, 5, 6, 7, 8]
  | 21 => [0, 6, 7, 11, 12]
  | 22 => [6, 7, 106]
  | 23 => [2, 3, 4]
  | 24 => [2, 3, 4]
  | _ => []
theorem fn_s_ReadScroll : FnC Tryz.prog n_s_ReadScroll c_s_ReadScroll [(.tmp 2), (.tmp 3), (.tmp 4)] 109 :=
  ⟨Tryz.f15, _, k_s_ReadScroll, Tryz.func15, rfl, by kernel_rfl, by kernel_rfl, by kernel_rfl, rfl⟩
def r_s_DrawSharedWords_0 : List CO := [⟨none, (some 2), (.mv (.k (.v (.string (bs [])))))⟩, ⟨none, (some 3), (.mv (.k (.v (.string (bs [])))))⟩]
def r_s_DrawSharedWords_1 : List CO := [⟨none, (some 6), (.mv (.t 0))⟩, ⟨none, (some 7), (.build (.agg [(.v (.slice none 0 0)), (.v (.int .i64 (0))), (.v (.int .u64 (0)))]) [(0, (1, (.t 6)))])⟩, ⟨none, (some 8), (.box 3 (.t 7))⟩, ⟨none, (some 4), (.mv (.t 8))⟩]
def r_s_DrawSharedWords_2 : List CO := [⟨none, (some 9), (.mv (.t 4))⟩, ⟨none, (some 10), (.call n_s_l1Cur_motto [(.t 9)])⟩, ⟨none, (some 5), (.mv (.t 10))⟩]
def r_s_DrawSharedWords_3 : List CO := [⟨none, (some 11), (.mv (.t 5))⟩, ⟨none, (some 12), (.mv (.t 4))⟩, ⟨none, (some 13), (.call n_s_l1Cur_motto [(.t 12)])⟩, ⟨none, (some 2), (.mv (.t 11))⟩, ⟨none, (some 3), (.mv (.t 13))⟩]
/-- loop.example/g00884/spec.DrawSharedWords -/
def c_s_DrawSharedWords : C := (.seq (.reg r_s_DrawSharedWords_0 [0]) (.seq (.reg r_s_DrawSharedWords_1 [4]) (.seq (.reg r_s_DrawSharedWords_2 [4, 5]) (.seq (.reg r_s_DrawSharedWords_3 [2, 3]) .ret))))
def k_s_DrawSharedWords : Nat → List Nat
  | 0 => [0]
  | 1 => [4]
  | 2 => [4, 5]
  | 3 => [2, 3]
  | _ => []
theorem fn_s_DrawSharedWords : FnC Tryz.prog n_s_DrawSharedWords c_s_DrawSharedWords [(.tmp 2), (.tmp 3)] 14 :=
  ⟨Tryz.f16, _, k_s_DrawSharedWords, Tryz.func16, rfl, by kernel_rfl, by kernel_rfl, by kernel_rfl, rfl⟩
def r_i_SharedWords_0 : List CO := [⟨none, (some 4), (.mv (.k (.v (.slice none 0 0))))⟩, ⟨none, (some 5), (.mv (.k (.v (.bool false))))⟩]
def r_i_SharedWords_1 : List CO := [⟨none, (some 10), (.mv (.t 0))⟩, ⟨none, (some 11), (.call n_i_IsValidMotto [(.t 10)])⟩, ⟨none, (some 12), (.un .not (.t 11))⟩, ⟨none, (some 13), (.mv (.t 12))⟩, ⟨(some (13, false)), (some 14), (.mv (.t 1))⟩, ⟨(some (13, false)), (some 15), (.call n_i_IsValidMotto [(.t 14)])⟩, ⟨(some (13, false)), (some 16), (.un .not (.t 15))⟩, ⟨none, (some 17), (.pick (.t 13) (.k (.v (.bool true))) (.t 16))⟩]
def r_i_SharedWords_2 : List CO := [⟨none, (some 4), (.mv (.k (.v (.slice none 0 0))))⟩, ⟨none, (some 5), (.mv (.k (.v (.bool false))))⟩]
def r_i_SharedWords_3 : List CO := [⟨none, (some 18), (.bslice 1 (.v (.string (bs []))) 0 [])⟩, ⟨none, (some 19), (.mv (.t 1))⟩, ⟨none, (some 20), (.call n_strings_Split [(.t 19), (.k (.v (.string (bs [32]))))])⟩, ⟨none, (some 6), (.mv (.t 18))⟩, ⟨none, (some 7), (.mv (.t 20))⟩]
def r_i_SharedWords_4 : List CO := [⟨none, (some 21), (.mv (.t 0))⟩, ⟨none, (some 22), (.call n_strings_Split [(.t 21), (.k (.v (.string (bs [32]))))])⟩, ⟨none, (some 23), (.len false (.t 22))⟩, ⟨none, (some 24), (.mv (.k (.v (.int .i64 (0)))))⟩]
def r_i_SharedWords_5 : List CO := [⟨none, (some 25), (.bin .lss .none (.t 24) (.t 23))⟩]
def r_i_SharedWords_6 : List CO := [⟨none, (some 26), (.iaddr 1 (.t 22) (.t 24))⟩, ⟨none, (some 27), (.ld false 1 (.t 26))⟩, ⟨none, (some 9), (.mv (.t 27))⟩]
def r_i_SharedWords_7 : List CO := [⟨none, (some 28), (.mv (.t 7))⟩, ⟨none, (some 29), (.mv (.t 9))⟩, ⟨none, (some 30), (.call n_slices_Contains_string_string [(.t 28), (.t 29)])⟩]
def r_i_SharedWords_8 : List CO := [⟨none, (some 31), (.mv (.t 6))⟩, ⟨none, (some 32), (.mv (.t 9))⟩, ⟨none, (some 33), (.bslice 1 (.v (.string (bs []))) 1 [(0, (.t 32))])⟩, ⟨none, (some 34), (.app 1 16 (.t 31) (.t 33))⟩, ⟨none, (some 6), (.mv (.t 34))⟩]
def r_i_SharedWords_9 : List CO := [⟨none, (some 35), (.bin .add .none (.t 24) (.k (.v (.int .i64 (1)))))⟩, ⟨none, (some 24), (.mv (.t 35))⟩]
def l_i_SharedWords_10 : C := (.seq (.reg r_i_SharedWords_5 [6, 7, 22, 23, 24, 25]) (.seq (.cond (.t 25) .skip (.exit 0)) (.seq (.block 1 (.seq (.reg r_i_SharedWords_6 [6, 7, 9, 22, 23, 24]) (.seq (.reg r_i_SharedWords_7 [6, 7, 9, 22, 23, 24, 30]) (.cond (.t 30) (.reg r_i_SharedWords_8 [6, 7, 22, 23, 24]) .skip)))) (.reg r_i_SharedWords_9 [6, 7, 22, 23, 24]))))
def r_i_SharedWords_11 : List CO := [⟨none, (some 36), (.mv (.t 6))⟩, ⟨none, (some 37), (.call n_slices_Sort_string_string [(.t 36)])⟩]
def r_i_SharedWords_12 : List CO := [⟨none, (some 38), (.mv (.t 6))⟩, ⟨none, (some 39), (.call n_slices_Compact_string_string [(.t 38)])⟩, ⟨none, (some 4), (.mv (.t 39))⟩, ⟨none, (some 5), (.mv (.k (.v (.bool true))))⟩]
/-- loop.example/g00884/impl.SharedWords -/
def c_i_SharedWords : C := (.seq (.reg r_i_SharedWords_0 [0, 1]) (.seq (.seq (.reg r_i_SharedWords_1 [0, 1, 17]) (.cond (.t 17) (.seq (.reg r_i_SharedWords_2 [4, 5]) .ret) .skip)) (.seq (.reg r_i_SharedWords_3 [0, 6, 7]) (.seq (.seq (.reg r_i_SharedWords_4 [6, 7, 22, 23, 24]) (.block 0 (.loop l_i_SharedWords_10))) (.seq (.reg r_i_SharedWords_11 [6]) (.seq (.reg r_i_SharedWords_12 [4, 5]) .ret))))))
def k_i_SharedWords : Nat → List Nat
  | 0 => [0, 1]
  | 1 => [0, 1, 17]
  | 2 => [4, 5]
  | 3 => [0, 6, 7]
  | 4 => [6, 7, 22, 23, 24]
  | 5 => [6, 7, 22, 23, 24, 25]
  | 6 => [6, 7, 9, 22, 23, 24]
  | 7 => [6, 7, 9, 22, 23, 24, 30]
  | 8 => [6, 7, 22, 23, 24]
  | 9 => [6, 7, 22, 23, 24]
  | 10 => [6]
  | 11 => [4, 5]
  | _ => []
theorem fn_i_SharedWords : FnC Tryz.prog n_i_SharedWords c_i_SharedWords [(.tmp 4), (.tmp 5)] 40 :=
  ⟨Tryz.f17, _, k_i_SharedWords, Tryz.func17, rfl, by kernel_rfl, by kernel_rfl, by kernel_rfl, rfl⟩
def r_s_DrawInitialLetters_0 : List CO := [⟨none, (some 2), (.mv (.k (.v (.string (bs [])))))⟩]
def r_s_DrawInitialLetters_1 : List CO := [⟨none, (some 3), (.mv (.t 0))⟩, ⟨none, (some 4), (.call n_s_DrawIsValidMotto [(.t 3)])⟩, ⟨none, (some 2), (.mv (.t 4))⟩]
/-- loop.example/g00884/spec.DrawInitialLetters -/
def c_s_DrawInitialLetters : C := (.seq (.reg r_s_DrawInitialLetters_0 [0]) (.seq (.reg r_s_DrawInitialLetters_1 [2]) .ret))
def k_s_DrawInitialLetters : Nat → List Nat
  | 0 => [0]
  | 1 => [2]
  | _ => []
theorem fn_s_DrawInitialLetters : FnC Tryz.prog n_s_DrawInitialLetters c_s_DrawInitialLetters [(.tmp 2)] 5 :=
  ⟨Tryz.f18, _, k_s_DrawInitialLetters, Tryz.func18, rfl, by kernel_rfl, by kernel_rfl, by kernel_rfl, rfl⟩
def r_i_InitialLetters_0 : List CO := [⟨none, (some 2), (.mv (.k (.v (.string (bs [])))))⟩, ⟨none, (some 3), (.mv (.k (.v (.bool false))))⟩]
def r_i_InitialLetters_1 : List CO := [⟨none, (some 7), (.mv (.t 0))⟩, ⟨none, (some 8), (.call n_i_IsValidMotto [(.t 7)])⟩, ⟨none, (some 9), (.un .not (.t 8))⟩]
def r_i_InitialLetters_2 : List CO := [⟨none, (some 2), (.mv (.k (.v (.string (bs [])))))⟩, ⟨none, (some 3), (.mv (.k (.v (.bool false))))⟩]
def r_i_InitialLetters_3 : List CO := [⟨none, (some 4), (.mv (.k (.v (.string (bs [])))))⟩]
def r_i_InitialLetters_4 : List CO := [⟨none, (some 10), (.mv (.t 0))⟩, ⟨none, (some 11), (.call n_strings_Split [(.t 10), (.k (.v (.string (bs [32]))))])⟩, ⟨none, (some 12), (.len false (.t 11))⟩, ⟨none, (some 13), (.mv (.k (.v (.int .i64 (0)))))⟩]
def r_i_InitialLetters_5 : List CO := [⟨none, (some 14), (.bin .lss .none (.t 13) (.t 12))⟩]
def r_i_InitialLetters_6 : List CO := [⟨none, (some 15), (.iaddr 1 (.t 11) (.t 13))⟩, ⟨none, (some 16), (.ld false 1 (.t 15))⟩, ⟨none, (some 6), (.mv (.t 16))⟩]
def r_i_InitialLetters_7 : List CO := [⟨none, (some 17), (.mv (.t 4))⟩, ⟨none, (some 18), (.mv (.t 6))⟩, ⟨none, (some 19), (.slc none (.t 18) none (some (.k (.v (.int .i64 (1))))))⟩, ⟨none, (some 20), (.bin .add .none (.t 19) (.k (.v (.string (bs [46])))))⟩, ⟨none, (some 21), (.bin .add .none (.t 17) (.t 20))⟩, ⟨none, (some 4), (.mv (.t 21))⟩]
def r_i_InitialLetters_8 : List CO := [⟨none, (some 22), (.bin .add .none (.t 13) (.k (.v (.int .i64 (1)))))⟩, ⟨none, (some 13), (.mv (.t 22))⟩]
def l_i_InitialLetters_9 : C := (.seq (.reg r_i_InitialLetters_5 [4, 11, 12, 13, 14]) (.seq (.cond (.t 14) .skip (.exit 0)) (.seq (.block 1 (.seq (.reg r_i_InitialLetters_6 [4, 6, 11, 12, 13]) (.reg r_i_InitialLetters_7 [4, 11, 12, 13]))) (.reg r_i_InitialLetters_8 [4, 11, 12, 13]))))
def r_i_InitialLetters_10 : List CO := [⟨none, (some 23), (.mv (.t 4))⟩, ⟨none, (some 2), (.mv (.t 23))⟩, ⟨none, (some 3), (.mv (.k (.v (.bool true))))⟩]
/-- loop.example/g00884/impl.InitialLetters -/
def c_i_InitialLetters : C := (.seq (.reg r_i_InitialLetters_0 [0]) (.seq (.seq (.reg r_i_InitialLetters_1 [0, 9]) (.cond (.t 9) (.seq (.reg r_i_InitialLetters_2 [2, 3]) .ret) .skip)) (.seq (.reg r_i_InitialLetters_3 [0, 4]) (.seq (.seq (.reg r_i_InitialLetters_4 [4, 11, 12, 13]) (.block 0 (.loop l_i_InitialLetters_9))) (.seq (.reg r_i_InitialLetters_10 [2, 3]) .ret)))))
def k_i_InitialLetters : Nat → List Nat
  | 0 => [0]
  | 1 => [0, 9]
  | 2 => [2, 3]
  | 3 => [0, 4]
  | 4 => [4, 11, 12, 13]
  | 5 => [4, 11, 12, 13, 14]
  | 6 => [4, 6, 11, 12, 13]
  | 7 => [4, 11, 12, 13]
  | 8 => [4, 11, 12, 13]
  | 9 => [2, 3]
  | _ => []
theorem fn_i_InitialLetters : FnC Tryz.prog n_i_InitialLetters c_i_InitialLetters [(.tmp 2), (.tmp 3)] 24 :=
  ⟨Tryz.f19, _, k_i_InitialLetters, Tryz.func19, rfl, by kernel_rfl, by kernel_rfl, by kernel_rfl, rfl⟩
def r_s_InitialLetters_0 : List CO := [⟨none, (some 2), (.mv (.k (.v (.string (bs [])))))⟩, ⟨none, (some 3), (.mv (.k (.v (.bool false))))⟩]
def r_s_InitialLetters_1 : List CO := [⟨none, (some 7), (.mv (.t 0))⟩, ⟨none, (some 8), (.call n_s_l23Good [(.t 7)])⟩, ⟨none, (some 9), (.un .not (.t 8))⟩]
def r_s_InitialLetters_2 : List CO := [⟨none, (some 2), (.mv (.k (.v (.string (bs [])))))⟩, ⟨none, (some 3), (.mv (.k (.v (.bool false))))⟩]
def r_s_InitialLetters_3 : List CO := [⟨none, (some 10), (.mv (.t 0))⟩, ⟨none, (some 11), (.call n_s_l1Split [(.t 10), (.k (.v (.int .u8 (32))))])⟩, ⟨none, (some 4), (.mv (.t 11))⟩]
def r_s_InitialLetters_4 : List CO := [⟨none, (some 5), (.mv (.k (.v (.string (bs [])))))⟩]
def r_s_InitialLetters_5 : List CO := [⟨none, (some 6), (.mv (.k (.v (.int .i64 (0)))))⟩]
def r_s_InitialLetters_6 : List CO := [⟨none, (some 12), (.mv (.t 6))⟩, ⟨none, (some 13), (.mv (.t 4))⟩, ⟨none, (some 14), (.len false (.t 13))⟩, ⟨none, (some 15), (.bin .lss .none (.t 12) (.t 14))⟩]
def r_s_InitialLetters_7 : List CO := [⟨none, (some 18), (.mv (.t 5))⟩, ⟨none, (some 19), (.mv (.t 4))⟩, ⟨none, (some 20), (.mv (.t 6))⟩, ⟨none, (some 21), (.iaddr 1 (.t 19) (.t 20))⟩, ⟨none, (some 22), (.ld false 1 (.t 21))⟩, ⟨none, (some 23), (.slc none (.t 22) none (some (.k (.v (.int .i64 (1))))))⟩, ⟨none, (some 24), (.bin .add .none (.t 18) (.t 23))⟩, ⟨none, (some 25), (.bin .add .none (.t 24) (.k (.v (.string (bs [46])))))⟩, ⟨none, (some 5), (.mv (.t 25))⟩]
def r_s_InitialLetters_8 : List CO := [⟨none, (some 16), (.mv (.t 6))⟩, ⟨none, (some 17), (.bin .add .none (.t 16) (.k (.v (.int .i64 (1)))))⟩, ⟨none, (some 6), (.mv (.t 17))⟩]
def l_s_InitialLetters_9 : C := (.seq (.seq (.reg r_s_InitialLetters_6 [4, 5, 6, 15]) (.cond (.t 15) .skip (.exit 0))) (.seq (.block 1 (.reg r_s_InitialLetters_7 [4, 5, 6])) (.reg r_s_InitialLetters_8 [4, 5, 6])))
def r_s_InitialLetters_10 : List CO := [⟨none, (some 26), (.mv (.t 5))⟩, ⟨none, (some 2), (.mv (.t 26))⟩, ⟨none, (some 3), (.mv (.k (.v (.bool true))))⟩]
/-- loop.example/g00884/spec.InitialLetters -/
def c_s_InitialLetters : C := (.seq (.reg r_s_InitialLetters_0 [0]) (.seq (.seq (.reg r_s_InitialLetters_1 [0, 9]) (.cond (.t 9) (.seq (.reg r_s_InitialLetters_2 [2, 3]) .ret) .skip)) (.seq (.reg r_s_InitialLetters_3 [4]) (.seq (.reg r_s_InitialLetters_4 [4, 5]) (.seq (.seq (.reg r_s_InitialLetters_5 [4, 5, 6]) (.block 0 (.loop l_s_InitialLetters_9))) (.seq (.reg r_s_InitialLetters_10 [2, 3]) .ret))))))
def k_s_InitialLetters : Nat → List Nat
  | 0 => [0]
  | 1 => [0, 9]
  | 2 => [2, 3]
  | 3 => [4]
  | 4 => [4, 5]
  | 5 => [4, 5, 6]
  | 6 => [4, 5, 6, 15]
  | 8 => [4, 5, 6]
  | 7 => [4, 5, 6]
  | 9 => [2, 3]
  | _ => []
theorem fn_s_InitialLetters : FnC Tryz.prog n_s_InitialLetters c_s_InitialLetters [(.tmp 2), (.tmp 3)] 27 :=
  ⟨Tryz.f20, _, k_s_InitialLetters, Tryz.func20, rfl, by kernel_rfl, by kernel_rfl, by kernel_rfl, rfl⟩
def r_s_SharedWords_0 : List CO := [⟨none, (some 4), (.mv (.k (.v (.slice none 0 0))))⟩, ⟨none, (some 5), (.mv (.k (.v (.bool false))))⟩]
def r_s_SharedWords_1 : List CO := [⟨none, (some 13), (.bslice 1 (.v (.string (bs []))) 0 [])⟩, ⟨none, (some 6), (.mv (.t 13))⟩]
def r_s_SharedWords_2 : List CO := [⟨none, (some 14), (.mv (.t 0))⟩, ⟨none, (some 15), (.call n_s_l23Good [(.t 14)])⟩, ⟨none, (some 16), (.un .not (.t 15))⟩, ⟨none, (some 17), (.mv (.t 16))⟩, ⟨(some (17, false)), (some 18), (.mv (.t 1))⟩, ⟨(some (17, false)), (some 19), (.call n_s_l23Good [(.t 18)])⟩, ⟨(some (17, false)), (some 20), (.un .not (.t 19))⟩, ⟨none, (some 21), (.pick (.t 17) (.k (.v (.bool true))) (.t 20))⟩]
def r_s_SharedWords_3 : List CO := [⟨none, (some 22), (.mv (.t 6))⟩, ⟨none, (some 4), (.mv (.t 22))⟩, ⟨none, (some 5), (.mv (.k (.v (.bool false))))⟩]
def r_s_SharedWords_4 : List CO := [⟨none, (some 23), (.mv (.t 0))⟩, ⟨none, (some 24), (.call n_s_l1Split [(.t 23), (.k (.v (.int .u8 (32))))])⟩, ⟨none, (some 25), (.mv (.t 1))⟩, ⟨none, (some 26), (.call n_s_l1Split [(.t 25), (.k (.v (.int .u8 (32))))])⟩, ⟨none, (some 7), (.mv (.t 24))⟩, ⟨none, (some 8), (.mv (.t 26))⟩]
def r_s_SharedWords_5 : List CO := [⟨none, (some 9), (.mv (.k (.v (.int .i64 (0)))))⟩]
def r_s_SharedWords_6 : List CO := [⟨none, (some 27), (.mv (.t 9))⟩, ⟨none, (some 28), (.mv (.t 7))⟩, ⟨none, (some 29), (.len false (.t 28))⟩, ⟨none, (some 30), (.bin .lss .none (.t 27) (.t 29))⟩]
def r_s_SharedWords_7 : List CO := [⟨none, (some 10), (.mv (.k (.v (.bool false))))⟩]
def r_s_SharedWords_8 : List CO := [⟨none, (some 11), (.mv (.k (.v (.int .i64 (0)))))⟩]
def r_s_SharedWords_9 : List CO := [⟨none, (some 33), (.mv (.t 11))⟩, ⟨none, (some 34), (.mv (.t 8))⟩, ⟨none, (some 35), (.len false (.t 34))⟩, ⟨none, (some 36), (.bin .lss .none (.t 33) (.t 35))⟩]
def r_s_SharedWords_10 : List CO := [⟨none, (some 39), (.mv (.t 10))⟩, ⟨none, (some 40), (.mv (.t 39))⟩, ⟨(some (40, false)), (some 41), (.mv (.t 7))⟩, ⟨(some (40, false)), (some 42), (.mv (.t 9))⟩, ⟨(some (40, false)), (some 43), (.iaddr 1 (.t 41) (.t 42))⟩, ⟨(some (40, false)), (some 44), (.ld false 1 (.t 43))⟩, ⟨(some (40, false)), (some 45), (.mv (.t 8))⟩, ⟨(some (40, false)), (some 46), (.mv (.t 11))⟩, ⟨(some (40, false)), (some 47), (.iaddr 1 (.t 45) (.t 46))⟩, ⟨(some (40, false)), (some 48), (.ld false 1 (.t 47))⟩, ⟨(some (40, false)), (some 49), (.bin .eql .none (.t 44) (.t 48))⟩, ⟨none, (some 50), (.pick (.t 40) (.k (.v (.bool true))) (.t 49))⟩, ⟨none, (some 10), (.mv (.t 50))⟩]
def p_s_SharedWords_10 : List (List Nat) := [[], [0], [0, 1], [0, 1], [0, 1, 2, 3], [0, 1, 2, 3, 4], [0, 1], [0, 1], [0, 1, 6, 7], [0, 1, 6, 7, 8], [0, 1, 2, 3, 4, 5, 6, 7, 8, 9], [0, 1, 2, 3, 4, 5, 6, 7, 8, 9, 10], [0, 1, 2, 3, 4, 5, 6, 7, 8, 9, 10, 11]]
def r_s_SharedWords_11 : List CO := [⟨none, (some 37), (.mv (.t 11))⟩, ⟨none, (some 38), (.bin .add .none (.t 37) (.k (.v (.int .i64 (1)))))⟩, ⟨none, (some 11), (.mv (.t 38))⟩]
def l_s_SharedWords_12 : C := (.seq (.seq (.reg r_s_SharedWords_9 [6, 7, 8, 9, 10, 11, 36]) (.cond (.t 36) .skip (.exit 2))) (.seq (.block 3 (.regD r_s_SharedWords_10 p_s_SharedWords_10 [6, 7, 8, 9, 10, 11])) (.reg r_s_SharedWords_11 [6, 7, 8, 9, 10, 11])))
def r_s_SharedWords_13 : List CO := [⟨none, (some 51), (.mv (.t 10))⟩, ⟨none, (some 52), (.un .not (.t 51))⟩]
def r_s_SharedWords_14 : List CO := [⟨none, (some 12), (.mv (.k (.v (.int .i64 (0)))))⟩]
def r_s_SharedWords_15 : List CO := [⟨none, (some 53), (.mv (.t 12))⟩, ⟨none, (some 54), (.mv (.t 6))⟩, ⟨none, (some 55), (.len false (.t 54))⟩, ⟨none, (some 56), (.bin .lss .none (.t 53) (.t 55))⟩, ⟨none, (some 57), (.mv (.t 56))⟩, ⟨(some (57, true)), (some 58), (.mv (.t 6))⟩, ⟨(some (57, true)), (some 59), (.mv (.t 12))⟩, ⟨(some (57, true)), (some 60), (.iaddr 1 (.t 58) (.t 59))⟩, ⟨(some (57, true)), (some 61), (.ld false 1 (.t 60))⟩, ⟨(some (57, true)), (some 62), (.mv (.t 7))⟩, ⟨(some (57, true)), (some 63), (.mv (.t 9))⟩, ⟨(some (57, true)), (some 64), (.iaddr 1 (.t 62) (.t 63))⟩, ⟨(some (57, true)), (some 65), (.ld false 1 (.t 64))⟩, ⟨(some (57, true)), (some 66), (.bin .lss .none (.t 61) (.t 65))⟩, ⟨none, (some 67), (.pick (.t 57) (.t 66) (.k (.v (.bool false))))⟩]
def p_s_SharedWords_15 : List (List Nat) := [[], [], [1], [0, 1, 2], [0, 1, 2, 3], [0, 1, 2, 3, 4], [0, 1, 2, 3, 4], [0, 1, 2, 3, 4, 5, 6], [0, 1, 2, 3, 4, 5, 6, 7], [0, 1, 2, 3, 4], [0, 1, 2, 3, 4], [0, 1, 2, 3, 4, 9, 10], [0, 1, 2, 3, 4, 9, 10, 11], [0, 1, 2, 3, 4, 5, 6, 7, 8, 9, 10, 11, 12], [0, 1, 2, 3, 4, 5, 6, 7, 8, 9, 10, 11, 12, 13]]
def r_s_SharedWords_16 : List CO := [⟨none, (some 68), (.mv (.t 12))⟩, ⟨none, (some 69), (.bin .add .none (.t 68) (.k (.v (.int .i64 (1)))))⟩, ⟨none, (some 12), (.mv (.t 69))⟩]
def l_s_SharedWords_17 : C := (.seq (.seq (.regD r_s_SharedWords_15 p_s_SharedWords_15 [6, 7, 8, 9, 12, 67]) (.cond (.t 67) .skip (.exit 4))) (.block 5 (.reg r_s_SharedWords_16 [6, 7, 8, 9, 12])))
def r_s_SharedWords_18 : List CO := [⟨none, (some 70), (.mv (.t 12))⟩, ⟨none, (some 71), (.mv (.t 6))⟩, ⟨none, (some 72), (.len false (.t 71))⟩, ⟨none, (some 73), (.bin .eql .none (.t 70) (.t 72))⟩, ⟨none, (some 74), (.mv (.t 73))⟩, ⟨(some (74, false)), (some 75), (.mv (.t 6))⟩, ⟨(some (74, false)), (some 76), (.mv (.t 12))⟩, ⟨(some (74, false)), (some 77), (.iaddr 1 (.t 75) (.t 76))⟩, ⟨(some (74, false)), (some 78), (.ld false 1 (.t 77))⟩, ⟨(some (74, false)), (some 79), (.mv (.t 7))⟩, ⟨(some (74, false)), (some 80), (.mv (.t 9))⟩, ⟨(some (74, false)), (some 81), (.iaddr 1 (.t 79) (.t 80))⟩, ⟨(some (74, false)), (some 82), (.ld false 1 (.t 81))⟩, ⟨(some (74, false)), (some 83), (.bin .neq .none (.t 78) (.t 82))⟩, ⟨none, (some 84), (.pick (.t 74) (.k (.v (.bool true))) (.t 83))⟩]
def p_s_SharedWords_18 : List (List Nat) := [[], [], [1], [0, 1, 2], [0, 1, 2, 3], [0, 1, 2, 3, 4], [0, 1, 2, 3, 4], [0, 1, 2, 3, 4, 5, 6], [0, 1, 2, 3, 4, 5, 6, 7], [0, 1, 2, 3, 4], [0, 1, 2, 3, 4], [0, 1, 2, 3, 4, 9, 10], [0, 1, 2, 3, 4, 9, 10, 11], [0, 1, 2, 3, 4, 5, 6, 7, 8, 9, 10, 11, 12], [0, 1, 2, 3, 4, 5, 6, 7, 8, 9, 10, 11, 12, 13]]
def r_s_SharedWords_19 : List CO := [⟨none, (some 85), (.bslice 1 (.v (.string (bs []))) 0 [])⟩, ⟨none, (some 86), (.mv (.t 6))⟩, ⟨none, (some 87), (.mv (.t 12))⟩, ⟨none, (some 88), (.slc (some 1) (.t 86) none (some (.t 87)))⟩, ⟨none, (some 89), (.app 1 16 (.t 85) (.t 88))⟩, ⟨none, (some 90), (.mv (.t 7))⟩, ⟨none, (some 91), (.mv (.t 9))⟩, ⟨none, (some 92), (.iaddr 1 (.t 90) (.t 91))⟩, ⟨none, (some 93), (.ld false 1 (.t 92))⟩, ⟨none, (some 94), (.bslice 1 (.v (.string (bs []))) 1 [(0, (.t 93))])⟩, ⟨none, (some 95), (.app 1 16 (.t 89) (.t 94))⟩, ⟨none, (some 96), (.mv (.t 6))⟩, ⟨none, (some 97), (.mv (.t 12))⟩, ⟨none, (some 98), (.slc (some 1) (.t 96) (some (.t 97)) none)⟩, ⟨none, (some 99), (.app 1 16 (.t 95) (.t 98))⟩, ⟨none, (some 6), (.mv (.t 99))⟩]
def p_s_SharedWords_19 : List (List Nat) := [[], [], [], [1, 2], [0, 1, 2, 3], [], [], [5, 6], [5, 6, 7], [5, 6, 7, 8], [0, 1, 2, 3, 4, 5, 6, 7, 8, 9], [], [], [11, 12], [0, 1, 2, 3, 4, 5, 6, 7, 8, 9, 10, 11, 12, 13], [0, 1, 2, 3, 4, 5, 6, 7, 8, 9, 10, 11, 12, 13, 14]]
def r_s_SharedWords_20 : List CO := [⟨none, (some 31), (.mv (.t 9))⟩, ⟨none, (some 32), (.bin .add .none (.t 31) (.k (.v (.int .i64 (1)))))⟩, ⟨none, (some 9), (.mv (.t 32))⟩]
def l_s_SharedWords_21 : C := (.seq (.seq (.reg r_s_SharedWords_6 [6, 7, 8, 9, 30]) (.cond (.t 30) .skip (.exit 0))) (.seq (.block 1 (.seq (.reg r_s_SharedWords_7 [6, 7, 8, 9, 10]) (.seq (.seq (.reg r_s_SharedWords_8 [6, 7, 8, 9, 10, 11]) (.block 2 (.loop l_s_SharedWords_12))) (.seq (.seq (.reg r_s_SharedWords_13 [6, 7, 8, 9, 52]) (.cond (.t 52) (.exit 1) .skip)) (.seq (.reg r_s_SharedWords_14 [6, 7, 8, 9, 12]) (.seq (.block 4 (.loop l_s_SharedWords_17)) (.seq (.regD r_s_SharedWords_18 p_s_SharedWords_18 [6, 7, 8, 9, 12, 84]) (.cond (.t 84) (.regD r_s_SharedWords_19 p_s_SharedWords_19 [6, 7, 8, 9]) .skip)))))))) (.reg r_s_SharedWords_20 [6, 7, 8, 9])))
def r_s_SharedWords_22 : List CO := [⟨none, (some 100), (.mv (.t 6))⟩, ⟨none, (some 4), (.mv (.t 100))⟩, ⟨none, (some 5), (.mv (.k (.v (.bool true))))⟩]
/-- loop.example/g00884/spec.SharedWords -/
def c_s_SharedWords : C := (.seq (.reg r_s_SharedWords_0 [0, 1]) (.seq (.reg r_s_SharedWords_1 [0, 1, 6]) (.seq (.seq (.reg r_s_SharedWords_2 [0, 1, 6, 21]) (.cond (.t 21) (.seq (.reg r_s_SharedWords_3 [4, 5]) .ret) .skip)) (.seq (.reg r_s_SharedWords_4 [6, 7, 8]) (.seq (.seq (.reg r_s_SharedWords_5 [6, 7, 8, 9]) (.block 0 (.loop l_s_SharedWords_21))) (.seq (.reg r_s_SharedWords_22 [4, 5]) .ret))))))
def k_s_SharedWords : Nat → List Nat
  | 0 => [0, 1]
  | 1 => [0, 1, 6]
  | 2 => [0, 1, 6, 21]
  | 3 => [4, 5]
  | 4 => [6, 7, 8]
  | 5 => [6, 7, 8, 9]
  | 6 => [6, 7, 8, 9, 30]
  | 8 => [6, 7, 8, 9, 10]
  | 9 => [6, 7, 8, 9, 10, 11]
  | 10 => [6, 7, 8, 9, 10, 11, 36]
  | 12 => [6, 7, 8, 9, 10, 11]
  | 11 => [6, 7, 8, 9, 10, 11]
  | 13 => [6, 7, 8, 9, 52]
  | 14 => [6, 7, 8, 9, 12]
  | 15 => [6, 7, 8, 9, 12, 67]
  | 16 => [6, 7, 8, 9, 12]
  | 17 => [6, 7, 8, 9, 12, 84]
  | 18 => [6, 7, 8, 9]
  | 7 => [6, 7, 8, 9]
  | 19 => [4, 5]
  | _ => []
theorem fn_s_SharedWords : FnC Tryz.prog n_s_SharedWords c_s_SharedWords [(.tmp 4), (.tmp 5)] 101 :=
  ⟨Tryz.f21, _, k_s_SharedWords, Tryz.func21, rfl, by kernel_rfl, by kernel_rfl, by kernel_rfl, rfl⟩
def r_w_rTexts_0 : List CO := [⟨none, (some 4), (.mv (.k (.v (.bool false))))⟩]
def r_w_rTexts_1 : List CO := [⟨none, (some 6), (.mv (.t 0))⟩, ⟨none, (some 7), (.len false (.t 6))⟩, ⟨none, (some 8), (.mv (.t 1))⟩, ⟨none, (some 9), (.len false (.t 8))⟩, ⟨none, (some 10), (.bin .neq .none (.t 7) (.t 9))⟩]
def r_w_rTexts_2 : List CO := [⟨none, (some 4), (.mv (.k (.v (.bool false))))⟩]
def r_w_rTexts_3 : List CO := [⟨none, (some 5), (.mv (.k (.v (.int .i64 (0)))))⟩]
def r_w_rTexts_4 : List CO := [⟨none, (some 11), (.mv (.t 5))⟩, ⟨none, (some 12), (.mv (.t 0))⟩, ⟨none, (some 13), (.len false (.t 12))⟩, ⟨none, (some 14), (.bin .lss .none (.t 11) (.t 13))⟩]
def r_w_rTexts_5 : List CO := [⟨none, (some 17), (.mv (.t 0))⟩, ⟨none, (some 18), (.mv (.t 5))⟩, ⟨none, (some 19), (.iaddr 1 (.t 17) (.t 18))⟩, ⟨none, (some 20), (.ld false 1 (.t 19))⟩, ⟨none, (some 21), (.mv (.t 1))⟩, ⟨none, (some 22), (.mv (.t 5))⟩, ⟨none, (some 23), (.iaddr 1 (.t 21) (.t 22))⟩, ⟨none, (some 24), (.ld false 1 (.t 23))⟩, ⟨none, (some 25), (.bin .neq .none (.t 20) (.t 24))⟩]
def p_w_rTexts_5 : List (List Nat) := [[], [], [0, 1], [0, 1, 2], [], [], [4, 5], [4, 5, 6], [0, 1, 2, 3, 4, 5, 6, 7]]
def r_w_rTexts_6 : List CO := [⟨none, (some 4), (.mv (.k (.v (.bool false))))⟩]
def r_w_rTexts_7 : List CO := [⟨none, (some 15), (.mv (.t 5))⟩, ⟨none, (some 16), (.bin .add .none (.t 15) (.k (.v (.int .i64 (1)))))⟩, ⟨none, (some 5), (.mv (.t 16))⟩]
def l_w_rTexts_8 : C := (.seq (.seq (.reg r_w_rTexts_4 [0, 1, 5, 14]) (.cond (.t 14) .skip (.exit 0))) (.seq (.block 1 (.seq (.regD r_w_rTexts_5 p_w_rTexts_5 [0, 1, 5, 25]) (.cond (.t 25) (.seq (.reg r_w_rTexts_6 [4]) .ret) .skip))) (.reg r_w_rTexts_7 [0, 1, 5])))
def r_w_rTexts_9 : List CO := [⟨none, (some 4), (.mv (.k (.v (.bool true))))⟩]
/-- loop.example/g00884/laws.rTexts -/
def c_w_rTexts : C := (.seq (.reg r_w_rTexts_0 [0, 1]) (.seq (.seq (.reg r_w_rTexts_1 [0, 1, 10]) (.cond (.t 10) (.seq (.reg r_w_rTexts_2 [4]) .ret) .skip)) (.seq (.seq (.reg r_w_rTexts_3 [0, 1, 5]) (.block 0 (.loop l_w_rTexts_8))) (.seq (.reg r_w_rTexts_9 [4]) .ret))))
def k_w_rTexts : Nat → List Nat
  | 0 => [0, 1]
  | 1 => [0, 1, 10]
  | 2 => [4]
  | 3 => [0, 1, 5]
  | 4 => [0, 1, 5, 14]
  | 6 => [0, 1, 5, 25]
  | 7 => [4]
  | 5 => [0, 1, 5]
  | 8 => [4]
  | _ => []
theorem fn_w_rTexts : FnC Tryz.prog n_w_rTexts c_w_rTexts [(.tmp 4)] 26 :=
  ⟨Tryz.f22, _, k_w_rTexts, Tryz.func22, rfl, by kernel_rfl, by kernel_rfl, by kernel_rfl, rfl⟩
def r_s_l1Cur_motto_0 : List CO := [⟨none, (some 2), (.mv (.k (.v (.string (bs [])))))⟩]
def r_s_l1Cur_motto_1 : List CO := [⟨none, (some 6), (.bslice 1 (.v (.string (bs []))) 0 [])⟩, ⟨none, (some 3), (.mv (.t 6))⟩]
def r_s_l1Cur_motto_2 : List CO := [⟨none, (some 7), (.mv (.t 0))⟩, ⟨none, (some 8), (.call n_s_l1Cur_pick [(.t 7), (.k (.v (.int .i64 (8))))])⟩, ⟨none, (some 9), (.bin .add .none (.k (.v (.int .i64 (1)))) (.t 8))⟩, ⟨none, (some 4), (.mv (.t 9))⟩]
def r_s_l1Cur_motto_3 : List CO := [⟨none, (some 10), (.mv (.t 4))⟩, ⟨none, (some 11), (.bin .gtr .none (.t 10) (.k (.v (.int .i64 (0)))))⟩]
def r_s_l1Cur_motto_4 : List CO := [⟨none, (some 14), (.mv (.t 3))⟩, ⟨none, (some 15), (.mv (.t 0))⟩, ⟨none, (some 16), (.bslice 1 (.v (.string (bs []))) 9 [(0, (.k (.v (.string (bs [83, 69, 77, 80, 69, 82]))))), (1, (.k (.v (.string (bs [70, 73, 68, 69, 76, 73, 83]))))), (2, (.k (.v (.string (bs [69, 84]))))), (3, (.k (.v (.string (bs [73, 78]))))), (4, (.k (.v (.string (bs [86, 69, 82, 73, 84, 65, 83]))))), (5, (.k (.v (.string (bs [65]))))), (6, (.k (.v (.string (bs [80, 69, 82]))))), (7, (.k (.v (.string (bs [65, 82, 68, 85, 65]))))), (8, (.k (.v (.string (bs [76, 85, 88])))))])⟩, ⟨none, (some 17), (.call n_s_l1Cur_of [(.t 15), (.t 16)])⟩, ⟨none, (some 18), (.bslice 1 (.v (.string (bs []))) 1 [(0, (.t 17))])⟩, ⟨none, (some 19), (.app 1 16 (.t 14) (.t 18))⟩, ⟨none, (some 3), (.mv (.t 19))⟩]
def r_s_l1Cur_motto_5 : List CO := [⟨none, (some 12), (.mv (.t 4))⟩, ⟨none, (some 13), (.bin .sub .none (.t 12) (.k (.v (.int .i64 (1)))))⟩, ⟨none, (some 4), (.mv (.t 13))⟩]
def l_s_l1Cur_motto_6 : C := (.seq (.seq (.reg r_s_l1Cur_motto_3 [0, 3, 4, 11]) (.cond (.t 11) .skip (.exit 0))) (.seq (.block 1 (.reg r_s_l1Cur_motto_4 [0, 3, 4])) (.reg r_s_l1Cur_motto_5 [0, 3, 4])))
def r_s_l1Cur_motto_7 : List CO := [⟨none, (some 20), (.mv (.t 3))⟩, ⟨none, (some 21), (.mv (.t 3))⟩, ⟨none, (some 22), (.len false (.t 21))⟩, ⟨none, (some 23), (.call n_s_l23Line [(.t 20), (.k (.v (.int .i64 (0)))), (.t 22)])⟩, ⟨none, (some 5), (.mv (.t 23))⟩]
def r_s_l1Cur_motto_8 : List CO := [⟨none, (some 24), (.mv (.t 0))⟩, ⟨none, (some 25), (.call n_s_l1Cur_pick [(.t 24), (.k (.v (.int .i64 (30))))])⟩]
def r_s_l1Cur_motto_9 : List CO := [⟨none, (some 27), (.bin .eql .none (.t 25) (.k (.v (.int .i64 (0)))))⟩, ⟨none, (some 26), (.mv (.t 27))⟩]
def r_s_l1Cur_motto_10 : List CO := [⟨none, (some 28), (.mv (.t 0))⟩, ⟨none, (some 29), (.mv (.t 5))⟩, ⟨none, (some 30), (.call n_s_l1Cur_spoilt [(.t 28), (.t 29), (.k (.v (.string (bs [32, 65, 97]))))])⟩, ⟨none, (some 5), (.mv (.t 30))⟩]
def r_s_l1Cur_motto_11 : List CO := [⟨none, (some 32), (.bin .eql .none (.t 25) (.k (.v (.int .i64 (1)))))⟩, ⟨none, (some 31), (.mv (.t 32))⟩]
def r_s_l1Cur_motto_12 : List CO := [⟨none, (some 5), (.mv (.k (.v (.string (bs [])))))⟩]
def r_s_l1Cur_motto_13 : List CO := [⟨none, (some 34), (.bin .eql .none (.t 25) (.k (.v (.int .i64 (2)))))⟩, ⟨none, (some 33), (.mv (.t 34))⟩]
def r_s_l1Cur_motto_14 : List CO := [⟨none, (some 35), (.mv (.t 5))⟩, ⟨none, (some 36), (.len true (.t 35))⟩, ⟨none, (some 37), (.mv (.t 0))⟩, ⟨none, (some 38), (.call n_s_l1Cur_pick [(.t 37), (.k (.v (.int .i64 (2))))])⟩, ⟨none, (some 39), (.bin .add .none (.k (.v (.int .i64 (60)))) (.t 38))⟩, ⟨none, (some 40), (.bin .lss .none (.t 36) (.t 39))⟩]
def r_s_l1Cur_motto_15 : List CO := [⟨none, (some 41), (.mv (.t 5))⟩, ⟨none, (some 42), (.bin .add .none (.t 41) (.k (.v (.string (bs [88])))))⟩, ⟨none, (some 5), (.mv (.t 42))⟩]
def l_s_l1Cur_motto_16 : C := (.seq (.seq (.reg r_s_l1Cur_motto_14 [0, 5, 40]) (.cond (.t 40) .skip (.exit 3))) (.block 4 (.reg r_s_l1Cur_motto_15 [0, 5])))
def r_s_l1Cur_motto_17 : List CO := [⟨none, (some 43), (.mv (.t 5))⟩, ⟨none, (some 2), (.mv (.t 43))⟩]
/-- (*loop.example/g00884/spec.l1Cur).motto -/
def c_s_l1Cur_motto : C := (.seq (.reg r_s_l1Cur_motto_0 [0]) (.seq (.reg r_s_l1Cur_motto_1 [0, 3]) (.seq (.seq (.reg r_s_l1Cur_motto_2 [0, 3, 4]) (.block 0 (.loop l_s_l1Cur_motto_6))) (.seq (.reg r_s_l1Cur_motto_7 [0, 5]) (.seq (.seq (.reg r_s_l1Cur_motto_8 [0, 5, 25]) (.block 2 (.seq (.reg r_s_l1Cur_motto_9 [0, 5, 25, 26]) (.cond (.t 26) (.reg r_s_l1Cur_motto_10 [5]) (.seq (.reg r_s_l1Cur_motto_11 [0, 5, 25, 31]) (.cond (.t 31) (.reg r_s_l1Cur_motto_12 [5]) (.seq (.reg r_s_l1Cur_motto_13 [0, 5, 33]) (.cond (.t 33) (.block 3 (.loop l_s_l1Cur_motto_16)) .skip)))))))) (.seq (.reg r_s_l1Cur_motto_17 [2]) .ret))))))
def k_s_l1Cur_motto : Nat → List Nat
  | 0 => [0]
  | 1 => [0, 3]
  | 2 => [0, 3, 4]
  | 3 => [0, 3, 4, 11]
  | 5 => [0, 3, 4]
  | 4 => [0, 3, 4]
  | 6 => [0, 5]
  | 7 => [0, 5, 25]
  | 8 => [0, 5, 25, 26]
  | 9 => [5]
  | 10 => [0, 5, 25, 31]
  | 11 => [5]
  | 12 => [0, 5, 33]
  | 13 => [0, 5, 40]
  | 14 => [0, 5]
  | 15 => [2]
  | _ => []
theorem fn_s_l1Cur_motto : FnC Tryz.prog n_s_l1Cur_motto c_s_l1Cur_motto [(.tmp 2)] 44 :=
  ⟨Tryz.f23, _, k_s_l1Cur_motto, Tryz.func23, rfl, by kernel_rfl, by kernel_rfl, by kernel_rfl, rfl⟩
def r_s_l1Cur_among_0 : List CO := [⟨none, (some 4), (.mv (.k (.v (.int .i64 (0)))))⟩]
def r_s_l1Cur_among_1 : List CO := [⟨none, (some 5), (.mv (.t 1))⟩, ⟨none, (some 6), (.mv (.t 0))⟩, ⟨none, (some 7), (.mv (.t 1))⟩, ⟨none, (some 8), (.len false (.t 7))⟩, ⟨none, (some 9), (.call n_s_l1Cur_pick [(.t 6), (.t 8)])⟩, ⟨none, (some 10), (.iaddr 1 (.t 5) (.t 9))⟩, ⟨none, (some 11), (.ld false 1 (.t 10))⟩, ⟨none, (some 4), (.mv (.t 11))⟩]
/-- (*loop.example/g00884/spec.l1Cur).among -/
def c_s_l1Cur_among : C := (.seq (.reg r_s_l1Cur_among_0 [0, 1]) (.seq (.reg r_s_l1Cur_among_1 [4]) .ret))
def k_s_l1Cur_among : Nat → List Nat
  | 0 => [0, 1]
  | 1 => [4]
  | _ => []
theorem fn_s_l1Cur_among : FnC Tryz.prog n_s_l1Cur_among c_s_l1Cur_among [(.tmp 4)] 12 :=
  ⟨Tryz.f24, _, k_s_l1Cur_among, Tryz.func24, rfl, by kernel_rfl, by kernel_rfl, by kernel_rfl, rfl⟩
def r_s_l1Cur_pick_0 : List CO := [⟨none, (some 4), (.mv (.k (.v (.int .i64 (0)))))⟩]
def r_s_l1Cur_pick_1 : List CO := [⟨none, (some 6), (.mv (.t 1))⟩, ⟨none, (some 7), (.bin .leq .none (.t 6) (.k (.v (.int .i64 (1)))))⟩]
def r_s_l1Cur_pick_2 : List CO := [⟨none, (some 4), (.mv (.k (.v (.int .i64 (0)))))⟩]
def r_s_l1Cur_pick_3 : List CO := [⟨none, (some 8), (.mv (.t 0))⟩, ⟨none, (some 9), (.call n_s_l1Cur_next [(.t 8)])⟩, ⟨none, (some 5), (.mv (.t 9))⟩]
def r_s_l1Cur_pick_4 : List CO := [⟨none, (some 10), (.mv (.t 1))⟩, ⟨none, (some 11), (.bin .gtr .none (.t 10) (.k (.v (.int .i64 (200)))))⟩]
def r_s_l1Cur_pick_5 : List CO := [⟨none, (some 12), (.mv (.t 5))⟩, ⟨none, (some 13), (.bin .mul .none (.t 12) (.k (.v (.int .i64 (256)))))⟩, ⟨none, (some 14), (.mv (.t 0))⟩, ⟨none, (some 15), (.call n_s_l1Cur_next [(.t 14)])⟩, ⟨none, (some 16), (.bin .add .none (.t 13) (.t 15))⟩, ⟨none, (some 5), (.mv (.t 16))⟩]
def r_s_l1Cur_pick_6 : List CO := [⟨none, (some 17), (.mv (.t 5))⟩, ⟨none, (some 18), (.mv (.t 1))⟩, ⟨none, (some 19), (.bin .rem .none (.t 17) (.t 18))⟩, ⟨none, (some 4), (.mv (.t 19))⟩]
/-- (*loop.example/g00884/spec.l1Cur).pick -/
def c_s_l1Cur_pick : C := (.seq (.reg r_s_l1Cur_pick_0 [0, 1]) (.seq (.seq (.reg r_s_l1Cur_pick_1 [0, 1, 7]) (.cond (.t 7) (.seq (.reg r_s_l1Cur_pick_2 [4]) .ret) .skip)) (.seq (.reg r_s_l1Cur_pick_3 [0, 1, 5]) (.seq (.seq (.reg r_s_l1Cur_pick_4 [0, 1, 5, 11]) (.cond (.t 11) (.reg r_s_l1Cur_pick_5 [1, 5]) .skip)) (.seq (.reg r_s_l1Cur_pick_6 [4]) .ret)))))
def k_s_l1Cur_pick : Nat → List Nat
  | 0 => [0, 1]
  | 1 => [0, 1, 7]
  | 2 => [4]
  | 3 => [0, 1, 5]
  | 4 => [0, 1, 5, 11]
  | 5 => [1, 5]
  | 6 => [4]
  | _ => []
theorem fn_s_l1Cur_pick : FnC Tryz.prog n_s_l1Cur_pick c_s_l1Cur_pick [(.tmp 4)] 20 :=
  ⟨Tryz.f25, _, k_s_l1Cur_pick, Tryz.func25, rfl, by kernel_rfl, by kernel_rfl, by kernel_rfl, rfl⟩
def r_i_inside_0 : List CO := [⟨none, (some 6), (.mv (.k (.v (.bool false))))⟩]
def r_i_inside_1 : List CO := [⟨none, (some 7), (.mv (.t 0))⟩, ⟨none, (some 8), (.mv (.t 1))⟩, ⟨none, (some 9), (.bin .geq .none (.t 7) (.t 8))⟩, ⟨none, (some 10), (.mv (.t 9))⟩, ⟨(some (10, true)), (some 11), (.mv (.t 0))⟩, ⟨(some (10, true)), (some 12), (.mv (.t 2))⟩, ⟨(some (10, true)), (some 13), (.bin .leq .none (.t 11) (.t 12))⟩, ⟨none, (some 14), (.pick (.t 10) (.t 13) (.k (.v (.bool false))))⟩, ⟨none, (some 6), (.mv (.t 14))⟩]
/-- loop.example/g00884/impl.inside -/
def c_i_inside : C := (.seq (.reg r_i_inside_0 [0, 1, 2]) (.seq (.reg r_i_inside_1 [6]) .ret))
def k_i_inside : Nat → List Nat
  | 0 => [0, 1, 2]
  | 1 => [6]
  | _ => []
theorem fn_i_inside : FnC Tryz.prog n_i_inside c_i_inside [(.tmp 6)] 15 :=
  ⟨Tryz.f26, _, k_i_inside, Tryz.func26, rfl, by kernel_rfl, by kernel_rfl, by kernel_rfl, rfl⟩
def r_i_longest_0 : List CO := [⟨none, (some 2), (.mv (.k (.v (.int .i64 (0)))))⟩]
def r_i_longest_1 : List CO := [⟨none, (some 3), (.mv (.k (.v (.int .i64 (0)))))⟩]
def r_i_longest_2 : List CO := [⟨none, (some 6), (.mv (.t 0))⟩, ⟨none, (some 7), (.call n_strings_Split [(.t 6), (.k (.v (.string (bs [32]))))])⟩, ⟨none, (some 8), (.len false (.t 7))⟩, ⟨none, (some 9), (.mv (.k (.v (.int .i64 (0)))))⟩]
def r_i_longest_3 : List CO := [⟨none, (some 10), (.bin .lss .none (.t 9) (.t 8))⟩]
def r_i_longest_4 : List CO := [⟨none, (some 11), (.iaddr 1 (.t 7) (.t 9))⟩, ⟨none, (some 12), (.ld false 1 (.t 11))⟩, ⟨none, (some 5), (.mv (.t 12))⟩]
def r_i_longest_5 : List CO := [⟨none, (some 13), (.mv (.t 3))⟩, ⟨none, (some 14), (.mv (.t 5))⟩, ⟨none, (some 15), (.len true (.t 14))⟩, ⟨none, (some 16), (.mm true [(.t 13), (.t 15)])⟩, ⟨none, (some 3), (.mv (.t 16))⟩]
def r_i_longest_6 : List CO := [⟨none, (some 17), (.bin .add .none (.t 9) (.k (.v (.int .i64 (1)))))⟩, ⟨none, (some 9), (.mv (.t 17))⟩]
def l_i_longest_7 : C := (.seq (.reg r_i_longest_3 [3, 7, 8, 9, 10]) (.seq (.cond (.t 10) .skip (.exit 0)) (.seq (.block 1 (.seq (.reg r_i_longest_4 [3, 5, 7, 8, 9]) (.reg r_i_longest_5 [3, 7, 8, 9]))) (.reg r_i_longest_6 [3, 7, 8, 9]))))
def r_i_longest_8 : List CO := [⟨none, (some 18), (.mv (.t 3))⟩, ⟨none, (some 2), (.mv (.t 18))⟩]
/-- loop.example/g00884/impl.longest -/
def c_i_longest : C := (.seq (.reg r_i_longest_0 [0]) (.seq (.reg r_i_longest_1 [0, 3]) (.seq (.seq (.reg r_i_longest_2 [3, 7, 8, 9]) (.block 0 (.loop l_i_longest_7))) (.seq (.reg r_i_longest_8 [2]) .ret))))
def k_i_longest : Nat → List Nat
  | 0 => [0]
  | 1 => [0, 3]
  | 2 => [3, 7, 8, 9]
  | 3 => [3, 7, 8, 9, 10]
  | 4 => [3, 5, 7, 8, 9]
  | 5 => [3, 7, 8, 9]
  | 6 => [3, 7, 8, 9]
  | 7 => [2]
  | _ => []
theorem fn_i_longest : FnC Tryz.prog n_i_longest c_i_longest [(.tmp 2)] 19 :=
  ⟨Tryz.f27, _, k_i_longest, Tryz.func27, rfl, by kernel_rfl, by kernel_rfl, by kernel_rfl, rfl⟩
def r_i_wrapped_0 : List CO := [⟨none, (some 4), (.mv (.k (.v (.slice none 0 0))))⟩]
def r_i_wrapped_1 : List CO := [⟨none, (some 9), (.bslice 1 (.v (.string (bs []))) 0 [])⟩, ⟨none, (some 5), (.mv (.t 9))⟩]
def r_i_wrapped_2 : List CO := [⟨none, (some 10), (.mv (.t 0))⟩, ⟨none, (some 11), (.call n_strings_Split [(.t 10), (.k (.v (.string (bs [32]))))])⟩, ⟨none, (some 12), (.len false (.t 11))⟩, ⟨none, (some 13), (.mv (.k (.v (.int .i64 (0)))))⟩]
def r_i_wrapped_3 : List CO := [⟨none, (some 14), (.bin .lss .none (.t 13) (.t 12))⟩]
def r_i_wrapped_4 : List CO := [⟨none, (some 15), (.iaddr 1 (.t 11) (.t 13))⟩, ⟨none, (some 16), (.ld false 1 (.t 15))⟩, ⟨none, (some 7), (.mv (.t 16))⟩]
def r_i_wrapped_5 : List CO := [⟨none, (some 17), (.mv (.t 5))⟩, ⟨none, (some 18), (.len false (.t 17))⟩, ⟨none, (some 8), (.mv (.t 18))⟩]
def r_i_wrapped_6 : List CO := [⟨none, (some 19), (.mv (.t 8))⟩, ⟨none, (some 20), (.bin .gtr .none (.t 19) (.k (.v (.int .i64 (0)))))⟩, ⟨none, (some 21), (.mv (.t 20))⟩, ⟨(some (21, true)), (some 22), (.mv (.t 5))⟩, ⟨(some (21, true)), (some 23), (.mv (.t 8))⟩, ⟨(some (21, true)), (some 24), (.bin .sub .none (.t 23) (.k (.v (.int .i64 (1)))))⟩, ⟨(some (21, true)), (some 25), (.iaddr 1 (.t 22) (.t 24))⟩, ⟨(some (21, true)), (some 26), (.ld false 1 (.t 25))⟩, ⟨(some (21, true)), (some 27), (.len true (.t 26))⟩, ⟨(some (21, true)), (some 28), (.bin .add .none (.t 27) (.k (.v (.int .i64 (1)))))⟩, ⟨(some (21, true)), (some 29), (.mv (.t 7))⟩, ⟨(some (21, true)), (some 30), (.len true (.t 29))⟩, ⟨(some (21, true)), (some 31), (.bin .add .none (.t 28) (.t 30))⟩, ⟨(some (21, true)), (some 32), (.mv (.t 1))⟩, ⟨(some (21, true)), (some 33), (.bin .leq .none (.t 31) (.t 32))⟩, ⟨none, (some 34), (.pick (.t 21) (.t 33) (.k (.v (.bool false))))⟩]
def r_i_wrapped_7 : List CO := [⟨none, (some 35), (.mv (.t 5))⟩, ⟨none, (some 36), (.mv (.t 8))⟩, ⟨none, (some 37), (.bin .sub .none (.t 36) (.k (.v (.int .i64 (1)))))⟩, ⟨none, (some 38), (.iaddr 1 (.t 35) (.t 37))⟩, ⟨none, (some 39), (.ld false 1 (.t 38))⟩, ⟨none, (some 40), (.mv (.t 7))⟩, ⟨none, (some 41), (.bin .add .none (.k (.v (.string (bs [32])))) (.t 40))⟩, ⟨none, (some 42), (.bin .add .none (.t 39) (.t 41))⟩, ⟨none, (some 43), (.iaddr 1 (.t 35) (.t 37))⟩, ⟨none, none, (.st 1 (.t 43) (.t 42))⟩]
def r_i_wrapped_8 : List CO := [⟨none, (some 44), (.mv (.t 5))⟩, ⟨none, (some 45), (.mv (.t 7))⟩, ⟨none, (some 46), (.bslice 1 (.v (.string (bs []))) 1 [(0, (.t 45))])⟩, ⟨none, (some 47), (.app 1 16 (.t 44) (.t 46))⟩, ⟨none, (some 5), (.mv (.t 47))⟩]
def r_i_wrapped_9 : List CO := [⟨none, (some 48), (.bin .add .none (.t 13) (.k (.v (.int .i64 (1)))))⟩, ⟨none, (some 13), (.mv (.t 48))⟩]
def l_i_wrapped_10 : C := (.seq (.reg r_i_wrapped_3 [1, 5, 11, 12, 13, 14]) (.seq (.cond (.t 14) .skip (.exit 0)) (.seq (.block 1 (.seq (.reg r_i_wrapped_4 [1, 5, 7, 11, 12, 13]) (.seq (.reg r_i_wrapped_5 [1, 5, 7, 8, 11, 12, 13]) (.seq (.reg r_i_wrapped_6 [1, 5, 7, 8, 11, 12, 13, 34]) (.cond (.t 34) (.reg r_i_wrapped_7 [1, 5, 11, 12, 13]) (.reg r_i_wrapped_8 [1, 5, 11, 12, 13])))))) (.reg r_i_wrapped_9 [1, 5, 11, 12, 13]))))
def r_i_wrapped_11 : List CO := [⟨none, (some 49), (.mv (.t 5))⟩, ⟨none, (some 4), (.mv (.t 49))⟩]
/-- loop.example/g00884/impl.wrapped -/
def c_i_wrapped : C := (.seq (.reg r_i_wrapped_0 [0, 1]) (.seq (.reg r_i_wrapped_1 [0, 1, 5]) (.seq (.seq (.reg r_i_wrapped_2 [1, 5, 11, 12, 13]) (.block 0 (.loop l_i_wrapped_10))) (.seq (.reg r_i_wrapped_11 [4]) .ret))))
def k_i_wrapped : Nat → List Nat
  | 0 => [0, 1]
  | 1 => [0, 1, 5]
  | 2 => [1, 5, 11, 12, 13]
  | 3 => [1, 5, 11, 12, 13, 14]
  | 4 => [1, 5, 7, 11, 12, 13]
  | 5 => [1, 5, 7, 8, 11, 12, 13]
  | 6 => [1, 5, 7, 8, 11, 12, 13, 34]
  | 7 => [1, 5, 11, 12, 13]
  | 8 => [1, 5, 11, 12, 13]
  | 9 => [1, 5, 11, 12, 13]
  | 10 => [4]
  | _ => []
theorem fn_i_wrapped : FnC Tryz.prog n_i_wrapped c_i_wrapped [(.tmp 4)] 50 :=
  ⟨Tryz.f28, _, k_i_wrapped, Tryz.func28, rfl, by kernel_rfl, by kernel_rfl, by kernel_rfl, rfl⟩
def r_s_l23Good_0 : List CO := [⟨none, (some 2), (.mv (.k (.v (.bool false))))⟩]
def r_s_l23Good_1 : List CO := [⟨none, (some 4), (.mv (.t 0))⟩, ⟨none, (some 5), (.len true (.t 4))⟩, ⟨none, (some 6), (.call n_s_l1In [(.t 5), (.k (.v (.int .i64 (1)))), (.k (.v (.int .i64 (60))))])⟩, ⟨none, (some 7), (.un .not (.t 6))⟩, ⟨none, (some 8), (.mv (.t 7))⟩, ⟨(some (8, false)), (some 9), (.mv (.t 0))⟩, ⟨(some (8, false)), (some 10), (.idx (.t 9) (.k (.v (.int .i64 (0)))))⟩, ⟨(some (8, false)), (some 11), (.bin .eql .none (.t 10) (.k (.v (.int .u8 (32)))))⟩, ⟨none, (some 12), (.pick (.t 8) (.k (.v (.bool true))) (.t 11))⟩, ⟨none, (some 13), (.mv (.t 12))⟩, ⟨(some (13, false)), (some 14), (.mv (.t 0))⟩, ⟨(some (13, false)), (some 15), (.mv (.t 0))⟩, ⟨(some (13, false)), (some 16), (.len true (.t 15))⟩, ⟨(some (13, false)), (some 17), (.bin .sub .none (.t 16) (.k (.v (.int .i64 (1)))))⟩, ⟨(some (13, false)), (some 18), (.idx (.t 14) (.t 17))⟩, ⟨(some (13, false)), (some 19), (.bin .eql .none (.t 18) (.k (.v (.int .u8 (32)))))⟩, ⟨none, (some 20), (.pick (.t 13) (.k (.v (.bool true))) (.t 19))⟩]
def r_s_l23Good_2 : List CO := [⟨none, (some 2), (.mv (.k (.v (.bool false))))⟩]
def r_s_l23Good_3 : List CO := [⟨none, (some 3), (.mv (.k (.v (.int .i64 (0)))))⟩]
def r_s_l23Good_4 : List CO := [⟨none, (some 21), (.mv (.t 3))⟩, ⟨none, (some 22), (.mv (.t 0))⟩, ⟨none, (some 23), (.len true (.t 22))⟩, ⟨none, (some 24), (.bin .lss .none (.t 21) (.t 23))⟩]
def r_s_l23Good_5 : List CO := [⟨none, (some 27), (.mv (.t 0))⟩, ⟨none, (some 28), (.mv (.t 3))⟩, ⟨none, (some 29), (.idx (.t 27) (.t 28))⟩, ⟨none, (some 30), (.bin .eql .none (.t 29) (.k (.v (.int .u8 (32)))))⟩]
def r_s_l23Good_6 : List CO := [⟨none, (some 31), (.mv (.t 0))⟩, ⟨none, (some 32), (.mv (.t 3))⟩, ⟨none, (some 33), (.bin .sub .none (.t 32) (.k (.v (.int .i64 (1)))))⟩, ⟨none, (some 34), (.idx (.t 31) (.t 33))⟩, ⟨none, (some 35), (.bin .eql .none (.t 34) (.k (.v (.int .u8 (32)))))⟩]
def r_s_l23Good_7 : List CO := [⟨none, (some 2), (.mv (.k (.v (.bool false))))⟩]
def r_s_l23Good_8 : List CO := [⟨none, (some 36), (.mv (.t 0))⟩, ⟨none, (some 37), (.mv (.t 3))⟩, ⟨none, (some 38), (.idx (.t 36) (.t 37))⟩, ⟨none, (some 39), (.bin .lss .none (.t 38) (.k (.v (.int .u8 (65)))))⟩, ⟨none, (some 40), (.mv (.t 39))⟩, ⟨(some (40, false)), (some 41), (.mv (.t 0))⟩, ⟨(some (40, false)), (some 42), (.mv (.t 3))⟩, ⟨(some (40, false)), (some 43), (.idx (.t 41) (.t 42))⟩, ⟨(some (40, false)), (some 44), (.bin .gtr .none (.t 43) (.k (.v (.int .u8 (90)))))⟩, ⟨none, (some 45), (.pick (.t 40) (.k (.v (.bool true))) (.t 44))⟩]
def r_s_l23Good_9 : List CO := [⟨none, (some 2), (.mv (.k (.v (.bool false))))⟩]
def r_s_l23Good_10 : List CO := [⟨none, (some 25), (.mv (.t 3))⟩, ⟨none, (some 26), (.bin .add .none (.t 25) (.k (.v (.int .i64 (1)))))⟩, ⟨none, (some 3), (.mv (.t 26))⟩]
def l_s_l23Good_11 : C := (.seq (.seq (.reg r_s_l23Good_4 [0, 3, 24]) (.cond (.t 24) .skip (.exit 0))) (.seq (.block 1 (.seq (.reg r_s_l23Good_5 [0, 3, 30]) (.cond (.t 30) (.seq (.reg r_s_l23Good_6 [0, 3, 35]) (.cond (.t 35) (.seq (.reg r_s_l23Good_7 [2]) .ret) .skip)) (.seq (.reg r_s_l23Good_8 [0, 3, 45]) (.cond (.t 45) (.seq (.reg r_s_l23Good_9 [2]) .ret) .skip))))) (.reg r_s_l23Good_10 [0, 3])))
def r_s_l23Good_12 : List CO := [⟨none, (some 2), (.mv (.k (.v (.bool true))))⟩]
/-- loop.example/g00884/spec.l23Good -/
def c_s_l23Good : C := (.seq (.reg r_s_l23Good_0 [0]) (.seq (.seq (.reg r_s_l23Good_1 [0, 20]) (.cond (.t 20) (.seq (.reg r_s_l23Good_2 [2]) .ret) .skip)) (.seq (.seq (.reg r_s_l23Good_3 [0, 3]) (.block 0 (.loop l_s_l23Good_11))) (.seq (.reg r_s_l23Good_12 [2]) .ret))))
def k_s_l23Good : Nat → List Nat
  | 0 => [0]
  | 1 => [0, 20]
  | 2 => [2]
  | 3 => [0, 3]
  | 4 => [0, 3, 24]
  | 6 => [0, 3, 30]
  | 7 => [0, 3, 35]
  | 8 => [2]
  | 9 => [0, 3, 45]
  | 10 => [2]
  | 5 => [0, 3]
  | 11 => [2]
  | _ => []
theorem fn_s_l23Good : FnC Tryz.prog n_s_l23Good c_s_l23Good [(.tmp 2)] 46 :=
  ⟨Tryz.f29, _, k_s_l23Good, Tryz.func29, rfl, by kernel_rfl, by kernel_rfl, by kernel_rfl, rfl⟩
def r_s_l1In_0 : List CO := [⟨none, (some 6), (.mv (.k (.v (.bool false))))⟩]
def r_s_l1In_1 : List CO := [⟨none, (some 7), (.mv (.t 0))⟩, ⟨none, (some 8), (.mv (.t 1))⟩, ⟨none, (some 9), (.bin .geq .none (.t 7) (.t 8))⟩, ⟨none, (some 10), (.mv (.t 9))⟩, ⟨(some (10, true)), (some 11), (.mv (.t 0))⟩, ⟨(some (10, true)), (some 12), (.mv (.t 2))⟩, ⟨(some (10, true)), (some 13), (.bin .leq .none (.t 11) (.t 12))⟩, ⟨none, (some 14), (.pick (.t 10) (.t 13) (.k (.v (.bool false))))⟩, ⟨none, (some 6), (.mv (.t 14))⟩]
/-- loop.example/g00884/spec.l1In -/
def c_s_l1In : C := (.seq (.reg r_s_l1In_0 [0, 1, 2]) (.seq (.reg r_s_l1In_1 [6]) .ret))
def k_s_l1In : Nat → List Nat
  | 0 => [0, 1, 2]
  | 1 => [6]
  | _ => []
theorem fn_s_l1In : FnC Tryz.prog n_s_l1In c_s_l1In [(.tmp 6)] 15 :=
  ⟨Tryz.f30, _, k_s_l1In, Tryz.func30, rfl, by kernel_rfl, by kernel_rfl, by kernel_rfl, rfl⟩
def r_s_l23Fits_0 : List CO := [⟨none, (some 4), (.mv (.k (.v (.bool false))))⟩]
def r_s_l23Fits_1 : List CO := [⟨none, (some 7), (.mv (.t 0))⟩, ⟨none, (some 8), (.call n_s_l23Good [(.t 7)])⟩, ⟨none, (some 9), (.un .not (.t 8))⟩, ⟨none, (some 10), (.mv (.t 9))⟩, ⟨(some (10, false)), (some 11), (.mv (.t 1))⟩, ⟨(some (10, false)), (some 12), (.call n_s_l1In [(.t 11), (.k (.v (.int .i64 (1)))), (.k (.v (.int .i64 (40))))])⟩, ⟨(some (10, false)), (some 13), (.un .not (.t 12))⟩, ⟨none, (some 14), (.pick (.t 10) (.k (.v (.bool true))) (.t 13))⟩]
def r_s_l23Fits_2 : List CO := [⟨none, (some 4), (.mv (.k (.v (.bool false))))⟩]
def r_s_l23Fits_3 : List CO := [⟨none, (some 15), (.mv (.t 0))⟩, ⟨none, (some 16), (.call n_s_l1Split [(.t 15), (.k (.v (.int .u8 (32))))])⟩, ⟨none, (some 5), (.mv (.t 16))⟩]
def r_s_l23Fits_4 : List CO := [⟨none, (some 6), (.mv (.k (.v (.int .i64 (0)))))⟩]
def r_s_l23Fits_5 : List CO := [⟨none, (some 17), (.mv (.t 6))⟩, ⟨none, (some 18), (.mv (.t 5))⟩, ⟨none, (some 19), (.len false (.t 18))⟩, ⟨none, (some 20), (.bin .lss .none (.t 17) (.t 19))⟩]
def r_s_l23Fits_6 : List CO := [⟨none, (some 23), (.mv (.t 5))⟩, ⟨none, (some 24), (.mv (.t 6))⟩, ⟨none, (some 25), (.iaddr 1 (.t 23) (.t 24))⟩, ⟨none, (some 26), (.ld false 1 (.t 25))⟩, ⟨none, (some 27), (.len true (.t 26))⟩, ⟨none, (some 28), (.mv (.t 1))⟩, ⟨none, (some 29), (.bin .gtr .none (.t 27) (.t 28))⟩]
def r_s_l23Fits_7 : List CO := [⟨none, (some 4), (.mv (.k (.v (.bool false))))⟩]
def r_s_l23Fits_8 : List CO := [⟨none, (some 21), (.mv (.t 6))⟩, ⟨none, (some 22), (.bin .add .none (.t 21) (.k (.v (.int .i64 (1)))))⟩, ⟨none, (some 6), (.mv (.t 22))⟩]
def l_s_l23Fits_9 : C := (.seq (.seq (.reg r_s_l23Fits_5 [1, 5, 6, 20]) (.cond (.t 20) .skip (.exit 0))) (.seq (.block 1 (.seq (.reg r_s_l23Fits_6 [1, 5, 6, 29]) (.cond (.t 29) (.seq (.reg r_s_l23Fits_7 [4]) .ret) .skip))) (.reg r_s_l23Fits_8 [1, 5, 6])))
def r_s_l23Fits_10 : List CO := [⟨none, (some 4), (.mv (.k (.v (.bool true))))⟩]
/-- loop.example/g00884/spec.l23Fits -/
def c_s_l23Fits : C := (.seq (.reg r_s_l23Fits_0 [0, 1]) (.seq (.seq (.reg r_s_l23Fits_1 [0, 1, 14]) (.cond (.t 14) (.seq (.reg r_s_l23Fits_2 [4]) .ret) .skip)) (.seq (.reg r_s_l23Fits_3 [1, 5]) (.seq (.seq (.reg r_s_l23Fits_4 [1, 5, 6]) (.block 0 (.loop l_s_l23Fits_9))) (.seq (.reg r_s_l23Fits_10 [4]) .ret)))))
def k_s_l23Fits : Nat → List Nat
  | 0 => [0, 1]
  | 1 => [0, 1, 14]
  | 2 => [4]
  | 3 => [1, 5]
  | 4 => [1, 5, 6]
  | 5 => [1, 5, 6, 20]
  | 7 => [1, 5, 6, 29]
  | 8 => [4]
  | 6 => [1, 5, 6]
  | 9 => [4]
  | _ => []
theorem fn_s_l23Fits : FnC Tryz.prog n_s_l23Fits c_s_l23Fits [(.tmp 4)] 30 :=
  ⟨Tryz.f31, _, k_s_l23Fits, Tryz.func31, rfl, by kernel_rfl, by kernel_rfl, by kernel_rfl, rfl⟩
def r_s_l23Fill_0 : List CO := [⟨none, (some 4), (.mv (.k (.v (.slice none 0 0))))⟩]
def r_s_l23Fill_1 : List CO := [⟨none, (some 9), (.mv (.t 0))⟩, ⟨none, (some 10), (.call n_s_l1Split [(.t 9), (.k (.v (.int .u8 (32))))])⟩, ⟨none, (some 5), (.mv (.t 10))⟩]
def r_s_l23Fill_2 : List CO := [⟨none, (some 11), (.bslice 1 (.v (.string (bs []))) 0 [])⟩, ⟨none, (some 6), (.mv (.t 11))⟩]
def r_s_l23Fill_3 : List CO := [⟨none, (some 7), (.mv (.k (.v (.int .i64 (0)))))⟩]
def r_s_l23Fill_4 : List CO := [⟨none, (some 12), (.mv (.t 7))⟩, ⟨none, (some 13), (.mv (.t 5))⟩, ⟨none, (some 14), (.len false (.t 13))⟩, ⟨none, (some 15), (.bin .lss .none (.t 12) (.t 14))⟩]
def r_s_l23Fill_5 : List CO := [⟨none, (some 16), (.mv (.t 7))⟩, ⟨none, (some 17), (.bin .add .none (.t 16) (.k (.v (.int .i64 (1)))))⟩, ⟨none, (some 8), (.mv (.t 17))⟩]
def r_s_l23Fill_6 : List CO := [⟨none, (some 18), (.mv (.t 8))⟩, ⟨none, (some 19), (.mv (.t 5))⟩, ⟨none, (some 20), (.len false (.t 19))⟩, ⟨none, (some 21), (.bin .lss .none (.t 18) (.t 20))⟩, ⟨none, (some 22), (.mv (.t 21))⟩, ⟨(some (22, true)), (some 23), (.mv (.t 5))⟩, ⟨(some (22, true)), (some 24), (.mv (.t 7))⟩, ⟨(some (22, true)), (some 25), (.mv (.t 8))⟩, ⟨(some (22, true)), (some 26), (.bin .add .none (.t 25) (.k (.v (.int .i64 (1)))))⟩, ⟨(some (22, true)), (some 27), (.call n_s_l23Line [(.t 23), (.t 24), (.t 26)])⟩, ⟨(some (22, true)), (some 28), (.len true (.t 27))⟩, ⟨(some (22, true)), (some 29), (.mv (.t 1))⟩, ⟨(some (22, true)), (some 30), (.bin .leq .none (.t 28) (.t 29))⟩, ⟨none, (some 31), (.pick (.t 22) (.t 30) (.k (.v (.bool false))))⟩]
def r_s_l23Fill_7 : List CO := [⟨none, (some 32), (.mv (.t 8))⟩, ⟨none, (some 33), (.bin .add .none (.t 32) (.k (.v (.int .i64 (1)))))⟩, ⟨none, (some 8), (.mv (.t 33))⟩]
def l_s_l23Fill_8 : C := (.seq (.seq (.reg r_s_l23Fill_6 [1, 5, 6, 7, 8, 31]) (.cond (.t 31) .skip (.exit 2))) (.block 3 (.reg r_s_l23Fill_7 [1, 5, 6, 7, 8])))
def r_s_l23Fill_9 : List CO := [⟨none, (some 34), (.mv (.t 6))⟩, ⟨none, (some 35), (.mv (.t 5))⟩, ⟨none, (some 36), (.mv (.t 7))⟩, ⟨none, (some 37), (.mv (.t 8))⟩, ⟨none, (some 38), (.call n_s_l23Line [(.t 35), (.t 36), (.t 37)])⟩, ⟨none, (some 39), (.bslice 1 (.v (.string (bs []))) 1 [(0, (.t 38))])⟩, ⟨none, (some 40), (.app 1 16 (.t 34) (.t 39))⟩, ⟨none, (some 6), (.mv (.t 40))⟩]
def r_s_l23Fill_10 : List CO := [⟨none, (some 41), (.mv (.t 8))⟩, ⟨none, (some 7), (.mv (.t 41))⟩]
def l_s_l23Fill_11 : C := (.seq (.seq (.reg r_s_l23Fill_4 [1, 5, 6, 7, 15]) (.cond (.t 15) .skip (.exit 0))) (.block 1 (.seq (.reg r_s_l23Fill_5 [1, 5, 6, 7, 8]) (.seq (.block 2 (.loop l_s_l23Fill_8)) (.seq (.reg r_s_l23Fill_9 [1, 5, 6, 8]) (.reg r_s_l23Fill_10 [1, 5, 6, 7]))))))
def r_s_l23Fill_12 : List CO := [⟨none, (some 42), (.mv (.t 6))⟩, ⟨none, (some 4), (.mv (.t 42))⟩]
/-- loop.example/g00884/spec.l23Fill -/
def c_s_l23Fill : C := (.seq (.reg r_s_l23Fill_0 [0, 1]) (.seq (.reg r_s_l23Fill_1 [1, 5]) (.seq (.reg r_s_l23Fill_2 [1, 5, 6]) (.seq (.seq (.reg r_s_l23Fill_3 [1, 5, 6, 7]) (.block 0 (.loop l_s_l23Fill_11))) (.seq (.reg r_s_l23Fill_12 [4]) .ret)))))
def k_s_l23Fill : Nat → List Nat
  | 0 => [0, 1]
  | 1 => [1, 5]
  | 2 => [1, 5, 6]
  | 3 => [1, 5, 6, 7]
  | 4 => [1, 5, 6, 7, 15]
  | 5 => [1, 5, 6, 7, 8]
  | 6 => [1, 5, 6, 7, 8, 31]
  | 7 => [1, 5, 6, 7, 8]
  | 8 => [1, 5, 6, 8]
  | 9 => [1, 5, 6, 7]
  | 10 => [4]
  | _ => []
theorem fn_s_l23Fill : FnC Tryz.prog n_s_l23Fill c_s_l23Fill [(.tmp 4)] 43 :=
  ⟨Tryz.f32, _, k_s_l23Fill, Tryz.func32, rfl, by kernel_rfl, by kernel_rfl, by kernel_rfl, rfl⟩
def r_strings_Split_0 : List CO := [⟨none, (some 4), (.mv (.k (.v (.slice none 0 0))))⟩]
def r_strings_Split_1 : List CO := [⟨none, (some 5), (.mv (.t 0))⟩, ⟨none, (some 6), (.mv (.t 1))⟩, ⟨none, (some 7), (.call n_strings_genSplit [(.t 5), (.t 6), (.k (.v (.int .i64 (0)))), (.k (.v (.int .i64 (-1))))])⟩, ⟨none, (some 4), (.mv (.t 7))⟩]
/-- strings.Split -/
def c_strings_Split : C := (.seq (.reg r_strings_Split_0 [0, 1]) (.seq (.reg r_strings_Split_1 [4]) .ret))
def k_strings_Split : Nat → List Nat
  | 0 => [0, 1]
  | 1 => [4]
  | _ => []
theorem fn_strings_Split : FnC Tryz.prog n_strings_Split c_strings_Split [(.tmp 4)] 8 :=
  ⟨Tryz.f33, _, k_strings_Split, Tryz.func33, rfl, by kernel_rfl, by kernel_rfl, by kernel_rfl, rfl⟩
def r_strings_Trim_0 : List CO := [⟨none, (some 4), (.mv (.k (.v (.string (bs [])))))⟩]
def r_strings_Trim_1 : List CO := [⟨none, (some 7), (.mv (.t 0))⟩, ⟨none, (some 8), (.bin .eql .none (.t 7) (.k (.v (.string (bs [])))))⟩, ⟨none, (some 9), (.mv (.t 8))⟩, ⟨(some (9, false)), (some 10), (.mv (.t 1))⟩, ⟨(some (9, false)), (some 11), (.bin .eql .none (.t 10) (.k (.v (.string (bs [])))))⟩, ⟨none, (some 12), (.pick (.t 9) (.k (.v (.bool true))) (.t 11))⟩]
def r_strings_Trim_2 : List CO := [⟨none, (some 13), (.mv (.t 0))⟩, ⟨none, (some 4), (.mv (.t 13))⟩]
def r_strings_Trim_3 : List CO := [⟨none, (some 14), (.mv (.t 1))⟩, ⟨none, (some 15), (.len true (.t 14))⟩, ⟨none, (some 16), (.bin .eql .none (.t 15) (.k (.v (.int .i64 (1)))))⟩, ⟨none, (some 17), (.mv (.t 16))⟩, ⟨(some (17, true)), (some 18), (.mv (.t 1))⟩, ⟨(some (17, true)), (some 19), (.idx (.t 18) (.k (.v (.int .i64 (0)))))⟩, ⟨(some (17, true)), (some 20), (.bin .lss .none (.t 19) (.k (.v (.int .u8 (128)))))⟩, ⟨none, (some 21), (.pick (.t 17) (.t 20) (.k (.v (.bool false))))⟩]
def r_strings_Trim_4 : List CO := [⟨none, (some 22), (.mv (.t 0))⟩, ⟨none, (some 23), (.mv (.t 1))⟩, ⟨none, (some 24), (.idx (.t 23) (.k (.v (.int .i64 (0)))))⟩, ⟨none, (some 25), (.call n_strings_trimRightByte [(.t 22), (.t 24)])⟩, ⟨none, (some 26), (.mv (.t 1))⟩, ⟨none, (some 27), (.idx (.t 26) (.k (.v (.int .i64 (0)))))⟩, ⟨none, (some 28), (.call n_strings_trimLeftByte [(.t 25), (.t 27)])⟩, ⟨none, (some 4), (.mv (.t 28))⟩]
def p_strings_Trim_4 : List (List Nat) := [[], [], [1], [0, 1, 2], [], [4], [0, 1, 2, 3, 4, 5], [0, 1, 2, 3, 4, 5, 6]]
def r_strings_Trim_5 : List CO := [⟨none, (some 30), (.mv (.t 1))⟩, ⟨none, (some 31), (.call n_strings_makeASCIISet [(.t 30)])⟩, ⟨none, (some 29), (.mv (.t 31))⟩, ⟨none, (some 32), (.ext (.t 29) 0)⟩, ⟨none, (some 33), (.ext (.t 29) 1)⟩, ⟨none, (some 5), (.box 256 (.k (.agg [(.v (.bool false)), (.v (.bool false)), (.v (.bool false)), (.v (.bool false)), (.v (.bool false)), (.v (.bool false)), (.v (.bool false)), (.v (.bool false)), (.v (.bool false)), (.v (.bool false)), (.v (.bool false)), (.v (.bool false)), (.v (.bool false)), (.v (.bool false)), (.v (.bool false)), (.v (.bool false)), (.v (.bool false)), (.v (.bool false)), (.v (.bool false)), (.v (.bool false)), (.v (.bool false)), (.v (.bool false)), (.v (.bool false)), (.v (.bool false)), (.v (.bool false)), (.v (.bool false)), (.v (.bool false)), (.v (.bool false)), (.v (.bool false)), (.v (.bool false)), (.v (.bool false)), (.v (.bool false)), (.v (.bool false)), (.v (.bool false)), (.v (.bool false)), (.v (.bool false)), (.v (.bool false)), (.v (.bool false)), (.v (.bool false)), (.v (.bool false)), (.v (.bool false)), (.v (.bool false)), (.v (.bool false)), (.v (.bool false)), (.v (.bool false)), (.v (.bool false)), (.v (.bool false)), (.v (.bool false)), (.v (.bool false)), (.v (.bool false)), (.v (.bool false)), (.v (.bool false)), (.v (.bool false)), (.v (.bool false)), (.v (.bool false)), (.v (.bool false)), (.v (.bool false)), (.v (.bool false)), (.v (.bool false)), (.v (.bool false)), (.v (.bool false)), (.v (.bool false)), (.v (.bool false)), (.v (.bool false)), (.v (.bool false)), (.v (.bool false)), (.v (.bool false)), (.v (.bool false)), (.v (.bool false)), (.v (.bool false)), (.v (.bool false)), (.v (.bool false)), (.v (.bool false)), (.v (.bool false)), (.v (.bool false)), (.v (.bool false)), (.v (.bool false)), (.v (.bool false)), (.v (.bool false)), (.v (.bool false)), (.v (.bool false)), (.v (.bool false)), (.v (.bool false)), (.v (.bool false)), (.v (.bool false)), (.v (.bool false)), (.v (.bool false)), (.v (.bool false)), (.v (.bool false)), (.v (.bool false)), (.v (.bool false)), (.v (.bool false)), (.v (.bool false)), (.v (.bool false)), (.v (.bool false)), (.v (.bool false)), (.v (.bool false)), (.v (.bool false)), (.v (.bool false)), (.v (.bool false)), (.v (.bool false)), (.v (.bool false)), (.v (.bool false)), (.v (.bool false)), (.v (.bool false)), (.v (.bool false)), (.v (.bool false)), (.v (.bool false)), (.v (.bool false)), (.v (.bool false)), (.v (.bool false)), (.v (.bool false)), (.v (.bool false)), (.v (.bool false)), (.v (.bool false)), (.v (.bool false)), (.v (.bool false)), (.v (.bool false)), (.v (.bool false)), (.v (.bool false)), (.v (.bool false)), (.v (.bool false)), (.v (.bool false)), (.v (.bool false)), (.v (.bool false)), (.v (.bool false)), (.v (.bool false)), (.v (.bool false)), (.v (.bool false)), (.v (.bool false)), (.v (.bool false)), (.v (.bool false)), (.v (.bool false)), (.v (.bool false)), (.v (.bool false)), (.v (.bool false)), (.v (.bool false)), (.v (.bool false)), (.v (.bool false)), (.v (.bool false)), (.v (.bool false)), (.v (.bool false)), (.v (.bool false)), (.v (.bool false)), (.v (.bool false)), (.v (.bool false)), (.v (.bool false)), (.v (.bool false)), (.v (.bool false)), (.v (.bool false)), (.v (.bool false)), (.v (.bool false)), (.v (.bool false)), (.v (.bool false)), (.v (.bool false)), (.v (.bool false)), (.v (.bool false)), (.v (.bool false)), (.v (.bool false)), (.v (.bool false)), (.v (.bool false)), (.v (.bool false)), (.v (.bool false)), (.v (.bool false)), (.v (.bool false)), (.v (.bool false)), (.v (.bool false)), (.v (.bool false)), (.v (.bool false)), (.v (.bool false)), (.v (.bool false)), (.v (.bool false)), (.v (.bool false)), (.v (.bool false)), (.v (.bool false)), (.v (.bool false)), (.v (.bool false)), (.v (.bool false)), (.v (.bool false)), (.v (.bool false)), (.v (.bool false)), (.v (.bool false)), (.v (.bool false)), (.v (.bool false)), (.v (.bool false)), (.v (.bool false)), (.v (.bool false)), (.v (.bool false)), (.v (.bool false)), (.v (.bool false)), (.v (.bool false)), (.v (.bool false)), (.v (.bool false)), (.v (.bool false)), (.v (.bool false)), (.v (.bool false)), (.v (.bool false)), (.v (.bool false)), (.v (.bool false)), (.v (.bool false)), (.v (.bool false)), (.v (.bool false)), (.v (.bool false)), (.v (.bool false)), (.v (.bool false)), (.v (.bool false)), (.v (.bool false)), (.v (.bool false)), (.v (.bool false)), (.v (.bool false)), (.v (.bool false)), (.v (.bool false)), (.v (.bool false)), (.v (.bool false)), (.v (.bool false)), (.v (.bool false)), (.v (.bool false)), (.v (.bool false)), (.v (.bool false)), (.v (.bool false)), (.v (.bool false)), (.v (.bool false)), (.v (.bool false)), (.v (.bool false)), (.v (.bool false)), (.v (.bool false)), (.v (.bool false)), (.v (.bool false)), (.v (.bool false)), (.v (.bool false)), (.v (.bool false)), (.v (.bool false)), (.v (.bool false)), (.v (.bool false)), (.v (.bool false)), (.v (.bool false)), (.v (.bool false)), (.v (.bool false)), (.v (.bool false)), (.v (.bool false)), (.v (.bool false)), (.v (.bool false)), (.v (.bool false)), (.v (.bool false)), (.v (.bool false)), (.v (.bool false)), (.v (.bool false)), (.v (.bool false)), (.v (.bool false)), (.v (.bool false)), (.v (.bool false)), (.v (.bool false)), (.v (.bool false)), (.v (.bool false)), (.v (.bool false)), (.v (.bool false))])))⟩, ⟨none, none, (.st 256 (.t 5) (.t 32))⟩, ⟨none, (some 6), (.mv (.t 33))⟩]
def r_strings_Trim_6 : List CO := [⟨none, (some 34), (.mv (.t 6))⟩]
def r_strings_Trim_7 : List CO := [⟨none, (some 35), (.mv (.t 0))⟩, ⟨none, (some 36), (.call n_strings_trimRightASCII [(.t 35), (.t 5)])⟩, ⟨none, (some 37), (.call n_strings_trimLeftASCII [(.t 36), (.t 5)])⟩, ⟨none, (some 4), (.mv (.t 37))⟩]
def r_strings_Trim_8 : List CO := [⟨none, (some 38), (.mv (.t 0))⟩, ⟨none, (some 39), (.mv (.t 1))⟩, ⟨none, (some 40), (.call n_strings_trimRightUnicode [(.t 38), (.t 39)])⟩, ⟨none, (some 41), (.mv (.t 1))⟩, ⟨none, (some 42), (.call n_strings_trimLeftUnicode [(.t 40), (.t 41)])⟩, ⟨none, (some 4), (.mv (.t 42))⟩]
/-- strings.Trim -/
def c_strings_Trim : C := (.seq (.reg r_strings_Trim_0 [0, 1]) (.seq (.seq (.reg r_strings_Trim_1 [0, 1, 12]) (.cond (.t 12) (.seq (.reg r_strings_Trim_2 [4]) .ret) .skip)) (.seq (.seq (.reg r_strings_Trim_3 [0, 1, 21]) (.cond (.t 21) (.seq (.regD r_strings_Trim_4 p_strings_Trim_4 [4]) .ret) .skip)) (.seq (.seq (.reg r_strings_Trim_5 [0, 1, 5, 6]) (.seq (.reg r_strings_Trim_6 [0, 1, 5, 34]) (.cond (.t 34) (.seq (.reg r_strings_Trim_7 [4]) .ret) .skip))) (.seq (.reg r_strings_Trim_8 [4]) .ret)))))
def k_strings_Trim : Nat → List Nat
  | 0 => [0, 1]
  | 1 => [0, 1, 12]
  | 2 => [4]
  | 3 => [0, 1, 21]
  | 4 => [4]
  | 5 => [0, 1, 5, 6]
  | 6 => [0, 1, 5, 34]
  | 7 => [4]
  | 8 => [4]
  | _ => []
theorem fn_strings_Trim : FnC Tryz.prog n_strings_Trim c_strings_Trim [(.tmp 4)] 43 :=
  ⟨Tryz.f34, _, k_strings_Trim, Tryz.func34, rfl, by kernel_rfl, by kernel_rfl, by kernel_rfl, rfl⟩
def r_i_isOnScroll_0 : List CO := [⟨none, (some 4), (.mv (.k (.v (.bool false))))⟩]
def r_i_isOnScroll_1 : List CO := [⟨none, (some 5), (.mv (.t 0))⟩, ⟨none, (some 6), (.call n_i_IsValidMotto [(.t 5)])⟩, ⟨none, (some 7), (.mv (.t 6))⟩, ⟨(some (7, true)), (some 8), (.mv (.t 1))⟩, ⟨(some (7, true)), (some 9), (.call n_i_isWidth [(.t 8)])⟩, ⟨none, (some 10), (.pick (.t 7) (.t 9) (.k (.v (.bool false))))⟩, ⟨none, (some 11), (.mv (.t 10))⟩, ⟨(some (11, true)), (some 12), (.mv (.t 0))⟩, ⟨(some (11, true)), (some 13), (.call n_i_longest [(.t 12)])⟩, ⟨(some (11, true)), (some 14), (.mv (.t 1))⟩, ⟨(some (11, true)), (some 15), (.bin .leq .none (.t 13) (.t 14))⟩, ⟨none, (some 16), (.pick (.t 11) (.t 15) (.k (.v (.bool false))))⟩, ⟨none, (some 4), (.mv (.t 16))⟩]
/-- loop.example/g00884/impl.isOnScroll -/
def c_i_isOnScroll : C := (.seq (.reg r_i_isOnScroll_0 [0, 1]) (.seq (.reg r_i_isOnScroll_1 [4]) .ret))
def k_i_isOnScroll : Nat → List Nat
  | 0 => [0, 1]
  | 1 => [4]
  | _ => []
theorem fn_i_isOnScroll : FnC Tryz.prog n_i_isOnScroll c_i_isOnScroll [(.tmp 4)] 17 :=
  ⟨Tryz.f35, _, k_i_isOnScroll, Tryz.func35, rfl, by kernel_rfl, by kernel_rfl, by kernel_rfl, rfl⟩
def r_i_isWidth_0 : List CO := [⟨none, (some 2), (.mv (.k (.v (.bool false))))⟩]
def r_i_isWidth_1 : List CO := [⟨none, (some 3), (.mv (.t 0))⟩, ⟨none, (some 4), (.call n_i_inside [(.t 3), (.k (.v (.int .i64 (1)))), (.k (.v (.int .i64 (40))))])⟩, ⟨none, (some 2), (.mv (.t 4))⟩]
/-- loop.example/g00884/impl.isWidth -/
def c_i_isWidth : C := (.seq (.reg r_i_isWidth_0 [0]) (.seq (.reg r_i_isWidth_1 [2]) .ret))
def k_i_isWidth : Nat → List Nat
  | 0 => [0]
  | 1 => [2]
  | _ => []
theorem fn_i_isWidth : FnC Tryz.prog n_i_isWidth c_i_isWidth [(.tmp 2)] 5 :=
  ⟨Tryz.f36, _, k_i_isWidth, Tryz.func36, rfl, by kernel_rfl, by kernel_rfl, by kernel_rfl, rfl⟩
def r_i_centered_0 : List CO := [⟨none, (some 4), (.mv (.k (.v (.string (bs [])))))⟩]
def r_i_centered_1 : List CO := [⟨none, (some 6), (.mv (.t 1))⟩, ⟨none, (some 7), (.mv (.t 0))⟩, ⟨none, (some 8), (.len true (.t 7))⟩, ⟨none, (some 9), (.bin .sub .none (.t 6) (.t 8))⟩, ⟨none, (some 5), (.mv (.t 9))⟩]
def r_i_centered_2 : List CO := [⟨none, (some 10), (.mv (.t 5))⟩, ⟨none, (some 11), (.bin .quo .none (.t 10) (.k (.v (.int .i64 (2)))))⟩, ⟨none, (some 12), (.call n_strings_Repeat [(.k (.v (.string (bs [32])))), (.t 11)])⟩, ⟨none, (some 13), (.mv (.t 0))⟩, ⟨none, (some 14), (.bin .add .none (.t 12) (.t 13))⟩, ⟨none, (some 15), (.mv (.t 5))⟩, ⟨none, (some 16), (.mv (.t 5))⟩, ⟨none, (some 17), (.bin .quo .none (.t 16) (.k (.v (.int .i64 (2)))))⟩, ⟨none, (some 18), (.bin .sub .none (.t 15) (.t 17))⟩, ⟨none, (some 19), (.call n_strings_Repeat [(.k (.v (.string (bs [32])))), (.t 18)])⟩, ⟨none, (some 20), (.bin .add .none (.t 14) (.t 19))⟩, ⟨none, (some 4), (.mv (.t 20))⟩]
/-- loop.example/g00884/impl.centered -/
def c_i_centered : C := (.seq (.reg r_i_centered_0 [0, 1]) (.seq (.reg r_i_centered_1 [0, 5]) (.seq (.reg r_i_centered_2 [4]) .ret)))
def k_i_centered : Nat → List Nat
  | 0 => [0, 1]
  | 1 => [0, 5]
  | 2 => [4]
  | _ => []
theorem fn_i_centered : FnC Tryz.prog n_i_centered c_i_centered [(.tmp 4)] 21 :=
  ⟨Tryz.f37, _, k_i_centered, Tryz.func37, rfl, by kernel_rfl, by kernel_rfl, by kernel_rfl, rfl⟩
def r_s_l23Center_0 : List CO := [⟨none, (some 4), (.mv (.k (.v (.string (bs [])))))⟩]
def r_s_l23Center_1 : List CO := [⟨none, (some 7), (.mv (.t 1))⟩, ⟨none, (some 8), (.mv (.t 0))⟩, ⟨none, (some 9), (.len true (.t 8))⟩, ⟨none, (some 10), (.bin .sub .none (.t 7) (.t 9))⟩, ⟨none, (some 11), (.bin .quo .none (.t 10) (.k (.v (.int .i64 (2)))))⟩, ⟨none, (some 5), (.mv (.t 11))⟩]
def r_s_l23Center_2 : List CO := [⟨none, (some 6), (.mv (.k (.v (.string (bs [])))))⟩]
def r_s_l23Center_3 : List CO := [⟨none, (some 12), (.mv (.t 6))⟩, ⟨none, (some 13), (.len true (.t 12))⟩, ⟨none, (some 14), (.mv (.t 5))⟩, ⟨none, (some 15), (.bin .lss .none (.t 13) (.t 14))⟩]
def r_s_l23Center_4 : List CO := [⟨none, (some 16), (.mv (.t 6))⟩, ⟨none, (some 17), (.bin .add .none (.t 16) (.k (.v (.string (bs [32])))))⟩, ⟨none, (some 6), (.mv (.t 17))⟩]
def l_s_l23Center_5 : C := (.seq (.seq (.reg r_s_l23Center_3 [0, 1, 5, 6, 15]) (.cond (.t 15) .skip (.exit 0))) (.block 1 (.reg r_s_l23Center_4 [0, 1, 5, 6])))
def r_s_l23Center_6 : List CO := [⟨none, (some 18), (.mv (.t 6))⟩, ⟨none, (some 19), (.mv (.t 0))⟩, ⟨none, (some 20), (.bin .add .none (.t 18) (.t 19))⟩, ⟨none, (some 6), (.mv (.t 20))⟩]
def r_s_l23Center_7 : List CO := [⟨none, (some 21), (.mv (.t 6))⟩, ⟨none, (some 22), (.len true (.t 21))⟩, ⟨none, (some 23), (.mv (.t 1))⟩, ⟨none, (some 24), (.bin .lss .none (.t 22) (.t 23))⟩]
def r_s_l23Center_8 : List CO := [⟨none, (some 25), (.mv (.t 6))⟩, ⟨none, (some 26), (.bin .add .none (.t 25) (.k (.v (.string (bs [32])))))⟩, ⟨none, (some 6), (.mv (.t 26))⟩]
def l_s_l23Center_9 : C := (.seq (.seq (.reg r_s_l23Center_7 [1, 6, 24]) (.cond (.t 24) .skip (.exit 2))) (.block 3 (.reg r_s_l23Center_8 [1, 6])))
def r_s_l23Center_10 : List CO := [⟨none, (some 27), (.mv (.t 6))⟩, ⟨none, (some 4), (.mv (.t 27))⟩]
/-- loop.example/g00884/spec.l23Center -/
def c_s_l23Center : C := (.seq (.reg r_s_l23Center_0 [0, 1]) (.seq (.reg r_s_l23Center_1 [0, 1, 5]) (.seq (.reg r_s_l23Center_2 [0, 1, 5, 6]) (.seq (.block 0 (.loop l_s_l23Center_5)) (.seq (.reg r_s_l23Center_6 [1, 6]) (.seq (.block 2 (.loop l_s_l23Center_9)) (.seq (.reg r_s_l23Center_10 [4]) .ret)))))))
def k_s_l23Center : Nat → List Nat
  | 0 => [0, 1]
  | 1 => [0, 1, 5]
  | 2 => [0, 1, 5, 6]
  | 3 => [0, 1, 5, 6, 15]
  | 4 => [0, 1, 5, 6]
  | 5 => [1, 6]
  | 6 => [1, 6, 24]
  | 7 => [1, 6]
  | 8 => [4]
  | _ => []
theorem fn_s_l23Center : FnC Tryz.prog n_s_l23Center c_s_l23Center [(.tmp 4)] 28 :=
  ⟨Tryz.f38, _, k_s_l23Center, Tryz.func38, rfl, by kernel_rfl, by kernel_rfl, by kernel_rfl, rfl⟩
def r_s_ScrollPicture_0 : List CO := [⟨none, (some 4), (.mv (.k (.v (.string (bs [])))))⟩, ⟨none, (some 5), (.mv (.k (.v (.bool false))))⟩]
def r_s_ScrollPicture_1 : List CO := [⟨none, (some 12), (.mv (.t 0))⟩, ⟨none, (some 13), (.mv (.t 1))⟩, ⟨none, (some 14), (.call n_s_EvenLines [(.t 12), (.t 13)])⟩, ⟨none, (some 11), (.mv (.t 14))⟩, ⟨none, (some 15), (.ext (.t 11) 0)⟩, ⟨none, (some 16), (.ext (.t 11) 1)⟩, ⟨none, (some 17), (.ext (.t 11) 2)⟩, ⟨none, (some 6), (.mv (.t 15))⟩, ⟨none, (some 7), (.mv (.t 16))⟩, ⟨none, (some 8), (.mv (.t 17))⟩]
def r_s_ScrollPicture_2 : List CO := [⟨none, (some 18), (.mv (.t 8))⟩, ⟨none, (some 19), (.un .not (.t 18))⟩]
def r_s_ScrollPicture_3 : List CO := [⟨none, (some 4), (.mv (.k (.v (.string (bs [])))))⟩, ⟨none, (some 5), (.mv (.k (.v (.bool false))))⟩]
def r_s_ScrollPicture_4 : List CO := [⟨none, (some 20), (.mv (.t 1))⟩, ⟨none, (some 21), (.call n_s_l23Border [(.k (.v (.string (bs [47])))), (.t 20), (.k (.v (.string (bs [92]))))])⟩, ⟨none, (some 9), (.mv (.t 21))⟩]
def r_s_ScrollPicture_5 : List CO := [⟨none, (some 10), (.mv (.k (.v (.int .i64 (0)))))⟩]
def r_s_ScrollPicture_6 : List CO := [⟨none, (some 22), (.mv (.t 10))⟩, ⟨none, (some 23), (.mv (.t 6))⟩, ⟨none, (some 24), (.len false (.t 23))⟩, ⟨none, (some 25), (.bin .lss .none (.t 22) (.t 24))⟩]
def r_s_ScrollPicture_7 : List CO := [⟨none, (some 28), (.mv (.t 9))⟩, ⟨none, (some 29), (.bin .add .none (.t 28) (.k (.v (.string (bs [40, 32])))))⟩, ⟨none, (some 30), (.mv (.t 6))⟩, ⟨none, (some 31), (.mv (.t 10))⟩, ⟨none, (some 32), (.iaddr 1 (.t 30) (.t 31))⟩, ⟨none, (some 33), (.ld false 1 (.t 32))⟩, ⟨none, (some 34), (.mv (.t 1))⟩, ⟨none, (some 35), (.call n_s_l23Center [(.t 33), (.t 34)])⟩, ⟨none, (some 36), (.bin .add .none (.t 29) (.t 35))⟩, ⟨none, (some 37), (.bin .add .none (.t 36) (.k (.v (.string (bs [32, 41, 10])))))⟩, ⟨none, (some 9), (.mv (.t 37))⟩]
def r_s_ScrollPicture_8 : List CO := [⟨none, (some 26), (.mv (.t 10))⟩, ⟨none, (some 27), (.bin .add .none (.t 26) (.k (.v (.int .i64 (1)))))⟩, ⟨none, (some 10), (.mv (.t 27))⟩]
def l_s_ScrollPicture_9 : C := (.seq (.seq (.reg r_s_ScrollPicture_6 [1, 6, 9, 10, 25]) (.cond (.t 25) .skip (.exit 0))) (.seq (.block 1 (.reg r_s_ScrollPicture_7 [1, 6, 9, 10])) (.reg r_s_ScrollPicture_8 [1, 6, 9, 10])))
def r_s_ScrollPicture_10 : List CO := [⟨none, (some 38), (.mv (.t 9))⟩, ⟨none, (some 39), (.mv (.t 1))⟩, ⟨none, (some 40), (.call n_s_l23Border [(.k (.v (.string (bs [92])))), (.t 39), (.k (.v (.string (bs [47]))))])⟩, ⟨none, (some 41), (.bin .add .none (.t 38) (.t 40))⟩, ⟨none, (some 4), (.mv (.t 41))⟩, ⟨none, (some 5), (.mv (.k (.v (.bool true))))⟩]
/-- loop.example/g00884/spec.ScrollPicture -/
def c_s_ScrollPicture : C := (.seq (.reg r_s_ScrollPicture_0 [0, 1]) (.seq (.reg r_s_ScrollPicture_1 [1, 6, 8]) (.seq (.seq (.reg r_s_ScrollPicture_2 [1, 6, 19]) (.cond (.t 19) (.seq (.reg r_s_ScrollPicture_3 [4, 5]) .ret) .skip)) (.seq (.reg r_s_ScrollPicture_4 [1, 6, 9]) (.seq (.seq (.reg r_s_ScrollPicture_5 [1, 6, 9, 10]) (.block 0 (.loop l_s_ScrollPicture_9))) (.seq (.reg r_s_ScrollPicture_10 [4, 5]) .ret))))))
def k_s_ScrollPicture : Nat → List Nat
  | 0 => [0, 1]
  | 1 => [1, 6, 8]
  | 2 => [1, 6, 19]
  | 3 => [4, 5]
  | 4 => [1, 6, 9]
  | 5 => [1, 6, 9, 10]
  | 6 => [1, 6, 9, 10, 25]
  | 8 => [1, 6, 9, 10]
  | 7 => [1, 6, 9, 10]
  | 9 => [4, 5]
  | _ => []
theorem fn_s_ScrollPicture : FnC Tryz.prog n_s_ScrollPicture c_s_ScrollPicture [(.tmp 4), (.tmp 5)] 42 :=
  ⟨Tryz.f39, _, k_s_ScrollPicture, Tryz.func39, rfl, by kernel_rfl, by kernel_rfl, by kernel_rfl, rfl⟩
def r_s_l1Cur_scroll_0 : List CO := [⟨none, (some 2), (.mv (.k (.v (.int .i64 (0)))))⟩]
def r_s_l1Cur_scroll_1 : List CO := [⟨none, (some 3), (.mv (.t 0))⟩, ⟨none, (some 4), (.bslice 1 (.v (.int .i64 (0))) 10 [(0, (.k (.v (.int .i64 (7))))), (1, (.k (.v (.int .i64 (8))))), (2, (.k (.v (.int .i64 (10))))), (3, (.k (.v (.int .i64 (12))))), (4, (.k (.v (.int .i64 (15))))), (5, (.k (.v (.int .i64 (20))))), (6, (.k (.v (.int .i64 (40))))), (7, (.k (.v (.int .i64 (6))))), (8, (.k (.v (.int .i64 (0))))), (9, (.k (.v (.int .i64 (41)))))])⟩, ⟨none, (some 5), (.mv (.t 0))⟩, ⟨none, (some 6), (.call n_s_l1Cur_pick [(.t 5), (.k (.v (.int .i64 (24))))])⟩, ⟨none, (some 7), (.bin .quo .none (.t 6) (.k (.v (.int .i64 (11)))))⟩, ⟨none, (some 8), (.bin .add .none (.k (.v (.int .i64 (8)))) (.t 7))⟩, ⟨none, (some 9), (.slc (some 1) (.t 4) none (some (.t 8)))⟩, ⟨none, (some 10), (.call n_s_l1Cur_among [(.t 3), (.t 9)])⟩, ⟨none, (some 2), (.mv (.t 10))⟩]
/-- (*loop.example/g00884/spec.l1Cur).scroll -/
def c_s_l1Cur_scroll : C := (.seq (.reg r_s_l1Cur_scroll_0 [0]) (.seq (.reg r_s_l1Cur_scroll_1 [2]) .ret))
def k_s_l1Cur_scroll : Nat → List Nat
  | 0 => [0]
  | 1 => [2]
  | _ => []
theorem fn_s_l1Cur_scroll : FnC Tryz.prog n_s_l1Cur_scroll c_s_l1Cur_scroll [(.tmp 2)] 11 :=
  ⟨Tryz.f40, _, k_s_l1Cur_scroll, Tryz.func40, rfl, by kernel_rfl, by kernel_rfl, by kernel_rfl, rfl⟩
def r_s_l1Cur_one_0 : List CO := [⟨none, (some 4), (.mv (.k (.v (.bool false))))⟩]
def r_s_l1Cur_one_1 : List CO := [⟨none, (some 5), (.mv (.t 0))⟩, ⟨none, (some 6), (.mv (.t 1))⟩, ⟨none, (some 7), (.call n_s_l1Cur_pick [(.t 5), (.t 6)])⟩, ⟨none, (some 8), (.bin .eql .none (.t 7) (.k (.v (.int .i64 (0)))))⟩, ⟨none, (some 4), (.mv (.t 8))⟩]
/-- (*loop.example/g00884/spec.l1Cur).one -/
def c_s_l1Cur_one : C := (.seq (.reg r_s_l1Cur_one_0 [0, 1]) (.seq (.reg r_s_l1Cur_one_1 [4]) .ret))
def k_s_l1Cur_one : Nat → List Nat
  | 0 => [0, 1]
  | 1 => [4]
  | _ => []
theorem fn_s_l1Cur_one : FnC Tryz.prog n_s_l1Cur_one c_s_l1Cur_one [(.tmp 4)] 9 :=
  ⟨Tryz.f41, _, k_s_l1Cur_one, Tryz.func41, rfl, by kernel_rfl, by kernel_rfl, by kernel_rfl, rfl⟩
def r_s_l1Cur_spoilt_0 : List CO := [⟨none, (some 6), (.mv (.k (.v (.string (bs [])))))⟩]
def r_s_l1Cur_spoilt_1 : List CO := [⟨none, (some 9), (.mv (.t 1))⟩, ⟨none, (some 10), (.bin .eql .none (.t 9) (.k (.v (.string (bs [])))))⟩]
def r_s_l1Cur_spoilt_2 : List CO := [⟨none, (some 11), (.mv (.t 2))⟩, ⟨none, (some 12), (.slc none (.t 11) none (some (.k (.v (.int .i64 (1))))))⟩, ⟨none, (some 6), (.mv (.t 12))⟩]
def r_s_l1Cur_spoilt_3 : List CO := [⟨none, (some 13), (.mv (.t 0))⟩, ⟨none, (some 14), (.mv (.t 1))⟩, ⟨none, (some 15), (.len true (.t 14))⟩, ⟨none, (some 16), (.call n_s_l1Cur_pick [(.t 13), (.t 15)])⟩, ⟨none, (some 7), (.mv (.t 16))⟩]
def r_s_l1Cur_spoilt_4 : List CO := [⟨none, (some 17), (.mv (.t 2))⟩, ⟨none, (some 18), (.mv (.t 0))⟩, ⟨none, (some 19), (.mv (.t 2))⟩, ⟨none, (some 20), (.len true (.t 19))⟩, ⟨none, (some 21), (.call n_s_l1Cur_pick [(.t 18), (.t 20)])⟩, ⟨none, (some 22), (.slc none (.t 17) (some (.t 21)) none)⟩, ⟨none, (some 23), (.slc none (.t 22) none (some (.k (.v (.int .i64 (1))))))⟩, ⟨none, (some 8), (.mv (.t 23))⟩]
def r_s_l1Cur_spoilt_5 : List CO := [⟨none, (some 24), (.mv (.t 0))⟩, ⟨none, (some 25), (.call n_s_l1Cur_pick [(.t 24), (.k (.v (.int .i64 (3))))])⟩]
def r_s_l1Cur_spoilt_6 : List CO := [⟨none, (some 27), (.bin .eql .none (.t 25) (.k (.v (.int .i64 (0)))))⟩, ⟨none, (some 26), (.mv (.t 27))⟩]
def r_s_l1Cur_spoilt_7 : List CO := [⟨none, (some 28), (.mv (.t 1))⟩, ⟨none, (some 29), (.mv (.t 7))⟩, ⟨none, (some 30), (.slc none (.t 28) none (some (.t 29)))⟩, ⟨none, (some 31), (.mv (.t 8))⟩, ⟨none, (some 32), (.bin .add .none (.t 30) (.t 31))⟩, ⟨none, (some 33), (.mv (.t 1))⟩, ⟨none, (some 34), (.mv (.t 7))⟩, ⟨none, (some 35), (.slc none (.t 33) (some (.t 34)) none)⟩, ⟨none, (some 36), (.bin .add .none (.t 32) (.t 35))⟩, ⟨none, (some 6), (.mv (.t 36))⟩]
def p_s_l1Cur_spoilt_7 : List (List Nat) := [[], [], [0, 1], [], [0, 1, 2, 3], [], [], [5, 6], [0, 1, 2, 3, 4, 5, 6, 7], [0, 1, 2, 3, 4, 5, 6, 7, 8]]
def r_s_l1Cur_spoilt_8 : List CO := [⟨none, (some 38), (.bin .eql .none (.t 25) (.k (.v (.int .i64 (1)))))⟩, ⟨none, (some 37), (.mv (.t 38))⟩]
def r_s_l1Cur_spoilt_9 : List CO := [⟨none, (some 39), (.mv (.t 1))⟩, ⟨none, (some 40), (.mv (.t 7))⟩, ⟨none, (some 41), (.slc none (.t 39) none (some (.t 40)))⟩, ⟨none, (some 42), (.mv (.t 8))⟩, ⟨none, (some 43), (.bin .add .none (.t 41) (.t 42))⟩, ⟨none, (some 44), (.mv (.t 1))⟩, ⟨none, (some 45), (.mv (.t 7))⟩, ⟨none, (some 46), (.bin .add .none (.t 45) (.k (.v (.int .i64 (1)))))⟩, ⟨none, (some 47), (.slc none (.t 44) (some (.t 46)) none)⟩, ⟨none, (some 48), (.bin .add .none (.t 43) (.t 47))⟩, ⟨none, (some 6), (.mv (.t 48))⟩]
def p_s_l1Cur_spoilt_9 : List (List Nat) := [[], [], [0, 1], [], [0, 1, 2, 3], [], [], [6], [5, 6, 7], [0, 1, 2, 3, 4, 5, 6, 7, 8], [0, 1, 2, 3, 4, 5, 6, 7, 8, 9]]
def r_s_l1Cur_spoilt_10 : List CO := [⟨none, (some 49), (.mv (.t 1))⟩, ⟨none, (some 50), (.mv (.t 7))⟩, ⟨none, (some 51), (.slc none (.t 49) none (some (.t 50)))⟩, ⟨none, (some 52), (.mv (.t 1))⟩, ⟨none, (some 53), (.mv (.t 7))⟩, ⟨none, (some 54), (.bin .add .none (.t 53) (.k (.v (.int .i64 (1)))))⟩, ⟨none, (some 55), (.slc none (.t 52) (some (.t 54)) none)⟩, ⟨none, (some 56), (.bin .add .none (.t 51) (.t 55))⟩, ⟨none, (some 6), (.mv (.t 56))⟩]
def p_s_l1Cur_spoilt_10 : List (List Nat) := [[], [], [0, 1], [], [], [4], [3, 4, 5], [0, 1, 2, 3, 4, 5, 6], [0, 1, 2, 3, 4, 5, 6, 7]]
/-- (*loop.example/g00884/spec.l1Cur).spoilt -/
def c_s_l1Cur_spoilt : C := (.seq (.reg r_s_l1Cur_spoilt_0 [0, 1, 2]) (.seq (.seq (.reg r_s_l1Cur_spoilt_1 [0, 1, 2, 10]) (.cond (.t 10) (.seq (.reg r_s_l1Cur_spoilt_2 [6]) .ret) .skip)) (.seq (.reg r_s_l1Cur_spoilt_3 [0, 1, 2, 7]) (.seq (.reg r_s_l1Cur_spoilt_4 [0, 1, 7, 8]) (.seq (.seq (.reg r_s_l1Cur_spoilt_5 [1, 7, 8, 25]) (.block 0 (.seq (.reg r_s_l1Cur_spoilt_6 [1, 7, 8, 25, 26]) (.cond (.t 26) (.seq (.regD r_s_l1Cur_spoilt_7 p_s_l1Cur_spoilt_7 [6]) .ret) (.seq (.reg r_s_l1Cur_spoilt_8 [1, 7, 8, 37]) (.cond (.t 37) (.seq (.regD r_s_l1Cur_spoilt_9 p_s_l1Cur_spoilt_9 [6]) .ret) .skip)))))) (.seq (.regD r_s_l1Cur_spoilt_10 p_s_l1Cur_spoilt_10 [6]) .ret))))))
def k_s_l1Cur_spoilt : Nat → List Nat
  | 0 => [0, 1, 2]
  | 1 => [0, 1, 2, 10]
  | 2 => [6]
  | 3 => [0, 1, 2, 7]
  | 4 => [0, 1, 7, 8]
  | 5 => [1, 7, 8, 25]
  | 6 => [1, 7, 8, 25, 26]
  | 7 => [6]
  | 8 => [1, 7, 8, 37]
  | 9 => [6]
  | 10 => [6]
  | _ => []
theorem fn_s_l1Cur_spoilt : FnC Tryz.prog n_s_l1Cur_spoilt c_s_l1Cur_spoilt [(.tmp 6)] 57 :=
  ⟨Tryz.f42, _, k_s_l1Cur_spoilt, Tryz.func42, rfl, by kernel_rfl, by kernel_rfl, by kernel_rfl, rfl⟩
def r_i_ScrollPicture_0 : List CO := [⟨none, (some 4), (.mv (.k (.v (.string (bs [])))))⟩, ⟨none, (some 5), (.mv (.k (.v (.bool false))))⟩]
def r_i_ScrollPicture_1 : List CO := [⟨none, (some 14), (.mv (.t 0))⟩, ⟨none, (some 15), (.mv (.t 1))⟩, ⟨none, (some 16), (.call n_i_EvenLines [(.t 14), (.t 15)])⟩, ⟨none, (some 13), (.mv (.t 16))⟩, ⟨none, (some 17), (.ext (.t 13) 0)⟩, ⟨none, (some 18), (.ext (.t 13) 1)⟩, ⟨none, (some 19), (.ext (.t 13) 2)⟩, ⟨none, (some 6), (.mv (.t 17))⟩, ⟨none, (some 7), (.mv (.t 18))⟩, ⟨none, (some 8), (.mv (.t 19))⟩]
def r_i_ScrollPicture_2 : List CO := [⟨none, (some 20), (.mv (.t 8))⟩, ⟨none, (some 21), (.un .not (.t 20))⟩]
def r_i_ScrollPicture_3 : List CO := [⟨none, (some 4), (.mv (.k (.v (.string (bs [])))))⟩, ⟨none, (some 5), (.mv (.k (.v (.bool false))))⟩]
def r_i_ScrollPicture_4 : List CO := [⟨none, (some 22), (.mv (.t 1))⟩, ⟨none, (some 23), (.bin .add .none (.t 22) (.k (.v (.int .i64 (2)))))⟩, ⟨none, (some 24), (.call n_strings_Repeat [(.k (.v (.string (bs [61])))), (.t 23)])⟩, ⟨none, (some 9), (.mv (.t 24))⟩]
def r_i_ScrollPicture_5 : List CO := [⟨none, (some 25), (.mv (.t 9))⟩, ⟨none, (some 26), (.bin .add .none (.k (.v (.string (bs [47])))) (.t 25))⟩, ⟨none, (some 27), (.bin .add .none (.t 26) (.k (.v (.string (bs [92, 10])))))⟩, ⟨none, (some 10), (.mv (.t 27))⟩]
def r_i_ScrollPicture_6 : List CO := [⟨none, (some 28), (.mv (.t 6))⟩, ⟨none, (some 29), (.len false (.t 28))⟩, ⟨none, (some 30), (.mv (.k (.v (.int .i64 (0)))))⟩]
def r_i_ScrollPicture_7 : List CO := [⟨none, (some 31), (.bin .lss .none (.t 30) (.t 29))⟩]
def r_i_ScrollPicture_8 : List CO := [⟨none, (some 32), (.iaddr 1 (.t 28) (.t 30))⟩, ⟨none, (some 33), (.ld false 1 (.t 32))⟩, ⟨none, (some 12), (.mv (.t 33))⟩]
def r_i_ScrollPicture_9 : List CO := [⟨none, (some 34), (.mv (.t 10))⟩, ⟨none, (some 35), (.mv (.t 12))⟩, ⟨none, (some 36), (.mv (.t 1))⟩, ⟨none, (some 37), (.call n_i_centered [(.t 35), (.t 36)])⟩, ⟨none, (some 38), (.bin .add .none (.k (.v (.string (bs [40, 32])))) (.t 37))⟩, ⟨none, (some 39), (.bin .add .none (.t 38) (.k (.v (.string (bs [32, 41, 10])))))⟩, ⟨none, (some 40), (.bin .add .none (.t 34) (.t 39))⟩, ⟨none, (some 10), (.mv (.t 40))⟩]
def r_i_ScrollPicture_10 : List CO := [⟨none, (some 41), (.bin .add .none (.t 30) (.k (.v (.int .i64 (1)))))⟩, ⟨none, (some 30), (.mv (.t 41))⟩]
def l_i_ScrollPicture_11 : C := (.seq (.reg r_i_ScrollPicture_7 [1, 9, 10, 28, 29, 30, 31]) (.seq (.cond (.t 31) .skip (.exit 0)) (.seq (.block 1 (.seq (.reg r_i_ScrollPicture_8 [1, 9, 10, 12, 28, 29, 30]) (.reg r_i_ScrollPicture_9 [1, 9, 10, 28, 29, 30]))) (.reg r_i_ScrollPicture_10 [1, 9, 10, 28, 29, 30]))))
def r_i_ScrollPicture_12 : List CO := [⟨none, (some 42), (.mv (.t 10))⟩, ⟨none, (some 43), (.bin .add .none (.t 42) (.k (.v (.string (bs [92])))))⟩, ⟨none, (some 44), (.mv (.t 9))⟩, ⟨none, (some 45), (.bin .add .none (.t 43) (.t 44))⟩, ⟨none, (some 46), (.bin .add .none (.t 45) (.k (.v (.string (bs [47, 10])))))⟩, ⟨none, (some 4), (.mv (.t 46))⟩, ⟨none, (some 5), (.mv (.k (.v (.bool true))))⟩]
/-- loop.example/g00884/impl.ScrollPicture -/
def c_i_ScrollPicture : C := (.seq (.reg r_i_ScrollPicture_0 [0, 1]) (.seq (.reg r_i_ScrollPicture_1 [1, 6, 8]) (.seq (.seq (.reg r_i_ScrollPicture_2 [1, 6, 21]) (.cond (.t 21) (.seq (.reg r_i_ScrollPicture_3 [4, 5]) .ret) .skip)) (.seq (.reg r_i_ScrollPicture_4 [1, 6, 9]) (.seq (.reg r_i_ScrollPicture_5 [1, 6, 9, 10]) (.seq (.seq (.reg r_i_ScrollPicture_6 [1, 9, 10, 28, 29, 30]) (.block 0 (.loop l_i_ScrollPicture_11))) (.seq (.reg r_i_ScrollPicture_12 [4, 5]) .ret)))))))
def k_i_ScrollPicture : Nat → List Nat
  | 0 => [0, 1]
  | 1 => [1, 6, 8]
  | 2 => [1, 6, 21]
  | 3 => [4, 5]
  | 4 => [1, 6, 9]
  | 5 => [1, 6, 9, 10]
  | 6 => [1, 9, 10, 28, 29, 30]
  | 7 => [1, 9, 10, 28, 29, 30, 31]
  | 8 => [1, 9, 10, 12, 28, 29, 30]
  | 9 => [1, 9, 10, 28, 29, 30]
  | 10 => [1, 9, 10, 28, 29, 30]
  | 11 => [4, 5]
  | _ => []
theorem fn_i_ScrollPicture : FnC Tryz.prog n_i_ScrollPicture c_i_ScrollPicture [(.tmp 4), (.tmp 5)] 47 :=
  ⟨Tryz.f46, _, k_i_ScrollPicture, Tryz.func46, rfl, by kernel_rfl, by kernel_rfl, by kernel_rfl, rfl⟩
def r_s_l1Split_0 : List CO := [⟨none, (some 4), (.mv (.k (.v (.slice none 0 0))))⟩]
def r_s_l1Split_1 : List CO := [⟨none, (some 8), (.bslice 1 (.v (.string (bs []))) 0 [])⟩, ⟨none, (some 5), (.mv (.t 8))⟩]
def r_s_l1Split_2 : List CO := [⟨none, (some 6), (.mv (.k (.v (.int .i64 (0)))))⟩]
def r_s_l1Split_3 : List CO := [⟨none, (some 7), (.mv (.k (.v (.int .i64 (0)))))⟩]
def r_s_l1Split_4 : List CO := [⟨none, (some 9), (.mv (.t 7))⟩, ⟨none, (some 10), (.mv (.t 0))⟩, ⟨none, (some 11), (.len true (.t 10))⟩, ⟨none, (some 12), (.bin .lss .none (.t 9) (.t 11))⟩]
def r_s_l1Split_5 : List CO := [⟨none, (some 15), (.mv (.t 0))⟩, ⟨none, (some 16), (.mv (.t 7))⟩, ⟨none, (some 17), (.idx (.t 15) (.t 16))⟩, ⟨none, (some 18), (.mv (.t 1))⟩, ⟨none, (some 19), (.bin .eql .none (.t 17) (.t 18))⟩]
def r_s_l1Split_6 : List CO := [⟨none, (some 20), (.mv (.t 5))⟩, ⟨none, (some 21), (.mv (.t 0))⟩, ⟨none, (some 22), (.mv (.t 6))⟩, ⟨none, (some 23), (.mv (.t 7))⟩, ⟨none, (some 24), (.slc none (.t 21) (some (.t 22)) (some (.t 23)))⟩, ⟨none, (some 25), (.bslice 1 (.v (.string (bs []))) 1 [(0, (.t 24))])⟩, ⟨none, (some 26), (.app 1 16 (.t 20) (.t 25))⟩, ⟨none, (some 5), (.mv (.t 26))⟩]
def r_s_l1Split_7 : List CO := [⟨none, (some 27), (.mv (.t 7))⟩, ⟨none, (some 28), (.bin .add .none (.t 27) (.k (.v (.int .i64 (1)))))⟩, ⟨none, (some 6), (.mv (.t 28))⟩]
def r_s_l1Split_8 : List CO := [⟨none, (some 13), (.mv (.t 7))⟩, ⟨none, (some 14), (.bin .add .none (.t 13) (.k (.v (.int .i64 (1)))))⟩, ⟨none, (some 7), (.mv (.t 14))⟩]
def l_s_l1Split_9 : C := (.seq (.seq (.reg r_s_l1Split_4 [0, 1, 5, 6, 7, 12]) (.cond (.t 12) .skip (.exit 0))) (.seq (.block 1 (.seq (.reg r_s_l1Split_5 [0, 1, 5, 6, 7, 19]) (.cond (.t 19) (.seq (.reg r_s_l1Split_6 [0, 1, 5, 7]) (.reg r_s_l1Split_7 [0, 1, 5, 6, 7])) .skip))) (.reg r_s_l1Split_8 [0, 1, 5, 6, 7])))
def r_s_l1Split_10 : List CO := [⟨none, (some 29), (.mv (.t 5))⟩, ⟨none, (some 30), (.mv (.t 0))⟩, ⟨none, (some 31), (.mv (.t 6))⟩, ⟨none, (some 32), (.slc none (.t 30) (some (.t 31)) none)⟩, ⟨none, (some 33), (.bslice 1 (.v (.string (bs []))) 1 [(0, (.t 32))])⟩, ⟨none, (some 34), (.app 1 16 (.t 29) (.t 33))⟩, ⟨none, (some 4), (.mv (.t 34))⟩]
/-- loop.example/g00884/spec.l1Split -/
def c_s_l1Split : C := (.seq (.reg r_s_l1Split_0 [0, 1]) (.seq (.reg r_s_l1Split_1 [0, 1, 5]) (.seq (.reg r_s_l1Split_2 [0, 1, 5, 6]) (.seq (.seq (.reg r_s_l1Split_3 [0, 1, 5, 6, 7]) (.block 0 (.loop l_s_l1Split_9))) (.seq (.reg r_s_l1Split_10 [4]) .ret)))))
def k_s_l1Split : Nat → List Nat
  | 0 => [0, 1]
  | 1 => [0, 1, 5]
  | 2 => [0, 1, 5, 6]
  | 3 => [0, 1, 5, 6, 7]
  | 4 => [0, 1, 5, 6, 7, 12]
  | 6 => [0, 1, 5, 6, 7, 19]
  | 7 => [0, 1, 5, 7]
  | 8 => [0, 1, 5, 6, 7]
  | 5 => [0, 1, 5, 6, 7]
  | 9 => [4]
  | _ => []
theorem fn_s_l1Split : FnC Tryz.prog n_s_l1Split c_s_l1Split [(.tmp 4)] 35 :=
  ⟨Tryz.f47, _, k_s_l1Split, Tryz.func47, rfl, by kernel_rfl, by kernel_rfl, by kernel_rfl, rfl⟩
def r_s_DrawIsValidMotto_0 : List CO := [⟨none, (some 2), (.mv (.k (.v (.string (bs [])))))⟩]
def r_s_DrawIsValidMotto_1 : List CO := [⟨none, (some 4), (.mv (.t 0))⟩, ⟨none, (some 5), (.build (.agg [(.v (.slice none 0 0)), (.v (.int .i64 (0))), (.v (.int .u64 (0)))]) [(0, (1, (.t 4)))])⟩, ⟨none, (some 6), (.box 3 (.t 5))⟩, ⟨none, (some 3), (.mv (.t 6))⟩]
def r_s_DrawIsValidMotto_2 : List CO := [⟨none, (some 7), (.mv (.t 3))⟩, ⟨none, (some 8), (.call n_s_l1Cur_motto [(.t 7)])⟩, ⟨none, (some 2), (.mv (.t 8))⟩]
/-- loop.example/g00884/spec.DrawIsValidMotto -/
def c_s_DrawIsValidMotto : C := (.seq (.reg r_s_DrawIsValidMotto_0 [0]) (.seq (.reg r_s_DrawIsValidMotto_1 [3]) (.seq (.reg r_s_DrawIsValidMotto_2 [2]) .ret)))
def k_s_DrawIsValidMotto : Nat → List Nat
  | 0 => [0]
  | 1 => [3]
  | 2 => [2]
  | _ => []
theorem fn_s_DrawIsValidMotto : FnC Tryz.prog n_s_DrawIsValidMotto c_s_DrawIsValidMotto [(.tmp 2)] 9 :=
  ⟨Tryz.f51, _, k_s_DrawIsValidMotto, Tryz.func51, rfl, by kernel_rfl, by kernel_rfl, by kernel_rfl, rfl⟩
def r_s_l1Cur_of_0 : List CO := [⟨none, (some 4), (.mv (.k (.v (.string (bs [])))))⟩]
def r_s_l1Cur_of_1 : List CO := [⟨none, (some 5), (.mv (.t 1))⟩, ⟨none, (some 6), (.mv (.t 0))⟩, ⟨none, (some 7), (.mv (.t 1))⟩, ⟨none, (some 8), (.len false (.t 7))⟩, ⟨none, (some 9), (.call n_s_l1Cur_pick [(.t 6), (.t 8)])⟩, ⟨none, (some 10), (.iaddr 1 (.t 5) (.t 9))⟩, ⟨none, (some 11), (.ld false 1 (.t 10))⟩, ⟨none, (some 4), (.mv (.t 11))⟩]
/-- (*loop.example/g00884/spec.l1Cur).of -/
def c_s_l1Cur_of : C := (.seq (.reg r_s_l1Cur_of_0 [0, 1]) (.seq (.reg r_s_l1Cur_of_1 [4]) .ret))
def k_s_l1Cur_of : Nat → List Nat
  | 0 => [0, 1]
  | 1 => [4]
  | _ => []
theorem fn_s_l1Cur_of : FnC Tryz.prog n_s_l1Cur_of c_s_l1Cur_of [(.tmp 4)] 12 :=
  ⟨Tryz.f52, _, k_s_l1Cur_of, Tryz.func52, rfl, by kernel_rfl, by kernel_rfl, by kernel_rfl, rfl⟩
def r_s_l23Line_0 : List CO := [⟨none, (some 6), (.mv (.k (.v (.string (bs [])))))⟩]
def r_s_l23Line_1 : List CO := [⟨none, (some 7), (.mv (.k (.v (.string (bs [])))))⟩]
def r_s_l23Line_2 : List CO := [⟨none, (some 9), (.mv (.t 1))⟩, ⟨none, (some 8), (.mv (.t 9))⟩]
def r_s_l23Line_3 : List CO := [⟨none, (some 10), (.mv (.t 8))⟩, ⟨none, (some 11), (.mv (.t 2))⟩, ⟨none, (some 12), (.bin .lss .none (.t 10) (.t 11))⟩]
def r_s_l23Line_4 : List CO := [⟨none, (some 15), (.mv (.t 8))⟩, ⟨none, (some 16), (.mv (.t 1))⟩, ⟨none, (some 17), (.bin .gtr .none (.t 15) (.t 16))⟩]
def r_s_l23Line_5 : List CO := [⟨none, (some 18), (.mv (.t 7))⟩, ⟨none, (some 19), (.bin .add .none (.t 18) (.k (.v (.string (bs [32])))))⟩, ⟨none, (some 7), (.mv (.t 19))⟩]
def r_s_l23Line_6 : List CO := [⟨none, (some 20), (.mv (.t 7))⟩, ⟨none, (some 21), (.mv (.t 0))⟩, ⟨none, (some 22), (.mv (.t 8))⟩, ⟨none, (some 23), (.iaddr 1 (.t 21) (.t 22))⟩, ⟨none, (some 24), (.ld false 1 (.t 23))⟩, ⟨none, (some 25), (.bin .add .none (.t 20) (.t 24))⟩, ⟨none, (some 7), (.mv (.t 25))⟩]
def r_s_l23Line_7 : List CO := [⟨none, (some 13), (.mv (.t 8))⟩, ⟨none, (some 14), (.bin .add .none (.t 13) (.k (.v (.int .i64 (1)))))⟩, ⟨none, (some 8), (.mv (.t 14))⟩]
def l_s_l23Line_8 : C := (.seq (.seq (.reg r_s_l23Line_3 [0, 1, 2, 7, 8, 12]) (.cond (.t 12) .skip (.exit 0))) (.seq (.block 1 (.seq (.seq (.reg r_s_l23Line_4 [0, 1, 2, 7, 8, 17]) (.cond (.t 17) (.reg r_s_l23Line_5 [0, 1, 2, 7, 8]) .skip)) (.reg r_s_l23Line_6 [0, 1, 2, 7, 8]))) (.reg r_s_l23Line_7 [0, 1, 2, 7, 8])))
def r_s_l23Line_9 : List CO := [⟨none, (some 26), (.mv (.t 7))⟩, ⟨none, (some 6), (.mv (.t 26))⟩]
/-- loop.example/g00884/spec.l23Line -/
def c_s_l23Line : C := (.seq (.reg r_s_l23Line_0 [0, 1, 2]) (.seq (.reg r_s_l23Line_1 [0, 1, 2, 7]) (.seq (.seq (.reg r_s_l23Line_2 [0, 1, 2, 7, 8]) (.block 0 (.loop l_s_l23Line_8))) (.seq (.reg r_s_l23Line_9 [6]) .ret))))
def k_s_l23Line : Nat → List Nat
  | 0 => [0, 1, 2]
  | 1 => [0, 1, 2, 7]
  | 2 => [0, 1, 2, 7, 8]
  | 3 => [0, 1, 2, 7, 8, 12]
  | 5 => [0, 1, 2, 7, 8, 17]
  | 6 => [0, 1, 2, 7, 8]
  | 7 => [0, 1, 2, 7, 8]
  | 4 => [0, 1, 2, 7, 8]
  | 8 => [6]
  | _ => []
theorem fn_s_l23Line : FnC Tryz.prog n_s_l23Line c_s_l23Line [(.tmp 6)] 27 :=
  ⟨Tryz.f53, _, k_s_l23Line, Tryz.func53, rfl, by kernel_rfl, by kernel_rfl, by kernel_rfl, rfl⟩
def r_s_l1Cur_next_0 : List CO := [⟨none, (some 2), (.mv (.k (.v (.int .i64 (0)))))⟩]
def r_s_l1Cur_next_1 : List CO := [⟨none, (some 3), (.mv (.k (.v (.int .i64 (0)))))⟩]
def r_s_l1Cur_next_2 : List CO := [⟨none, (some 4), (.mv (.t 0))⟩, ⟨none, (some 5), (.faddr 0 (.t 4))⟩, ⟨none, (some 6), (.faddr 1 (.t 5))⟩, ⟨none, (some 7), (.ld false 1 (.t 6))⟩, ⟨none, (some 8), (.mv (.t 0))⟩, ⟨none, (some 9), (.faddr 0 (.t 8))⟩, ⟨none, (some 10), (.faddr 0 (.t 9))⟩, ⟨none, (some 11), (.ld false 1 (.t 10))⟩, ⟨none, (some 12), (.len false (.t 11))⟩, ⟨none, (some 13), (.bin .lss .none (.t 7) (.t 12))⟩]
def p_s_l1Cur_next_2 : List (List Nat) := [[], [0], [0, 1], [0, 1, 2], [], [4], [4, 5], [4, 5, 6], [4, 5, 6, 7], [0, 1, 2, 3, 4, 5, 6, 7, 8]]
def r_s_l1Cur_next_3 : List CO := [⟨none, (some 14), (.mv (.t 0))⟩, ⟨none, (some 15), (.faddr 0 (.t 14))⟩, ⟨none, (some 16), (.faddr 0 (.t 15))⟩, ⟨none, (some 17), (.ld false 1 (.t 16))⟩, ⟨none, (some 18), (.mv (.t 0))⟩, ⟨none, (some 19), (.faddr 0 (.t 18))⟩, ⟨none, (some 20), (.faddr 1 (.t 19))⟩, ⟨none, (some 21), (.ld false 1 (.t 20))⟩, ⟨none, (some 22), (.iaddr 1 (.t 17) (.t 21))⟩, ⟨none, (some 23), (.ld false 1 (.t 22))⟩, ⟨none, (some 24), (.conv (.int .i64) (.t 23))⟩, ⟨none, (some 3), (.mv (.t 24))⟩]
def p_s_l1Cur_next_3 : List (List Nat) := [[], [0], [0, 1], [0, 1, 2], [], [4], [4, 5], [4, 5, 6], [0, 1, 2, 3, 4, 5, 6, 7], [0, 1, 2, 3, 4, 5, 6, 7, 8], [0, 1, 2, 3, 4, 5, 6, 7, 8, 9], [0, 1, 2, 3, 4, 5, 6, 7, 8, 9, 10]]
def r_s_l1Cur_next_4 : List CO := [⟨none, (some 25), (.mv (.t 0))⟩, ⟨none, (some 26), (.faddr 0 (.t 25))⟩, ⟨none, (some 27), (.faddr 1 (.t 26))⟩, ⟨none, (some 28), (.ld false 1 (.t 27))⟩, ⟨none, (some 29), (.bin .add .none (.t 28) (.k (.v (.int .i64 (1)))))⟩, ⟨none, (some 30), (.faddr 0 (.t 25))⟩, ⟨none, (some 31), (.faddr 1 (.t 30))⟩, ⟨none, none, (.st 1 (.t 31) (.t 29))⟩]
def r_s_l1Cur_next_5 : List CO := [⟨none, (some 32), (.mv (.t 0))⟩, ⟨none, (some 33), (.mv (.t 0))⟩, ⟨none, (some 34), (.faddr 0 (.t 33))⟩, ⟨none, (some 35), (.faddr 2 (.t 34))⟩, ⟨none, (some 36), (.ld false 1 (.t 35))⟩, ⟨none, (some 37), (.bin .mul .none (.t 36) (.k (.v (.int .u64 (6364136223846793005)))))⟩, ⟨none, (some 38), (.mv (.t 3))⟩, ⟨none, (some 39), (.conv (.int .u64) (.t 38))⟩, ⟨none, (some 40), (.bin .add .none (.t 37) (.t 39))⟩, ⟨none, (some 41), (.bin .add .none (.t 40) (.k (.v (.int .u64 (884884)))))⟩, ⟨none, (some 42), (.faddr 0 (.t 32))⟩, ⟨none, (some 43), (.faddr 2 (.t 42))⟩, ⟨none, none, (.st 1 (.t 43) (.t 41))⟩]
def r_s_l1Cur_next_6 : List CO := [⟨none, (some 44), (.mv (.t 0))⟩, ⟨none, (some 45), (.faddr 0 (.t 44))⟩, ⟨none, (some 46), (.faddr 1 (.t 45))⟩, ⟨none, (some 47), (.ld false 1 (.t 46))⟩, ⟨none, (some 48), (.mv (.t 0))⟩, ⟨none, (some 49), (.faddr 0 (.t 48))⟩, ⟨none, (some 50), (.faddr 0 (.t 49))⟩, ⟨none, (some 51), (.ld false 1 (.t 50))⟩, ⟨none, (some 52), (.len false (.t 51))⟩, ⟨none, (some 53), (.bin .leq .none (.t 47) (.t 52))⟩]
def p_s_l1Cur_next_6 : List (List Nat) := [[], [0], [0, 1], [0, 1, 2], [], [4], [4, 5], [4, 5, 6], [4, 5, 6, 7], [0, 1, 2, 3, 4, 5, 6, 7, 8]]
def r_s_l1Cur_next_7 : List CO := [⟨none, (some 54), (.mv (.t 3))⟩, ⟨none, (some 2), (.mv (.t 54))⟩]
def r_s_l1Cur_next_8 : List CO := [⟨none, (some 55), (.mv (.t 0))⟩, ⟨none, (some 56), (.faddr 0 (.t 55))⟩, ⟨none, (some 57), (.faddr 2 (.t 56))⟩, ⟨none, (some 58), (.ld false 1 (.t 57))⟩, ⟨none, (some 59), (.bin .shr .none (.t 58) (.k (.v (.int .u64 (40)))))⟩, ⟨none, (some 60), (.bin .and .none (.t 59) (.k (.v (.int .u64 (255)))))⟩, ⟨none, (some 61), (.conv (.int .i64) (.t 60))⟩, ⟨none, (some 2), (.mv (.t 61))⟩]
/-- (*loop.example/g00884/spec.l1Cur).next -/
def c_s_l1Cur_next : C := (.seq (.reg r_s_l1Cur_next_0 [0]) (.seq (.reg r_s_l1Cur_next_1 [0, 3]) (.seq (.seq (.regD r_s_l1Cur_next_2 p_s_l1Cur_next_2 [0, 3, 13]) (.cond (.t 13) (.regD r_s_l1Cur_next_3 p_s_l1Cur_next_3 [0, 3]) .skip)) (.seq (.reg r_s_l1Cur_next_4 [0, 3]) (.seq (.reg r_s_l1Cur_next_5 [0, 3]) (.seq (.seq (.regD r_s_l1Cur_next_6 p_s_l1Cur_next_6 [0, 3, 53]) (.cond (.t 53) (.seq (.reg r_s_l1Cur_next_7 [2]) .ret) .skip)) (.seq (.reg r_s_l1Cur_next_8 [2]) .ret)))))))
def k_s_l1Cur_next : Nat → List Nat
  | 0 => [0]
  | 1 => [0, 3]
  | 2 => [0, 3, 13]
  | 3 => [0, 3]
  | 4 => [0, 3]
  | 5 => [0, 3]
  | 6 => [0, 3, 53]
  | 7 => [2]
  | 8 => [2]
  | _ => []
theorem fn_s_l1Cur_next : FnC Tryz.prog n_s_l1Cur_next c_s_l1Cur_next [(.tmp 2)] 62 :=
  ⟨Tryz.f54, _, k_s_l1Cur_next, Tryz.func54, rfl, by kernel_rfl, by kernel_rfl, by kernel_rfl, rfl⟩
def r_strings_genSplit_0 : List CO := [⟨none, (some 8), (.mv (.k (.v (.slice none 0 0))))⟩]
def r_strings_genSplit_1 : List CO := [⟨none, (some 12), (.mv (.t 3))⟩, ⟨none, (some 13), (.bin .eql .none (.t 12) (.k (.v (.int .i64 (0)))))⟩]
def r_strings_genSplit_2 : List CO := [⟨none, (some 8), (.mv (.k (.v (.slice none 0 0))))⟩]
def r_strings_genSplit_3 : List CO := [⟨none, (some 14), (.mv (.t 1))⟩, ⟨none, (some 15), (.bin .eql .none (.t 14) (.k (.v (.string (bs [])))))⟩]
def r_strings_genSplit_4 : List CO := [⟨none, (some 16), (.mv (.t 0))⟩, ⟨none, (some 17), (.mv (.t 3))⟩, ⟨none, (some 18), (.call n_strings_explode [(.t 16), (.t 17)])⟩, ⟨none, (some 8), (.mv (.t 18))⟩]
def r_strings_genSplit_5 : List CO := [⟨none, (some 19), (.mv (.t 3))⟩, ⟨none, (some 20), (.bin .lss .none (.t 19) (.k (.v (.int .i64 (0)))))⟩]
def r_strings_genSplit_6 : List CO := [⟨none, (some 21), (.mv (.t 0))⟩, ⟨none, (some 22), (.mv (.t 1))⟩, ⟨none, (some 23), (.call n_strings_Count [(.t 21), (.t 22)])⟩, ⟨none, (some 24), (.bin .add .none (.t 23) (.k (.v (.int .i64 (1)))))⟩, ⟨none, (some 3), (.mv (.t 24))⟩]
def r_strings_genSplit_7 : List CO := [⟨none, (some 25), (.mv (.t 3))⟩, ⟨none, (some 26), (.mv (.t 0))⟩, ⟨none, (some 27), (.len true (.t 26))⟩, ⟨none, (some 28), (.bin .add .none (.t 27) (.k (.v (.int .i64 (1)))))⟩, ⟨none, (some 29), (.mm false [(.t 25), (.t 28)])⟩, ⟨none, (some 3), (.mv (.t 29))⟩]
def r_strings_genSplit_8 : List CO := [⟨none, (some 30), (.mv (.t 3))⟩, ⟨none, (some 31), (.mks 1 (.v (.string (bs []))) 16 (.t 30) (.t 30))⟩, ⟨none, (some 9), (.mv (.t 31))⟩]
def r_strings_genSplit_9 : List CO := [⟨none, (some 32), (.mv (.t 3))⟩, ⟨none, (some 33), (.bin .sub .none (.t 32) (.k (.v (.int .i64 (1)))))⟩, ⟨none, (some 3), (.mv (.t 33))⟩]
def r_strings_genSplit_10 : List CO := [⟨none, (some 10), (.mv (.k (.v (.int .i64 (0)))))⟩]
def r_strings_genSplit_11 : List CO := [⟨none, (some 34), (.mv (.t 10))⟩, ⟨none, (some 35), (.mv (.t 3))⟩, ⟨none, (some 36), (.bin .lss .none (.t 34) (.t 35))⟩]
def r_strings_genSplit_12 : List CO := [⟨none, (some 37), (.mv (.t 0))⟩, ⟨none, (some 38), (.mv (.t 1))⟩, ⟨none, (some 39), (.call n_strings_Index [(.t 37), (.t 38)])⟩, ⟨none, (some 11), (.mv (.t 39))⟩]
def r_strings_genSplit_13 : List CO := [⟨none, (some 40), (.mv (.t 11))⟩, ⟨none, (some 41), (.bin .lss .none (.t 40) (.k (.v (.int .i64 (0)))))⟩]
def r_strings_genSplit_14 : List CO := [⟨none, (some 42), (.mv (.t 9))⟩, ⟨none, (some 43), (.mv (.t 10))⟩, ⟨none, (some 44), (.mv (.t 0))⟩, ⟨none, (some 45), (.mv (.t 11))⟩, ⟨none, (some 46), (.mv (.t 2))⟩, ⟨none, (some 47), (.bin .add .none (.t 45) (.t 46))⟩, ⟨none, (some 48), (.slc none (.t 44) none (some (.t 47)))⟩, ⟨none, (some 49), (.iaddr 1 (.t 42) (.t 43))⟩, ⟨none, none, (.st 1 (.t 49) (.t 48))⟩]
def r_strings_genSplit_15 : List CO := [⟨none, (some 50), (.mv (.t 0))⟩, ⟨none, (some 51), (.mv (.t 11))⟩, ⟨none, (some 52), (.mv (.t 1))⟩, ⟨none, (some 53), (.len true (.t 52))⟩, ⟨none, (some 54), (.bin .add .none (.t 51) (.t 53))⟩, ⟨none, (some 55), (.slc none (.t 50) (some (.t 54)) none)⟩, ⟨none, (some 0), (.mv (.t 55))⟩]
def r_strings_genSplit_16 : List CO := [⟨none, (some 56), (.mv (.t 10))⟩, ⟨none, (some 57), (.bin .add .none (.t 56) (.k (.v (.int .i64 (1)))))⟩, ⟨none, (some 10), (.mv (.t 57))⟩]
def l_strings_genSplit_17 : C := (.seq (.seq (.reg r_strings_genSplit_11 [0, 1, 2, 3, 9, 10, 36]) (.cond (.t 36) .skip (.exit 0))) (.block 1 (.seq (.reg r_strings_genSplit_12 [0, 1, 2, 3, 9, 10, 11]) (.seq (.seq (.reg r_strings_genSplit_13 [0, 1, 2, 3, 9, 10, 11, 41]) (.cond (.t 41) (.exit 0) .skip)) (.seq (.reg r_strings_genSplit_14 [0, 1, 2, 3, 9, 10, 11]) (.seq (.reg r_strings_genSplit_15 [0, 1, 2, 3, 9, 10]) (.reg r_strings_genSplit_16 [0, 1, 2, 3, 9, 10])))))))
def r_strings_genSplit_18 : List CO := [⟨none, (some 58), (.mv (.t 9))⟩, ⟨none, (some 59), (.mv (.t 10))⟩, ⟨none, (some 60), (.mv (.t 0))⟩, ⟨none, (some 61), (.iaddr 1 (.t 58) (.t 59))⟩, ⟨none, none, (.st 1 (.t 61) (.t 60))⟩]
def r_strings_genSplit_19 : List CO := [⟨none, (some 62), (.mv (.t 9))⟩, ⟨none, (some 63), (.mv (.t 10))⟩, ⟨none, (some 64), (.bin .add .none (.t 63) (.k (.v (.int .i64 (1)))))⟩, ⟨none, (some 65), (.slc (some 1) (.t 62) none (some (.t 64)))⟩, ⟨none, (some 8), (.mv (.t 65))⟩]
/-- strings.genSplit -/
def c_strings_genSplit : C := (.seq (.reg r_strings_genSplit_0 [0, 1, 2, 3]) (.seq (.seq (.reg r_strings_genSplit_1 [0, 1, 2, 3, 13]) (.cond (.t 13) (.seq (.reg r_strings_genSplit_2 [8]) .ret) .skip)) (.seq (.seq (.reg r_strings_genSplit_3 [0, 1, 2, 3, 15]) (.cond (.t 15) (.seq (.reg r_strings_genSplit_4 [8]) .ret) .skip)) (.seq (.seq (.reg r_strings_genSplit_5 [0, 1, 2, 3, 20]) (.cond (.t 20) (.reg r_strings_genSplit_6 [0, 1, 2, 3]) .skip)) (.seq (.reg r_strings_genSplit_7 [0, 1, 2, 3]) (.seq (.reg r_strings_genSplit_8 [0, 1, 2, 3, 9]) (.seq (.reg r_strings_genSplit_9 [0, 1, 2, 3, 9]) (.seq (.reg r_strings_genSplit_10 [0, 1, 2, 3, 9, 10]) (.seq (.block 0 (.loop l_strings_genSplit_17)) (.seq (.reg r_strings_genSplit_18 [9, 10]) (.seq (.reg r_strings_genSplit_19 [8]) .ret)))))))))))
def k_strings_genSplit : Nat → List Nat
  | 0 => [0, 1, 2, 3]
  | 1 => [0, 1, 2, 3, 13]
  | 2 => [8]
  | 3 => [0, 1, 2, 3, 15]
  | 4 => [8]
  | 5 => [0, 1, 2, 3, 20]
  | 6 => [0, 1, 2, 3]
  | 7 => [0, 1, 2, 3]
  | 8 => [0, 1, 2, 3, 9]
  | 9 => [0, 1, 2, 3, 9]
  | 10 => [0, 1, 2, 3, 9, 10]
  | 11 => [0, 1, 2, 3, 9, 10, 36]
  | 12 => [0, 1, 2, 3, 9, 10, 11]
  | 13 => [0, 1, 2, 3, 9, 10, 11, 41]
  | 14 => [0, 1, 2, 3, 9, 10, 11]
  | 15 => [0, 1, 2, 3, 9, 10]
  | 16 => [0, 1, 2, 3, 9, 10]
  | 17 => [9, 10]
  | 18 => [8]
  | _ => []
theorem fn_strings_genSplit : FnC Tryz.prog n_strings_genSplit c_strings_genSplit [(.tmp 8)] 66 :=
  ⟨Tryz.f55, _, k_strings_genSplit, Tryz.func55, rfl, by kernel_rfl, by kernel_rfl, by kernel_rfl, rfl⟩
def r_strings_trimLeftASCII_0 : List CO := [⟨none, (some 4), (.mv (.k (.v (.string (bs [])))))⟩]
def r_strings_trimLeftASCII_1 : List CO := [⟨none, (some 5), (.mv (.t 0))⟩, ⟨none, (some 6), (.len true (.t 5))⟩, ⟨none, (some 7), (.bin .gtr .none (.t 6) (.k (.v (.int .i64 (0)))))⟩]
def r_strings_trimLeftASCII_2 : List CO := [⟨none, (some 8), (.mv (.t 1))⟩, ⟨none, (some 9), (.mv (.t 0))⟩, ⟨none, (some 10), (.idx (.t 9) (.k (.v (.int .i64 (0)))))⟩, ⟨none, (some 11), (.call n_strings_asciiSet_contains [(.t 8), (.t 10)])⟩, ⟨none, (some 12), (.un .not (.t 11))⟩]
def r_strings_trimLeftASCII_3 : List CO := [⟨none, (some 13), (.mv (.t 0))⟩, ⟨none, (some 14), (.slc none (.t 13) (some (.k (.v (.int .i64 (1))))) none)⟩, ⟨none, (some 0), (.mv (.t 14))⟩]
def l_strings_trimLeftASCII_4 : C := (.seq (.seq (.reg r_strings_trimLeftASCII_1 [0, 1, 7]) (.cond (.t 7) .skip (.exit 0))) (.block 1 (.seq (.seq (.reg r_strings_trimLeftASCII_2 [0, 1, 12]) (.cond (.t 12) (.exit 0) .skip)) (.reg r_strings_trimLeftASCII_3 [0, 1]))))
def r_strings_trimLeftASCII_5 : List CO := [⟨none, (some 15), (.mv (.t 0))⟩, ⟨none, (some 4), (.mv (.t 15))⟩]
/-- strings.trimLeftASCII -/
def c_strings_trimLeftASCII : C := (.seq (.reg r_strings_trimLeftASCII_0 [0, 1]) (.seq (.block 0 (.loop l_strings_trimLeftASCII_4)) (.seq (.reg r_strings_trimLeftASCII_5 [4]) .ret)))
def k_strings_trimLeftASCII : Nat → List Nat
  | 0 => [0, 1]
  | 1 => [0, 1, 7]
  | 2 => [0, 1, 12]
  | 3 => [0, 1]
  | 4 => [4]
  | _ => []
theorem fn_strings_trimLeftASCII : FnC Tryz.prog n_strings_trimLeftASCII c_strings_trimLeftASCII [(.tmp 4)] 16 :=
  ⟨Tryz.f59, _, k_strings_trimLeftASCII, Tryz.func59, rfl, by kernel_rfl, by kernel_rfl, by kernel_rfl, rfl⟩
def r_strings_trimRightASCII_0 : List CO := [⟨none, (some 4), (.mv (.k (.v (.string (bs [])))))⟩]
def r_strings_trimRightASCII_1 : List CO := [⟨none, (some 5), (.mv (.t 0))⟩, ⟨none, (some 6), (.len true (.t 5))⟩, ⟨none, (some 7), (.bin .gtr .none (.t 6) (.k (.v (.int .i64 (0)))))⟩]
def r_strings_trimRightASCII_2 : List CO := [⟨none, (some 8), (.mv (.t 1))⟩, ⟨none, (some 9), (.mv (.t 0))⟩, ⟨none, (some 10), (.mv (.t 0))⟩, ⟨none, (some 11), (.len true (.t 10))⟩, ⟨none, (some 12), (.bin .sub .none (.t 11) (.k (.v (.int .i64 (1)))))⟩, ⟨none, (some 13), (.idx (.t 9) (.t 12))⟩, ⟨none, (some 14), (.call n_strings_asciiSet_contains [(.t 8), (.t 13)])⟩, ⟨none, (some 15), (.un .not (.t 14))⟩]
def r_strings_trimRightASCII_3 : List CO := [⟨none, (some 16), (.mv (.t 0))⟩, ⟨none, (some 17), (.mv (.t 0))⟩, ⟨none, (some 18), (.len true (.t 17))⟩, ⟨none, (some 19), (.bin .sub .none (.t 18) (.k (.v (.int .i64 (1)))))⟩, ⟨none, (some 20), (.slc none (.t 16) none (some (.t 19)))⟩, ⟨none, (some 0), (.mv (.t 20))⟩]
def l_strings_trimRightASCII_4 : C := (.seq (.seq (.reg r_strings_trimRightASCII_1 [0, 1, 7]) (.cond (.t 7) .skip (.exit 0))) (.block 1 (.seq (.seq (.reg r_strings_trimRightASCII_2 [0, 1, 15]) (.cond (.t 15) (.exit 0) .skip)) (.reg r_strings_trimRightASCII_3 [0, 1]))))
def r_strings_trimRightASCII_5 : List CO := [⟨none, (some 21), (.mv (.t 0))⟩, ⟨none, (some 4), (.mv (.t 21))⟩]
/-- strings.trimRightASCII -/
def c_strings_trimRightASCII : C := (.seq (.reg r_strings_trimRightASCII_0 [0, 1]) (.seq (.block 0 (.loop l_strings_trimRightASCII_4)) (.seq (.reg r_strings_trimRightASCII_5 [4]) .ret)))
def k_strings_trimRightASCII : Nat → List Nat
  | 0 => [0, 1]
  | 1 => [0, 1, 7]
  | 2 => [0, 1, 15]
  | 3 => [0, 1]
  | 4 => [4]
  | _ => []
theorem fn_strings_trimRightASCII : FnC Tryz.prog n_strings_trimRightASCII c_strings_trimRightASCII [(.tmp 4)] 22 :=
  ⟨Tryz.f60, _, k_strings_trimRightASCII, Tryz.func60, rfl, by kernel_rfl, by kernel_rfl, by kernel_rfl, rfl⟩
def r_s_EvenLines_0 : List CO := [⟨none, (some 4), (.mv (.k (.v (.slice none 0 0))))⟩, ⟨none, (some 5), (.mv (.k (.v (.int .i64 (0)))))⟩, ⟨none, (some 6), (.mv (.k (.v (.bool false))))⟩]
def r_s_EvenLines_1 : List CO := [⟨none, (some 18), (.bslice 1 (.v (.string (bs []))) 0 [])⟩, ⟨none, (some 7), (.mv (.t 18))⟩]
def r_s_EvenLines_2 : List CO := [⟨none, (some 19), (.mv (.t 0))⟩, ⟨none, (some 20), (.mv (.t 1))⟩, ⟨none, (some 21), (.call n_s_l23Fits [(.t 19), (.t 20)])⟩, ⟨none, (some 22), (.un .not (.t 21))⟩]
def r_s_EvenLines_3 : List CO := [⟨none, (some 23), (.mv (.t 7))⟩, ⟨none, (some 4), (.mv (.t 23))⟩, ⟨none, (some 5), (.mv (.k (.v (.int .i64 (0)))))⟩, ⟨none, (some 6), (.mv (.k (.v (.bool false))))⟩]
def r_s_EvenLines_4 : List CO := [⟨none, (some 24), (.mv (.t 0))⟩, ⟨none, (some 25), (.call n_s_l1Split [(.t 24), (.k (.v (.int .u8 (32))))])⟩, ⟨none, (some 8), (.mv (.t 25))⟩]
def r_s_EvenLines_5 : List CO := [⟨none, (some 26), (.mv (.t 8))⟩, ⟨none, (some 27), (.len false (.t 26))⟩, ⟨none, (some 9), (.mv (.t 27))⟩]
def r_s_EvenLines_6 : List CO := [⟨none, (some 28), (.mv (.t 9))⟩, ⟨none, (some 29), (.bin .add .none (.t 28) (.k (.v (.int .i64 (1)))))⟩, ⟨none, (some 30), (.mks 1 (.v (.int .i64 (0))) 8 (.t 29) (.t 29))⟩, ⟨none, (some 10), (.mv (.t 30))⟩]
def r_s_EvenLines_7 : List CO := [⟨none, (some 31), (.mv (.t 9))⟩, ⟨none, (some 32), (.bin .sub .none (.t 31) (.k (.v (.int .i64 (1)))))⟩, ⟨none, (some 11), (.mv (.t 32))⟩]
def r_s_EvenLines_8 : List CO := [⟨none, (some 33), (.mv (.t 11))⟩, ⟨none, (some 34), (.bin .geq .none (.t 33) (.k (.v (.int .i64 (0)))))⟩]
def r_s_EvenLines_9 : List CO := [⟨none, (some 37), (.mv (.t 10))⟩, ⟨none, (some 38), (.mv (.t 11))⟩, ⟨none, (some 39), (.iaddr 1 (.t 37) (.t 38))⟩, ⟨none, none, (.st 1 (.t 39) (.k (.v (.int .i64 (-1)))))⟩]
def r_s_EvenLines_10 : List CO := [⟨none, (some 40), (.mv (.t 11))⟩, ⟨none, (some 41), (.bin .add .none (.t 40) (.k (.v (.int .i64 (1)))))⟩, ⟨none, (some 12), (.mv (.t 41))⟩]
def r_s_EvenLines_11 : List CO := [⟨none, (some 42), (.mv (.t 12))⟩, ⟨none, (some 43), (.mv (.t 9))⟩, ⟨none, (some 44), (.bin .leq .none (.t 42) (.t 43))⟩, ⟨none, (some 45), (.mv (.t 44))⟩, ⟨(some (45, true)), (some 46), (.mv (.t 8))⟩, ⟨(some (45, true)), (some 47), (.mv (.t 11))⟩, ⟨(some (45, true)), (some 48), (.mv (.t 12))⟩, ⟨(some (45, true)), (some 49), (.call n_s_l23Line [(.t 46), (.t 47), (.t 48)])⟩, ⟨(some (45, true)), (some 50), (.len true (.t 49))⟩, ⟨(some (45, true)), (some 51), (.mv (.t 1))⟩, ⟨(some (45, true)), (some 52), (.bin .leq .none (.t 50) (.t 51))⟩, ⟨none, (some 53), (.pick (.t 45) (.t 52) (.k (.v (.bool false))))⟩]
def r_s_EvenLines_12 : List CO := [⟨none, (some 56), (.mv (.t 1))⟩, ⟨none, (some 57), (.mv (.t 8))⟩, ⟨none, (some 58), (.mv (.t 11))⟩, ⟨none, (some 59), (.mv (.t 12))⟩, ⟨none, (some 60), (.call n_s_l23Line [(.t 57), (.t 58), (.t 59)])⟩, ⟨none, (some 61), (.len true (.t 60))⟩, ⟨none, (some 62), (.bin .sub .none (.t 56) (.t 61))⟩, ⟨none, (some 13), (.mv (.t 62))⟩]
def r_s_EvenLines_13 : List CO := [⟨none, (some 63), (.mv (.t 13))⟩, ⟨none, (some 64), (.mv (.t 13))⟩, ⟨none, (some 65), (.bin .mul .none (.t 63) (.t 64))⟩, ⟨none, (some 66), (.mv (.t 10))⟩, ⟨none, (some 67), (.mv (.t 12))⟩, ⟨none, (some 68), (.iaddr 1 (.t 66) (.t 67))⟩, ⟨none, (some 69), (.ld false 1 (.t 68))⟩, ⟨none, (some 70), (.bin .add .none (.t 65) (.t 69))⟩, ⟨none, (some 14), (.mv (.t 70))⟩]
def r_s_EvenLines_14 : List CO := [⟨none, (some 71), (.mv (.t 10))⟩, ⟨none, (some 72), (.mv (.t 11))⟩, ⟨none, (some 73), (.iaddr 1 (.t 71) (.t 72))⟩, ⟨none, (some 74), (.ld false 1 (.t 73))⟩, ⟨none, (some 75), (.bin .lss .none (.t 74) (.k (.v (.int .i64 (0)))))⟩, ⟨none, (some 76), (.mv (.t 75))⟩, ⟨(some (76, false)), (some 77), (.mv (.t 14))⟩, ⟨(some (76, false)), (some 78), (.mv (.t 10))⟩, ⟨(some (76, false)), (some 79), (.mv (.t 11))⟩, ⟨(some (76, false)), (some 80), (.iaddr 1 (.t 78) (.t 79))⟩, ⟨(some (76, false)), (some 81), (.ld false 1 (.t 80))⟩, ⟨(some (76, false)), (some 82), (.bin .lss .none (.t 77) (.t 81))⟩, ⟨none, (some 83), (.pick (.t 76) (.k (.v (.bool true))) (.t 82))⟩]
def r_s_EvenLines_15 : List CO := [⟨none, (some 84), (.mv (.t 10))⟩, ⟨none, (some 85), (.mv (.t 11))⟩, ⟨none, (some 86), (.mv (.t 14))⟩, ⟨none, (some 87), (.iaddr 1 (.t 84) (.t 85))⟩, ⟨none, none, (.st 1 (.t 87) (.t 86))⟩]
def r_s_EvenLines_16 : List CO := [⟨none, (some 54), (.mv (.t 12))⟩, ⟨none, (some 55), (.bin .add .none (.t 54) (.k (.v (.int .i64 (1)))))⟩, ⟨none, (some 12), (.mv (.t 55))⟩]
def l_s_EvenLines_17 : C := (.seq (.seq (.reg r_s_EvenLines_11 [1, 7, 8, 9, 10, 11, 12, 53]) (.cond (.t 53) .skip (.exit 2))) (.seq (.block 3 (.seq (.reg r_s_EvenLines_12 [1, 7, 8, 9, 10, 11, 12, 13]) (.seq (.reg r_s_EvenLines_13 [1, 7, 8, 9, 10, 11, 12, 14]) (.seq (.reg r_s_EvenLines_14 [1, 7, 8, 9, 10, 11, 12, 14, 83]) (.cond (.t 83) (.reg r_s_EvenLines_15 [1, 7, 8, 9, 10, 11, 12]) .skip))))) (.reg r_s_EvenLines_16 [1, 7, 8, 9, 10, 11, 12])))
def r_s_EvenLines_18 : List CO := [⟨none, (some 35), (.mv (.t 11))⟩, ⟨none, (some 36), (.bin .sub .none (.t 35) (.k (.v (.int .i64 (1)))))⟩, ⟨none, (some 11), (.mv (.t 36))⟩]
def l_s_EvenLines_19 : C := (.seq (.seq (.reg r_s_EvenLines_8 [1, 7, 8, 9, 10, 11, 34]) (.cond (.t 34) .skip (.exit 0))) (.seq (.block 1 (.seq (.reg r_s_EvenLines_9 [1, 7, 8, 9, 10, 11]) (.seq (.reg r_s_EvenLines_10 [1, 7, 8, 9, 10, 11, 12]) (.block 2 (.loop l_s_EvenLines_17))))) (.reg r_s_EvenLines_18 [1, 7, 8, 9, 10, 11])))
def r_s_EvenLines_20 : List CO := [⟨none, (some 15), (.mv (.k (.v (.int .i64 (0)))))⟩]
def r_s_EvenLines_21 : List CO := [⟨none, (some 88), (.mv (.t 15))⟩, ⟨none, (some 89), (.mv (.t 9))⟩, ⟨none, (some 90), (.bin .lss .none (.t 88) (.t 89))⟩]
def r_s_EvenLines_22 : List CO := [⟨none, (some 91), (.mv (.t 15))⟩, ⟨none, (some 92), (.bin .add .none (.t 91) (.k (.v (.int .i64 (1)))))⟩, ⟨none, (some 16), (.mv (.t 92))⟩]
def r_s_EvenLines_23 : List CO := [⟨none, (some 93), (.mv (.t 1))⟩, ⟨none, (some 94), (.mv (.t 8))⟩, ⟨none, (some 95), (.mv (.t 15))⟩, ⟨none, (some 96), (.mv (.t 16))⟩, ⟨none, (some 97), (.call n_s_l23Line [(.t 94), (.t 95), (.t 96)])⟩, ⟨none, (some 98), (.len true (.t 97))⟩, ⟨none, (some 99), (.bin .sub .none (.t 93) (.t 98))⟩, ⟨none, (some 17), (.mv (.t 99))⟩]
def r_s_EvenLines_24 : List CO := [⟨none, (some 100), (.mv (.t 17))⟩, ⟨none, (some 101), (.mv (.t 17))⟩, ⟨none, (some 102), (.bin .mul .none (.t 100) (.t 101))⟩, ⟨none, (some 103), (.mv (.t 10))⟩, ⟨none, (some 104), (.mv (.t 16))⟩, ⟨none, (some 105), (.iaddr 1 (.t 103) (.t 104))⟩, ⟨none, (some 106), (.ld false 1 (.t 105))⟩, ⟨none, (some 107), (.bin .add .none (.t 102) (.t 106))⟩, ⟨none, (some 108), (.mv (.t 10))⟩, ⟨none, (some 109), (.mv (.t 15))⟩, ⟨none, (some 110), (.iaddr 1 (.t 108) (.t 109))⟩, ⟨none, (some 111), (.ld false 1 (.t 110))⟩, ⟨none, (some 112), (.bin .eql .none (.t 107) (.t 111))⟩]
def p_s_EvenLines_24 : List (List Nat) := [[], [], [0, 1], [], [], [3, 4], [3, 4, 5], [0, 1, 2, 3, 4, 5, 6], [], [], [8, 9], [8, 9, 10], [0, 1, 2, 3, 4, 5, 6, 7, 8, 9, 10, 11]]
def r_s_EvenLines_25 : List CO := [⟨none, (some 113), (.mv (.t 16))⟩, ⟨none, (some 114), (.bin .add .none (.t 113) (.k (.v (.int .i64 (1)))))⟩, ⟨none, (some 16), (.mv (.t 114))⟩]
def l_s_EvenLines_26 : C := (.block 7 (.seq (.reg r_s_EvenLines_23 [1, 7, 8, 9, 10, 15, 16, 17]) (.seq (.seq (.regD r_s_EvenLines_24 p_s_EvenLines_24 [1, 7, 8, 9, 10, 15, 16, 112]) (.cond (.t 112) (.exit 6) .skip)) (.reg r_s_EvenLines_25 [1, 7, 8, 9, 10, 15, 16]))))
def r_s_EvenLines_27 : List CO := [⟨none, (some 115), (.mv (.t 7))⟩, ⟨none, (some 116), (.mv (.t 8))⟩, ⟨none, (some 117), (.mv (.t 15))⟩, ⟨none, (some 118), (.mv (.t 16))⟩, ⟨none, (some 119), (.call n_s_l23Line [(.t 116), (.t 117), (.t 118)])⟩, ⟨none, (some 120), (.bslice 1 (.v (.string (bs []))) 1 [(0, (.t 119))])⟩, ⟨none, (some 121), (.app 1 16 (.t 115) (.t 120))⟩, ⟨none, (some 7), (.mv (.t 121))⟩]
def r_s_EvenLines_28 : List CO := [⟨none, (some 122), (.mv (.t 16))⟩, ⟨none, (some 15), (.mv (.t 122))⟩]
def l_s_EvenLines_29 : C := (.seq (.seq (.reg r_s_EvenLines_21 [1, 7, 8, 9, 10, 15, 90]) (.cond (.t 90) .skip (.exit 4))) (.block 5 (.seq (.reg r_s_EvenLines_22 [1, 7, 8, 9, 10, 15, 16]) (.seq (.block 6 (.loop l_s_EvenLines_26)) (.seq (.reg r_s_EvenLines_27 [1, 7, 8, 9, 10, 16]) (.reg r_s_EvenLines_28 [1, 7, 8, 9, 10, 15]))))))
def r_s_EvenLines_30 : List CO := [⟨none, (some 123), (.mv (.t 7))⟩, ⟨none, (some 124), (.mv (.t 10))⟩, ⟨none, (some 125), (.iaddr 1 (.t 124) (.k (.v (.int .i64 (0)))))⟩, ⟨none, (some 126), (.ld false 1 (.t 125))⟩, ⟨none, (some 4), (.mv (.t 123))⟩, ⟨none, (some 5), (.mv (.t 126))⟩, ⟨none, (some 6), (.mv (.k (.v (.bool true))))⟩]
def p_s_EvenLines_30 : List (List Nat) := [[], [], [1], [1, 2], [0], [0, 1, 2, 3, 4], [0, 1, 2, 3, 4, 5]]
/-- loop.example/g00884/spec.EvenLines -/
def c_s_EvenLines : C := (.seq (.reg r_s_EvenLines_0 [0, 1]) (.seq (.reg r_s_EvenLines_1 [0, 1, 7]) (.seq (.seq (.reg r_s_EvenLines_2 [0, 1, 7, 22]) (.cond (.t 22) (.seq (.reg r_s_EvenLines_3 [4, 5, 6]) .ret) .skip)) (.seq (.reg r_s_EvenLines_4 [1, 7, 8]) (.seq (.reg r_s_EvenLines_5 [1, 7, 8, 9]) (.seq (.reg r_s_EvenLines_6 [1, 7, 8, 9, 10]) (.seq (.seq (.reg r_s_EvenLines_7 [1, 7, 8, 9, 10, 11]) (.block 0 (.loop l_s_EvenLines_19))) (.seq (.seq (.reg r_s_EvenLines_20 [1, 7, 8, 9, 10, 15]) (.block 4 (.loop l_s_EvenLines_29))) (.seq (.regD r_s_EvenLines_30 p_s_EvenLines_30 [4, 5, 6]) .ret)))))))))
def k_s_EvenLines : Nat → List Nat
  | 0 => [0, 1]
  | 1 => [0, 1, 7]
  | 2 => [0, 1, 7, 22]
  | 3 => [4, 5, 6]
  | 4 => [1, 7, 8]
  | 5 => [1, 7, 8, 9]
  | 6 => [1, 7, 8, 9, 10]
  | 7 => [1, 7, 8, 9, 10, 11]
  | 8 => [1, 7, 8, 9, 10, 11, 34]
  | 10 => [1, 7, 8, 9, 10, 11]
  | 11 => [1, 7, 8, 9, 10, 11, 12]
  | 12 => [1, 7, 8, 9, 10, 11, 12, 53]
  | 14 => [1, 7, 8, 9, 10, 11, 12, 13]
  | 15 => [1, 7, 8, 9, 10, 11, 12, 14]
  | 16 => [1, 7, 8, 9, 10, 11, 12, 14, 83]
  | 17 => [1, 7, 8, 9, 10, 11, 12]
  | 13 => [1, 7, 8, 9, 10, 11, 12]
  | 9 => [1, 7, 8, 9, 10, 11]
  | 18 => [1, 7, 8, 9, 10, 15]
  | 19 => [1, 7, 8, 9, 10, 15, 90]
  | 20 => [1, 7, 8, 9, 10, 15, 16]
  | 21 => [1, 7, 8, 9, 10, 15, 16, 17]
  | 22 => [1, 7, 8, 9, 10, 15, 16, 112]
  | 23 => [1, 7, 8, 9, 10, 15, 16]
  | 24 => [1, 7, 8, 9, 10, 16]
  | 25 => [1, 7, 8, 9, 10, 15]
  | 26 => [4, 5, 6]
  | _ => []
theorem fn_s_EvenLines : FnC Tryz.prog n_s_EvenLines c_s_EvenLines [(.tmp 4), (.tmp 5), (.tmp 6)] 127 :=
  ⟨Tryz.f64, _, k_s_EvenLines, Tryz.func64, rfl, by kernel_rfl, by kernel_rfl, by kernel_rfl, rfl⟩
def r_s_l23Border_0 : List CO := [⟨none, (some 6), (.mv (.k (.v (.string (bs [])))))⟩]
def r_s_l23Border_1 : List CO := [⟨none, (some 9), (.mv (.t 0))⟩, ⟨none, (some 7), (.mv (.t 9))⟩]
def r_s_l23Border_2 : List CO := [⟨none, (some 8), (.mv (.k (.v (.int .i64 (0)))))⟩]
def r_s_l23Border_3 : List CO := [⟨none, (some 10), (.mv (.t 8))⟩, ⟨none, (some 11), (.mv (.t 1))⟩, ⟨none, (some 12), (.bin .add .none (.t 11) (.k (.v (.int .i64 (2)))))⟩, ⟨none, (some 13), (.bin .lss .none (.t 10) (.t 12))⟩]
def r_s_l23Border_4 : List CO := [⟨none, (some 16), (.mv (.t 7))⟩, ⟨none, (some 17), (.bin .add .none (.t 16) (.k (.v (.string (bs [61])))))⟩, ⟨none, (some 7), (.mv (.t 17))⟩]
def r_s_l23Border_5 : List CO := [⟨none, (some 14), (.mv (.t 8))⟩, ⟨none, (some 15), (.bin .add .none (.t 14) (.k (.v (.int .i64 (1)))))⟩, ⟨none, (some 8), (.mv (.t 15))⟩]
def l_s_l23Border_6 : C := (.seq (.seq (.reg r_s_l23Border_3 [1, 2, 7, 8, 13]) (.cond (.t 13) .skip (.exit 0))) (.seq (.block 1 (.reg r_s_l23Border_4 [1, 2, 7, 8])) (.reg r_s_l23Border_5 [1, 2, 7, 8])))
def r_s_l23Border_7 : List CO := [⟨none, (some 18), (.mv (.t 7))⟩, ⟨none, (some 19), (.mv (.t 2))⟩, ⟨none, (some 20), (.bin .add .none (.t 18) (.t 19))⟩, ⟨none, (some 21), (.bin .add .none (.t 20) (.k (.v (.string (bs [10])))))⟩, ⟨none, (some 6), (.mv (.t 21))⟩]
/-- loop.example/g00884/spec.l23Border -/
def c_s_l23Border : C := (.seq (.reg r_s_l23Border_0 [0, 1, 2]) (.seq (.reg r_s_l23Border_1 [1, 2, 7]) (.seq (.seq (.reg r_s_l23Border_2 [1, 2, 7, 8]) (.block 0 (.loop l_s_l23Border_6))) (.seq (.reg r_s_l23Border_7 [6]) .ret))))
def k_s_l23Border : Nat → List Nat
  | 0 => [0, 1, 2]
  | 1 => [1, 2, 7]
  | 2 => [1, 2, 7, 8]
  | 3 => [1, 2, 7, 8, 13]
  | 5 => [1, 2, 7, 8]
  | 4 => [1, 2, 7, 8]
  | 6 => [6]
  | _ => []
theorem fn_s_l23Border : FnC Tryz.prog n_s_l23Border c_s_l23Border [(.tmp 6)] 22 :=
  ⟨Tryz.f65, _, k_s_l23Border, Tryz.func65, rfl, by kernel_rfl, by kernel_rfl, by kernel_rfl, rfl⟩
def r_i_EvenLines_0 : List CO := [⟨none, (some 4), (.mv (.k (.v (.slice none 0 0))))⟩, ⟨none, (some 5), (.mv (.k (.v (.int .i64 (0)))))⟩, ⟨none, (some 6), (.mv (.k (.v (.bool false))))⟩]
def r_i_EvenLines_1 : List CO := [⟨none, (some 9), (.mv (.t 0))⟩, ⟨none, (some 10), (.mv (.t 1))⟩, ⟨none, (some 11), (.call n_i_isOnScroll [(.t 9), (.t 10)])⟩, ⟨none, (some 12), (.un .not (.t 11))⟩]
def r_i_EvenLines_2 : List CO := [⟨none, (some 4), (.mv (.k (.v (.slice none 0 0))))⟩, ⟨none, (some 5), (.mv (.k (.v (.int .i64 (0)))))⟩, ⟨none, (some 6), (.mv (.k (.v (.bool false))))⟩]
def r_i_EvenLines_3 : List CO := [⟨none, (some 14), (.mv (.t 0))⟩, ⟨none, (some 15), (.call n_strings_Split [(.t 14), (.k (.v (.string (bs [32]))))])⟩, ⟨none, (some 16), (.mv (.t 1))⟩, ⟨none, (some 17), (.call n_i_even [(.t 15), (.t 16)])⟩, ⟨none, (some 13), (.mv (.t 17))⟩, ⟨none, (some 18), (.ext (.t 13) 0)⟩, ⟨none, (some 19), (.ext (.t 13) 1)⟩, ⟨none, (some 7), (.mv (.t 18))⟩, ⟨none, (some 8), (.mv (.t 19))⟩]
def r_i_EvenLines_4 : List CO := [⟨none, (some 20), (.mv (.t 7))⟩, ⟨none, (some 21), (.mv (.t 8))⟩, ⟨none, (some 4), (.mv (.t 20))⟩, ⟨none, (some 5), (.mv (.t 21))⟩, ⟨none, (some 6), (.mv (.k (.v (.bool true))))⟩]
/-- loop.example/g00884/impl.EvenLines -/
def c_i_EvenLines : C := (.seq (.reg r_i_EvenLines_0 [0, 1]) (.seq (.seq (.reg r_i_EvenLines_1 [0, 1, 12]) (.cond (.t 12) (.seq (.reg r_i_EvenLines_2 [4, 5, 6]) .ret) .skip)) (.seq (.reg r_i_EvenLines_3 [7, 8]) (.seq (.reg r_i_EvenLines_4 [4, 5, 6]) .ret))))
def k_i_EvenLines : Nat → List Nat
  | 0 => [0, 1]
  | 1 => [0, 1, 12]
  | 2 => [4, 5, 6]
  | 3 => [7, 8]
  | 4 => [4, 5, 6]
  | _ => []
theorem fn_i_EvenLines : FnC Tryz.prog n_i_EvenLines c_i_EvenLines [(.tmp 4), (.tmp 5), (.tmp 6)] 22 :=
  ⟨Tryz.f71, _, k_i_EvenLines, Tryz.func71, rfl, by kernel_rfl, by kernel_rfl, by kernel_rfl, rfl⟩
def r_i_even_0 : List CO := [⟨none, (some 4), (.mv (.k (.v (.slice none 0 0))))⟩, ⟨none, (some 5), (.mv (.k (.v (.int .i64 (0)))))⟩]
def r_i_even_1 : List CO := [⟨none, (some 15), (.mv (.t 0))⟩, ⟨none, (some 16), (.len false (.t 15))⟩, ⟨none, (some 6), (.mv (.t 16))⟩]
def r_i_even_2 : List CO := [⟨none, (some 17), (.mv (.t 6))⟩, ⟨none, (some 18), (.bin .add .none (.t 17) (.k (.v (.int .i64 (1)))))⟩, ⟨none, (some 19), (.mks 1 (.v (.slice none 0 0)) 24 (.t 18) (.t 18))⟩, ⟨none, (some 20), (.mv (.t 6))⟩, ⟨none, (some 21), (.bin .add .none (.t 20) (.k (.v (.int .i64 (1)))))⟩, ⟨none, (some 22), (.mks 1 (.v (.int .i64 (0))) 8 (.t 21) (.t 21))⟩, ⟨none, (some 7), (.mv (.t 19))⟩, ⟨none, (some 8), (.mv (.t 22))⟩]
def p_i_even_2 : List (List Nat) := [[], [0], [0, 1], [], [3], [3, 4], [0, 1, 2], [0, 1, 2, 3, 4, 5, 6]]
def r_i_even_3 : List CO := [⟨none, (some 9), (.mv (.k (.clo n_i_even_1 [])))⟩]
def r_i_even_4 : List CO := [⟨none, (some 23), (.mv (.t 6))⟩, ⟨none, (some 24), (.bin .sub .none (.t 23) (.k (.v (.int .i64 (1)))))⟩, ⟨none, (some 10), (.mv (.t 24))⟩]
def r_i_even_5 : List CO := [⟨none, (some 25), (.mv (.t 10))⟩, ⟨none, (some 26), (.bin .geq .none (.t 25) (.k (.v (.int .i64 (0)))))⟩]
def r_i_even_6 : List CO := [⟨none, (some 11), (.mv (.k (.v (.string (bs [])))))⟩]
def r_i_even_7 : List CO := [⟨none, (some 29), (.mv (.t 10))⟩, ⟨none, (some 12), (.mv (.t 29))⟩]
def r_i_even_8 : List CO := [⟨none, (some 30), (.mv (.t 12))⟩, ⟨none, (some 31), (.mv (.t 6))⟩, ⟨none, (some 32), (.bin .lss .none (.t 30) (.t 31))⟩]
def r_i_even_9 : List CO := [⟨none, (some 35), (.mv (.t 11))⟩, ⟨none, (some 36), (.bin .add .none (.t 35) (.k (.v (.string (bs [32])))))⟩, ⟨none, (some 37), (.mv (.t 0))⟩, ⟨none, (some 38), (.mv (.t 12))⟩, ⟨none, (some 39), (.iaddr 1 (.t 37) (.t 38))⟩, ⟨none, (some 40), (.ld false 1 (.t 39))⟩, ⟨none, (some 41), (.bin .add .none (.t 36) (.t 40))⟩, ⟨none, (some 42), (.call n_strings_TrimPrefix [(.t 41), (.k (.v (.string (bs [32]))))])⟩, ⟨none, (some 11), (.mv (.t 42))⟩]
def r_i_even_10 : List CO := [⟨none, (some 43), (.mv (.t 11))⟩, ⟨none, (some 44), (.len true (.t 43))⟩, ⟨none, (some 45), (.mv (.t 1))⟩, ⟨none, (some 46), (.bin .gtr .none (.t 44) (.t 45))⟩]
def r_i_even_11 : List CO := [⟨none, (some 47), (.mv (.t 8))⟩, ⟨none, (some 48), (.mv (.t 12))⟩, ⟨none, (some 49), (.bin .add .none (.t 48) (.k (.v (.int .i64 (1)))))⟩, ⟨none, (some 50), (.iaddr 1 (.t 47) (.t 49))⟩, ⟨none, (some 51), (.ld false 1 (.t 50))⟩, ⟨none, (some 52), (.mv (.t 1))⟩, ⟨none, (some 53), (.mv (.t 11))⟩, ⟨none, (some 54), (.len true (.t 53))⟩, ⟨none, (some 55), (.bin .sub .none (.t 52) (.t 54))⟩, ⟨none, (some 56), (.mv (.t 1))⟩, ⟨none, (some 57), (.mv (.t 11))⟩, ⟨none, (some 58), (.len true (.t 57))⟩, ⟨none, (some 59), (.bin .sub .none (.t 56) (.t 58))⟩, ⟨none, (some 60), (.bin .mul .none (.t 55) (.t 59))⟩, ⟨none, (some 61), (.bin .add .none (.t 51) (.t 60))⟩, ⟨none, (some 13), (.mv (.t 61))⟩]
def r_i_even_12 : List CO := [⟨none, (some 62), (.mv (.t 11))⟩, ⟨none, (some 63), (.bslice 1 (.v (.string (bs []))) 1 [(0, (.t 62))])⟩, ⟨none, (some 64), (.mv (.t 7))⟩, ⟨none, (some 65), (.mv (.t 12))⟩, ⟨none, (some 66), (.bin .add .none (.t 65) (.k (.v (.int .i64 (1)))))⟩, ⟨none, (some 67), (.iaddr 1 (.t 64) (.t 66))⟩, ⟨none, (some 68), (.ld false 1 (.t 67))⟩, ⟨none, (some 69), (.app 1 16 (.t 63) (.t 68))⟩, ⟨none, (some 14), (.mv (.t 69))⟩]
def r_i_even_13 : List CO := [⟨none, (some 70), (.mv (.t 7))⟩, ⟨none, (some 71), (.mv (.t 10))⟩, ⟨none, (some 72), (.iaddr 1 (.t 70) (.t 71))⟩, ⟨none, (some 73), (.ld false 1 (.t 72))⟩, ⟨none, (some 74), (.bin .eql .nil (.t 73) (.k (.v (.slice none 0 0))))⟩, ⟨none, (some 75), (.mv (.t 74))⟩, ⟨(some (75, false)), (some 76), (.mv (.t 13))⟩, ⟨(some (75, false)), (some 77), (.mv (.t 8))⟩, ⟨(some (75, false)), (some 78), (.mv (.t 10))⟩, ⟨(some (75, false)), (some 79), (.iaddr 1 (.t 77) (.t 78))⟩, ⟨(some (75, false)), (some 80), (.ld false 1 (.t 79))⟩, ⟨(some (75, false)), (some 81), (.bin .lss .none (.t 76) (.t 80))⟩, ⟨none, (some 82), (.pick (.t 75) (.k (.v (.bool true))) (.t 81))⟩, ⟨none, (some 83), (.mv (.t 82))⟩, ⟨(some (83, false)), (some 84), (.mv (.t 13))⟩, ⟨(some (83, false)), (some 85), (.mv (.t 8))⟩, ⟨(some (83, false)), (some 86), (.mv (.t 10))⟩, ⟨(some (83, false)), (some 87), (.iaddr 1 (.t 85) (.t 86))⟩, ⟨(some (83, false)), (some 88), (.ld false 1 (.t 87))⟩, ⟨(some (83, false)), (some 89), (.bin .eql .none (.t 84) (.t 88))⟩, ⟨(some (83, false)), (some 90), (.mv (.t 89))⟩, ⟨(some (90, true)), (some 91), (.mv (.t 9))⟩, ⟨(some (90, true)), (some 92), (.mv (.t 14))⟩, ⟨(some (90, true)), (some 93), (.callv (.t 91) [(.t 92)])⟩, ⟨(some (90, true)), (some 94), (.mv (.t 9))⟩, ⟨(some (90, true)), (some 95), (.mv (.t 7))⟩, ⟨(some (90, true)), (some 96), (.mv (.t 10))⟩, ⟨(some (90, true)), (some 97), (.iaddr 1 (.t 95) (.t 96))⟩, ⟨(some (90, true)), (some 98), (.ld false 1 (.t 97))⟩, ⟨(some (90, true)), (some 99), (.callv (.t 94) [(.t 98)])⟩, ⟨(some (90, true)), (some 100), (.call n_slices_Compare_int_int [(.t 93), (.t 99)])⟩, ⟨(some (90, true)), (some 101), (.bin .lss .none (.t 100) (.k (.v (.int .i64 (0)))))⟩, ⟨(some (83, false)), (some 102), (.pick (.t 90) (.t 101) (.k (.v (.bool false))))⟩, ⟨none, (some 103), (.pick (.t 83) (.k (.v (.bool true))) (.t 102))⟩]
def p_i_even_13 : List (List Nat) := [[], [], [0, 1], [0, 1, 2], [0, 1, 2, 3], [0, 1, 2, 3, 4], [0, 1, 2, 3, 4, 5], [0, 1, 2, 3, 4, 5], [0, 1, 2, 3, 4, 5], [0, 1, 2, 3, 4, 5, 7, 8], [0, 1, 2, 3, 4, 5, 7, 8, 9], [0, 1, 2, 3, 4, 5, 6, 7, 8, 9, 10], [0, 1, 2, 3, 4, 5, 6, 7, 8, 9, 10, 11], [0, 1, 2, 3, 4, 5, 6, 7, 8, 9, 10, 11, 12], [0, 1, 2, 3, 4, 5, 6, 7, 8, 9, 10, 11, 12, 13], [0, 1, 2, 3, 4, 5, 6, 7, 8, 9, 10, 11, 12, 13], [0, 1, 2, 3, 4, 5, 6, 7, 8, 9, 10, 11, 12, 13], [0, 1, 2, 3, 4, 5, 6, 7, 8, 9, 10, 11, 12, 13, 15, 16], [0, 1, 2, 3, 4, 5, 6, 7, 8, 9, 10, 11, 12, 13, 15, 16, 17], [0, 1, 2, 3, 4, 5, 6, 7, 8, 9, 10, 11, 12, 13, 14, 15, 16, 17, 18], [0, 1, 2, 3, 4, 5, 6, 7, 8, 9, 10, 11, 12, 13, 14, 15, 16, 17, 18, 19], [0, 1, 2, 3, 4, 5, 6, 7, 8, 9, 10, 11, 12, 13, 14, 15, 16, 17, 18, 19, 20], [0, 1, 2, 3, 4, 5, 6, 7, 8, 9, 10, 11, 12, 13, 14, 15, 16, 17, 18, 19, 20], [0, 1, 2, 3, 4, 5, 6, 7, 8, 9, 10, 11, 12, 13, 14, 15, 16, 17, 18, 19, 20, 21, 22], [0, 1, 2, 3, 4, 5, 6, 7, 8, 9, 10, 11, 12, 13, 14, 15, 16, 17, 18, 19, 20], [0, 1, 2, 3, 4, 5, 6, 7, 8, 9, 10, 11, 12, 13, 14, 15, 16, 17, 18, 19, 20], [0, 1, 2, 3, 4, 5, 6, 7, 8, 9, 10, 11, 12, 13, 14, 15, 16, 17, 18, 19, 20], [0, 1, 2, 3, 4, 5, 6, 7, 8, 9, 10, 11, 12, 13, 14, 15, 16, 17, 18, 19, 20, 25, 26], [0, 1, 2, 3, 4, 5, 6, 7, 8, 9, 10, 11, 12, 13, 14, 15, 16, 17, 18, 19, 20, 25, 26, 27], [0, 1, 2, 3, 4, 5, 6, 7, 8, 9, 10, 11, 12, 13, 14, 15, 16, 17, 18, 19, 20, 21, 22, 23, 24, 25, 26, 27, 28], [0, 1, 2, 3, 4, 5, 6, 7, 8, 9, 10, 11, 12, 13, 14, 15, 16, 17, 18, 19, 20, 21, 22, 23, 24, 25, 26, 27, 28, 29], [0, 1, 2, 3, 4, 5, 6, 7, 8, 9, 10, 11, 12, 13, 14, 15, 16, 17, 18, 19, 20, 21, 22, 23, 24, 25, 26, 27, 28, 29, 30], [0, 1, 2, 3, 4, 5, 6, 7, 8, 9, 10, 11, 12, 13, 14, 15, 16, 17, 18, 19, 20, 21, 22, 23, 24, 25, 26, 27, 28, 29, 30, 31], [0, 1, 2, 3, 4, 5, 6, 7, 8, 9, 10, 11, 12, 13, 14, 15, 16, 17, 18, 19, 20, 21, 22, 23, 24, 25, 26, 27, 28, 29, 30, 31, 32]]
def r_i_even_14 : List CO := [⟨none, (some 104), (.mv (.t 7))⟩, ⟨none, (some 105), (.mv (.t 10))⟩, ⟨none, (some 106), (.mv (.t 8))⟩, ⟨none, (some 107), (.mv (.t 10))⟩, ⟨none, (some 108), (.mv (.t 14))⟩, ⟨none, (some 109), (.mv (.t 13))⟩, ⟨none, (some 110), (.iaddr 1 (.t 104) (.t 105))⟩, ⟨none, none, (.st 1 (.t 110) (.t 108))⟩, ⟨none, (some 111), (.iaddr 1 (.t 106) (.t 107))⟩, ⟨none, none, (.st 1 (.t 111) (.t 109))⟩]
def r_i_even_15 : List CO := [⟨none, (some 33), (.mv (.t 12))⟩, ⟨none, (some 34), (.bin .add .none (.t 33) (.k (.v (.int .i64 (1)))))⟩, ⟨none, (some 12), (.mv (.t 34))⟩]
def l_i_even_16 : C := (.seq (.seq (.reg r_i_even_8 [0, 1, 6, 7, 8, 9, 10, 11, 12, 32]) (.cond (.t 32) .skip (.exit 2))) (.seq (.block 3 (.seq (.reg r_i_even_9 [0, 1, 6, 7, 8, 9, 10, 11, 12]) (.seq (.seq (.reg r_i_even_10 [0, 1, 6, 7, 8, 9, 10, 11, 12, 46]) (.cond (.t 46) (.exit 2) .skip)) (.seq (.reg r_i_even_11 [0, 1, 6, 7, 8, 9, 10, 11, 12, 13]) (.seq (.wk (.reg r_i_even_12 [0, 1, 6, 7, 8, 9, 10, 11, 12, 13, 14])) (.seq (.regD r_i_even_13 p_i_even_13 [0, 1, 6, 7, 8, 9, 10, 11, 12, 13, 14, 103]) (.cond (.t 103) (.reg r_i_even_14 [0, 1, 6, 7, 8, 9, 10, 11, 12]) .skip))))))) (.reg r_i_even_15 [0, 1, 6, 7, 8, 9, 10, 11, 12])))
def r_i_even_17 : List CO := [⟨none, (some 27), (.mv (.t 10))⟩, ⟨none, (some 28), (.bin .sub .none (.t 27) (.k (.v (.int .i64 (1)))))⟩, ⟨none, (some 10), (.mv (.t 28))⟩]
def l_i_even_18 : C := (.seq (.seq (.reg r_i_even_5 [0, 1, 6, 7, 8, 9, 10, 26]) (.cond (.t 26) .skip (.exit 0))) (.seq (.block 1 (.seq (.reg r_i_even_6 [0, 1, 6, 7, 8, 9, 10, 11]) (.seq (.reg r_i_even_7 [0, 1, 6, 7, 8, 9, 10, 11, 12]) (.block 2 (.loop l_i_even_16))))) (.reg r_i_even_17 [0, 1, 6, 7, 8, 9, 10])))
def r_i_even_19 : List CO := [⟨none, (some 112), (.mv (.t 7))⟩, ⟨none, (some 113), (.iaddr 1 (.t 112) (.k (.v (.int .i64 (0)))))⟩, ⟨none, (some 114), (.ld false 1 (.t 113))⟩, ⟨none, (some 115), (.mv (.t 8))⟩, ⟨none, (some 116), (.iaddr 1 (.t 115) (.k (.v (.int .i64 (0)))))⟩, ⟨none, (some 117), (.ld false 1 (.t 116))⟩, ⟨none, (some 4), (.mv (.t 114))⟩, ⟨none, (some 5), (.mv (.t 117))⟩]
def p_i_even_19 : List (List Nat) := [[], [0], [0, 1], [], [3], [3, 4], [0, 1, 2], [0, 1, 2, 3, 4, 5, 6]]
/-- loop.example/g00884/impl.even -/
def c_i_even : C := (.seq (.reg r_i_even_0 [0, 1]) (.seq (.reg r_i_even_1 [0, 1, 6]) (.seq (.regD r_i_even_2 p_i_even_2 [0, 1, 6, 7, 8]) (.seq (.reg r_i_even_3 [0, 1, 6, 7, 8, 9]) (.seq (.seq (.reg r_i_even_4 [0, 1, 6, 7, 8, 9, 10]) (.block 0 (.loop l_i_even_18))) (.seq (.wk (.regD r_i_even_19 p_i_even_19 [4, 5])) .ret))))))
def k_i_even : Nat → List Nat
  | 0 => [0, 1]
  | 1 => [0, 1, 6]
  | 2 => [0, 1, 6, 7, 8]
  | 3 => [0, 1, 6, 7, 8, 9]
  | 4 => [0, 1, 6, 7, 8, 9, 10]
  | 5 => [0, 1, 6, 7, 8, 9, 10, 26]
  | 7 => [0, 1, 6, 7, 8, 9, 10, 11]
  | 8 => [0, 1, 6, 7, 8, 9, 10, 11, 12]
  | 9 => [0, 1, 6, 7, 8, 9, 10, 11, 12, 32]
  | 11 => [0, 1, 6, 7, 8, 9, 10, 11, 12]
  | 12 => [0, 1, 6, 7, 8, 9, 10, 11, 12, 46]
  | 13 => [0, 1, 6, 7, 8, 9, 10, 11, 12, 13]
  | 14 => [999999, 0, 1, 6, 7, 8, 9, 10, 11, 12, 13, 14]
  | 15 => [0, 1, 6, 7, 8, 9, 10, 11, 12, 13, 14, 103]
  | 16 => [0, 1, 6, 7, 8, 9, 10, 11, 12]
  | 10 => [0, 1, 6, 7, 8, 9, 10, 11, 12]
  | 6 => [0, 1, 6, 7, 8, 9, 10]
  | 17 => [999999, 4, 5]
  | _ => []
theorem fn_i_even : FnC Tryz.prog n_i_even c_i_even [(.tmp 4), (.tmp 5)] 118 :=
  ⟨Tryz.f89, _, k_i_even, Tryz.func89, rfl, by kernel_rfl, by kernel_rfl, by kernel_rfl, rfl⟩
def r_i_even_1_0 : List CO := [⟨none, (some 2), (.mv (.k (.v (.slice none 0 0))))⟩]
def r_i_even_1_1 : List CO := [⟨none, (some 6), (.bslice 1 (.v (.int .i64 (0))) 0 [])⟩, ⟨none, (some 3), (.mv (.t 6))⟩]
def r_i_even_1_2 : List CO := [⟨none, (some 7), (.mv (.t 0))⟩, ⟨none, (some 8), (.len false (.t 7))⟩, ⟨none, (some 9), (.mv (.k (.v (.int .i64 (0)))))⟩]
def r_i_even_1_3 : List CO := [⟨none, (some 10), (.bin .lss .none (.t 9) (.t 8))⟩]
def r_i_even_1_4 : List CO := [⟨none, (some 11), (.iaddr 1 (.t 7) (.t 9))⟩, ⟨none, (some 12), (.ld false 1 (.t 11))⟩, ⟨none, (some 5), (.mv (.t 12))⟩]
def r_i_even_1_5 : List CO := [⟨none, (some 13), (.mv (.t 3))⟩, ⟨none, (some 14), (.mv (.t 5))⟩, ⟨none, (some 15), (.len true (.t 14))⟩, ⟨none, (some 16), (.bslice 1 (.v (.int .i64 (0))) 1 [(0, (.t 15))])⟩, ⟨none, (some 17), (.app 1 8 (.t 13) (.t 16))⟩, ⟨none, (some 3), (.mv (.t 17))⟩]
def r_i_even_1_6 : List CO := [⟨none, (some 18), (.bin .add .none (.t 9) (.k (.v (.int .i64 (1)))))⟩, ⟨none, (some 9), (.mv (.t 18))⟩]
def l_i_even_1_7 : C := (.seq (.reg r_i_even_1_3 [3, 7, 8, 9, 10]) (.seq (.cond (.t 10) .skip (.exit 0)) (.seq (.block 1 (.seq (.reg r_i_even_1_4 [3, 5, 7, 8, 9]) (.reg r_i_even_1_5 [3, 7, 8, 9]))) (.reg r_i_even_1_6 [3, 7, 8, 9]))))
def r_i_even_1_8 : List CO := [⟨none, (some 19), (.mv (.t 3))⟩, ⟨none, (some 2), (.mv (.t 19))⟩]
/-- loop.example/g00884/impl.even$1 -/
def c_i_even_1 : C := (.seq (.reg r_i_even_1_0 [0]) (.seq (.reg r_i_even_1_1 [0, 3]) (.seq (.seq (.reg r_i_even_1_2 [3, 7, 8, 9]) (.block 0 (.loop l_i_even_1_7))) (.seq (.reg r_i_even_1_8 [2]) .ret))))
def k_i_even_1 : Nat → List Nat
  | 0 => [0]
  | 1 => [0, 3]
  | 2 => [3, 7, 8, 9]
  | 3 => [3, 7, 8, 9, 10]
  | 4 => [3, 5, 7, 8, 9]
  | 5 => [3, 7, 8, 9]
  | 6 => [3, 7, 8, 9]
  | 7 => [2]
  | _ => []
theorem fn_i_even_1 : FnC Tryz.prog n_i_even_1 c_i_even_1 [(.tmp 2)] 20 :=
  ⟨Tryz.f111, _, k_i_even_1, Tryz.func111, rfl, by kernel_rfl, by kernel_rfl, by kernel_rfl, rfl⟩
def r_slices_Compare_int_int_0 : List CO := [⟨none, (some 4), (.mv (.k (.v (.int .i64 (0)))))⟩]
def r_slices_Compare_int_int_1 : List CO := [⟨none, (some 9), (.mv (.t 0))⟩, ⟨none, (some 10), (.len false (.t 9))⟩, ⟨none, (some 11), (.mv (.k (.v (.int .i64 (0)))))⟩]
def r_slices_Compare_int_int_2 : List CO := [⟨none, (some 12), (.bin .lss .none (.t 11) (.t 10))⟩]
def r_slices_Compare_int_int_3 : List CO := [⟨none, (some 13), (.mv (.t 11))⟩, ⟨none, (some 14), (.iaddr 1 (.t 9) (.t 11))⟩, ⟨none, (some 15), (.ld false 1 (.t 14))⟩, ⟨none, (some 5), (.mv (.t 13))⟩, ⟨none, (some 6), (.mv (.t 15))⟩]
def r_slices_Compare_int_int_4 : List CO := [⟨none, (some 16), (.mv (.t 5))⟩, ⟨none, (some 17), (.mv (.t 1))⟩, ⟨none, (some 18), (.len false (.t 17))⟩, ⟨none, (some 19), (.bin .geq .none (.t 16) (.t 18))⟩]
def r_slices_Compare_int_int_5 : List CO := [⟨none, (some 4), (.mv (.k (.v (.int .i64 (1)))))⟩]
def r_slices_Compare_int_int_6 : List CO := [⟨none, (some 20), (.mv (.t 1))⟩, ⟨none, (some 21), (.mv (.t 5))⟩, ⟨none, (some 22), (.iaddr 1 (.t 20) (.t 21))⟩, ⟨none, (some 23), (.ld false 1 (.t 22))⟩, ⟨none, (some 7), (.mv (.t 23))⟩]
def r_slices_Compare_int_int_7 : List CO := [⟨none, (some 24), (.mv (.t 6))⟩, ⟨none, (some 25), (.mv (.t 7))⟩, ⟨none, (some 26), (.call n_cmp_Compare_int [(.t 24), (.t 25)])⟩, ⟨none, (some 8), (.mv (.t 26))⟩]
def r_slices_Compare_int_int_8 : List CO := [⟨none, (some 27), (.mv (.t 8))⟩, ⟨none, (some 28), (.bin .neq .none (.t 27) (.k (.v (.int .i64 (0)))))⟩]
def r_slices_Compare_int_int_9 : List CO := [⟨none, (some 29), (.mv (.t 8))⟩, ⟨none, (some 4), (.mv (.t 29))⟩]
def r_slices_Compare_int_int_10 : List CO := [⟨none, (some 30), (.bin .add .none (.t 11) (.k (.v (.int .i64 (1)))))⟩, ⟨none, (some 11), (.mv (.t 30))⟩]
def l_slices_Compare_int_int_11 : C := (.seq (.reg r_slices_Compare_int_int_2 [0, 1, 9, 10, 11, 12]) (.seq (.cond (.t 12) .skip (.exit 0)) (.seq (.block 1 (.seq (.reg r_slices_Compare_int_int_3 [0, 1, 5, 6, 9, 10, 11]) (.seq (.seq (.reg r_slices_Compare_int_int_4 [0, 1, 5, 6, 9, 10, 11, 19]) (.cond (.t 19) (.seq (.reg r_slices_Compare_int_int_5 [4]) .ret) .skip)) (.seq (.reg r_slices_Compare_int_int_6 [0, 1, 6, 7, 9, 10, 11]) (.seq (.reg r_slices_Compare_int_int_7 [0, 1, 8, 9, 10, 11]) (.seq (.reg r_slices_Compare_int_int_8 [0, 1, 8, 9, 10, 11, 28]) (.cond (.t 28) (.seq (.reg r_slices_Compare_int_int_9 [4]) .ret) .skip))))))) (.reg r_slices_Compare_int_int_10 [0, 1, 9, 10, 11]))))
def r_slices_Compare_int_int_12 : List CO := [⟨none, (some 31), (.mv (.t 0))⟩, ⟨none, (some 32), (.len false (.t 31))⟩, ⟨none, (some 33), (.mv (.t 1))⟩, ⟨none, (some 34), (.len false (.t 33))⟩, ⟨none, (some 35), (.bin .lss .none (.t 32) (.t 34))⟩]
def r_slices_Compare_int_int_13 : List CO := [⟨none, (some 4), (.mv (.k (.v (.int .i64 (-1)))))⟩]
def r_slices_Compare_int_int_14 : List CO := [⟨none, (some 4), (.mv (.k (.v (.int .i64 (0)))))⟩]
/-- slices.Compare[[]int,int] -/
def c_slices_Compare_int_int : C := (.seq (.reg r_slices_Compare_int_int_0 [0, 1]) (.seq (.seq (.reg r_slices_Compare_int_int_1 [0, 1, 9, 10, 11]) (.block 0 (.loop l_slices_Compare_int_int_11))) (.seq (.seq (.reg r_slices_Compare_int_int_12 [35]) (.cond (.t 35) (.seq (.reg r_slices_Compare_int_int_13 [4]) .ret) .skip)) (.seq (.reg r_slices_Compare_int_int_14 [4]) .ret))))
def k_slices_Compare_int_int : Nat → List Nat
  | 0 => [0, 1]
  | 1 => [0, 1, 9, 10, 11]
  | 2 => [0, 1, 9, 10, 11, 12]
  | 3 => [0, 1, 5, 6, 9, 10, 11]
  | 4 => [0, 1, 5, 6, 9, 10, 11, 19]
  | 5 => [4]
  | 6 => [0, 1, 6, 7, 9, 10, 11]
  | 7 => [0, 1, 8, 9, 10, 11]
  | 8 => [0, 1, 8, 9, 10, 11, 28]
  | 9 => [4]
  | 10 => [0, 1, 9, 10, 11]
  | 11 => [35]
  | 12 => [4]
  | 13 => [4]
  | _ => []
theorem fn_slices_Compare_int_int : FnC Tryz.prog n_slices_Compare_int_int c_slices_Compare_int_int [(.tmp 4)] 36 :=
  ⟨Tryz.f113, _, k_slices_Compare_int_int, Tryz.func113, rfl, by kernel_rfl, by kernel_rfl, by kernel_rfl, rfl⟩
def r_cmp_Compare_int_0 : List CO := [⟨none, (some 4), (.mv (.k (.v (.int .i64 (0)))))⟩]
def r_cmp_Compare_int_1 : List CO := [⟨none, (some 7), (.mv (.t 0))⟩, ⟨none, (some 8), (.call n_cmp_isNaN_int [(.t 7)])⟩, ⟨none, (some 5), (.mv (.t 8))⟩]
def r_cmp_Compare_int_2 : List CO := [⟨none, (some 9), (.mv (.t 1))⟩, ⟨none, (some 10), (.call n_cmp_isNaN_int [(.t 9)])⟩, ⟨none, (some 6), (.mv (.t 10))⟩]
def r_cmp_Compare_int_3 : List CO := [⟨none, (some 11), (.mv (.t 5))⟩]
def r_cmp_Compare_int_4 : List CO := [⟨none, (some 12), (.mv (.t 6))⟩]
def r_cmp_Compare_int_5 : List CO := [⟨none, (some 4), (.mv (.k (.v (.int .i64 (0)))))⟩]
def r_cmp_Compare_int_6 : List CO := [⟨none, (some 4), (.mv (.k (.v (.int .i64 (-1)))))⟩]
def r_cmp_Compare_int_7 : List CO := [⟨none, (some 13), (.mv (.t 6))⟩]
def r_cmp_Compare_int_8 : List CO := [⟨none, (some 4), (.mv (.k (.v (.int .i64 (1)))))⟩]
def r_cmp_Compare_int_9 : List CO := [⟨none, (some 14), (.mv (.t 0))⟩, ⟨none, (some 15), (.mv (.t 1))⟩, ⟨none, (some 16), (.bin .lss .none (.t 14) (.t 15))⟩]
def r_cmp_Compare_int_10 : List CO := [⟨none, (some 4), (.mv (.k (.v (.int .i64 (-1)))))⟩]
def r_cmp_Compare_int_11 : List CO := [⟨none, (some 17), (.mv (.t 0))⟩, ⟨none, (some 18), (.mv (.t 1))⟩, ⟨none, (some 19), (.bin .gtr .none (.t 17) (.t 18))⟩]
def r_cmp_Compare_int_12 : List CO := [⟨none, (some 4), (.mv (.k (.v (.int .i64 (1)))))⟩]
def r_cmp_Compare_int_13 : List CO := [⟨none, (some 4), (.mv (.k (.v (.int .i64 (0)))))⟩]
/-- cmp.Compare[int] -/
def c_cmp_Compare_int : C := (.seq (.reg r_cmp_Compare_int_0 [0, 1]) (.seq (.reg r_cmp_Compare_int_1 [0, 1, 5]) (.seq (.reg r_cmp_Compare_int_2 [0, 1, 5, 6]) (.seq (.seq (.reg r_cmp_Compare_int_3 [0, 1, 6, 11]) (.cond (.t 11) (.seq (.seq (.reg r_cmp_Compare_int_4 [12]) (.cond (.t 12) (.seq (.reg r_cmp_Compare_int_5 [4]) .ret) .skip)) (.seq (.reg r_cmp_Compare_int_6 [4]) .ret)) .skip)) (.seq (.seq (.reg r_cmp_Compare_int_7 [0, 1, 13]) (.cond (.t 13) (.seq (.reg r_cmp_Compare_int_8 [4]) .ret) .skip)) (.seq (.seq (.reg r_cmp_Compare_int_9 [0, 1, 16]) (.cond (.t 16) (.seq (.reg r_cmp_Compare_int_10 [4]) .ret) .skip)) (.seq (.seq (.reg r_cmp_Compare_int_11 [19]) (.cond (.t 19) (.seq (.reg r_cmp_Compare_int_12 [4]) .ret) .skip)) (.seq (.reg r_cmp_Compare_int_13 [4]) .ret))))))))
def k_cmp_Compare_int : Nat → List Nat
  | 0 => [0, 1]
  | 1 => [0, 1, 5]
  | 2 => [0, 1, 5, 6]
  | 3 => [0, 1, 6, 11]
  | 4 => [12]
  | 5 => [4]
  | 6 => [4]
  | 7 => [0, 1, 13]
  | 8 => [4]
  | 9 => [0, 1, 16]
  | 10 => [4]
  | 11 => [19]
  | 12 => [4]
  | 13 => [4]
  | _ => []
theorem fn_cmp_Compare_int : FnC Tryz.prog n_cmp_Compare_int c_cmp_Compare_int [(.tmp 4)] 20 :=
  ⟨Tryz.f127, _, k_cmp_Compare_int, Tryz.func127, rfl, by kernel_rfl, by kernel_rfl, by kernel_rfl, rfl⟩
def r_cmp_isNaN_int_0 : List CO := [⟨none, (some 2), (.mv (.k (.v (.bool false))))⟩]
def r_cmp_isNaN_int_1 : List CO := [⟨none, (some 3), (.mv (.t 0))⟩, ⟨none, (some 4), (.mv (.t 0))⟩, ⟨none, (some 5), (.bin .neq .none (.t 3) (.t 4))⟩, ⟨none, (some 2), (.mv (.t 5))⟩]
/-- cmp.isNaN[int] -/
def c_cmp_isNaN_int : C := (.seq (.reg r_cmp_isNaN_int_0 [0]) (.seq (.reg r_cmp_isNaN_int_1 [2]) .ret))
def k_cmp_isNaN_int : Nat → List Nat
  | 0 => [0]
  | 1 => [2]
  | _ => []
theorem fn_cmp_isNaN_int : FnC Tryz.prog n_cmp_isNaN_int c_cmp_isNaN_int [(.tmp 2)] 6 :=
  ⟨Tryz.f131, _, k_cmp_isNaN_int, Tryz.func131, rfl, by kernel_rfl, by kernel_rfl, by kernel_rfl, rfl⟩
end Go.Proofs.YtopcfaffljjnbaaGreatDoor
