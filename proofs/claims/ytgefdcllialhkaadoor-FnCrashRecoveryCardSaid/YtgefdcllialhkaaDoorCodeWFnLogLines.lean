/- The compact code of the functions, and that it is theirs: written by a program of this claim. -/
import Derived.Test.YtgefdcllialhkaaDoorNums
namespace Go.Proofs.YtgefdcllialhkaaDoor
open Go.Abs
set_option maxRecDepth 100000
def r_w_vBig_0 : List CO := [⟨none, (some 2), (.mv (.k (.v (.bool false))))⟩]
def r_w_vBig_1 : List CO := [⟨none, (some 3), (.mv (.t 0))⟩, ⟨none, (some 4), (.len false (.t 3))⟩, ⟨none, (some 5), (.bin .gtr .none (.t 4) (.k (.v (.int .i64 (65536)))))⟩, ⟨none, (some 2), (.mv (.t 5))⟩]
/-- loop.example/g00884/laws.vBig -/
def c_w_vBig : C := (.seq (.reg r_w_vBig_0 [0]) (.seq (.reg r_w_vBig_1 [2]) .ret))
def k_w_vBig : Nat → List Nat
  | 0 => [0]
  | 1 => [2]
  | _ => []
theorem fn_w_vBig : FnC Tryd.prog n_w_vBig c_w_vBig [(.tmp 2)] 6 :=
  ⟨Tryd.f11, _, k_w_vBig, Tryd.func11, rfl, by kernel_rfl, by kernel_rfl, by kernel_rfl, rfl⟩
def r_w_FnLogLines_0 : List CO := [⟨none, (some 2), (.mv (.k (.v (.bool false))))⟩]
def r_w_FnLogLines_1 : List CO := [⟨none, (some 21), (.mv (.t 0))⟩, ⟨none, (some 22), (.call n_w_vBig [(.t 21)])⟩]
def r_w_FnLogLines_2 : List CO := [⟨none, (some 2), (.mv (.k (.v (.bool true))))⟩]
def r_w_FnLogLines_3 : List CO := [⟨none, (some 24), (.mv (.t 0))⟩, ⟨none, (some 25), (.call n_s_DrawEncodeRecord [(.t 24)])⟩, ⟨none, (some 23), (.mv (.t 25))⟩, ⟨none, (some 26), (.ext (.t 23) 0)⟩, ⟨none, (some 27), (.ext (.t 23) 1)⟩, ⟨none, (some 4), (.box 2 (.k (.agg [(.v (.string (bs []))), (.v (.string (bs [])))])))⟩, ⟨none, (some 3), (.mv (.t 26))⟩, ⟨none, none, (.st 2 (.t 4) (.t 27))⟩]
def r_w_FnLogLines_4 : List CO := [⟨none, (some 29), (.mv (.t 3))⟩, ⟨none, (some 30), (.ld true 2 (.t 4))⟩, ⟨none, (some 31), (.call n_i_EncodeRecord [(.t 29), (.t 30)])⟩, ⟨none, (some 28), (.mv (.t 31))⟩, ⟨none, (some 32), (.ext (.t 28) 0)⟩, ⟨none, (some 33), (.ext (.t 28) 1)⟩, ⟨none, (some 5), (.mv (.t 32))⟩, ⟨none, (some 6), (.mv (.t 33))⟩]
def r_w_FnLogLines_5 : List CO := [⟨none, (some 35), (.mv (.t 3))⟩, ⟨none, (some 36), (.ld true 2 (.t 4))⟩, ⟨none, (some 37), (.call n_s_EncodeRecord [(.t 35), (.t 36)])⟩, ⟨none, (some 34), (.mv (.t 37))⟩, ⟨none, (some 38), (.ext (.t 34) 0)⟩, ⟨none, (some 39), (.ext (.t 34) 1)⟩, ⟨none, (some 7), (.mv (.t 38))⟩, ⟨none, (some 8), (.mv (.t 39))⟩]
def r_w_FnLogLines_6 : List CO := [⟨none, (some 40), (.mv (.t 0))⟩, ⟨none, (some 41), (.call n_s_DrawRecoverLog [(.t 40)])⟩, ⟨none, (some 9), (.mv (.t 41))⟩]
def r_w_FnLogLines_7 : List CO := [⟨none, (some 43), (.mv (.t 9))⟩, ⟨none, (some 44), (.call n_i_RecoverLog [(.t 43)])⟩, ⟨none, (some 42), (.mv (.t 44))⟩, ⟨none, (some 45), (.ext (.t 42) 0)⟩, ⟨none, (some 46), (.ext (.t 42) 1)⟩, ⟨none, (some 47), (.ext (.t 42) 2)⟩, ⟨none, (some 10), (.box 3 (.k (.agg [(.v (.string (bs []))), (.v (.string (bs []))), (.v (.int .i64 (0)))])))⟩, ⟨none, none, (.st 3 (.t 10) (.t 45))⟩, ⟨none, (some 11), (.mv (.t 46))⟩, ⟨none, (some 12), (.mv (.t 47))⟩]
def r_w_FnLogLines_8 : List CO := [⟨none, (some 49), (.mv (.t 9))⟩, ⟨none, (some 50), (.call n_s_RecoverLog [(.t 49)])⟩, ⟨none, (some 48), (.mv (.t 50))⟩, ⟨none, (some 51), (.ext (.t 48) 0)⟩, ⟨none, (some 52), (.ext (.t 48) 1)⟩, ⟨none, (some 53), (.ext (.t 48) 2)⟩, ⟨none, (some 13), (.box 3 (.k (.agg [(.v (.string (bs []))), (.v (.string (bs []))), (.v (.int .i64 (0)))])))⟩, ⟨none, none, (.st 3 (.t 13) (.t 51))⟩, ⟨none, (some 14), (.mv (.t 52))⟩, ⟨none, (some 15), (.mv (.t 53))⟩]
def r_w_FnLogLines_9 : List CO := [⟨none, (some 54), (.mv (.t 5))⟩, ⟨none, (some 55), (.mv (.t 7))⟩, ⟨none, (some 56), (.bin .neq .none (.t 54) (.t 55))⟩, ⟨none, (some 57), (.mv (.t 56))⟩, ⟨(some (57, false)), (some 58), (.mv (.t 6))⟩, ⟨(some (57, false)), (some 59), (.mv (.t 8))⟩, ⟨(some (57, false)), (some 60), (.bin .neq .bool (.t 58) (.t 59))⟩, ⟨none, (some 61), (.pick (.t 57) (.k (.v (.bool true))) (.t 60))⟩, ⟨none, (some 62), (.mv (.t 61))⟩, ⟨(some (62, false)), (some 63), (.ld true 3 (.t 10))⟩, ⟨(some (62, false)), (some 64), (.ld true 3 (.t 13))⟩, ⟨(some (62, false)), (some 65), (.bin .neq (.struct [EK.str, EK.str, EK.int]) (.t 63) (.t 64))⟩, ⟨none, (some 66), (.pick (.t 62) (.k (.v (.bool true))) (.t 65))⟩, ⟨none, (some 67), (.mv (.t 66))⟩, ⟨(some (67, false)), (some 68), (.mv (.t 11))⟩, ⟨(some (67, false)), (some 69), (.mv (.t 14))⟩, ⟨(some (67, false)), (some 70), (.bin .neq .none (.t 68) (.t 69))⟩, ⟨none, (some 71), (.pick (.t 67) (.k (.v (.bool true))) (.t 70))⟩, ⟨none, (some 72), (.mv (.t 71))⟩, ⟨(some (72, false)), (some 73), (.mv (.t 12))⟩, ⟨(some (72, false)), (some 74), (.mv (.t 15))⟩, ⟨(some (72, false)), (some 75), (.bin .neq .bool (.t 73) (.t 74))⟩, ⟨none, (some 76), (.pick (.t 72) (.k (.v (.bool true))) (.t 75))⟩]
def r_w_FnLogLines_10 : List CO := [⟨none, (some 2), (.mv (.k (.v (.bool false))))⟩]
def r_w_FnLogLines_11 : List CO := [⟨none, (some 78), (.mv (.t 5))⟩, ⟨none, (some 79), (.call n_i_RecoverLog [(.t 78)])⟩, ⟨none, (some 77), (.mv (.t 79))⟩, ⟨none, (some 80), (.ext (.t 77) 0)⟩, ⟨none, (some 81), (.ext (.t 77) 1)⟩, ⟨none, (some 82), (.ext (.t 77) 2)⟩, ⟨none, (some 16), (.box 3 (.k (.agg [(.v (.string (bs []))), (.v (.string (bs []))), (.v (.int .i64 (0)))])))⟩, ⟨none, none, (.st 3 (.t 16) (.t 80))⟩, ⟨none, (some 17), (.mv (.t 81))⟩, ⟨none, (some 18), (.mv (.t 82))⟩]
def r_w_FnLogLines_12 : List CO := [⟨none, (some 83), (.mv (.t 6))⟩, ⟨none, (some 84), (.mv (.t 83))⟩, ⟨(some (84, true)), (some 85), (.mv (.t 17))⟩, ⟨(some (84, true)), (some 86), (.bin .gtr .none (.t 85) (.k (.v (.int .i64 (0)))))⟩, ⟨(some (84, true)), (some 87), (.mv (.t 3))⟩, ⟨(some (84, true)), (some 88), (.bin .eql .none (.t 87) (.k (.v (.int .i64 (0)))))⟩, ⟨(some (84, true)), (some 89), (.bin .neq .bool (.t 86) (.t 88))⟩, ⟨none, (some 90), (.pick (.t 84) (.t 89) (.k (.v (.bool false))))⟩, ⟨none, (some 91), (.mv (.t 90))⟩, ⟨(some (91, false)), (some 92), (.mv (.t 6))⟩, ⟨(some (91, false)), (some 93), (.mv (.t 92))⟩, ⟨(some (93, true)), (some 94), (.mv (.t 3))⟩, ⟨(some (93, true)), (some 95), (.bin .eql .none (.t 94) (.k (.v (.int .i64 (0)))))⟩, ⟨(some (91, false)), (some 96), (.pick (.t 93) (.t 95) (.k (.v (.bool false))))⟩, ⟨(some (91, false)), (some 97), (.mv (.t 96))⟩, ⟨(some (97, true)), (some 98), (.faddr 2 (.t 16))⟩, ⟨(some (97, true)), (some 99), (.ld false 1 (.t 98))⟩, ⟨(some (97, true)), (some 100), (.bin .neq .none (.t 99) (.k (.v (.int .i64 (1)))))⟩, ⟨(some (91, false)), (some 101), (.pick (.t 97) (.t 100) (.k (.v (.bool false))))⟩, ⟨none, (some 102), (.pick (.t 91) (.k (.v (.bool true))) (.t 101))⟩]
def r_w_FnLogLines_13 : List CO := [⟨none, (some 2), (.mv (.k (.v (.bool false))))⟩]
def r_w_FnLogLines_14 : List CO := [⟨none, (some 104), (.ld true 3 (.t 10))⟩, ⟨none, (some 105), (.call n_i_SyncLog [(.t 104)])⟩, ⟨none, (some 103), (.mv (.t 105))⟩, ⟨none, (some 106), (.ext (.t 103) 0)⟩, ⟨none, (some 107), (.ext (.t 103) 1)⟩, ⟨none, (some 19), (.box 3 (.k (.agg [(.v (.string (bs []))), (.v (.string (bs []))), (.v (.int .i64 (0)))])))⟩, ⟨none, none, (.st 3 (.t 19) (.t 106))⟩, ⟨none, (some 20), (.mv (.t 107))⟩]
def r_w_FnLogLines_15 : List CO := [⟨none, (some 108), (.mv (.t 12))⟩, ⟨none, (some 109), (.un .not (.t 108))⟩, ⟨none, (some 110), (.mv (.t 109))⟩, ⟨(some (110, false)), (some 111), (.mv (.t 20))⟩, ⟨(some (110, false)), (some 112), (.mv (.t 111))⟩, ⟨(some (112, true)), (some 113), (.ld true 3 (.t 19))⟩, ⟨(some (112, true)), (some 114), (.ld true 3 (.t 10))⟩, ⟨(some (112, true)), (some 115), (.bin .eql (.struct [EK.str, EK.str, EK.int]) (.t 113) (.t 114))⟩, ⟨(some (110, false)), (some 116), (.pick (.t 112) (.t 115) (.k (.v (.bool false))))⟩, ⟨(some (110, false)), (some 117), (.mv (.t 116))⟩, ⟨(some (117, true)), (some 118), (.ld true 3 (.t 10))⟩, ⟨(some (117, true)), (some 119), (.call n_i_IsValidLog [(.t 118)])⟩, ⟨(some (110, false)), (some 120), (.pick (.t 117) (.t 119) (.k (.v (.bool false))))⟩, ⟨(some (110, false)), (some 121), (.mv (.t 120))⟩, ⟨(some (121, true)), (some 122), (.mv (.t 6))⟩, ⟨(some (121, true)), (some 123), (.mv (.t 122))⟩, ⟨(some (123, false)), (some 124), (.mv (.t 5))⟩, ⟨(some (123, false)), (some 125), (.bin .eql .none (.t 124) (.k (.v (.string (bs [])))))⟩, ⟨(some (121, true)), (some 126), (.pick (.t 123) (.k (.v (.bool true))) (.t 125))⟩, ⟨(some (110, false)), (some 127), (.pick (.t 121) (.t 126) (.k (.v (.bool false))))⟩, ⟨none, (some 128), (.pick (.t 110) (.k (.v (.bool true))) (.t 127))⟩, ⟨none, (some 2), (.mv (.t 128))⟩]
/-- loop.example/g00884/laws.FnLogLines -/
def c_w_FnLogLines : C := (.seq (.reg r_w_FnLogLines_0 [0]) (.seq (.seq (.reg r_w_FnLogLines_1 [0, 22]) (.cond (.t 22) (.seq (.reg r_w_FnLogLines_2 [2]) .ret) .skip)) (.seq (.reg r_w_FnLogLines_3 [0, 3, 4]) (.seq (.reg r_w_FnLogLines_4 [0, 3, 4, 5, 6]) (.seq (.reg r_w_FnLogLines_5 [0, 3, 5, 6, 7, 8]) (.seq (.reg r_w_FnLogLines_6 [3, 5, 6, 7, 8, 9]) (.seq (.reg r_w_FnLogLines_7 [3, 5, 6, 7, 8, 9, 10, 11, 12]) (.seq (.reg r_w_FnLogLines_8 [3, 5, 6, 7, 8, 10, 11, 12, 13, 14, 15]) (.seq (.seq (.reg r_w_FnLogLines_9 [3, 5, 6, 10, 12, 76]) (.cond (.t 76) (.seq (.reg r_w_FnLogLines_10 [2]) .ret) .skip)) (.seq (.reg r_w_FnLogLines_11 [3, 5, 6, 10, 12, 16, 17]) (.seq (.seq (.reg r_w_FnLogLines_12 [5, 6, 10, 12, 102]) (.cond (.t 102) (.seq (.reg r_w_FnLogLines_13 [2]) .ret) .skip)) (.seq (.reg r_w_FnLogLines_14 [5, 6, 10, 12, 19, 20]) (.seq (.reg r_w_FnLogLines_15 [2]) .ret)))))))))))))
def k_w_FnLogLines : Nat → List Nat
  | 0 => [0]
  | 1 => [0, 22]
  | 2 => [2]
  | 3 => [0, 3, 4]
  | 4 => [0, 3, 4, 5, 6]
  | 5 => [0, 3, 5, 6, 7, 8]
  | 6 => [3, 5, 6, 7, 8, 9]
  | 7 => [3, 5, 6, 7, 8, 9, 10, 11, 12]
  | 8 => [3, 5, 6, 7, 8, 10, 11, 12, 13, 14, 15]
  | 9 => [3, 5, 6, 10, 12, 76]
  | 10 => [2]
  | 11 => [3, 5, 6, 10, 12, 16, 17]
  | 12 => [5, 6, 10, 12, 102]
  | 13 => [2]
  | 14 => [5, 6, 10, 12, 19, 20]
  | 15 => [2]
  | _ => []
theorem fn_w_FnLogLines : FnC Tryd.prog n_w_FnLogLines c_w_FnLogLines [(.tmp 2)] 129 :=
  ⟨Tryd.f5, _, k_w_FnLogLines, Tryd.func5, rfl, by kernel_rfl, by kernel_rfl, by kernel_rfl, rfl⟩
end Go.Proofs.YtgefdcllialhkaaDoor
