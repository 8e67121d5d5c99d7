/- The compact code of the functions, and that it is theirs: written by a program of this claim. -/
import Derived.Test.YtcfmohcpfmedaaaDoorNums
namespace Go.Proofs.YtcfmohcpfmedaaaDoor
open Go.Abs
set_option maxRecDepth 100000
def r_i_FillLines_0 : List CO := [⟨none, (some 4), (.mv (.k (.v (.slice none 0 0))))⟩, ⟨none, (some 5), (.mv (.k (.v (.bool false))))⟩]
def r_i_FillLines_1 : List CO := [⟨none, (some 6), (.mv (.t 0))⟩, ⟨none, (some 7), (.mv (.t 1))⟩, ⟨none, (some 8), (.call n_i_isOnScroll [(.t 6), (.t 7)])⟩, ⟨none, (some 9), (.un .not (.t 8))⟩]
def r_i_FillLines_2 : List CO := [⟨none, (some 4), (.mv (.k (.v (.slice none 0 0))))⟩, ⟨none, (some 5), (.mv (.k (.v (.bool false))))⟩]
def r_i_FillLines_3 : List CO := [⟨none, (some 10), (.mv (.t 0))⟩, ⟨none, (some 11), (.mv (.t 1))⟩, ⟨none, (some 12), (.call n_i_wrapped [(.t 10), (.t 11)])⟩, ⟨none, (some 4), (.mv (.t 12))⟩, ⟨none, (some 5), (.mv (.k (.v (.bool true))))⟩]
/-- loop.example/g00884/impl.FillLines -/
def c_i_FillLines : C := (.seq (.reg r_i_FillLines_0 [0, 1]) (.seq (.seq (.reg r_i_FillLines_1 [0, 1, 9]) (.cond (.t 9) (.seq (.reg r_i_FillLines_2 [4, 5]) .ret) .skip)) (.seq (.reg r_i_FillLines_3 [4, 5]) .ret)))
def k_i_FillLines : Nat → List Nat
  | 0 => [0, 1]
  | 1 => [0, 1, 9]
  | 2 => [4, 5]
  | 3 => [4, 5]
  | _ => []
theorem fn_i_FillLines : FnC Tryd.prog n_i_FillLines c_i_FillLines [(.tmp 4), (.tmp 5)] 13 :=
  ⟨Tryd.f10, _, k_i_FillLines, Tryd.func10, rfl, by kernel_rfl, by kernel_rfl, by kernel_rfl, rfl⟩
def r_s_FillLines_0 : List CO := [⟨none, (some 4), (.mv (.k (.v (.slice none 0 0))))⟩, ⟨none, (some 5), (.mv (.k (.v (.bool false))))⟩]
def r_s_FillLines_1 : List CO := [⟨none, (some 6), (.mv (.t 0))⟩, ⟨none, (some 7), (.mv (.t 1))⟩, ⟨none, (some 8), (.call n_s_l23Fits [(.t 6), (.t 7)])⟩, ⟨none, (some 9), (.un .not (.t 8))⟩]
def r_s_FillLines_2 : List CO := [⟨none, (some 10), (.bslice 1 (.v (.string (bs []))) 0 [])⟩, ⟨none, (some 4), (.mv (.t 10))⟩, ⟨none, (some 5), (.mv (.k (.v (.bool false))))⟩]
def r_s_FillLines_3 : List CO := [⟨none, (some 11), (.mv (.t 0))⟩, ⟨none, (some 12), (.mv (.t 1))⟩, ⟨none, (some 13), (.call n_s_l23Fill [(.t 11), (.t 12)])⟩, ⟨none, (some 4), (.mv (.t 13))⟩, ⟨none, (some 5), (.mv (.k (.v (.bool true))))⟩]
/-- loop.example/g00884/spec.FillLines -/
def c_s_FillLines : C := (.seq (.reg r_s_FillLines_0 [0, 1]) (.seq (.seq (.reg r_s_FillLines_1 [0, 1, 9]) (.cond (.t 9) (.seq (.reg r_s_FillLines_2 [4, 5]) .ret) .skip)) (.seq (.reg r_s_FillLines_3 [4, 5]) .ret)))
def k_s_FillLines : Nat → List Nat
  | 0 => [0, 1]
  | 1 => [0, 1, 9]
  | 2 => [4, 5]
  | 3 => [4, 5]
  | _ => []
theorem fn_s_FillLines : FnC Tryd.prog n_s_FillLines c_s_FillLines [(.tmp 4), (.tmp 5)] 14 :=
  ⟨Tryd.f9, _, k_s_FillLines, Tryd.func9, rfl, by kernel_rfl, by kernel_rfl, by kernel_rfl, rfl⟩
def r_w_FnExactFillLines_0 : List CO := [⟨none, (some 4), (.mv (.k (.v (.bool false))))⟩]
def r_w_FnExactFillLines_1 : List CO := [⟨none, (some 13), (.mv (.t 0))⟩, ⟨none, (some 14), (.len true (.t 13))⟩, ⟨none, (some 15), (.bin .gtr .none (.t 14) (.k (.v (.int .i64 (1048576)))))⟩]
def r_w_FnExactFillLines_2 : List CO := [⟨none, (some 4), (.mv (.k (.v (.bool true))))⟩]
def r_w_FnExactFillLines_3 : List CO := [⟨none, (some 17), (.mv (.t 0))⟩, ⟨none, (some 18), (.mv (.t 1))⟩, ⟨none, (some 19), (.call n_s_FillLines [(.t 17), (.t 18)])⟩, ⟨none, (some 16), (.mv (.t 19))⟩, ⟨none, (some 20), (.ext (.t 16) 0)⟩, ⟨none, (some 21), (.ext (.t 16) 1)⟩, ⟨none, (some 5), (.mv (.t 20))⟩, ⟨none, (some 6), (.mv (.t 21))⟩]
def r_w_FnExactFillLines_4 : List CO := [⟨none, (some 23), (.mv (.t 0))⟩, ⟨none, (some 24), (.mv (.t 1))⟩, ⟨none, (some 25), (.call n_i_FillLines [(.t 23), (.t 24)])⟩, ⟨none, (some 22), (.mv (.t 25))⟩, ⟨none, (some 26), (.ext (.t 22) 0)⟩, ⟨none, (some 27), (.ext (.t 22) 1)⟩, ⟨none, (some 7), (.mv (.t 26))⟩, ⟨none, (some 8), (.mv (.t 27))⟩]
def r_w_FnExactFillLines_5 : List CO := [⟨none, (some 28), (.mv (.t 7))⟩, ⟨none, (some 29), (.mv (.t 5))⟩, ⟨none, (some 30), (.call n_w_eqStringS [(.t 28), (.t 29)])⟩, ⟨none, (some 31), (.un .not (.t 30))⟩, ⟨none, (some 32), (.mv (.t 31))⟩, ⟨(some (32, false)), (some 33), (.mv (.t 8))⟩, ⟨(some (32, false)), (some 34), (.mv (.t 6))⟩, ⟨(some (32, false)), (some 35), (.bin .neq .bool (.t 33) (.t 34))⟩, ⟨none, (some 36), (.pick (.t 32) (.k (.v (.bool true))) (.t 35))⟩]
def r_w_FnExactFillLines_6 : List CO := [⟨none, (some 4), (.mv (.k (.v (.bool false))))⟩]
def r_w_FnExactFillLines_7 : List CO := [⟨none, (some 9), (.mv (.k (.v (.int .i64 (1)))))⟩]
def r_w_FnExactFillLines_8 : List CO := [⟨none, (some 37), (.mv (.t 7))⟩, ⟨none, (some 38), (.mv (.t 9))⟩, ⟨none, (some 39), (.call n_w_markStringS [(.t 37), (.t 38)])⟩, ⟨none, (some 9), (.mv (.t 39))⟩]
def r_w_FnExactFillLines_9 : List CO := [⟨none, (some 10), (.mv (.k (.v (.int .i64 (1)))))⟩]
def r_w_FnExactFillLines_10 : List CO := [⟨none, (some 40), (.mv (.t 7))⟩, ⟨none, (some 41), (.mv (.t 10))⟩, ⟨none, (some 42), (.call n_w_heldStringS [(.t 40), (.t 41)])⟩, ⟨none, (some 10), (.mv (.t 42))⟩]
def r_w_FnExactFillLines_11 : List CO := [⟨none, (some 43), (.mv (.t 10))⟩, ⟨none, (some 44), (.bin .lss .none (.t 43) (.k (.v (.int .i64 (0)))))⟩]
def r_w_FnExactFillLines_12 : List CO := [⟨none, (some 4), (.mv (.k (.v (.bool false))))⟩]
def r_w_FnExactFillLines_13 : List CO := [⟨none, (some 45), (.mv (.t 10))⟩, ⟨none, (some 46), (.mv (.t 9))⟩, ⟨none, (some 47), (.bin .neq .none (.t 45) (.t 46))⟩]
def r_w_FnExactFillLines_14 : List CO := [⟨none, (some 4), (.mv (.k (.v (.bool false))))⟩]
def r_w_FnExactFillLines_15 : List CO := [⟨none, (some 49), (.mv (.t 0))⟩, ⟨none, (some 50), (.mv (.t 1))⟩, ⟨none, (some 51), (.call n_i_FillLines [(.t 49), (.t 50)])⟩, ⟨none, (some 48), (.mv (.t 51))⟩, ⟨none, (some 52), (.ext (.t 48) 0)⟩, ⟨none, (some 53), (.ext (.t 48) 1)⟩, ⟨none, (some 11), (.mv (.t 52))⟩, ⟨none, (some 12), (.mv (.t 53))⟩]
def r_w_FnExactFillLines_16 : List CO := [⟨none, (some 54), (.mv (.t 11))⟩, ⟨none, (some 55), (.mv (.t 5))⟩, ⟨none, (some 56), (.call n_w_eqStringS [(.t 54), (.t 55)])⟩, ⟨none, (some 57), (.un .not (.t 56))⟩, ⟨none, (some 58), (.mv (.t 57))⟩, ⟨(some (58, false)), (some 59), (.mv (.t 12))⟩, ⟨(some (58, false)), (some 60), (.mv (.t 6))⟩, ⟨(some (58, false)), (some 61), (.bin .neq .bool (.t 59) (.t 60))⟩, ⟨none, (some 62), (.pick (.t 58) (.k (.v (.bool true))) (.t 61))⟩]
def r_w_FnExactFillLines_17 : List CO := [⟨none, (some 4), (.mv (.k (.v (.bool false))))⟩]
def r_w_FnExactFillLines_18 : List CO := [⟨none, (some 10), (.mv (.k (.v (.int .i64 (1)))))⟩]
def r_w_FnExactFillLines_19 : List CO := [⟨none, (some 63), (.mv (.t 7))⟩, ⟨none, (some 64), (.mv (.t 10))⟩, ⟨none, (some 65), (.call n_w_heldStringS [(.t 63), (.t 64)])⟩, ⟨none, (some 10), (.mv (.t 65))⟩]
def r_w_FnExactFillLines_20 : List CO := [⟨none, (some 66), (.mv (.t 10))⟩, ⟨none, (some 67), (.bin .lss .none (.t 66) (.k (.v (.int .i64 (0)))))⟩]
def r_w_FnExactFillLines_21 : List CO := [⟨none, (some 4), (.mv (.k (.v (.bool false))))⟩]
def r_w_FnExactFillLines_22 : List CO := [⟨none, (some 68), (.mv (.t 10))⟩, ⟨none, (some 69), (.mv (.t 9))⟩, ⟨none, (some 70), (.bin .neq .none (.t 68) (.t 69))⟩]
def r_w_FnExactFillLines_23 : List CO := [⟨none, (some 4), (.mv (.k (.v (.bool false))))⟩]
def r_w_FnExactFillLines_24 : List CO := [⟨none, (some 4), (.mv (.k (.v (.bool true))))⟩]
/-- loop.example/g00884/laws.FnExactFillLines -/
def c_w_FnExactFillLines : C := (.seq (.reg r_w_FnExactFillLines_0 [0, 1]) (.seq (.seq (.reg r_w_FnExactFillLines_1 [0, 1, 15]) (.cond (.t 15) (.seq (.reg r_w_FnExactFillLines_2 [4]) .ret) .skip)) (.seq (.reg r_w_FnExactFillLines_3 [0, 1, 5, 6]) (.seq (.reg r_w_FnExactFillLines_4 [0, 1, 5, 6, 7, 8]) (.seq (.seq (.reg r_w_FnExactFillLines_5 [0, 1, 5, 6, 7, 36]) (.cond (.t 36) (.seq (.reg r_w_FnExactFillLines_6 [4]) .ret) .skip)) (.seq (.reg r_w_FnExactFillLines_7 [0, 1, 5, 6, 7, 9]) (.seq (.reg r_w_FnExactFillLines_8 [0, 1, 5, 6, 7, 9]) (.seq (.reg r_w_FnExactFillLines_9 [0, 1, 5, 6, 7, 9, 10]) (.seq (.reg r_w_FnExactFillLines_10 [0, 1, 5, 6, 7, 9, 10]) (.seq (.seq (.reg r_w_FnExactFillLines_11 [0, 1, 5, 6, 7, 9, 10, 44]) (.cond (.t 44) (.seq (.reg r_w_FnExactFillLines_12 [4]) .ret) .skip)) (.seq (.seq (.reg r_w_FnExactFillLines_13 [0, 1, 5, 6, 7, 9, 47]) (.cond (.t 47) (.seq (.reg r_w_FnExactFillLines_14 [4]) .ret) .skip)) (.seq (.reg r_w_FnExactFillLines_15 [5, 6, 7, 9, 11, 12]) (.seq (.seq (.reg r_w_FnExactFillLines_16 [7, 9, 62]) (.cond (.t 62) (.seq (.reg r_w_FnExactFillLines_17 [4]) .ret) .skip)) (.seq (.reg r_w_FnExactFillLines_18 [7, 9, 10]) (.seq (.reg r_w_FnExactFillLines_19 [9, 10]) (.seq (.seq (.reg r_w_FnExactFillLines_20 [9, 10, 67]) (.cond (.t 67) (.seq (.reg r_w_FnExactFillLines_21 [4]) .ret) .skip)) (.seq (.seq (.reg r_w_FnExactFillLines_22 [70]) (.cond (.t 70) (.seq (.reg r_w_FnExactFillLines_23 [4]) .ret) .skip)) (.seq (.reg r_w_FnExactFillLines_24 [4]) .ret))))))))))))))))))
def k_w_FnExactFillLines : Nat → List Nat
  | 0 => [0, 1]
  | 1 => [0, 1, 15]
  | 2 => [4]
  | 3 => [0, 1, 5, 6]
  | 4 => [0, 1, 5, 6, 7, 8]
  | 5 => [0, 1, 5, 6, 7, 36]
  | 6 => [4]
  | 7 => [0, 1, 5, 6, 7, 9]
  | 8 => [0, 1, 5, 6, 7, 9]
  | 9 => [0, 1, 5, 6, 7, 9, 10]
  | 10 => [0, 1, 5, 6, 7, 9, 10]
  | 11 => [0, 1, 5, 6, 7, 9, 10, 44]
  | 12 => [4]
  | 13 => [0, 1, 5, 6, 7, 9, 47]
  | 14 => [4]
  | 15 => [5, 6, 7, 9, 11, 12]
  | 16 => [7, 9, 62]
  | 17 => [4]
  | 18 => [7, 9, 10]
  | 19 => [9, 10]
  | 20 => [9, 10, 67]
  | 21 => [4]
  | 22 => [70]
  | 23 => [4]
  | 24 => [4]
  | _ => []
theorem fn_w_FnExactFillLines : FnC Tryd.prog n_w_FnExactFillLines c_w_FnExactFillLines [(.tmp 4)] 71 :=
  ⟨Tryd.f3, _, k_w_FnExactFillLines, Tryd.func3, rfl, by kernel_rfl, by kernel_rfl, by kernel_rfl, rfl⟩
end Go.Proofs.YtcfmohcpfmedaaaDoor
