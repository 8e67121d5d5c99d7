/- The compact code of the functions, and that it is theirs: written by a program of this claim. -/
import Derived.Test.YtopcfaffljjnbaaDoorNums
namespace Go.Proofs.YtopcfaffljjnbaaDoor
open Go.Abs
set_option maxRecDepth 100000
def r_strings_genSplit_0 : List CO := [⟨none, (some 8), (.mv (.k (.v (.slice none 0 0))))⟩]
def r_strings_genSplit_1 : List CO := [⟨none, (some 12), (.mv (.t 3))⟩, ⟨none, (some 13), (.bin .eql .none (.t 12) (.k (.v (.int .i64 (0)))))⟩]
def r_strings_genSplit_2 : List CO := [⟨none, (some 8), (.mv (.k (.v (.slice none 0 0))))⟩]
def r_strings_genSplit_3 : List CO := [⟨none, (some 14), (.mv (.t 1))⟩, ⟨none, (some 15), (.bin .eql .none (.t 14) (.k (.v (.string (bs [])))))⟩]
def r_strings_genSplit_4 : List CO := [⟨none, (some 16), (.mv (.t 0))⟩, ⟨none, (some 17), (.mv (.t 3))⟩, ⟨none, (some 18), (.call n_strings_explode [(.t 16), (.t 17)])⟩, ⟨none, (some 8), (.mv (.t 18))⟩]
def r_strings_genSplit_5 : List CO := [⟨none, (some 19), (.mv (.t 3))⟩, ⟨none, (some 20), (.bin .lss .none (.t 19) (.k (.v (.int .i64 (0)))))⟩]
def r_strings_genSplit_6 : List CO := [⟨none, (some 21), (.mv (.t 0))⟩, ⟨none, (some 22), (.mv (.t 1))⟩, ⟨none, (some 23), (.call n_strings_Count [(.t 21), (.t 22)])⟩, ⟨none, (some 24), (.bin .add .none (.t 23) (.k (.v (.int .i64 (1)))))⟩, ⟨none, (some 3), (.mv (.t 24))⟩]
def r_strings_genSplit_7 : List CO := [⟨none, (some 25), (.mv (.t 3))⟩, ⟨none, (some 26), (.mv (.t 0))⟩, ⟨none, (some 27), (.len true (.t 26))⟩, ⟨none, (some 28), (.bin .add .none (.t 27) (.k (.v (.int .i64 (1)))))⟩, ⟨none, (some 29), (.mm false [(.t 25), (.t 28)])⟩, ⟨none, (some 3), (.mv (.t 29))⟩]
def r_strings_genSplit_8 : List CO := [⟨none, (some 30), (.mv (.t 3))⟩, ⟨none, (some 31), (.mks 1 (.v (.string (bs []))) 16 (.t 30) (.t 30))⟩, ⟨none, (some 9), (.mv (.t 31))⟩]
def r_strings_genSplit_9 : List CO := [⟨none, (some 32), (.mv (.t 3))⟩, ⟨none, (some 33), (.bin .sub .none (.t 32) (.k (.v (.int .i64 (1)))))⟩, ⟨none, (some 3), (.mv (.t 33))⟩]
def r_strings_genSplit_10 : List CO := [⟨none, (some 10), (.mv (.k (.v (.int .i64 (0)))))⟩]
def r_strings_genSplit_11 : List CO := [⟨none, (some 34), (.mv (.t 10))⟩, ⟨none, (some 35), (.mv (.t 3))⟩, ⟨none, (some 36), (.bin .lss .none (.t 34) (.t 35))⟩]
def r_strings_genSplit_12 : List CO := [⟨none, (some 37), (.mv (.t 0))⟩, ⟨none, (some 38), (.mv (.t 1))⟩, ⟨none, (some 39), (.call n_strings_Index [(.t 37), (.t 38)])⟩, ⟨none, (some 11), (.mv (.t 39))⟩]
def r_strings_genSplit_13 : List CO := [⟨none, (some 40), (.mv (.t 11))⟩, ⟨none, (some 41), (.bin .lss .none (.t 40) (.k (.v (.int .i64 (0)))))⟩]
def r_strings_genSplit_14 : List CO := [⟨none, (some 42), (.mv (.t 9))⟩, ⟨none, (some 43), (.mv (.t 10))⟩, ⟨none, (some 44), (.mv (.t 0))⟩, ⟨none, (some 45), (.mv (.t 11))⟩, ⟨none, (some 46), (.mv (.t 2))⟩, ⟨none, (some 47), (.bin .add .none (.t 45) (.t 46))⟩, ⟨none, (some 48), (.slc none (.t 44) none (some (.t 47)))⟩, ⟨none, (some 49), (.iaddr 1 (.t 42) (.t 43))⟩, ⟨none, none, (.st 1 (.t 49) (.t 48))⟩]
def r_strings_genSplit_15 : List CO := [⟨none, (some 50), (.mv (.t 0))⟩, ⟨none, (some 51), (.mv (.t 11))⟩, ⟨none, (some 52), (.mv (.t 1))⟩, ⟨none, (some 53), (.len true (.t 52))⟩, ⟨none, (some 54), (.bin .add .none (.t 51) (.t 53))⟩, ⟨none, (some 55), (.slc none (.t 50) (some (.t 54)) none)⟩, ⟨none, (some 0), (.mv (.t 55))⟩]
def r_strings_genSplit_16 : List CO := [⟨none, (some 56), (.mv (.t 10))⟩, ⟨none, (some 57), (.bin .add .none (.t 56) (.k (.v (.int .i64 (1)))))⟩, ⟨none, (some 10), (.mv (.t 57))⟩]
def l_strings_genSplit_17 : C := (.seq (.seq (.reg r_strings_genSplit_11 [0, 1, 2, 3, 9, 10, 36]) (.cond (.t 36) .skip (.exit 0))) (.block 1 (.seq (.reg r_strings_genSplit_12 [0, 1, 2, 3, 9, 10, 11]) (.seq (.seq (.reg r_strings_genSplit_13 [0, 1, 2, 3, 9, 10, 11, 41]) (.cond (.t 41) (.exit 0) .skip)) (.seq (.reg r_strings_genSplit_14 [0, 1, 2, 3, 9, 10, 11]) (.seq (.reg r_strings_genSplit_15 [0, 1, 2, 3, 9, 10]) (.reg r_strings_genSplit_16 [0, 1, 2, 3, 9, 10])))))))
def r_strings_genSplit_18 : List CO := [⟨none, (some 58), (.mv (.t 9))⟩, ⟨none, (some 59), (.mv (.t 10))⟩, ⟨none, (some 60), (.mv (.t 0))⟩, ⟨none, (some 61), (.iaddr 1 (.t 58) (.t 59))⟩, ⟨none, none, (.st 1 (.t 61) (.t 60))⟩]
def r_strings_genSplit_19 : List CO := [⟨none, (some 62), (.mv (.t 9))⟩, ⟨none, (some 63), (.mv (.t 10))⟩, ⟨none, (some 64), (.bin .add .none (.t 63) (.k (.v (.int .i64 (1)))))⟩, ⟨none, (some 65), (.slc (some 1) (.t 62) none (some (.t 64)))⟩, ⟨none, (some 8), (.mv (.t 65))⟩]
/-- strings.genSplit -/
def c_strings_genSplit : C := (.seq (.reg r_strings_genSplit_0 [0, 1, 2, 3]) (.seq (.seq (.reg r_strings_genSplit_1 [0, 1, 2, 3, 13]) (.cond (.t 13) (.seq (.reg r_strings_genSplit_2 [8]) .ret) .skip)) (.seq (.seq (.reg r_strings_genSplit_3 [0, 1, 2, 3, 15]) (.cond (.t 15) (.seq (.reg r_strings_genSplit_4 [8]) .ret) .skip)) (.seq (.seq (.reg r_strings_genSplit_5 [0, 1, 2, 3, 20]) (.cond (.t 20) (.reg r_strings_genSplit_6 [0, 1, 2, 3]) .skip)) (.seq (.reg r_strings_genSplit_7 [0, 1, 2, 3]) (.seq (.reg r_strings_genSplit_8 [0, 1, 2, 3, 9]) (.seq (.reg r_strings_genSplit_9 [0, 1, 2, 3, 9]) (.seq (.reg r_strings_genSplit_10 [0, 1, 2, 3, 9, 10]) (.seq (.block 0 (.loop l_strings_genSplit_17)) (.seq (.reg r_strings_genSplit_18 [9, 10]) (.seq (.reg r_strings_genSplit_19 [8]) .ret)))))))))))
def k_strings_genSplit : Nat → List Nat
  | 0 => [0, 1, 2, 3]
  | 1 => [0, 1, 2, 3, 13]
  | 2 => [8]
  | 3 => [0, 1, 2, 3, 15]
  | 4 => [8]
  | 5 => [0, 1, 2, 3, 20]
  | 6 => [0, 1, 2, 3]
  | 7 => [0, 1, 2, 3]
  | 8 => [0, 1, 2, 3, 9]
  | 9 => [0, 1, 2, 3, 9]
  | 10 => [0, 1, 2, 3, 9, 10]
  | 11 => [0, 1, 2, 3, 9, 10, 36]
  | 12 => [0, 1, 2, 3, 9, 10, 11]
  | 13 => [0, 1, 2, 3, 9, 10, 11, 41]
  | 14 => [0, 1, 2, 3, 9, 10, 11]
  | 15 => [0, 1, 2, 3, 9, 10]
  | 16 => [0, 1, 2, 3, 9, 10]
  | 17 => [9, 10]
  | 18 => [8]
  | _ => []
theorem fn_strings_genSplit : FnC Tryd.prog n_strings_genSplit c_strings_genSplit [(.tmp 8)] 66 :=
  ⟨Tryd.f38, _, k_strings_genSplit, Tryd.func38, rfl, by kernel_rfl, by kernel_rfl, by kernel_rfl, rfl⟩
def r_strings_Split_0 : List CO := [⟨none, (some 4), (.mv (.k (.v (.slice none 0 0))))⟩]
def r_strings_Split_1 : List CO := [⟨none, (some 5), (.mv (.t 0))⟩, ⟨none, (some 6), (.mv (.t 1))⟩, ⟨none, (some 7), (.call n_strings_genSplit [(.t 5), (.t 6), (.k (.v (.int .i64 (0)))), (.k (.v (.int .i64 (-1))))])⟩, ⟨none, (some 4), (.mv (.t 7))⟩]
/-- strings.Split -/
def c_strings_Split : C := (.seq (.reg r_strings_Split_0 [0, 1]) (.seq (.reg r_strings_Split_1 [4]) .ret))
def k_strings_Split : Nat → List Nat
  | 0 => [0, 1]
  | 1 => [4]
  | _ => []
theorem fn_strings_Split : FnC Tryd.prog n_strings_Split c_strings_Split [(.tmp 4)] 8 :=
  ⟨Tryd.f18, _, k_strings_Split, Tryd.func18, rfl, by kernel_rfl, by kernel_rfl, by kernel_rfl, rfl⟩
end Go.Proofs.YtopcfaffljjnbaaDoor
