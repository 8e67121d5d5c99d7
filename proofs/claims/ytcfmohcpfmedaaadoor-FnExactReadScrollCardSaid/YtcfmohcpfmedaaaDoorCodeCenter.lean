/- The compact code of the functions, and that it is theirs: written by a program of this claim. -/
import Derived.Test.YtcfmohcpfmedaaaDoorNums
namespace Go.Proofs.YtcfmohcpfmedaaaDoor
open Go.Abs
set_option maxRecDepth 100000
def r_i_centered_0 : List CO := [⟨none, (some 4), (.mv (.k (.v (.string (bs [])))))⟩]
def r_i_centered_1 : List CO := [⟨none, (some 6), (.mv (.t 1))⟩, ⟨none, (some 7), (.mv (.t 0))⟩, ⟨none, (some 8), (.len true (.t 7))⟩, ⟨none, (some 9), (.bin .sub .none (.t 6) (.t 8))⟩, ⟨none, (some 5), (.mv (.t 9))⟩]
def r_i_centered_2 : List CO := [⟨none, (some 10), (.mv (.t 5))⟩, ⟨none, (some 11), (.bin .quo .none (.t 10) (.k (.v (.int .i64 (2)))))⟩, ⟨none, (some 12), (.call n_strings_Repeat [(.k (.v (.string (bs [32])))), (.t 11)])⟩, ⟨none, (some 13), (.mv (.t 0))⟩, ⟨none, (some 14), (.bin .add .none (.t 12) (.t 13))⟩, ⟨none, (some 15), (.mv (.t 5))⟩, ⟨none, (some 16), (.mv (.t 5))⟩, ⟨none, (some 17), (.bin .quo .none (.t 16) (.k (.v (.int .i64 (2)))))⟩, ⟨none, (some 18), (.bin .sub .none (.t 15) (.t 17))⟩, ⟨none, (some 19), (.call n_strings_Repeat [(.k (.v (.string (bs [32])))), (.t 18)])⟩, ⟨none, (some 20), (.bin .add .none (.t 14) (.t 19))⟩, ⟨none, (some 4), (.mv (.t 20))⟩]
/-- loop.example/g00884/impl.centered -/
def c_i_centered : C := (.seq (.reg r_i_centered_0 [0, 1]) (.seq (.reg r_i_centered_1 [0, 5]) (.seq (.reg r_i_centered_2 [4]) .ret)))
def k_i_centered : Nat → List Nat
  | 0 => [0, 1]
  | 1 => [0, 5]
  | 2 => [4]
  | _ => []
theorem fn_i_centered : FnC Tryd.prog n_i_centered c_i_centered [(.tmp 4)] 21 :=
  ⟨Tryd.f34, _, k_i_centered, Tryd.func34, rfl, by kernel_rfl, by kernel_rfl, by kernel_rfl, rfl⟩
def r_s_l23Center_0 : List CO := [⟨none, (some 4), (.mv (.k (.v (.string (bs [])))))⟩]
def r_s_l23Center_1 : List CO := [⟨none, (some 7), (.mv (.t 1))⟩, ⟨none, (some 8), (.mv (.t 0))⟩, ⟨none, (some 9), (.len true (.t 8))⟩, ⟨none, (some 10), (.bin .sub .none (.t 7) (.t 9))⟩, ⟨none, (some 11), (.bin .quo .none (.t 10) (.k (.v (.int .i64 (2)))))⟩, ⟨none, (some 5), (.mv (.t 11))⟩]
def r_s_l23Center_2 : List CO := [⟨none, (some 6), (.mv (.k (.v (.string (bs [])))))⟩]
def r_s_l23Center_3 : List CO := [⟨none, (some 12), (.mv (.t 6))⟩, ⟨none, (some 13), (.len true (.t 12))⟩, ⟨none, (some 14), (.mv (.t 5))⟩, ⟨none, (some 15), (.bin .lss .none (.t 13) (.t 14))⟩]
def r_s_l23Center_4 : List CO := [⟨none, (some 16), (.mv (.t 6))⟩, ⟨none, (some 17), (.bin .add .none (.t 16) (.k (.v (.string (bs [32])))))⟩, ⟨none, (some 6), (.mv (.t 17))⟩]
def l_s_l23Center_5 : C := (.seq (.seq (.reg r_s_l23Center_3 [0, 1, 5, 6, 15]) (.cond (.t 15) .skip (.exit 0))) (.block 1 (.reg r_s_l23Center_4 [0, 1, 5, 6])))
def r_s_l23Center_6 : List CO := [⟨none, (some 18), (.mv (.t 6))⟩, ⟨none, (some 19), (.mv (.t 0))⟩, ⟨none, (some 20), (.bin .add .none (.t 18) (.t 19))⟩, ⟨none, (some 6), (.mv (.t 20))⟩]
def r_s_l23Center_7 : List CO := [⟨none, (some 21), (.mv (.t 6))⟩, ⟨none, (some 22), (.len true (.t 21))⟩, ⟨none, (some 23), (.mv (.t 1))⟩, ⟨none, (some 24), (.bin .lss .none (.t 22) (.t 23))⟩]
def r_s_l23Center_8 : List CO := [⟨none, (some 25), (.mv (.t 6))⟩, ⟨none, (some 26), (.bin .add .none (.t 25) (.k (.v (.string (bs [32])))))⟩, ⟨none, (some 6), (.mv (.t 26))⟩]
def l_s_l23Center_9 : C := (.seq (.seq (.reg r_s_l23Center_7 [1, 6, 24]) (.cond (.t 24) .skip (.exit 2))) (.block 3 (.reg r_s_l23Center_8 [1, 6])))
def r_s_l23Center_10 : List CO := [⟨none, (some 27), (.mv (.t 6))⟩, ⟨none, (some 4), (.mv (.t 27))⟩]
/-- loop.example/g00884/spec.l23Center -/
def c_s_l23Center : C := (.seq (.reg r_s_l23Center_0 [0, 1]) (.seq (.reg r_s_l23Center_1 [0, 1, 5]) (.seq (.reg r_s_l23Center_2 [0, 1, 5, 6]) (.seq (.block 0 (.loop l_s_l23Center_5)) (.seq (.reg r_s_l23Center_6 [1, 6]) (.seq (.block 2 (.loop l_s_l23Center_9)) (.seq (.reg r_s_l23Center_10 [4]) .ret)))))))
def k_s_l23Center : Nat → List Nat
  | 0 => [0, 1]
  | 1 => [0, 1, 5]
  | 2 => [0, 1, 5, 6]
  | 3 => [0, 1, 5, 6, 15]
  | 4 => [0, 1, 5, 6]
  | 5 => [1, 6]
  | 6 => [1, 6, 24]
  | 7 => [1, 6]
  | 8 => [4]
  | _ => []
theorem fn_s_l23Center : FnC Tryd.prog n_s_l23Center c_s_l23Center [(.tmp 4)] 28 :=
  ⟨Tryd.f31, _, k_s_l23Center, Tryd.func31, rfl, by kernel_rfl, by kernel_rfl, by kernel_rfl, rfl⟩
end Go.Proofs.YtcfmohcpfmedaaaDoor
