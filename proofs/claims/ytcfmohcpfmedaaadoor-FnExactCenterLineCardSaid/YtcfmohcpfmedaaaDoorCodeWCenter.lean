/- The compact code of the functions, and that it is theirs: written by a program of this claim. -/
import Derived.Test.YtcfmohcpfmedaaaDoorNums
namespace Go.Proofs.YtcfmohcpfmedaaaDoor
open Go.Abs
set_option maxRecDepth 100000
def r_s_CenterLine_0 : List CO := [⟨none, (some 4), (.mv (.k (.v (.string (bs [])))))⟩, ⟨none, (some 5), (.mv (.k (.v (.bool false))))⟩]
def r_s_CenterLine_1 : List CO := [⟨none, (some 6), (.mv (.t 0))⟩, ⟨none, (some 7), (.call n_s_l23Good [(.t 6)])⟩, ⟨none, (some 8), (.un .not (.t 7))⟩, ⟨none, (some 9), (.mv (.t 8))⟩, ⟨(some (9, false)), (some 10), (.mv (.t 1))⟩, ⟨(some (9, false)), (some 11), (.mv (.t 0))⟩, ⟨(some (9, false)), (some 12), (.len true (.t 11))⟩, ⟨(some (9, false)), (some 13), (.call n_s_l1In [(.t 10), (.t 12), (.k (.v (.int .i64 (40))))])⟩, ⟨(some (9, false)), (some 14), (.un .not (.t 13))⟩, ⟨none, (some 15), (.pick (.t 9) (.k (.v (.bool true))) (.t 14))⟩]
def r_s_CenterLine_2 : List CO := [⟨none, (some 4), (.mv (.k (.v (.string (bs [])))))⟩, ⟨none, (some 5), (.mv (.k (.v (.bool false))))⟩]
def r_s_CenterLine_3 : List CO := [⟨none, (some 16), (.mv (.t 0))⟩, ⟨none, (some 17), (.mv (.t 1))⟩, ⟨none, (some 18), (.call n_s_l23Center [(.t 16), (.t 17)])⟩, ⟨none, (some 4), (.mv (.t 18))⟩, ⟨none, (some 5), (.mv (.k (.v (.bool true))))⟩]
/-- loop.example/g00884/spec.CenterLine -/
def c_s_CenterLine : C := (.seq (.reg r_s_CenterLine_0 [0, 1]) (.seq (.seq (.reg r_s_CenterLine_1 [0, 1, 15]) (.cond (.t 15) (.seq (.reg r_s_CenterLine_2 [4, 5]) .ret) .skip)) (.seq (.reg r_s_CenterLine_3 [4, 5]) .ret)))
def k_s_CenterLine : Nat → List Nat
  | 0 => [0, 1]
  | 1 => [0, 1, 15]
  | 2 => [4, 5]
  | 3 => [4, 5]
  | _ => []
theorem fn_s_CenterLine : FnC Tryd.prog n_s_CenterLine c_s_CenterLine [(.tmp 4), (.tmp 5)] 19 :=
  ⟨Tryd.f14, _, k_s_CenterLine, Tryd.func14, rfl, by kernel_rfl, by kernel_rfl, by kernel_rfl, rfl⟩
def r_i_CenterLine_0 : List CO := [⟨none, (some 4), (.mv (.k (.v (.string (bs [])))))⟩, ⟨none, (some 5), (.mv (.k (.v (.bool false))))⟩]
def r_i_CenterLine_1 : List CO := [⟨none, (some 6), (.mv (.t 0))⟩, ⟨none, (some 7), (.call n_i_IsValidMotto [(.t 6)])⟩, ⟨none, (some 8), (.un .not (.t 7))⟩, ⟨none, (some 9), (.mv (.t 8))⟩, ⟨(some (9, false)), (some 10), (.mv (.t 1))⟩, ⟨(some (9, false)), (some 11), (.call n_i_isWidth [(.t 10)])⟩, ⟨(some (9, false)), (some 12), (.un .not (.t 11))⟩, ⟨none, (some 13), (.pick (.t 9) (.k (.v (.bool true))) (.t 12))⟩, ⟨none, (some 14), (.mv (.t 13))⟩, ⟨(some (14, false)), (some 15), (.mv (.t 0))⟩, ⟨(some (14, false)), (some 16), (.len true (.t 15))⟩, ⟨(some (14, false)), (some 17), (.mv (.t 1))⟩, ⟨(some (14, false)), (some 18), (.bin .gtr .none (.t 16) (.t 17))⟩, ⟨none, (some 19), (.pick (.t 14) (.k (.v (.bool true))) (.t 18))⟩]
def r_i_CenterLine_2 : List CO := [⟨none, (some 4), (.mv (.k (.v (.string (bs [])))))⟩, ⟨none, (some 5), (.mv (.k (.v (.bool false))))⟩]
def r_i_CenterLine_3 : List CO := [⟨none, (some 20), (.mv (.t 0))⟩, ⟨none, (some 21), (.mv (.t 1))⟩, ⟨none, (some 22), (.call n_i_centered [(.t 20), (.t 21)])⟩, ⟨none, (some 4), (.mv (.t 22))⟩, ⟨none, (some 5), (.mv (.k (.v (.bool true))))⟩]
/-- loop.example/g00884/impl.CenterLine -/
def c_i_CenterLine : C := (.seq (.reg r_i_CenterLine_0 [0, 1]) (.seq (.seq (.reg r_i_CenterLine_1 [0, 1, 19]) (.cond (.t 19) (.seq (.reg r_i_CenterLine_2 [4, 5]) .ret) .skip)) (.seq (.reg r_i_CenterLine_3 [4, 5]) .ret)))
def k_i_CenterLine : Nat → List Nat
  | 0 => [0, 1]
  | 1 => [0, 1, 19]
  | 2 => [4, 5]
  | 3 => [4, 5]
  | _ => []
theorem fn_i_CenterLine : FnC Tryd.prog n_i_CenterLine c_i_CenterLine [(.tmp 4), (.tmp 5)] 23 :=
  ⟨Tryd.f15, _, k_i_CenterLine, Tryd.func15, rfl, by kernel_rfl, by kernel_rfl, by kernel_rfl, rfl⟩
def r_w_FnExactCenterLine_0 : List CO := [⟨none, (some 4), (.mv (.k (.v (.bool false))))⟩]
def r_w_FnExactCenterLine_1 : List CO := [⟨none, (some 9), (.mv (.t 0))⟩, ⟨none, (some 10), (.len true (.t 9))⟩, ⟨none, (some 11), (.bin .gtr .none (.t 10) (.k (.v (.int .i64 (1048576)))))⟩]
def r_w_FnExactCenterLine_2 : List CO := [⟨none, (some 4), (.mv (.k (.v (.bool true))))⟩]
def r_w_FnExactCenterLine_3 : List CO := [⟨none, (some 13), (.mv (.t 0))⟩, ⟨none, (some 14), (.mv (.t 1))⟩, ⟨none, (some 15), (.call n_s_CenterLine [(.t 13), (.t 14)])⟩, ⟨none, (some 12), (.mv (.t 15))⟩, ⟨none, (some 16), (.ext (.t 12) 0)⟩, ⟨none, (some 17), (.ext (.t 12) 1)⟩, ⟨none, (some 5), (.mv (.t 16))⟩, ⟨none, (some 6), (.mv (.t 17))⟩]
def r_w_FnExactCenterLine_4 : List CO := [⟨none, (some 19), (.mv (.t 0))⟩, ⟨none, (some 20), (.mv (.t 1))⟩, ⟨none, (some 21), (.call n_i_CenterLine [(.t 19), (.t 20)])⟩, ⟨none, (some 18), (.mv (.t 21))⟩, ⟨none, (some 22), (.ext (.t 18) 0)⟩, ⟨none, (some 23), (.ext (.t 18) 1)⟩, ⟨none, (some 7), (.mv (.t 22))⟩, ⟨none, (some 8), (.mv (.t 23))⟩]
def r_w_FnExactCenterLine_5 : List CO := [⟨none, (some 24), (.mv (.t 7))⟩, ⟨none, (some 25), (.mv (.t 5))⟩, ⟨none, (some 26), (.bin .neq .none (.t 24) (.t 25))⟩, ⟨none, (some 27), (.mv (.t 26))⟩, ⟨(some (27, false)), (some 28), (.mv (.t 8))⟩, ⟨(some (27, false)), (some 29), (.mv (.t 6))⟩, ⟨(some (27, false)), (some 30), (.bin .neq .bool (.t 28) (.t 29))⟩, ⟨none, (some 31), (.pick (.t 27) (.k (.v (.bool true))) (.t 30))⟩]
def r_w_FnExactCenterLine_6 : List CO := [⟨none, (some 4), (.mv (.k (.v (.bool false))))⟩]
def r_w_FnExactCenterLine_7 : List CO := [⟨none, (some 4), (.mv (.k (.v (.bool true))))⟩]
/-- loop.example/g00884/laws.FnExactCenterLine -/
def c_w_FnExactCenterLine : C := (.seq (.reg r_w_FnExactCenterLine_0 [0, 1]) (.seq (.seq (.reg r_w_FnExactCenterLine_1 [0, 1, 11]) (.cond (.t 11) (.seq (.reg r_w_FnExactCenterLine_2 [4]) .ret) .skip)) (.seq (.reg r_w_FnExactCenterLine_3 [0, 1, 5, 6]) (.seq (.reg r_w_FnExactCenterLine_4 [5, 6, 7, 8]) (.seq (.seq (.reg r_w_FnExactCenterLine_5 [31]) (.cond (.t 31) (.seq (.reg r_w_FnExactCenterLine_6 [4]) .ret) .skip)) (.seq (.reg r_w_FnExactCenterLine_7 [4]) .ret))))))
def k_w_FnExactCenterLine : Nat → List Nat
  | 0 => [0, 1]
  | 1 => [0, 1, 11]
  | 2 => [4]
  | 3 => [0, 1, 5, 6]
  | 4 => [5, 6, 7, 8]
  | 5 => [31]
  | 6 => [4]
  | 7 => [4]
  | _ => []
theorem fn_w_FnExactCenterLine : FnC Tryd.prog n_w_FnExactCenterLine c_w_FnExactCenterLine [(.tmp 4)] 32 :=
  ⟨Tryd.f4, _, k_w_FnExactCenterLine, Tryd.func4, rfl, by kernel_rfl, by kernel_rfl, by kernel_rfl, rfl⟩
end Go.Proofs.YtcfmohcpfmedaaaDoor
