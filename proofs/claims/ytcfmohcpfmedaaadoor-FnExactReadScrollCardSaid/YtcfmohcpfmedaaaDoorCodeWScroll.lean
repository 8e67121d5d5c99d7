/- The compact code of the functions, and that it is theirs: written by a program of this claim. -/
import Derived.Test.YtcfmohcpfmedaaaDoorNums
namespace Go.Proofs.YtcfmohcpfmedaaaDoor
open Go.Abs
set_option maxRecDepth 100000
def r_s_l23Border_0 : List CO := [⟨none, (some 6), (.mv (.k (.v (.string (bs [])))))⟩]
def r_s_l23Border_1 : List CO := [⟨none, (some 9), (.mv (.t 0))⟩, ⟨none, (some 7), (.mv (.t 9))⟩]
def r_s_l23Border_2 : List CO := [⟨none, (some 8), (.mv (.k (.v (.int .i64 (0)))))⟩]
def r_s_l23Border_3 : List CO := [⟨none, (some 10), (.mv (.t 8))⟩, ⟨none, (some 11), (.mv (.t 1))⟩, ⟨none, (some 12), (.bin .add .none (.t 11) (.k (.v (.int .i64 (2)))))⟩, ⟨none, (some 13), (.bin .lss .none (.t 10) (.t 12))⟩]
def r_s_l23Border_4 : List CO := [⟨none, (some 16), (.mv (.t 7))⟩, ⟨none, (some 17), (.bin .add .none (.t 16) (.k (.v (.string (bs [61])))))⟩, ⟨none, (some 7), (.mv (.t 17))⟩]
def r_s_l23Border_5 : List CO := [⟨none, (some 14), (.mv (.t 8))⟩, ⟨none, (some 15), (.bin .add .none (.t 14) (.k (.v (.int .i64 (1)))))⟩, ⟨none, (some 8), (.mv (.t 15))⟩]
def l_s_l23Border_6 : C := (.seq (.seq (.reg r_s_l23Border_3 [1, 2, 7, 8, 13]) (.cond (.t 13) .skip (.exit 0))) (.seq (.block 1 (.reg r_s_l23Border_4 [1, 2, 7, 8])) (.reg r_s_l23Border_5 [1, 2, 7, 8])))
def r_s_l23Border_7 : List CO := [⟨none, (some 18), (.mv (.t 7))⟩, ⟨none, (some 19), (.mv (.t 2))⟩, ⟨none, (some 20), (.bin .add .none (.t 18) (.t 19))⟩, ⟨none, (some 21), (.bin .add .none (.t 20) (.k (.v (.string (bs [10])))))⟩, ⟨none, (some 6), (.mv (.t 21))⟩]
/-- loop.example/g00884/spec.l23Border -/
def c_s_l23Border : C := (.seq (.reg r_s_l23Border_0 [0, 1, 2]) (.seq (.reg r_s_l23Border_1 [1, 2, 7]) (.seq (.seq (.reg r_s_l23Border_2 [1, 2, 7, 8]) (.block 0 (.loop l_s_l23Border_6))) (.seq (.reg r_s_l23Border_7 [6]) .ret))))
def k_s_l23Border : Nat → List Nat
  | 0 => [0, 1, 2]
  | 1 => [1, 2, 7]
  | 2 => [1, 2, 7, 8]
  | 3 => [1, 2, 7, 8, 13]
  | 5 => [1, 2, 7, 8]
  | 4 => [1, 2, 7, 8]
  | 6 => [6]
  | _ => []
theorem fn_s_l23Border : FnC Tryd.prog n_s_l23Border c_s_l23Border [(.tmp 6)] 22 :=
  ⟨Tryd.f39, _, k_s_l23Border, Tryd.func39, rfl, by kernel_rfl, by kernel_rfl, by kernel_rfl, rfl⟩
def r_s_ScrollPicture_0 : List CO := [⟨none, (some 4), (.mv (.k (.v (.string (bs [])))))⟩, ⟨none, (some 5), (.mv (.k (.v (.bool false))))⟩]
def r_s_ScrollPicture_1 : List CO := [⟨none, (some 12), (.mv (.t 0))⟩, ⟨none, (some 13), (.mv (.t 1))⟩, ⟨none, (some 14), (.call n_s_EvenLines [(.t 12), (.t 13)])⟩, ⟨none, (some 11), (.mv (.t 14))⟩, ⟨none, (some 15), (.ext (.t 11) 0)⟩, ⟨none, (some 16), (.ext (.t 11) 1)⟩, ⟨none, (some 17), (.ext (.t 11) 2)⟩, ⟨none, (some 6), (.mv (.t 15))⟩, ⟨none, (some 7), (.mv (.t 16))⟩, ⟨none, (some 8), (.mv (.t 17))⟩]
def r_s_ScrollPicture_2 : List CO := [⟨none, (some 18), (.mv (.t 8))⟩, ⟨none, (some 19), (.un .not (.t 18))⟩]
def r_s_ScrollPicture_3 : List CO := [⟨none, (some 4), (.mv (.k (.v (.string (bs [])))))⟩, ⟨none, (some 5), (.mv (.k (.v (.bool false))))⟩]
def r_s_ScrollPicture_4 : List CO := [⟨none, (some 20), (.mv (.t 1))⟩, ⟨none, (some 21), (.call n_s_l23Border [(.k (.v (.string (bs [47])))), (.t 20), (.k (.v (.string (bs [92]))))])⟩, ⟨none, (some 9), (.mv (.t 21))⟩]
def r_s_ScrollPicture_5 : List CO := [⟨none, (some 10), (.mv (.k (.v (.int .i64 (0)))))⟩]
def r_s_ScrollPicture_6 : List CO := [⟨none, (some 22), (.mv (.t 10))⟩, ⟨none, (some 23), (.mv (.t 6))⟩, ⟨none, (some 24), (.len false (.t 23))⟩, ⟨none, (some 25), (.bin .lss .none (.t 22) (.t 24))⟩]
def r_s_ScrollPicture_7 : List CO := [⟨none, (some 28), (.mv (.t 9))⟩, ⟨none, (some 29), (.bin .add .none (.t 28) (.k (.v (.string (bs [40, 32])))))⟩, ⟨none, (some 30), (.mv (.t 6))⟩, ⟨none, (some 31), (.mv (.t 10))⟩, ⟨none, (some 32), (.iaddr 1 (.t 30) (.t 31))⟩, ⟨none, (some 33), (.ld false 1 (.t 32))⟩, ⟨none, (some 34), (.mv (.t 1))⟩, ⟨none, (some 35), (.call n_s_l23Center [(.t 33), (.t 34)])⟩, ⟨none, (some 36), (.bin .add .none (.t 29) (.t 35))⟩, ⟨none, (some 37), (.bin .add .none (.t 36) (.k (.v (.string (bs [32, 41, 10])))))⟩, ⟨none, (some 9), (.mv (.t 37))⟩]
def r_s_ScrollPicture_8 : List CO := [⟨none, (some 26), (.mv (.t 10))⟩, ⟨none, (some 27), (.bin .add .none (.t 26) (.k (.v (.int .i64 (1)))))⟩, ⟨none, (some 10), (.mv (.t 27))⟩]
def l_s_ScrollPicture_9 : C := (.seq (.seq (.reg r_s_ScrollPicture_6 [1, 6, 9, 10, 25]) (.cond (.t 25) .skip (.exit 0))) (.seq (.block 1 (.reg r_s_ScrollPicture_7 [1, 6, 9, 10])) (.reg r_s_ScrollPicture_8 [1, 6, 9, 10])))
def r_s_ScrollPicture_10 : List CO := [⟨none, (some 38), (.mv (.t 9))⟩, ⟨none, (some 39), (.mv (.t 1))⟩, ⟨none, (some 40), (.call n_s_l23Border [(.k (.v (.string (bs [92])))), (.t 39), (.k (.v (.string (bs [47]))))])⟩, ⟨none, (some 41), (.bin .add .none (.t 38) (.t 40))⟩, ⟨none, (some 4), (.mv (.t 41))⟩, ⟨none, (some 5), (.mv (.k (.v (.bool true))))⟩]
/-- loop.example/g00884/spec.ScrollPicture -/
def c_s_ScrollPicture : C := (.seq (.reg r_s_ScrollPicture_0 [0, 1]) (.seq (.reg r_s_ScrollPicture_1 [1, 6, 8]) (.seq (.seq (.reg r_s_ScrollPicture_2 [1, 6, 19]) (.cond (.t 19) (.seq (.reg r_s_ScrollPicture_3 [4, 5]) .ret) .skip)) (.seq (.reg r_s_ScrollPicture_4 [1, 6, 9]) (.seq (.seq (.reg r_s_ScrollPicture_5 [1, 6, 9, 10]) (.block 0 (.loop l_s_ScrollPicture_9))) (.seq (.reg r_s_ScrollPicture_10 [4, 5]) .ret))))))
def k_s_ScrollPicture : Nat → List Nat
  | 0 => [0, 1]
  | 1 => [1, 6, 8]
  | 2 => [1, 6, 19]
  | 3 => [4, 5]
  | 4 => [1, 6, 9]
  | 5 => [1, 6, 9, 10]
  | 6 => [1, 6, 9, 10, 25]
  | 8 => [1, 6, 9, 10]
  | 7 => [1, 6, 9, 10]
  | 9 => [4, 5]
  | _ => []
theorem fn_s_ScrollPicture : FnC Tryd.prog n_s_ScrollPicture c_s_ScrollPicture [(.tmp 4), (.tmp 5)] 42 :=
  ⟨Tryd.f18, _, k_s_ScrollPicture, Tryd.func18, rfl, by kernel_rfl, by kernel_rfl, by kernel_rfl, rfl⟩
def r_i_ScrollPicture_0 : List CO := [⟨none, (some 4), (.mv (.k (.v (.string (bs [])))))⟩, ⟨none, (some 5), (.mv (.k (.v (.bool false))))⟩]
def r_i_ScrollPicture_1 : List CO := [⟨none, (some 14), (.mv (.t 0))⟩, ⟨none, (some 15), (.mv (.t 1))⟩, ⟨none, (some 16), (.call n_i_EvenLines [(.t 14), (.t 15)])⟩, ⟨none, (some 13), (.mv (.t 16))⟩, ⟨none, (some 17), (.ext (.t 13) 0)⟩, ⟨none, (some 18), (.ext (.t 13) 1)⟩, ⟨none, (some 19), (.ext (.t 13) 2)⟩, ⟨none, (some 6), (.mv (.t 17))⟩, ⟨none, (some 7), (.mv (.t 18))⟩, ⟨none, (some 8), (.mv (.t 19))⟩]
def r_i_ScrollPicture_2 : List CO := [⟨none, (some 20), (.mv (.t 8))⟩, ⟨none, (some 21), (.un .not (.t 20))⟩]
def r_i_ScrollPicture_3 : List CO := [⟨none, (some 4), (.mv (.k (.v (.string (bs [])))))⟩, ⟨none, (some 5), (.mv (.k (.v (.bool false))))⟩]
def r_i_ScrollPicture_4 : List CO := [⟨none, (some 22), (.mv (.t 1))⟩, ⟨none, (some 23), (.bin .add .none (.t 22) (.k (.v (.int .i64 (2)))))⟩, ⟨none, (some 24), (.call n_strings_Repeat [(.k (.v (.string (bs [61])))), (.t 23)])⟩, ⟨none, (some 9), (.mv (.t 24))⟩]
def r_i_ScrollPicture_5 : List CO := [⟨none, (some 25), (.mv (.t 9))⟩, ⟨none, (some 26), (.bin .add .none (.k (.v (.string (bs [47])))) (.t 25))⟩, ⟨none, (some 27), (.bin .add .none (.t 26) (.k (.v (.string (bs [92, 10])))))⟩, ⟨none, (some 10), (.mv (.t 27))⟩]
def r_i_ScrollPicture_6 : List CO := [⟨none, (some 28), (.mv (.t 6))⟩, ⟨none, (some 29), (.len false (.t 28))⟩, ⟨none, (some 30), (.mv (.k (.v (.int .i64 (0)))))⟩]
def r_i_ScrollPicture_7 : List CO := [⟨none, (some 31), (.bin .lss .none (.t 30) (.t 29))⟩]
def r_i_ScrollPicture_8 : List CO := [⟨none, (some 32), (.iaddr 1 (.t 28) (.t 30))⟩, ⟨none, (some 33), (.ld false 1 (.t 32))⟩, ⟨none, (some 12), (.mv (.t 33))⟩]
def r_i_ScrollPicture_9 : List CO := [⟨none, (some 34), (.mv (.t 10))⟩, ⟨none, (some 35), (.mv (.t 12))⟩, ⟨none, (some 36), (.mv (.t 1))⟩, ⟨none, (some 37), (.call n_i_centered [(.t 35), (.t 36)])⟩, ⟨none, (some 38), (.bin .add .none (.k (.v (.string (bs [40, 32])))) (.t 37))⟩, ⟨none, (some 39), (.bin .add .none (.t 38) (.k (.v (.string (bs [32, 41, 10])))))⟩, ⟨none, (some 40), (.bin .add .none (.t 34) (.t 39))⟩, ⟨none, (some 10), (.mv (.t 40))⟩]
def r_i_ScrollPicture_10 : List CO := [⟨none, (some 41), (.bin .add .none (.t 30) (.k (.v (.int .i64 (1)))))⟩, ⟨none, (some 30), (.mv (.t 41))⟩]
def l_i_ScrollPicture_11 : C := (.seq (.reg r_i_ScrollPicture_7 [1, 9, 10, 28, 29, 30, 31]) (.seq (.cond (.t 31) .skip (.exit 0)) (.seq (.block 1 (.seq (.reg r_i_ScrollPicture_8 [1, 9, 10, 12, 28, 29, 30]) (.reg r_i_ScrollPicture_9 [1, 9, 10, 28, 29, 30]))) (.reg r_i_ScrollPicture_10 [1, 9, 10, 28, 29, 30]))))
def r_i_ScrollPicture_12 : List CO := [⟨none, (some 42), (.mv (.t 10))⟩, ⟨none, (some 43), (.bin .add .none (.t 42) (.k (.v (.string (bs [92])))))⟩, ⟨none, (some 44), (.mv (.t 9))⟩, ⟨none, (some 45), (.bin .add .none (.t 43) (.t 44))⟩, ⟨none, (some 46), (.bin .add .none (.t 45) (.k (.v (.string (bs [47, 10])))))⟩, ⟨none, (some 4), (.mv (.t 46))⟩, ⟨none, (some 5), (.mv (.k (.v (.bool true))))⟩]
/-- loop.example/g00884/impl.ScrollPicture -/
def c_i_ScrollPicture : C := (.seq (.reg r_i_ScrollPicture_0 [0, 1]) (.seq (.reg r_i_ScrollPicture_1 [1, 6, 8]) (.seq (.seq (.reg r_i_ScrollPicture_2 [1, 6, 21]) (.cond (.t 21) (.seq (.reg r_i_ScrollPicture_3 [4, 5]) .ret) .skip)) (.seq (.reg r_i_ScrollPicture_4 [1, 6, 9]) (.seq (.reg r_i_ScrollPicture_5 [1, 6, 9, 10]) (.seq (.seq (.reg r_i_ScrollPicture_6 [1, 9, 10, 28, 29, 30]) (.block 0 (.loop l_i_ScrollPicture_11))) (.seq (.reg r_i_ScrollPicture_12 [4, 5]) .ret)))))))
def k_i_ScrollPicture : Nat → List Nat
  | 0 => [0, 1]
  | 1 => [1, 6, 8]
  | 2 => [1, 6, 21]
  | 3 => [4, 5]
  | 4 => [1, 6, 9]
  | 5 => [1, 6, 9, 10]
  | 6 => [1, 9, 10, 28, 29, 30]
  | 7 => [1, 9, 10, 28, 29, 30, 31]
  | 8 => [1, 9, 10, 12, 28, 29, 30]
  | 9 => [1, 9, 10, 28, 29, 30]
  | 10 => [1, 9, 10, 28, 29, 30]
  | 11 => [4, 5]
  | _ => []
theorem fn_i_ScrollPicture : FnC Tryd.prog n_i_ScrollPicture c_i_ScrollPicture [(.tmp 4), (.tmp 5)] 47 :=
  ⟨Tryd.f19, _, k_i_ScrollPicture, Tryd.func19, rfl, by kernel_rfl, by kernel_rfl, by kernel_rfl, rfl⟩
def r_w_FnExactScrollPicture_0 : List CO := [⟨none, (some 4), (.mv (.k (.v (.bool false))))⟩]
def r_w_FnExactScrollPicture_1 : List CO := [⟨none, (some 9), (.mv (.t 0))⟩, ⟨none, (some 10), (.len true (.t 9))⟩, ⟨none, (some 11), (.bin .gtr .none (.t 10) (.k (.v (.int .i64 (1048576)))))⟩]
def r_w_FnExactScrollPicture_2 : List CO := [⟨none, (some 4), (.mv (.k (.v (.bool true))))⟩]
def r_w_FnExactScrollPicture_3 : List CO := [⟨none, (some 13), (.mv (.t 0))⟩, ⟨none, (some 14), (.mv (.t 1))⟩, ⟨none, (some 15), (.call n_s_ScrollPicture [(.t 13), (.t 14)])⟩, ⟨none, (some 12), (.mv (.t 15))⟩, ⟨none, (some 16), (.ext (.t 12) 0)⟩, ⟨none, (some 17), (.ext (.t 12) 1)⟩, ⟨none, (some 5), (.mv (.t 16))⟩, ⟨none, (some 6), (.mv (.t 17))⟩]
def r_w_FnExactScrollPicture_4 : List CO := [⟨none, (some 19), (.mv (.t 0))⟩, ⟨none, (some 20), (.mv (.t 1))⟩, ⟨none, (some 21), (.call n_i_ScrollPicture [(.t 19), (.t 20)])⟩, ⟨none, (some 18), (.mv (.t 21))⟩, ⟨none, (some 22), (.ext (.t 18) 0)⟩, ⟨none, (some 23), (.ext (.t 18) 1)⟩, ⟨none, (some 7), (.mv (.t 22))⟩, ⟨none, (some 8), (.mv (.t 23))⟩]
def r_w_FnExactScrollPicture_5 : List CO := [⟨none, (some 24), (.mv (.t 7))⟩, ⟨none, (some 25), (.mv (.t 5))⟩, ⟨none, (some 26), (.bin .neq .none (.t 24) (.t 25))⟩, ⟨none, (some 27), (.mv (.t 26))⟩, ⟨(some (27, false)), (some 28), (.mv (.t 8))⟩, ⟨(some (27, false)), (some 29), (.mv (.t 6))⟩, ⟨(some (27, false)), (some 30), (.bin .neq .bool (.t 28) (.t 29))⟩, ⟨none, (some 31), (.pick (.t 27) (.k (.v (.bool true))) (.t 30))⟩]
def r_w_FnExactScrollPicture_6 : List CO := [⟨none, (some 4), (.mv (.k (.v (.bool false))))⟩]
def r_w_FnExactScrollPicture_7 : List CO := [⟨none, (some 4), (.mv (.k (.v (.bool true))))⟩]
/-- loop.example/g00884/laws.FnExactScrollPicture -/
def c_w_FnExactScrollPicture : C := (.seq (.reg r_w_FnExactScrollPicture_0 [0, 1]) (.seq (.seq (.reg r_w_FnExactScrollPicture_1 [0, 1, 11]) (.cond (.t 11) (.seq (.reg r_w_FnExactScrollPicture_2 [4]) .ret) .skip)) (.seq (.reg r_w_FnExactScrollPicture_3 [0, 1, 5, 6]) (.seq (.reg r_w_FnExactScrollPicture_4 [5, 6, 7, 8]) (.seq (.seq (.reg r_w_FnExactScrollPicture_5 [31]) (.cond (.t 31) (.seq (.reg r_w_FnExactScrollPicture_6 [4]) .ret) .skip)) (.seq (.reg r_w_FnExactScrollPicture_7 [4]) .ret))))))
def k_w_FnExactScrollPicture : Nat → List Nat
  | 0 => [0, 1]
  | 1 => [0, 1, 11]
  | 2 => [4]
  | 3 => [0, 1, 5, 6]
  | 4 => [5, 6, 7, 8]
  | 5 => [31]
  | 6 => [4]
  | 7 => [4]
  | _ => []
theorem fn_w_FnExactScrollPicture : FnC Tryd.prog n_w_FnExactScrollPicture c_w_FnExactScrollPicture [(.tmp 4)] 32 :=
  ⟨Tryd.f6, _, k_w_FnExactScrollPicture, Tryd.func6, rfl, by kernel_rfl, by kernel_rfl, by kernel_rfl, rfl⟩
end Go.Proofs.YtcfmohcpfmedaaaDoor
