/- The compact code of the functions, and that it is theirs: written by a program of this claim. -/
import Derived.Test.YtbeoijlggphklaaGreatNums
namespace Go.Proofs.YtbeoijlggphklaaGreat
open Go.Abs
set_option maxRecDepth 100000
def r_i_Register_ordered_1_0 : List CO := [⟨none, (some 2), (.box 18 (.t 0))⟩, ⟨none, (some 3), (.box 18 (.t 1))⟩, ⟨none, (some 4), (.mv (.k (.v (.int .i64 (0)))))⟩]
def r_i_Register_ordered_1_1 : List CO := [⟨none, (some 5), (.faddr 1 (.t 2))⟩, ⟨none, (some 6), (.ld false 1 (.t 5))⟩, ⟨none, (some 7), (.faddr 1 (.t 3))⟩, ⟨none, (some 8), (.ld false 1 (.t 7))⟩, ⟨none, (some 9), (.call n_strings_Compare [(.t 6), (.t 8)])⟩, ⟨none, (some 4), (.mv (.t 9))⟩]
/-- (loop.example/g00884/impl.Register).ordered$1 -/
def c_i_Register_ordered_1 : C := (.seq (.reg r_i_Register_ordered_1_0 [2, 3]) (.seq (.reg r_i_Register_ordered_1_1 [4]) .ret))
def k_i_Register_ordered_1 : Nat → List Nat
  | 0 => [2, 3]
  | 1 => [4]
  | _ => []
theorem fn_i_Register_ordered_1 : FnC Tryz.prog n_i_Register_ordered_1 c_i_Register_ordered_1 [(.tmp 4)] 10 :=
  ⟨Tryz.f35, _, k_i_Register_ordered_1, Tryz.func35, rfl, by kernel_rfl, by kernel_rfl, by kernel_rfl, rfl⟩
def r_i_Register_ordered_2_0 : List CO := [⟨none, (some 2), (.box 18 (.t 0))⟩, ⟨none, (some 3), (.box 18 (.t 1))⟩, ⟨none, (some 4), (.mv (.k (.v (.int .i64 (0)))))⟩]
def r_i_Register_ordered_2_1 : List CO := [⟨none, (some 5), (.faddr 3 (.t 2))⟩, ⟨none, (some 6), (.ld true 15 (.t 5))⟩, ⟨none, (some 7), (.call n_i_Arms_text [(.t 6)])⟩, ⟨none, (some 8), (.faddr 3 (.t 3))⟩, ⟨none, (some 9), (.ld true 15 (.t 8))⟩, ⟨none, (some 10), (.call n_i_Arms_text [(.t 9)])⟩, ⟨none, (some 11), (.call n_strings_Compare [(.t 7), (.t 10)])⟩, ⟨none, (some 4), (.mv (.t 11))⟩]
def p_i_Register_ordered_2_1 : List (List Nat) := [[], [0], [0, 1], [], [3], [0, 1, 2, 3, 4], [0, 1, 2, 3, 4, 5], [0, 1, 2, 3, 4, 5, 6]]
/-- (loop.example/g00884/impl.Register).ordered$2 -/
def c_i_Register_ordered_2 : C := (.seq (.reg r_i_Register_ordered_2_0 [2, 3]) (.seq (.regD r_i_Register_ordered_2_1 p_i_Register_ordered_2_1 [4]) .ret))
def k_i_Register_ordered_2 : Nat → List Nat
  | 0 => [2, 3]
  | 1 => [4]
  | _ => []
theorem fn_i_Register_ordered_2 : FnC Tryz.prog n_i_Register_ordered_2 c_i_Register_ordered_2 [(.tmp 4)] 12 :=
  ⟨Tryz.f37, _, k_i_Register_ordered_2, Tryz.func37, rfl, by kernel_rfl, by kernel_rfl, by kernel_rfl, rfl⟩
def r_i_Register_ordered_0 : List CO := [⟨none, (some 2), (.box 1 (.t 0))⟩, ⟨none, (some 4), (.mv (.k (.v (.slice none 0 0))))⟩]
def r_i_Register_ordered_1 : List CO := [⟨none, (some 6), (.bslice 18 (.agg [(.v (.int .i64 (0))), (.v (.string (bs []))), (.v (.int .i64 (0))), (.v (.int .i64 (0))), (.v (.int .i64 (0))), (.v (.int .i64 (0))), (.v (.int .i64 (0))), (.v (.int .i64 (0))), (.v (.int .i64 (0))), (.v (.int .i64 (0))), (.v (.int .i64 (0))), (.v (.int .i64 (0))), (.v (.int .i64 (0))), (.v (.int .i64 (0))), (.v (.int .i64 (0))), (.v (.int .i64 (0))), (.v (.int .i64 (0))), (.v (.int .i64 (0)))]) 0 [])⟩, ⟨none, (some 7), (.faddr 0 (.t 2))⟩, ⟨none, (some 8), (.ld false 1 (.t 7))⟩, ⟨none, (some 9), (.app 18 152 (.t 6) (.t 8))⟩, ⟨none, (some 5), (.mv (.t 9))⟩]
def r_i_Register_ordered_2 : List CO := [⟨none, (some 10), (.mv (.t 1))⟩]
def r_i_Register_ordered_3 : List CO := [⟨none, (some 12), (.bin .eql .none (.t 10) (.k (.v (.int .i64 (2)))))⟩, ⟨none, (some 11), (.mv (.t 12))⟩]
def r_i_Register_ordered_4 : List CO := [⟨none, (some 13), (.mv (.t 5))⟩, ⟨none, (some 14), (.call n_slices_SortStableFunc_i_Grant_i_Grant [(.t 13), (.k (.clo n_i_Register_ordered_1 []))])⟩]
def r_i_Register_ordered_5 : List CO := [⟨none, (some 16), (.bin .eql .none (.t 10) (.k (.v (.int .i64 (3)))))⟩, ⟨none, (some 15), (.mv (.t 16))⟩]
def r_i_Register_ordered_6 : List CO := [⟨none, (some 17), (.mv (.t 5))⟩, ⟨none, (some 18), (.call n_slices_SortStableFunc_i_Grant_i_Grant [(.t 17), (.k (.clo n_i_Register_ordered_2 []))])⟩]
def r_i_Register_ordered_7 : List CO := [⟨none, (some 19), (.mv (.t 5))⟩, ⟨none, (some 4), (.mv (.t 19))⟩]
/-- (loop.example/g00884/impl.Register).ordered -/
def c_i_Register_ordered : C := (.seq (.reg r_i_Register_ordered_0 [1, 2]) (.seq (.reg r_i_Register_ordered_1 [1, 5]) (.seq (.seq (.reg r_i_Register_ordered_2 [5, 10]) (.block 0 (.seq (.reg r_i_Register_ordered_3 [5, 10, 11]) (.cond (.t 11) (.reg r_i_Register_ordered_4 [5]) (.seq (.reg r_i_Register_ordered_5 [5, 15]) (.cond (.t 15) (.reg r_i_Register_ordered_6 [5]) .skip)))))) (.seq (.reg r_i_Register_ordered_7 [4]) .ret))))
def k_i_Register_ordered : Nat → List Nat
  | 0 => [1, 2]
  | 1 => [1, 5]
  | 2 => [5, 10]
  | 3 => [5, 10, 11]
  | 4 => [5]
  | 5 => [5, 15]
  | 6 => [5]
  | 7 => [4]
  | _ => []
theorem fn_i_Register_ordered : FnC Tryz.prog n_i_Register_ordered c_i_Register_ordered [(.tmp 4)] 20 :=
  ⟨Tryz.f20, _, k_i_Register_ordered, Tryz.func20, rfl, by kernel_rfl, by kernel_rfl, by kernel_rfl, rfl⟩
def r_s_l25By_0 : List CO := [⟨none, (some 2), (.mv (.k (.v (.bool false))))⟩]
def r_s_l25By_1 : List CO := [⟨none, (some 3), (.mv (.t 0))⟩, ⟨none, (some 4), (.call n_s_l1In [(.t 3), (.k (.v (.int .i64 (1)))), (.k (.v (.int .i64 (3))))])⟩, ⟨none, (some 2), (.mv (.t 4))⟩]
/-- loop.example/g00884/spec.l25By -/
def c_s_l25By : C := (.seq (.reg r_s_l25By_0 [0]) (.seq (.reg r_s_l25By_1 [2]) .ret))
def k_s_l25By : Nat → List Nat
  | 0 => [0]
  | 1 => [2]
  | _ => []
theorem fn_s_l25By : FnC Tryz.prog n_s_l25By c_s_l25By [(.tmp 2)] 5 :=
  ⟨Tryz.f15, _, k_s_l25By, Tryz.func15, rfl, by kernel_rfl, by kernel_rfl, by kernel_rfl, rfl⟩
def r_s_l25Before_0 : List CO := [⟨none, (some 3), (.box 18 (.t 0))⟩, ⟨none, (some 4), (.box 18 (.t 1))⟩, ⟨none, (some 6), (.mv (.k (.v (.bool false))))⟩]
def r_s_l25Before_1 : List CO := [⟨none, (some 7), (.mv (.t 2))⟩]
def r_s_l25Before_2 : List CO := [⟨none, (some 9), (.bin .eql .none (.t 7) (.k (.v (.int .i64 (2)))))⟩, ⟨none, (some 8), (.mv (.t 9))⟩]
def r_s_l25Before_3 : List CO := [⟨none, (some 10), (.faddr 1 (.t 3))⟩, ⟨none, (some 11), (.ld false 1 (.t 10))⟩, ⟨none, (some 12), (.faddr 1 (.t 4))⟩, ⟨none, (some 13), (.ld false 1 (.t 12))⟩, ⟨none, (some 14), (.bin .lss .none (.t 11) (.t 13))⟩, ⟨none, (some 15), (.mv (.t 14))⟩, ⟨(some (15, false)), (some 16), (.faddr 1 (.t 3))⟩, ⟨(some (15, false)), (some 17), (.ld false 1 (.t 16))⟩, ⟨(some (15, false)), (some 18), (.faddr 1 (.t 4))⟩, ⟨(some (15, false)), (some 19), (.ld false 1 (.t 18))⟩, ⟨(some (15, false)), (some 20), (.bin .eql .none (.t 17) (.t 19))⟩, ⟨(some (15, false)), (some 21), (.mv (.t 20))⟩, ⟨(some (21, true)), (some 22), (.faddr 0 (.t 3))⟩, ⟨(some (21, true)), (some 23), (.ld false 1 (.t 22))⟩, ⟨(some (21, true)), (some 24), (.faddr 0 (.t 4))⟩, ⟨(some (21, true)), (some 25), (.ld false 1 (.t 24))⟩, ⟨(some (21, true)), (some 26), (.bin .lss .none (.t 23) (.t 25))⟩, ⟨(some (15, false)), (some 27), (.pick (.t 21) (.t 26) (.k (.v (.bool false))))⟩, ⟨none, (some 28), (.pick (.t 15) (.k (.v (.bool true))) (.t 27))⟩, ⟨none, (some 6), (.mv (.t 28))⟩]
def r_s_l25Before_4 : List CO := [⟨none, (some 30), (.bin .eql .none (.t 7) (.k (.v (.int .i64 (3)))))⟩, ⟨none, (some 29), (.mv (.t 30))⟩]
def r_s_l25Before_5 : List CO := [⟨none, (some 31), (.faddr 3 (.t 3))⟩, ⟨none, (some 32), (.ld true 15 (.t 31))⟩, ⟨none, (some 33), (.call n_s_l6Text [(.t 32)])⟩, ⟨none, (some 34), (.faddr 3 (.t 4))⟩, ⟨none, (some 35), (.ld true 15 (.t 34))⟩, ⟨none, (some 36), (.call n_s_l6Text [(.t 35)])⟩, ⟨none, (some 37), (.bin .lss .none (.t 33) (.t 36))⟩, ⟨none, (some 6), (.mv (.t 37))⟩]
def p_s_l25Before_5 : List (List Nat) := [[], [0], [0, 1], [], [3], [0, 1, 2, 3, 4], [0, 1, 2, 3, 4, 5], [0, 1, 2, 3, 4, 5, 6]]
def r_s_l25Before_6 : List CO := [⟨none, (some 38), (.faddr 0 (.t 3))⟩, ⟨none, (some 39), (.ld false 1 (.t 38))⟩, ⟨none, (some 40), (.faddr 0 (.t 4))⟩, ⟨none, (some 41), (.ld false 1 (.t 40))⟩, ⟨none, (some 42), (.bin .lss .none (.t 39) (.t 41))⟩, ⟨none, (some 6), (.mv (.t 42))⟩]
/-- loop.example/g00884/spec.l25Before -/
def c_s_l25Before : C := (.seq (.reg r_s_l25Before_0 [2, 3, 4]) (.seq (.seq (.reg r_s_l25Before_1 [3, 4, 7]) (.block 0 (.seq (.reg r_s_l25Before_2 [3, 4, 7, 8]) (.cond (.t 8) (.seq (.reg r_s_l25Before_3 [6]) .ret) (.seq (.reg r_s_l25Before_4 [3, 4, 29]) (.cond (.t 29) (.seq (.regD r_s_l25Before_5 p_s_l25Before_5 [6]) .ret) .skip)))))) (.seq (.reg r_s_l25Before_6 [6]) .ret)))
def k_s_l25Before : Nat → List Nat
  | 0 => [2, 3, 4]
  | 1 => [3, 4, 7]
  | 2 => [3, 4, 7, 8]
  | 3 => [6]
  | 4 => [3, 4, 29]
  | 5 => [6]
  | 6 => [6]
  | _ => []
theorem fn_s_l25Before : FnC Tryz.prog n_s_l25Before c_s_l25Before [(.tmp 6)] 43 :=
  ⟨Tryz.f27, _, k_s_l25Before, Tryz.func27, rfl, by kernel_rfl, by kernel_rfl, by kernel_rfl, rfl⟩
def r_s_l25Order_0 : List CO := [⟨none, (some 2), (.box 1 (.t 0))⟩, ⟨none, (some 4), (.mv (.k (.v (.slice none 0 0))))⟩]
def r_s_l25Order_1 : List CO := [⟨none, (some 8), (.bslice 1 (.v (.int .i64 (0))) 0 [])⟩, ⟨none, (some 5), (.mv (.t 8))⟩]
def r_s_l25Order_2 : List CO := [⟨none, (some 6), (.mv (.k (.v (.int .i64 (0)))))⟩]
def r_s_l25Order_3 : List CO := [⟨none, (some 9), (.mv (.t 6))⟩, ⟨none, (some 10), (.faddr 0 (.t 2))⟩, ⟨none, (some 11), (.ld false 1 (.t 10))⟩, ⟨none, (some 12), (.len false (.t 11))⟩, ⟨none, (some 13), (.bin .lss .none (.t 9) (.t 12))⟩]
def r_s_l25Order_4 : List CO := [⟨none, (some 16), (.mv (.t 5))⟩, ⟨none, (some 17), (.len false (.t 16))⟩, ⟨none, (some 7), (.mv (.t 17))⟩]
def r_s_l25Order_5 : List CO := [⟨none, (some 18), (.mv (.t 7))⟩, ⟨none, (some 19), (.bin .gtr .none (.t 18) (.k (.v (.int .i64 (0)))))⟩, ⟨none, (some 20), (.mv (.t 19))⟩, ⟨(some (20, true)), (some 21), (.faddr 0 (.t 2))⟩, ⟨(some (20, true)), (some 22), (.ld false 1 (.t 21))⟩, ⟨(some (20, true)), (some 23), (.mv (.t 6))⟩, ⟨(some (20, true)), (some 24), (.iaddr 18 (.t 22) (.t 23))⟩, ⟨(some (20, true)), (some 25), (.ld true 18 (.t 24))⟩, ⟨(some (20, true)), (some 26), (.faddr 0 (.t 2))⟩, ⟨(some (20, true)), (some 27), (.ld false 1 (.t 26))⟩, ⟨(some (20, true)), (some 28), (.mv (.t 5))⟩, ⟨(some (20, true)), (some 29), (.mv (.t 7))⟩, ⟨(some (20, true)), (some 30), (.bin .sub .none (.t 29) (.k (.v (.int .i64 (1)))))⟩, ⟨(some (20, true)), (some 31), (.iaddr 1 (.t 28) (.t 30))⟩, ⟨(some (20, true)), (some 32), (.ld false 1 (.t 31))⟩, ⟨(some (20, true)), (some 33), (.iaddr 18 (.t 27) (.t 32))⟩, ⟨(some (20, true)), (some 34), (.ld true 18 (.t 33))⟩, ⟨(some (20, true)), (some 35), (.mv (.t 1))⟩, ⟨(some (20, true)), (some 36), (.call n_s_l25Before [(.t 25), (.t 34), (.t 35)])⟩, ⟨none, (some 37), (.pick (.t 20) (.t 36) (.k (.v (.bool false))))⟩]
def p_s_l25Order_5 : List (List Nat) := [[], [0], [0, 1], [0, 1, 2], [0, 1, 2, 3], [0, 1, 2], [0, 1, 2, 3, 4, 5], [0, 1, 2, 3, 4, 5, 6], [0, 1, 2], [0, 1, 2, 8], [0, 1, 2], [0, 1, 2], [0, 1, 2, 11], [0, 1, 2, 10, 11, 12], [0, 1, 2, 10, 11, 12, 13], [0, 1, 2, 8, 9, 10, 11, 12, 13, 14], [0, 1, 2, 8, 9, 10, 11, 12, 13, 14, 15], [0, 1, 2], [0, 1, 2, 3, 4, 5, 6, 7, 8, 9, 10, 11, 12, 13, 14, 15, 16, 17], [0, 1, 2, 3, 4, 5, 6, 7, 8, 9, 10, 11, 12, 13, 14, 15, 16, 17, 18]]
def r_s_l25Order_6 : List CO := [⟨none, (some 38), (.mv (.t 7))⟩, ⟨none, (some 39), (.bin .sub .none (.t 38) (.k (.v (.int .i64 (1)))))⟩, ⟨none, (some 7), (.mv (.t 39))⟩]
def l_s_l25Order_7 : C := (.seq (.seq (.regD r_s_l25Order_5 p_s_l25Order_5 [1, 2, 5, 6, 7, 37]) (.cond (.t 37) .skip (.exit 2))) (.block 3 (.reg r_s_l25Order_6 [1, 2, 5, 6, 7])))
def r_s_l25Order_8 : List CO := [⟨none, (some 40), (.bslice 1 (.v (.int .i64 (0))) 0 [])⟩, ⟨none, (some 41), (.mv (.t 5))⟩, ⟨none, (some 42), (.mv (.t 7))⟩, ⟨none, (some 43), (.slc (some 1) (.t 41) none (some (.t 42)))⟩, ⟨none, (some 44), (.app 1 8 (.t 40) (.t 43))⟩, ⟨none, (some 45), (.mv (.t 6))⟩, ⟨none, (some 46), (.bslice 1 (.v (.int .i64 (0))) 1 [(0, (.t 45))])⟩, ⟨none, (some 47), (.app 1 8 (.t 44) (.t 46))⟩, ⟨none, (some 48), (.mv (.t 5))⟩, ⟨none, (some 49), (.mv (.t 7))⟩, ⟨none, (some 50), (.slc (some 1) (.t 48) (some (.t 49)) none)⟩, ⟨none, (some 51), (.app 1 8 (.t 47) (.t 50))⟩, ⟨none, (some 5), (.mv (.t 51))⟩]
def p_s_l25Order_8 : List (List Nat) := [[], [], [], [1, 2], [0, 1, 2, 3], [], [5], [0, 1, 2, 3, 4, 5, 6], [], [], [8, 9], [0, 1, 2, 3, 4, 5, 6, 7, 8, 9, 10], [0, 1, 2, 3, 4, 5, 6, 7, 8, 9, 10, 11]]
def r_s_l25Order_9 : List CO := [⟨none, (some 14), (.mv (.t 6))⟩, ⟨none, (some 15), (.bin .add .none (.t 14) (.k (.v (.int .i64 (1)))))⟩, ⟨none, (some 6), (.mv (.t 15))⟩]
def l_s_l25Order_10 : C := (.seq (.seq (.reg r_s_l25Order_3 [1, 2, 5, 6, 13]) (.cond (.t 13) .skip (.exit 0))) (.seq (.block 1 (.seq (.reg r_s_l25Order_4 [1, 2, 5, 6, 7]) (.seq (.block 2 (.loop l_s_l25Order_7)) (.regD r_s_l25Order_8 p_s_l25Order_8 [1, 2, 5, 6])))) (.reg r_s_l25Order_9 [1, 2, 5, 6])))
def r_s_l25Order_11 : List CO := [⟨none, (some 52), (.mv (.t 5))⟩, ⟨none, (some 4), (.mv (.t 52))⟩]
/-- loop.example/g00884/spec.l25Order -/
def c_s_l25Order : C := (.seq (.reg r_s_l25Order_0 [1, 2]) (.seq (.reg r_s_l25Order_1 [1, 2, 5]) (.seq (.seq (.reg r_s_l25Order_2 [1, 2, 5, 6]) (.block 0 (.loop l_s_l25Order_10))) (.seq (.reg r_s_l25Order_11 [4]) .ret))))
def k_s_l25Order : Nat → List Nat
  | 0 => [1, 2]
  | 1 => [1, 2, 5]
  | 2 => [1, 2, 5, 6]
  | 3 => [1, 2, 5, 6, 13]
  | 5 => [1, 2, 5, 6, 7]
  | 6 => [1, 2, 5, 6, 7, 37]
  | 7 => [1, 2, 5, 6, 7]
  | 8 => [1, 2, 5, 6]
  | 4 => [1, 2, 5, 6]
  | 9 => [4]
  | _ => []
theorem fn_s_l25Order : FnC Tryz.prog n_s_l25Order c_s_l25Order [(.tmp 4)] 53 :=
  ⟨Tryz.f16, _, k_s_l25Order, Tryz.func16, rfl, by kernel_rfl, by kernel_rfl, by kernel_rfl, rfl⟩
end Go.Proofs.YtbeoijlggphklaaGreat
