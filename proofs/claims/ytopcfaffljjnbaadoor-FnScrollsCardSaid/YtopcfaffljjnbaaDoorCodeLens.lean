/- The compact code of the functions, and that it is theirs: written by a program of this claim. -/
import Derived.Test.YtopcfaffljjnbaaDoorNums
namespace Go.Proofs.YtopcfaffljjnbaaDoor
open Go.Abs
set_option maxRecDepth 100000
def r_i_even_1_0 : List CO := [⟨none, (some 2), (.mv (.k (.v (.slice none 0 0))))⟩]
def r_i_even_1_1 : List CO := [⟨none, (some 6), (.bslice 1 (.v (.int .i64 (0))) 0 [])⟩, ⟨none, (some 3), (.mv (.t 6))⟩]
def r_i_even_1_2 : List CO := [⟨none, (some 7), (.mv (.t 0))⟩, ⟨none, (some 8), (.len false (.t 7))⟩, ⟨none, (some 9), (.mv (.k (.v (.int .i64 (0)))))⟩]
def r_i_even_1_3 : List CO := [⟨none, (some 10), (.bin .lss .none (.t 9) (.t 8))⟩]
def r_i_even_1_4 : List CO := [⟨none, (some 11), (.iaddr 1 (.t 7) (.t 9))⟩, ⟨none, (some 12), (.ld false 1 (.t 11))⟩, ⟨none, (some 5), (.mv (.t 12))⟩]
def r_i_even_1_5 : List CO := [⟨none, (some 13), (.mv (.t 3))⟩, ⟨none, (some 14), (.mv (.t 5))⟩, ⟨none, (some 15), (.len true (.t 14))⟩, ⟨none, (some 16), (.bslice 1 (.v (.int .i64 (0))) 1 [(0, (.t 15))])⟩, ⟨none, (some 17), (.app 1 8 (.t 13) (.t 16))⟩, ⟨none, (some 3), (.mv (.t 17))⟩]
def r_i_even_1_6 : List CO := [⟨none, (some 18), (.bin .add .none (.t 9) (.k (.v (.int .i64 (1)))))⟩, ⟨none, (some 9), (.mv (.t 18))⟩]
def l_i_even_1_7 : C := (.seq (.reg r_i_even_1_3 [3, 7, 8, 9, 10]) (.seq (.cond (.t 10) .skip (.exit 0)) (.seq (.block 1 (.seq (.reg r_i_even_1_4 [3, 5, 7, 8, 9]) (.reg r_i_even_1_5 [3, 7, 8, 9]))) (.reg r_i_even_1_6 [3, 7, 8, 9]))))
def r_i_even_1_8 : List CO := [⟨none, (some 19), (.mv (.t 3))⟩, ⟨none, (some 2), (.mv (.t 19))⟩]
/-- loop.example/g00884/impl.even$1 -/
def c_i_even_1 : C := (.seq (.reg r_i_even_1_0 [0]) (.seq (.reg r_i_even_1_1 [0, 3]) (.seq (.seq (.reg r_i_even_1_2 [3, 7, 8, 9]) (.block 0 (.loop l_i_even_1_7))) (.seq (.reg r_i_even_1_8 [2]) .ret))))
def k_i_even_1 : Nat → List Nat
  | 0 => [0]
  | 1 => [0, 3]
  | 2 => [3, 7, 8, 9]
  | 3 => [3, 7, 8, 9, 10]
  | 4 => [3, 5, 7, 8, 9]
  | 5 => [3, 7, 8, 9]
  | 6 => [3, 7, 8, 9]
  | 7 => [2]
  | _ => []
theorem fn_i_even_1 : FnC Tryd.prog n_i_even_1 c_i_even_1 [(.tmp 2)] 20 :=
  ⟨Tryd.f35, _, k_i_even_1, Tryd.func35, rfl, by kernel_rfl, by kernel_rfl, by kernel_rfl, rfl⟩
def r_cmp_isNaN_int_0 : List CO := [⟨none, (some 2), (.mv (.k (.v (.bool false))))⟩]
def r_cmp_isNaN_int_1 : List CO := [⟨none, (some 3), (.mv (.t 0))⟩, ⟨none, (some 4), (.mv (.t 0))⟩, ⟨none, (some 5), (.bin .neq .none (.t 3) (.t 4))⟩, ⟨none, (some 2), (.mv (.t 5))⟩]
/-- cmp.isNaN[int] -/
def c_cmp_isNaN_int : C := (.seq (.reg r_cmp_isNaN_int_0 [0]) (.seq (.reg r_cmp_isNaN_int_1 [2]) .ret))
def k_cmp_isNaN_int : Nat → List Nat
  | 0 => [0]
  | 1 => [2]
  | _ => []
theorem fn_cmp_isNaN_int : FnC Tryd.prog n_cmp_isNaN_int c_cmp_isNaN_int [(.tmp 2)] 6 :=
  ⟨Tryd.f77, _, k_cmp_isNaN_int, Tryd.func77, rfl, by kernel_rfl, by kernel_rfl, by kernel_rfl, rfl⟩
def r_cmp_Compare_int_0 : List CO := [⟨none, (some 4), (.mv (.k (.v (.int .i64 (0)))))⟩]
def r_cmp_Compare_int_1 : List CO := [⟨none, (some 7), (.mv (.t 0))⟩, ⟨none, (some 8), (.call n_cmp_isNaN_int [(.t 7)])⟩, ⟨none, (some 5), (.mv (.t 8))⟩]
def r_cmp_Compare_int_2 : List CO := [⟨none, (some 9), (.mv (.t 1))⟩, ⟨none, (some 10), (.call n_cmp_isNaN_int [(.t 9)])⟩, ⟨none, (some 6), (.mv (.t 10))⟩]
def r_cmp_Compare_int_3 : List CO := [⟨none, (some 11), (.mv (.t 5))⟩]
def r_cmp_Compare_int_4 : List CO := [⟨none, (some 12), (.mv (.t 6))⟩]
def r_cmp_Compare_int_5 : List CO := [⟨none, (some 4), (.mv (.k (.v (.int .i64 (0)))))⟩]
def r_cmp_Compare_int_6 : List CO := [⟨none, (some 4), (.mv (.k (.v (.int .i64 (-1)))))⟩]
def r_cmp_Compare_int_7 : List CO := [⟨none, (some 13), (.mv (.t 6))⟩]
def r_cmp_Compare_int_8 : List CO := [⟨none, (some 4), (.mv (.k (.v (.int .i64 (1)))))⟩]
def r_cmp_Compare_int_9 : List CO := [⟨none, (some 14), (.mv (.t 0))⟩, ⟨none, (some 15), (.mv (.t 1))⟩, ⟨none, (some 16), (.bin .lss .none (.t 14) (.t 15))⟩]
def r_cmp_Compare_int_10 : List CO := [⟨none, (some 4), (.mv (.k (.v (.int .i64 (-1)))))⟩]
def r_cmp_Compare_int_11 : List CO := [⟨none, (some 17), (.mv (.t 0))⟩, ⟨none, (some 18), (.mv (.t 1))⟩, ⟨none, (some 19), (.bin .gtr .none (.t 17) (.t 18))⟩]
def r_cmp_Compare_int_12 : List CO := [⟨none, (some 4), (.mv (.k (.v (.int .i64 (1)))))⟩]
def r_cmp_Compare_int_13 : List CO := [⟨none, (some 4), (.mv (.k (.v (.int .i64 (0)))))⟩]
/-- cmp.Compare[int] -/
def c_cmp_Compare_int : C := (.seq (.reg r_cmp_Compare_int_0 [0, 1]) (.seq (.reg r_cmp_Compare_int_1 [0, 1, 5]) (.seq (.reg r_cmp_Compare_int_2 [0, 1, 5, 6]) (.seq (.seq (.reg r_cmp_Compare_int_3 [0, 1, 6, 11]) (.cond (.t 11) (.seq (.seq (.reg r_cmp_Compare_int_4 [12]) (.cond (.t 12) (.seq (.reg r_cmp_Compare_int_5 [4]) .ret) .skip)) (.seq (.reg r_cmp_Compare_int_6 [4]) .ret)) .skip)) (.seq (.seq (.reg r_cmp_Compare_int_7 [0, 1, 13]) (.cond (.t 13) (.seq (.reg r_cmp_Compare_int_8 [4]) .ret) .skip)) (.seq (.seq (.reg r_cmp_Compare_int_9 [0, 1, 16]) (.cond (.t 16) (.seq (.reg r_cmp_Compare_int_10 [4]) .ret) .skip)) (.seq (.seq (.reg r_cmp_Compare_int_11 [19]) (.cond (.t 19) (.seq (.reg r_cmp_Compare_int_12 [4]) .ret) .skip)) (.seq (.reg r_cmp_Compare_int_13 [4]) .ret))))))))
def k_cmp_Compare_int : Nat → List Nat
  | 0 => [0, 1]
  | 1 => [0, 1, 5]
  | 2 => [0, 1, 5, 6]
  | 3 => [0, 1, 6, 11]
  | 4 => [12]
  | 5 => [4]
  | 6 => [4]
  | 7 => [0, 1, 13]
  | 8 => [4]
  | 9 => [0, 1, 16]
  | 10 => [4]
  | 11 => [19]
  | 12 => [4]
  | 13 => [4]
  | _ => []
theorem fn_cmp_Compare_int : FnC Tryd.prog n_cmp_Compare_int c_cmp_Compare_int [(.tmp 4)] 20 :=
  ⟨Tryd.f62, _, k_cmp_Compare_int, Tryd.func62, rfl, by kernel_rfl, by kernel_rfl, by kernel_rfl, rfl⟩
def r_slices_Compare_int_int_0 : List CO := [⟨none, (some 4), (.mv (.k (.v (.int .i64 (0)))))⟩]
def r_slices_Compare_int_int_1 : List CO := [⟨none, (some 9), (.mv (.t 0))⟩, ⟨none, (some 10), (.len false (.t 9))⟩, ⟨none, (some 11), (.mv (.k (.v (.int .i64 (0)))))⟩]
def r_slices_Compare_int_int_2 : List CO := [⟨none, (some 12), (.bin .lss .none (.t 11) (.t 10))⟩]
def r_slices_Compare_int_int_3 : List CO := [⟨none, (some 13), (.mv (.t 11))⟩, ⟨none, (some 14), (.iaddr 1 (.t 9) (.t 11))⟩, ⟨none, (some 15), (.ld false 1 (.t 14))⟩, ⟨none, (some 5), (.mv (.t 13))⟩, ⟨none, (some 6), (.mv (.t 15))⟩]
def r_slices_Compare_int_int_4 : List CO := [⟨none, (some 16), (.mv (.t 5))⟩, ⟨none, (some 17), (.mv (.t 1))⟩, ⟨none, (some 18), (.len false (.t 17))⟩, ⟨none, (some 19), (.bin .geq .none (.t 16) (.t 18))⟩]
def r_slices_Compare_int_int_5 : List CO := [⟨none, (some 4), (.mv (.k (.v (.int .i64 (1)))))⟩]
def r_slices_Compare_int_int_6 : List CO := [⟨none, (some 20), (.mv (.t 1))⟩, ⟨none, (some 21), (.mv (.t 5))⟩, ⟨none, (some 22), (.iaddr 1 (.t 20) (.t 21))⟩, ⟨none, (some 23), (.ld false 1 (.t 22))⟩, ⟨none, (some 7), (.mv (.t 23))⟩]
def r_slices_Compare_int_int_7 : List CO := [⟨none, (some 24), (.mv (.t 6))⟩, ⟨none, (some 25), (.mv (.t 7))⟩, ⟨none, (some 26), (.call n_cmp_Compare_int [(.t 24), (.t 25)])⟩, ⟨none, (some 8), (.mv (.t 26))⟩]
def r_slices_Compare_int_int_8 : List CO := [⟨none, (some 27), (.mv (.t 8))⟩, ⟨none, (some 28), (.bin .neq .none (.t 27) (.k (.v (.int .i64 (0)))))⟩]
def r_slices_Compare_int_int_9 : List CO := [⟨none, (some 29), (.mv (.t 8))⟩, ⟨none, (some 4), (.mv (.t 29))⟩]
def r_slices_Compare_int_int_10 : List CO := [⟨none, (some 30), (.bin .add .none (.t 11) (.k (.v (.int .i64 (1)))))⟩, ⟨none, (some 11), (.mv (.t 30))⟩]
def l_slices_Compare_int_int_11 : C := (.seq (.reg r_slices_Compare_int_int_2 [0, 1, 9, 10, 11, 12]) (.seq (.cond (.t 12) .skip (.exit 0)) (.seq (.block 1 (.seq (.reg r_slices_Compare_int_int_3 [0, 1, 5, 6, 9, 10, 11]) (.seq (.seq (.reg r_slices_Compare_int_int_4 [0, 1, 5, 6, 9, 10, 11, 19]) (.cond (.t 19) (.seq (.reg r_slices_Compare_int_int_5 [4]) .ret) .skip)) (.seq (.reg r_slices_Compare_int_int_6 [0, 1, 6, 7, 9, 10, 11]) (.seq (.reg r_slices_Compare_int_int_7 [0, 1, 8, 9, 10, 11]) (.seq (.reg r_slices_Compare_int_int_8 [0, 1, 8, 9, 10, 11, 28]) (.cond (.t 28) (.seq (.reg r_slices_Compare_int_int_9 [4]) .ret) .skip))))))) (.reg r_slices_Compare_int_int_10 [0, 1, 9, 10, 11]))))
def r_slices_Compare_int_int_12 : List CO := [⟨none, (some 31), (.mv (.t 0))⟩, ⟨none, (some 32), (.len false (.t 31))⟩, ⟨none, (some 33), (.mv (.t 1))⟩, ⟨none, (some 34), (.len false (.t 33))⟩, ⟨none, (some 35), (.bin .lss .none (.t 32) (.t 34))⟩]
def r_slices_Compare_int_int_13 : List CO := [⟨none, (some 4), (.mv (.k (.v (.int .i64 (-1)))))⟩]
def r_slices_Compare_int_int_14 : List CO := [⟨none, (some 4), (.mv (.k (.v (.int .i64 (0)))))⟩]
/-- slices.Compare[[]int,int] -/
def c_slices_Compare_int_int : C := (.seq (.reg r_slices_Compare_int_int_0 [0, 1]) (.seq (.seq (.reg r_slices_Compare_int_int_1 [0, 1, 9, 10, 11]) (.block 0 (.loop l_slices_Compare_int_int_11))) (.seq (.seq (.reg r_slices_Compare_int_int_12 [35]) (.cond (.t 35) (.seq (.reg r_slices_Compare_int_int_13 [4]) .ret) .skip)) (.seq (.reg r_slices_Compare_int_int_14 [4]) .ret))))
def k_slices_Compare_int_int : Nat → List Nat
  | 0 => [0, 1]
  | 1 => [0, 1, 9, 10, 11]
  | 2 => [0, 1, 9, 10, 11, 12]
  | 3 => [0, 1, 5, 6, 9, 10, 11]
  | 4 => [0, 1, 5, 6, 9, 10, 11, 19]
  | 5 => [4]
  | 6 => [0, 1, 6, 7, 9, 10, 11]
  | 7 => [0, 1, 8, 9, 10, 11]
  | 8 => [0, 1, 8, 9, 10, 11, 28]
  | 9 => [4]
  | 10 => [0, 1, 9, 10, 11]
  | 11 => [35]
  | 12 => [4]
  | 13 => [4]
  | _ => []
theorem fn_slices_Compare_int_int : FnC Tryd.prog n_slices_Compare_int_int c_slices_Compare_int_int [(.tmp 4)] 36 :=
  ⟨Tryd.f37, _, k_slices_Compare_int_int, Tryd.func37, rfl, by kernel_rfl, by kernel_rfl, by kernel_rfl, rfl⟩
end Go.Proofs.YtopcfaffljjnbaaDoor
