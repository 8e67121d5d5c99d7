/- The compact code of the functions, and that it is theirs: written by a program of this claim. -/
import Derived.Test.YtgefdcllialhkaaNums
namespace Go.Proofs.Ytgefdcllialhkaa
open Go.Abs
set_option maxRecDepth 100000
def r_slices_IndexFunc_int_int_0 : List CO := [⟨none, (some 4), (.mv (.k (.v (.int .i64 (0)))))⟩]
def r_slices_IndexFunc_int_int_1 : List CO := [⟨none, (some 6), (.mv (.t 0))⟩, ⟨none, (some 7), (.len false (.t 6))⟩, ⟨none, (some 8), (.mv (.k (.v (.int .i64 (0)))))⟩]
def r_slices_IndexFunc_int_int_2 : List CO := [⟨none, (some 9), (.bin .lss .none (.t 8) (.t 7))⟩]
def r_slices_IndexFunc_int_int_3 : List CO := [⟨none, (some 10), (.mv (.t 8))⟩, ⟨none, (some 5), (.mv (.t 10))⟩]
def r_slices_IndexFunc_int_int_4 : List CO := [⟨none, (some 11), (.mv (.t 1))⟩, ⟨none, (some 12), (.mv (.t 0))⟩, ⟨none, (some 13), (.mv (.t 5))⟩, ⟨none, (some 14), (.iaddr 1 (.t 12) (.t 13))⟩, ⟨none, (some 15), (.ld false 1 (.t 14))⟩, ⟨none, (some 16), (.callv (.t 11) [(.t 15)])⟩]
def r_slices_IndexFunc_int_int_5 : List CO := [⟨none, (some 17), (.mv (.t 5))⟩, ⟨none, (some 4), (.mv (.t 17))⟩]
def r_slices_IndexFunc_int_int_6 : List CO := [⟨none, (some 18), (.bin .add .none (.t 8) (.k (.v (.int .i64 (1)))))⟩, ⟨none, (some 8), (.mv (.t 18))⟩]
def l_slices_IndexFunc_int_int_7 : C := (.seq (.reg r_slices_IndexFunc_int_int_2 [0, 1, 7, 8, 9]) (.seq (.cond (.t 9) .skip (.exit 0)) (.seq (.block 1 (.seq (.reg r_slices_IndexFunc_int_int_3 [0, 1, 5, 7, 8]) (.seq (.reg r_slices_IndexFunc_int_int_4 [0, 1, 5, 7, 8, 16]) (.cond (.t 16) (.seq (.reg r_slices_IndexFunc_int_int_5 [4]) .ret) .skip)))) (.reg r_slices_IndexFunc_int_int_6 [0, 1, 7, 8]))))
def r_slices_IndexFunc_int_int_8 : List CO := [⟨none, (some 4), (.mv (.k (.v (.int .i64 (-1)))))⟩]
/-- slices.IndexFunc[[]int,int] -/
def c_slices_IndexFunc_int_int : C := (.seq (.reg r_slices_IndexFunc_int_int_0 [0, 1]) (.seq (.seq (.reg r_slices_IndexFunc_int_int_1 [0, 1, 7, 8]) (.block 0 (.loop l_slices_IndexFunc_int_int_7))) (.seq (.reg r_slices_IndexFunc_int_int_8 [4]) .ret)))
def k_slices_IndexFunc_int_int : Nat → List Nat
  | 0 => [0, 1]
  | 1 => [0, 1, 7, 8]
  | 2 => [0, 1, 7, 8, 9]
  | 3 => [0, 1, 5, 7, 8]
  | 4 => [0, 1, 5, 7, 8, 16]
  | 5 => [4]
  | 6 => [0, 1, 7, 8]
  | 7 => [4]
  | _ => []
theorem fn_slices_IndexFunc_int_int : FnC Try.prog n_slices_IndexFunc_int_int c_slices_IndexFunc_int_int [(.tmp 4)] 19 :=
  ⟨Try.f129, _, k_slices_IndexFunc_int_int, Try.func129, rfl, by kernel_rfl, by kernel_rfl, by kernel_rfl, rfl⟩
def r_slices_ContainsFunc_int_int_0 : List CO := [⟨none, (some 4), (.mv (.k (.v (.bool false))))⟩]
def r_slices_ContainsFunc_int_int_1 : List CO := [⟨none, (some 5), (.mv (.t 0))⟩, ⟨none, (some 6), (.mv (.t 1))⟩, ⟨none, (some 7), (.call n_slices_IndexFunc_int_int [(.t 5), (.t 6)])⟩, ⟨none, (some 8), (.bin .geq .none (.t 7) (.k (.v (.int .i64 (0)))))⟩, ⟨none, (some 4), (.mv (.t 8))⟩]
/-- slices.ContainsFunc[[]int,int] -/
def c_slices_ContainsFunc_int_int : C := (.seq (.reg r_slices_ContainsFunc_int_int_0 [0, 1]) (.seq (.reg r_slices_ContainsFunc_int_int_1 [4]) .ret))
def k_slices_ContainsFunc_int_int : Nat → List Nat
  | 0 => [0, 1]
  | 1 => [4]
  | _ => []
theorem fn_slices_ContainsFunc_int_int : FnC Try.prog n_slices_ContainsFunc_int_int c_slices_ContainsFunc_int_int [(.tmp 4)] 9 :=
  ⟨Try.f105, _, k_slices_ContainsFunc_int_int, Try.func105, rfl, by kernel_rfl, by kernel_rfl, by kernel_rfl, rfl⟩
def r_slices_Index_int_int_0 : List CO := [⟨none, (some 4), (.mv (.k (.v (.int .i64 (0)))))⟩]
def r_slices_Index_int_int_1 : List CO := [⟨none, (some 6), (.mv (.t 0))⟩, ⟨none, (some 7), (.len false (.t 6))⟩, ⟨none, (some 8), (.mv (.k (.v (.int .i64 (0)))))⟩]
def r_slices_Index_int_int_2 : List CO := [⟨none, (some 9), (.bin .lss .none (.t 8) (.t 7))⟩]
def r_slices_Index_int_int_3 : List CO := [⟨none, (some 10), (.mv (.t 8))⟩, ⟨none, (some 5), (.mv (.t 10))⟩]
def r_slices_Index_int_int_4 : List CO := [⟨none, (some 11), (.mv (.t 1))⟩, ⟨none, (some 12), (.mv (.t 0))⟩, ⟨none, (some 13), (.mv (.t 5))⟩, ⟨none, (some 14), (.iaddr 1 (.t 12) (.t 13))⟩, ⟨none, (some 15), (.ld false 1 (.t 14))⟩, ⟨none, (some 16), (.bin .eql .none (.t 11) (.t 15))⟩]
def r_slices_Index_int_int_5 : List CO := [⟨none, (some 17), (.mv (.t 5))⟩, ⟨none, (some 4), (.mv (.t 17))⟩]
def r_slices_Index_int_int_6 : List CO := [⟨none, (some 18), (.bin .add .none (.t 8) (.k (.v (.int .i64 (1)))))⟩, ⟨none, (some 8), (.mv (.t 18))⟩]
def l_slices_Index_int_int_7 : C := (.seq (.reg r_slices_Index_int_int_2 [0, 1, 7, 8, 9]) (.seq (.cond (.t 9) .skip (.exit 0)) (.seq (.block 1 (.seq (.reg r_slices_Index_int_int_3 [0, 1, 5, 7, 8]) (.seq (.reg r_slices_Index_int_int_4 [0, 1, 5, 7, 8, 16]) (.cond (.t 16) (.seq (.reg r_slices_Index_int_int_5 [4]) .ret) .skip)))) (.reg r_slices_Index_int_int_6 [0, 1, 7, 8]))))
def r_slices_Index_int_int_8 : List CO := [⟨none, (some 4), (.mv (.k (.v (.int .i64 (-1)))))⟩]
/-- slices.Index[[]int,int] -/
def c_slices_Index_int_int : C := (.seq (.reg r_slices_Index_int_int_0 [0, 1]) (.seq (.seq (.reg r_slices_Index_int_int_1 [0, 1, 7, 8]) (.block 0 (.loop l_slices_Index_int_int_7))) (.seq (.reg r_slices_Index_int_int_8 [4]) .ret)))
def k_slices_Index_int_int : Nat → List Nat
  | 0 => [0, 1]
  | 1 => [0, 1, 7, 8]
  | 2 => [0, 1, 7, 8, 9]
  | 3 => [0, 1, 5, 7, 8]
  | 4 => [0, 1, 5, 7, 8, 16]
  | 5 => [4]
  | 6 => [0, 1, 7, 8]
  | 7 => [4]
  | _ => []
theorem fn_slices_Index_int_int : FnC Try.prog n_slices_Index_int_int c_slices_Index_int_int [(.tmp 4)] 19 :=
  ⟨Try.f96, _, k_slices_Index_int_int, Try.func96, rfl, by kernel_rfl, by kernel_rfl, by kernel_rfl, rfl⟩
def r_slices_Min_int_int_0 : List CO := [⟨none, (some 2), (.mv (.k (.v (.int .i64 (0)))))⟩]
def r_slices_Min_int_int_1 : List CO := [⟨none, (some 5), (.mv (.t 0))⟩, ⟨none, (some 6), (.len false (.t 5))⟩, ⟨none, (some 7), (.bin .lss .none (.t 6) (.k (.v (.int .i64 (1)))))⟩]
def r_slices_Min_int_int_2 : List CO := [⟨none, (some 9), (.mv (.t 0))⟩, ⟨none, (some 10), (.iaddr 1 (.t 9) (.k (.v (.int .i64 (0)))))⟩, ⟨none, (some 11), (.ld false 1 (.t 10))⟩, ⟨none, (some 3), (.mv (.t 11))⟩]
def r_slices_Min_int_int_3 : List CO := [⟨none, (some 4), (.mv (.k (.v (.int .i64 (1)))))⟩]
def r_slices_Min_int_int_4 : List CO := [⟨none, (some 12), (.mv (.t 4))⟩, ⟨none, (some 13), (.mv (.t 0))⟩, ⟨none, (some 14), (.len false (.t 13))⟩, ⟨none, (some 15), (.bin .lss .none (.t 12) (.t 14))⟩]
def r_slices_Min_int_int_5 : List CO := [⟨none, (some 18), (.mv (.t 3))⟩, ⟨none, (some 19), (.mv (.t 0))⟩, ⟨none, (some 20), (.mv (.t 4))⟩, ⟨none, (some 21), (.iaddr 1 (.t 19) (.t 20))⟩, ⟨none, (some 22), (.ld false 1 (.t 21))⟩, ⟨none, (some 23), (.mm false [(.t 18), (.t 22)])⟩, ⟨none, (some 3), (.mv (.t 23))⟩]
def r_slices_Min_int_int_6 : List CO := [⟨none, (some 16), (.mv (.t 4))⟩, ⟨none, (some 17), (.bin .add .none (.t 16) (.k (.v (.int .i64 (1)))))⟩, ⟨none, (some 4), (.mv (.t 17))⟩]
def l_slices_Min_int_int_7 : C := (.seq (.seq (.reg r_slices_Min_int_int_4 [0, 3, 4, 15]) (.cond (.t 15) .skip (.exit 0))) (.seq (.block 1 (.reg r_slices_Min_int_int_5 [0, 3, 4])) (.reg r_slices_Min_int_int_6 [0, 3, 4])))
def r_slices_Min_int_int_8 : List CO := [⟨none, (some 24), (.mv (.t 3))⟩, ⟨none, (some 2), (.mv (.t 24))⟩]
/-- slices.Min[[]int,int] -/
def c_slices_Min_int_int : C := (.seq (.reg r_slices_Min_int_int_0 [0]) (.seq (.seq (.reg r_slices_Min_int_int_1 [0, 7]) (.cond (.t 7) .bad .skip)) (.seq (.reg r_slices_Min_int_int_2 [0, 3]) (.seq (.seq (.reg r_slices_Min_int_int_3 [0, 3, 4]) (.block 0 (.loop l_slices_Min_int_int_7))) (.seq (.reg r_slices_Min_int_int_8 [2]) .ret)))))
def k_slices_Min_int_int : Nat → List Nat
  | 0 => [0]
  | 1 => [0, 7]
  | 3 => [0, 3]
  | 4 => [0, 3, 4]
  | 5 => [0, 3, 4, 15]
  | 7 => [0, 3, 4]
  | 6 => [0, 3, 4]
  | 8 => [2]
  | _ => []
theorem fn_slices_Min_int_int : FnC Try.prog n_slices_Min_int_int c_slices_Min_int_int [(.tmp 2)] 25 :=
  ⟨Try.f97, _, k_slices_Min_int_int, Try.func97, rfl, by kernel_rfl, by kernel_rfl, by kernel_rfl, rfl⟩
end Go.Proofs.Ytgefdcllialhkaa
