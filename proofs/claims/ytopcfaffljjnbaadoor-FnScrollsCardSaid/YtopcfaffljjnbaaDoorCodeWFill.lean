/- The compact code of the functions, and that it is theirs: written by a program of this claim. -/
import Derived.Test.YtopcfaffljjnbaaDoorNums
namespace Go.Proofs.YtopcfaffljjnbaaDoor
open Go.Abs
set_option maxRecDepth 100000
def r_i_FillLines_0 : List CO := [⟨none, (some 4), (.mv (.k (.v (.slice none 0 0))))⟩, ⟨none, (some 5), (.mv (.k (.v (.bool false))))⟩]
def r_i_FillLines_1 : List CO := [⟨none, (some 6), (.mv (.t 0))⟩, ⟨none, (some 7), (.mv (.t 1))⟩, ⟨none, (some 8), (.call n_i_isOnScroll [(.t 6), (.t 7)])⟩, ⟨none, (some 9), (.un .not (.t 8))⟩]
def r_i_FillLines_2 : List CO := [⟨none, (some 4), (.mv (.k (.v (.slice none 0 0))))⟩, ⟨none, (some 5), (.mv (.k (.v (.bool false))))⟩]
def r_i_FillLines_3 : List CO := [⟨none, (some 10), (.mv (.t 0))⟩, ⟨none, (some 11), (.mv (.t 1))⟩, ⟨none, (some 12), (.call n_i_wrapped [(.t 10), (.t 11)])⟩, ⟨none, (some 4), (.mv (.t 12))⟩, ⟨none, (some 5), (.mv (.k (.v (.bool true))))⟩]
/-- loop.example/g00884/impl.FillLines -/
def c_i_FillLines : C := (.seq (.reg r_i_FillLines_0 [0, 1]) (.seq (.seq (.reg r_i_FillLines_1 [0, 1, 9]) (.cond (.t 9) (.seq (.reg r_i_FillLines_2 [4, 5]) .ret) .skip)) (.seq (.reg r_i_FillLines_3 [4, 5]) .ret)))
def k_i_FillLines : Nat → List Nat
  | 0 => [0, 1]
  | 1 => [0, 1, 9]
  | 2 => [4, 5]
  | 3 => [4, 5]
  | _ => []
theorem fn_i_FillLines : FnC Tryd.prog n_i_FillLines c_i_FillLines [(.tmp 4), (.tmp 5)] 13 :=
  ⟨Tryd.f9, _, k_i_FillLines, Tryd.func9, rfl, by kernel_rfl, by kernel_rfl, by kernel_rfl, rfl⟩
def r_s_FillLines_0 : List CO := [⟨none, (some 4), (.mv (.k (.v (.slice none 0 0))))⟩, ⟨none, (some 5), (.mv (.k (.v (.bool false))))⟩]
def r_s_FillLines_1 : List CO := [⟨none, (some 6), (.mv (.t 0))⟩, ⟨none, (some 7), (.mv (.t 1))⟩, ⟨none, (some 8), (.call n_s_l23Fits [(.t 6), (.t 7)])⟩, ⟨none, (some 9), (.un .not (.t 8))⟩]
def r_s_FillLines_2 : List CO := [⟨none, (some 10), (.bslice 1 (.v (.string (bs []))) 0 [])⟩, ⟨none, (some 4), (.mv (.t 10))⟩, ⟨none, (some 5), (.mv (.k (.v (.bool false))))⟩]
def r_s_FillLines_3 : List CO := [⟨none, (some 11), (.mv (.t 0))⟩, ⟨none, (some 12), (.mv (.t 1))⟩, ⟨none, (some 13), (.call n_s_l23Fill [(.t 11), (.t 12)])⟩, ⟨none, (some 4), (.mv (.t 13))⟩, ⟨none, (some 5), (.mv (.k (.v (.bool true))))⟩]
/-- loop.example/g00884/spec.FillLines -/
def c_s_FillLines : C := (.seq (.reg r_s_FillLines_0 [0, 1]) (.seq (.seq (.reg r_s_FillLines_1 [0, 1, 9]) (.cond (.t 9) (.seq (.reg r_s_FillLines_2 [4, 5]) .ret) .skip)) (.seq (.reg r_s_FillLines_3 [4, 5]) .ret)))
def k_s_FillLines : Nat → List Nat
  | 0 => [0, 1]
  | 1 => [0, 1, 9]
  | 2 => [4, 5]
  | 3 => [4, 5]
  | _ => []
theorem fn_s_FillLines : FnC Tryd.prog n_s_FillLines c_s_FillLines [(.tmp 4), (.tmp 5)] 14 :=
  ⟨Tryd.f10, _, k_s_FillLines, Tryd.func10, rfl, by kernel_rfl, by kernel_rfl, by kernel_rfl, rfl⟩
end Go.Proofs.YtopcfaffljjnbaaDoor
