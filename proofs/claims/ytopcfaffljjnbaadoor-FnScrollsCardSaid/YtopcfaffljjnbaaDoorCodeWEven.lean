/- The compact code of the functions, and that it is theirs: written by a program of this claim. -/
import Derived.Test.YtopcfaffljjnbaaDoorNums
namespace Go.Proofs.YtopcfaffljjnbaaDoor
open Go.Abs
set_option maxRecDepth 100000
def r_i_EvenLines_0 : List CO := [⟨none, (some 4), (.mv (.k (.v (.slice none 0 0))))⟩, ⟨none, (some 5), (.mv (.k (.v (.int .i64 (0)))))⟩, ⟨none, (some 6), (.mv (.k (.v (.bool false))))⟩]
def r_i_EvenLines_1 : List CO := [⟨none, (some 9), (.mv (.t 0))⟩, ⟨none, (some 10), (.mv (.t 1))⟩, ⟨none, (some 11), (.call n_i_isOnScroll [(.t 9), (.t 10)])⟩, ⟨none, (some 12), (.un .not (.t 11))⟩]
def r_i_EvenLines_2 : List CO := [⟨none, (some 4), (.mv (.k (.v (.slice none 0 0))))⟩, ⟨none, (some 5), (.mv (.k (.v (.int .i64 (0)))))⟩, ⟨none, (some 6), (.mv (.k (.v (.bool false))))⟩]
def r_i_EvenLines_3 : List CO := [⟨none, (some 14), (.mv (.t 0))⟩, ⟨none, (some 15), (.call n_strings_Split [(.t 14), (.k (.v (.string (bs [32]))))])⟩, ⟨none, (some 16), (.mv (.t 1))⟩, ⟨none, (some 17), (.call n_i_even [(.t 15), (.t 16)])⟩, ⟨none, (some 13), (.mv (.t 17))⟩, ⟨none, (some 18), (.ext (.t 13) 0)⟩, ⟨none, (some 19), (.ext (.t 13) 1)⟩, ⟨none, (some 7), (.mv (.t 18))⟩, ⟨none, (some 8), (.mv (.t 19))⟩]
def r_i_EvenLines_4 : List CO := [⟨none, (some 20), (.mv (.t 7))⟩, ⟨none, (some 21), (.mv (.t 8))⟩, ⟨none, (some 4), (.mv (.t 20))⟩, ⟨none, (some 5), (.mv (.t 21))⟩, ⟨none, (some 6), (.mv (.k (.v (.bool true))))⟩]
/-- loop.example/g00884/impl.EvenLines -/
def c_i_EvenLines : C := (.seq (.reg r_i_EvenLines_0 [0, 1]) (.seq (.seq (.reg r_i_EvenLines_1 [0, 1, 12]) (.cond (.t 12) (.seq (.reg r_i_EvenLines_2 [4, 5, 6]) .ret) .skip)) (.seq (.reg r_i_EvenLines_3 [7, 8]) (.seq (.reg r_i_EvenLines_4 [4, 5, 6]) .ret))))
def k_i_EvenLines : Nat → List Nat
  | 0 => [0, 1]
  | 1 => [0, 1, 12]
  | 2 => [4, 5, 6]
  | 3 => [7, 8]
  | 4 => [4, 5, 6]
  | _ => []
theorem fn_i_EvenLines : FnC Tryd.prog n_i_EvenLines c_i_EvenLines [(.tmp 4), (.tmp 5), (.tmp 6)] 22 :=
  ⟨Tryd.f6, _, k_i_EvenLines, Tryd.func6, rfl, by kernel_rfl, by kernel_rfl, by kernel_rfl, rfl⟩
end Go.Proofs.YtopcfaffljjnbaaDoor
