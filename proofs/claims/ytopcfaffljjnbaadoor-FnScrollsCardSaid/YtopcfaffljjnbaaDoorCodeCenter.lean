/- The compact code of the functions, and that it is theirs: written by a program of this claim. -/
import Derived.Test.YtopcfaffljjnbaaDoorNums
namespace Go.Proofs.YtopcfaffljjnbaaDoor
open Go.Abs
set_option maxRecDepth 100000
def r_i_centered_0 : List CO := [⟨none, (some 4), (.mv (.k (.v (.string (bs [])))))⟩]
def r_i_centered_1 : List CO := [⟨none, (some 6), (.mv (.t 1))⟩, ⟨none, (some 7), (.mv (.t 0))⟩, ⟨none, (some 8), (.len true (.t 7))⟩, ⟨none, (some 9), (.bin .sub .none (.t 6) (.t 8))⟩, ⟨none, (some 5), (.mv (.t 9))⟩]
def r_i_centered_2 : List CO := [⟨none, (some 10), (.mv (.t 5))⟩, ⟨none, (some 11), (.bin .quo .none (.t 10) (.k (.v (.int .i64 (2)))))⟩, ⟨none, (some 12), (.call n_strings_Repeat [(.k (.v (.string (bs [32])))), (.t 11)])⟩, ⟨none, (some 13), (.mv (.t 0))⟩, ⟨none, (some 14), (.bin .add .none (.t 12) (.t 13))⟩, ⟨none, (some 15), (.mv (.t 5))⟩, ⟨none, (some 16), (.mv (.t 5))⟩, ⟨none, (some 17), (.bin .quo .none (.t 16) (.k (.v (.int .i64 (2)))))⟩, ⟨none, (some 18), (.bin .sub .none (.t 15) (.t 17))⟩, ⟨none, (some 19), (.call n_strings_Repeat [(.k (.v (.string (bs [32])))), (.t 18)])⟩, ⟨none, (some 20), (.bin .add .none (.t 14) (.t 19))⟩, ⟨none, (some 4), (.mv (.t 20))⟩]
/-- loop.example/g00884/impl.centered -/
def c_i_centered : C := (.seq (.reg r_i_centered_0 [0, 1]) (.seq (.reg r_i_centered_1 [0, 5]) (.seq (.reg r_i_centered_2 [4]) .ret)))
def k_i_centered : Nat → List Nat
  | 0 => [0, 1]
  | 1 => [0, 5]
  | 2 => [4]
  | _ => []
theorem fn_i_centered : FnC Tryd.prog n_i_centered c_i_centered [(.tmp 4)] 21 :=
  ⟨Tryd.f25, _, k_i_centered, Tryd.func25, rfl, by kernel_rfl, by kernel_rfl, by kernel_rfl, rfl⟩
end Go.Proofs.YtopcfaffljjnbaaDoor
