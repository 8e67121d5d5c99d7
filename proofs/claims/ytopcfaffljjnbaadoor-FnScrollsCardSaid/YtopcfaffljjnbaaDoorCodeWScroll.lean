/- The compact code of the functions, and that it is theirs: written by a program of this claim. -/
import Derived.Test.YtopcfaffljjnbaaDoorNums
namespace Go.Proofs.YtopcfaffljjnbaaDoor
open Go.Abs
set_option maxRecDepth 100000
def r_i_ScrollPicture_0 : List CO := [⟨none, (some 4), (.mv (.k (.v (.string (bs [])))))⟩, ⟨none, (some 5), (.mv (.k (.v (.bool false))))⟩]
def r_i_ScrollPicture_1 : List CO := [⟨none, (some 14), (.mv (.t 0))⟩, ⟨none, (some 15), (.mv (.t 1))⟩, ⟨none, (some 16), (.call n_i_EvenLines [(.t 14), (.t 15)])⟩, ⟨none, (some 13), (.mv (.t 16))⟩, ⟨none, (some 17), (.ext (.t 13) 0)⟩, ⟨none, (some 18), (.ext (.t 13) 1)⟩, ⟨none, (some 19), (.ext (.t 13) 2)⟩, ⟨none, (some 6), (.mv (.t 17))⟩, ⟨none, (some 7), (.mv (.t 18))⟩, ⟨none, (some 8), (.mv (.t 19))⟩]
def r_i_ScrollPicture_2 : List CO := [⟨none, (some 20), (.mv (.t 8))⟩, ⟨none, (some 21), (.un .not (.t 20))⟩]
def r_i_ScrollPicture_3 : List CO := [⟨none, (some 4), (.mv (.k (.v (.string (bs [])))))⟩, ⟨none, (some 5), (.mv (.k (.v (.bool false))))⟩]
def r_i_ScrollPicture_4 : List CO := [⟨none, (some 22), (.mv (.t 1))⟩, ⟨none, (some 23), (.bin .add .none (.t 22) (.k (.v (.int .i64 (2)))))⟩, ⟨none, (some 24), (.call n_strings_Repeat [(.k (.v (.string (bs [61])))), (.t 23)])⟩, ⟨none, (some 9), (.mv (.t 24))⟩]
def r_i_ScrollPicture_5 : List CO := [⟨none, (some 25), (.mv (.t 9))⟩, ⟨none, (some 26), (.bin .add .none (.k (.v (.string (bs [47])))) (.t 25))⟩, ⟨none, (some 27), (.bin .add .none (.t 26) (.k (.v (.string (bs [92, 10])))))⟩, ⟨none, (some 10), (.mv (.t 27))⟩]
def r_i_ScrollPicture_6 : List CO := [⟨none, (some 28), (.mv (.t 6))⟩, ⟨none, (some 29), (.len false (.t 28))⟩, ⟨none, (some 30), (.mv (.k (.v (.int .i64 (0)))))⟩]
def r_i_ScrollPicture_7 : List CO := [⟨none, (some 31), (.bin .lss .none (.t 30) (.t 29))⟩]
def r_i_ScrollPicture_8 : List CO := [⟨none, (some 32), (.iaddr 1 (.t 28) (.t 30))⟩, ⟨none, (some 33), (.ld false 1 (.t 32))⟩, ⟨none, (some 12), (.mv (.t 33))⟩]
def r_i_ScrollPicture_9 : List CO := [⟨none, (some 34), (.mv (.t 10))⟩, ⟨none, (some 35), (.mv (.t 12))⟩, ⟨none, (some 36), (.mv (.t 1))⟩, ⟨none, (some 37), (.call n_i_centered [(.t 35), (.t 36)])⟩, ⟨none, (some 38), (.bin .add .none (.k (.v (.string (bs [40, 32])))) (.t 37))⟩, ⟨none, (some 39), (.bin .add .none (.t 38) (.k (.v (.string (bs [32, 41, 10])))))⟩, ⟨none, (some 40), (.bin .add .none (.t 34) (.t 39))⟩, ⟨none, (some 10), (.mv (.t 40))⟩]
def r_i_ScrollPicture_10 : List CO := [⟨none, (some 41), (.bin .add .none (.t 30) (.k (.v (.int .i64 (1)))))⟩, ⟨none, (some 30), (.mv (.t 41))⟩]
def l_i_ScrollPicture_11 : C := (.seq (.reg r_i_ScrollPicture_7 [1, 9, 10, 28, 29, 30, 31]) (.seq (.cond (.t 31) .skip (.exit 0)) (.seq (.block 1 (.seq (.reg r_i_ScrollPicture_8 [1, 9, 10, 12, 28, 29, 30]) (.reg r_i_ScrollPicture_9 [1, 9, 10, 28, 29, 30]))) (.reg r_i_ScrollPicture_10 [1, 9, 10, 28, 29, 30]))))
def r_i_ScrollPicture_12 : List CO := [⟨none, (some 42), (.mv (.t 10))⟩, ⟨none, (some 43), (.bin .add .none (.t 42) (.k (.v (.string (bs [92])))))⟩, ⟨none, (some 44), (.mv (.t 9))⟩, ⟨none, (some 45), (.bin .add .none (.t 43) (.t 44))⟩, ⟨none, (some 46), (.bin .add .none (.t 45) (.k (.v (.string (bs [47, 10])))))⟩, ⟨none, (some 4), (.mv (.t 46))⟩, ⟨none, (some 5), (.mv (.k (.v (.bool true))))⟩]
/-- loop.example/g00884/impl.ScrollPicture -/
def c_i_ScrollPicture : C := (.seq (.reg r_i_ScrollPicture_0 [0, 1]) (.seq (.reg r_i_ScrollPicture_1 [1, 6, 8]) (.seq (.seq (.reg r_i_ScrollPicture_2 [1, 6, 21]) (.cond (.t 21) (.seq (.reg r_i_ScrollPicture_3 [4, 5]) .ret) .skip)) (.seq (.reg r_i_ScrollPicture_4 [1, 6, 9]) (.seq (.reg r_i_ScrollPicture_5 [1, 6, 9, 10]) (.seq (.seq (.reg r_i_ScrollPicture_6 [1, 9, 10, 28, 29, 30]) (.block 0 (.loop l_i_ScrollPicture_11))) (.seq (.reg r_i_ScrollPicture_12 [4, 5]) .ret)))))))
def k_i_ScrollPicture : Nat → List Nat
  | 0 => [0, 1]
  | 1 => [1, 6, 8]
  | 2 => [1, 6, 21]
  | 3 => [4, 5]
  | 4 => [1, 6, 9]
  | 5 => [1, 6, 9, 10]
  | 6 => [1, 9, 10, 28, 29, 30]
  | 7 => [1, 9, 10, 28, 29, 30, 31]
  | 8 => [1, 9, 10, 12, 28, 29, 30]
  | 9 => [1, 9, 10, 28, 29, 30]
  | 10 => [1, 9, 10, 28, 29, 30]
  | 11 => [4, 5]
  | _ => []
theorem fn_i_ScrollPicture : FnC Tryd.prog n_i_ScrollPicture c_i_ScrollPicture [(.tmp 4), (.tmp 5)] 47 :=
  ⟨Tryd.f13, _, k_i_ScrollPicture, Tryd.func13, rfl, by kernel_rfl, by kernel_rfl, by kernel_rfl, rfl⟩
end Go.Proofs.YtopcfaffljjnbaaDoor
