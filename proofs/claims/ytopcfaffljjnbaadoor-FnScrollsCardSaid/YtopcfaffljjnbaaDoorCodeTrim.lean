/- The compact code of the functions, and that it is theirs: written by a program of this claim. -/
import Derived.Test.YtopcfaffljjnbaaDoorNums
namespace Go.Proofs.YtopcfaffljjnbaaDoor
open Go.Abs
set_option maxRecDepth 100000
def r_strings_trimLeftASCII_0 : List CO := [⟨none, (some 4), (.mv (.k (.v (.string (bs [])))))⟩]
def r_strings_trimLeftASCII_1 : List CO := [⟨none, (some 5), (.mv (.t 0))⟩, ⟨none, (some 6), (.len true (.t 5))⟩, ⟨none, (some 7), (.bin .gtr .none (.t 6) (.k (.v (.int .i64 (0)))))⟩]
def r_strings_trimLeftASCII_2 : List CO := [⟨none, (some 8), (.mv (.t 1))⟩, ⟨none, (some 9), (.mv (.t 0))⟩, ⟨none, (some 10), (.idx (.t 9) (.k (.v (.int .i64 (0)))))⟩, ⟨none, (some 11), (.call n_strings_asciiSet_contains [(.t 8), (.t 10)])⟩, ⟨none, (some 12), (.un .not (.t 11))⟩]
def r_strings_trimLeftASCII_3 : List CO := [⟨none, (some 13), (.mv (.t 0))⟩, ⟨none, (some 14), (.slc none (.t 13) (some (.k (.v (.int .i64 (1))))) none)⟩, ⟨none, (some 0), (.mv (.t 14))⟩]
def l_strings_trimLeftASCII_4 : C := (.seq (.seq (.reg r_strings_trimLeftASCII_1 [0, 1, 7]) (.cond (.t 7) .skip (.exit 0))) (.block 1 (.seq (.seq (.reg r_strings_trimLeftASCII_2 [0, 1, 12]) (.cond (.t 12) (.exit 0) .skip)) (.reg r_strings_trimLeftASCII_3 [0, 1]))))
def r_strings_trimLeftASCII_5 : List CO := [⟨none, (some 15), (.mv (.t 0))⟩, ⟨none, (some 4), (.mv (.t 15))⟩]
/-- strings.trimLeftASCII -/
def c_strings_trimLeftASCII : C := (.seq (.reg r_strings_trimLeftASCII_0 [0, 1]) (.seq (.block 0 (.loop l_strings_trimLeftASCII_4)) (.seq (.reg r_strings_trimLeftASCII_5 [4]) .ret)))
def k_strings_trimLeftASCII : Nat → List Nat
  | 0 => [0, 1]
  | 1 => [0, 1, 7]
  | 2 => [0, 1, 12]
  | 3 => [0, 1]
  | 4 => [4]
  | _ => []
theorem fn_strings_trimLeftASCII : FnC Tryd.prog n_strings_trimLeftASCII c_strings_trimLeftASCII [(.tmp 4)] 16 :=
  ⟨Tryd.f51, _, k_strings_trimLeftASCII, Tryd.func51, rfl, by kernel_rfl, by kernel_rfl, by kernel_rfl, rfl⟩
def r_strings_trimRightASCII_0 : List CO := [⟨none, (some 4), (.mv (.k (.v (.string (bs [])))))⟩]
def r_strings_trimRightASCII_1 : List CO := [⟨none, (some 5), (.mv (.t 0))⟩, ⟨none, (some 6), (.len true (.t 5))⟩, ⟨none, (some 7), (.bin .gtr .none (.t 6) (.k (.v (.int .i64 (0)))))⟩]
def r_strings_trimRightASCII_2 : List CO := [⟨none, (some 8), (.mv (.t 1))⟩, ⟨none, (some 9), (.mv (.t 0))⟩, ⟨none, (some 10), (.mv (.t 0))⟩, ⟨none, (some 11), (.len true (.t 10))⟩, ⟨none, (some 12), (.bin .sub .none (.t 11) (.k (.v (.int .i64 (1)))))⟩, ⟨none, (some 13), (.idx (.t 9) (.t 12))⟩, ⟨none, (some 14), (.call n_strings_asciiSet_contains [(.t 8), (.t 13)])⟩, ⟨none, (some 15), (.un .not (.t 14))⟩]
def r_strings_trimRightASCII_3 : List CO := [⟨none, (some 16), (.mv (.t 0))⟩, ⟨none, (some 17), (.mv (.t 0))⟩, ⟨none, (some 18), (.len true (.t 17))⟩, ⟨none, (some 19), (.bin .sub .none (.t 18) (.k (.v (.int .i64 (1)))))⟩, ⟨none, (some 20), (.slc none (.t 16) none (some (.t 19)))⟩, ⟨none, (some 0), (.mv (.t 20))⟩]
def l_strings_trimRightASCII_4 : C := (.seq (.seq (.reg r_strings_trimRightASCII_1 [0, 1, 7]) (.cond (.t 7) .skip (.exit 0))) (.block 1 (.seq (.seq (.reg r_strings_trimRightASCII_2 [0, 1, 15]) (.cond (.t 15) (.exit 0) .skip)) (.reg r_strings_trimRightASCII_3 [0, 1]))))
def r_strings_trimRightASCII_5 : List CO := [⟨none, (some 21), (.mv (.t 0))⟩, ⟨none, (some 4), (.mv (.t 21))⟩]
/-- strings.trimRightASCII -/
def c_strings_trimRightASCII : C := (.seq (.reg r_strings_trimRightASCII_0 [0, 1]) (.seq (.block 0 (.loop l_strings_trimRightASCII_4)) (.seq (.reg r_strings_trimRightASCII_5 [4]) .ret)))
def k_strings_trimRightASCII : Nat → List Nat
  | 0 => [0, 1]
  | 1 => [0, 1, 7]
  | 2 => [0, 1, 15]
  | 3 => [0, 1]
  | 4 => [4]
  | _ => []
theorem fn_strings_trimRightASCII : FnC Tryd.prog n_strings_trimRightASCII c_strings_trimRightASCII [(.tmp 4)] 22 :=
  ⟨Tryd.f52, _, k_strings_trimRightASCII, Tryd.func52, rfl, by kernel_rfl, by kernel_rfl, by kernel_rfl, rfl⟩
def r_strings_Trim_0 : List CO := [⟨none, (some 4), (.mv (.k (.v (.string (bs [])))))⟩]
def r_strings_Trim_1 : List CO := [⟨none, (some 7), (.mv (.t 0))⟩, ⟨none, (some 8), (.bin .eql .none (.t 7) (.k (.v (.string (bs [])))))⟩, ⟨none, (some 9), (.mv (.t 8))⟩, ⟨(some (9, false)), (some 10), (.mv (.t 1))⟩, ⟨(some (9, false)), (some 11), (.bin .eql .none (.t 10) (.k (.v (.string (bs [])))))⟩, ⟨none, (some 12), (.pick (.t 9) (.k (.v (.bool true))) (.t 11))⟩]
def r_strings_Trim_2 : List CO := [⟨none, (some 13), (.mv (.t 0))⟩, ⟨none, (some 4), (.mv (.t 13))⟩]
def r_strings_Trim_3 : List CO := [⟨none, (some 14), (.mv (.t 1))⟩, ⟨none, (some 15), (.len true (.t 14))⟩, ⟨none, (some 16), (.bin .eql .none (.t 15) (.k (.v (.int .i64 (1)))))⟩, ⟨none, (some 17), (.mv (.t 16))⟩, ⟨(some (17, true)), (some 18), (.mv (.t 1))⟩, ⟨(some (17, true)), (some 19), (.idx (.t 18) (.k (.v (.int .i64 (0)))))⟩, ⟨(some (17, true)), (some 20), (.bin .lss .none (.t 19) (.k (.v (.int .u8 (128)))))⟩, ⟨none, (some 21), (.pick (.t 17) (.t 20) (.k (.v (.bool false))))⟩]
def r_strings_Trim_4 : List CO := [⟨none, (some 22), (.mv (.t 0))⟩, ⟨none, (some 23), (.mv (.t 1))⟩, ⟨none, (some 24), (.idx (.t 23) (.k (.v (.int .i64 (0)))))⟩, ⟨none, (some 25), (.call n_strings_trimRightByte [(.t 22), (.t 24)])⟩, ⟨none, (some 26), (.mv (.t 1))⟩, ⟨none, (some 27), (.idx (.t 26) (.k (.v (.int .i64 (0)))))⟩, ⟨none, (some 28), (.call n_strings_trimLeftByte [(.t 25), (.t 27)])⟩, ⟨none, (some 4), (.mv (.t 28))⟩]
def p_strings_Trim_4 : List (List Nat) := [[], [], [1], [0, 1, 2], [], [4], [0, 1, 2, 3, 4, 5], [0, 1, 2, 3, 4, 5, 6]]
def r_strings_Trim_5 : List CO := [⟨none, (some 30), (.mv (.t 1))⟩, ⟨none, (some 31), (.call n_strings_makeASCIISet [(.t 30)])⟩, ⟨none, (some 29), (.mv (.t 31))⟩, ⟨none, (some 32), (.ext (.t 29) 0)⟩, ⟨none, (some 33), (.ext (.t 29) 1)⟩, ⟨none, (some 5), (.box 256 (.k (.agg [(.v (.bool false)), (.v (.bool false)), (.v (.bool false)), (.v (.bool false)), (.v (.bool false)), (.v (.bool false)), (.v (.bool false)), (.v (.bool false)), (.v (.bool false)), (.v (.bool false)), (.v (.bool false)), (.v (.bool false)), (.v (.bool false)), (.v (.bool false)), (.v (.bool false)), (.v (.bool false)), (.v (.bool false)), (.v (.bool false)), (.v (.bool false)), (.v (.bool false)), (.v (.bool false)), (.v (.bool false)), (.v (.bool false)), (.v (.bool false)), (.v (.bool false)), (.v (.bool false)), (.v (.bool false)), (.v (.bool false)), (.v (.bool false)), (.v (.bool false)), (.v (.bool false)), (.v (.bool false)), (.v (.bool false)), (.v (.bool false)), (.v (.bool false)), (.v (.bool false)), (.v (.bool false)), (.v (.bool false)), (.v (.bool false)), (.v (.bool false)), (.v (.bool false)), (.v (.bool false)), (.v (.bool false)), (.v (.bool false)), (.v (.bool false)), (.v (.bool false)), (.v (.bool false)), (.v (.bool false)), (.v (.bool false)), (.v (.bool false)), (.v (.bool false)), (.v (.bool false)), (.v (.bool false)), (.v (.bool false)), (.v (.bool false)), (.v (.bool false)), (.v (.bool false)), (.v (.bool false)), (.v (.bool false)), (.v (.bool false)), (.v (.bool false)), (.v (.bool false)), (.v (.bool false)), (.v (.bool false)), (.v (.bool false)), (.v (.bool false)), (.v (.bool false)), (.v (.bool false)), (.v (.bool false)), (.v (.bool false)), (.v (.bool false)), (.v (.bool false)), (.v (.bool false)), (.v (.bool false)), (.v (.bool false)), (.v (.bool false)), (.v (.bool false)), (.v (.bool false)), (.v (.bool false)), (.v (.bool false)), (.v (.bool false)), (.v (.bool false)), (.v (.bool false)), (.v (.bool false)), (.v (.bool false)), (.v (.bool false)), (.v (.bool false)), (.v (.bool false)), (.v (.bool false)), (.v (.bool false)), (.v (.bool false)), (.v (.bool false)), (.v (.bool false)), (.v (.bool false)), (.v (.bool false)), (.v (.bool false)), (.v (.bool false)), (.v (.bool false)), (.v (.bool false)), (.v (.bool false)), (.v (.bool false)), (.v (.bool false)), (.v (.bool false)), (.v (.bool false)), (.v (.bool false)), (.v (.bool false)), (.v (.bool false)), (.v (.bool false)), (.v (.bool false)), (.v (.bool false)), (.v (.bool false)), (.v (.bool false)), (.v (.bool false)), (.v (.bool false)), (.v (.bool false)), (.v (.bool false)), (.v (.bool false)), (.v (.bool false)), (.v (.bool false)), (.v (.bool false)), (.v (.bool false)), (.v (.bool false)), (.v (.bool false)), (.v (.bool false)), (.v (.bool false)), (.v (.bool false)), (.v (.bool false)), (.v (.bool false)), (.v (.bool false)), (.v (.bool false)), (.v (.bool false)), (.v (.bool false)), (.v (.bool false)), (.v (.bool false)), (.v (.bool false)), (.v (.bool false)), (.v (.bool false)), (.v (.bool false)), (.v (.bool false)), (.v (.bool false)), (.v (.bool false)), (.v (.bool false)), (.v (.bool false)), (.v (.bool false)), (.v (.bool false)), (.v (.bool false)), (.v (.bool false)), (.v (.bool false)), (.v (.bool false)), (.v (.bool false)), (.v (.bool false)), (.v (.bool false)), (.v (.bool false)), (.v (.bool false)), (.v (.bool false)), (.v (.bool false)), (.v (.bool false)), (.v (.bool false)), (.v (.bool false)), (.v (.bool false)), (.v (.bool false)), (.v (.bool false)), (.v (.bool false)), (.v (.bool false)), (.v (.bool false)), (.v (.bool false)), (.v (.bool false)), (.v (.bool false)), (.v (.bool false)), (.v (.bool false)), (.v (.bool false)), (.v (.bool false)), (.v (.bool false)), (.v (.bool false)), (.v (.bool false)), (.v (.bool false)), (.v (.bool false)), (.v (.bool false)), (.v (.bool false)), (.v (.bool false)), (.v (.bool false)), (.v (.bool false)), (.v (.bool false)), (.v (.bool false)), (.v (.bool false)), (.v (.bool false)), (.v (.bool false)), (.v (.bool false)), (.v (.bool false)), (.v (.bool false)), (.v (.bool false)), (.v (.bool false)), (.v (.bool false)), (.v (.bool false)), (.v (.bool false)), (.v (.bool false)), (.v (.bool false)), (.v (.bool false)), (.v (.bool false)), (.v (.bool false)), (.v (.bool false)), (.v (.bool false)), (.v (.bool false)), (.v (.bool false)), (.v (.bool false)), (.v (.bool false)), (.v (.bool false)), (.v (.bool false)), (.v (.bool false)), (.v (.bool false)), (.v (.bool false)), (.v (.bool false)), (.v (.bool false)), (.v (.bool false)), (.v (.bool false)), (.v (.bool false)), (.v (.bool false)), (.v (.bool false)), (.v (.bool false)), (.v (.bool false)), (.v (.bool false)), (.v (.bool false)), (.v (.bool false)), (.v (.bool false)), (.v (.bool false)), (.v (.bool false)), (.v (.bool false)), (.v (.bool false)), (.v (.bool false)), (.v (.bool false)), (.v (.bool false)), (.v (.bool false)), (.v (.bool false)), (.v (.bool false)), (.v (.bool false)), (.v (.bool false)), (.v (.bool false)), (.v (.bool false)), (.v (.bool false)), (.v (.bool false)), (.v (.bool false)), (.v (.bool false)), (.v (.bool false)), (.v (.bool false)), (.v (.bool false)), (.v (.bool false)), (.v (.bool false)), (.v (.bool false)), (.v (.bool false)), (.v (.bool false)), (.v (.bool false)), (.v (.bool false)), (.v (.bool false)), (.v (.bool false)), (.v (.bool false)), (.v (.bool false))])))⟩, ⟨none, none, (.st 256 (.t 5) (.t 32))⟩, ⟨none, (some 6), (.mv (.t 33))⟩]
def r_strings_Trim_6 : List CO := [⟨none, (some 34), (.mv (.t 6))⟩]
def r_strings_Trim_7 : List CO := [⟨none, (some 35), (.mv (.t 0))⟩, ⟨none, (some 36), (.call n_strings_trimRightASCII [(.t 35), (.t 5)])⟩, ⟨none, (some 37), (.call n_strings_trimLeftASCII [(.t 36), (.t 5)])⟩, ⟨none, (some 4), (.mv (.t 37))⟩]
def r_strings_Trim_8 : List CO := [⟨none, (some 38), (.mv (.t 0))⟩, ⟨none, (some 39), (.mv (.t 1))⟩, ⟨none, (some 40), (.call n_strings_trimRightUnicode [(.t 38), (.t 39)])⟩, ⟨none, (some 41), (.mv (.t 1))⟩, ⟨none, (some 42), (.call n_strings_trimLeftUnicode [(.t 40), (.t 41)])⟩, ⟨none, (some 4), (.mv (.t 42))⟩]
/-- strings.Trim -/
def c_strings_Trim : C := (.seq (.reg r_strings_Trim_0 [0, 1]) (.seq (.seq (.reg r_strings_Trim_1 [0, 1, 12]) (.cond (.t 12) (.seq (.reg r_strings_Trim_2 [4]) .ret) .skip)) (.seq (.seq (.reg r_strings_Trim_3 [0, 1, 21]) (.cond (.t 21) (.seq (.regD r_strings_Trim_4 p_strings_Trim_4 [4]) .ret) .skip)) (.seq (.seq (.reg r_strings_Trim_5 [0, 1, 5, 6]) (.seq (.reg r_strings_Trim_6 [0, 1, 5, 34]) (.cond (.t 34) (.seq (.reg r_strings_Trim_7 [4]) .ret) .skip))) (.seq (.reg r_strings_Trim_8 [4]) .ret)))))
def k_strings_Trim : Nat → List Nat
  | 0 => [0, 1]
  | 1 => [0, 1, 12]
  | 2 => [4]
  | 3 => [0, 1, 21]
  | 4 => [4]
  | 5 => [0, 1, 5, 6]
  | 6 => [0, 1, 5, 34]
  | 7 => [4]
  | 8 => [4]
  | _ => []
theorem fn_strings_Trim : FnC Tryd.prog n_strings_Trim c_strings_Trim [(.tmp 4)] 43 :=
  ⟨Tryd.f27, _, k_strings_Trim, Tryd.func27, rfl, by kernel_rfl, by kernel_rfl, by kernel_rfl, rfl⟩
end Go.Proofs.YtopcfaffljjnbaaDoor
