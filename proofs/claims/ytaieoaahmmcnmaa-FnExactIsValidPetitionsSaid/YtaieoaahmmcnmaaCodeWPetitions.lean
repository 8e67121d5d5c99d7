/- The compact code of the functions, and that it is theirs: written by a program of this claim. -/
import Derived.Test.YtaieoaahmmcnmaaNums
namespace Go.Proofs.Ytaieoaahmmcnmaa
open Go.Abs
set_option maxRecDepth 100000
def r_w_FnExactIsValidPetitions_0 : List CO := [⟨none, (some 2), (.mv (.k (.v (.bool false))))⟩]
def r_w_FnExactIsValidPetitions_1 : List CO := [⟨none, (some 3), (.mv (.k (.v (.int .i64 (1048576)))))⟩]
def r_w_FnExactIsValidPetitions_2 : List CO := [⟨none, (some 7), (.mv (.t 0))⟩, ⟨none, (some 8), (.mv (.t 3))⟩, ⟨none, (some 9), (.call n_w_szPetitionS [(.t 7), (.t 8)])⟩, ⟨none, (some 3), (.mv (.t 9))⟩]
def r_w_FnExactIsValidPetitions_3 : List CO := [⟨none, (some 10), (.mv (.t 3))⟩, ⟨none, (some 11), (.bin .lss .none (.t 10) (.k (.v (.int .i64 (0)))))⟩]
def r_w_FnExactIsValidPetitions_4 : List CO := [⟨none, (some 2), (.mv (.k (.v (.bool true))))⟩]
def r_w_FnExactIsValidPetitions_5 : List CO := [⟨none, (some 12), (.mv (.t 0))⟩, ⟨none, (some 13), (.call n_w_toPetitionS [(.t 12)])⟩, ⟨none, (some 14), (.call n_s_IsValidPetitions [(.t 13)])⟩, ⟨none, (some 4), (.mv (.t 14))⟩]
def r_w_FnExactIsValidPetitions_6 : List CO := [⟨none, (some 15), (.mv (.t 0))⟩, ⟨none, (some 16), (.call n_w_toPetitionS [(.t 15)])⟩, ⟨none, (some 5), (.mv (.t 16))⟩]
def r_w_FnExactIsValidPetitions_7 : List CO := [⟨none, (some 17), (.mv (.t 5))⟩, ⟨none, (some 18), (.call n_i_IsValidPetitions [(.t 17)])⟩, ⟨none, (some 6), (.mv (.t 18))⟩]
def r_w_FnExactIsValidPetitions_8 : List CO := [⟨none, (some 19), (.mv (.t 6))⟩, ⟨none, (some 20), (.mv (.t 4))⟩, ⟨none, (some 21), (.bin .neq .bool (.t 19) (.t 20))⟩]
def r_w_FnExactIsValidPetitions_9 : List CO := [⟨none, (some 2), (.mv (.k (.v (.bool false))))⟩]
def r_w_FnExactIsValidPetitions_10 : List CO := [⟨none, (some 22), (.mv (.t 5))⟩, ⟨none, (some 23), (.mv (.t 0))⟩, ⟨none, (some 24), (.call n_w_toPetitionS [(.t 23)])⟩, ⟨none, (some 25), (.call n_w_eqPetitionS [(.t 22), (.t 24)])⟩, ⟨none, (some 26), (.un .not (.t 25))⟩]
def r_w_FnExactIsValidPetitions_11 : List CO := [⟨none, (some 2), (.mv (.k (.v (.bool false))))⟩]
def r_w_FnExactIsValidPetitions_12 : List CO := [⟨none, (some 2), (.mv (.k (.v (.bool true))))⟩]
/-- loop.example/g00884/laws.FnExactIsValidPetitions -/
def c_w_FnExactIsValidPetitions : C := (.seq (.reg r_w_FnExactIsValidPetitions_0 [0]) (.seq (.reg r_w_FnExactIsValidPetitions_1 [0, 3]) (.seq (.reg r_w_FnExactIsValidPetitions_2 [0, 3]) (.seq (.seq (.reg r_w_FnExactIsValidPetitions_3 [0, 11]) (.cond (.t 11) (.seq (.reg r_w_FnExactIsValidPetitions_4 [2]) .ret) .skip)) (.seq (.reg r_w_FnExactIsValidPetitions_5 [0, 4]) (.seq (.reg r_w_FnExactIsValidPetitions_6 [0, 4, 5]) (.seq (.reg r_w_FnExactIsValidPetitions_7 [0, 4, 5, 6]) (.seq (.seq (.reg r_w_FnExactIsValidPetitions_8 [0, 5, 21]) (.cond (.t 21) (.seq (.reg r_w_FnExactIsValidPetitions_9 [2]) .ret) .skip)) (.seq (.seq (.reg r_w_FnExactIsValidPetitions_10 [26]) (.cond (.t 26) (.seq (.reg r_w_FnExactIsValidPetitions_11 [2]) .ret) .skip)) (.seq (.reg r_w_FnExactIsValidPetitions_12 [2]) .ret))))))))))
def k_w_FnExactIsValidPetitions : Nat → List Nat
  | 0 => [0]
  | 1 => [0, 3]
  | 2 => [0, 3]
  | 3 => [0, 11]
  | 4 => [2]
  | 5 => [0, 4]
  | 6 => [0, 4, 5]
  | 7 => [0, 4, 5, 6]
  | 8 => [0, 5, 21]
  | 9 => [2]
  | 10 => [26]
  | 11 => [2]
  | 12 => [2]
  | _ => []
theorem fn_w_FnExactIsValidPetitions : FnC Try.prog n_w_FnExactIsValidPetitions c_w_FnExactIsValidPetitions [(.tmp 2)] 27 :=
  ⟨Try.f6, _, k_w_FnExactIsValidPetitions, Try.func6, rfl, by kernel_rfl, by kernel_rfl, by kernel_rfl, rfl⟩
end Go.Proofs.Ytaieoaahmmcnmaa
