/- The compact code of the functions, and that it is theirs: written by a program of this claim. -/
import Derived.Test.YtcfmohcpfmedaaaGreatDoorNums
namespace Go.Proofs.YtcfmohcpfmedaaaGreatDoor
open Go.Abs
set_option maxRecDepth 100000
def r_i_IsValidConsole_0 : List CO := [⟨none, (some 1), (.box 4 (.t 0))⟩, ⟨none, (some 2), (.mv (.k (.v (.bool false))))⟩]
def r_i_IsValidConsole_1 : List CO := [⟨none, (some 3), (.faddr 0 (.t 1))⟩, ⟨none, (some 4), (.ld true 1 (.t 3))⟩, ⟨none, (some 5), (.call n_i_IsValidRegister [(.t 4)])⟩, ⟨none, (some 6), (.mv (.t 5))⟩, ⟨(some (6, true)), (some 7), (.faddr 1 (.t 1))⟩, ⟨(some (6, true)), (some 8), (.ld true 3 (.t 7))⟩, ⟨(some (6, true)), (some 9), (.call n_i_IsValidLog [(.t 8)])⟩, ⟨none, (some 10), (.pick (.t 6) (.t 9) (.k (.v (.bool false))))⟩, ⟨none, (some 2), (.mv (.t 10))⟩]
/-- loop.example/g00884/impl.IsValidConsole -/
def c_i_IsValidConsole : C := (.seq (.reg r_i_IsValidConsole_0 [1]) (.seq (.reg r_i_IsValidConsole_1 [2]) .ret))
def k_i_IsValidConsole : Nat → List Nat
  | 0 => [1]
  | 1 => [2]
  | _ => []
theorem fn_i_IsValidConsole : FnC Tryz.prog n_i_IsValidConsole c_i_IsValidConsole [(.tmp 2)] 11 :=
  ⟨Tryz.f7, _, k_i_IsValidConsole, Tryz.func7, rfl, by kernel_rfl, by kernel_rfl, by kernel_rfl, rfl⟩
def r_s_l28Good_0 : List CO := [⟨none, (some 1), (.box 4 (.t 0))⟩, ⟨none, (some 2), (.mv (.k (.v (.bool false))))⟩]
def r_s_l28Good_1 : List CO := [⟨none, (some 3), (.faddr 0 (.t 1))⟩, ⟨none, (some 4), (.ld true 1 (.t 3))⟩, ⟨none, (some 5), (.call n_s_l16Good [(.t 4)])⟩, ⟨none, (some 6), (.mv (.t 5))⟩, ⟨(some (6, true)), (some 7), (.faddr 1 (.t 1))⟩, ⟨(some (6, true)), (some 8), (.ld true 3 (.t 7))⟩, ⟨(some (6, true)), (some 9), (.call n_s_l27Log [(.t 8)])⟩, ⟨none, (some 10), (.pick (.t 6) (.t 9) (.k (.v (.bool false))))⟩, ⟨none, (some 2), (.mv (.t 10))⟩]
/-- loop.example/g00884/spec.l28Good -/
def c_s_l28Good : C := (.seq (.reg r_s_l28Good_0 [1]) (.seq (.reg r_s_l28Good_1 [2]) .ret))
def k_s_l28Good : Nat → List Nat
  | 0 => [1]
  | 1 => [2]
  | _ => []
theorem fn_s_l28Good : FnC Tryz.prog n_s_l28Good c_s_l28Good [(.tmp 2)] 11 :=
  ⟨Tryz.f11, _, k_s_l28Good, Tryz.func11, rfl, by kernel_rfl, by kernel_rfl, by kernel_rfl, rfl⟩
def r_s_IsValidConsole_0 : List CO := [⟨none, (some 1), (.box 4 (.t 0))⟩, ⟨none, (some 2), (.mv (.k (.v (.bool false))))⟩]
def r_s_IsValidConsole_1 : List CO := [⟨none, (some 3), (.ld true 4 (.t 1))⟩, ⟨none, (some 4), (.call n_s_l28Good [(.t 3)])⟩, ⟨none, (some 2), (.mv (.t 4))⟩]
/-- loop.example/g00884/spec.IsValidConsole -/
def c_s_IsValidConsole : C := (.seq (.reg r_s_IsValidConsole_0 [1]) (.seq (.reg r_s_IsValidConsole_1 [2]) .ret))
def k_s_IsValidConsole : Nat → List Nat
  | 0 => [1]
  | 1 => [2]
  | _ => []
theorem fn_s_IsValidConsole : FnC Tryz.prog n_s_IsValidConsole c_s_IsValidConsole [(.tmp 2)] 5 :=
  ⟨Tryz.f5, _, k_s_IsValidConsole, Tryz.func5, rfl, by kernel_rfl, by kernel_rfl, by kernel_rfl, rfl⟩
def r_w_toConsole_0 : List CO := [⟨none, (some 1), (.box 4 (.t 0))⟩, ⟨none, (some 2), (.box 4 (.k (.agg [(.v (.slice none 0 0)), (.v (.string (bs []))), (.v (.string (bs []))), (.v (.int .i64 (0)))])))⟩]
def r_w_toConsole_1 : List CO := [⟨none, (some 3), (.box 4 (.k (.agg [(.v (.slice none 0 0)), (.v (.string (bs []))), (.v (.string (bs []))), (.v (.int .i64 (0)))])))⟩]
def r_w_toConsole_2 : List CO := [⟨none, (some 4), (.faddr 0 (.t 1))⟩, ⟨none, (some 5), (.ld true 1 (.t 4))⟩, ⟨none, (some 6), (.call n_w_toRegister [(.t 5)])⟩, ⟨none, (some 7), (.faddr 0 (.t 3))⟩, ⟨none, none, (.st 1 (.t 7) (.t 6))⟩]
def r_w_toConsole_3 : List CO := [⟨none, (some 8), (.faddr 1 (.t 1))⟩, ⟨none, (some 9), (.ld true 3 (.t 8))⟩, ⟨none, (some 10), (.call n_w_toLog [(.t 9)])⟩, ⟨none, (some 11), (.faddr 1 (.t 3))⟩, ⟨none, none, (.st 3 (.t 11) (.t 10))⟩]
def r_w_toConsole_4 : List CO := [⟨none, (some 12), (.ld true 4 (.t 3))⟩, ⟨none, none, (.st 4 (.t 2) (.t 12))⟩]
/-- loop.example/g00884/laws.toConsole -/
def c_w_toConsole : C := (.seq (.reg r_w_toConsole_0 [1, 2]) (.seq (.reg r_w_toConsole_1 [1, 2, 3]) (.seq (.reg r_w_toConsole_2 [1, 2, 3]) (.seq (.reg r_w_toConsole_3 [2, 3]) (.seq (.reg r_w_toConsole_4 [2]) .ret)))))
def k_w_toConsole : Nat → List Nat
  | 0 => [1, 2]
  | 1 => [1, 2, 3]
  | 2 => [1, 2, 3]
  | 3 => [2, 3]
  | 4 => [2]
  | _ => []
theorem fn_w_toConsole : FnC Tryz.prog n_w_toConsole c_w_toConsole [(.cell 2 true 4)] 13 :=
  ⟨Tryz.f6, _, k_w_toConsole, Tryz.func6, rfl, by kernel_rfl, by kernel_rfl, by kernel_rfl, rfl⟩
def r_w_szConsole_0 : List CO := [⟨none, (some 2), (.box 4 (.t 0))⟩, ⟨none, (some 4), (.mv (.k (.v (.int .i64 (0)))))⟩]
def r_w_szConsole_1 : List CO := [⟨none, (some 5), (.faddr 0 (.t 2))⟩, ⟨none, (some 6), (.ld true 1 (.t 5))⟩, ⟨none, (some 7), (.mv (.t 1))⟩, ⟨none, (some 8), (.call n_w_szRegister [(.t 6), (.t 7)])⟩, ⟨none, (some 1), (.mv (.t 8))⟩]
def r_w_szConsole_2 : List CO := [⟨none, (some 9), (.mv (.t 1))⟩, ⟨none, (some 10), (.bin .lss .none (.t 9) (.k (.v (.int .i64 (0)))))⟩]
def r_w_szConsole_3 : List CO := [⟨none, (some 4), (.mv (.k (.v (.int .i64 (-1)))))⟩]
def r_w_szConsole_4 : List CO := [⟨none, (some 11), (.faddr 1 (.t 2))⟩, ⟨none, (some 12), (.ld true 3 (.t 11))⟩, ⟨none, (some 13), (.mv (.t 1))⟩, ⟨none, (some 14), (.call n_w_szLog [(.t 12), (.t 13)])⟩, ⟨none, (some 1), (.mv (.t 14))⟩]
def r_w_szConsole_5 : List CO := [⟨none, (some 15), (.mv (.t 1))⟩, ⟨none, (some 16), (.bin .lss .none (.t 15) (.k (.v (.int .i64 (0)))))⟩]
def r_w_szConsole_6 : List CO := [⟨none, (some 4), (.mv (.k (.v (.int .i64 (-1)))))⟩]
def r_w_szConsole_7 : List CO := [⟨none, (some 17), (.mv (.t 1))⟩, ⟨none, (some 4), (.mv (.t 17))⟩]
/-- loop.example/g00884/laws.szConsole -/
def c_w_szConsole : C := (.seq (.reg r_w_szConsole_0 [1, 2]) (.seq (.reg r_w_szConsole_1 [1, 2]) (.seq (.seq (.reg r_w_szConsole_2 [1, 2, 10]) (.cond (.t 10) (.seq (.reg r_w_szConsole_3 [4]) .ret) .skip)) (.seq (.reg r_w_szConsole_4 [1]) (.seq (.seq (.reg r_w_szConsole_5 [1, 16]) (.cond (.t 16) (.seq (.reg r_w_szConsole_6 [4]) .ret) .skip)) (.seq (.reg r_w_szConsole_7 [4]) .ret))))))
def k_w_szConsole : Nat → List Nat
  | 0 => [1, 2]
  | 1 => [1, 2]
  | 2 => [1, 2, 10]
  | 3 => [4]
  | 4 => [1]
  | 5 => [1, 16]
  | 6 => [4]
  | 7 => [4]
  | _ => []
theorem fn_w_szConsole : FnC Tryz.prog n_w_szConsole c_w_szConsole [(.tmp 4)] 18 :=
  ⟨Tryz.f4, _, k_w_szConsole, Tryz.func4, rfl, by kernel_rfl, by kernel_rfl, by kernel_rfl, rfl⟩
def r_w_FnExactIsValidConsole_0 : List CO := [⟨none, (some 1), (.box 4 (.t 0))⟩, ⟨none, (some 2), (.mv (.k (.v (.bool false))))⟩]
def r_w_FnExactIsValidConsole_1 : List CO := [⟨none, (some 3), (.mv (.k (.v (.int .i64 (1048576)))))⟩]
def r_w_FnExactIsValidConsole_2 : List CO := [⟨none, (some 7), (.ld true 4 (.t 1))⟩, ⟨none, (some 8), (.mv (.t 3))⟩, ⟨none, (some 9), (.call n_w_szConsole [(.t 7), (.t 8)])⟩, ⟨none, (some 3), (.mv (.t 9))⟩]
def r_w_FnExactIsValidConsole_3 : List CO := [⟨none, (some 10), (.mv (.t 3))⟩, ⟨none, (some 11), (.bin .lss .none (.t 10) (.k (.v (.int .i64 (0)))))⟩]
def r_w_FnExactIsValidConsole_4 : List CO := [⟨none, (some 2), (.mv (.k (.v (.bool true))))⟩]
def r_w_FnExactIsValidConsole_5 : List CO := [⟨none, (some 12), (.ld true 4 (.t 1))⟩, ⟨none, (some 13), (.call n_w_toConsole [(.t 12)])⟩, ⟨none, (some 14), (.call n_s_IsValidConsole [(.t 13)])⟩, ⟨none, (some 4), (.mv (.t 14))⟩]
def r_w_FnExactIsValidConsole_6 : List CO := [⟨none, (some 15), (.ld true 4 (.t 1))⟩, ⟨none, (some 16), (.call n_w_toConsole [(.t 15)])⟩, ⟨none, (some 5), (.box 4 (.k (.agg [(.v (.slice none 0 0)), (.v (.string (bs []))), (.v (.string (bs []))), (.v (.int .i64 (0)))])))⟩, ⟨none, none, (.st 4 (.t 5) (.t 16))⟩]
def r_w_FnExactIsValidConsole_7 : List CO := [⟨none, (some 17), (.ld true 4 (.t 5))⟩, ⟨none, (some 18), (.call n_i_IsValidConsole [(.t 17)])⟩, ⟨none, (some 6), (.mv (.t 18))⟩]
def r_w_FnExactIsValidConsole_8 : List CO := [⟨none, (some 19), (.mv (.t 6))⟩, ⟨none, (some 20), (.mv (.t 4))⟩, ⟨none, (some 21), (.bin .neq .bool (.t 19) (.t 20))⟩]
def r_w_FnExactIsValidConsole_9 : List CO := [⟨none, (some 2), (.mv (.k (.v (.bool false))))⟩]
def r_w_FnExactIsValidConsole_10 : List CO := [⟨none, (some 22), (.ld true 4 (.t 5))⟩, ⟨none, (some 23), (.ld true 4 (.t 1))⟩, ⟨none, (some 24), (.call n_w_toConsole [(.t 23)])⟩, ⟨none, (some 25), (.call n_w_eqConsole [(.t 22), (.t 24)])⟩, ⟨none, (some 26), (.un .not (.t 25))⟩]
def p_w_FnExactIsValidConsole_10 : List (List Nat) := [[], [], [1], [0, 1, 2], [0, 1, 2, 3]]
def r_w_FnExactIsValidConsole_11 : List CO := [⟨none, (some 2), (.mv (.k (.v (.bool false))))⟩]
def r_w_FnExactIsValidConsole_12 : List CO := [⟨none, (some 2), (.mv (.k (.v (.bool true))))⟩]
/-- loop.example/g00884/laws.FnExactIsValidConsole -/
def c_w_FnExactIsValidConsole : C := (.seq (.reg r_w_FnExactIsValidConsole_0 [1]) (.seq (.reg r_w_FnExactIsValidConsole_1 [1, 3]) (.seq (.reg r_w_FnExactIsValidConsole_2 [1, 3]) (.seq (.seq (.reg r_w_FnExactIsValidConsole_3 [1, 11]) (.cond (.t 11) (.seq (.reg r_w_FnExactIsValidConsole_4 [2]) .ret) .skip)) (.seq (.reg r_w_FnExactIsValidConsole_5 [1, 4]) (.seq (.reg r_w_FnExactIsValidConsole_6 [1, 4, 5]) (.seq (.reg r_w_FnExactIsValidConsole_7 [1, 4, 5, 6]) (.seq (.seq (.reg r_w_FnExactIsValidConsole_8 [1, 5, 21]) (.cond (.t 21) (.seq (.reg r_w_FnExactIsValidConsole_9 [2]) .ret) .skip)) (.seq (.seq (.regD r_w_FnExactIsValidConsole_10 p_w_FnExactIsValidConsole_10 [26]) (.cond (.t 26) (.seq (.reg r_w_FnExactIsValidConsole_11 [2]) .ret) .skip)) (.seq (.reg r_w_FnExactIsValidConsole_12 [2]) .ret))))))))))
def k_w_FnExactIsValidConsole : Nat → List Nat
  | 0 => [1]
  | 1 => [1, 3]
  | 2 => [1, 3]
  | 3 => [1, 11]
  | 4 => [2]
  | 5 => [1, 4]
  | 6 => [1, 4, 5]
  | 7 => [1, 4, 5, 6]
  | 8 => [1, 5, 21]
  | 9 => [2]
  | 10 => [26]
  | 11 => [2]
  | 12 => [2]
  | _ => []
theorem fn_w_FnExactIsValidConsole : FnC Tryz.prog n_w_FnExactIsValidConsole c_w_FnExactIsValidConsole [(.tmp 2)] 27 :=
  ⟨Tryz.f3, _, k_w_FnExactIsValidConsole, Tryz.func3, rfl, by kernel_rfl, by kernel_rfl, by kernel_rfl, rfl⟩
end Go.Proofs.YtcfmohcpfmedaaaGreatDoor
