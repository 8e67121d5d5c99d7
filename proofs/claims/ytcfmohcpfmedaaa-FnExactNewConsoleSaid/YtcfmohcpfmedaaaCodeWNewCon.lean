/- The compact code of the functions, and that it is theirs: written by a program of this claim. -/
import Derived.Test.YtcfmohcpfmedaaaNums
namespace Go.Proofs.Ytcfmohcpfmedaaa
open Go.Abs
set_option maxRecDepth 100000
def r_i_NewConsole_0 : List CO := [⟨none, (some 1), (.box 1 (.t 0))⟩, ⟨none, (some 2), (.box 4 (.k (.agg [(.v (.slice none 0 0)), (.v (.string (bs []))), (.v (.string (bs []))), (.v (.int .i64 (0)))])))⟩, ⟨none, (some 3), (.mv (.k (.v (.bool false))))⟩]
def r_i_NewConsole_1 : List CO := [⟨none, (some 4), (.ld true 1 (.t 1))⟩, ⟨none, (some 5), (.call n_i_IsValidRegister [(.t 4)])⟩, ⟨none, (some 6), (.un .not (.t 5))⟩]
def r_i_NewConsole_2 : List CO := [⟨none, (some 7), (.build (.agg [(.v (.slice none 0 0)), (.v (.string (bs []))), (.v (.string (bs []))), (.v (.int .i64 (0)))]) [])⟩, ⟨none, none, (.st 4 (.t 2) (.t 7))⟩, ⟨none, (some 3), (.mv (.k (.v (.bool false))))⟩]
def r_i_NewConsole_3 : List CO := [⟨none, (some 8), (.ld true 1 (.t 1))⟩, ⟨none, (some 9), (.call n_i_cloneRegister [(.t 8)])⟩, ⟨none, (some 10), (.build (.agg [(.v (.slice none 0 0)), (.v (.string (bs []))), (.v (.string (bs []))), (.v (.int .i64 (0)))]) [(0, (1, (.t 9)))])⟩, ⟨none, none, (.st 4 (.t 2) (.t 10))⟩, ⟨none, (some 3), (.mv (.k (.v (.bool true))))⟩]
/-- loop.example/g00884/impl.NewConsole -/
def c_i_NewConsole : C := (.seq (.reg r_i_NewConsole_0 [1, 2]) (.seq (.seq (.reg r_i_NewConsole_1 [1, 2, 6]) (.cond (.t 6) (.seq (.reg r_i_NewConsole_2 [2, 3]) .ret) .skip)) (.seq (.reg r_i_NewConsole_3 [2, 3]) .ret)))
def k_i_NewConsole : Nat → List Nat
  | 0 => [1, 2]
  | 1 => [1, 2, 6]
  | 2 => [2, 3]
  | 3 => [2, 3]
  | _ => []
theorem fn_i_NewConsole : FnC Try.prog n_i_NewConsole c_i_NewConsole [(.cell 2 true 4), (.tmp 3)] 11 :=
  ⟨Try.f7, _, k_i_NewConsole, Try.func7, rfl, by kernel_rfl, by kernel_rfl, by kernel_rfl, rfl⟩
def r_s_NewConsole_0 : List CO := [⟨none, (some 1), (.box 1 (.t 0))⟩, ⟨none, (some 2), (.box 4 (.k (.agg [(.v (.slice none 0 0)), (.v (.string (bs []))), (.v (.string (bs []))), (.v (.int .i64 (0)))])))⟩, ⟨none, (some 3), (.mv (.k (.v (.bool false))))⟩]
def r_s_NewConsole_1 : List CO := [⟨none, (some 4), (.ld true 1 (.t 1))⟩, ⟨none, (some 5), (.call n_s_l16Good [(.t 4)])⟩, ⟨none, (some 6), (.un .not (.t 5))⟩]
def r_s_NewConsole_2 : List CO := [⟨none, (some 7), (.build (.agg [(.v (.slice none 0 0)), (.v (.string (bs []))), (.v (.string (bs []))), (.v (.int .i64 (0)))]) [])⟩, ⟨none, none, (.st 4 (.t 2) (.t 7))⟩, ⟨none, (some 3), (.mv (.k (.v (.bool false))))⟩]
def r_s_NewConsole_3 : List CO := [⟨none, (some 8), (.ld true 1 (.t 1))⟩, ⟨none, (some 9), (.call n_s_l16Own [(.t 8)])⟩, ⟨none, (some 10), (.build (.agg [(.v (.slice none 0 0)), (.v (.string (bs []))), (.v (.string (bs []))), (.v (.int .i64 (0)))]) [(0, (1, (.t 9)))])⟩, ⟨none, none, (.st 4 (.t 2) (.t 10))⟩, ⟨none, (some 3), (.mv (.k (.v (.bool true))))⟩]
/-- loop.example/g00884/spec.NewConsole -/
def c_s_NewConsole : C := (.seq (.reg r_s_NewConsole_0 [1, 2]) (.seq (.seq (.reg r_s_NewConsole_1 [1, 2, 6]) (.cond (.t 6) (.seq (.reg r_s_NewConsole_2 [2, 3]) .ret) .skip)) (.seq (.reg r_s_NewConsole_3 [2, 3]) .ret)))
def k_s_NewConsole : Nat → List Nat
  | 0 => [1, 2]
  | 1 => [1, 2, 6]
  | 2 => [2, 3]
  | 3 => [2, 3]
  | _ => []
theorem fn_s_NewConsole : FnC Try.prog n_s_NewConsole c_s_NewConsole [(.cell 2 true 4), (.tmp 3)] 11 :=
  ⟨Try.f5, _, k_s_NewConsole, Try.func5, rfl, by kernel_rfl, by kernel_rfl, by kernel_rfl, rfl⟩
def r_w_FnExactNewConsole_0 : List CO := [⟨none, (some 1), (.box 1 (.t 0))⟩, ⟨none, (some 2), (.mv (.k (.v (.bool false))))⟩]
def r_w_FnExactNewConsole_1 : List CO := [⟨none, (some 3), (.mv (.k (.v (.int .i64 (1048576)))))⟩]
def r_w_FnExactNewConsole_2 : List CO := [⟨none, (some 14), (.ld true 1 (.t 1))⟩, ⟨none, (some 15), (.mv (.t 3))⟩, ⟨none, (some 16), (.call n_w_szRegister [(.t 14), (.t 15)])⟩, ⟨none, (some 3), (.mv (.t 16))⟩]
def r_w_FnExactNewConsole_3 : List CO := [⟨none, (some 17), (.mv (.t 3))⟩, ⟨none, (some 18), (.bin .lss .none (.t 17) (.k (.v (.int .i64 (0)))))⟩]
def r_w_FnExactNewConsole_4 : List CO := [⟨none, (some 2), (.mv (.k (.v (.bool true))))⟩]
def r_w_FnExactNewConsole_5 : List CO := [⟨none, (some 20), (.ld true 1 (.t 1))⟩, ⟨none, (some 21), (.call n_w_toRegister [(.t 20)])⟩, ⟨none, (some 22), (.call n_s_NewConsole [(.t 21)])⟩, ⟨none, (some 19), (.mv (.t 22))⟩, ⟨none, (some 23), (.ext (.t 19) 0)⟩, ⟨none, (some 24), (.ext (.t 19) 1)⟩, ⟨none, (some 4), (.box 4 (.k (.agg [(.v (.slice none 0 0)), (.v (.string (bs []))), (.v (.string (bs []))), (.v (.int .i64 (0)))])))⟩, ⟨none, none, (.st 4 (.t 4) (.t 23))⟩, ⟨none, (some 5), (.mv (.t 24))⟩]
def r_w_FnExactNewConsole_6 : List CO := [⟨none, (some 25), (.ld true 1 (.t 1))⟩, ⟨none, (some 26), (.call n_w_toRegister [(.t 25)])⟩, ⟨none, (some 6), (.box 1 (.k (.agg [(.v (.slice none 0 0))])))⟩, ⟨none, none, (.st 1 (.t 6) (.t 26))⟩]
def r_w_FnExactNewConsole_7 : List CO := [⟨none, (some 28), (.ld true 1 (.t 6))⟩, ⟨none, (some 29), (.call n_i_NewConsole [(.t 28)])⟩, ⟨none, (some 27), (.mv (.t 29))⟩, ⟨none, (some 30), (.ext (.t 27) 0)⟩, ⟨none, (some 31), (.ext (.t 27) 1)⟩, ⟨none, (some 7), (.box 4 (.k (.agg [(.v (.slice none 0 0)), (.v (.string (bs []))), (.v (.string (bs []))), (.v (.int .i64 (0)))])))⟩, ⟨none, none, (.st 4 (.t 7) (.t 30))⟩, ⟨none, (some 8), (.mv (.t 31))⟩]
def r_w_FnExactNewConsole_8 : List CO := [⟨none, (some 32), (.ld true 4 (.t 7))⟩, ⟨none, (some 33), (.ld true 4 (.t 4))⟩, ⟨none, (some 34), (.call n_w_eqConsole [(.t 32), (.t 33)])⟩, ⟨none, (some 35), (.un .not (.t 34))⟩, ⟨none, (some 36), (.mv (.t 35))⟩, ⟨(some (36, false)), (some 37), (.mv (.t 8))⟩, ⟨(some (36, false)), (some 38), (.mv (.t 5))⟩, ⟨(some (36, false)), (some 39), (.bin .neq .bool (.t 37) (.t 38))⟩, ⟨none, (some 40), (.pick (.t 36) (.k (.v (.bool true))) (.t 39))⟩]
def r_w_FnExactNewConsole_9 : List CO := [⟨none, (some 2), (.mv (.k (.v (.bool false))))⟩]
def r_w_FnExactNewConsole_10 : List CO := [⟨none, (some 41), (.ld true 1 (.t 6))⟩, ⟨none, (some 42), (.ld true 1 (.t 1))⟩, ⟨none, (some 43), (.call n_w_toRegister [(.t 42)])⟩, ⟨none, (some 44), (.call n_w_eqRegister [(.t 41), (.t 43)])⟩, ⟨none, (some 45), (.un .not (.t 44))⟩]
def p_w_FnExactNewConsole_10 : List (List Nat) := [[], [], [1], [0, 1, 2], [0, 1, 2, 3]]
def r_w_FnExactNewConsole_11 : List CO := [⟨none, (some 2), (.mv (.k (.v (.bool false))))⟩]
def r_w_FnExactNewConsole_12 : List CO := [⟨none, (some 9), (.mv (.k (.v (.int .i64 (1)))))⟩]
def r_w_FnExactNewConsole_13 : List CO := [⟨none, (some 46), (.ld true 1 (.t 6))⟩, ⟨none, (some 47), (.mv (.t 9))⟩, ⟨none, (some 48), (.call n_w_markRegister [(.t 46), (.t 47)])⟩, ⟨none, (some 9), (.mv (.t 48))⟩]
def r_w_FnExactNewConsole_14 : List CO := [⟨none, (some 49), (.mv (.t 9))⟩, ⟨none, (some 50), (.bin .lss .none (.t 49) (.k (.v (.int .i64 (0)))))⟩, ⟨none, (some 51), (.mv (.t 50))⟩, ⟨(some (51, false)), (some 52), (.ld true 4 (.t 7))⟩, ⟨(some (51, false)), (some 53), (.ld true 4 (.t 4))⟩, ⟨(some (51, false)), (some 54), (.call n_w_eqConsole [(.t 52), (.t 53)])⟩, ⟨(some (51, false)), (some 55), (.un .not (.t 54))⟩, ⟨none, (some 56), (.pick (.t 51) (.k (.v (.bool true))) (.t 55))⟩, ⟨none, (some 57), (.mv (.t 56))⟩, ⟨(some (57, false)), (some 58), (.mv (.t 8))⟩, ⟨(some (57, false)), (some 59), (.mv (.t 5))⟩, ⟨(some (57, false)), (some 60), (.bin .neq .bool (.t 58) (.t 59))⟩, ⟨none, (some 61), (.pick (.t 57) (.k (.v (.bool true))) (.t 60))⟩]
def r_w_FnExactNewConsole_15 : List CO := [⟨none, (some 2), (.mv (.k (.v (.bool false))))⟩]
def r_w_FnExactNewConsole_16 : List CO := [⟨none, (some 10), (.mv (.k (.v (.int .i64 (1)))))⟩]
def r_w_FnExactNewConsole_17 : List CO := [⟨none, (some 62), (.ld true 4 (.t 7))⟩, ⟨none, (some 63), (.mv (.t 10))⟩, ⟨none, (some 64), (.call n_w_markConsole [(.t 62), (.t 63)])⟩, ⟨none, (some 10), (.mv (.t 64))⟩]
def r_w_FnExactNewConsole_18 : List CO := [⟨none, (some 11), (.mv (.k (.v (.int .i64 (1)))))⟩]
def r_w_FnExactNewConsole_19 : List CO := [⟨none, (some 65), (.ld true 4 (.t 7))⟩, ⟨none, (some 66), (.mv (.t 11))⟩, ⟨none, (some 67), (.call n_w_heldConsole [(.t 65), (.t 66)])⟩, ⟨none, (some 11), (.mv (.t 67))⟩]
def r_w_FnExactNewConsole_20 : List CO := [⟨none, (some 68), (.mv (.t 11))⟩, ⟨none, (some 69), (.bin .lss .none (.t 68) (.k (.v (.int .i64 (0)))))⟩]
def r_w_FnExactNewConsole_21 : List CO := [⟨none, (some 2), (.mv (.k (.v (.bool false))))⟩]
def r_w_FnExactNewConsole_22 : List CO := [⟨none, (some 70), (.mv (.t 11))⟩, ⟨none, (some 71), (.mv (.t 10))⟩, ⟨none, (some 72), (.bin .neq .none (.t 70) (.t 71))⟩]
def r_w_FnExactNewConsole_23 : List CO := [⟨none, (some 2), (.mv (.k (.v (.bool false))))⟩]
def r_w_FnExactNewConsole_24 : List CO := [⟨none, (some 74), (.ld true 1 (.t 1))⟩, ⟨none, (some 75), (.call n_w_toRegister [(.t 74)])⟩, ⟨none, (some 76), (.call n_i_NewConsole [(.t 75)])⟩, ⟨none, (some 73), (.mv (.t 76))⟩, ⟨none, (some 77), (.ext (.t 73) 0)⟩, ⟨none, (some 78), (.ext (.t 73) 1)⟩, ⟨none, (some 12), (.box 4 (.k (.agg [(.v (.slice none 0 0)), (.v (.string (bs []))), (.v (.string (bs []))), (.v (.int .i64 (0)))])))⟩, ⟨none, none, (.st 4 (.t 12) (.t 77))⟩, ⟨none, (some 13), (.mv (.t 78))⟩]
def r_w_FnExactNewConsole_25 : List CO := [⟨none, (some 79), (.ld true 4 (.t 12))⟩, ⟨none, (some 80), (.ld true 4 (.t 4))⟩, ⟨none, (some 81), (.call n_w_eqConsole [(.t 79), (.t 80)])⟩, ⟨none, (some 82), (.un .not (.t 81))⟩, ⟨none, (some 83), (.mv (.t 82))⟩, ⟨(some (83, false)), (some 84), (.mv (.t 13))⟩, ⟨(some (83, false)), (some 85), (.mv (.t 5))⟩, ⟨(some (83, false)), (some 86), (.bin .neq .bool (.t 84) (.t 85))⟩, ⟨none, (some 87), (.pick (.t 83) (.k (.v (.bool true))) (.t 86))⟩]
def r_w_FnExactNewConsole_26 : List CO := [⟨none, (some 2), (.mv (.k (.v (.bool false))))⟩]
def r_w_FnExactNewConsole_27 : List CO := [⟨none, (some 11), (.mv (.k (.v (.int .i64 (1)))))⟩]
def r_w_FnExactNewConsole_28 : List CO := [⟨none, (some 88), (.ld true 4 (.t 7))⟩, ⟨none, (some 89), (.mv (.t 11))⟩, ⟨none, (some 90), (.call n_w_heldConsole [(.t 88), (.t 89)])⟩, ⟨none, (some 11), (.mv (.t 90))⟩]
def r_w_FnExactNewConsole_29 : List CO := [⟨none, (some 91), (.mv (.t 11))⟩, ⟨none, (some 92), (.bin .lss .none (.t 91) (.k (.v (.int .i64 (0)))))⟩]
def r_w_FnExactNewConsole_30 : List CO := [⟨none, (some 2), (.mv (.k (.v (.bool false))))⟩]
def r_w_FnExactNewConsole_31 : List CO := [⟨none, (some 93), (.mv (.t 11))⟩, ⟨none, (some 94), (.mv (.t 10))⟩, ⟨none, (some 95), (.bin .neq .none (.t 93) (.t 94))⟩]
def r_w_FnExactNewConsole_32 : List CO := [⟨none, (some 2), (.mv (.k (.v (.bool false))))⟩]
def r_w_FnExactNewConsole_33 : List CO := [⟨none, (some 2), (.mv (.k (.v (.bool true))))⟩]
/-- loop.example/g00884/laws.FnExactNewConsole -/
def c_w_FnExactNewConsole : C := (.seq (.reg r_w_FnExactNewConsole_0 [1]) (.seq (.reg r_w_FnExactNewConsole_1 [1, 3]) (.seq (.reg r_w_FnExactNewConsole_2 [1, 3]) (.seq (.seq (.reg r_w_FnExactNewConsole_3 [1, 18]) (.cond (.t 18) (.seq (.reg r_w_FnExactNewConsole_4 [2]) .ret) .skip)) (.seq (.reg r_w_FnExactNewConsole_5 [1, 4, 5]) (.seq (.reg r_w_FnExactNewConsole_6 [1, 4, 5, 6]) (.seq (.reg r_w_FnExactNewConsole_7 [1, 4, 5, 6, 7, 8]) (.seq (.seq (.reg r_w_FnExactNewConsole_8 [1, 4, 5, 6, 7, 8, 40]) (.cond (.t 40) (.seq (.reg r_w_FnExactNewConsole_9 [2]) .ret) .skip)) (.seq (.seq (.regD r_w_FnExactNewConsole_10 p_w_FnExactNewConsole_10 [1, 4, 5, 6, 7, 8, 45]) (.cond (.t 45) (.seq (.reg r_w_FnExactNewConsole_11 [2]) .ret) .skip)) (.seq (.reg r_w_FnExactNewConsole_12 [1, 4, 5, 6, 7, 8, 9]) (.seq (.reg r_w_FnExactNewConsole_13 [1, 4, 5, 7, 8, 9]) (.seq (.seq (.reg r_w_FnExactNewConsole_14 [1, 4, 5, 7, 61]) (.cond (.t 61) (.seq (.reg r_w_FnExactNewConsole_15 [2]) .ret) .skip)) (.seq (.reg r_w_FnExactNewConsole_16 [1, 4, 5, 7, 10]) (.seq (.reg r_w_FnExactNewConsole_17 [1, 4, 5, 7, 10]) (.seq (.reg r_w_FnExactNewConsole_18 [1, 4, 5, 7, 10, 11]) (.seq (.reg r_w_FnExactNewConsole_19 [1, 4, 5, 7, 10, 11]) (.seq (.seq (.reg r_w_FnExactNewConsole_20 [1, 4, 5, 7, 10, 11, 69]) (.cond (.t 69) (.seq (.reg r_w_FnExactNewConsole_21 [2]) .ret) .skip)) (.seq (.seq (.reg r_w_FnExactNewConsole_22 [1, 4, 5, 7, 10, 72]) (.cond (.t 72) (.seq (.reg r_w_FnExactNewConsole_23 [2]) .ret) .skip)) (.seq (.reg r_w_FnExactNewConsole_24 [4, 5, 7, 10, 12, 13]) (.seq (.seq (.reg r_w_FnExactNewConsole_25 [7, 10, 87]) (.cond (.t 87) (.seq (.reg r_w_FnExactNewConsole_26 [2]) .ret) .skip)) (.seq (.reg r_w_FnExactNewConsole_27 [7, 10, 11]) (.seq (.reg r_w_FnExactNewConsole_28 [10, 11]) (.seq (.seq (.reg r_w_FnExactNewConsole_29 [10, 11, 92]) (.cond (.t 92) (.seq (.reg r_w_FnExactNewConsole_30 [2]) .ret) .skip)) (.seq (.seq (.reg r_w_FnExactNewConsole_31 [95]) (.cond (.t 95) (.seq (.reg r_w_FnExactNewConsole_32 [2]) .ret) .skip)) (.seq (.reg r_w_FnExactNewConsole_33 [2]) .ret)))))))))))))))))))))))))
def k_w_FnExactNewConsole : Nat → List Nat
  | 0 => [1]
  | 1 => [1, 3]
  | 2 => [1, 3]
  | 3 => [1, 18]
  | 4 => [2]
  | 5 => [1, 4, 5]
  | 6 => [1, 4, 5, 6]
  | 7 => [1, 4, 5, 6, 7, 8]
  | 8 => [1, 4, 5, 6, 7, 8, 40]
  | 9 => [2]
  | 10 => [1, 4, 5, 6, 7, 8, 45]
  | 11 => [2]
  | 12 => [1, 4, 5, 6, 7, 8, 9]
  | 13 => [1, 4, 5, 7, 8, 9]
  | 14 => [1, 4, 5, 7, 61]
  | 15 => [2]
  | 16 => [1, 4, 5, 7, 10]
  | 17 => [1, 4, 5, 7, 10]
  | 18 => [1, 4, 5, 7, 10, 11]
  | 19 => [1, 4, 5, 7, 10, 11]
  | 20 => [1, 4, 5, 7, 10, 11, 69]
  | 21 => [2]
  | 22 => [1, 4, 5, 7, 10, 72]
  | 23 => [2]
  | 24 => [4, 5, 7, 10, 12, 13]
  | 25 => [7, 10, 87]
  | 26 => [2]
  | 27 => [7, 10, 11]
  | 28 => [10, 11]
  | 29 => [10, 11, 92]
  | 30 => [2]
  | 31 => [95]
  | 32 => [2]
  | 33 => [2]
  | _ => []
theorem fn_w_FnExactNewConsole : FnC Try.prog n_w_FnExactNewConsole c_w_FnExactNewConsole [(.tmp 2)] 96 :=
  ⟨Try.f3, _, k_w_FnExactNewConsole, Try.func3, rfl, by kernel_rfl, by kernel_rfl, by kernel_rfl, rfl⟩
end Go.Proofs.Ytcfmohcpfmedaaa
