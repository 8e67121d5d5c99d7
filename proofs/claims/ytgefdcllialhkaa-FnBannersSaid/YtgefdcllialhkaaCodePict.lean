/- The compact code of the functions, and that it is theirs: written by a program of this claim. -/
import Derived.Test.YtgefdcllialhkaaNums
namespace Go.Proofs.Ytgefdcllialhkaa
open Go.Abs
set_option maxRecDepth 100000
def r_s_l9In_0 : List CO := [⟨none, (some 4), (.mv (.k (.v (.bool false))))⟩]
def r_s_l9In_1 : List CO := [⟨none, (some 7), (.mv (.t 0))⟩, ⟨none, (some 8), (.call n_s_l1In [(.t 7), (.k (.v (.int .i64 (0)))), (.k (.v (.int .i64 (19))))])⟩, ⟨none, (some 9), (.un .not (.t 8))⟩, ⟨none, (some 10), (.mv (.t 9))⟩, ⟨(some (10, false)), (some 11), (.mv (.t 1))⟩, ⟨(some (10, false)), (some 12), (.call n_s_l1In [(.t 11), (.k (.v (.int .i64 (0)))), (.k (.v (.int .i64 (23))))])⟩, ⟨(some (10, false)), (some 13), (.un .not (.t 12))⟩, ⟨none, (some 14), (.pick (.t 10) (.k (.v (.bool true))) (.t 13))⟩]
def r_s_l9In_2 : List CO := [⟨none, (some 4), (.mv (.k (.v (.bool false))))⟩]
def r_s_l9In_3 : List CO := [⟨none, (some 15), (.mv (.t 0))⟩, ⟨none, (some 16), (.bin .mul .none (.k (.v (.int .i64 (2)))) (.t 15))⟩, ⟨none, (some 17), (.bin .sub .none (.t 16) (.k (.v (.int .i64 (19)))))⟩, ⟨none, (some 18), (.mv (.t 1))⟩, ⟨none, (some 19), (.bin .mul .none (.k (.v (.int .i64 (2)))) (.t 18))⟩, ⟨none, (some 20), (.bin .sub .none (.t 19) (.k (.v (.int .i64 (23)))))⟩, ⟨none, (some 5), (.mv (.t 17))⟩, ⟨none, (some 6), (.mv (.t 20))⟩]
def r_s_l9In_4 : List CO := [⟨none, (some 21), (.mv (.t 1))⟩, ⟨none, (some 22), (.bin .lss .none (.t 21) (.k (.v (.int .i64 (12)))))⟩, ⟨none, (some 23), (.mv (.t 22))⟩, ⟨(some (23, false)), (some 24), (.mv (.t 5))⟩, ⟨(some (23, false)), (some 25), (.bin .mul .none (.k (.v (.int .i64 (576)))) (.t 24))⟩, ⟨(some (23, false)), (some 26), (.mv (.t 5))⟩, ⟨(some (23, false)), (some 27), (.bin .mul .none (.t 25) (.t 26))⟩, ⟨(some (23, false)), (some 28), (.mv (.t 6))⟩, ⟨(some (23, false)), (some 29), (.bin .mul .none (.k (.v (.int .i64 (400)))) (.t 28))⟩, ⟨(some (23, false)), (some 30), (.mv (.t 6))⟩, ⟨(some (23, false)), (some 31), (.bin .mul .none (.t 29) (.t 30))⟩, ⟨(some (23, false)), (some 32), (.bin .add .none (.t 27) (.t 31))⟩, ⟨(some (23, false)), (some 33), (.bin .leq .none (.t 32) (.k (.v (.int .i64 (230400)))))⟩, ⟨none, (some 34), (.pick (.t 23) (.k (.v (.bool true))) (.t 33))⟩, ⟨none, (some 4), (.mv (.t 34))⟩]
/-- loop.example/g00884/spec.l9In -/
def c_s_l9In : C := (.seq (.reg r_s_l9In_0 [0, 1]) (.seq (.seq (.reg r_s_l9In_1 [0, 1, 14]) (.cond (.t 14) (.seq (.reg r_s_l9In_2 [4]) .ret) .skip)) (.seq (.reg r_s_l9In_3 [1, 5, 6]) (.seq (.reg r_s_l9In_4 [4]) .ret))))
def k_s_l9In : Nat → List Nat
  | 0 => [0, 1]
  | 1 => [0, 1, 14]
  | 2 => [4]
  | 3 => [1, 5, 6]
  | 4 => [4]
  | _ => []
theorem fn_s_l9In : FnC Try.prog n_s_l9In c_s_l9In [(.tmp 4)] 35 :=
  ⟨Try.f128, _, k_s_l9In, Try.func128, rfl, by kernel_rfl, by kernel_rfl, by kernel_rfl, rfl⟩
def r_i_InShield_0 : List CO := [⟨none, (some 4), (.mv (.k (.v (.bool false))))⟩]
def r_i_InShield_1 : List CO := [⟨none, (some 5), (.mv (.t 0))⟩, ⟨none, (some 6), (.call n_i_inside [(.t 5), (.k (.v (.int .i64 (0)))), (.k (.v (.int .i64 (19))))])⟩, ⟨none, (some 7), (.mv (.t 6))⟩, ⟨(some (7, true)), (some 8), (.mv (.t 1))⟩, ⟨(some (7, true)), (some 9), (.call n_i_inside [(.t 8), (.k (.v (.int .i64 (0)))), (.k (.v (.int .i64 (23))))])⟩, ⟨none, (some 10), (.pick (.t 7) (.t 9) (.k (.v (.bool false))))⟩, ⟨none, (some 11), (.mv (.t 10))⟩, ⟨(some (11, true)), (some 12), (.mv (.t 1))⟩, ⟨(some (11, true)), (some 13), (.bin .lss .none (.t 12) (.k (.v (.int .i64 (12)))))⟩, ⟨(some (11, true)), (some 14), (.mv (.t 13))⟩, ⟨(some (14, false)), (some 15), (.mv (.t 0))⟩, ⟨(some (14, false)), (some 16), (.bin .mul .none (.k (.v (.int .i64 (2)))) (.t 15))⟩, ⟨(some (14, false)), (some 17), (.bin .sub .none (.t 16) (.k (.v (.int .i64 (19)))))⟩, ⟨(some (14, false)), (some 18), (.bin .mul .none (.k (.v (.int .i64 (576)))) (.t 17))⟩, ⟨(some (14, false)), (some 19), (.mv (.t 0))⟩, ⟨(some (14, false)), (some 20), (.bin .mul .none (.k (.v (.int .i64 (2)))) (.t 19))⟩, ⟨(some (14, false)), (some 21), (.bin .sub .none (.t 20) (.k (.v (.int .i64 (19)))))⟩, ⟨(some (14, false)), (some 22), (.bin .mul .none (.t 18) (.t 21))⟩, ⟨(some (14, false)), (some 23), (.mv (.t 1))⟩, ⟨(some (14, false)), (some 24), (.bin .mul .none (.k (.v (.int .i64 (2)))) (.t 23))⟩, ⟨(some (14, false)), (some 25), (.bin .sub .none (.t 24) (.k (.v (.int .i64 (23)))))⟩, ⟨(some (14, false)), (some 26), (.bin .mul .none (.k (.v (.int .i64 (400)))) (.t 25))⟩, ⟨(some (14, false)), (some 27), (.mv (.t 1))⟩, ⟨(some (14, false)), (some 28), (.bin .mul .none (.k (.v (.int .i64 (2)))) (.t 27))⟩, ⟨(some (14, false)), (some 29), (.bin .sub .none (.t 28) (.k (.v (.int .i64 (23)))))⟩, ⟨(some (14, false)), (some 30), (.bin .mul .none (.t 26) (.t 29))⟩, ⟨(some (14, false)), (some 31), (.bin .add .none (.t 22) (.t 30))⟩, ⟨(some (14, false)), (some 32), (.bin .leq .none (.t 31) (.k (.v (.int .i64 (230400)))))⟩, ⟨(some (11, true)), (some 33), (.pick (.t 14) (.k (.v (.bool true))) (.t 32))⟩, ⟨none, (some 34), (.pick (.t 11) (.t 33) (.k (.v (.bool false))))⟩, ⟨none, (some 4), (.mv (.t 34))⟩]
/-- loop.example/g00884/impl.InShield -/
def c_i_InShield : C := (.seq (.reg r_i_InShield_0 [0, 1]) (.seq (.reg r_i_InShield_1 [4]) .ret))
def k_i_InShield : Nat → List Nat
  | 0 => [0, 1]
  | 1 => [4]
  | _ => []
theorem fn_i_InShield : FnC Try.prog n_i_InShield c_i_InShield [(.tmp 4)] 35 :=
  ⟨Try.f127, _, k_i_InShield, Try.func127, rfl, by kernel_rfl, by kernel_rfl, by kernel_rfl, rfl⟩
def r_s_l13Good_0 : List CO := [⟨none, (some 2), (.mv (.k (.v (.bool false))))⟩]
def r_s_l13Good_1 : List CO := [⟨none, (some 5), (.mv (.t 0))⟩, ⟨none, (some 6), (.len false (.t 5))⟩, ⟨none, (some 7), (.bin .neq .none (.t 6) (.k (.v (.int .i64 (24)))))⟩]
def r_s_l13Good_2 : List CO := [⟨none, (some 2), (.mv (.k (.v (.bool false))))⟩]
def r_s_l13Good_3 : List CO := [⟨none, (some 3), (.mv (.k (.v (.int .i64 (0)))))⟩]
def r_s_l13Good_4 : List CO := [⟨none, (some 8), (.mv (.t 3))⟩, ⟨none, (some 9), (.bin .lss .none (.t 8) (.k (.v (.int .i64 (24)))))⟩]
def r_s_l13Good_5 : List CO := [⟨none, (some 12), (.mv (.t 0))⟩, ⟨none, (some 13), (.mv (.t 3))⟩, ⟨none, (some 14), (.iaddr 1 (.t 12) (.t 13))⟩, ⟨none, (some 15), (.ld false 1 (.t 14))⟩, ⟨none, (some 16), (.len false (.t 15))⟩, ⟨none, (some 17), (.bin .neq .none (.t 16) (.k (.v (.int .i64 (20)))))⟩]
def r_s_l13Good_6 : List CO := [⟨none, (some 2), (.mv (.k (.v (.bool false))))⟩]
def r_s_l13Good_7 : List CO := [⟨none, (some 4), (.mv (.k (.v (.int .i64 (0)))))⟩]
def r_s_l13Good_8 : List CO := [⟨none, (some 18), (.mv (.t 4))⟩, ⟨none, (some 19), (.bin .lss .none (.t 18) (.k (.v (.int .i64 (20)))))⟩]
def r_s_l13Good_9 : List CO := [⟨none, (some 22), (.mv (.t 4))⟩, ⟨none, (some 23), (.mv (.t 3))⟩, ⟨none, (some 24), (.call n_s_l9In [(.t 22), (.t 23)])⟩, ⟨none, (some 25), (.mv (.t 0))⟩, ⟨none, (some 26), (.mv (.t 3))⟩, ⟨none, (some 27), (.iaddr 1 (.t 25) (.t 26))⟩, ⟨none, (some 28), (.ld false 1 (.t 27))⟩, ⟨none, (some 29), (.mv (.t 4))⟩, ⟨none, (some 30), (.iaddr 1 (.t 28) (.t 29))⟩, ⟨none, (some 31), (.ld false 1 (.t 30))⟩, ⟨none, (some 32), (.call n_s_l2Good [(.t 31)])⟩, ⟨none, (some 33), (.bin .neq .bool (.t 24) (.t 32))⟩, ⟨none, (some 34), (.mv (.t 33))⟩, ⟨(some (34, false)), (some 35), (.mv (.t 4))⟩, ⟨(some (34, false)), (some 36), (.mv (.t 3))⟩, ⟨(some (34, false)), (some 37), (.call n_s_l9In [(.t 35), (.t 36)])⟩, ⟨(some (34, false)), (some 38), (.un .not (.t 37))⟩, ⟨(some (34, false)), (some 39), (.mv (.t 38))⟩, ⟨(some (39, true)), (some 40), (.mv (.t 0))⟩, ⟨(some (39, true)), (some 41), (.mv (.t 3))⟩, ⟨(some (39, true)), (some 42), (.iaddr 1 (.t 40) (.t 41))⟩, ⟨(some (39, true)), (some 43), (.ld false 1 (.t 42))⟩, ⟨(some (39, true)), (some 44), (.mv (.t 4))⟩, ⟨(some (39, true)), (some 45), (.iaddr 1 (.t 43) (.t 44))⟩, ⟨(some (39, true)), (some 46), (.ld false 1 (.t 45))⟩, ⟨(some (39, true)), (some 47), (.bin .neq .none (.t 46) (.k (.v (.int .i64 (0)))))⟩, ⟨(some (34, false)), (some 48), (.pick (.t 39) (.t 47) (.k (.v (.bool false))))⟩, ⟨none, (some 49), (.pick (.t 34) (.k (.v (.bool true))) (.t 48))⟩]
def p_s_l13Good_9 : List (List Nat) := [[], [], [0, 1], [], [], [3, 4], [3, 4, 5], [], [3, 4, 5, 6, 7], [3, 4, 5, 6, 7, 8], [0, 1, 2, 3, 4, 5, 6, 7, 8, 9], [0, 1, 2, 3, 4, 5, 6, 7, 8, 9, 10], [0, 1, 2, 3, 4, 5, 6, 7, 8, 9, 10, 11], [0, 1, 2, 3, 4, 5, 6, 7, 8, 9, 10, 11, 12], [0, 1, 2, 3, 4, 5, 6, 7, 8, 9, 10, 11, 12], [0, 1, 2, 3, 4, 5, 6, 7, 8, 9, 10, 11, 12, 13, 14], [0, 1, 2, 3, 4, 5, 6, 7, 8, 9, 10, 11, 12, 13, 14, 15], [0, 1, 2, 3, 4, 5, 6, 7, 8, 9, 10, 11, 12, 13, 14, 15, 16], [0, 1, 2, 3, 4, 5, 6, 7, 8, 9, 10, 11, 12, 13, 14, 15, 16, 17], [0, 1, 2, 3, 4, 5, 6, 7, 8, 9, 10, 11, 12, 13, 14, 15, 16, 17], [0, 1, 2, 3, 4, 5, 6, 7, 8, 9, 10, 11, 12, 13, 14, 15, 16, 17, 18, 19], [0, 1, 2, 3, 4, 5, 6, 7, 8, 9, 10, 11, 12, 13, 14, 15, 16, 17, 18, 19, 20], [0, 1, 2, 3, 4, 5, 6, 7, 8, 9, 10, 11, 12, 13, 14, 15, 16, 17], [0, 1, 2, 3, 4, 5, 6, 7, 8, 9, 10, 11, 12, 13, 14, 15, 16, 17, 18, 19, 20, 21, 22], [0, 1, 2, 3, 4, 5, 6, 7, 8, 9, 10, 11, 12, 13, 14, 15, 16, 17, 18, 19, 20, 21, 22, 23], [0, 1, 2, 3, 4, 5, 6, 7, 8, 9, 10, 11, 12, 13, 14, 15, 16, 17, 18, 19, 20, 21, 22, 23, 24], [0, 1, 2, 3, 4, 5, 6, 7, 8, 9, 10, 11, 12, 13, 14, 15, 16, 17, 18, 19, 20, 21, 22, 23, 24, 25], [0, 1, 2, 3, 4, 5, 6, 7, 8, 9, 10, 11, 12, 13, 14, 15, 16, 17, 18, 19, 20, 21, 22, 23, 24, 25, 26]]
def r_s_l13Good_10 : List CO := [⟨none, (some 2), (.mv (.k (.v (.bool false))))⟩]
def r_s_l13Good_11 : List CO := [⟨none, (some 20), (.mv (.t 4))⟩, ⟨none, (some 21), (.bin .add .none (.t 20) (.k (.v (.int .i64 (1)))))⟩, ⟨none, (some 4), (.mv (.t 21))⟩]
def l_s_l13Good_12 : C := (.seq (.seq (.reg r_s_l13Good_8 [0, 3, 4, 19]) (.cond (.t 19) .skip (.exit 2))) (.seq (.block 3 (.seq (.regD r_s_l13Good_9 p_s_l13Good_9 [0, 3, 4, 49]) (.cond (.t 49) (.seq (.reg r_s_l13Good_10 [2]) .ret) .skip))) (.reg r_s_l13Good_11 [0, 3, 4])))
def r_s_l13Good_13 : List CO := [⟨none, (some 10), (.mv (.t 3))⟩, ⟨none, (some 11), (.bin .add .none (.t 10) (.k (.v (.int .i64 (1)))))⟩, ⟨none, (some 3), (.mv (.t 11))⟩]
def l_s_l13Good_14 : C := (.seq (.seq (.reg r_s_l13Good_4 [0, 3, 9]) (.cond (.t 9) .skip (.exit 0))) (.seq (.block 1 (.seq (.seq (.reg r_s_l13Good_5 [0, 3, 17]) (.cond (.t 17) (.seq (.reg r_s_l13Good_6 [2]) .ret) .skip)) (.seq (.reg r_s_l13Good_7 [0, 3, 4]) (.block 2 (.loop l_s_l13Good_12))))) (.reg r_s_l13Good_13 [0, 3])))
def r_s_l13Good_15 : List CO := [⟨none, (some 2), (.mv (.k (.v (.bool true))))⟩]
/-- loop.example/g00884/spec.l13Good -/
def c_s_l13Good : C := (.seq (.reg r_s_l13Good_0 [0]) (.seq (.seq (.reg r_s_l13Good_1 [0, 7]) (.cond (.t 7) (.seq (.reg r_s_l13Good_2 [2]) .ret) .skip)) (.seq (.seq (.reg r_s_l13Good_3 [0, 3]) (.block 0 (.loop l_s_l13Good_14))) (.seq (.reg r_s_l13Good_15 [2]) .ret))))
def k_s_l13Good : Nat → List Nat
  | 0 => [0]
  | 1 => [0, 7]
  | 2 => [2]
  | 3 => [0, 3]
  | 4 => [0, 3, 9]
  | 6 => [0, 3, 17]
  | 7 => [2]
  | 8 => [0, 3, 4]
  | 9 => [0, 3, 4, 19]
  | 11 => [0, 3, 4, 49]
  | 12 => [2]
  | 10 => [0, 3, 4]
  | 5 => [0, 3]
  | 13 => [2]
  | _ => []
theorem fn_s_l13Good : FnC Try.prog n_s_l13Good c_s_l13Good [(.tmp 2)] 50 :=
  ⟨Try.f104, _, k_s_l13Good, Try.func104, rfl, by kernel_rfl, by kernel_rfl, by kernel_rfl, rfl⟩
def r_i_IsValidPicture_0 : List CO := [⟨none, (some 2), (.mv (.k (.v (.bool false))))⟩]
def r_i_IsValidPicture_1 : List CO := [⟨none, (some 7), (.mv (.t 0))⟩, ⟨none, (some 8), (.len false (.t 7))⟩, ⟨none, (some 9), (.bin .neq .none (.t 8) (.k (.v (.int .i64 (24)))))⟩]
def r_i_IsValidPicture_2 : List CO := [⟨none, (some 2), (.mv (.k (.v (.bool false))))⟩]
def r_i_IsValidPicture_3 : List CO := [⟨none, (some 10), (.mv (.t 0))⟩, ⟨none, (some 11), (.len false (.t 10))⟩, ⟨none, (some 12), (.mv (.k (.v (.int .i64 (0)))))⟩]
def r_i_IsValidPicture_4 : List CO := [⟨none, (some 13), (.bin .lss .none (.t 12) (.t 11))⟩]
def r_i_IsValidPicture_5 : List CO := [⟨none, (some 14), (.mv (.t 12))⟩, ⟨none, (some 15), (.iaddr 1 (.t 10) (.t 12))⟩, ⟨none, (some 16), (.ld false 1 (.t 15))⟩, ⟨none, (some 3), (.mv (.t 14))⟩, ⟨none, (some 4), (.mv (.t 16))⟩]
def r_i_IsValidPicture_6 : List CO := [⟨none, (some 17), (.mv (.t 4))⟩, ⟨none, (some 18), (.len false (.t 17))⟩, ⟨none, (some 19), (.bin .neq .none (.t 18) (.k (.v (.int .i64 (20)))))⟩]
def r_i_IsValidPicture_7 : List CO := [⟨none, (some 2), (.mv (.k (.v (.bool false))))⟩]
def r_i_IsValidPicture_8 : List CO := [⟨none, (some 20), (.mv (.t 4))⟩, ⟨none, (some 21), (.len false (.t 20))⟩, ⟨none, (some 22), (.mv (.k (.v (.int .i64 (0)))))⟩]
def r_i_IsValidPicture_9 : List CO := [⟨none, (some 23), (.bin .lss .none (.t 22) (.t 21))⟩]
def r_i_IsValidPicture_10 : List CO := [⟨none, (some 24), (.mv (.t 22))⟩, ⟨none, (some 25), (.iaddr 1 (.t 20) (.t 22))⟩, ⟨none, (some 26), (.ld false 1 (.t 25))⟩, ⟨none, (some 5), (.mv (.t 24))⟩, ⟨none, (some 6), (.mv (.t 26))⟩]
def r_i_IsValidPicture_11 : List CO := [⟨none, (some 27), (.mv (.t 5))⟩, ⟨none, (some 28), (.mv (.t 3))⟩, ⟨none, (some 29), (.call n_i_InShield [(.t 27), (.t 28)])⟩, ⟨none, (some 30), (.mv (.t 6))⟩, ⟨none, (some 31), (.call n_i_IsTincture [(.t 30)])⟩, ⟨none, (some 32), (.bin .neq .bool (.t 29) (.t 31))⟩, ⟨none, (some 33), (.mv (.t 32))⟩, ⟨(some (33, false)), (some 34), (.mv (.t 5))⟩, ⟨(some (33, false)), (some 35), (.mv (.t 3))⟩, ⟨(some (33, false)), (some 36), (.call n_i_InShield [(.t 34), (.t 35)])⟩, ⟨(some (33, false)), (some 37), (.un .not (.t 36))⟩, ⟨(some (33, false)), (some 38), (.mv (.t 37))⟩, ⟨(some (38, true)), (some 39), (.mv (.t 6))⟩, ⟨(some (38, true)), (some 40), (.bin .neq .none (.t 39) (.k (.v (.int .i64 (0)))))⟩, ⟨(some (33, false)), (some 41), (.pick (.t 38) (.t 40) (.k (.v (.bool false))))⟩, ⟨none, (some 42), (.pick (.t 33) (.k (.v (.bool true))) (.t 41))⟩]
def r_i_IsValidPicture_12 : List CO := [⟨none, (some 2), (.mv (.k (.v (.bool false))))⟩]
def r_i_IsValidPicture_13 : List CO := [⟨none, (some 43), (.bin .add .none (.t 22) (.k (.v (.int .i64 (1)))))⟩, ⟨none, (some 22), (.mv (.t 43))⟩]
def l_i_IsValidPicture_14 : C := (.seq (.reg r_i_IsValidPicture_9 [3, 10, 11, 12, 20, 21, 22, 23]) (.seq (.cond (.t 23) .skip (.exit 2)) (.seq (.block 3 (.seq (.reg r_i_IsValidPicture_10 [3, 5, 6, 10, 11, 12, 20, 21, 22]) (.seq (.reg r_i_IsValidPicture_11 [3, 10, 11, 12, 20, 21, 22, 42]) (.cond (.t 42) (.seq (.reg r_i_IsValidPicture_12 [2]) .ret) .skip)))) (.reg r_i_IsValidPicture_13 [3, 10, 11, 12, 20, 21, 22]))))
def r_i_IsValidPicture_15 : List CO := [⟨none, (some 44), (.bin .add .none (.t 12) (.k (.v (.int .i64 (1)))))⟩, ⟨none, (some 12), (.mv (.t 44))⟩]
def l_i_IsValidPicture_16 : C := (.seq (.reg r_i_IsValidPicture_4 [10, 11, 12, 13]) (.seq (.cond (.t 13) .skip (.exit 0)) (.seq (.block 1 (.seq (.reg r_i_IsValidPicture_5 [3, 4, 10, 11, 12]) (.seq (.seq (.reg r_i_IsValidPicture_6 [3, 4, 10, 11, 12, 19]) (.cond (.t 19) (.seq (.reg r_i_IsValidPicture_7 [2]) .ret) .skip)) (.seq (.reg r_i_IsValidPicture_8 [3, 10, 11, 12, 20, 21, 22]) (.block 2 (.loop l_i_IsValidPicture_14)))))) (.reg r_i_IsValidPicture_15 [10, 11, 12]))))
def r_i_IsValidPicture_17 : List CO := [⟨none, (some 2), (.mv (.k (.v (.bool true))))⟩]
/-- loop.example/g00884/impl.IsValidPicture -/
def c_i_IsValidPicture : C := (.seq (.reg r_i_IsValidPicture_0 [0]) (.seq (.seq (.reg r_i_IsValidPicture_1 [0, 9]) (.cond (.t 9) (.seq (.reg r_i_IsValidPicture_2 [2]) .ret) .skip)) (.seq (.seq (.reg r_i_IsValidPicture_3 [10, 11, 12]) (.block 0 (.loop l_i_IsValidPicture_16))) (.seq (.reg r_i_IsValidPicture_17 [2]) .ret))))
def k_i_IsValidPicture : Nat → List Nat
  | 0 => [0]
  | 1 => [0, 9]
  | 2 => [2]
  | 3 => [10, 11, 12]
  | 4 => [10, 11, 12, 13]
  | 5 => [3, 4, 10, 11, 12]
  | 6 => [3, 4, 10, 11, 12, 19]
  | 7 => [2]
  | 8 => [3, 10, 11, 12, 20, 21, 22]
  | 9 => [3, 10, 11, 12, 20, 21, 22, 23]
  | 10 => [3, 5, 6, 10, 11, 12, 20, 21, 22]
  | 11 => [3, 10, 11, 12, 20, 21, 22, 42]
  | 12 => [2]
  | 13 => [3, 10, 11, 12, 20, 21, 22]
  | 14 => [10, 11, 12]
  | 15 => [2]
  | _ => []
theorem fn_i_IsValidPicture : FnC Try.prog n_i_IsValidPicture c_i_IsValidPicture [(.tmp 2)] 45 :=
  ⟨Try.f101, _, k_i_IsValidPicture, Try.func101, rfl, by kernel_rfl, by kernel_rfl, by kernel_rfl, rfl⟩
end Go.Proofs.Ytgefdcllialhkaa
