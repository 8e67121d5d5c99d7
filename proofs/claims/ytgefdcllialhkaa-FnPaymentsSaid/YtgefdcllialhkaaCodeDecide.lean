/- The compact code of the functions, and that it is theirs: written by a program of this claim. -/
import Derived.Test.YtgefdcllialhkaaNums
namespace Go.Proofs.Ytgefdcllialhkaa
open Go.Abs
set_option maxRecDepth 100000
def r_i_DecidePetition_0 : List CO := [⟨none, (some 6), (.box 4 (.t 1))⟩, ⟨none, (some 10), (.mv (.k (.v (.slice none 0 0))))⟩, ⟨none, (some 11), (.mv (.k (.v (.int .i64 (0)))))⟩, ⟨none, (some 12), (.mv (.k (.v (.bool false))))⟩]
def r_i_DecidePetition_1 : List CO := [⟨none, (some 17), (.mv (.t 0))⟩, ⟨none, (some 18), (.mv (.t 2))⟩, ⟨none, (some 19), (.call n_i_petitionIn [(.t 17), (.t 18)])⟩, ⟨none, (some 13), (.mv (.t 19))⟩]
def r_i_DecidePetition_2 : List CO := [⟨none, (some 20), (.mv (.t 0))⟩, ⟨none, (some 21), (.call n_i_IsValidPetitions [(.t 20)])⟩, ⟨none, (some 22), (.un .not (.t 21))⟩, ⟨none, (some 23), (.mv (.t 22))⟩, ⟨(some (23, false)), (some 24), (.ld true 4 (.t 6))⟩, ⟨(some (23, false)), (some 25), (.call n_i_isTariff [(.t 24)])⟩, ⟨(some (23, false)), (some 26), (.un .not (.t 25))⟩, ⟨none, (some 27), (.pick (.t 23) (.k (.v (.bool true))) (.t 26))⟩, ⟨none, (some 28), (.mv (.t 27))⟩, ⟨(some (28, false)), (some 29), (.mv (.t 13))⟩, ⟨(some (28, false)), (some 30), (.bin .lss .none (.t 29) (.k (.v (.int .i64 (0)))))⟩, ⟨none, (some 31), (.pick (.t 28) (.k (.v (.bool true))) (.t 30))⟩, ⟨none, (some 32), (.mv (.t 31))⟩, ⟨(some (32, false)), (some 33), (.mv (.t 3))⟩, ⟨(some (32, false)), (some 34), (.mv (.t 0))⟩, ⟨(some (32, false)), (some 35), (.mv (.t 13))⟩, ⟨(some (32, false)), (some 36), (.iaddr 5 (.t 34) (.t 35))⟩, ⟨(some (32, false)), (some 37), (.faddr 2 (.t 36))⟩, ⟨(some (32, false)), (some 38), (.ld false 1 (.t 37))⟩, ⟨(some (32, false)), (some 39), (.call n_i_inside [(.t 33), (.t 38), (.k (.v (.int .i64 (9999))))])⟩, ⟨(some (32, false)), (some 40), (.un .not (.t 39))⟩, ⟨none, (some 41), (.pick (.t 32) (.k (.v (.bool true))) (.t 40))⟩]
def r_i_DecidePetition_3 : List CO := [⟨none, (some 10), (.mv (.k (.v (.slice none 0 0))))⟩, ⟨none, (some 11), (.mv (.k (.v (.int .i64 (0)))))⟩, ⟨none, (some 12), (.mv (.k (.v (.bool false))))⟩]
def r_i_DecidePetition_4 : List CO := [⟨none, (some 42), (.mv (.t 0))⟩, ⟨none, (some 43), (.mv (.t 13))⟩, ⟨none, (some 44), (.iaddr 5 (.t 42) (.t 43))⟩, ⟨none, (some 45), (.faddr 3 (.t 44))⟩, ⟨none, (some 46), (.ld false 1 (.t 45))⟩, ⟨none, (some 14), (.mv (.t 46))⟩]
def r_i_DecidePetition_5 : List CO := [⟨none, (some 47), (.mv (.t 14))⟩, ⟨none, (some 48), (.bin .neq .none (.t 47) (.k (.v (.int .i64 (2)))))⟩, ⟨none, (some 49), (.mv (.t 48))⟩, ⟨(some (49, true)), (some 50), (.mv (.t 4))⟩, ⟨(some (49, true)), (some 51), (.mv (.t 50))⟩, ⟨(some (51, false)), (some 52), (.mv (.t 14))⟩, ⟨(some (51, false)), (some 53), (.bin .neq .none (.t 52) (.k (.v (.int .i64 (1)))))⟩, ⟨(some (49, true)), (some 54), (.pick (.t 51) (.k (.v (.bool true))) (.t 53))⟩, ⟨none, (some 55), (.pick (.t 49) (.t 54) (.k (.v (.bool false))))⟩]
def r_i_DecidePetition_6 : List CO := [⟨none, (some 10), (.mv (.k (.v (.slice none 0 0))))⟩, ⟨none, (some 11), (.mv (.k (.v (.int .i64 (0)))))⟩, ⟨none, (some 12), (.mv (.k (.v (.bool false))))⟩]
def r_i_DecidePetition_7 : List CO := [⟨none, (some 56), (.mv (.t 0))⟩, ⟨none, (some 57), (.call n_slices_Clone_i_Petition_i_Petition [(.t 56)])⟩, ⟨none, (some 15), (.mv (.t 57))⟩]
def r_i_DecidePetition_8 : List CO := [⟨none, (some 58), (.mv (.t 15))⟩, ⟨none, (some 59), (.mv (.t 13))⟩, ⟨none, (some 60), (.mv (.t 15))⟩, ⟨none, (some 61), (.mv (.t 13))⟩, ⟨none, (some 62), (.mv (.t 3))⟩, ⟨none, (some 63), (.iaddr 5 (.t 58) (.t 59))⟩, ⟨none, (some 64), (.faddr 2 (.t 63))⟩, ⟨none, none, (.st 1 (.t 64) (.t 62))⟩, ⟨none, (some 65), (.iaddr 5 (.t 60) (.t 61))⟩, ⟨none, (some 66), (.faddr 3 (.t 65))⟩, ⟨none, none, (.st 1 (.t 66) (.k (.v (.int .i64 (3)))))⟩]
def r_i_DecidePetition_9 : List CO := [⟨none, (some 67), (.mv (.t 4))⟩]
def r_i_DecidePetition_10 : List CO := [⟨none, (some 68), (.mv (.t 15))⟩, ⟨none, (some 10), (.mv (.t 68))⟩, ⟨none, (some 11), (.mv (.k (.v (.int .i64 (0)))))⟩, ⟨none, (some 12), (.mv (.k (.v (.bool true))))⟩]
def r_i_DecidePetition_11 : List CO := [⟨none, (some 69), (.mv (.t 15))⟩, ⟨none, (some 70), (.mv (.t 13))⟩, ⟨none, (some 71), (.iaddr 5 (.t 69) (.t 70))⟩, ⟨none, (some 72), (.faddr 4 (.t 71))⟩, ⟨none, (some 73), (.ld false 1 (.t 72))⟩, ⟨none, (some 74), (.faddr 3 (.t 6))⟩, ⟨none, (some 75), (.ld false 1 (.t 74))⟩, ⟨none, (some 76), (.bin .mul .none (.t 73) (.t 75))⟩, ⟨none, (some 77), (.bin .quo .none (.t 76) (.k (.v (.int .i64 (100)))))⟩, ⟨none, (some 16), (.mv (.t 77))⟩]
def p_i_DecidePetition_11 : List (List Nat) := [[], [], [0, 1], [0, 1, 2], [0, 1, 2, 3], [], [5], [0, 1, 2, 3, 4, 5, 6], [0, 1, 2, 3, 4, 5, 6, 7], [0, 1, 2, 3, 4, 5, 6, 7, 8]]
def r_i_DecidePetition_12 : List CO := [⟨none, (some 78), (.mv (.t 15))⟩, ⟨none, (some 79), (.mv (.t 13))⟩, ⟨none, (some 80), (.mv (.t 15))⟩, ⟨none, (some 81), (.mv (.t 13))⟩, ⟨none, (some 82), (.mv (.t 15))⟩, ⟨none, (some 83), (.mv (.t 13))⟩, ⟨none, (some 84), (.iaddr 5 (.t 82) (.t 83))⟩, ⟨none, (some 85), (.faddr 4 (.t 84))⟩, ⟨none, (some 86), (.ld false 1 (.t 85))⟩, ⟨none, (some 87), (.mv (.t 16))⟩, ⟨none, (some 88), (.bin .sub .none (.t 86) (.t 87))⟩, ⟨none, (some 89), (.iaddr 5 (.t 78) (.t 79))⟩, ⟨none, (some 90), (.faddr 3 (.t 89))⟩, ⟨none, none, (.st 1 (.t 90) (.k (.v (.int .i64 (4)))))⟩, ⟨none, (some 91), (.iaddr 5 (.t 80) (.t 81))⟩, ⟨none, (some 92), (.faddr 4 (.t 91))⟩, ⟨none, none, (.st 1 (.t 92) (.t 88))⟩]
def r_i_DecidePetition_13 : List CO := [⟨none, (some 93), (.mv (.t 15))⟩, ⟨none, (some 94), (.mv (.t 16))⟩, ⟨none, (some 10), (.mv (.t 93))⟩, ⟨none, (some 11), (.mv (.t 94))⟩, ⟨none, (some 12), (.mv (.k (.v (.bool true))))⟩]
/-- loop.example/g00884/impl.DecidePetition -/
def c_i_DecidePetition : C := (.seq (.reg r_i_DecidePetition_0 [0, 2, 3, 4, 6]) (.seq (.reg r_i_DecidePetition_1 [0, 3, 4, 6, 13]) (.seq (.seq (.reg r_i_DecidePetition_2 [0, 3, 4, 6, 13, 41]) (.cond (.t 41) (.seq (.reg r_i_DecidePetition_3 [10, 11, 12]) .ret) .skip)) (.seq (.seq (.reg r_i_DecidePetition_4 [0, 3, 4, 6, 13, 14]) (.seq (.reg r_i_DecidePetition_5 [0, 3, 4, 6, 13, 55]) (.cond (.t 55) (.seq (.reg r_i_DecidePetition_6 [10, 11, 12]) .ret) .skip))) (.seq (.reg r_i_DecidePetition_7 [3, 4, 6, 13, 15]) (.seq (.reg r_i_DecidePetition_8 [4, 6, 13, 15]) (.seq (.seq (.reg r_i_DecidePetition_9 [6, 13, 15, 67]) (.cond (.t 67) (.seq (.reg r_i_DecidePetition_10 [10, 11, 12]) .ret) .skip)) (.seq (.regD r_i_DecidePetition_11 p_i_DecidePetition_11 [13, 15, 16]) (.seq (.reg r_i_DecidePetition_12 [15, 16]) (.seq (.reg r_i_DecidePetition_13 [10, 11, 12]) .ret))))))))))
def k_i_DecidePetition : Nat → List Nat
  | 0 => [0, 2, 3, 4, 6]
  | 1 => [0, 3, 4, 6, 13]
  | 2 => [0, 3, 4, 6, 13, 41]
  | 3 => [10, 11, 12]
  | 4 => [0, 3, 4, 6, 13, 14]
  | 5 => [0, 3, 4, 6, 13, 55]
  | 6 => [10, 11, 12]
  | 7 => [3, 4, 6, 13, 15]
  | 8 => [4, 6, 13, 15]
  | 9 => [6, 13, 15, 67]
  | 10 => [10, 11, 12]
  | 11 => [13, 15, 16]
  | 12 => [15, 16]
  | 13 => [10, 11, 12]
  | _ => []
theorem fn_i_DecidePetition : FnC Try.prog n_i_DecidePetition c_i_DecidePetition [(.tmp 10), (.tmp 11), (.tmp 12)] 95 :=
  ⟨Try.f28, _, k_i_DecidePetition, Try.func28, rfl, by kernel_rfl, by kernel_rfl, by kernel_rfl, rfl⟩
def r_s_DecidePetition_0 : List CO := [⟨none, (some 6), (.box 4 (.t 1))⟩, ⟨none, (some 10), (.mv (.k (.v (.slice none 0 0))))⟩, ⟨none, (some 11), (.mv (.k (.v (.int .i64 (0)))))⟩, ⟨none, (some 12), (.mv (.k (.v (.bool false))))⟩]
def r_s_DecidePetition_1 : List CO := [⟨none, (some 16), (.mv (.t 0))⟩, ⟨none, (some 17), (.mv (.t 2))⟩, ⟨none, (some 18), (.call n_s_l26Find [(.t 16), (.t 17)])⟩, ⟨none, (some 13), (.mv (.t 18))⟩]
def r_s_DecidePetition_2 : List CO := [⟨none, (some 19), (.mv (.t 0))⟩, ⟨none, (some 20), (.call n_s_l26Good [(.t 19)])⟩, ⟨none, (some 21), (.un .not (.t 20))⟩, ⟨none, (some 22), (.mv (.t 21))⟩, ⟨(some (22, false)), (some 23), (.ld true 4 (.t 6))⟩, ⟨(some (22, false)), (some 24), (.call n_s_l26Tariff [(.t 23)])⟩, ⟨(some (22, false)), (some 25), (.un .not (.t 24))⟩, ⟨none, (some 26), (.pick (.t 22) (.k (.v (.bool true))) (.t 25))⟩, ⟨none, (some 27), (.mv (.t 26))⟩, ⟨(some (27, false)), (some 28), (.mv (.t 13))⟩, ⟨(some (27, false)), (some 29), (.bin .lss .none (.t 28) (.k (.v (.int .i64 (0)))))⟩, ⟨none, (some 30), (.pick (.t 27) (.k (.v (.bool true))) (.t 29))⟩]
def r_s_DecidePetition_3 : List CO := [⟨none, (some 31), (.bslice 5 (.agg [(.v (.int .i64 (0))), (.v (.int .i64 (0))), (.v (.int .i64 (0))), (.v (.int .i64 (0))), (.v (.int .i64 (0)))]) 0 [])⟩, ⟨none, (some 10), (.mv (.t 31))⟩, ⟨none, (some 11), (.mv (.k (.v (.int .i64 (0)))))⟩, ⟨none, (some 12), (.mv (.k (.v (.bool false))))⟩]
def r_s_DecidePetition_4 : List CO := [⟨none, (some 32), (.mv (.t 0))⟩, ⟨none, (some 33), (.mv (.t 13))⟩, ⟨none, (some 34), (.iaddr 5 (.t 32) (.t 33))⟩, ⟨none, (some 35), (.ld true 5 (.t 34))⟩, ⟨none, (some 14), (.box 5 (.k (.agg [(.v (.int .i64 (0))), (.v (.int .i64 (0))), (.v (.int .i64 (0))), (.v (.int .i64 (0))), (.v (.int .i64 (0)))])))⟩, ⟨none, none, (.st 5 (.t 14) (.t 35))⟩]
def r_s_DecidePetition_5 : List CO := [⟨none, (some 36), (.mv (.t 3))⟩, ⟨none, (some 37), (.faddr 2 (.t 14))⟩, ⟨none, (some 38), (.ld false 1 (.t 37))⟩, ⟨none, (some 39), (.call n_s_l1In [(.t 36), (.t 38), (.k (.v (.int .i64 (9999))))])⟩, ⟨none, (some 40), (.un .not (.t 39))⟩, ⟨none, (some 41), (.mv (.t 40))⟩, ⟨(some (41, false)), (some 42), (.faddr 3 (.t 14))⟩, ⟨(some (41, false)), (some 43), (.ld false 1 (.t 42))⟩, ⟨(some (41, false)), (some 44), (.bin .gtr .none (.t 43) (.k (.v (.int .i64 (2)))))⟩, ⟨none, (some 45), (.pick (.t 41) (.k (.v (.bool true))) (.t 44))⟩, ⟨none, (some 46), (.mv (.t 45))⟩, ⟨(some (46, false)), (some 47), (.mv (.t 4))⟩, ⟨(some (46, false)), (some 48), (.mv (.t 47))⟩, ⟨(some (48, true)), (some 49), (.faddr 3 (.t 14))⟩, ⟨(some (48, true)), (some 50), (.ld false 1 (.t 49))⟩, ⟨(some (48, true)), (some 51), (.bin .neq .none (.t 50) (.k (.v (.int .i64 (2)))))⟩, ⟨(some (46, false)), (some 52), (.pick (.t 48) (.t 51) (.k (.v (.bool false))))⟩, ⟨none, (some 53), (.pick (.t 46) (.k (.v (.bool true))) (.t 52))⟩]
def r_s_DecidePetition_6 : List CO := [⟨none, (some 54), (.bslice 5 (.agg [(.v (.int .i64 (0))), (.v (.int .i64 (0))), (.v (.int .i64 (0))), (.v (.int .i64 (0))), (.v (.int .i64 (0)))]) 0 [])⟩, ⟨none, (some 10), (.mv (.t 54))⟩, ⟨none, (some 11), (.mv (.k (.v (.int .i64 (0)))))⟩, ⟨none, (some 12), (.mv (.k (.v (.bool false))))⟩]
def r_s_DecidePetition_7 : List CO := [⟨none, (some 55), (.mv (.t 3))⟩, ⟨none, (some 56), (.faddr 2 (.t 14))⟩, ⟨none, none, (.st 1 (.t 56) (.t 55))⟩]
def r_s_DecidePetition_8 : List CO := [⟨none, (some 57), (.mv (.t 4))⟩]
def r_s_DecidePetition_9 : List CO := [⟨none, (some 58), (.faddr 3 (.t 14))⟩, ⟨none, none, (.st 1 (.t 58) (.k (.v (.int .i64 (3)))))⟩]
def r_s_DecidePetition_10 : List CO := [⟨none, (some 59), (.mv (.t 0))⟩, ⟨none, (some 60), (.mv (.t 13))⟩, ⟨none, (some 61), (.ld true 5 (.t 14))⟩, ⟨none, (some 62), (.call n_s_l26With [(.t 59), (.t 60), (.t 61)])⟩, ⟨none, (some 10), (.mv (.t 62))⟩, ⟨none, (some 11), (.mv (.k (.v (.int .i64 (0)))))⟩, ⟨none, (some 12), (.mv (.k (.v (.bool true))))⟩]
def r_s_DecidePetition_11 : List CO := [⟨none, (some 63), (.faddr 4 (.t 14))⟩, ⟨none, (some 64), (.ld false 1 (.t 63))⟩, ⟨none, (some 65), (.faddr 3 (.t 6))⟩, ⟨none, (some 66), (.ld false 1 (.t 65))⟩, ⟨none, (some 67), (.bin .mul .none (.t 64) (.t 66))⟩, ⟨none, (some 68), (.bin .quo .none (.t 67) (.k (.v (.int .i64 (100)))))⟩, ⟨none, (some 15), (.mv (.t 68))⟩]
def r_s_DecidePetition_12 : List CO := [⟨none, (some 69), (.faddr 4 (.t 14))⟩, ⟨none, (some 70), (.ld false 1 (.t 69))⟩, ⟨none, (some 71), (.mv (.t 15))⟩, ⟨none, (some 72), (.bin .sub .none (.t 70) (.t 71))⟩, ⟨none, (some 73), (.faddr 4 (.t 14))⟩, ⟨none, none, (.st 1 (.t 73) (.t 72))⟩]
def r_s_DecidePetition_13 : List CO := [⟨none, (some 74), (.faddr 3 (.t 14))⟩, ⟨none, none, (.st 1 (.t 74) (.k (.v (.int .i64 (4)))))⟩]
def r_s_DecidePetition_14 : List CO := [⟨none, (some 75), (.mv (.t 0))⟩, ⟨none, (some 76), (.mv (.t 13))⟩, ⟨none, (some 77), (.ld true 5 (.t 14))⟩, ⟨none, (some 78), (.call n_s_l26With [(.t 75), (.t 76), (.t 77)])⟩, ⟨none, (some 79), (.mv (.t 15))⟩, ⟨none, (some 10), (.mv (.t 78))⟩, ⟨none, (some 11), (.mv (.t 79))⟩, ⟨none, (some 12), (.mv (.k (.v (.bool true))))⟩]
/-- loop.example/g00884/spec.DecidePetition -/
def c_s_DecidePetition : C := (.seq (.reg r_s_DecidePetition_0 [0, 2, 3, 4, 6]) (.seq (.reg r_s_DecidePetition_1 [0, 3, 4, 6, 13]) (.seq (.seq (.reg r_s_DecidePetition_2 [0, 3, 4, 6, 13, 30]) (.cond (.t 30) (.seq (.reg r_s_DecidePetition_3 [10, 11, 12]) .ret) .skip)) (.seq (.reg r_s_DecidePetition_4 [0, 3, 4, 6, 13, 14]) (.seq (.seq (.reg r_s_DecidePetition_5 [0, 3, 4, 6, 13, 14, 53]) (.cond (.t 53) (.seq (.reg r_s_DecidePetition_6 [10, 11, 12]) .ret) .skip)) (.seq (.reg r_s_DecidePetition_7 [0, 4, 6, 13, 14]) (.seq (.seq (.reg r_s_DecidePetition_8 [0, 6, 13, 14, 57]) (.cond (.t 57) (.seq (.reg r_s_DecidePetition_9 [0, 13, 14]) (.seq (.reg r_s_DecidePetition_10 [10, 11, 12]) .ret)) .skip)) (.seq (.reg r_s_DecidePetition_11 [0, 13, 14, 15]) (.seq (.reg r_s_DecidePetition_12 [0, 13, 14, 15]) (.seq (.reg r_s_DecidePetition_13 [0, 13, 14, 15]) (.seq (.reg r_s_DecidePetition_14 [10, 11, 12]) .ret)))))))))))
def k_s_DecidePetition : Nat → List Nat
  | 0 => [0, 2, 3, 4, 6]
  | 1 => [0, 3, 4, 6, 13]
  | 2 => [0, 3, 4, 6, 13, 30]
  | 3 => [10, 11, 12]
  | 4 => [0, 3, 4, 6, 13, 14]
  | 5 => [0, 3, 4, 6, 13, 14, 53]
  | 6 => [10, 11, 12]
  | 7 => [0, 4, 6, 13, 14]
  | 8 => [0, 6, 13, 14, 57]
  | 9 => [0, 13, 14]
  | 10 => [10, 11, 12]
  | 11 => [0, 13, 14, 15]
  | 12 => [0, 13, 14, 15]
  | 13 => [0, 13, 14, 15]
  | 14 => [10, 11, 12]
  | _ => []
theorem fn_s_DecidePetition : FnC Try.prog n_s_DecidePetition c_s_DecidePetition [(.tmp 10), (.tmp 11), (.tmp 12)] 80 :=
  ⟨Try.f29, _, k_s_DecidePetition, Try.func29, rfl, by kernel_rfl, by kernel_rfl, by kernel_rfl, rfl⟩
end Go.Proofs.Ytgefdcllialhkaa
