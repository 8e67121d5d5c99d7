/- The compact code of the functions, and that it is theirs: written by a program of this claim. -/
import Derived.Test.YtgefdcllialhkaaNums
namespace Go.Proofs.Ytgefdcllialhkaa
open Go.Abs
set_option maxRecDepth 100000
def r_i_IncomeOf_0 : List CO := [⟨none, (some 2), (.mv (.k (.v (.slice none 0 0))))⟩, ⟨none, (some 3), (.mv (.k (.v (.bool false))))⟩]
def r_i_IncomeOf_1 : List CO := [⟨none, (some 7), (.mv (.t 0))⟩, ⟨none, (some 8), (.call n_i_IsValidPetitions [(.t 7)])⟩, ⟨none, (some 9), (.un .not (.t 8))⟩]
def r_i_IncomeOf_2 : List CO := [⟨none, (some 2), (.mv (.k (.v (.slice none 0 0))))⟩, ⟨none, (some 3), (.mv (.k (.v (.bool false))))⟩]
def r_i_IncomeOf_3 : List CO := [⟨none, (some 10), (.mks 1 (.v (.int .i64 (0))) 8 (.k (.v (.int .i64 (4)))) (.k (.v (.int .i64 (4)))))⟩, ⟨none, (some 4), (.mv (.t 10))⟩]
def r_i_IncomeOf_4 : List CO := [⟨none, (some 11), (.mv (.t 0))⟩, ⟨none, (some 12), (.len false (.t 11))⟩, ⟨none, (some 13), (.mv (.k (.v (.int .i64 (0)))))⟩]
def r_i_IncomeOf_5 : List CO := [⟨none, (some 14), (.bin .lss .none (.t 13) (.t 12))⟩]
def r_i_IncomeOf_6 : List CO := [⟨none, (some 15), (.iaddr 5 (.t 11) (.t 13))⟩, ⟨none, (some 16), (.ld true 5 (.t 15))⟩, ⟨none, (some 6), (.box 5 (.k (.agg [(.v (.int .i64 (0))), (.v (.int .i64 (0))), (.v (.int .i64 (0))), (.v (.int .i64 (0))), (.v (.int .i64 (0)))])))⟩, ⟨none, none, (.st 5 (.t 6) (.t 16))⟩]
def r_i_IncomeOf_7 : List CO := [⟨none, (some 17), (.mv (.t 4))⟩, ⟨none, (some 18), (.faddr 3 (.t 6))⟩, ⟨none, (some 19), (.ld false 1 (.t 18))⟩, ⟨none, (some 20), (.bin .sub .none (.t 19) (.k (.v (.int .i64 (1)))))⟩, ⟨none, (some 21), (.iaddr 1 (.t 17) (.t 20))⟩, ⟨none, (some 22), (.ld false 1 (.t 21))⟩, ⟨none, (some 23), (.faddr 4 (.t 6))⟩, ⟨none, (some 24), (.ld false 1 (.t 23))⟩, ⟨none, (some 25), (.bin .add .none (.t 22) (.t 24))⟩, ⟨none, (some 26), (.iaddr 1 (.t 17) (.t 20))⟩, ⟨none, none, (.st 1 (.t 26) (.t 25))⟩]
def p_i_IncomeOf_7 : List (List Nat) := [[], [], [1], [1, 2], [0, 1, 2, 3], [0, 1, 2, 3, 4], [], [6], [0, 1, 2, 3, 4, 5, 6, 7], [0, 1, 2, 3, 4, 5, 6, 7, 8], [0, 1, 2, 3, 4, 5, 6, 7, 8, 9]]
def r_i_IncomeOf_8 : List CO := [⟨none, (some 27), (.bin .add .none (.t 13) (.k (.v (.int .i64 (1)))))⟩, ⟨none, (some 13), (.mv (.t 27))⟩]
def l_i_IncomeOf_9 : C := (.seq (.reg r_i_IncomeOf_5 [4, 11, 12, 13, 14]) (.seq (.cond (.t 14) .skip (.exit 0)) (.seq (.block 1 (.seq (.reg r_i_IncomeOf_6 [4, 6, 11, 12, 13]) (.regD r_i_IncomeOf_7 p_i_IncomeOf_7 [4, 11, 12, 13]))) (.reg r_i_IncomeOf_8 [4, 11, 12, 13]))))
def r_i_IncomeOf_10 : List CO := [⟨none, (some 28), (.mv (.t 4))⟩, ⟨none, (some 2), (.mv (.t 28))⟩, ⟨none, (some 3), (.mv (.k (.v (.bool true))))⟩]
/-- loop.example/g00884/impl.IncomeOf -/
def c_i_IncomeOf : C := (.seq (.reg r_i_IncomeOf_0 [0]) (.seq (.seq (.reg r_i_IncomeOf_1 [0, 9]) (.cond (.t 9) (.seq (.reg r_i_IncomeOf_2 [2, 3]) .ret) .skip)) (.seq (.reg r_i_IncomeOf_3 [0, 4]) (.seq (.seq (.reg r_i_IncomeOf_4 [4, 11, 12, 13]) (.block 0 (.loop l_i_IncomeOf_9))) (.seq (.reg r_i_IncomeOf_10 [2, 3]) .ret)))))
def k_i_IncomeOf : Nat → List Nat
  | 0 => [0]
  | 1 => [0, 9]
  | 2 => [2, 3]
  | 3 => [0, 4]
  | 4 => [4, 11, 12, 13]
  | 5 => [4, 11, 12, 13, 14]
  | 6 => [4, 6, 11, 12, 13]
  | 7 => [4, 11, 12, 13]
  | 8 => [4, 11, 12, 13]
  | 9 => [2, 3]
  | _ => []
theorem fn_i_IncomeOf : FnC Try.prog n_i_IncomeOf c_i_IncomeOf [(.tmp 2), (.tmp 3)] 29 :=
  ⟨Try.f25, _, k_i_IncomeOf, Try.func25, rfl, by kernel_rfl, by kernel_rfl, by kernel_rfl, rfl⟩
def r_s_OverduePetitions_0 : List CO := [⟨none, (some 6), (.mv (.k (.v (.slice none 0 0))))⟩, ⟨none, (some 7), (.mv (.k (.v (.bool false))))⟩]
def r_s_OverduePetitions_1 : List CO := [⟨none, (some 10), (.bslice 1 (.v (.int .i64 (0))) 0 [])⟩, ⟨none, (some 8), (.mv (.t 10))⟩]
def r_s_OverduePetitions_2 : List CO := [⟨none, (some 11), (.mv (.t 0))⟩, ⟨none, (some 12), (.call n_s_l26Good [(.t 11)])⟩, ⟨none, (some 13), (.un .not (.t 12))⟩, ⟨none, (some 14), (.mv (.t 13))⟩, ⟨(some (14, false)), (some 15), (.mv (.t 1))⟩, ⟨(some (14, false)), (some 16), (.call n_s_l26Day [(.t 15)])⟩, ⟨(some (14, false)), (some 17), (.un .not (.t 16))⟩, ⟨none, (some 18), (.pick (.t 14) (.k (.v (.bool true))) (.t 17))⟩, ⟨none, (some 19), (.mv (.t 18))⟩, ⟨(some (19, false)), (some 20), (.mv (.t 2))⟩, ⟨(some (19, false)), (some 21), (.call n_s_l26Day [(.t 20)])⟩, ⟨(some (19, false)), (some 22), (.un .not (.t 21))⟩, ⟨none, (some 23), (.pick (.t 19) (.k (.v (.bool true))) (.t 22))⟩]
def r_s_OverduePetitions_3 : List CO := [⟨none, (some 24), (.mv (.t 8))⟩, ⟨none, (some 6), (.mv (.t 24))⟩, ⟨none, (some 7), (.mv (.k (.v (.bool false))))⟩]
def r_s_OverduePetitions_4 : List CO := [⟨none, (some 9), (.mv (.k (.v (.int .i64 (0)))))⟩]
def r_s_OverduePetitions_5 : List CO := [⟨none, (some 25), (.mv (.t 9))⟩, ⟨none, (some 26), (.mv (.t 0))⟩, ⟨none, (some 27), (.len false (.t 26))⟩, ⟨none, (some 28), (.bin .lss .none (.t 25) (.t 27))⟩]
def r_s_OverduePetitions_6 : List CO := [⟨none, (some 31), (.mv (.t 0))⟩, ⟨none, (some 32), (.mv (.t 9))⟩, ⟨none, (some 33), (.iaddr 5 (.t 31) (.t 32))⟩, ⟨none, (some 34), (.faddr 3 (.t 33))⟩, ⟨none, (some 35), (.ld false 1 (.t 34))⟩, ⟨none, (some 36), (.bin .eql .none (.t 35) (.k (.v (.int .i64 (1)))))⟩, ⟨none, (some 37), (.mv (.t 36))⟩, ⟨(some (37, true)), (some 38), (.mv (.t 1))⟩, ⟨(some (37, true)), (some 39), (.mv (.t 0))⟩, ⟨(some (37, true)), (some 40), (.mv (.t 9))⟩, ⟨(some (37, true)), (some 41), (.iaddr 5 (.t 39) (.t 40))⟩, ⟨(some (37, true)), (some 42), (.faddr 2 (.t 41))⟩, ⟨(some (37, true)), (some 43), (.ld false 1 (.t 42))⟩, ⟨(some (37, true)), (some 44), (.bin .sub .none (.t 38) (.t 43))⟩, ⟨(some (37, true)), (some 45), (.mv (.t 2))⟩, ⟨(some (37, true)), (some 46), (.bin .gtr .none (.t 44) (.t 45))⟩, ⟨none, (some 47), (.pick (.t 37) (.t 46) (.k (.v (.bool false))))⟩]
def r_s_OverduePetitions_7 : List CO := [⟨none, (some 48), (.mv (.t 8))⟩, ⟨none, (some 49), (.mv (.t 0))⟩, ⟨none, (some 50), (.mv (.t 9))⟩, ⟨none, (some 51), (.iaddr 5 (.t 49) (.t 50))⟩, ⟨none, (some 52), (.faddr 0 (.t 51))⟩, ⟨none, (some 53), (.ld false 1 (.t 52))⟩, ⟨none, (some 54), (.bslice 1 (.v (.int .i64 (0))) 1 [(0, (.t 53))])⟩, ⟨none, (some 55), (.app 1 8 (.t 48) (.t 54))⟩, ⟨none, (some 8), (.mv (.t 55))⟩]
def r_s_OverduePetitions_8 : List CO := [⟨none, (some 29), (.mv (.t 9))⟩, ⟨none, (some 30), (.bin .add .none (.t 29) (.k (.v (.int .i64 (1)))))⟩, ⟨none, (some 9), (.mv (.t 30))⟩]
def l_s_OverduePetitions_9 : C := (.seq (.seq (.reg r_s_OverduePetitions_5 [0, 1, 2, 8, 9, 28]) (.cond (.t 28) .skip (.exit 0))) (.seq (.block 1 (.seq (.reg r_s_OverduePetitions_6 [0, 1, 2, 8, 9, 47]) (.cond (.t 47) (.reg r_s_OverduePetitions_7 [0, 1, 2, 8, 9]) .skip))) (.reg r_s_OverduePetitions_8 [0, 1, 2, 8, 9])))
def r_s_OverduePetitions_10 : List CO := [⟨none, (some 56), (.mv (.t 8))⟩, ⟨none, (some 6), (.mv (.t 56))⟩, ⟨none, (some 7), (.mv (.k (.v (.bool true))))⟩]
/-- loop.example/g00884/spec.OverduePetitions -/
def c_s_OverduePetitions : C := (.seq (.reg r_s_OverduePetitions_0 [0, 1, 2]) (.seq (.reg r_s_OverduePetitions_1 [0, 1, 2, 8]) (.seq (.seq (.reg r_s_OverduePetitions_2 [0, 1, 2, 8, 23]) (.cond (.t 23) (.seq (.reg r_s_OverduePetitions_3 [6, 7]) .ret) .skip)) (.seq (.seq (.reg r_s_OverduePetitions_4 [0, 1, 2, 8, 9]) (.block 0 (.loop l_s_OverduePetitions_9))) (.seq (.reg r_s_OverduePetitions_10 [6, 7]) .ret)))))
def k_s_OverduePetitions : Nat → List Nat
  | 0 => [0, 1, 2]
  | 1 => [0, 1, 2, 8]
  | 2 => [0, 1, 2, 8, 23]
  | 3 => [6, 7]
  | 4 => [0, 1, 2, 8, 9]
  | 5 => [0, 1, 2, 8, 9, 28]
  | 7 => [0, 1, 2, 8, 9, 47]
  | 8 => [0, 1, 2, 8, 9]
  | 6 => [0, 1, 2, 8, 9]
  | 9 => [6, 7]
  | _ => []
theorem fn_s_OverduePetitions : FnC Try.prog n_s_OverduePetitions c_s_OverduePetitions [(.tmp 6), (.tmp 7)] 57 :=
  ⟨Try.f45, _, k_s_OverduePetitions, Try.func45, rfl, by kernel_rfl, by kernel_rfl, by kernel_rfl, rfl⟩
def r_i_OverduePetitions_0 : List CO := [⟨none, (some 6), (.mv (.k (.v (.slice none 0 0))))⟩, ⟨none, (some 7), (.mv (.k (.v (.bool false))))⟩]
def r_i_OverduePetitions_1 : List CO := [⟨none, (some 11), (.mv (.t 0))⟩, ⟨none, (some 12), (.call n_i_IsValidPetitions [(.t 11)])⟩, ⟨none, (some 13), (.un .not (.t 12))⟩, ⟨none, (some 14), (.mv (.t 13))⟩, ⟨(some (14, false)), (some 15), (.mv (.t 1))⟩, ⟨(some (14, false)), (some 16), (.call n_i_isDay [(.t 15)])⟩, ⟨(some (14, false)), (some 17), (.un .not (.t 16))⟩, ⟨none, (some 18), (.pick (.t 14) (.k (.v (.bool true))) (.t 17))⟩, ⟨none, (some 19), (.mv (.t 18))⟩, ⟨(some (19, false)), (some 20), (.mv (.t 2))⟩, ⟨(some (19, false)), (some 21), (.call n_i_isDay [(.t 20)])⟩, ⟨(some (19, false)), (some 22), (.un .not (.t 21))⟩, ⟨none, (some 23), (.pick (.t 19) (.k (.v (.bool true))) (.t 22))⟩]
def r_i_OverduePetitions_2 : List CO := [⟨none, (some 6), (.mv (.k (.v (.slice none 0 0))))⟩, ⟨none, (some 7), (.mv (.k (.v (.bool false))))⟩]
def r_i_OverduePetitions_3 : List CO := [⟨none, (some 24), (.bslice 1 (.v (.int .i64 (0))) 0 [])⟩, ⟨none, (some 8), (.mv (.t 24))⟩]
def r_i_OverduePetitions_4 : List CO := [⟨none, (some 25), (.mv (.t 0))⟩, ⟨none, (some 26), (.len false (.t 25))⟩, ⟨none, (some 27), (.mv (.k (.v (.int .i64 (0)))))⟩]
def r_i_OverduePetitions_5 : List CO := [⟨none, (some 28), (.bin .lss .none (.t 27) (.t 26))⟩]
def r_i_OverduePetitions_6 : List CO := [⟨none, (some 29), (.iaddr 5 (.t 25) (.t 27))⟩, ⟨none, (some 30), (.ld true 5 (.t 29))⟩, ⟨none, (some 10), (.box 5 (.k (.agg [(.v (.int .i64 (0))), (.v (.int .i64 (0))), (.v (.int .i64 (0))), (.v (.int .i64 (0))), (.v (.int .i64 (0)))])))⟩, ⟨none, none, (.st 5 (.t 10) (.t 30))⟩]
def r_i_OverduePetitions_7 : List CO := [⟨none, (some 31), (.faddr 3 (.t 10))⟩, ⟨none, (some 32), (.ld false 1 (.t 31))⟩, ⟨none, (some 33), (.bin .eql .none (.t 32) (.k (.v (.int .i64 (1)))))⟩, ⟨none, (some 34), (.mv (.t 33))⟩, ⟨(some (34, true)), (some 35), (.mv (.t 1))⟩, ⟨(some (34, true)), (some 36), (.faddr 2 (.t 10))⟩, ⟨(some (34, true)), (some 37), (.ld false 1 (.t 36))⟩, ⟨(some (34, true)), (some 38), (.bin .sub .none (.t 35) (.t 37))⟩, ⟨(some (34, true)), (some 39), (.mv (.t 2))⟩, ⟨(some (34, true)), (some 40), (.bin .gtr .none (.t 38) (.t 39))⟩, ⟨none, (some 41), (.pick (.t 34) (.t 40) (.k (.v (.bool false))))⟩]
def r_i_OverduePetitions_8 : List CO := [⟨none, (some 42), (.mv (.t 8))⟩, ⟨none, (some 43), (.faddr 0 (.t 10))⟩, ⟨none, (some 44), (.ld false 1 (.t 43))⟩, ⟨none, (some 45), (.bslice 1 (.v (.int .i64 (0))) 1 [(0, (.t 44))])⟩, ⟨none, (some 46), (.app 1 8 (.t 42) (.t 45))⟩, ⟨none, (some 8), (.mv (.t 46))⟩]
def r_i_OverduePetitions_9 : List CO := [⟨none, (some 47), (.bin .add .none (.t 27) (.k (.v (.int .i64 (1)))))⟩, ⟨none, (some 27), (.mv (.t 47))⟩]
def l_i_OverduePetitions_10 : C := (.seq (.reg r_i_OverduePetitions_5 [1, 2, 8, 25, 26, 27, 28]) (.seq (.cond (.t 28) .skip (.exit 0)) (.seq (.block 1 (.seq (.reg r_i_OverduePetitions_6 [1, 2, 8, 10, 25, 26, 27]) (.seq (.reg r_i_OverduePetitions_7 [1, 2, 8, 10, 25, 26, 27, 41]) (.cond (.t 41) (.reg r_i_OverduePetitions_8 [1, 2, 8, 25, 26, 27]) .skip)))) (.reg r_i_OverduePetitions_9 [1, 2, 8, 25, 26, 27]))))
def r_i_OverduePetitions_11 : List CO := [⟨none, (some 48), (.mv (.t 8))⟩, ⟨none, (some 6), (.mv (.t 48))⟩, ⟨none, (some 7), (.mv (.k (.v (.bool true))))⟩]
/-- loop.example/g00884/impl.OverduePetitions -/
def c_i_OverduePetitions : C := (.seq (.reg r_i_OverduePetitions_0 [0, 1, 2]) (.seq (.seq (.reg r_i_OverduePetitions_1 [0, 1, 2, 23]) (.cond (.t 23) (.seq (.reg r_i_OverduePetitions_2 [6, 7]) .ret) .skip)) (.seq (.reg r_i_OverduePetitions_3 [0, 1, 2, 8]) (.seq (.seq (.reg r_i_OverduePetitions_4 [1, 2, 8, 25, 26, 27]) (.block 0 (.loop l_i_OverduePetitions_10))) (.seq (.reg r_i_OverduePetitions_11 [6, 7]) .ret)))))
def k_i_OverduePetitions : Nat → List Nat
  | 0 => [0, 1, 2]
  | 1 => [0, 1, 2, 23]
  | 2 => [6, 7]
  | 3 => [0, 1, 2, 8]
  | 4 => [1, 2, 8, 25, 26, 27]
  | 5 => [1, 2, 8, 25, 26, 27, 28]
  | 6 => [1, 2, 8, 10, 25, 26, 27]
  | 7 => [1, 2, 8, 10, 25, 26, 27, 41]
  | 8 => [1, 2, 8, 25, 26, 27]
  | 9 => [1, 2, 8, 25, 26, 27]
  | 10 => [6, 7]
  | _ => []
theorem fn_i_OverduePetitions : FnC Try.prog n_i_OverduePetitions c_i_OverduePetitions [(.tmp 6), (.tmp 7)] 49 :=
  ⟨Try.f44, _, k_i_OverduePetitions, Try.func44, rfl, by kernel_rfl, by kernel_rfl, by kernel_rfl, rfl⟩
end Go.Proofs.Ytgefdcllialhkaa
