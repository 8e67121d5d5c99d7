/- The compact code of the functions, and that it is theirs: written by a program of this claim. -/
import Derived.Test.YtgefdcllialhkaaNums
namespace Go.Proofs.Ytgefdcllialhkaa
open Go.Abs
set_option maxRecDepth 100000
def r_i_isRank_0 : List CO := [⟨none, (some 2), (.mv (.k (.v (.bool false))))⟩]
def r_i_isRank_1 : List CO := [⟨none, (some 3), (.mv (.t 0))⟩, ⟨none, (some 4), (.call n_i_inside [(.t 3), (.k (.v (.int .i64 (1)))), (.k (.v (.int .i64 (5))))])⟩, ⟨none, (some 2), (.mv (.t 4))⟩]
/-- loop.example/g00884/impl.isRank -/
def c_i_isRank : C := (.seq (.reg r_i_isRank_0 [0]) (.seq (.reg r_i_isRank_1 [2]) .ret))
def k_i_isRank : Nat → List Nat
  | 0 => [0]
  | 1 => [2]
  | _ => []
theorem fn_i_isRank : FnC Try.prog n_i_isRank c_i_isRank [(.tmp 2)] 5 :=
  ⟨Try.f84, _, k_i_isRank, Try.func84, rfl, by kernel_rfl, by kernel_rfl, by kernel_rfl, rfl⟩
def r_i_isDay_0 : List CO := [⟨none, (some 2), (.mv (.k (.v (.bool false))))⟩]
def r_i_isDay_1 : List CO := [⟨none, (some 3), (.mv (.t 0))⟩, ⟨none, (some 4), (.call n_i_inside [(.t 3), (.k (.v (.int .i64 (0)))), (.k (.v (.int .i64 (9999))))])⟩, ⟨none, (some 2), (.mv (.t 4))⟩]
/-- loop.example/g00884/impl.isDay -/
def c_i_isDay : C := (.seq (.reg r_i_isDay_0 [0]) (.seq (.reg r_i_isDay_1 [2]) .ret))
def k_i_isDay : Nat → List Nat
  | 0 => [0]
  | 1 => [2]
  | _ => []
theorem fn_i_isDay : FnC Try.prog n_i_isDay c_i_isDay [(.tmp 2)] 5 :=
  ⟨Try.f85, _, k_i_isDay, Try.func85, rfl, by kernel_rfl, by kernel_rfl, by kernel_rfl, rfl⟩
def r_s_l22Rank_0 : List CO := [⟨none, (some 2), (.mv (.k (.v (.bool false))))⟩]
def r_s_l22Rank_1 : List CO := [⟨none, (some 3), (.mv (.t 0))⟩, ⟨none, (some 4), (.call n_s_l1In [(.t 3), (.k (.v (.int .i64 (1)))), (.k (.v (.int .i64 (5))))])⟩, ⟨none, (some 2), (.mv (.t 4))⟩]
/-- loop.example/g00884/spec.l22Rank -/
def c_s_l22Rank : C := (.seq (.reg r_s_l22Rank_0 [0]) (.seq (.reg r_s_l22Rank_1 [2]) .ret))
def k_s_l22Rank : Nat → List Nat
  | 0 => [0]
  | 1 => [2]
  | _ => []
theorem fn_s_l22Rank : FnC Try.prog n_s_l22Rank c_s_l22Rank [(.tmp 2)] 5 :=
  ⟨Try.f93, _, k_s_l22Rank, Try.func93, rfl, by kernel_rfl, by kernel_rfl, by kernel_rfl, rfl⟩
def r_s_l26Day_0 : List CO := [⟨none, (some 2), (.mv (.k (.v (.bool false))))⟩]
def r_s_l26Day_1 : List CO := [⟨none, (some 3), (.mv (.t 0))⟩, ⟨none, (some 4), (.call n_s_l1In [(.t 3), (.k (.v (.int .i64 (0)))), (.k (.v (.int .i64 (9999))))])⟩, ⟨none, (some 2), (.mv (.t 4))⟩]
/-- loop.example/g00884/spec.l26Day -/
def c_s_l26Day : C := (.seq (.reg r_s_l26Day_0 [0]) (.seq (.reg r_s_l26Day_1 [2]) .ret))
def k_s_l26Day : Nat → List Nat
  | 0 => [0]
  | 1 => [2]
  | _ => []
theorem fn_s_l26Day : FnC Try.prog n_s_l26Day c_s_l26Day [(.tmp 2)] 5 :=
  ⟨Try.f99, _, k_s_l26Day, Try.func99, rfl, by kernel_rfl, by kernel_rfl, by kernel_rfl, rfl⟩
def r_s_l26Good_0 : List CO := [⟨none, (some 2), (.mv (.k (.v (.bool false))))⟩]
def r_s_l26Good_1 : List CO := [⟨none, (some 3), (.mv (.k (.v (.int .i64 (0)))))⟩]
def r_s_l26Good_2 : List CO := [⟨none, (some 5), (.mv (.t 3))⟩, ⟨none, (some 6), (.mv (.t 0))⟩, ⟨none, (some 7), (.len false (.t 6))⟩, ⟨none, (some 8), (.bin .lss .none (.t 5) (.t 7))⟩]
def r_s_l26Good_3 : List CO := [⟨none, (some 11), (.mv (.t 0))⟩, ⟨none, (some 12), (.mv (.t 3))⟩, ⟨none, (some 13), (.iaddr 5 (.t 11) (.t 12))⟩, ⟨none, (some 14), (.ld true 5 (.t 13))⟩, ⟨none, (some 4), (.box 5 (.k (.agg [(.v (.int .i64 (0))), (.v (.int .i64 (0))), (.v (.int .i64 (0))), (.v (.int .i64 (0))), (.v (.int .i64 (0)))])))⟩, ⟨none, none, (.st 5 (.t 4) (.t 14))⟩]
def r_s_l26Good_4 : List CO := [⟨none, (some 15), (.faddr 0 (.t 4))⟩, ⟨none, (some 16), (.ld false 1 (.t 15))⟩, ⟨none, (some 17), (.call n_s_l1In [(.t 16), (.k (.v (.int .i64 (1)))), (.k (.v (.int .i64 (999))))])⟩, ⟨none, (some 18), (.un .not (.t 17))⟩, ⟨none, (some 19), (.mv (.t 18))⟩, ⟨(some (19, false)), (some 20), (.faddr 1 (.t 4))⟩, ⟨(some (19, false)), (some 21), (.ld false 1 (.t 20))⟩, ⟨(some (19, false)), (some 22), (.call n_s_l22Rank [(.t 21)])⟩, ⟨(some (19, false)), (some 23), (.un .not (.t 22))⟩, ⟨none, (some 24), (.pick (.t 19) (.k (.v (.bool true))) (.t 23))⟩, ⟨none, (some 25), (.mv (.t 24))⟩, ⟨(some (25, false)), (some 26), (.faddr 2 (.t 4))⟩, ⟨(some (25, false)), (some 27), (.ld false 1 (.t 26))⟩, ⟨(some (25, false)), (some 28), (.call n_s_l26Day [(.t 27)])⟩, ⟨(some (25, false)), (some 29), (.un .not (.t 28))⟩, ⟨none, (some 30), (.pick (.t 25) (.k (.v (.bool true))) (.t 29))⟩, ⟨none, (some 31), (.mv (.t 30))⟩, ⟨(some (31, false)), (some 32), (.faddr 3 (.t 4))⟩, ⟨(some (31, false)), (some 33), (.ld false 1 (.t 32))⟩, ⟨(some (31, false)), (some 34), (.call n_s_l1In [(.t 33), (.k (.v (.int .i64 (1)))), (.k (.v (.int .i64 (4))))])⟩, ⟨(some (31, false)), (some 35), (.un .not (.t 34))⟩, ⟨none, (some 36), (.pick (.t 31) (.k (.v (.bool true))) (.t 35))⟩, ⟨none, (some 37), (.mv (.t 36))⟩, ⟨(some (37, false)), (some 38), (.faddr 4 (.t 4))⟩, ⟨(some (37, false)), (some 39), (.ld false 1 (.t 38))⟩, ⟨(some (37, false)), (some 40), (.call n_s_l1In [(.t 39), (.k (.v (.int .i64 (0)))), (.k (.v (.int .i64 (1000000))))])⟩, ⟨(some (37, false)), (some 41), (.un .not (.t 40))⟩, ⟨none, (some 42), (.pick (.t 37) (.k (.v (.bool true))) (.t 41))⟩]
def r_s_l26Good_5 : List CO := [⟨none, (some 2), (.mv (.k (.v (.bool false))))⟩]
def r_s_l26Good_6 : List CO := [⟨none, (some 43), (.mv (.t 3))⟩, ⟨none, (some 44), (.bin .gtr .none (.t 43) (.k (.v (.int .i64 (0)))))⟩, ⟨none, (some 45), (.mv (.t 44))⟩, ⟨(some (45, true)), (some 46), (.mv (.t 0))⟩, ⟨(some (45, true)), (some 47), (.mv (.t 3))⟩, ⟨(some (45, true)), (some 48), (.bin .sub .none (.t 47) (.k (.v (.int .i64 (1)))))⟩, ⟨(some (45, true)), (some 49), (.iaddr 5 (.t 46) (.t 48))⟩, ⟨(some (45, true)), (some 50), (.faddr 0 (.t 49))⟩, ⟨(some (45, true)), (some 51), (.ld false 1 (.t 50))⟩, ⟨(some (45, true)), (some 52), (.faddr 0 (.t 4))⟩, ⟨(some (45, true)), (some 53), (.ld false 1 (.t 52))⟩, ⟨(some (45, true)), (some 54), (.bin .geq .none (.t 51) (.t 53))⟩, ⟨none, (some 55), (.pick (.t 45) (.t 54) (.k (.v (.bool false))))⟩]
def p_s_l26Good_6 : List (List Nat) := [[], [0], [0, 1], [0, 1, 2], [0, 1, 2], [0, 1, 2, 4], [0, 1, 2, 3, 4, 5], [0, 1, 2, 3, 4, 5, 6], [0, 1, 2, 3, 4, 5, 6, 7], [0, 1, 2], [0, 1, 2, 9], [0, 1, 2, 3, 4, 5, 6, 7, 8, 9, 10], [0, 1, 2, 3, 4, 5, 6, 7, 8, 9, 10, 11]]
def r_s_l26Good_7 : List CO := [⟨none, (some 2), (.mv (.k (.v (.bool false))))⟩]
def r_s_l26Good_8 : List CO := [⟨none, (some 9), (.mv (.t 3))⟩, ⟨none, (some 10), (.bin .add .none (.t 9) (.k (.v (.int .i64 (1)))))⟩, ⟨none, (some 3), (.mv (.t 10))⟩]
def l_s_l26Good_9 : C := (.seq (.seq (.reg r_s_l26Good_2 [0, 3, 8]) (.cond (.t 8) .skip (.exit 0))) (.seq (.block 1 (.seq (.reg r_s_l26Good_3 [0, 3, 4]) (.seq (.seq (.reg r_s_l26Good_4 [0, 3, 4, 42]) (.cond (.t 42) (.seq (.reg r_s_l26Good_5 [2]) .ret) .skip)) (.seq (.regD r_s_l26Good_6 p_s_l26Good_6 [0, 3, 55]) (.cond (.t 55) (.seq (.reg r_s_l26Good_7 [2]) .ret) .skip))))) (.reg r_s_l26Good_8 [0, 3])))
def r_s_l26Good_10 : List CO := [⟨none, (some 56), (.mv (.t 0))⟩, ⟨none, (some 57), (.len false (.t 56))⟩, ⟨none, (some 58), (.bin .leq .none (.t 57) (.k (.v (.int .i64 (12)))))⟩, ⟨none, (some 2), (.mv (.t 58))⟩]
/-- loop.example/g00884/spec.l26Good -/
def c_s_l26Good : C := (.seq (.reg r_s_l26Good_0 [0]) (.seq (.seq (.reg r_s_l26Good_1 [0, 3]) (.block 0 (.loop l_s_l26Good_9))) (.seq (.reg r_s_l26Good_10 [2]) .ret)))
def k_s_l26Good : Nat → List Nat
  | 0 => [0]
  | 1 => [0, 3]
  | 2 => [0, 3, 8]
  | 4 => [0, 3, 4]
  | 5 => [0, 3, 4, 42]
  | 6 => [2]
  | 7 => [0, 3, 55]
  | 8 => [2]
  | 3 => [0, 3]
  | 9 => [2]
  | _ => []
theorem fn_s_l26Good : FnC Try.prog n_s_l26Good c_s_l26Good [(.tmp 2)] 59 :=
  ⟨Try.f82, _, k_s_l26Good, Try.func82, rfl, by kernel_rfl, by kernel_rfl, by kernel_rfl, rfl⟩
def r_i_IsValidPetitions_0 : List CO := [⟨none, (some 2), (.mv (.k (.v (.bool false))))⟩]
def r_i_IsValidPetitions_1 : List CO := [⟨none, (some 5), (.mv (.t 0))⟩, ⟨none, (some 6), (.len false (.t 5))⟩, ⟨none, (some 7), (.mv (.k (.v (.int .i64 (0)))))⟩]
def r_i_IsValidPetitions_2 : List CO := [⟨none, (some 8), (.bin .lss .none (.t 7) (.t 6))⟩]
def r_i_IsValidPetitions_3 : List CO := [⟨none, (some 9), (.mv (.t 7))⟩, ⟨none, (some 10), (.iaddr 5 (.t 5) (.t 7))⟩, ⟨none, (some 11), (.ld true 5 (.t 10))⟩, ⟨none, (some 4), (.box 5 (.k (.agg [(.v (.int .i64 (0))), (.v (.int .i64 (0))), (.v (.int .i64 (0))), (.v (.int .i64 (0))), (.v (.int .i64 (0)))])))⟩, ⟨none, (some 3), (.mv (.t 9))⟩, ⟨none, none, (.st 5 (.t 4) (.t 11))⟩]
def r_i_IsValidPetitions_4 : List CO := [⟨none, (some 12), (.faddr 0 (.t 4))⟩, ⟨none, (some 13), (.ld false 1 (.t 12))⟩, ⟨none, (some 14), (.call n_i_inside [(.t 13), (.k (.v (.int .i64 (1)))), (.k (.v (.int .i64 (999))))])⟩, ⟨none, (some 15), (.un .not (.t 14))⟩, ⟨none, (some 16), (.mv (.t 15))⟩, ⟨(some (16, false)), (some 17), (.faddr 1 (.t 4))⟩, ⟨(some (16, false)), (some 18), (.ld false 1 (.t 17))⟩, ⟨(some (16, false)), (some 19), (.call n_i_isRank [(.t 18)])⟩, ⟨(some (16, false)), (some 20), (.un .not (.t 19))⟩, ⟨none, (some 21), (.pick (.t 16) (.k (.v (.bool true))) (.t 20))⟩, ⟨none, (some 22), (.mv (.t 21))⟩, ⟨(some (22, false)), (some 23), (.faddr 2 (.t 4))⟩, ⟨(some (22, false)), (some 24), (.ld false 1 (.t 23))⟩, ⟨(some (22, false)), (some 25), (.call n_i_isDay [(.t 24)])⟩, ⟨(some (22, false)), (some 26), (.un .not (.t 25))⟩, ⟨none, (some 27), (.pick (.t 22) (.k (.v (.bool true))) (.t 26))⟩, ⟨none, (some 28), (.mv (.t 27))⟩, ⟨(some (28, false)), (some 29), (.faddr 3 (.t 4))⟩, ⟨(some (28, false)), (some 30), (.ld false 1 (.t 29))⟩, ⟨(some (28, false)), (some 31), (.call n_i_inside [(.t 30), (.k (.v (.int .i64 (1)))), (.k (.v (.int .i64 (4))))])⟩, ⟨(some (28, false)), (some 32), (.un .not (.t 31))⟩, ⟨none, (some 33), (.pick (.t 28) (.k (.v (.bool true))) (.t 32))⟩, ⟨none, (some 34), (.mv (.t 33))⟩, ⟨(some (34, false)), (some 35), (.faddr 4 (.t 4))⟩, ⟨(some (34, false)), (some 36), (.ld false 1 (.t 35))⟩, ⟨(some (34, false)), (some 37), (.call n_i_inside [(.t 36), (.k (.v (.int .i64 (0)))), (.k (.v (.int .i64 (1000000))))])⟩, ⟨(some (34, false)), (some 38), (.un .not (.t 37))⟩, ⟨none, (some 39), (.pick (.t 34) (.k (.v (.bool true))) (.t 38))⟩, ⟨none, (some 40), (.mv (.t 39))⟩, ⟨(some (40, false)), (some 41), (.mv (.t 3))⟩, ⟨(some (40, false)), (some 42), (.bin .gtr .none (.t 41) (.k (.v (.int .i64 (0)))))⟩, ⟨(some (40, false)), (some 43), (.mv (.t 42))⟩, ⟨(some (43, true)), (some 44), (.mv (.t 0))⟩, ⟨(some (43, true)), (some 45), (.mv (.t 3))⟩, ⟨(some (43, true)), (some 46), (.bin .sub .none (.t 45) (.k (.v (.int .i64 (1)))))⟩, ⟨(some (43, true)), (some 47), (.iaddr 5 (.t 44) (.t 46))⟩, ⟨(some (43, true)), (some 48), (.faddr 0 (.t 47))⟩, ⟨(some (43, true)), (some 49), (.ld false 1 (.t 48))⟩, ⟨(some (43, true)), (some 50), (.faddr 0 (.t 4))⟩, ⟨(some (43, true)), (some 51), (.ld false 1 (.t 50))⟩, ⟨(some (43, true)), (some 52), (.bin .geq .none (.t 49) (.t 51))⟩, ⟨(some (40, false)), (some 53), (.pick (.t 43) (.t 52) (.k (.v (.bool false))))⟩, ⟨none, (some 54), (.pick (.t 40) (.k (.v (.bool true))) (.t 53))⟩]
def p_i_IsValidPetitions_4 : List (List Nat) := [[], [0], [0, 1], [0, 1, 2], [0, 1, 2, 3], [0, 1, 2, 3, 4], [0, 1, 2, 3, 4, 5], [0, 1, 2, 3, 4, 5, 6], [0, 1, 2, 3, 4, 5, 6, 7], [0, 1, 2, 3, 4, 5, 6, 7, 8], [0, 1, 2, 3, 4, 5, 6, 7, 8, 9], [0, 1, 2, 3, 4, 5, 6, 7, 8, 9, 10], [0, 1, 2, 3, 4, 5, 6, 7, 8, 9, 10, 11], [0, 1, 2, 3, 4, 5, 6, 7, 8, 9, 10, 11, 12], [0, 1, 2, 3, 4, 5, 6, 7, 8, 9, 10, 11, 12, 13], [0, 1, 2, 3, 4, 5, 6, 7, 8, 9, 10, 11, 12, 13, 14], [0, 1, 2, 3, 4, 5, 6, 7, 8, 9, 10, 11, 12, 13, 14, 15], [0, 1, 2, 3, 4, 5, 6, 7, 8, 9, 10, 11, 12, 13, 14, 15, 16], [0, 1, 2, 3, 4, 5, 6, 7, 8, 9, 10, 11, 12, 13, 14, 15, 16, 17], [0, 1, 2, 3, 4, 5, 6, 7, 8, 9, 10, 11, 12, 13, 14, 15, 16, 17, 18], [0, 1, 2, 3, 4, 5, 6, 7, 8, 9, 10, 11, 12, 13, 14, 15, 16, 17, 18, 19], [0, 1, 2, 3, 4, 5, 6, 7, 8, 9, 10, 11, 12, 13, 14, 15, 16, 17, 18, 19, 20], [0, 1, 2, 3, 4, 5, 6, 7, 8, 9, 10, 11, 12, 13, 14, 15, 16, 17, 18, 19, 20, 21], [0, 1, 2, 3, 4, 5, 6, 7, 8, 9, 10, 11, 12, 13, 14, 15, 16, 17, 18, 19, 20, 21, 22], [0, 1, 2, 3, 4, 5, 6, 7, 8, 9, 10, 11, 12, 13, 14, 15, 16, 17, 18, 19, 20, 21, 22, 23], [0, 1, 2, 3, 4, 5, 6, 7, 8, 9, 10, 11, 12, 13, 14, 15, 16, 17, 18, 19, 20, 21, 22, 23, 24], [0, 1, 2, 3, 4, 5, 6, 7, 8, 9, 10, 11, 12, 13, 14, 15, 16, 17, 18, 19, 20, 21, 22, 23, 24, 25], [0, 1, 2, 3, 4, 5, 6, 7, 8, 9, 10, 11, 12, 13, 14, 15, 16, 17, 18, 19, 20, 21, 22, 23, 24, 25, 26], [0, 1, 2, 3, 4, 5, 6, 7, 8, 9, 10, 11, 12, 13, 14, 15, 16, 17, 18, 19, 20, 21, 22, 23, 24, 25, 26, 27], [0, 1, 2, 3, 4, 5, 6, 7, 8, 9, 10, 11, 12, 13, 14, 15, 16, 17, 18, 19, 20, 21, 22, 23, 24, 25, 26, 27, 28], [0, 1, 2, 3, 4, 5, 6, 7, 8, 9, 10, 11, 12, 13, 14, 15, 16, 17, 18, 19, 20, 21, 22, 23, 24, 25, 26, 27, 28, 29], [0, 1, 2, 3, 4, 5, 6, 7, 8, 9, 10, 11, 12, 13, 14, 15, 16, 17, 18, 19, 20, 21, 22, 23, 24, 25, 26, 27, 28, 29, 30], [0, 1, 2, 3, 4, 5, 6, 7, 8, 9, 10, 11, 12, 13, 14, 15, 16, 17, 18, 19, 20, 21, 22, 23, 24, 25, 26, 27, 28, 29, 30, 31], [0, 1, 2, 3, 4, 5, 6, 7, 8, 9, 10, 11, 12, 13, 14, 15, 16, 17, 18, 19, 20, 21, 22, 23, 24, 25, 26, 27, 28, 29, 30, 31], [0, 1, 2, 3, 4, 5, 6, 7, 8, 9, 10, 11, 12, 13, 14, 15, 16, 17, 18, 19, 20, 21, 22, 23, 24, 25, 26, 27, 28, 29, 30, 31, 33], [0, 1, 2, 3, 4, 5, 6, 7, 8, 9, 10, 11, 12, 13, 14, 15, 16, 17, 18, 19, 20, 21, 22, 23, 24, 25, 26, 27, 28, 29, 30, 31, 32, 33, 34], [0, 1, 2, 3, 4, 5, 6, 7, 8, 9, 10, 11, 12, 13, 14, 15, 16, 17, 18, 19, 20, 21, 22, 23, 24, 25, 26, 27, 28, 29, 30, 31, 32, 33, 34, 35], [0, 1, 2, 3, 4, 5, 6, 7, 8, 9, 10, 11, 12, 13, 14, 15, 16, 17, 18, 19, 20, 21, 22, 23, 24, 25, 26, 27, 28, 29, 30, 31, 32, 33, 34, 35, 36], [0, 1, 2, 3, 4, 5, 6, 7, 8, 9, 10, 11, 12, 13, 14, 15, 16, 17, 18, 19, 20, 21, 22, 23, 24, 25, 26, 27, 28, 29, 30, 31], [0, 1, 2, 3, 4, 5, 6, 7, 8, 9, 10, 11, 12, 13, 14, 15, 16, 17, 18, 19, 20, 21, 22, 23, 24, 25, 26, 27, 28, 29, 30, 31, 38], [0, 1, 2, 3, 4, 5, 6, 7, 8, 9, 10, 11, 12, 13, 14, 15, 16, 17, 18, 19, 20, 21, 22, 23, 24, 25, 26, 27, 28, 29, 30, 31, 32, 33, 34, 35, 36, 37, 38, 39], [0, 1, 2, 3, 4, 5, 6, 7, 8, 9, 10, 11, 12, 13, 14, 15, 16, 17, 18, 19, 20, 21, 22, 23, 24, 25, 26, 27, 28, 29, 30, 31, 32, 33, 34, 35, 36, 37, 38, 39, 40], [0, 1, 2, 3, 4, 5, 6, 7, 8, 9, 10, 11, 12, 13, 14, 15, 16, 17, 18, 19, 20, 21, 22, 23, 24, 25, 26, 27, 28, 29, 30, 31, 32, 33, 34, 35, 36, 37, 38, 39, 40, 41]]
def r_i_IsValidPetitions_5 : List CO := [⟨none, (some 2), (.mv (.k (.v (.bool false))))⟩]
def r_i_IsValidPetitions_6 : List CO := [⟨none, (some 55), (.bin .add .none (.t 7) (.k (.v (.int .i64 (1)))))⟩, ⟨none, (some 7), (.mv (.t 55))⟩]
def l_i_IsValidPetitions_7 : C := (.seq (.reg r_i_IsValidPetitions_2 [0, 5, 6, 7, 8]) (.seq (.cond (.t 8) .skip (.exit 0)) (.seq (.block 1 (.seq (.reg r_i_IsValidPetitions_3 [0, 3, 4, 5, 6, 7]) (.seq (.regD r_i_IsValidPetitions_4 p_i_IsValidPetitions_4 [0, 5, 6, 7, 54]) (.cond (.t 54) (.seq (.reg r_i_IsValidPetitions_5 [2]) .ret) .skip)))) (.reg r_i_IsValidPetitions_6 [0, 5, 6, 7]))))
def r_i_IsValidPetitions_8 : List CO := [⟨none, (some 56), (.mv (.t 0))⟩, ⟨none, (some 57), (.len false (.t 56))⟩, ⟨none, (some 58), (.bin .leq .none (.t 57) (.k (.v (.int .i64 (12)))))⟩, ⟨none, (some 2), (.mv (.t 58))⟩]
/-- loop.example/g00884/impl.IsValidPetitions -/
def c_i_IsValidPetitions : C := (.seq (.reg r_i_IsValidPetitions_0 [0]) (.seq (.seq (.reg r_i_IsValidPetitions_1 [0, 5, 6, 7]) (.block 0 (.loop l_i_IsValidPetitions_7))) (.seq (.reg r_i_IsValidPetitions_8 [2]) .ret)))
def k_i_IsValidPetitions : Nat → List Nat
  | 0 => [0]
  | 1 => [0, 5, 6, 7]
  | 2 => [0, 5, 6, 7, 8]
  | 3 => [0, 3, 4, 5, 6, 7]
  | 4 => [0, 5, 6, 7, 54]
  | 5 => [2]
  | 6 => [0, 5, 6, 7]
  | 7 => [2]
  | _ => []
theorem fn_i_IsValidPetitions : FnC Try.prog n_i_IsValidPetitions c_i_IsValidPetitions [(.tmp 2)] 59 :=
  ⟨Try.f26, _, k_i_IsValidPetitions, Try.func26, rfl, by kernel_rfl, by kernel_rfl, by kernel_rfl, rfl⟩
end Go.Proofs.Ytgefdcllialhkaa
