/- The compact code of the functions, and that it is theirs: written by a program of this claim. -/
import Derived.Test.YtbeoijlggphklaaGreatNums
namespace Go.Proofs.YtbeoijlggphklaaGreat
open Go.Abs
set_option maxRecDepth 100000
def r_i_isName_0 : List CO := [⟨none, (some 2), (.mv (.k (.v (.bool false))))⟩]
def r_i_isName_1 : List CO := [⟨none, (some 4), (.mv (.t 0))⟩, ⟨none, (some 5), (.len true (.t 4))⟩, ⟨none, (some 6), (.mv (.k (.v (.int .i64 (0)))))⟩]
def r_i_isName_2 : List CO := [⟨none, (some 7), (.bin .lss .none (.t 6) (.t 5))⟩]
def r_i_isName_3 : List CO := [⟨none, (some 8), (.mv (.t 6))⟩, ⟨none, (some 3), (.mv (.t 8))⟩]
def r_i_isName_4 : List CO := [⟨none, (some 9), (.mv (.t 3))⟩, ⟨none, (some 10), (.bin .eql .none (.t 9) (.k (.v (.int .i64 (0)))))⟩, ⟨none, (some 11), (.mv (.t 10))⟩, ⟨(some (11, true)), (some 12), (.mv (.t 0))⟩, ⟨(some (11, true)), (some 13), (.mv (.t 3))⟩, ⟨(some (11, true)), (some 14), (.idx (.t 12) (.t 13))⟩, ⟨(some (11, true)), (some 15), (.bin .lss .none (.t 14) (.k (.v (.int .u8 (65)))))⟩, ⟨(some (11, true)), (some 16), (.mv (.t 15))⟩, ⟨(some (16, false)), (some 17), (.mv (.t 0))⟩, ⟨(some (16, false)), (some 18), (.mv (.t 3))⟩, ⟨(some (16, false)), (some 19), (.idx (.t 17) (.t 18))⟩, ⟨(some (16, false)), (some 20), (.bin .gtr .none (.t 19) (.k (.v (.int .u8 (90)))))⟩, ⟨(some (11, true)), (some 21), (.pick (.t 16) (.k (.v (.bool true))) (.t 20))⟩, ⟨none, (some 22), (.pick (.t 11) (.t 21) (.k (.v (.bool false))))⟩, ⟨none, (some 23), (.mv (.t 22))⟩, ⟨(some (23, false)), (some 24), (.mv (.t 3))⟩, ⟨(some (23, false)), (some 25), (.bin .gtr .none (.t 24) (.k (.v (.int .i64 (0)))))⟩, ⟨(some (23, false)), (some 26), (.mv (.t 25))⟩, ⟨(some (26, true)), (some 27), (.mv (.t 0))⟩, ⟨(some (26, true)), (some 28), (.mv (.t 3))⟩, ⟨(some (26, true)), (some 29), (.idx (.t 27) (.t 28))⟩, ⟨(some (26, true)), (some 30), (.bin .lss .none (.t 29) (.k (.v (.int .u8 (97)))))⟩, ⟨(some (26, true)), (some 31), (.mv (.t 30))⟩, ⟨(some (31, false)), (some 32), (.mv (.t 0))⟩, ⟨(some (31, false)), (some 33), (.mv (.t 3))⟩, ⟨(some (31, false)), (some 34), (.idx (.t 32) (.t 33))⟩, ⟨(some (31, false)), (some 35), (.bin .gtr .none (.t 34) (.k (.v (.int .u8 (122)))))⟩, ⟨(some (26, true)), (some 36), (.pick (.t 31) (.k (.v (.bool true))) (.t 35))⟩, ⟨(some (23, false)), (some 37), (.pick (.t 26) (.t 36) (.k (.v (.bool false))))⟩, ⟨none, (some 38), (.pick (.t 23) (.k (.v (.bool true))) (.t 37))⟩]
def r_i_isName_5 : List CO := [⟨none, (some 2), (.mv (.k (.v (.bool false))))⟩]
def r_i_isName_6 : List CO := [⟨none, (some 39), (.bin .add .none (.t 6) (.k (.v (.int .i64 (1)))))⟩, ⟨none, (some 6), (.mv (.t 39))⟩]
def l_i_isName_7 : C := (.seq (.reg r_i_isName_2 [0, 5, 6, 7]) (.seq (.cond (.t 7) .skip (.exit 0)) (.seq (.block 1 (.seq (.reg r_i_isName_3 [0, 3, 5, 6]) (.seq (.reg r_i_isName_4 [0, 5, 6, 38]) (.cond (.t 38) (.seq (.reg r_i_isName_5 [2]) .ret) .skip)))) (.reg r_i_isName_6 [0, 5, 6]))))
def r_i_isName_8 : List CO := [⟨none, (some 40), (.mv (.t 0))⟩, ⟨none, (some 41), (.len true (.t 40))⟩, ⟨none, (some 42), (.call n_i_inside [(.t 41), (.k (.v (.int .i64 (1)))), (.k (.v (.int .i64 (12))))])⟩, ⟨none, (some 2), (.mv (.t 42))⟩]
/-- loop.example/g00884/impl.isName -/
def c_i_isName : C := (.seq (.reg r_i_isName_0 [0]) (.seq (.seq (.reg r_i_isName_1 [0, 5, 6]) (.block 0 (.loop l_i_isName_7))) (.seq (.reg r_i_isName_8 [2]) .ret)))
def k_i_isName : Nat → List Nat
  | 0 => [0]
  | 1 => [0, 5, 6]
  | 2 => [0, 5, 6, 7]
  | 3 => [0, 3, 5, 6]
  | 4 => [0, 5, 6, 38]
  | 5 => [2]
  | 6 => [0, 5, 6]
  | 7 => [2]
  | _ => []
theorem fn_i_isName : FnC Tryz.prog n_i_isName c_i_isName [(.tmp 2)] 43 :=
  ⟨Tryz.f29, _, k_i_isName, Tryz.func29, rfl, by kernel_rfl, by kernel_rfl, by kernel_rfl, rfl⟩
def r_s_l16Name_0 : List CO := [⟨none, (some 2), (.mv (.k (.v (.bool false))))⟩]
def r_s_l16Name_1 : List CO := [⟨none, (some 4), (.mv (.t 0))⟩, ⟨none, (some 5), (.len true (.t 4))⟩, ⟨none, (some 6), (.call n_s_l1In [(.t 5), (.k (.v (.int .i64 (1)))), (.k (.v (.int .i64 (12))))])⟩, ⟨none, (some 7), (.un .not (.t 6))⟩, ⟨none, (some 8), (.mv (.t 7))⟩, ⟨(some (8, false)), (some 9), (.mv (.t 0))⟩, ⟨(some (8, false)), (some 10), (.idx (.t 9) (.k (.v (.int .i64 (0)))))⟩, ⟨(some (8, false)), (some 11), (.bin .lss .none (.t 10) (.k (.v (.int .u8 (65)))))⟩, ⟨none, (some 12), (.pick (.t 8) (.k (.v (.bool true))) (.t 11))⟩, ⟨none, (some 13), (.mv (.t 12))⟩, ⟨(some (13, false)), (some 14), (.mv (.t 0))⟩, ⟨(some (13, false)), (some 15), (.idx (.t 14) (.k (.v (.int .i64 (0)))))⟩, ⟨(some (13, false)), (some 16), (.bin .gtr .none (.t 15) (.k (.v (.int .u8 (90)))))⟩, ⟨none, (some 17), (.pick (.t 13) (.k (.v (.bool true))) (.t 16))⟩]
def r_s_l16Name_2 : List CO := [⟨none, (some 2), (.mv (.k (.v (.bool false))))⟩]
def r_s_l16Name_3 : List CO := [⟨none, (some 3), (.mv (.k (.v (.int .i64 (1)))))⟩]
def r_s_l16Name_4 : List CO := [⟨none, (some 18), (.mv (.t 3))⟩, ⟨none, (some 19), (.mv (.t 0))⟩, ⟨none, (some 20), (.len true (.t 19))⟩, ⟨none, (some 21), (.bin .lss .none (.t 18) (.t 20))⟩]
def r_s_l16Name_5 : List CO := [⟨none, (some 24), (.mv (.t 0))⟩, ⟨none, (some 25), (.mv (.t 3))⟩, ⟨none, (some 26), (.idx (.t 24) (.t 25))⟩, ⟨none, (some 27), (.bin .lss .none (.t 26) (.k (.v (.int .u8 (97)))))⟩, ⟨none, (some 28), (.mv (.t 27))⟩, ⟨(some (28, false)), (some 29), (.mv (.t 0))⟩, ⟨(some (28, false)), (some 30), (.mv (.t 3))⟩, ⟨(some (28, false)), (some 31), (.idx (.t 29) (.t 30))⟩, ⟨(some (28, false)), (some 32), (.bin .gtr .none (.t 31) (.k (.v (.int .u8 (122)))))⟩, ⟨none, (some 33), (.pick (.t 28) (.k (.v (.bool true))) (.t 32))⟩]
def r_s_l16Name_6 : List CO := [⟨none, (some 2), (.mv (.k (.v (.bool false))))⟩]
def r_s_l16Name_7 : List CO := [⟨none, (some 22), (.mv (.t 3))⟩, ⟨none, (some 23), (.bin .add .none (.t 22) (.k (.v (.int .i64 (1)))))⟩, ⟨none, (some 3), (.mv (.t 23))⟩]
def l_s_l16Name_8 : C := (.seq (.seq (.reg r_s_l16Name_4 [0, 3, 21]) (.cond (.t 21) .skip (.exit 0))) (.seq (.block 1 (.seq (.reg r_s_l16Name_5 [0, 3, 33]) (.cond (.t 33) (.seq (.reg r_s_l16Name_6 [2]) .ret) .skip))) (.reg r_s_l16Name_7 [0, 3])))
def r_s_l16Name_9 : List CO := [⟨none, (some 2), (.mv (.k (.v (.bool true))))⟩]
/-- loop.example/g00884/spec.l16Name -/
def c_s_l16Name : C := (.seq (.reg r_s_l16Name_0 [0]) (.seq (.seq (.reg r_s_l16Name_1 [0, 17]) (.cond (.t 17) (.seq (.reg r_s_l16Name_2 [2]) .ret) .skip)) (.seq (.seq (.reg r_s_l16Name_3 [0, 3]) (.block 0 (.loop l_s_l16Name_8))) (.seq (.reg r_s_l16Name_9 [2]) .ret))))
def k_s_l16Name : Nat → List Nat
  | 0 => [0]
  | 1 => [0, 17]
  | 2 => [2]
  | 3 => [0, 3]
  | 4 => [0, 3, 21]
  | 6 => [0, 3, 33]
  | 7 => [2]
  | 5 => [0, 3]
  | 8 => [2]
  | _ => []
theorem fn_s_l16Name : FnC Tryz.prog n_s_l16Name c_s_l16Name [(.tmp 2)] 34 :=
  ⟨Tryz.f41, _, k_s_l16Name, Tryz.func41, rfl, by kernel_rfl, by kernel_rfl, by kernel_rfl, rfl⟩
def r_s_l16Grant_0 : List CO := [⟨none, (some 1), (.box 18 (.t 0))⟩, ⟨none, (some 2), (.mv (.k (.v (.bool false))))⟩]
def r_s_l16Grant_1 : List CO := [⟨none, (some 3), (.faddr 0 (.t 1))⟩, ⟨none, (some 4), (.ld false 1 (.t 3))⟩, ⟨none, (some 5), (.call n_s_l1In [(.t 4), (.k (.v (.int .i64 (1)))), (.k (.v (.int .i64 (999))))])⟩, ⟨none, (some 6), (.mv (.t 5))⟩, ⟨(some (6, true)), (some 7), (.faddr 1 (.t 1))⟩, ⟨(some (6, true)), (some 8), (.ld false 1 (.t 7))⟩, ⟨(some (6, true)), (some 9), (.call n_s_l16Name [(.t 8)])⟩, ⟨none, (some 10), (.pick (.t 6) (.t 9) (.k (.v (.bool false))))⟩, ⟨none, (some 11), (.mv (.t 10))⟩, ⟨(some (11, true)), (some 12), (.faddr 2 (.t 1))⟩, ⟨(some (11, true)), (some 13), (.ld false 1 (.t 12))⟩, ⟨(some (11, true)), (some 14), (.call n_s_l1In [(.t 13), (.k (.v (.int .i64 (1000)))), (.k (.v (.int .i64 (2999))))])⟩, ⟨none, (some 15), (.pick (.t 11) (.t 14) (.k (.v (.bool false))))⟩, ⟨none, (some 16), (.mv (.t 15))⟩, ⟨(some (16, true)), (some 17), (.faddr 3 (.t 1))⟩, ⟨(some (16, true)), (some 18), (.ld true 15 (.t 17))⟩, ⟨(some (16, true)), (some 19), (.call n_s_l5Good [(.t 18)])⟩, ⟨none, (some 20), (.pick (.t 16) (.t 19) (.k (.v (.bool false))))⟩, ⟨none, (some 2), (.mv (.t 20))⟩]
/-- loop.example/g00884/spec.l16Grant -/
def c_s_l16Grant : C := (.seq (.reg r_s_l16Grant_0 [1]) (.seq (.reg r_s_l16Grant_1 [2]) .ret))
def k_s_l16Grant : Nat → List Nat
  | 0 => [1]
  | 1 => [2]
  | _ => []
theorem fn_s_l16Grant : FnC Tryz.prog n_s_l16Grant c_s_l16Grant [(.tmp 2)] 21 :=
  ⟨Tryz.f24, _, k_s_l16Grant, Tryz.func24, rfl, by kernel_rfl, by kernel_rfl, by kernel_rfl, rfl⟩
def r_s_l16Good_0 : List CO := [⟨none, (some 1), (.box 1 (.t 0))⟩, ⟨none, (some 2), (.mv (.k (.v (.bool false))))⟩]
def r_s_l16Good_1 : List CO := [⟨none, (some 5), (.faddr 0 (.t 1))⟩, ⟨none, (some 6), (.ld false 1 (.t 5))⟩, ⟨none, (some 7), (.len false (.t 6))⟩, ⟨none, (some 8), (.bin .gtr .none (.t 7) (.k (.v (.int .i64 (12)))))⟩]
def r_s_l16Good_2 : List CO := [⟨none, (some 2), (.mv (.k (.v (.bool false))))⟩]
def r_s_l16Good_3 : List CO := [⟨none, (some 3), (.mv (.k (.v (.int .i64 (0)))))⟩]
def r_s_l16Good_4 : List CO := [⟨none, (some 9), (.mv (.t 3))⟩, ⟨none, (some 10), (.faddr 0 (.t 1))⟩, ⟨none, (some 11), (.ld false 1 (.t 10))⟩, ⟨none, (some 12), (.len false (.t 11))⟩, ⟨none, (some 13), (.bin .lss .none (.t 9) (.t 12))⟩]
def r_s_l16Good_5 : List CO := [⟨none, (some 16), (.faddr 0 (.t 1))⟩, ⟨none, (some 17), (.ld false 1 (.t 16))⟩, ⟨none, (some 18), (.mv (.t 3))⟩, ⟨none, (some 19), (.iaddr 18 (.t 17) (.t 18))⟩, ⟨none, (some 20), (.ld true 18 (.t 19))⟩, ⟨none, (some 21), (.call n_s_l16Grant [(.t 20)])⟩, ⟨none, (some 22), (.un .not (.t 21))⟩, ⟨none, (some 23), (.mv (.t 22))⟩, ⟨(some (23, false)), (some 24), (.mv (.t 3))⟩, ⟨(some (23, false)), (some 25), (.bin .gtr .none (.t 24) (.k (.v (.int .i64 (0)))))⟩, ⟨(some (23, false)), (some 26), (.mv (.t 25))⟩, ⟨(some (26, true)), (some 27), (.faddr 0 (.t 1))⟩, ⟨(some (26, true)), (some 28), (.ld false 1 (.t 27))⟩, ⟨(some (26, true)), (some 29), (.mv (.t 3))⟩, ⟨(some (26, true)), (some 30), (.bin .sub .none (.t 29) (.k (.v (.int .i64 (1)))))⟩, ⟨(some (26, true)), (some 31), (.iaddr 18 (.t 28) (.t 30))⟩, ⟨(some (26, true)), (some 32), (.faddr 0 (.t 31))⟩, ⟨(some (26, true)), (some 33), (.ld false 1 (.t 32))⟩, ⟨(some (26, true)), (some 34), (.faddr 0 (.t 1))⟩, ⟨(some (26, true)), (some 35), (.ld false 1 (.t 34))⟩, ⟨(some (26, true)), (some 36), (.mv (.t 3))⟩, ⟨(some (26, true)), (some 37), (.iaddr 18 (.t 35) (.t 36))⟩, ⟨(some (26, true)), (some 38), (.faddr 0 (.t 37))⟩, ⟨(some (26, true)), (some 39), (.ld false 1 (.t 38))⟩, ⟨(some (26, true)), (some 40), (.bin .geq .none (.t 33) (.t 39))⟩, ⟨(some (26, true)), (some 41), (.mv (.t 40))⟩, ⟨(some (41, false)), (some 42), (.faddr 0 (.t 1))⟩, ⟨(some (41, false)), (some 43), (.ld false 1 (.t 42))⟩, ⟨(some (41, false)), (some 44), (.mv (.t 3))⟩, ⟨(some (41, false)), (some 45), (.bin .sub .none (.t 44) (.k (.v (.int .i64 (1)))))⟩, ⟨(some (41, false)), (some 46), (.iaddr 18 (.t 43) (.t 45))⟩, ⟨(some (41, false)), (some 47), (.faddr 2 (.t 46))⟩, ⟨(some (41, false)), (some 48), (.ld false 1 (.t 47))⟩, ⟨(some (41, false)), (some 49), (.faddr 0 (.t 1))⟩, ⟨(some (41, false)), (some 50), (.ld false 1 (.t 49))⟩, ⟨(some (41, false)), (some 51), (.mv (.t 3))⟩, ⟨(some (41, false)), (some 52), (.iaddr 18 (.t 50) (.t 51))⟩, ⟨(some (41, false)), (some 53), (.faddr 2 (.t 52))⟩, ⟨(some (41, false)), (some 54), (.ld false 1 (.t 53))⟩, ⟨(some (41, false)), (some 55), (.bin .gtr .none (.t 48) (.t 54))⟩, ⟨(some (26, true)), (some 56), (.pick (.t 41) (.k (.v (.bool true))) (.t 55))⟩, ⟨(some (23, false)), (some 57), (.pick (.t 26) (.t 56) (.k (.v (.bool false))))⟩, ⟨none, (some 58), (.pick (.t 23) (.k (.v (.bool true))) (.t 57))⟩]
def p_s_l16Good_5 : List (List Nat) := [[], [0], [], [0, 1, 2], [0, 1, 2, 3], [0, 1, 2, 3, 4], [0, 1, 2, 3, 4, 5], [0, 1, 2, 3, 4, 5, 6], [0, 1, 2, 3, 4, 5, 6, 7], [0, 1, 2, 3, 4, 5, 6, 7, 8], [0, 1, 2, 3, 4, 5, 6, 7, 8, 9], [0, 1, 2, 3, 4, 5, 6, 7, 8, 9, 10], [0, 1, 2, 3, 4, 5, 6, 7, 8, 9, 10, 11], [0, 1, 2, 3, 4, 5, 6, 7, 8, 9, 10], [0, 1, 2, 3, 4, 5, 6, 7, 8, 9, 10, 13], [0, 1, 2, 3, 4, 5, 6, 7, 8, 9, 10, 11, 12, 13, 14], [0, 1, 2, 3, 4, 5, 6, 7, 8, 9, 10, 11, 12, 13, 14, 15], [0, 1, 2, 3, 4, 5, 6, 7, 8, 9, 10, 11, 12, 13, 14, 15, 16], [0, 1, 2, 3, 4, 5, 6, 7, 8, 9, 10], [0, 1, 2, 3, 4, 5, 6, 7, 8, 9, 10, 18], [0, 1, 2, 3, 4, 5, 6, 7, 8, 9, 10], [0, 1, 2, 3, 4, 5, 6, 7, 8, 9, 10, 18, 19, 20], [0, 1, 2, 3, 4, 5, 6, 7, 8, 9, 10, 18, 19, 20, 21], [0, 1, 2, 3, 4, 5, 6, 7, 8, 9, 10, 18, 19, 20, 21, 22], [0, 1, 2, 3, 4, 5, 6, 7, 8, 9, 10, 11, 12, 13, 14, 15, 16, 17, 18, 19, 20, 21, 22, 23], [0, 1, 2, 3, 4, 5, 6, 7, 8, 9, 10, 11, 12, 13, 14, 15, 16, 17, 18, 19, 20, 21, 22, 23, 24], [0, 1, 2, 3, 4, 5, 6, 7, 8, 9, 10, 11, 12, 13, 14, 15, 16, 17, 18, 19, 20, 21, 22, 23, 24, 25], [0, 1, 2, 3, 4, 5, 6, 7, 8, 9, 10, 11, 12, 13, 14, 15, 16, 17, 18, 19, 20, 21, 22, 23, 24, 25, 26], [0, 1, 2, 3, 4, 5, 6, 7, 8, 9, 10, 11, 12, 13, 14, 15, 16, 17, 18, 19, 20, 21, 22, 23, 24, 25], [0, 1, 2, 3, 4, 5, 6, 7, 8, 9, 10, 11, 12, 13, 14, 15, 16, 17, 18, 19, 20, 21, 22, 23, 24, 25, 28], [0, 1, 2, 3, 4, 5, 6, 7, 8, 9, 10, 11, 12, 13, 14, 15, 16, 17, 18, 19, 20, 21, 22, 23, 24, 25, 26, 27, 28, 29], [0, 1, 2, 3, 4, 5, 6, 7, 8, 9, 10, 11, 12, 13, 14, 15, 16, 17, 18, 19, 20, 21, 22, 23, 24, 25, 26, 27, 28, 29, 30], [0, 1, 2, 3, 4, 5, 6, 7, 8, 9, 10, 11, 12, 13, 14, 15, 16, 17, 18, 19, 20, 21, 22, 23, 24, 25, 26, 27, 28, 29, 30, 31], [0, 1, 2, 3, 4, 5, 6, 7, 8, 9, 10, 11, 12, 13, 14, 15, 16, 17, 18, 19, 20, 21, 22, 23, 24, 25], [0, 1, 2, 3, 4, 5, 6, 7, 8, 9, 10, 11, 12, 13, 14, 15, 16, 17, 18, 19, 20, 21, 22, 23, 24, 25, 33], [0, 1, 2, 3, 4, 5, 6, 7, 8, 9, 10, 11, 12, 13, 14, 15, 16, 17, 18, 19, 20, 21, 22, 23, 24, 25], [0, 1, 2, 3, 4, 5, 6, 7, 8, 9, 10, 11, 12, 13, 14, 15, 16, 17, 18, 19, 20, 21, 22, 23, 24, 25, 33, 34, 35], [0, 1, 2, 3, 4, 5, 6, 7, 8, 9, 10, 11, 12, 13, 14, 15, 16, 17, 18, 19, 20, 21, 22, 23, 24, 25, 33, 34, 35, 36], [0, 1, 2, 3, 4, 5, 6, 7, 8, 9, 10, 11, 12, 13, 14, 15, 16, 17, 18, 19, 20, 21, 22, 23, 24, 25, 33, 34, 35, 36, 37], [0, 1, 2, 3, 4, 5, 6, 7, 8, 9, 10, 11, 12, 13, 14, 15, 16, 17, 18, 19, 20, 21, 22, 23, 24, 25, 26, 27, 28, 29, 30, 31, 32, 33, 34, 35, 36, 37, 38], [0, 1, 2, 3, 4, 5, 6, 7, 8, 9, 10, 11, 12, 13, 14, 15, 16, 17, 18, 19, 20, 21, 22, 23, 24, 25, 26, 27, 28, 29, 30, 31, 32, 33, 34, 35, 36, 37, 38, 39], [0, 1, 2, 3, 4, 5, 6, 7, 8, 9, 10, 11, 12, 13, 14, 15, 16, 17, 18, 19, 20, 21, 22, 23, 24, 25, 26, 27, 28, 29, 30, 31, 32, 33, 34, 35, 36, 37, 38, 39, 40], [0, 1, 2, 3, 4, 5, 6, 7, 8, 9, 10, 11, 12, 13, 14, 15, 16, 17, 18, 19, 20, 21, 22, 23, 24, 25, 26, 27, 28, 29, 30, 31, 32, 33, 34, 35, 36, 37, 38, 39, 40, 41]]
def r_s_l16Good_6 : List CO := [⟨none, (some 2), (.mv (.k (.v (.bool false))))⟩]
def r_s_l16Good_7 : List CO := [⟨none, (some 4), (.mv (.k (.v (.int .i64 (0)))))⟩]
def r_s_l16Good_8 : List CO := [⟨none, (some 59), (.mv (.t 4))⟩, ⟨none, (some 60), (.mv (.t 3))⟩, ⟨none, (some 61), (.bin .lss .none (.t 59) (.t 60))⟩]
def r_s_l16Good_9 : List CO := [⟨none, (some 64), (.faddr 0 (.t 1))⟩, ⟨none, (some 65), (.ld false 1 (.t 64))⟩, ⟨none, (some 66), (.mv (.t 4))⟩, ⟨none, (some 67), (.iaddr 18 (.t 65) (.t 66))⟩, ⟨none, (some 68), (.faddr 3 (.t 67))⟩, ⟨none, (some 69), (.ld true 15 (.t 68))⟩, ⟨none, (some 70), (.faddr 0 (.t 1))⟩, ⟨none, (some 71), (.ld false 1 (.t 70))⟩, ⟨none, (some 72), (.mv (.t 3))⟩, ⟨none, (some 73), (.iaddr 18 (.t 71) (.t 72))⟩, ⟨none, (some 74), (.faddr 3 (.t 73))⟩, ⟨none, (some 75), (.ld true 15 (.t 74))⟩, ⟨none, (some 76), (.call n_s_l15Conflict [(.t 69), (.t 75)])⟩]
def p_s_l16Good_9 : List (List Nat) := [[], [0], [], [0, 1, 2], [0, 1, 2, 3], [0, 1, 2, 3, 4], [], [6], [], [6, 7, 8], [6, 7, 8, 9], [6, 7, 8, 9, 10], [0, 1, 2, 3, 4, 5, 6, 7, 8, 9, 10, 11]]
def r_s_l16Good_10 : List CO := [⟨none, (some 2), (.mv (.k (.v (.bool false))))⟩]
def r_s_l16Good_11 : List CO := [⟨none, (some 62), (.mv (.t 4))⟩, ⟨none, (some 63), (.bin .add .none (.t 62) (.k (.v (.int .i64 (1)))))⟩, ⟨none, (some 4), (.mv (.t 63))⟩]
def l_s_l16Good_12 : C := (.seq (.seq (.reg r_s_l16Good_8 [1, 3, 4, 61]) (.cond (.t 61) .skip (.exit 2))) (.seq (.block 3 (.seq (.regD r_s_l16Good_9 p_s_l16Good_9 [1, 3, 4, 76]) (.cond (.t 76) (.seq (.reg r_s_l16Good_10 [2]) .ret) .skip))) (.reg r_s_l16Good_11 [1, 3, 4])))
def r_s_l16Good_13 : List CO := [⟨none, (some 14), (.mv (.t 3))⟩, ⟨none, (some 15), (.bin .add .none (.t 14) (.k (.v (.int .i64 (1)))))⟩, ⟨none, (some 3), (.mv (.t 15))⟩]
def l_s_l16Good_14 : C := (.seq (.seq (.reg r_s_l16Good_4 [1, 3, 13]) (.cond (.t 13) .skip (.exit 0))) (.seq (.block 1 (.seq (.seq (.regD r_s_l16Good_5 p_s_l16Good_5 [1, 3, 58]) (.cond (.t 58) (.seq (.reg r_s_l16Good_6 [2]) .ret) .skip)) (.seq (.reg r_s_l16Good_7 [1, 3, 4]) (.block 2 (.loop l_s_l16Good_12))))) (.reg r_s_l16Good_13 [1, 3])))
def r_s_l16Good_15 : List CO := [⟨none, (some 2), (.mv (.k (.v (.bool true))))⟩]
/-- loop.example/g00884/spec.l16Good -/
def c_s_l16Good : C := (.seq (.reg r_s_l16Good_0 [1]) (.seq (.seq (.reg r_s_l16Good_1 [1, 8]) (.cond (.t 8) (.seq (.reg r_s_l16Good_2 [2]) .ret) .skip)) (.seq (.seq (.reg r_s_l16Good_3 [1, 3]) (.block 0 (.loop l_s_l16Good_14))) (.seq (.reg r_s_l16Good_15 [2]) .ret))))
def k_s_l16Good : Nat → List Nat
  | 0 => [1]
  | 1 => [1, 8]
  | 2 => [2]
  | 3 => [1, 3]
  | 4 => [1, 3, 13]
  | 6 => [1, 3, 58]
  | 7 => [2]
  | 8 => [1, 3, 4]
  | 9 => [1, 3, 4, 61]
  | 11 => [1, 3, 4, 76]
  | 12 => [2]
  | 10 => [1, 3, 4]
  | 5 => [1, 3]
  | 13 => [2]
  | _ => []
theorem fn_s_l16Good : FnC Tryz.prog n_s_l16Good c_s_l16Good [(.tmp 2)] 77 :=
  ⟨Tryz.f14, _, k_s_l16Good, Tryz.func14, rfl, by kernel_rfl, by kernel_rfl, by kernel_rfl, rfl⟩
def r_slices_IndexFunc_i_Grant_i_Grant_0 : List CO := [⟨none, (some 4), (.mv (.k (.v (.int .i64 (0)))))⟩]
def r_slices_IndexFunc_i_Grant_i_Grant_1 : List CO := [⟨none, (some 6), (.mv (.t 0))⟩, ⟨none, (some 7), (.len false (.t 6))⟩, ⟨none, (some 8), (.mv (.k (.v (.int .i64 (0)))))⟩]
def r_slices_IndexFunc_i_Grant_i_Grant_2 : List CO := [⟨none, (some 9), (.bin .lss .none (.t 8) (.t 7))⟩]
def r_slices_IndexFunc_i_Grant_i_Grant_3 : List CO := [⟨none, (some 10), (.mv (.t 8))⟩, ⟨none, (some 5), (.mv (.t 10))⟩]
def r_slices_IndexFunc_i_Grant_i_Grant_4 : List CO := [⟨none, (some 11), (.mv (.t 1))⟩, ⟨none, (some 12), (.mv (.t 0))⟩, ⟨none, (some 13), (.mv (.t 5))⟩, ⟨none, (some 14), (.iaddr 18 (.t 12) (.t 13))⟩, ⟨none, (some 15), (.ld true 18 (.t 14))⟩, ⟨none, (some 16), (.callv (.t 11) [(.t 15)])⟩]
def r_slices_IndexFunc_i_Grant_i_Grant_5 : List CO := [⟨none, (some 17), (.mv (.t 5))⟩, ⟨none, (some 4), (.mv (.t 17))⟩]
def r_slices_IndexFunc_i_Grant_i_Grant_6 : List CO := [⟨none, (some 18), (.bin .add .none (.t 8) (.k (.v (.int .i64 (1)))))⟩, ⟨none, (some 8), (.mv (.t 18))⟩]
def l_slices_IndexFunc_i_Grant_i_Grant_7 : C := (.seq (.reg r_slices_IndexFunc_i_Grant_i_Grant_2 [0, 1, 7, 8, 9]) (.seq (.cond (.t 9) .skip (.exit 0)) (.seq (.block 1 (.seq (.reg r_slices_IndexFunc_i_Grant_i_Grant_3 [0, 1, 5, 7, 8]) (.seq (.reg r_slices_IndexFunc_i_Grant_i_Grant_4 [0, 1, 5, 7, 8, 16]) (.cond (.t 16) (.seq (.reg r_slices_IndexFunc_i_Grant_i_Grant_5 [4]) .ret) .skip)))) (.reg r_slices_IndexFunc_i_Grant_i_Grant_6 [0, 1, 7, 8]))))
def r_slices_IndexFunc_i_Grant_i_Grant_8 : List CO := [⟨none, (some 4), (.mv (.k (.v (.int .i64 (-1)))))⟩]
/-- slices.IndexFunc[[]loop.example/g00884/impl.Grant,loop.example/g00884/impl.Grant] -/
def c_slices_IndexFunc_i_Grant_i_Grant : C := (.seq (.reg r_slices_IndexFunc_i_Grant_i_Grant_0 [0, 1]) (.seq (.seq (.reg r_slices_IndexFunc_i_Grant_i_Grant_1 [0, 1, 7, 8]) (.block 0 (.loop l_slices_IndexFunc_i_Grant_i_Grant_7))) (.seq (.reg r_slices_IndexFunc_i_Grant_i_Grant_8 [4]) .ret)))
def k_slices_IndexFunc_i_Grant_i_Grant : Nat → List Nat
  | 0 => [0, 1]
  | 1 => [0, 1, 7, 8]
  | 2 => [0, 1, 7, 8, 9]
  | 3 => [0, 1, 5, 7, 8]
  | 4 => [0, 1, 5, 7, 8, 16]
  | 5 => [4]
  | 6 => [0, 1, 7, 8]
  | 7 => [4]
  | _ => []
theorem fn_slices_IndexFunc_i_Grant_i_Grant : FnC Tryz.prog n_slices_IndexFunc_i_Grant_i_Grant c_slices_IndexFunc_i_Grant_i_Grant [(.tmp 4)] 19 :=
  ⟨Tryz.f49, _, k_slices_IndexFunc_i_Grant_i_Grant, Tryz.func49, rfl, by kernel_rfl, by kernel_rfl, by kernel_rfl, rfl⟩
def r_slices_ContainsFunc_i_Grant_i_Grant_0 : List CO := [⟨none, (some 4), (.mv (.k (.v (.bool false))))⟩]
def r_slices_ContainsFunc_i_Grant_i_Grant_1 : List CO := [⟨none, (some 5), (.mv (.t 0))⟩, ⟨none, (some 6), (.mv (.t 1))⟩, ⟨none, (some 7), (.call n_slices_IndexFunc_i_Grant_i_Grant [(.t 5), (.t 6)])⟩, ⟨none, (some 8), (.bin .geq .none (.t 7) (.k (.v (.int .i64 (0)))))⟩, ⟨none, (some 4), (.mv (.t 8))⟩]
/-- slices.ContainsFunc[[]loop.example/g00884/impl.Grant,loop.example/g00884/impl.Grant] -/
def c_slices_ContainsFunc_i_Grant_i_Grant : C := (.seq (.reg r_slices_ContainsFunc_i_Grant_i_Grant_0 [0, 1]) (.seq (.reg r_slices_ContainsFunc_i_Grant_i_Grant_1 [4]) .ret))
def k_slices_ContainsFunc_i_Grant_i_Grant : Nat → List Nat
  | 0 => [0, 1]
  | 1 => [4]
  | _ => []
theorem fn_slices_ContainsFunc_i_Grant_i_Grant : FnC Tryz.prog n_slices_ContainsFunc_i_Grant_i_Grant c_slices_ContainsFunc_i_Grant_i_Grant [(.tmp 4)] 9 :=
  ⟨Tryz.f31, _, k_slices_ContainsFunc_i_Grant_i_Grant, Tryz.func31, rfl, by kernel_rfl, by kernel_rfl, by kernel_rfl, rfl⟩
def r_i_IsValidRegister_1_0 : List CO := [⟨none, (some 2), (.box 18 (.t 0))⟩, ⟨none, (some 3), (.mv (.k (.v (.bool false))))⟩]
def r_i_IsValidRegister_1_1 : List CO := [⟨none, (some 4), (.faddr 3 (.t 2))⟩, ⟨none, (some 5), (.ld true 15 (.t 4))⟩, ⟨none, (some 6), (.faddr 3 (.t 1))⟩, ⟨none, (some 7), (.ld true 15 (.t 6))⟩, ⟨none, (some 8), (.call n_i_conflict [(.t 5), (.t 7)])⟩, ⟨none, (some 3), (.mv (.t 8))⟩]
/-- loop.example/g00884/impl.IsValidRegister$1 -/
def c_i_IsValidRegister_1 : C := (.seq (.reg r_i_IsValidRegister_1_0 [1, 2]) (.seq (.reg r_i_IsValidRegister_1_1 [3]) .ret))
def k_i_IsValidRegister_1 : Nat → List Nat
  | 0 => [1, 2]
  | 1 => [3]
  | _ => []
theorem fn_i_IsValidRegister_1 : FnC Tryz.prog n_i_IsValidRegister_1 c_i_IsValidRegister_1 [(.tmp 3)] 9 :=
  ⟨Tryz.f32, _, k_i_IsValidRegister_1, Tryz.func32, rfl, by kernel_rfl, by kernel_rfl, by kernel_rfl, rfl⟩
def r_i_IsValidRegister_0 : List CO := [⟨none, (some 1), (.box 1 (.t 0))⟩, ⟨none, (some 2), (.mv (.k (.v (.bool false))))⟩]
def r_i_IsValidRegister_1 : List CO := [⟨none, (some 5), (.faddr 0 (.t 1))⟩, ⟨none, (some 6), (.ld false 1 (.t 5))⟩, ⟨none, (some 7), (.len false (.t 6))⟩, ⟨none, (some 8), (.mv (.k (.v (.int .i64 (0)))))⟩]
def r_i_IsValidRegister_2 : List CO := [⟨none, (some 9), (.bin .lss .none (.t 8) (.t 7))⟩]
def r_i_IsValidRegister_3 : List CO := [⟨none, (some 10), (.mv (.t 8))⟩, ⟨none, (some 11), (.iaddr 18 (.t 6) (.t 8))⟩, ⟨none, (some 12), (.ld true 18 (.t 11))⟩, ⟨none, (some 4), (.box 18 (.k (.agg [(.v (.int .i64 (0))), (.v (.string (bs []))), (.v (.int .i64 (0))), (.v (.int .i64 (0))), (.v (.int .i64 (0))), (.v (.int .i64 (0))), (.v (.int .i64 (0))), (.v (.int .i64 (0))), (.v (.int .i64 (0))), (.v (.int .i64 (0))), (.v (.int .i64 (0))), (.v (.int .i64 (0))), (.v (.int .i64 (0))), (.v (.int .i64 (0))), (.v (.int .i64 (0))), (.v (.int .i64 (0))), (.v (.int .i64 (0))), (.v (.int .i64 (0)))])))⟩, ⟨none, (some 3), (.mv (.t 10))⟩, ⟨none, none, (.st 18 (.t 4) (.t 12))⟩]
def r_i_IsValidRegister_4 : List CO := [⟨none, (some 13), (.faddr 0 (.t 4))⟩, ⟨none, (some 14), (.ld false 1 (.t 13))⟩, ⟨none, (some 15), (.call n_i_inside [(.t 14), (.k (.v (.int .i64 (1)))), (.k (.v (.int .i64 (999))))])⟩, ⟨none, (some 16), (.un .not (.t 15))⟩, ⟨none, (some 17), (.mv (.t 16))⟩, ⟨(some (17, false)), (some 18), (.faddr 1 (.t 4))⟩, ⟨(some (17, false)), (some 19), (.ld false 1 (.t 18))⟩, ⟨(some (17, false)), (some 20), (.call n_i_isName [(.t 19)])⟩, ⟨(some (17, false)), (some 21), (.un .not (.t 20))⟩, ⟨none, (some 22), (.pick (.t 17) (.k (.v (.bool true))) (.t 21))⟩, ⟨none, (some 23), (.mv (.t 22))⟩, ⟨(some (23, false)), (some 24), (.faddr 2 (.t 4))⟩, ⟨(some (23, false)), (some 25), (.ld false 1 (.t 24))⟩, ⟨(some (23, false)), (some 26), (.call n_i_inside [(.t 25), (.k (.v (.int .i64 (1000)))), (.k (.v (.int .i64 (2999))))])⟩, ⟨(some (23, false)), (some 27), (.un .not (.t 26))⟩, ⟨none, (some 28), (.pick (.t 23) (.k (.v (.bool true))) (.t 27))⟩, ⟨none, (some 29), (.mv (.t 28))⟩, ⟨(some (29, false)), (some 30), (.faddr 3 (.t 4))⟩, ⟨(some (29, false)), (some 31), (.ld true 15 (.t 30))⟩, ⟨(some (29, false)), (some 32), (.call n_i_IsValidArms [(.t 31)])⟩, ⟨(some (29, false)), (some 33), (.un .not (.t 32))⟩, ⟨none, (some 34), (.pick (.t 29) (.k (.v (.bool true))) (.t 33))⟩]
def r_i_IsValidRegister_5 : List CO := [⟨none, (some 2), (.mv (.k (.v (.bool false))))⟩]
def r_i_IsValidRegister_6 : List CO := [⟨none, (some 35), (.mv (.t 3))⟩, ⟨none, (some 36), (.bin .gtr .none (.t 35) (.k (.v (.int .i64 (0)))))⟩, ⟨none, (some 37), (.mv (.t 36))⟩, ⟨(some (37, true)), (some 38), (.faddr 0 (.t 1))⟩, ⟨(some (37, true)), (some 39), (.ld false 1 (.t 38))⟩, ⟨(some (37, true)), (some 40), (.mv (.t 3))⟩, ⟨(some (37, true)), (some 41), (.bin .sub .none (.t 40) (.k (.v (.int .i64 (1)))))⟩, ⟨(some (37, true)), (some 42), (.iaddr 18 (.t 39) (.t 41))⟩, ⟨(some (37, true)), (some 43), (.faddr 0 (.t 42))⟩, ⟨(some (37, true)), (some 44), (.ld false 1 (.t 43))⟩, ⟨(some (37, true)), (some 45), (.faddr 0 (.t 4))⟩, ⟨(some (37, true)), (some 46), (.ld false 1 (.t 45))⟩, ⟨(some (37, true)), (some 47), (.bin .geq .none (.t 44) (.t 46))⟩, ⟨(some (37, true)), (some 48), (.mv (.t 47))⟩, ⟨(some (48, false)), (some 49), (.faddr 0 (.t 1))⟩, ⟨(some (48, false)), (some 50), (.ld false 1 (.t 49))⟩, ⟨(some (48, false)), (some 51), (.mv (.t 3))⟩, ⟨(some (48, false)), (some 52), (.bin .sub .none (.t 51) (.k (.v (.int .i64 (1)))))⟩, ⟨(some (48, false)), (some 53), (.iaddr 18 (.t 50) (.t 52))⟩, ⟨(some (48, false)), (some 54), (.faddr 2 (.t 53))⟩, ⟨(some (48, false)), (some 55), (.ld false 1 (.t 54))⟩, ⟨(some (48, false)), (some 56), (.faddr 2 (.t 4))⟩, ⟨(some (48, false)), (some 57), (.ld false 1 (.t 56))⟩, ⟨(some (48, false)), (some 58), (.bin .gtr .none (.t 55) (.t 57))⟩, ⟨(some (37, true)), (some 59), (.pick (.t 48) (.k (.v (.bool true))) (.t 58))⟩, ⟨none, (some 60), (.pick (.t 37) (.t 59) (.k (.v (.bool false))))⟩]
def p_i_IsValidRegister_6 : List (List Nat) := [[], [0], [0, 1], [0, 1, 2], [0, 1, 2, 3], [0, 1, 2], [0, 1, 2, 5], [0, 1, 2, 3, 4, 5, 6], [0, 1, 2, 3, 4, 5, 6, 7], [0, 1, 2, 3, 4, 5, 6, 7, 8], [0, 1, 2], [0, 1, 2, 10], [0, 1, 2, 3, 4, 5, 6, 7, 8, 9, 10, 11], [0, 1, 2, 3, 4, 5, 6, 7, 8, 9, 10, 11, 12], [0, 1, 2, 3, 4, 5, 6, 7, 8, 9, 10, 11, 12, 13], [0, 1, 2, 3, 4, 5, 6, 7, 8, 9, 10, 11, 12, 13, 14], [0, 1, 2, 3, 4, 5, 6, 7, 8, 9, 10, 11, 12, 13], [0, 1, 2, 3, 4, 5, 6, 7, 8, 9, 10, 11, 12, 13, 16], [0, 1, 2, 3, 4, 5, 6, 7, 8, 9, 10, 11, 12, 13, 14, 15, 16, 17], [0, 1, 2, 3, 4, 5, 6, 7, 8, 9, 10, 11, 12, 13, 14, 15, 16, 17, 18], [0, 1, 2, 3, 4, 5, 6, 7, 8, 9, 10, 11, 12, 13, 14, 15, 16, 17, 18, 19], [0, 1, 2, 3, 4, 5, 6, 7, 8, 9, 10, 11, 12, 13], [0, 1, 2, 3, 4, 5, 6, 7, 8, 9, 10, 11, 12, 13, 21], [0, 1, 2, 3, 4, 5, 6, 7, 8, 9, 10, 11, 12, 13, 14, 15, 16, 17, 18, 19, 20, 21, 22], [0, 1, 2, 3, 4, 5, 6, 7, 8, 9, 10, 11, 12, 13, 14, 15, 16, 17, 18, 19, 20, 21, 22, 23], [0, 1, 2, 3, 4, 5, 6, 7, 8, 9, 10, 11, 12, 13, 14, 15, 16, 17, 18, 19, 20, 21, 22, 23, 24]]
def r_i_IsValidRegister_7 : List CO := [⟨none, (some 2), (.mv (.k (.v (.bool false))))⟩]
def r_i_IsValidRegister_8 : List CO := [⟨none, (some 61), (.faddr 0 (.t 1))⟩, ⟨none, (some 62), (.ld false 1 (.t 61))⟩, ⟨none, (some 63), (.mv (.t 3))⟩, ⟨none, (some 64), (.slc (some 18) (.t 62) none (some (.t 63)))⟩, ⟨none, (some 65), (.clo n_i_IsValidRegister_1 [(.t 4)])⟩, ⟨none, (some 66), (.call n_slices_ContainsFunc_i_Grant_i_Grant [(.t 64), (.t 65)])⟩]
def r_i_IsValidRegister_9 : List CO := [⟨none, (some 2), (.mv (.k (.v (.bool false))))⟩]
def r_i_IsValidRegister_10 : List CO := [⟨none, (some 67), (.bin .add .none (.t 8) (.k (.v (.int .i64 (1)))))⟩, ⟨none, (some 8), (.mv (.t 67))⟩]
def l_i_IsValidRegister_11 : C := (.seq (.reg r_i_IsValidRegister_2 [1, 6, 7, 8, 9]) (.seq (.cond (.t 9) .skip (.exit 0)) (.seq (.block 1 (.seq (.reg r_i_IsValidRegister_3 [1, 3, 4, 6, 7, 8]) (.seq (.seq (.reg r_i_IsValidRegister_4 [1, 3, 4, 6, 7, 8, 34]) (.cond (.t 34) (.seq (.reg r_i_IsValidRegister_5 [2]) .ret) .skip)) (.seq (.seq (.regD r_i_IsValidRegister_6 p_i_IsValidRegister_6 [1, 3, 4, 6, 7, 8, 60]) (.cond (.t 60) (.seq (.reg r_i_IsValidRegister_7 [2]) .ret) .skip)) (.seq (.reg r_i_IsValidRegister_8 [1, 6, 7, 8, 66]) (.cond (.t 66) (.seq (.reg r_i_IsValidRegister_9 [2]) .ret) .skip)))))) (.reg r_i_IsValidRegister_10 [1, 6, 7, 8]))))
def r_i_IsValidRegister_12 : List CO := [⟨none, (some 68), (.faddr 0 (.t 1))⟩, ⟨none, (some 69), (.ld false 1 (.t 68))⟩, ⟨none, (some 70), (.len false (.t 69))⟩, ⟨none, (some 71), (.bin .leq .none (.t 70) (.k (.v (.int .i64 (12)))))⟩, ⟨none, (some 2), (.mv (.t 71))⟩]
/-- loop.example/g00884/impl.IsValidRegister -/
def c_i_IsValidRegister : C := (.seq (.reg r_i_IsValidRegister_0 [1]) (.seq (.seq (.reg r_i_IsValidRegister_1 [1, 6, 7, 8]) (.block 0 (.loop l_i_IsValidRegister_11))) (.seq (.reg r_i_IsValidRegister_12 [2]) .ret)))
def k_i_IsValidRegister : Nat → List Nat
  | 0 => [1]
  | 1 => [1, 6, 7, 8]
  | 2 => [1, 6, 7, 8, 9]
  | 3 => [1, 3, 4, 6, 7, 8]
  | 4 => [1, 3, 4, 6, 7, 8, 34]
  | 5 => [2]
  | 6 => [1, 3, 4, 6, 7, 8, 60]
  | 7 => [2]
  | 8 => [1, 6, 7, 8, 66]
  | 9 => [2]
  | 10 => [1, 6, 7, 8]
  | 11 => [2]
  | _ => []
theorem fn_i_IsValidRegister : FnC Tryz.prog n_i_IsValidRegister c_i_IsValidRegister [(.tmp 2)] 72 :=
  ⟨Tryz.f18, _, k_i_IsValidRegister, Tryz.func18, rfl, by kernel_rfl, by kernel_rfl, by kernel_rfl, rfl⟩
end Go.Proofs.YtbeoijlggphklaaGreat
