/- Parts of the proof, merged: CodeWPageOf, WPageOf. -/
import Derived.Test.YtbeoijlggphklaaGreatDoorQ3
/- The compact code of the functions, and that it is theirs: written by a program of this claim. -/
namespace Go.Proofs.YtbeoijlggphklaaGreatDoor
open Go.Abs
set_option maxRecDepth 100000
def r_i_PageOf_0 : List CO := [⟨none, (some 3), (.box 1 (.t 0))⟩, ⟨none, (some 4), (.box 3 (.t 1))⟩, ⟨none, (some 6), (.mv (.k (.v (.int .i64 (0)))))⟩, ⟨none, (some 7), (.mv (.k (.v (.bool false))))⟩]
def r_i_PageOf_1 : List CO := [⟨none, (some 14), (.ld true 1 (.t 3))⟩, ⟨none, (some 15), (.ld true 3 (.t 4))⟩, ⟨none, (some 16), (.call n_i_paged [(.t 14), (.t 15)])⟩, ⟨none, (some 13), (.mv (.t 16))⟩, ⟨none, (some 17), (.ext (.t 13) 0)⟩, ⟨none, (some 18), (.ext (.t 13) 1)⟩, ⟨none, (some 19), (.ext (.t 13) 2)⟩, ⟨none, (some 8), (.mv (.t 17))⟩, ⟨none, (some 9), (.mv (.t 18))⟩, ⟨none, (some 10), (.mv (.t 19))⟩]
def r_i_PageOf_2 : List CO := [⟨none, (some 20), (.mv (.t 10))⟩, ⟨none, (some 21), (.un .not (.t 20))⟩]
def r_i_PageOf_3 : List CO := [⟨none, (some 6), (.mv (.k (.v (.int .i64 (0)))))⟩, ⟨none, (some 7), (.mv (.k (.v (.bool false))))⟩]
def r_i_PageOf_4 : List CO := [⟨none, (some 22), (.ld true 1 (.t 3))⟩, ⟨none, (some 23), (.faddr 0 (.t 4))⟩, ⟨none, (some 24), (.ld false 1 (.t 23))⟩, ⟨none, (some 25), (.call n_i_Register_ordered [(.t 22), (.t 24)])⟩, ⟨none, (some 26), (.len false (.t 25))⟩, ⟨none, (some 27), (.mv (.k (.v (.int .i64 (0)))))⟩]
def r_i_PageOf_5 : List CO := [⟨none, (some 28), (.bin .lss .none (.t 27) (.t 26))⟩]
def r_i_PageOf_6 : List CO := [⟨none, (some 29), (.mv (.t 27))⟩, ⟨none, (some 30), (.iaddr 18 (.t 25) (.t 27))⟩, ⟨none, (some 31), (.ld true 18 (.t 30))⟩, ⟨none, (some 12), (.box 18 (.k (.agg [(.v (.int .i64 (0))), (.v (.string (bs []))), (.v (.int .i64 (0))), (.v (.int .i64 (0))), (.v (.int .i64 (0))), (.v (.int .i64 (0))), (.v (.int .i64 (0))), (.v (.int .i64 (0))), (.v (.int .i64 (0))), (.v (.int .i64 (0))), (.v (.int .i64 (0))), (.v (.int .i64 (0))), (.v (.int .i64 (0))), (.v (.int .i64 (0))), (.v (.int .i64 (0))), (.v (.int .i64 (0))), (.v (.int .i64 (0))), (.v (.int .i64 (0)))])))⟩, ⟨none, (some 11), (.mv (.t 29))⟩, ⟨none, none, (.st 18 (.t 12) (.t 31))⟩]
def r_i_PageOf_7 : List CO := [⟨none, (some 32), (.faddr 0 (.t 12))⟩, ⟨none, (some 33), (.ld false 1 (.t 32))⟩, ⟨none, (some 34), (.mv (.t 2))⟩, ⟨none, (some 35), (.bin .eql .none (.t 33) (.t 34))⟩]
def r_i_PageOf_8 : List CO := [⟨none, (some 36), (.mv (.t 9))⟩, ⟨none, (some 37), (.mv (.t 11))⟩, ⟨none, (some 38), (.iaddr 1 (.t 36) (.t 37))⟩, ⟨none, (some 39), (.ld false 1 (.t 38))⟩, ⟨none, (some 6), (.mv (.t 39))⟩, ⟨none, (some 7), (.mv (.k (.v (.bool true))))⟩]
def r_i_PageOf_9 : List CO := [⟨none, (some 40), (.bin .add .none (.t 27) (.k (.v (.int .i64 (1)))))⟩, ⟨none, (some 27), (.mv (.t 40))⟩]
def l_i_PageOf_10 : C := (.seq (.reg r_i_PageOf_5 [2, 9, 25, 26, 27, 28]) (.seq (.cond (.t 28) .skip (.exit 0)) (.seq (.block 1 (.seq (.reg r_i_PageOf_6 [2, 9, 11, 12, 25, 26, 27]) (.seq (.reg r_i_PageOf_7 [2, 9, 11, 25, 26, 27, 35]) (.cond (.t 35) (.seq (.reg r_i_PageOf_8 [6, 7]) .ret) .skip)))) (.reg r_i_PageOf_9 [2, 9, 25, 26, 27]))))
def r_i_PageOf_11 : List CO := [⟨none, (some 6), (.mv (.k (.v (.int .i64 (0)))))⟩, ⟨none, (some 7), (.mv (.k (.v (.bool false))))⟩]
/-- loop.example/g00884/impl.PageOf -/
def c_i_PageOf : C := (.seq (.reg r_i_PageOf_0 [2, 3, 4]) (.seq (.reg r_i_PageOf_1 [2, 3, 4, 9, 10]) (.seq (.seq (.reg r_i_PageOf_2 [2, 3, 4, 9, 21]) (.cond (.t 21) (.seq (.reg r_i_PageOf_3 [6, 7]) .ret) .skip)) (.seq (.seq (.reg r_i_PageOf_4 [2, 9, 25, 26, 27]) (.block 0 (.loop l_i_PageOf_10))) (.seq (.reg r_i_PageOf_11 [6, 7]) .ret)))))
def k_i_PageOf : Nat → List Nat
  | 0 => [2, 3, 4]
  | 1 => [2, 3, 4, 9, 10]
  | 2 => [2, 3, 4, 9, 21]
  | 3 => [6, 7]
  | 4 => [2, 9, 25, 26, 27]
  | 5 => [2, 9, 25, 26, 27, 28]
  | 6 => [2, 9, 11, 12, 25, 26, 27]
  | 7 => [2, 9, 11, 25, 26, 27, 35]
  | 8 => [6, 7]
  | 9 => [2, 9, 25, 26, 27]
  | 10 => [6, 7]
  | _ => []
theorem fn_i_PageOf : FnC Tryz.prog n_i_PageOf c_i_PageOf [(.tmp 6), (.tmp 7)] 41 :=
  ⟨Tryz.f28, _, k_i_PageOf, Tryz.func28, rfl, by kernel_rfl, by kernel_rfl, by kernel_rfl, rfl⟩
def r_s_PageOf_0 : List CO := [⟨none, (some 3), (.box 1 (.t 0))⟩, ⟨none, (some 4), (.box 3 (.t 1))⟩, ⟨none, (some 6), (.mv (.k (.v (.int .i64 (0)))))⟩, ⟨none, (some 7), (.mv (.k (.v (.bool false))))⟩]
def r_s_PageOf_1 : List CO := [⟨none, (some 13), (.ld true 1 (.t 3))⟩, ⟨none, (some 14), (.ld true 3 (.t 4))⟩, ⟨none, (some 15), (.call n_s_l25Asked [(.t 13), (.t 14)])⟩, ⟨none, (some 12), (.mv (.t 15))⟩, ⟨none, (some 16), (.ext (.t 12) 0)⟩, ⟨none, (some 17), (.ext (.t 12) 1)⟩, ⟨none, (some 8), (.mv (.t 16))⟩, ⟨none, (some 9), (.mv (.t 17))⟩]
def r_s_PageOf_2 : List CO := [⟨none, (some 18), (.mv (.t 9))⟩, ⟨none, (some 19), (.un .not (.t 18))⟩]
def r_s_PageOf_3 : List CO := [⟨none, (some 6), (.mv (.k (.v (.int .i64 (0)))))⟩, ⟨none, (some 7), (.mv (.k (.v (.bool false))))⟩]
def r_s_PageOf_4 : List CO := [⟨none, (some 10), (.mv (.k (.v (.int .i64 (0)))))⟩]
def r_s_PageOf_5 : List CO := [⟨none, (some 20), (.mv (.t 10))⟩, ⟨none, (some 21), (.mv (.t 8))⟩, ⟨none, (some 22), (.len false (.t 21))⟩, ⟨none, (some 23), (.bin .lss .none (.t 20) (.t 22))⟩]
def r_s_PageOf_6 : List CO := [⟨none, (some 11), (.mv (.k (.v (.int .i64 (0)))))⟩]
def r_s_PageOf_7 : List CO := [⟨none, (some 26), (.mv (.t 11))⟩, ⟨none, (some 27), (.mv (.t 8))⟩, ⟨none, (some 28), (.mv (.t 10))⟩, ⟨none, (some 29), (.iaddr 1 (.t 27) (.t 28))⟩, ⟨none, (some 30), (.ld false 1 (.t 29))⟩, ⟨none, (some 31), (.len false (.t 30))⟩, ⟨none, (some 32), (.bin .lss .none (.t 26) (.t 31))⟩]
def r_s_PageOf_8 : List CO := [⟨none, (some 35), (.faddr 0 (.t 3))⟩, ⟨none, (some 36), (.ld false 1 (.t 35))⟩, ⟨none, (some 37), (.mv (.t 8))⟩, ⟨none, (some 38), (.mv (.t 10))⟩, ⟨none, (some 39), (.iaddr 1 (.t 37) (.t 38))⟩, ⟨none, (some 40), (.ld false 1 (.t 39))⟩, ⟨none, (some 41), (.mv (.t 11))⟩, ⟨none, (some 42), (.iaddr 1 (.t 40) (.t 41))⟩, ⟨none, (some 43), (.ld false 1 (.t 42))⟩, ⟨none, (some 44), (.iaddr 18 (.t 36) (.t 43))⟩, ⟨none, (some 45), (.faddr 0 (.t 44))⟩, ⟨none, (some 46), (.ld false 1 (.t 45))⟩, ⟨none, (some 47), (.mv (.t 2))⟩, ⟨none, (some 48), (.bin .eql .none (.t 46) (.t 47))⟩]
def p_s_PageOf_8 : List (List Nat) := [[], [0], [], [], [2, 3], [2, 3, 4], [], [2, 3, 4, 5, 6], [2, 3, 4, 5, 6, 7], [0, 1, 2, 3, 4, 5, 6, 7, 8], [0, 1, 2, 3, 4, 5, 6, 7, 8, 9], [0, 1, 2, 3, 4, 5, 6, 7, 8, 9, 10], [], [0, 1, 2, 3, 4, 5, 6, 7, 8, 9, 10, 11, 12]]
def r_s_PageOf_9 : List CO := [⟨none, (some 49), (.mv (.t 10))⟩, ⟨none, (some 50), (.bin .add .none (.t 49) (.k (.v (.int .i64 (1)))))⟩, ⟨none, (some 6), (.mv (.t 50))⟩, ⟨none, (some 7), (.mv (.k (.v (.bool true))))⟩]
def r_s_PageOf_10 : List CO := [⟨none, (some 33), (.mv (.t 11))⟩, ⟨none, (some 34), (.bin .add .none (.t 33) (.k (.v (.int .i64 (1)))))⟩, ⟨none, (some 11), (.mv (.t 34))⟩]
def l_s_PageOf_11 : C := (.seq (.seq (.reg r_s_PageOf_7 [2, 3, 8, 10, 11, 32]) (.cond (.t 32) .skip (.exit 2))) (.seq (.block 3 (.seq (.regD r_s_PageOf_8 p_s_PageOf_8 [2, 3, 8, 10, 11, 48]) (.cond (.t 48) (.seq (.reg r_s_PageOf_9 [6, 7]) .ret) .skip))) (.reg r_s_PageOf_10 [2, 3, 8, 10, 11])))
def r_s_PageOf_12 : List CO := [⟨none, (some 24), (.mv (.t 10))⟩, ⟨none, (some 25), (.bin .add .none (.t 24) (.k (.v (.int .i64 (1)))))⟩, ⟨none, (some 10), (.mv (.t 25))⟩]
def l_s_PageOf_13 : C := (.seq (.seq (.reg r_s_PageOf_5 [2, 3, 8, 10, 23]) (.cond (.t 23) .skip (.exit 0))) (.seq (.block 1 (.seq (.reg r_s_PageOf_6 [2, 3, 8, 10, 11]) (.block 2 (.loop l_s_PageOf_11)))) (.reg r_s_PageOf_12 [2, 3, 8, 10])))
def r_s_PageOf_14 : List CO := [⟨none, (some 6), (.mv (.k (.v (.int .i64 (0)))))⟩, ⟨none, (some 7), (.mv (.k (.v (.bool false))))⟩]
/-- loop.example/g00884/spec.PageOf -/
def c_s_PageOf : C := (.seq (.reg r_s_PageOf_0 [2, 3, 4]) (.seq (.reg r_s_PageOf_1 [2, 3, 8, 9]) (.seq (.seq (.reg r_s_PageOf_2 [2, 3, 8, 19]) (.cond (.t 19) (.seq (.reg r_s_PageOf_3 [6, 7]) .ret) .skip)) (.seq (.seq (.reg r_s_PageOf_4 [2, 3, 8, 10]) (.block 0 (.loop l_s_PageOf_13))) (.seq (.reg r_s_PageOf_14 [6, 7]) .ret)))))
def k_s_PageOf : Nat → List Nat
  | 0 => [2, 3, 4]
  | 1 => [2, 3, 8, 9]
  | 2 => [2, 3, 8, 19]
  | 3 => [6, 7]
  | 4 => [2, 3, 8, 10]
  | 5 => [2, 3, 8, 10, 23]
  | 7 => [2, 3, 8, 10, 11]
  | 8 => [2, 3, 8, 10, 11, 32]
  | 10 => [2, 3, 8, 10, 11, 48]
  | 11 => [6, 7]
  | 9 => [2, 3, 8, 10, 11]
  | 6 => [2, 3, 8, 10]
  | 12 => [6, 7]
  | _ => []
theorem fn_s_PageOf : FnC Tryz.prog n_s_PageOf c_s_PageOf [(.tmp 6), (.tmp 7)] 51 :=
  ⟨Tryz.f25, _, k_s_PageOf, Tryz.func25, rfl, by kernel_rfl, by kernel_rfl, by kernel_rfl, rfl⟩
def r_w_FnExactPageOf_0 : List CO := [⟨none, (some 3), (.box 1 (.t 0))⟩, ⟨none, (some 4), (.box 3 (.t 1))⟩, ⟨none, (some 6), (.mv (.k (.v (.bool false))))⟩]
def r_w_FnExactPageOf_1 : List CO := [⟨none, (some 7), (.mv (.k (.v (.int .i64 (1048576)))))⟩]
def r_w_FnExactPageOf_2 : List CO := [⟨none, (some 13), (.ld true 1 (.t 3))⟩, ⟨none, (some 14), (.mv (.t 7))⟩, ⟨none, (some 15), (.call n_w_szRegister [(.t 13), (.t 14)])⟩, ⟨none, (some 7), (.mv (.t 15))⟩]
def r_w_FnExactPageOf_3 : List CO := [⟨none, (some 16), (.mv (.t 7))⟩, ⟨none, (some 17), (.bin .lss .none (.t 16) (.k (.v (.int .i64 (0)))))⟩]
def r_w_FnExactPageOf_4 : List CO := [⟨none, (some 6), (.mv (.k (.v (.bool true))))⟩]
def r_w_FnExactPageOf_5 : List CO := [⟨none, (some 19), (.ld true 1 (.t 3))⟩, ⟨none, (some 20), (.call n_w_toRegister [(.t 19)])⟩, ⟨none, (some 21), (.ld true 3 (.t 4))⟩, ⟨none, (some 22), (.call n_w_toRoll [(.t 21)])⟩, ⟨none, (some 23), (.mv (.t 2))⟩, ⟨none, (some 24), (.call n_s_PageOf [(.t 20), (.t 22), (.t 23)])⟩, ⟨none, (some 18), (.mv (.t 24))⟩, ⟨none, (some 25), (.ext (.t 18) 0)⟩, ⟨none, (some 26), (.ext (.t 18) 1)⟩, ⟨none, (some 8), (.mv (.t 25))⟩, ⟨none, (some 9), (.mv (.t 26))⟩]
def p_w_FnExactPageOf_5 : List (List Nat) := [[], [0], [], [0, 1, 2], [], [0, 1, 2, 3, 4], [0, 1, 2, 3, 4, 5], [0, 1, 2, 3, 4, 5, 6], [0, 1, 2, 3, 4, 5, 6], [0, 1, 2, 3, 4, 5, 6, 7], [0, 1, 2, 3, 4, 5, 6, 7, 8, 9]]
def r_w_FnExactPageOf_6 : List CO := [⟨none, (some 27), (.ld true 1 (.t 3))⟩, ⟨none, (some 28), (.call n_w_toRegister [(.t 27)])⟩, ⟨none, (some 10), (.box 1 (.k (.agg [(.v (.slice none 0 0))])))⟩, ⟨none, none, (.st 1 (.t 10) (.t 28))⟩]
def r_w_FnExactPageOf_7 : List CO := [⟨none, (some 30), (.ld true 1 (.t 10))⟩, ⟨none, (some 31), (.ld true 3 (.t 4))⟩, ⟨none, (some 32), (.call n_w_toRoll [(.t 31)])⟩, ⟨none, (some 33), (.mv (.t 2))⟩, ⟨none, (some 34), (.call n_i_PageOf [(.t 30), (.t 32), (.t 33)])⟩, ⟨none, (some 29), (.mv (.t 34))⟩, ⟨none, (some 35), (.ext (.t 29) 0)⟩, ⟨none, (some 36), (.ext (.t 29) 1)⟩, ⟨none, (some 11), (.mv (.t 35))⟩, ⟨none, (some 12), (.mv (.t 36))⟩]
def p_w_FnExactPageOf_7 : List (List Nat) := [[], [], [1], [], [0, 1, 2, 3], [0, 1, 2, 3, 4], [0, 1, 2, 3, 4, 5], [0, 1, 2, 3, 4, 5], [0, 1, 2, 3, 4, 5, 6], [0, 1, 2, 3, 4, 5, 6, 7, 8]]
def r_w_FnExactPageOf_8 : List CO := [⟨none, (some 37), (.mv (.t 11))⟩, ⟨none, (some 38), (.mv (.t 8))⟩, ⟨none, (some 39), (.bin .neq .none (.t 37) (.t 38))⟩, ⟨none, (some 40), (.mv (.t 39))⟩, ⟨(some (40, false)), (some 41), (.mv (.t 12))⟩, ⟨(some (40, false)), (some 42), (.mv (.t 9))⟩, ⟨(some (40, false)), (some 43), (.bin .neq .bool (.t 41) (.t 42))⟩, ⟨none, (some 44), (.pick (.t 40) (.k (.v (.bool true))) (.t 43))⟩]
def r_w_FnExactPageOf_9 : List CO := [⟨none, (some 6), (.mv (.k (.v (.bool false))))⟩]
def r_w_FnExactPageOf_10 : List CO := [⟨none, (some 45), (.ld true 1 (.t 10))⟩, ⟨none, (some 46), (.ld true 1 (.t 3))⟩, ⟨none, (some 47), (.call n_w_toRegister [(.t 46)])⟩, ⟨none, (some 48), (.call n_w_eqRegister [(.t 45), (.t 47)])⟩, ⟨none, (some 49), (.un .not (.t 48))⟩]
def p_w_FnExactPageOf_10 : List (List Nat) := [[], [], [1], [0, 1, 2], [0, 1, 2, 3]]
def r_w_FnExactPageOf_11 : List CO := [⟨none, (some 6), (.mv (.k (.v (.bool false))))⟩]
def r_w_FnExactPageOf_12 : List CO := [⟨none, (some 6), (.mv (.k (.v (.bool true))))⟩]
/-- loop.example/g00884/laws.FnExactPageOf -/
def c_w_FnExactPageOf : C := (.seq (.reg r_w_FnExactPageOf_0 [2, 3, 4]) (.seq (.reg r_w_FnExactPageOf_1 [2, 3, 4, 7]) (.seq (.reg r_w_FnExactPageOf_2 [2, 3, 4, 7]) (.seq (.seq (.reg r_w_FnExactPageOf_3 [2, 3, 4, 17]) (.cond (.t 17) (.seq (.reg r_w_FnExactPageOf_4 [6]) .ret) .skip)) (.seq (.regD r_w_FnExactPageOf_5 p_w_FnExactPageOf_5 [2, 3, 4, 8, 9]) (.seq (.reg r_w_FnExactPageOf_6 [2, 3, 4, 8, 9, 10]) (.seq (.regD r_w_FnExactPageOf_7 p_w_FnExactPageOf_7 [3, 8, 9, 10, 11, 12]) (.seq (.seq (.reg r_w_FnExactPageOf_8 [3, 10, 44]) (.cond (.t 44) (.seq (.reg r_w_FnExactPageOf_9 [6]) .ret) .skip)) (.seq (.seq (.regD r_w_FnExactPageOf_10 p_w_FnExactPageOf_10 [49]) (.cond (.t 49) (.seq (.reg r_w_FnExactPageOf_11 [6]) .ret) .skip)) (.seq (.reg r_w_FnExactPageOf_12 [6]) .ret))))))))))
def k_w_FnExactPageOf : Nat → List Nat
  | 0 => [2, 3, 4]
  | 1 => [2, 3, 4, 7]
  | 2 => [2, 3, 4, 7]
  | 3 => [2, 3, 4, 17]
  | 4 => [6]
  | 5 => [2, 3, 4, 8, 9]
  | 6 => [2, 3, 4, 8, 9, 10]
  | 7 => [3, 8, 9, 10, 11, 12]
  | 8 => [3, 10, 44]
  | 9 => [6]
  | 10 => [49]
  | 11 => [6]
  | 12 => [6]
  | _ => []
theorem fn_w_FnExactPageOf : FnC Tryz.prog n_w_FnExactPageOf c_w_FnExactPageOf [(.tmp 6)] 50 :=
  ⟨Tryz.f5, _, k_w_FnExactPageOf, Tryz.func5, rfl, by kernel_rfl, by kernel_rfl, by kernel_rfl, rfl⟩
end Go.Proofs.YtbeoijlggphklaaGreatDoor

/- PageOf: program, reference, law. -/
set_option linter.unusedVariables false
set_option linter.unusedSimpArgs false
namespace Go.Proofs.YtbeoijlggphklaaGreatDoor
open Go.Abs

theorem pageI_flat {ps : List (List Grant)} {n : Int} {i : Nat} (h : i < ps.flatten.length) (h1 : ps.flatten[i].number = n) (h2 : ∀ j (hj : j < i), ps.flatten[j].number ≠ n) : ∃ q, pageI ps n = some q ∧ (ofI ps)[i]? = some ((q + 1 : Nat) : Int) := by
  obtain ⟨q, e1, e2⟩ := of_first (p := fun g : Grant => decide (g.number = n)) 0 ps i h (by simpa using h1) fun j hj => by simpa using h2 j hj
  refine ⟨q, e1, ?_⟩
  rw [ofI, List.getElem?_map, e2]; simp
theorem pageI_none {ps : List (List Grant)} {n : Int} (h : ∀ i (h : i < ps.flatten.length), ps.flatten[i].number ≠ n) : pageI ps n = none :=
  of_none ps fun y hy => by
    obtain ⟨i, hi, rfl⟩ := List.getElem_of_mem hy
    simpa using h i hi
theorem pageN_some {l : Register} {x : Roll} {n : Int} {ps : List (List Grant)} {q : Nat} (h : asked l x = some ps) (e : pageI ps n = some q) : pageN l x n = ((q + 1 : Nat) : Int) ∧ pageOk l x n = true := by simp [pageN, pageOk, h, e]
theorem pageN_none {l : Register} {x : Roll} {n : Int} {ps : List (List Grant)} (h : asked l x = some ps) (e : pageI ps n = none) : pageN l x n = 0 ∧ pageOk l x n = false := by simp [pageN, pageOk, h, e]
theorem pageN_no {l : Register} {x : Roll} {n : Int} (h : asked l x = none) : pageN l x n = 0 ∧ pageOk l x n = false := by simp [pageN, pageOk, h]
theorem i_PageOf (l : Register) (x : Roll) (n : Int) : PCall Tryz.prog n_i_PageOf [eRegister l, eRoll x, I n] (.tup [I (pageN l x n), B (pageOk l x n)]) := by
  have hP := i_paged l x
  have hno := @pageN_no l x n
  have hso := @pageN_some l x n
  have hne := @pageN_none l x n
  generalize pageN l x n = m at hno hso hne ⊢
  generalize pageOk l x n = b at hno hso hne ⊢
  refine PCall.of fn_i_PageOf (by simp) ?_
  simp [c_i_PageOf, r_i_PageOf_0, r_i_PageOf_1]
  refine callQ_of (PCall.arg hP (by simp)) rfl (.inl (by simp)) (by simp) ?_
  unfold textOk ofL
  cases hx : asked l x with
  | none =>
    obtain ⟨rfl, rfl⟩ := hno hx
    simp [r_i_PageOf_2, r_i_PageOf_3, ofI, ofGo]
  | some ps =>
  obtain ⟨h1, h2, _⟩ := asked_iff hx
  have hf := asked_flat hx
  have hl := register_len h1
  have hL := rollOrd_len x.by_ l
  have hol := ofI_len ps
  simp [r_i_PageOf_2, r_i_PageOf_4]
  refine callQ_of (PCall.arg (i_Register_ordered l x.by_ h1) (by simp)) rfl (.inl (by simp)) (by simp) ?_
  have hget : ∀ (i : Nat) (h : i < (rollOrd x.by_ l).length) (h' : i < ps.flatten.length), ps.flatten[i] = (rollOrd x.by_ l)[i] := fun i h h' => by simp only [hf]
  have hfl : ps.flatten.length = (rollOrd x.by_ l).length := by rw [hf]
  have hpf := @pageI_flat ps n
  have hpn := @pageI_none ps n
  generalize rollOrd x.by_ l = L at hL hget hfl ⊢
  generalize ofI ps = F at hol hpf ⊢
  simp
  refine loopK (fun i : Nat => ⟨[(2, I n), (9, .sl 1016 0 F.length), (25, .sl 25 0 L.length), (26, I L.length), (27, I i)], [(25, ⟨18, L.map eGrant⟩), (1016, ⟨1, ints F⟩)], []⟩) (fun i => L.length - i) (fun i => i ≤ L.length ∧ ∀ j (_ : j < i) (h : j < L.length), L[j].number ≠ n) 0 (Wk.list rfl (by simp) (by simp)) (by simp) ?_
  rintro i ⟨hi, hj⟩ K hN hR hE
  simp [l_i_PageOf_10, r_i_PageOf_5]
  refine ⟨fun hlt => ?_, fun hge => ?_⟩
  · have hiF : i < F.length := by omega
    have hif : i < ps.flatten.length := by omega
    simp [r_i_PageOf_6, hlt]
    simp [r_i_PageOf_7]
    refine ⟨fun he => ?_, fun hn => ?_⟩
    · obtain ⟨q, e1, e2⟩ := hpf hif (by rw [hget i hlt]; exact he) fun j hji => by rw [hget j (by omega)]; exact hj j hji (by omega)
      obtain ⟨rfl, rfl⟩ := hso hx e1
      rw [List.getElem?_eq_getElem hiF, Option.some.injEq] at e2
      simp [r_i_PageOf_8, hiF]
      refine hR _ ?_
      simp [e2]
    · simp [r_i_PageOf_9]
      rw [wrap64 (by omega) (by omega)]
      refine hN (i + 1) _ (by omega) ⟨by omega, fun j h1 h2 => ?_⟩ (Wk.list rfl (by simp) (by simp))
      by_cases e : j = i
      · subst e; exact hn
      · exact hj j (by omega) h2
  · obtain ⟨rfl, rfl⟩ := hne hx (hpn fun i h => by rw [hget i (by omega)]; exact hj i (by omega) (by omega))
    refine hE _ _ ?_
    simp only [blockK_exit]
    simp [r_i_PageOf_11]
def hasX (l : Register) (n : Int) (p : List Nat) : Bool := p.any fun q => decide ((List.getD l q g00).number = n)
theorem pageI_ix (l : Register) (ps : List (List Nat)) (n : Int) : pageI (ps.map (·.map fun q => List.getD l q g00)) n = ps.findIdx? (hasX l n) := by
  unfold pageI
  rw [List.findIdx?_map]
  congr 1
  funext p
  simp only [hasX, Function.comp_apply, List.any_map]
  rfl
theorem hasX_at {l : Register} {n : Int} {p : List Nat} {k : Nat} (h : k < p.length) (e : (List.getD l p[k] g00).number = n) : hasX l n p = true := List.any_eq_true.2 ⟨p[k], List.getElem_mem _, by simpa using e⟩
theorem hasX_no {l : Register} {n : Int} {p : List Nat} (h : ∀ k (h : k < p.length), (List.getD l p[k] g00).number ≠ n) : hasX l n p = false := by
  unfold hasX
  rw [List.any_eq_false]
  intro q hq
  obtain ⟨k, hk, rfl⟩ := List.getElem_of_mem hq
  simpa using h k hk
set_option maxHeartbeats 1000000 in
theorem s_PageOf (l : Register) (x : Roll) (n : Int) : PCall Tryz.prog n_s_PageOf [eRegister l, eRoll x, I n] (.tup [I (pageN l x n), B (pageOk l x n)]) := by
  have hno := @pageN_no l x n
  have hso := @pageN_some l x n
  have hne := @pageN_none l x n
  generalize pageN l x n = m at hno hso hne ⊢
  generalize pageOk l x n = b at hno hso hne ⊢
  refine PCall.of fn_s_PageOf (by simp) ?_
  simp [c_s_PageOf, r_s_PageOf_0, r_s_PageOf_1]
  refine callQ_of (PCall.arg (s_l25Asked l x) (by simp)) rfl (.inl (by simp)) (by simp) ?_
  cases hx : askedIx l x with
  | none =>
    obtain ⟨rfl, rfl⟩ := hno (by rw [asked_map, hx]; rfl)
    simp [r_s_PageOf_2, r_s_PageOf_3]
  | some ps =>
  obtain ⟨h1, h2, hq, hn, hls, hxa⟩ := askedIx_iff hx
  have hl := register_len h1
  simp [r_s_PageOf_2, r_s_PageOf_4]
  refine loopK (fun i : Nat => ⟨[(2, I n), (3, .ref 3 0 0), (8, .sl 15 0 ps.length), (10, I i)], [(3, ⟨1, [eRegister l]⟩), (15, ⟨1, ps.map roX⟩)], []⟩) (fun i => ps.length - i) (fun i => i ≤ ps.length ∧ ∀ j (_ : j < i) (h : j < ps.length), hasX l n ps[j] = false) 0
    (Wk.trans (Wk.roes 15 3 (by rfl) (by simp)) (Wk.list rfl (by simp) (by simp))) (by simp) ?_
  rintro i ⟨hi, hj⟩ K hN hR hE
  simp [l_s_PageOf_13, r_s_PageOf_5]
  refine ⟨fun hlt => ?_, fun hge => ?_⟩
  · obtain ⟨p, hp⟩ : ∃ p, ps[i] = p := ⟨_, rfl⟩
    have hpm : p ∈ ps := hp ▸ List.getElem_mem _
    have hpq := hq p hpm
    have hpm2 := linesX_many x l p
    have hpl := hls p hpm
    simp [r_s_PageOf_6]
    refine loopK (fun k : Nat => ⟨[(2, I n), (3, .ref 3 0 0), (8, .sl 15 0 ps.length), (10, I i), (11, I k)], [(3, ⟨1, [eRegister l]⟩), (15, ⟨1, ps.map roX⟩)], []⟩) (fun k => p.length - k) (fun k => k ≤ p.length ∧ ∀ j (_ : j < k) (h : j < p.length), (List.getD l p[j] g00).number ≠ n) 0
      (Wk.list rfl (by simp) (by simp)) (by simp) ?_
    rintro k ⟨hk, hjk⟩ K2 hN2 hR2 hE2
    simp [l_s_PageOf_11, r_s_PageOf_7, hlt, hp]
    refine ⟨fun hklt => ?_, fun hkge => ?_⟩
    · obtain ⟨q, hqd⟩ : ∃ q, p[k] = q := ⟨_, rfl⟩
      have hql : q < List.length l := hpq q (hqd ▸ List.getElem_mem _)
      have hgd : List.getD l q g00 = l[q] := by simp [hql]
      simp [r_s_PageOf_8, p_s_PageOf_8, hlt, hp, hklt, hqd, hql]
      refine ⟨oEnd_of (by simp [p_s_PageOf_8]) (by simp), fun he => ?_, fun hne' => ?_⟩
      · have hfi : ps.findIdx? (hasX l n) = some i := by
          rw [List.findIdx?_eq_some_iff_getElem]
          refine ⟨hlt, ?_, fun j hji => ?_⟩
          · rw [hp]; exact hasX_at hklt (by rw [hqd, hgd]; exact he)
          · rw [hj j hji (by omega)]; simp
        obtain ⟨rfl, rfl⟩ := hso hxa (by rw [pageI_ix]; exact hfi)
        simp [r_s_PageOf_9]
        rw [wrap64 (by omega) (by omega)]
        refine hR2 _ ?_
        refine hR _ ?_
        simp
      · simp [r_s_PageOf_10]
        rw [wrap64 (by omega) (by omega)]
        refine hN2 (k + 1) _ (by omega) ⟨by omega, fun j h1 h2 => ?_⟩ (Wk.list rfl (by simp) (by simp))
        by_cases e : j = k
        · subst e; rw [hqd, hgd]; exact hne'
        · exact hjk j (by omega) h2
    · refine hE2 _ _ ?_
      simp only [blockK_exit]
      simp [r_s_PageOf_12]
      rw [wrap64 (by omega) (by omega)]
      refine hN (i + 1) _ (by omega) ⟨by omega, fun j h1 h2 => ?_⟩ (Wk.list rfl (by simp) (by simp))
      by_cases e : j = i
      · subst e; rw [hp]; exact hasX_no fun k' h' => hjk k' (by omega) h'
      · exact hj j (by omega) h2
  · obtain rfl : i = ps.length := by omega
    have hfi : ps.findIdx? (hasX l n) = none := by
      rw [List.findIdx?_eq_none_iff]
      intro p hp
      obtain ⟨j, hj', rfl⟩ := List.getElem_of_mem hp
      exact hj j hj' hj'
    obtain ⟨rfl, rfl⟩ := hne hxa (by rw [pageI_ix]; exact hfi)
    refine hE _ _ ?_
    simp only [blockK_exit]
    simp [r_s_PageOf_14]
theorem w_FnExactPageOf (l : Register) (x : Roll) (n : Int) : PCall Tryz.prog n_w_FnExactPageOf [eRegister l, eRoll x, I n] (B true) := by
  have hS := s_PageOf l x n
  have hI := i_PageOf l x n
  generalize pageN l x n = m at hS hI
  generalize pageOk l x n = b at hS hI
  refine PCall.of fn_w_FnExactPageOf (by simp) ?_
  simp [c_w_FnExactPageOf, r_w_FnExactPageOf_0, r_w_FnExactPageOf_1, r_w_FnExactPageOf_2]
  refine callQ_v (PCall.arg (w_szRegister l 1048576 (by omega) (by omega)) (by simp)) ?_
  simp [r_w_FnExactPageOf_3]
  refine ⟨fun _ => by simp [r_w_FnExactPageOf_4], fun hge => ?_⟩
  have hs := rest_nonneg (left := 1048576) (n := szG l) (by omega)
  have hl : List.length l ≤ 1048576 := by unfold szG at hs; omega
  have hto := w_toRegister l hl
  have htr := w_toRoll x
  simp [r_w_FnExactPageOf_5, p_w_FnExactPageOf_5]
  refine callD_of (PCall.arg hto (by simp)) rfl (.inl (by simp)) ?_ ?_ ?_
  · simp
  · simp
  simp
  refine callD_of (PCall.arg htr (by simp)) rfl (.inl (by simp)) ?_ ?_ ?_
  · simp
  · simp
  simp
  refine callD_of (PCall.arg hS (by simp)) rfl (.inl (by simp)) ?_ ?_ ?_
  · simp
  · simp
  simp
  refine ⟨oEnd_of (by simp [p_w_FnExactPageOf_5]) (by simp), ?_⟩
  simp [r_w_FnExactPageOf_6]
  refine callQ_of (PCall.arg hto (by simp)) rfl (.inl (by simp)) (by simp) ?_
  simp [r_w_FnExactPageOf_7, p_w_FnExactPageOf_7]
  refine callD_of (PCall.arg htr (by simp)) rfl (.inl (by simp)) ?_ ?_ ?_
  · simp
  · simp
  simp
  refine callD_of (PCall.arg hI (by simp)) rfl (.inl (by simp)) ?_ ?_ ?_
  · simp
  · simp
  simp
  refine ⟨oEnd_of (by simp [p_w_FnExactPageOf_7]) (by simp), ?_⟩
  simp [r_w_FnExactPageOf_8]
  simp [r_w_FnExactPageOf_10, p_w_FnExactPageOf_10]
  refine callD_of (PCall.arg hto (by simp)) rfl (.inl (by simp)) ?_ ?_ ?_
  · simp
  · simp
  simp
  refine callD_v (PCall.arg (w_eqRegister l l) (by simp [List.take_of_length_le])) ?_ ?_ ?_
  · simp
  · simp
  simp
  refine ⟨oEnd_of (by simp [p_w_FnExactPageOf_10]) (by simp), ?_⟩
  simp [r_w_FnExactPageOf_12]
end Go.Proofs.YtbeoijlggphklaaGreatDoor
