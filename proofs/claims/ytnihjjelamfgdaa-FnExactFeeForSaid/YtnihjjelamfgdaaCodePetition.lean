/- The compact code of the functions, and that it is theirs: written by a program of this claim. -/
import Derived.Test.YtnihjjelamfgdaaNums
namespace Go.Proofs.Ytnihjjelamfgdaa
open Go.Abs
set_option maxRecDepth 100000
def r_w_toPetition_0 : List CO := [⟨none, (some 1), (.box 5 (.t 0))⟩, ⟨none, (some 2), (.box 5 (.k (.agg [(.v (.int .i64 (0))), (.v (.int .i64 (0))), (.v (.int .i64 (0))), (.v (.int .i64 (0))), (.v (.int .i64 (0)))])))⟩]
def r_w_toPetition_1 : List CO := [⟨none, (some 3), (.box 5 (.k (.agg [(.v (.int .i64 (0))), (.v (.int .i64 (0))), (.v (.int .i64 (0))), (.v (.int .i64 (0))), (.v (.int .i64 (0)))])))⟩]
def r_w_toPetition_2 : List CO := [⟨none, (some 4), (.faddr 0 (.t 1))⟩, ⟨none, (some 5), (.ld false 1 (.t 4))⟩, ⟨none, (some 6), (.faddr 0 (.t 3))⟩, ⟨none, none, (.st 1 (.t 6) (.t 5))⟩]
def r_w_toPetition_3 : List CO := [⟨none, (some 7), (.faddr 1 (.t 1))⟩, ⟨none, (some 8), (.ld false 1 (.t 7))⟩, ⟨none, (some 9), (.faddr 1 (.t 3))⟩, ⟨none, none, (.st 1 (.t 9) (.t 8))⟩]
def r_w_toPetition_4 : List CO := [⟨none, (some 10), (.faddr 2 (.t 1))⟩, ⟨none, (some 11), (.ld false 1 (.t 10))⟩, ⟨none, (some 12), (.faddr 2 (.t 3))⟩, ⟨none, none, (.st 1 (.t 12) (.t 11))⟩]
def r_w_toPetition_5 : List CO := [⟨none, (some 13), (.faddr 3 (.t 1))⟩, ⟨none, (some 14), (.ld false 1 (.t 13))⟩, ⟨none, (some 15), (.faddr 3 (.t 3))⟩, ⟨none, none, (.st 1 (.t 15) (.t 14))⟩]
def r_w_toPetition_6 : List CO := [⟨none, (some 16), (.faddr 4 (.t 1))⟩, ⟨none, (some 17), (.ld false 1 (.t 16))⟩, ⟨none, (some 18), (.faddr 4 (.t 3))⟩, ⟨none, none, (.st 1 (.t 18) (.t 17))⟩]
def r_w_toPetition_7 : List CO := [⟨none, (some 19), (.ld true 5 (.t 3))⟩, ⟨none, none, (.st 5 (.t 2) (.t 19))⟩]
/-- loop.example/g00884/laws.toPetition -/
def c_w_toPetition : C := (.seq (.reg r_w_toPetition_0 [1, 2]) (.seq (.reg r_w_toPetition_1 [1, 2, 3]) (.seq (.reg r_w_toPetition_2 [1, 2, 3]) (.seq (.reg r_w_toPetition_3 [1, 2, 3]) (.seq (.reg r_w_toPetition_4 [1, 2, 3]) (.seq (.reg r_w_toPetition_5 [1, 2, 3]) (.seq (.reg r_w_toPetition_6 [2, 3]) (.seq (.reg r_w_toPetition_7 [2]) .ret))))))))
def k_w_toPetition : Nat → List Nat
  | 0 => [1, 2]
  | 1 => [1, 2, 3]
  | 2 => [1, 2, 3]
  | 3 => [1, 2, 3]
  | 4 => [1, 2, 3]
  | 5 => [1, 2, 3]
  | 6 => [2, 3]
  | 7 => [2]
  | _ => []
theorem fn_w_toPetition : FnC Try.prog n_w_toPetition c_w_toPetition [(.cell 2 true 5)] 20 :=
  ⟨Try.f82, _, k_w_toPetition, Try.func82, rfl, by kernel_rfl, by kernel_rfl, by kernel_rfl, rfl⟩
def r_w_eqPetition_0 : List CO := [⟨none, (some 2), (.box 5 (.t 0))⟩, ⟨none, (some 3), (.box 5 (.t 1))⟩, ⟨none, (some 4), (.mv (.k (.v (.bool false))))⟩]
def r_w_eqPetition_1 : List CO := [⟨none, (some 5), (.faddr 0 (.t 2))⟩, ⟨none, (some 6), (.ld false 1 (.t 5))⟩, ⟨none, (some 7), (.faddr 0 (.t 3))⟩, ⟨none, (some 8), (.ld false 1 (.t 7))⟩, ⟨none, (some 9), (.bin .neq .none (.t 6) (.t 8))⟩]
def r_w_eqPetition_2 : List CO := [⟨none, (some 4), (.mv (.k (.v (.bool false))))⟩]
def r_w_eqPetition_3 : List CO := [⟨none, (some 10), (.faddr 1 (.t 2))⟩, ⟨none, (some 11), (.ld false 1 (.t 10))⟩, ⟨none, (some 12), (.faddr 1 (.t 3))⟩, ⟨none, (some 13), (.ld false 1 (.t 12))⟩, ⟨none, (some 14), (.bin .neq .none (.t 11) (.t 13))⟩]
def r_w_eqPetition_4 : List CO := [⟨none, (some 4), (.mv (.k (.v (.bool false))))⟩]
def r_w_eqPetition_5 : List CO := [⟨none, (some 15), (.faddr 2 (.t 2))⟩, ⟨none, (some 16), (.ld false 1 (.t 15))⟩, ⟨none, (some 17), (.faddr 2 (.t 3))⟩, ⟨none, (some 18), (.ld false 1 (.t 17))⟩, ⟨none, (some 19), (.bin .neq .none (.t 16) (.t 18))⟩]
def r_w_eqPetition_6 : List CO := [⟨none, (some 4), (.mv (.k (.v (.bool false))))⟩]
def r_w_eqPetition_7 : List CO := [⟨none, (some 20), (.faddr 3 (.t 2))⟩, ⟨none, (some 21), (.ld false 1 (.t 20))⟩, ⟨none, (some 22), (.faddr 3 (.t 3))⟩, ⟨none, (some 23), (.ld false 1 (.t 22))⟩, ⟨none, (some 24), (.bin .neq .none (.t 21) (.t 23))⟩]
def r_w_eqPetition_8 : List CO := [⟨none, (some 4), (.mv (.k (.v (.bool false))))⟩]
def r_w_eqPetition_9 : List CO := [⟨none, (some 25), (.faddr 4 (.t 2))⟩, ⟨none, (some 26), (.ld false 1 (.t 25))⟩, ⟨none, (some 27), (.faddr 4 (.t 3))⟩, ⟨none, (some 28), (.ld false 1 (.t 27))⟩, ⟨none, (some 29), (.bin .neq .none (.t 26) (.t 28))⟩]
def r_w_eqPetition_10 : List CO := [⟨none, (some 4), (.mv (.k (.v (.bool false))))⟩]
def r_w_eqPetition_11 : List CO := [⟨none, (some 4), (.mv (.k (.v (.bool true))))⟩]
/-- loop.example/g00884/laws.eqPetition -/
def c_w_eqPetition : C := (.seq (.reg r_w_eqPetition_0 [2, 3]) (.seq (.seq (.reg r_w_eqPetition_1 [2, 3, 9]) (.cond (.t 9) (.seq (.reg r_w_eqPetition_2 [4]) .ret) .skip)) (.seq (.seq (.reg r_w_eqPetition_3 [2, 3, 14]) (.cond (.t 14) (.seq (.reg r_w_eqPetition_4 [4]) .ret) .skip)) (.seq (.seq (.reg r_w_eqPetition_5 [2, 3, 19]) (.cond (.t 19) (.seq (.reg r_w_eqPetition_6 [4]) .ret) .skip)) (.seq (.seq (.reg r_w_eqPetition_7 [2, 3, 24]) (.cond (.t 24) (.seq (.reg r_w_eqPetition_8 [4]) .ret) .skip)) (.seq (.seq (.reg r_w_eqPetition_9 [29]) (.cond (.t 29) (.seq (.reg r_w_eqPetition_10 [4]) .ret) .skip)) (.seq (.reg r_w_eqPetition_11 [4]) .ret)))))))
def k_w_eqPetition : Nat → List Nat
  | 0 => [2, 3]
  | 1 => [2, 3, 9]
  | 2 => [4]
  | 3 => [2, 3, 14]
  | 4 => [4]
  | 5 => [2, 3, 19]
  | 6 => [4]
  | 7 => [2, 3, 24]
  | 8 => [4]
  | 9 => [29]
  | 10 => [4]
  | 11 => [4]
  | _ => []
theorem fn_w_eqPetition : FnC Try.prog n_w_eqPetition c_w_eqPetition [(.tmp 4)] 30 :=
  ⟨Try.f84, _, k_w_eqPetition, Try.func84, rfl, by kernel_rfl, by kernel_rfl, by kernel_rfl, rfl⟩
def r_w_szPetitionS_0 : List CO := [⟨none, (some 4), (.mv (.k (.v (.int .i64 (0)))))⟩]
def r_w_szPetitionS_1 : List CO := [⟨none, (some 5), (.mv (.t 1))⟩, ⟨none, (some 6), (.mv (.t 0))⟩, ⟨none, (some 7), (.len false (.t 6))⟩, ⟨none, (some 8), (.bin .sub .none (.t 5) (.t 7))⟩, ⟨none, (some 1), (.mv (.t 8))⟩]
def r_w_szPetitionS_2 : List CO := [⟨none, (some 9), (.mv (.t 1))⟩, ⟨none, (some 10), (.bin .lss .none (.t 9) (.k (.v (.int .i64 (0)))))⟩]
def r_w_szPetitionS_3 : List CO := [⟨none, (some 4), (.mv (.k (.v (.int .i64 (-1)))))⟩]
def r_w_szPetitionS_4 : List CO := [⟨none, (some 11), (.mv (.t 1))⟩, ⟨none, (some 4), (.mv (.t 11))⟩]
/-- loop.example/g00884/laws.szPetitionS -/
def c_w_szPetitionS : C := (.seq (.reg r_w_szPetitionS_0 [0, 1]) (.seq (.reg r_w_szPetitionS_1 [1]) (.seq (.seq (.reg r_w_szPetitionS_2 [1, 10]) (.cond (.t 10) (.seq (.reg r_w_szPetitionS_3 [4]) .ret) .skip)) (.seq (.reg r_w_szPetitionS_4 [4]) .ret))))
def k_w_szPetitionS : Nat → List Nat
  | 0 => [0, 1]
  | 1 => [1]
  | 2 => [1, 10]
  | 3 => [4]
  | 4 => [4]
  | _ => []
theorem fn_w_szPetitionS : FnC Try.prog n_w_szPetitionS c_w_szPetitionS [(.tmp 4)] 12 :=
  ⟨Try.f19, _, k_w_szPetitionS, Try.func19, rfl, by kernel_rfl, by kernel_rfl, by kernel_rfl, rfl⟩
def r_w_toPetitionS_0 : List CO := [⟨none, (some 2), (.mv (.k (.v (.slice none 0 0))))⟩]
def r_w_toPetitionS_1 : List CO := [⟨none, (some 5), (.mv (.t 0))⟩, ⟨none, (some 6), (.len false (.t 5))⟩, ⟨none, (some 7), (.mks 5 (.agg [(.v (.int .i64 (0))), (.v (.int .i64 (0))), (.v (.int .i64 (0))), (.v (.int .i64 (0))), (.v (.int .i64 (0)))]) 40 (.t 6) (.t 6))⟩, ⟨none, (some 3), (.mv (.t 7))⟩]
def r_w_toPetitionS_2 : List CO := [⟨none, (some 4), (.mv (.k (.v (.int .i64 (0)))))⟩]
def r_w_toPetitionS_3 : List CO := [⟨none, (some 8), (.mv (.t 4))⟩, ⟨none, (some 9), (.mv (.t 0))⟩, ⟨none, (some 10), (.len false (.t 9))⟩, ⟨none, (some 11), (.bin .lss .none (.t 8) (.t 10))⟩]
def r_w_toPetitionS_4 : List CO := [⟨none, (some 14), (.mv (.t 3))⟩, ⟨none, (some 15), (.mv (.t 4))⟩, ⟨none, (some 16), (.mv (.t 0))⟩, ⟨none, (some 17), (.mv (.t 4))⟩, ⟨none, (some 18), (.iaddr 5 (.t 16) (.t 17))⟩, ⟨none, (some 19), (.ld true 5 (.t 18))⟩, ⟨none, (some 20), (.call n_w_toPetition [(.t 19)])⟩, ⟨none, (some 21), (.iaddr 5 (.t 14) (.t 15))⟩, ⟨none, none, (.st 5 (.t 21) (.t 20))⟩]
def r_w_toPetitionS_5 : List CO := [⟨none, (some 12), (.mv (.t 4))⟩, ⟨none, (some 13), (.bin .add .none (.t 12) (.k (.v (.int .i64 (1)))))⟩, ⟨none, (some 4), (.mv (.t 13))⟩]
def l_w_toPetitionS_6 : C := (.seq (.seq (.reg r_w_toPetitionS_3 [0, 3, 4, 11]) (.cond (.t 11) .skip (.exit 0))) (.seq (.block 1 (.reg r_w_toPetitionS_4 [0, 3, 4])) (.reg r_w_toPetitionS_5 [0, 3, 4])))
def r_w_toPetitionS_7 : List CO := [⟨none, (some 22), (.mv (.t 3))⟩, ⟨none, (some 2), (.mv (.t 22))⟩]
/-- loop.example/g00884/laws.toPetitionS -/
def c_w_toPetitionS : C := (.seq (.reg r_w_toPetitionS_0 [0]) (.seq (.reg r_w_toPetitionS_1 [0, 3]) (.seq (.seq (.reg r_w_toPetitionS_2 [0, 3, 4]) (.block 0 (.loop l_w_toPetitionS_6))) (.seq (.reg r_w_toPetitionS_7 [2]) .ret))))
def k_w_toPetitionS : Nat → List Nat
  | 0 => [0]
  | 1 => [0, 3]
  | 2 => [0, 3, 4]
  | 3 => [0, 3, 4, 11]
  | 5 => [0, 3, 4]
  | 4 => [0, 3, 4]
  | 6 => [2]
  | _ => []
theorem fn_w_toPetitionS : FnC Try.prog n_w_toPetitionS c_w_toPetitionS [(.tmp 2)] 23 :=
  ⟨Try.f21, _, k_w_toPetitionS, Try.func21, rfl, by kernel_rfl, by kernel_rfl, by kernel_rfl, rfl⟩
def r_w_eqPetitionS_0 : List CO := [⟨none, (some 4), (.mv (.k (.v (.bool false))))⟩]
def r_w_eqPetitionS_1 : List CO := [⟨none, (some 6), (.mv (.t 0))⟩, ⟨none, (some 7), (.len false (.t 6))⟩, ⟨none, (some 8), (.mv (.t 1))⟩, ⟨none, (some 9), (.len false (.t 8))⟩, ⟨none, (some 10), (.bin .neq .none (.t 7) (.t 9))⟩]
def r_w_eqPetitionS_2 : List CO := [⟨none, (some 4), (.mv (.k (.v (.bool false))))⟩]
def r_w_eqPetitionS_3 : List CO := [⟨none, (some 5), (.mv (.k (.v (.int .i64 (0)))))⟩]
def r_w_eqPetitionS_4 : List CO := [⟨none, (some 11), (.mv (.t 5))⟩, ⟨none, (some 12), (.mv (.t 0))⟩, ⟨none, (some 13), (.len false (.t 12))⟩, ⟨none, (some 14), (.bin .lss .none (.t 11) (.t 13))⟩]
def r_w_eqPetitionS_5 : List CO := [⟨none, (some 17), (.mv (.t 0))⟩, ⟨none, (some 18), (.mv (.t 5))⟩, ⟨none, (some 19), (.iaddr 5 (.t 17) (.t 18))⟩, ⟨none, (some 20), (.ld true 5 (.t 19))⟩, ⟨none, (some 21), (.mv (.t 1))⟩, ⟨none, (some 22), (.mv (.t 5))⟩, ⟨none, (some 23), (.iaddr 5 (.t 21) (.t 22))⟩, ⟨none, (some 24), (.ld true 5 (.t 23))⟩, ⟨none, (some 25), (.call n_w_eqPetition [(.t 20), (.t 24)])⟩, ⟨none, (some 26), (.un .not (.t 25))⟩]
def p_w_eqPetitionS_5 : List (List Nat) := [[], [], [0, 1], [0, 1, 2], [], [], [4, 5], [4, 5, 6], [0, 1, 2, 3, 4, 5, 6, 7], [0, 1, 2, 3, 4, 5, 6, 7, 8]]
def r_w_eqPetitionS_6 : List CO := [⟨none, (some 4), (.mv (.k (.v (.bool false))))⟩]
def r_w_eqPetitionS_7 : List CO := [⟨none, (some 15), (.mv (.t 5))⟩, ⟨none, (some 16), (.bin .add .none (.t 15) (.k (.v (.int .i64 (1)))))⟩, ⟨none, (some 5), (.mv (.t 16))⟩]
def l_w_eqPetitionS_8 : C := (.seq (.seq (.reg r_w_eqPetitionS_4 [0, 1, 5, 14]) (.cond (.t 14) .skip (.exit 0))) (.seq (.block 1 (.seq (.regD r_w_eqPetitionS_5 p_w_eqPetitionS_5 [0, 1, 5, 26]) (.cond (.t 26) (.seq (.reg r_w_eqPetitionS_6 [4]) .ret) .skip))) (.reg r_w_eqPetitionS_7 [0, 1, 5])))
def r_w_eqPetitionS_9 : List CO := [⟨none, (some 4), (.mv (.k (.v (.bool true))))⟩]
/-- loop.example/g00884/laws.eqPetitionS -/
def c_w_eqPetitionS : C := (.seq (.reg r_w_eqPetitionS_0 [0, 1]) (.seq (.seq (.reg r_w_eqPetitionS_1 [0, 1, 10]) (.cond (.t 10) (.seq (.reg r_w_eqPetitionS_2 [4]) .ret) .skip)) (.seq (.seq (.reg r_w_eqPetitionS_3 [0, 1, 5]) (.block 0 (.loop l_w_eqPetitionS_8))) (.seq (.reg r_w_eqPetitionS_9 [4]) .ret))))
def k_w_eqPetitionS : Nat → List Nat
  | 0 => [0, 1]
  | 1 => [0, 1, 10]
  | 2 => [4]
  | 3 => [0, 1, 5]
  | 4 => [0, 1, 5, 14]
  | 6 => [0, 1, 5, 26]
  | 7 => [4]
  | 5 => [0, 1, 5]
  | 8 => [4]
  | _ => []
theorem fn_w_eqPetitionS : FnC Try.prog n_w_eqPetitionS c_w_eqPetitionS [(.tmp 4)] 27 :=
  ⟨Try.f23, _, k_w_eqPetitionS, Try.func23, rfl, by kernel_rfl, by kernel_rfl, by kernel_rfl, rfl⟩
def r_w_markPetitionS_0 : List CO := [⟨none, (some 4), (.mv (.k (.v (.int .i64 (0)))))⟩]
def r_w_markPetitionS_1 : List CO := [⟨none, (some 5), (.mv (.k (.v (.int .i64 (0)))))⟩]
def r_w_markPetitionS_2 : List CO := [⟨none, (some 6), (.mv (.t 5))⟩, ⟨none, (some 7), (.mv (.t 0))⟩, ⟨none, (some 8), (.len false (.t 7))⟩, ⟨none, (some 9), (.bin .lss .none (.t 6) (.t 8))⟩]
def r_w_markPetitionS_3 : List CO := [⟨none, (some 12), (.mv (.t 0))⟩, ⟨none, (some 13), (.mv (.t 5))⟩, ⟨none, (some 14), (.mv (.t 1))⟩, ⟨none, (some 15), (.iaddr 5 (.t 12) (.t 13))⟩, ⟨none, (some 16), (.faddr 0 (.t 15))⟩, ⟨none, none, (.st 1 (.t 16) (.t 14))⟩]
def r_w_markPetitionS_4 : List CO := [⟨none, (some 17), (.mv (.t 1))⟩, ⟨none, (some 18), (.bin .add .none (.t 17) (.k (.v (.int .i64 (1)))))⟩, ⟨none, (some 1), (.mv (.t 18))⟩]
def r_w_markPetitionS_5 : List CO := [⟨none, (some 19), (.mv (.t 0))⟩, ⟨none, (some 20), (.mv (.t 5))⟩, ⟨none, (some 21), (.mv (.t 1))⟩, ⟨none, (some 22), (.iaddr 5 (.t 19) (.t 20))⟩, ⟨none, (some 23), (.faddr 1 (.t 22))⟩, ⟨none, none, (.st 1 (.t 23) (.t 21))⟩]
def r_w_markPetitionS_6 : List CO := [⟨none, (some 24), (.mv (.t 1))⟩, ⟨none, (some 25), (.bin .add .none (.t 24) (.k (.v (.int .i64 (1)))))⟩, ⟨none, (some 1), (.mv (.t 25))⟩]
def r_w_markPetitionS_7 : List CO := [⟨none, (some 26), (.mv (.t 0))⟩, ⟨none, (some 27), (.mv (.t 5))⟩, ⟨none, (some 28), (.mv (.t 1))⟩, ⟨none, (some 29), (.iaddr 5 (.t 26) (.t 27))⟩, ⟨none, (some 30), (.faddr 2 (.t 29))⟩, ⟨none, none, (.st 1 (.t 30) (.t 28))⟩]
def r_w_markPetitionS_8 : List CO := [⟨none, (some 31), (.mv (.t 1))⟩, ⟨none, (some 32), (.bin .add .none (.t 31) (.k (.v (.int .i64 (1)))))⟩, ⟨none, (some 1), (.mv (.t 32))⟩]
def r_w_markPetitionS_9 : List CO := [⟨none, (some 33), (.mv (.t 0))⟩, ⟨none, (some 34), (.mv (.t 5))⟩, ⟨none, (some 35), (.mv (.t 1))⟩, ⟨none, (some 36), (.iaddr 5 (.t 33) (.t 34))⟩, ⟨none, (some 37), (.faddr 3 (.t 36))⟩, ⟨none, none, (.st 1 (.t 37) (.t 35))⟩]
def r_w_markPetitionS_10 : List CO := [⟨none, (some 38), (.mv (.t 1))⟩, ⟨none, (some 39), (.bin .add .none (.t 38) (.k (.v (.int .i64 (1)))))⟩, ⟨none, (some 1), (.mv (.t 39))⟩]
def r_w_markPetitionS_11 : List CO := [⟨none, (some 40), (.mv (.t 0))⟩, ⟨none, (some 41), (.mv (.t 5))⟩, ⟨none, (some 42), (.mv (.t 1))⟩, ⟨none, (some 43), (.iaddr 5 (.t 40) (.t 41))⟩, ⟨none, (some 44), (.faddr 4 (.t 43))⟩, ⟨none, none, (.st 1 (.t 44) (.t 42))⟩]
def r_w_markPetitionS_12 : List CO := [⟨none, (some 45), (.mv (.t 1))⟩, ⟨none, (some 46), (.bin .add .none (.t 45) (.k (.v (.int .i64 (1)))))⟩, ⟨none, (some 1), (.mv (.t 46))⟩]
def r_w_markPetitionS_13 : List CO := [⟨none, (some 10), (.mv (.t 5))⟩, ⟨none, (some 11), (.bin .add .none (.t 10) (.k (.v (.int .i64 (1)))))⟩, ⟨none, (some 5), (.mv (.t 11))⟩]
def l_w_markPetitionS_14 : C := (.seq (.seq (.reg r_w_markPetitionS_2 [0, 1, 5, 9]) (.cond (.t 9) .skip (.exit 0))) (.seq (.block 1 (.seq (.reg r_w_markPetitionS_3 [0, 1, 5]) (.seq (.reg r_w_markPetitionS_4 [0, 1, 5]) (.seq (.reg r_w_markPetitionS_5 [0, 1, 5]) (.seq (.reg r_w_markPetitionS_6 [0, 1, 5]) (.seq (.reg r_w_markPetitionS_7 [0, 1, 5]) (.seq (.reg r_w_markPetitionS_8 [0, 1, 5]) (.seq (.reg r_w_markPetitionS_9 [0, 1, 5]) (.seq (.reg r_w_markPetitionS_10 [0, 1, 5]) (.seq (.reg r_w_markPetitionS_11 [0, 1, 5]) (.reg r_w_markPetitionS_12 [0, 1, 5]))))))))))) (.reg r_w_markPetitionS_13 [0, 1, 5])))
def r_w_markPetitionS_15 : List CO := [⟨none, (some 47), (.mv (.t 1))⟩, ⟨none, (some 4), (.mv (.t 47))⟩]
/-- loop.example/g00884/laws.markPetitionS -/
def c_w_markPetitionS : C := (.seq (.reg r_w_markPetitionS_0 [0, 1]) (.seq (.seq (.reg r_w_markPetitionS_1 [0, 1, 5]) (.block 0 (.loop l_w_markPetitionS_14))) (.seq (.reg r_w_markPetitionS_15 [4]) .ret)))
def k_w_markPetitionS : Nat → List Nat
  | 0 => [0, 1]
  | 1 => [0, 1, 5]
  | 2 => [0, 1, 5, 9]
  | 4 => [0, 1, 5]
  | 5 => [0, 1, 5]
  | 6 => [0, 1, 5]
  | 7 => [0, 1, 5]
  | 8 => [0, 1, 5]
  | 9 => [0, 1, 5]
  | 10 => [0, 1, 5]
  | 11 => [0, 1, 5]
  | 12 => [0, 1, 5]
  | 13 => [0, 1, 5]
  | 3 => [0, 1, 5]
  | 14 => [4]
  | _ => []
theorem fn_w_markPetitionS : FnC Try.prog n_w_markPetitionS c_w_markPetitionS [(.tmp 4)] 48 :=
  ⟨Try.f24, _, k_w_markPetitionS, Try.func24, rfl, by kernel_rfl, by kernel_rfl, by kernel_rfl, rfl⟩
def r_w_heldPetitionS_0 : List CO := [⟨none, (some 4), (.mv (.k (.v (.int .i64 (0)))))⟩]
def r_w_heldPetitionS_1 : List CO := [⟨none, (some 5), (.mv (.k (.v (.int .i64 (0)))))⟩]
def r_w_heldPetitionS_2 : List CO := [⟨none, (some 6), (.mv (.t 5))⟩, ⟨none, (some 7), (.mv (.t 0))⟩, ⟨none, (some 8), (.len false (.t 7))⟩, ⟨none, (some 9), (.bin .lss .none (.t 6) (.t 8))⟩]
def r_w_heldPetitionS_3 : List CO := [⟨none, (some 12), (.mv (.t 0))⟩, ⟨none, (some 13), (.mv (.t 5))⟩, ⟨none, (some 14), (.iaddr 5 (.t 12) (.t 13))⟩, ⟨none, (some 15), (.faddr 0 (.t 14))⟩, ⟨none, (some 16), (.ld false 1 (.t 15))⟩, ⟨none, (some 17), (.mv (.t 1))⟩, ⟨none, (some 18), (.bin .neq .none (.t 16) (.t 17))⟩]
def r_w_heldPetitionS_4 : List CO := [⟨none, (some 4), (.mv (.k (.v (.int .i64 (-1)))))⟩]
def r_w_heldPetitionS_5 : List CO := [⟨none, (some 19), (.mv (.t 1))⟩, ⟨none, (some 20), (.bin .add .none (.t 19) (.k (.v (.int .i64 (1)))))⟩, ⟨none, (some 1), (.mv (.t 20))⟩]
def r_w_heldPetitionS_6 : List CO := [⟨none, (some 21), (.mv (.t 0))⟩, ⟨none, (some 22), (.mv (.t 5))⟩, ⟨none, (some 23), (.iaddr 5 (.t 21) (.t 22))⟩, ⟨none, (some 24), (.faddr 1 (.t 23))⟩, ⟨none, (some 25), (.ld false 1 (.t 24))⟩, ⟨none, (some 26), (.mv (.t 1))⟩, ⟨none, (some 27), (.bin .neq .none (.t 25) (.t 26))⟩]
def r_w_heldPetitionS_7 : List CO := [⟨none, (some 4), (.mv (.k (.v (.int .i64 (-1)))))⟩]
def r_w_heldPetitionS_8 : List CO := [⟨none, (some 28), (.mv (.t 1))⟩, ⟨none, (some 29), (.bin .add .none (.t 28) (.k (.v (.int .i64 (1)))))⟩, ⟨none, (some 1), (.mv (.t 29))⟩]
def r_w_heldPetitionS_9 : List CO := [⟨none, (some 30), (.mv (.t 0))⟩, ⟨none, (some 31), (.mv (.t 5))⟩, ⟨none, (some 32), (.iaddr 5 (.t 30) (.t 31))⟩, ⟨none, (some 33), (.faddr 2 (.t 32))⟩, ⟨none, (some 34), (.ld false 1 (.t 33))⟩, ⟨none, (some 35), (.mv (.t 1))⟩, ⟨none, (some 36), (.bin .neq .none (.t 34) (.t 35))⟩]
def r_w_heldPetitionS_10 : List CO := [⟨none, (some 4), (.mv (.k (.v (.int .i64 (-1)))))⟩]
def r_w_heldPetitionS_11 : List CO := [⟨none, (some 37), (.mv (.t 1))⟩, ⟨none, (some 38), (.bin .add .none (.t 37) (.k (.v (.int .i64 (1)))))⟩, ⟨none, (some 1), (.mv (.t 38))⟩]
def r_w_heldPetitionS_12 : List CO := [⟨none, (some 39), (.mv (.t 0))⟩, ⟨none, (some 40), (.mv (.t 5))⟩, ⟨none, (some 41), (.iaddr 5 (.t 39) (.t 40))⟩, ⟨none, (some 42), (.faddr 3 (.t 41))⟩, ⟨none, (some 43), (.ld false 1 (.t 42))⟩, ⟨none, (some 44), (.mv (.t 1))⟩, ⟨none, (some 45), (.bin .neq .none (.t 43) (.t 44))⟩]
def r_w_heldPetitionS_13 : List CO := [⟨none, (some 4), (.mv (.k (.v (.int .i64 (-1)))))⟩]
def r_w_heldPetitionS_14 : List CO := [⟨none, (some 46), (.mv (.t 1))⟩, ⟨none, (some 47), (.bin .add .none (.t 46) (.k (.v (.int .i64 (1)))))⟩, ⟨none, (some 1), (.mv (.t 47))⟩]
def r_w_heldPetitionS_15 : List CO := [⟨none, (some 48), (.mv (.t 0))⟩, ⟨none, (some 49), (.mv (.t 5))⟩, ⟨none, (some 50), (.iaddr 5 (.t 48) (.t 49))⟩, ⟨none, (some 51), (.faddr 4 (.t 50))⟩, ⟨none, (some 52), (.ld false 1 (.t 51))⟩, ⟨none, (some 53), (.mv (.t 1))⟩, ⟨none, (some 54), (.bin .neq .none (.t 52) (.t 53))⟩]
def r_w_heldPetitionS_16 : List CO := [⟨none, (some 4), (.mv (.k (.v (.int .i64 (-1)))))⟩]
def r_w_heldPetitionS_17 : List CO := [⟨none, (some 55), (.mv (.t 1))⟩, ⟨none, (some 56), (.bin .add .none (.t 55) (.k (.v (.int .i64 (1)))))⟩, ⟨none, (some 1), (.mv (.t 56))⟩]
def r_w_heldPetitionS_18 : List CO := [⟨none, (some 10), (.mv (.t 5))⟩, ⟨none, (some 11), (.bin .add .none (.t 10) (.k (.v (.int .i64 (1)))))⟩, ⟨none, (some 5), (.mv (.t 11))⟩]
def l_w_heldPetitionS_19 : C := (.seq (.seq (.reg r_w_heldPetitionS_2 [0, 1, 5, 9]) (.cond (.t 9) .skip (.exit 0))) (.seq (.block 1 (.seq (.seq (.reg r_w_heldPetitionS_3 [0, 1, 5, 18]) (.cond (.t 18) (.seq (.reg r_w_heldPetitionS_4 [4]) .ret) .skip)) (.seq (.reg r_w_heldPetitionS_5 [0, 1, 5]) (.seq (.seq (.reg r_w_heldPetitionS_6 [0, 1, 5, 27]) (.cond (.t 27) (.seq (.reg r_w_heldPetitionS_7 [4]) .ret) .skip)) (.seq (.reg r_w_heldPetitionS_8 [0, 1, 5]) (.seq (.seq (.reg r_w_heldPetitionS_9 [0, 1, 5, 36]) (.cond (.t 36) (.seq (.reg r_w_heldPetitionS_10 [4]) .ret) .skip)) (.seq (.reg r_w_heldPetitionS_11 [0, 1, 5]) (.seq (.seq (.reg r_w_heldPetitionS_12 [0, 1, 5, 45]) (.cond (.t 45) (.seq (.reg r_w_heldPetitionS_13 [4]) .ret) .skip)) (.seq (.reg r_w_heldPetitionS_14 [0, 1, 5]) (.seq (.seq (.reg r_w_heldPetitionS_15 [0, 1, 5, 54]) (.cond (.t 54) (.seq (.reg r_w_heldPetitionS_16 [4]) .ret) .skip)) (.reg r_w_heldPetitionS_17 [0, 1, 5]))))))))))) (.reg r_w_heldPetitionS_18 [0, 1, 5])))
def r_w_heldPetitionS_20 : List CO := [⟨none, (some 57), (.mv (.t 1))⟩, ⟨none, (some 4), (.mv (.t 57))⟩]
/-- loop.example/g00884/laws.heldPetitionS -/
def c_w_heldPetitionS : C := (.seq (.reg r_w_heldPetitionS_0 [0, 1]) (.seq (.seq (.reg r_w_heldPetitionS_1 [0, 1, 5]) (.block 0 (.loop l_w_heldPetitionS_19))) (.seq (.reg r_w_heldPetitionS_20 [4]) .ret)))
def k_w_heldPetitionS : Nat → List Nat
  | 0 => [0, 1]
  | 1 => [0, 1, 5]
  | 2 => [0, 1, 5, 9]
  | 4 => [0, 1, 5, 18]
  | 5 => [4]
  | 6 => [0, 1, 5]
  | 7 => [0, 1, 5, 27]
  | 8 => [4]
  | 9 => [0, 1, 5]
  | 10 => [0, 1, 5, 36]
  | 11 => [4]
  | 12 => [0, 1, 5]
  | 13 => [0, 1, 5, 45]
  | 14 => [4]
  | 15 => [0, 1, 5]
  | 16 => [0, 1, 5, 54]
  | 17 => [4]
  | 18 => [0, 1, 5]
  | 3 => [0, 1, 5]
  | 19 => [4]
  | _ => []
theorem fn_w_heldPetitionS : FnC Try.prog n_w_heldPetitionS c_w_heldPetitionS [(.tmp 4)] 58 :=
  ⟨Try.f25, _, k_w_heldPetitionS, Try.func25, rfl, by kernel_rfl, by kernel_rfl, by kernel_rfl, rfl⟩
end Go.Proofs.Ytnihjjelamfgdaa
