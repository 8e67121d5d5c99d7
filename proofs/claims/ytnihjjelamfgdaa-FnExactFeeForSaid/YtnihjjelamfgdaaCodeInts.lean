/- The compact code of the functions, and that it is theirs: written by a program of this claim. -/
import Derived.Test.YtnihjjelamfgdaaNums
namespace Go.Proofs.Ytnihjjelamfgdaa
open Go.Abs
set_option maxRecDepth 100000
def r_w_szIntS_0 : List CO := [⟨none, (some 4), (.mv (.k (.v (.int .i64 (0)))))⟩]
def r_w_szIntS_1 : List CO := [⟨none, (some 5), (.mv (.t 1))⟩, ⟨none, (some 6), (.mv (.t 0))⟩, ⟨none, (some 7), (.len false (.t 6))⟩, ⟨none, (some 8), (.bin .sub .none (.t 5) (.t 7))⟩, ⟨none, (some 1), (.mv (.t 8))⟩]
def r_w_szIntS_2 : List CO := [⟨none, (some 9), (.mv (.t 1))⟩, ⟨none, (some 10), (.bin .lss .none (.t 9) (.k (.v (.int .i64 (0)))))⟩]
def r_w_szIntS_3 : List CO := [⟨none, (some 4), (.mv (.k (.v (.int .i64 (-1)))))⟩]
def r_w_szIntS_4 : List CO := [⟨none, (some 11), (.mv (.t 1))⟩, ⟨none, (some 4), (.mv (.t 11))⟩]
/-- loop.example/g00884/laws.szIntS -/
def c_w_szIntS : C := (.seq (.reg r_w_szIntS_0 [0, 1]) (.seq (.reg r_w_szIntS_1 [1]) (.seq (.seq (.reg r_w_szIntS_2 [1, 10]) (.cond (.t 10) (.seq (.reg r_w_szIntS_3 [4]) .ret) .skip)) (.seq (.reg r_w_szIntS_4 [4]) .ret))))
def k_w_szIntS : Nat → List Nat
  | 0 => [0, 1]
  | 1 => [1]
  | 2 => [1, 10]
  | 3 => [4]
  | 4 => [4]
  | _ => []
theorem fn_w_szIntS : FnC Try.prog n_w_szIntS c_w_szIntS [(.tmp 4)] 12 :=
  ⟨Try.f85, _, k_w_szIntS, Try.func85, rfl, by kernel_rfl, by kernel_rfl, by kernel_rfl, rfl⟩
def r_w_toIntS_0 : List CO := [⟨none, (some 2), (.mv (.k (.v (.slice none 0 0))))⟩]
def r_w_toIntS_1 : List CO := [⟨none, (some 5), (.mv (.t 0))⟩, ⟨none, (some 6), (.len false (.t 5))⟩, ⟨none, (some 7), (.mks 1 (.v (.int .i64 (0))) 8 (.t 6) (.t 6))⟩, ⟨none, (some 3), (.mv (.t 7))⟩]
def r_w_toIntS_2 : List CO := [⟨none, (some 4), (.mv (.k (.v (.int .i64 (0)))))⟩]
def r_w_toIntS_3 : List CO := [⟨none, (some 8), (.mv (.t 4))⟩, ⟨none, (some 9), (.mv (.t 0))⟩, ⟨none, (some 10), (.len false (.t 9))⟩, ⟨none, (some 11), (.bin .lss .none (.t 8) (.t 10))⟩]
def r_w_toIntS_4 : List CO := [⟨none, (some 14), (.mv (.t 3))⟩, ⟨none, (some 15), (.mv (.t 4))⟩, ⟨none, (some 16), (.mv (.t 0))⟩, ⟨none, (some 17), (.mv (.t 4))⟩, ⟨none, (some 18), (.iaddr 1 (.t 16) (.t 17))⟩, ⟨none, (some 19), (.ld false 1 (.t 18))⟩, ⟨none, (some 20), (.iaddr 1 (.t 14) (.t 15))⟩, ⟨none, none, (.st 1 (.t 20) (.t 19))⟩]
def r_w_toIntS_5 : List CO := [⟨none, (some 12), (.mv (.t 4))⟩, ⟨none, (some 13), (.bin .add .none (.t 12) (.k (.v (.int .i64 (1)))))⟩, ⟨none, (some 4), (.mv (.t 13))⟩]
def l_w_toIntS_6 : C := (.seq (.seq (.reg r_w_toIntS_3 [0, 3, 4, 11]) (.cond (.t 11) .skip (.exit 0))) (.seq (.block 1 (.reg r_w_toIntS_4 [0, 3, 4])) (.reg r_w_toIntS_5 [0, 3, 4])))
def r_w_toIntS_7 : List CO := [⟨none, (some 21), (.mv (.t 3))⟩, ⟨none, (some 2), (.mv (.t 21))⟩]
/-- loop.example/g00884/laws.toIntS -/
def c_w_toIntS : C := (.seq (.reg r_w_toIntS_0 [0]) (.seq (.reg r_w_toIntS_1 [0, 3]) (.seq (.seq (.reg r_w_toIntS_2 [0, 3, 4]) (.block 0 (.loop l_w_toIntS_6))) (.seq (.reg r_w_toIntS_7 [2]) .ret))))
def k_w_toIntS : Nat → List Nat
  | 0 => [0]
  | 1 => [0, 3]
  | 2 => [0, 3, 4]
  | 3 => [0, 3, 4, 11]
  | 5 => [0, 3, 4]
  | 4 => [0, 3, 4]
  | 6 => [2]
  | _ => []
theorem fn_w_toIntS : FnC Try.prog n_w_toIntS c_w_toIntS [(.tmp 2)] 22 :=
  ⟨Try.f87, _, k_w_toIntS, Try.func87, rfl, by kernel_rfl, by kernel_rfl, by kernel_rfl, rfl⟩
def r_w_eqIntS_0 : List CO := [⟨none, (some 4), (.mv (.k (.v (.bool false))))⟩]
def r_w_eqIntS_1 : List CO := [⟨none, (some 6), (.mv (.t 0))⟩, ⟨none, (some 7), (.len false (.t 6))⟩, ⟨none, (some 8), (.mv (.t 1))⟩, ⟨none, (some 9), (.len false (.t 8))⟩, ⟨none, (some 10), (.bin .neq .none (.t 7) (.t 9))⟩]
def r_w_eqIntS_2 : List CO := [⟨none, (some 4), (.mv (.k (.v (.bool false))))⟩]
def r_w_eqIntS_3 : List CO := [⟨none, (some 5), (.mv (.k (.v (.int .i64 (0)))))⟩]
def r_w_eqIntS_4 : List CO := [⟨none, (some 11), (.mv (.t 5))⟩, ⟨none, (some 12), (.mv (.t 0))⟩, ⟨none, (some 13), (.len false (.t 12))⟩, ⟨none, (some 14), (.bin .lss .none (.t 11) (.t 13))⟩]
def r_w_eqIntS_5 : List CO := [⟨none, (some 17), (.mv (.t 0))⟩, ⟨none, (some 18), (.mv (.t 5))⟩, ⟨none, (some 19), (.iaddr 1 (.t 17) (.t 18))⟩, ⟨none, (some 20), (.ld false 1 (.t 19))⟩, ⟨none, (some 21), (.mv (.t 1))⟩, ⟨none, (some 22), (.mv (.t 5))⟩, ⟨none, (some 23), (.iaddr 1 (.t 21) (.t 22))⟩, ⟨none, (some 24), (.ld false 1 (.t 23))⟩, ⟨none, (some 25), (.bin .neq .none (.t 20) (.t 24))⟩]
def p_w_eqIntS_5 : List (List Nat) := [[], [], [0, 1], [0, 1, 2], [], [], [4, 5], [4, 5, 6], [0, 1, 2, 3, 4, 5, 6, 7]]
def r_w_eqIntS_6 : List CO := [⟨none, (some 4), (.mv (.k (.v (.bool false))))⟩]
def r_w_eqIntS_7 : List CO := [⟨none, (some 15), (.mv (.t 5))⟩, ⟨none, (some 16), (.bin .add .none (.t 15) (.k (.v (.int .i64 (1)))))⟩, ⟨none, (some 5), (.mv (.t 16))⟩]
def l_w_eqIntS_8 : C := (.seq (.seq (.reg r_w_eqIntS_4 [0, 1, 5, 14]) (.cond (.t 14) .skip (.exit 0))) (.seq (.block 1 (.seq (.regD r_w_eqIntS_5 p_w_eqIntS_5 [0, 1, 5, 25]) (.cond (.t 25) (.seq (.reg r_w_eqIntS_6 [4]) .ret) .skip))) (.reg r_w_eqIntS_7 [0, 1, 5])))
def r_w_eqIntS_9 : List CO := [⟨none, (some 4), (.mv (.k (.v (.bool true))))⟩]
/-- loop.example/g00884/laws.eqIntS -/
def c_w_eqIntS : C := (.seq (.reg r_w_eqIntS_0 [0, 1]) (.seq (.seq (.reg r_w_eqIntS_1 [0, 1, 10]) (.cond (.t 10) (.seq (.reg r_w_eqIntS_2 [4]) .ret) .skip)) (.seq (.seq (.reg r_w_eqIntS_3 [0, 1, 5]) (.block 0 (.loop l_w_eqIntS_8))) (.seq (.reg r_w_eqIntS_9 [4]) .ret))))
def k_w_eqIntS : Nat → List Nat
  | 0 => [0, 1]
  | 1 => [0, 1, 10]
  | 2 => [4]
  | 3 => [0, 1, 5]
  | 4 => [0, 1, 5, 14]
  | 6 => [0, 1, 5, 25]
  | 7 => [4]
  | 5 => [0, 1, 5]
  | 8 => [4]
  | _ => []
theorem fn_w_eqIntS : FnC Try.prog n_w_eqIntS c_w_eqIntS [(.tmp 4)] 26 :=
  ⟨Try.f91, _, k_w_eqIntS, Try.func91, rfl, by kernel_rfl, by kernel_rfl, by kernel_rfl, rfl⟩
def r_w_markIntS_0 : List CO := [⟨none, (some 4), (.mv (.k (.v (.int .i64 (0)))))⟩]
def r_w_markIntS_1 : List CO := [⟨none, (some 5), (.mv (.k (.v (.int .i64 (0)))))⟩]
def r_w_markIntS_2 : List CO := [⟨none, (some 6), (.mv (.t 5))⟩, ⟨none, (some 7), (.mv (.t 0))⟩, ⟨none, (some 8), (.len false (.t 7))⟩, ⟨none, (some 9), (.bin .lss .none (.t 6) (.t 8))⟩]
def r_w_markIntS_3 : List CO := [⟨none, (some 12), (.mv (.t 0))⟩, ⟨none, (some 13), (.mv (.t 5))⟩, ⟨none, (some 14), (.mv (.t 1))⟩, ⟨none, (some 15), (.iaddr 1 (.t 12) (.t 13))⟩, ⟨none, none, (.st 1 (.t 15) (.t 14))⟩]
def r_w_markIntS_4 : List CO := [⟨none, (some 16), (.mv (.t 1))⟩, ⟨none, (some 17), (.bin .add .none (.t 16) (.k (.v (.int .i64 (1)))))⟩, ⟨none, (some 1), (.mv (.t 17))⟩]
def r_w_markIntS_5 : List CO := [⟨none, (some 10), (.mv (.t 5))⟩, ⟨none, (some 11), (.bin .add .none (.t 10) (.k (.v (.int .i64 (1)))))⟩, ⟨none, (some 5), (.mv (.t 11))⟩]
def l_w_markIntS_6 : C := (.seq (.seq (.reg r_w_markIntS_2 [0, 1, 5, 9]) (.cond (.t 9) .skip (.exit 0))) (.seq (.block 1 (.seq (.reg r_w_markIntS_3 [0, 1, 5]) (.reg r_w_markIntS_4 [0, 1, 5]))) (.reg r_w_markIntS_5 [0, 1, 5])))
def r_w_markIntS_7 : List CO := [⟨none, (some 18), (.mv (.t 1))⟩, ⟨none, (some 4), (.mv (.t 18))⟩]
/-- loop.example/g00884/laws.markIntS -/
def c_w_markIntS : C := (.seq (.reg r_w_markIntS_0 [0, 1]) (.seq (.seq (.reg r_w_markIntS_1 [0, 1, 5]) (.block 0 (.loop l_w_markIntS_6))) (.seq (.reg r_w_markIntS_7 [4]) .ret)))
def k_w_markIntS : Nat → List Nat
  | 0 => [0, 1]
  | 1 => [0, 1, 5]
  | 2 => [0, 1, 5, 9]
  | 4 => [0, 1, 5]
  | 5 => [0, 1, 5]
  | 3 => [0, 1, 5]
  | 6 => [4]
  | _ => []
theorem fn_w_markIntS : FnC Try.prog n_w_markIntS c_w_markIntS [(.tmp 4)] 19 :=
  ⟨Try.f92, _, k_w_markIntS, Try.func92, rfl, by kernel_rfl, by kernel_rfl, by kernel_rfl, rfl⟩
def r_w_heldIntS_0 : List CO := [⟨none, (some 4), (.mv (.k (.v (.int .i64 (0)))))⟩]
def r_w_heldIntS_1 : List CO := [⟨none, (some 5), (.mv (.k (.v (.int .i64 (0)))))⟩]
def r_w_heldIntS_2 : List CO := [⟨none, (some 6), (.mv (.t 5))⟩, ⟨none, (some 7), (.mv (.t 0))⟩, ⟨none, (some 8), (.len false (.t 7))⟩, ⟨none, (some 9), (.bin .lss .none (.t 6) (.t 8))⟩]
def r_w_heldIntS_3 : List CO := [⟨none, (some 12), (.mv (.t 0))⟩, ⟨none, (some 13), (.mv (.t 5))⟩, ⟨none, (some 14), (.iaddr 1 (.t 12) (.t 13))⟩, ⟨none, (some 15), (.ld false 1 (.t 14))⟩, ⟨none, (some 16), (.mv (.t 1))⟩, ⟨none, (some 17), (.bin .neq .none (.t 15) (.t 16))⟩]
def r_w_heldIntS_4 : List CO := [⟨none, (some 4), (.mv (.k (.v (.int .i64 (-1)))))⟩]
def r_w_heldIntS_5 : List CO := [⟨none, (some 18), (.mv (.t 1))⟩, ⟨none, (some 19), (.bin .add .none (.t 18) (.k (.v (.int .i64 (1)))))⟩, ⟨none, (some 1), (.mv (.t 19))⟩]
def r_w_heldIntS_6 : List CO := [⟨none, (some 10), (.mv (.t 5))⟩, ⟨none, (some 11), (.bin .add .none (.t 10) (.k (.v (.int .i64 (1)))))⟩, ⟨none, (some 5), (.mv (.t 11))⟩]
def l_w_heldIntS_7 : C := (.seq (.seq (.reg r_w_heldIntS_2 [0, 1, 5, 9]) (.cond (.t 9) .skip (.exit 0))) (.seq (.block 1 (.seq (.seq (.reg r_w_heldIntS_3 [0, 1, 5, 17]) (.cond (.t 17) (.seq (.reg r_w_heldIntS_4 [4]) .ret) .skip)) (.reg r_w_heldIntS_5 [0, 1, 5]))) (.reg r_w_heldIntS_6 [0, 1, 5])))
def r_w_heldIntS_8 : List CO := [⟨none, (some 20), (.mv (.t 1))⟩, ⟨none, (some 4), (.mv (.t 20))⟩]
/-- loop.example/g00884/laws.heldIntS -/
def c_w_heldIntS : C := (.seq (.reg r_w_heldIntS_0 [0, 1]) (.seq (.seq (.reg r_w_heldIntS_1 [0, 1, 5]) (.block 0 (.loop l_w_heldIntS_7))) (.seq (.reg r_w_heldIntS_8 [4]) .ret)))
def k_w_heldIntS : Nat → List Nat
  | 0 => [0, 1]
  | 1 => [0, 1, 5]
  | 2 => [0, 1, 5, 9]
  | 4 => [0, 1, 5, 17]
  | 5 => [4]
  | 6 => [0, 1, 5]
  | 3 => [0, 1, 5]
  | 7 => [4]
  | _ => []
theorem fn_w_heldIntS : FnC Try.prog n_w_heldIntS c_w_heldIntS [(.tmp 4)] 21 :=
  ⟨Try.f93, _, k_w_heldIntS, Try.func93, rfl, by kernel_rfl, by kernel_rfl, by kernel_rfl, rfl⟩
end Go.Proofs.Ytnihjjelamfgdaa
