/- The compact code of the functions, and that it is theirs: written by a program of this claim. -/
import Derived.Test.YtnihjjelamfgdaaNums
namespace Go.Proofs.Ytnihjjelamfgdaa
open Go.Abs
set_option maxRecDepth 100000
def r_w_szIntSS_0 : List CO := [⟨none, (some 4), (.mv (.k (.v (.int .i64 (0)))))⟩]
def r_w_szIntSS_1 : List CO := [⟨none, (some 6), (.mv (.t 1))⟩, ⟨none, (some 7), (.mv (.t 0))⟩, ⟨none, (some 8), (.len false (.t 7))⟩, ⟨none, (some 9), (.bin .sub .none (.t 6) (.t 8))⟩, ⟨none, (some 1), (.mv (.t 9))⟩]
def r_w_szIntSS_2 : List CO := [⟨none, (some 10), (.mv (.t 1))⟩, ⟨none, (some 11), (.bin .lss .none (.t 10) (.k (.v (.int .i64 (0)))))⟩]
def r_w_szIntSS_3 : List CO := [⟨none, (some 4), (.mv (.k (.v (.int .i64 (-1)))))⟩]
def r_w_szIntSS_4 : List CO := [⟨none, (some 5), (.mv (.k (.v (.int .i64 (0)))))⟩]
def r_w_szIntSS_5 : List CO := [⟨none, (some 12), (.mv (.t 5))⟩, ⟨none, (some 13), (.mv (.t 0))⟩, ⟨none, (some 14), (.len false (.t 13))⟩, ⟨none, (some 15), (.bin .lss .none (.t 12) (.t 14))⟩]
def r_w_szIntSS_6 : List CO := [⟨none, (some 18), (.mv (.t 0))⟩, ⟨none, (some 19), (.mv (.t 5))⟩, ⟨none, (some 20), (.iaddr 1 (.t 18) (.t 19))⟩, ⟨none, (some 21), (.ld false 1 (.t 20))⟩, ⟨none, (some 22), (.mv (.t 1))⟩, ⟨none, (some 23), (.call n_w_szIntS [(.t 21), (.t 22)])⟩, ⟨none, (some 1), (.mv (.t 23))⟩]
def r_w_szIntSS_7 : List CO := [⟨none, (some 24), (.mv (.t 1))⟩, ⟨none, (some 25), (.bin .lss .none (.t 24) (.k (.v (.int .i64 (0)))))⟩]
def r_w_szIntSS_8 : List CO := [⟨none, (some 4), (.mv (.k (.v (.int .i64 (-1)))))⟩]
def r_w_szIntSS_9 : List CO := [⟨none, (some 16), (.mv (.t 5))⟩, ⟨none, (some 17), (.bin .add .none (.t 16) (.k (.v (.int .i64 (1)))))⟩, ⟨none, (some 5), (.mv (.t 17))⟩]
def l_w_szIntSS_10 : C := (.seq (.seq (.reg r_w_szIntSS_5 [0, 1, 5, 15]) (.cond (.t 15) .skip (.exit 0))) (.seq (.block 1 (.seq (.reg r_w_szIntSS_6 [0, 1, 5]) (.seq (.reg r_w_szIntSS_7 [0, 1, 5, 25]) (.cond (.t 25) (.seq (.reg r_w_szIntSS_8 [4]) .ret) .skip)))) (.reg r_w_szIntSS_9 [0, 1, 5])))
def r_w_szIntSS_11 : List CO := [⟨none, (some 26), (.mv (.t 1))⟩, ⟨none, (some 4), (.mv (.t 26))⟩]
/-- loop.example/g00884/laws.szIntSS -/
def c_w_szIntSS : C := (.seq (.reg r_w_szIntSS_0 [0, 1]) (.seq (.reg r_w_szIntSS_1 [0, 1]) (.seq (.seq (.reg r_w_szIntSS_2 [0, 1, 11]) (.cond (.t 11) (.seq (.reg r_w_szIntSS_3 [4]) .ret) .skip)) (.seq (.seq (.reg r_w_szIntSS_4 [0, 1, 5]) (.block 0 (.loop l_w_szIntSS_10))) (.seq (.reg r_w_szIntSS_11 [4]) .ret)))))
def k_w_szIntSS : Nat → List Nat
  | 0 => [0, 1]
  | 1 => [0, 1]
  | 2 => [0, 1, 11]
  | 3 => [4]
  | 4 => [0, 1, 5]
  | 5 => [0, 1, 5, 15]
  | 7 => [0, 1, 5]
  | 8 => [0, 1, 5, 25]
  | 9 => [4]
  | 6 => [0, 1, 5]
  | 10 => [4]
  | _ => []
theorem fn_w_szIntSS : FnC Try.prog n_w_szIntSS c_w_szIntSS [(.tmp 4)] 27 :=
  ⟨Try.f26, _, k_w_szIntSS, Try.func26, rfl, by kernel_rfl, by kernel_rfl, by kernel_rfl, rfl⟩
def r_w_toIntSS_0 : List CO := [⟨none, (some 2), (.mv (.k (.v (.slice none 0 0))))⟩]
def r_w_toIntSS_1 : List CO := [⟨none, (some 5), (.mv (.t 0))⟩, ⟨none, (some 6), (.len false (.t 5))⟩, ⟨none, (some 7), (.mks 1 (.v (.slice none 0 0)) 24 (.t 6) (.t 6))⟩, ⟨none, (some 3), (.mv (.t 7))⟩]
def r_w_toIntSS_2 : List CO := [⟨none, (some 4), (.mv (.k (.v (.int .i64 (0)))))⟩]
def r_w_toIntSS_3 : List CO := [⟨none, (some 8), (.mv (.t 4))⟩, ⟨none, (some 9), (.mv (.t 0))⟩, ⟨none, (some 10), (.len false (.t 9))⟩, ⟨none, (some 11), (.bin .lss .none (.t 8) (.t 10))⟩]
def r_w_toIntSS_4 : List CO := [⟨none, (some 14), (.mv (.t 3))⟩, ⟨none, (some 15), (.mv (.t 4))⟩, ⟨none, (some 16), (.mv (.t 0))⟩, ⟨none, (some 17), (.mv (.t 4))⟩, ⟨none, (some 18), (.iaddr 1 (.t 16) (.t 17))⟩, ⟨none, (some 19), (.ld false 1 (.t 18))⟩, ⟨none, (some 20), (.call n_w_toIntS [(.t 19)])⟩, ⟨none, (some 21), (.iaddr 1 (.t 14) (.t 15))⟩, ⟨none, none, (.st 1 (.t 21) (.t 20))⟩]
def r_w_toIntSS_5 : List CO := [⟨none, (some 12), (.mv (.t 4))⟩, ⟨none, (some 13), (.bin .add .none (.t 12) (.k (.v (.int .i64 (1)))))⟩, ⟨none, (some 4), (.mv (.t 13))⟩]
def l_w_toIntSS_6 : C := (.seq (.seq (.reg r_w_toIntSS_3 [0, 3, 4, 11]) (.cond (.t 11) .skip (.exit 0))) (.seq (.block 1 (.reg r_w_toIntSS_4 [0, 3, 4])) (.reg r_w_toIntSS_5 [0, 3, 4])))
def r_w_toIntSS_7 : List CO := [⟨none, (some 22), (.mv (.t 3))⟩, ⟨none, (some 2), (.mv (.t 22))⟩]
/-- loop.example/g00884/laws.toIntSS -/
def c_w_toIntSS : C := (.seq (.reg r_w_toIntSS_0 [0]) (.seq (.reg r_w_toIntSS_1 [0, 3]) (.seq (.seq (.reg r_w_toIntSS_2 [0, 3, 4]) (.block 0 (.loop l_w_toIntSS_6))) (.seq (.reg r_w_toIntSS_7 [2]) .ret))))
def k_w_toIntSS : Nat → List Nat
  | 0 => [0]
  | 1 => [0, 3]
  | 2 => [0, 3, 4]
  | 3 => [0, 3, 4, 11]
  | 5 => [0, 3, 4]
  | 4 => [0, 3, 4]
  | 6 => [2]
  | _ => []
theorem fn_w_toIntSS : FnC Try.prog n_w_toIntSS c_w_toIntSS [(.tmp 2)] 23 :=
  ⟨Try.f28, _, k_w_toIntSS, Try.func28, rfl, by kernel_rfl, by kernel_rfl, by kernel_rfl, rfl⟩
def r_w_eqIntSS_0 : List CO := [⟨none, (some 4), (.mv (.k (.v (.bool false))))⟩]
def r_w_eqIntSS_1 : List CO := [⟨none, (some 6), (.mv (.t 0))⟩, ⟨none, (some 7), (.len false (.t 6))⟩, ⟨none, (some 8), (.mv (.t 1))⟩, ⟨none, (some 9), (.len false (.t 8))⟩, ⟨none, (some 10), (.bin .neq .none (.t 7) (.t 9))⟩]
def r_w_eqIntSS_2 : List CO := [⟨none, (some 4), (.mv (.k (.v (.bool false))))⟩]
def r_w_eqIntSS_3 : List CO := [⟨none, (some 5), (.mv (.k (.v (.int .i64 (0)))))⟩]
def r_w_eqIntSS_4 : List CO := [⟨none, (some 11), (.mv (.t 5))⟩, ⟨none, (some 12), (.mv (.t 0))⟩, ⟨none, (some 13), (.len false (.t 12))⟩, ⟨none, (some 14), (.bin .lss .none (.t 11) (.t 13))⟩]
def r_w_eqIntSS_5 : List CO := [⟨none, (some 17), (.mv (.t 0))⟩, ⟨none, (some 18), (.mv (.t 5))⟩, ⟨none, (some 19), (.iaddr 1 (.t 17) (.t 18))⟩, ⟨none, (some 20), (.ld false 1 (.t 19))⟩, ⟨none, (some 21), (.mv (.t 1))⟩, ⟨none, (some 22), (.mv (.t 5))⟩, ⟨none, (some 23), (.iaddr 1 (.t 21) (.t 22))⟩, ⟨none, (some 24), (.ld false 1 (.t 23))⟩, ⟨none, (some 25), (.call n_w_eqIntS [(.t 20), (.t 24)])⟩, ⟨none, (some 26), (.un .not (.t 25))⟩]
def p_w_eqIntSS_5 : List (List Nat) := [[], [], [0, 1], [0, 1, 2], [], [], [4, 5], [4, 5, 6], [0, 1, 2, 3, 4, 5, 6, 7], [0, 1, 2, 3, 4, 5, 6, 7, 8]]
def r_w_eqIntSS_6 : List CO := [⟨none, (some 4), (.mv (.k (.v (.bool false))))⟩]
def r_w_eqIntSS_7 : List CO := [⟨none, (some 15), (.mv (.t 5))⟩, ⟨none, (some 16), (.bin .add .none (.t 15) (.k (.v (.int .i64 (1)))))⟩, ⟨none, (some 5), (.mv (.t 16))⟩]
def l_w_eqIntSS_8 : C := (.seq (.seq (.reg r_w_eqIntSS_4 [0, 1, 5, 14]) (.cond (.t 14) .skip (.exit 0))) (.seq (.block 1 (.seq (.regD r_w_eqIntSS_5 p_w_eqIntSS_5 [0, 1, 5, 26]) (.cond (.t 26) (.seq (.reg r_w_eqIntSS_6 [4]) .ret) .skip))) (.reg r_w_eqIntSS_7 [0, 1, 5])))
def r_w_eqIntSS_9 : List CO := [⟨none, (some 4), (.mv (.k (.v (.bool true))))⟩]
/-- loop.example/g00884/laws.eqIntSS -/
def c_w_eqIntSS : C := (.seq (.reg r_w_eqIntSS_0 [0, 1]) (.seq (.seq (.reg r_w_eqIntSS_1 [0, 1, 10]) (.cond (.t 10) (.seq (.reg r_w_eqIntSS_2 [4]) .ret) .skip)) (.seq (.seq (.reg r_w_eqIntSS_3 [0, 1, 5]) (.block 0 (.loop l_w_eqIntSS_8))) (.seq (.reg r_w_eqIntSS_9 [4]) .ret))))
def k_w_eqIntSS : Nat → List Nat
  | 0 => [0, 1]
  | 1 => [0, 1, 10]
  | 2 => [4]
  | 3 => [0, 1, 5]
  | 4 => [0, 1, 5, 14]
  | 6 => [0, 1, 5, 26]
  | 7 => [4]
  | 5 => [0, 1, 5]
  | 8 => [4]
  | _ => []
theorem fn_w_eqIntSS : FnC Try.prog n_w_eqIntSS c_w_eqIntSS [(.tmp 4)] 27 :=
  ⟨Try.f30, _, k_w_eqIntSS, Try.func30, rfl, by kernel_rfl, by kernel_rfl, by kernel_rfl, rfl⟩
def r_w_markIntSS_0 : List CO := [⟨none, (some 4), (.mv (.k (.v (.int .i64 (0)))))⟩]
def r_w_markIntSS_1 : List CO := [⟨none, (some 5), (.mv (.k (.v (.int .i64 (0)))))⟩]
def r_w_markIntSS_2 : List CO := [⟨none, (some 6), (.mv (.t 5))⟩, ⟨none, (some 7), (.mv (.t 0))⟩, ⟨none, (some 8), (.len false (.t 7))⟩, ⟨none, (some 9), (.bin .lss .none (.t 6) (.t 8))⟩]
def r_w_markIntSS_3 : List CO := [⟨none, (some 12), (.mv (.t 0))⟩, ⟨none, (some 13), (.mv (.t 5))⟩, ⟨none, (some 14), (.iaddr 1 (.t 12) (.t 13))⟩, ⟨none, (some 15), (.ld false 1 (.t 14))⟩, ⟨none, (some 16), (.mv (.t 1))⟩, ⟨none, (some 17), (.call n_w_markIntS [(.t 15), (.t 16)])⟩, ⟨none, (some 1), (.mv (.t 17))⟩]
def r_w_markIntSS_4 : List CO := [⟨none, (some 10), (.mv (.t 5))⟩, ⟨none, (some 11), (.bin .add .none (.t 10) (.k (.v (.int .i64 (1)))))⟩, ⟨none, (some 5), (.mv (.t 11))⟩]
def l_w_markIntSS_5 : C := (.seq (.seq (.reg r_w_markIntSS_2 [0, 1, 5, 9]) (.cond (.t 9) .skip (.exit 0))) (.seq (.block 1 (.wk (.reg r_w_markIntSS_3 [0, 1, 5]))) (.reg r_w_markIntSS_4 [0, 1, 5])))
def r_w_markIntSS_6 : List CO := [⟨none, (some 18), (.mv (.t 1))⟩, ⟨none, (some 4), (.mv (.t 18))⟩]
/-- loop.example/g00884/laws.markIntSS -/
def c_w_markIntSS : C := (.seq (.reg r_w_markIntSS_0 [0, 1]) (.seq (.seq (.reg r_w_markIntSS_1 [0, 1, 5]) (.block 0 (.loop l_w_markIntSS_5))) (.seq (.reg r_w_markIntSS_6 [4]) .ret)))
def k_w_markIntSS : Nat → List Nat
  | 0 => [0, 1]
  | 1 => [0, 1, 5]
  | 2 => [0, 1, 5, 9]
  | 4 => [999999, 0, 1, 5]
  | 3 => [0, 1, 5]
  | 5 => [4]
  | _ => []
theorem fn_w_markIntSS : FnC Try.prog n_w_markIntSS c_w_markIntSS [(.tmp 4)] 19 :=
  ⟨Try.f31, _, k_w_markIntSS, Try.func31, rfl, by kernel_rfl, by kernel_rfl, by kernel_rfl, rfl⟩
def r_w_heldIntSS_0 : List CO := [⟨none, (some 4), (.mv (.k (.v (.int .i64 (0)))))⟩]
def r_w_heldIntSS_1 : List CO := [⟨none, (some 5), (.mv (.k (.v (.int .i64 (0)))))⟩]
def r_w_heldIntSS_2 : List CO := [⟨none, (some 6), (.mv (.t 5))⟩, ⟨none, (some 7), (.mv (.t 0))⟩, ⟨none, (some 8), (.len false (.t 7))⟩, ⟨none, (some 9), (.bin .lss .none (.t 6) (.t 8))⟩]
def r_w_heldIntSS_3 : List CO := [⟨none, (some 12), (.mv (.t 0))⟩, ⟨none, (some 13), (.mv (.t 5))⟩, ⟨none, (some 14), (.iaddr 1 (.t 12) (.t 13))⟩, ⟨none, (some 15), (.ld false 1 (.t 14))⟩, ⟨none, (some 16), (.mv (.t 1))⟩, ⟨none, (some 17), (.call n_w_heldIntS [(.t 15), (.t 16)])⟩, ⟨none, (some 1), (.mv (.t 17))⟩]
def r_w_heldIntSS_4 : List CO := [⟨none, (some 18), (.mv (.t 1))⟩, ⟨none, (some 19), (.bin .lss .none (.t 18) (.k (.v (.int .i64 (0)))))⟩]
def r_w_heldIntSS_5 : List CO := [⟨none, (some 4), (.mv (.k (.v (.int .i64 (-1)))))⟩]
def r_w_heldIntSS_6 : List CO := [⟨none, (some 10), (.mv (.t 5))⟩, ⟨none, (some 11), (.bin .add .none (.t 10) (.k (.v (.int .i64 (1)))))⟩, ⟨none, (some 5), (.mv (.t 11))⟩]
def l_w_heldIntSS_7 : C := (.seq (.seq (.reg r_w_heldIntSS_2 [0, 1, 5, 9]) (.cond (.t 9) .skip (.exit 0))) (.seq (.block 1 (.seq (.reg r_w_heldIntSS_3 [0, 1, 5]) (.seq (.reg r_w_heldIntSS_4 [0, 1, 5, 19]) (.cond (.t 19) (.seq (.reg r_w_heldIntSS_5 [4]) .ret) .skip)))) (.reg r_w_heldIntSS_6 [0, 1, 5])))
def r_w_heldIntSS_8 : List CO := [⟨none, (some 20), (.mv (.t 1))⟩, ⟨none, (some 4), (.mv (.t 20))⟩]
/-- loop.example/g00884/laws.heldIntSS -/
def c_w_heldIntSS : C := (.seq (.reg r_w_heldIntSS_0 [0, 1]) (.seq (.seq (.reg r_w_heldIntSS_1 [0, 1, 5]) (.block 0 (.loop l_w_heldIntSS_7))) (.seq (.reg r_w_heldIntSS_8 [4]) .ret)))
def k_w_heldIntSS : Nat → List Nat
  | 0 => [0, 1]
  | 1 => [0, 1, 5]
  | 2 => [0, 1, 5, 9]
  | 4 => [0, 1, 5]
  | 5 => [0, 1, 5, 19]
  | 6 => [4]
  | 3 => [0, 1, 5]
  | 7 => [4]
  | _ => []
theorem fn_w_heldIntSS : FnC Try.prog n_w_heldIntSS c_w_heldIntSS [(.tmp 4)] 21 :=
  ⟨Try.f32, _, k_w_heldIntSS, Try.func32, rfl, by kernel_rfl, by kernel_rfl, by kernel_rfl, rfl⟩
end Go.Proofs.Ytnihjjelamfgdaa
