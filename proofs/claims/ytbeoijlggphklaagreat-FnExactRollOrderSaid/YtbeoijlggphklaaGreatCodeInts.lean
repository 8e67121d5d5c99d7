/- The compact code of the functions, and that it is theirs: written by a program of this claim. -/
import Derived.Test.YtbeoijlggphklaaGreatNums
namespace Go.Proofs.YtbeoijlggphklaaGreat
open Go.Abs
set_option maxRecDepth 100000
def r_w_eqIntS_0 : List CO := [⟨none, (some 4), (.mv (.k (.v (.bool false))))⟩]
def r_w_eqIntS_1 : List CO := [⟨none, (some 6), (.mv (.t 0))⟩, ⟨none, (some 7), (.len false (.t 6))⟩, ⟨none, (some 8), (.mv (.t 1))⟩, ⟨none, (some 9), (.len false (.t 8))⟩, ⟨none, (some 10), (.bin .neq .none (.t 7) (.t 9))⟩]
def r_w_eqIntS_2 : List CO := [⟨none, (some 4), (.mv (.k (.v (.bool false))))⟩]
def r_w_eqIntS_3 : List CO := [⟨none, (some 5), (.mv (.k (.v (.int .i64 (0)))))⟩]
def r_w_eqIntS_4 : List CO := [⟨none, (some 11), (.mv (.t 5))⟩, ⟨none, (some 12), (.mv (.t 0))⟩, ⟨none, (some 13), (.len false (.t 12))⟩, ⟨none, (some 14), (.bin .lss .none (.t 11) (.t 13))⟩]
def r_w_eqIntS_5 : List CO := [⟨none, (some 17), (.mv (.t 0))⟩, ⟨none, (some 18), (.mv (.t 5))⟩, ⟨none, (some 19), (.iaddr 1 (.t 17) (.t 18))⟩, ⟨none, (some 20), (.ld false 1 (.t 19))⟩, ⟨none, (some 21), (.mv (.t 1))⟩, ⟨none, (some 22), (.mv (.t 5))⟩, ⟨none, (some 23), (.iaddr 1 (.t 21) (.t 22))⟩, ⟨none, (some 24), (.ld false 1 (.t 23))⟩, ⟨none, (some 25), (.bin .neq .none (.t 20) (.t 24))⟩]
def p_w_eqIntS_5 : List (List Nat) := [[], [], [0, 1], [0, 1, 2], [], [], [4, 5], [4, 5, 6], [0, 1, 2, 3, 4, 5, 6, 7]]
def r_w_eqIntS_6 : List CO := [⟨none, (some 4), (.mv (.k (.v (.bool false))))⟩]
def r_w_eqIntS_7 : List CO := [⟨none, (some 15), (.mv (.t 5))⟩, ⟨none, (some 16), (.bin .add .none (.t 15) (.k (.v (.int .i64 (1)))))⟩, ⟨none, (some 5), (.mv (.t 16))⟩]
def l_w_eqIntS_8 : C := (.seq (.seq (.reg r_w_eqIntS_4 [0, 1, 5, 14]) (.cond (.t 14) .skip (.exit 0))) (.seq (.block 1 (.seq (.regD r_w_eqIntS_5 p_w_eqIntS_5 [0, 1, 5, 25]) (.cond (.t 25) (.seq (.reg r_w_eqIntS_6 [4]) .ret) .skip))) (.reg r_w_eqIntS_7 [0, 1, 5])))
def r_w_eqIntS_9 : List CO := [⟨none, (some 4), (.mv (.k (.v (.bool true))))⟩]
/-- loop.example/g00884/laws.eqIntS -/
def c_w_eqIntS : C := (.seq (.reg r_w_eqIntS_0 [0, 1]) (.seq (.seq (.reg r_w_eqIntS_1 [0, 1, 10]) (.cond (.t 10) (.seq (.reg r_w_eqIntS_2 [4]) .ret) .skip)) (.seq (.seq (.reg r_w_eqIntS_3 [0, 1, 5]) (.block 0 (.loop l_w_eqIntS_8))) (.seq (.reg r_w_eqIntS_9 [4]) .ret))))
def k_w_eqIntS : Nat → List Nat
  | 0 => [0, 1]
  | 1 => [0, 1, 10]
  | 2 => [4]
  | 3 => [0, 1, 5]
  | 4 => [0, 1, 5, 14]
  | 6 => [0, 1, 5, 25]
  | 7 => [4]
  | 5 => [0, 1, 5]
  | 8 => [4]
  | _ => []
theorem fn_w_eqIntS : FnC Tryz.prog n_w_eqIntS c_w_eqIntS [(.tmp 4)] 26 :=
  ⟨Tryz.f8, _, k_w_eqIntS, Tryz.func8, rfl, by kernel_rfl, by kernel_rfl, by kernel_rfl, rfl⟩
def r_w_markIntS_0 : List CO := [⟨none, (some 4), (.mv (.k (.v (.int .i64 (0)))))⟩]
def r_w_markIntS_1 : List CO := [⟨none, (some 5), (.mv (.k (.v (.int .i64 (0)))))⟩]
def r_w_markIntS_2 : List CO := [⟨none, (some 6), (.mv (.t 5))⟩, ⟨none, (some 7), (.mv (.t 0))⟩, ⟨none, (some 8), (.len false (.t 7))⟩, ⟨none, (some 9), (.bin .lss .none (.t 6) (.t 8))⟩]
def r_w_markIntS_3 : List CO := [⟨none, (some 12), (.mv (.t 0))⟩, ⟨none, (some 13), (.mv (.t 5))⟩, ⟨none, (some 14), (.mv (.t 1))⟩, ⟨none, (some 15), (.iaddr 1 (.t 12) (.t 13))⟩, ⟨none, none, (.st 1 (.t 15) (.t 14))⟩]
def r_w_markIntS_4 : List CO := [⟨none, (some 16), (.mv (.t 1))⟩, ⟨none, (some 17), (.bin .add .none (.t 16) (.k (.v (.int .i64 (1)))))⟩, ⟨none, (some 1), (.mv (.t 17))⟩]
def r_w_markIntS_5 : List CO := [⟨none, (some 10), (.mv (.t 5))⟩, ⟨none, (some 11), (.bin .add .none (.t 10) (.k (.v (.int .i64 (1)))))⟩, ⟨none, (some 5), (.mv (.t 11))⟩]
def l_w_markIntS_6 : C := (.seq (.seq (.reg r_w_markIntS_2 [0, 1, 5, 9]) (.cond (.t 9) .skip (.exit 0))) (.seq (.block 1 (.seq (.reg r_w_markIntS_3 [0, 1, 5]) (.reg r_w_markIntS_4 [0, 1, 5]))) (.reg r_w_markIntS_5 [0, 1, 5])))
def r_w_markIntS_7 : List CO := [⟨none, (some 18), (.mv (.t 1))⟩, ⟨none, (some 4), (.mv (.t 18))⟩]
/-- loop.example/g00884/laws.markIntS -/
def c_w_markIntS : C := (.seq (.reg r_w_markIntS_0 [0, 1]) (.seq (.seq (.reg r_w_markIntS_1 [0, 1, 5]) (.block 0 (.loop l_w_markIntS_6))) (.seq (.reg r_w_markIntS_7 [4]) .ret)))
def k_w_markIntS : Nat → List Nat
  | 0 => [0, 1]
  | 1 => [0, 1, 5]
  | 2 => [0, 1, 5, 9]
  | 4 => [0, 1, 5]
  | 5 => [0, 1, 5]
  | 3 => [0, 1, 5]
  | 6 => [4]
  | _ => []
theorem fn_w_markIntS : FnC Tryz.prog n_w_markIntS c_w_markIntS [(.tmp 4)] 19 :=
  ⟨Tryz.f11, _, k_w_markIntS, Tryz.func11, rfl, by kernel_rfl, by kernel_rfl, by kernel_rfl, rfl⟩
def r_w_heldIntS_0 : List CO := [⟨none, (some 4), (.mv (.k (.v (.int .i64 (0)))))⟩]
def r_w_heldIntS_1 : List CO := [⟨none, (some 5), (.mv (.k (.v (.int .i64 (0)))))⟩]
def r_w_heldIntS_2 : List CO := [⟨none, (some 6), (.mv (.t 5))⟩, ⟨none, (some 7), (.mv (.t 0))⟩, ⟨none, (some 8), (.len false (.t 7))⟩, ⟨none, (some 9), (.bin .lss .none (.t 6) (.t 8))⟩]
def r_w_heldIntS_3 : List CO := [⟨none, (some 12), (.mv (.t 0))⟩, ⟨none, (some 13), (.mv (.t 5))⟩, ⟨none, (some 14), (.iaddr 1 (.t 12) (.t 13))⟩, ⟨none, (some 15), (.ld false 1 (.t 14))⟩, ⟨none, (some 16), (.mv (.t 1))⟩, ⟨none, (some 17), (.bin .neq .none (.t 15) (.t 16))⟩]
def r_w_heldIntS_4 : List CO := [⟨none, (some 4), (.mv (.k (.v (.int .i64 (-1)))))⟩]
def r_w_heldIntS_5 : List CO := [⟨none, (some 18), (.mv (.t 1))⟩, ⟨none, (some 19), (.bin .add .none (.t 18) (.k (.v (.int .i64 (1)))))⟩, ⟨none, (some 1), (.mv (.t 19))⟩]
def r_w_heldIntS_6 : List CO := [⟨none, (some 10), (.mv (.t 5))⟩, ⟨none, (some 11), (.bin .add .none (.t 10) (.k (.v (.int .i64 (1)))))⟩, ⟨none, (some 5), (.mv (.t 11))⟩]
def l_w_heldIntS_7 : C := (.seq (.seq (.reg r_w_heldIntS_2 [0, 1, 5, 9]) (.cond (.t 9) .skip (.exit 0))) (.seq (.block 1 (.seq (.seq (.reg r_w_heldIntS_3 [0, 1, 5, 17]) (.cond (.t 17) (.seq (.reg r_w_heldIntS_4 [4]) .ret) .skip)) (.reg r_w_heldIntS_5 [0, 1, 5]))) (.reg r_w_heldIntS_6 [0, 1, 5])))
def r_w_heldIntS_8 : List CO := [⟨none, (some 20), (.mv (.t 1))⟩, ⟨none, (some 4), (.mv (.t 20))⟩]
/-- loop.example/g00884/laws.heldIntS -/
def c_w_heldIntS : C := (.seq (.reg r_w_heldIntS_0 [0, 1]) (.seq (.seq (.reg r_w_heldIntS_1 [0, 1, 5]) (.block 0 (.loop l_w_heldIntS_7))) (.seq (.reg r_w_heldIntS_8 [4]) .ret)))
def k_w_heldIntS : Nat → List Nat
  | 0 => [0, 1]
  | 1 => [0, 1, 5]
  | 2 => [0, 1, 5, 9]
  | 4 => [0, 1, 5, 17]
  | 5 => [4]
  | 6 => [0, 1, 5]
  | 3 => [0, 1, 5]
  | 7 => [4]
  | _ => []
theorem fn_w_heldIntS : FnC Tryz.prog n_w_heldIntS c_w_heldIntS [(.tmp 4)] 21 :=
  ⟨Tryz.f12, _, k_w_heldIntS, Tryz.func12, rfl, by kernel_rfl, by kernel_rfl, by kernel_rfl, rfl⟩
end Go.Proofs.YtbeoijlggphklaaGreat
