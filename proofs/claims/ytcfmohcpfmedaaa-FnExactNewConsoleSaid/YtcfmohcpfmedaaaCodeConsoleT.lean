/- The compact code of the functions, and that it is theirs: written by a program of this claim. -/
import Derived.Test.YtcfmohcpfmedaaaNums
namespace Go.Proofs.Ytcfmohcpfmedaaa
open Go.Abs
set_option maxRecDepth 100000
def r_w_eqLog_0 : List CO := [⟨none, (some 2), (.box 3 (.t 0))⟩, ⟨none, (some 3), (.box 3 (.t 1))⟩, ⟨none, (some 4), (.mv (.k (.v (.bool false))))⟩]
def r_w_eqLog_1 : List CO := [⟨none, (some 5), (.faddr 0 (.t 2))⟩, ⟨none, (some 6), (.ld false 1 (.t 5))⟩, ⟨none, (some 7), (.faddr 0 (.t 3))⟩, ⟨none, (some 8), (.ld false 1 (.t 7))⟩, ⟨none, (some 9), (.bin .neq .none (.t 6) (.t 8))⟩]
def r_w_eqLog_2 : List CO := [⟨none, (some 4), (.mv (.k (.v (.bool false))))⟩]
def r_w_eqLog_3 : List CO := [⟨none, (some 10), (.faddr 1 (.t 2))⟩, ⟨none, (some 11), (.ld false 1 (.t 10))⟩, ⟨none, (some 12), (.faddr 1 (.t 3))⟩, ⟨none, (some 13), (.ld false 1 (.t 12))⟩, ⟨none, (some 14), (.bin .neq .none (.t 11) (.t 13))⟩]
def r_w_eqLog_4 : List CO := [⟨none, (some 4), (.mv (.k (.v (.bool false))))⟩]
def r_w_eqLog_5 : List CO := [⟨none, (some 15), (.faddr 2 (.t 2))⟩, ⟨none, (some 16), (.ld false 1 (.t 15))⟩, ⟨none, (some 17), (.faddr 2 (.t 3))⟩, ⟨none, (some 18), (.ld false 1 (.t 17))⟩, ⟨none, (some 19), (.bin .neq .none (.t 16) (.t 18))⟩]
def r_w_eqLog_6 : List CO := [⟨none, (some 4), (.mv (.k (.v (.bool false))))⟩]
def r_w_eqLog_7 : List CO := [⟨none, (some 4), (.mv (.k (.v (.bool true))))⟩]
/-- loop.example/g00884/laws.eqLog -/
def c_w_eqLog : C := (.seq (.reg r_w_eqLog_0 [2, 3]) (.seq (.seq (.reg r_w_eqLog_1 [2, 3, 9]) (.cond (.t 9) (.seq (.reg r_w_eqLog_2 [4]) .ret) .skip)) (.seq (.seq (.reg r_w_eqLog_3 [2, 3, 14]) (.cond (.t 14) (.seq (.reg r_w_eqLog_4 [4]) .ret) .skip)) (.seq (.seq (.reg r_w_eqLog_5 [19]) (.cond (.t 19) (.seq (.reg r_w_eqLog_6 [4]) .ret) .skip)) (.seq (.reg r_w_eqLog_7 [4]) .ret)))))
def k_w_eqLog : Nat → List Nat
  | 0 => [2, 3]
  | 1 => [2, 3, 9]
  | 2 => [4]
  | 3 => [2, 3, 14]
  | 4 => [4]
  | 5 => [19]
  | 6 => [4]
  | 7 => [4]
  | _ => []
theorem fn_w_eqLog : FnC Try.prog n_w_eqLog c_w_eqLog [(.tmp 4)] 20 :=
  ⟨Try.f19, _, k_w_eqLog, Try.func19, rfl, by kernel_rfl, by kernel_rfl, by kernel_rfl, rfl⟩
def r_w_eqConsole_0 : List CO := [⟨none, (some 2), (.box 4 (.t 0))⟩, ⟨none, (some 3), (.box 4 (.t 1))⟩, ⟨none, (some 4), (.mv (.k (.v (.bool false))))⟩]
def r_w_eqConsole_1 : List CO := [⟨none, (some 5), (.faddr 0 (.t 2))⟩, ⟨none, (some 6), (.ld true 1 (.t 5))⟩, ⟨none, (some 7), (.faddr 0 (.t 3))⟩, ⟨none, (some 8), (.ld true 1 (.t 7))⟩, ⟨none, (some 9), (.call n_w_eqRegister [(.t 6), (.t 8)])⟩, ⟨none, (some 10), (.un .not (.t 9))⟩]
def r_w_eqConsole_2 : List CO := [⟨none, (some 4), (.mv (.k (.v (.bool false))))⟩]
def r_w_eqConsole_3 : List CO := [⟨none, (some 11), (.faddr 1 (.t 2))⟩, ⟨none, (some 12), (.ld true 3 (.t 11))⟩, ⟨none, (some 13), (.faddr 1 (.t 3))⟩, ⟨none, (some 14), (.ld true 3 (.t 13))⟩, ⟨none, (some 15), (.call n_w_eqLog [(.t 12), (.t 14)])⟩, ⟨none, (some 16), (.un .not (.t 15))⟩]
def r_w_eqConsole_4 : List CO := [⟨none, (some 4), (.mv (.k (.v (.bool false))))⟩]
def r_w_eqConsole_5 : List CO := [⟨none, (some 4), (.mv (.k (.v (.bool true))))⟩]
/-- loop.example/g00884/laws.eqConsole -/
def c_w_eqConsole : C := (.seq (.reg r_w_eqConsole_0 [2, 3]) (.seq (.seq (.reg r_w_eqConsole_1 [2, 3, 10]) (.cond (.t 10) (.seq (.reg r_w_eqConsole_2 [4]) .ret) .skip)) (.seq (.seq (.reg r_w_eqConsole_3 [16]) (.cond (.t 16) (.seq (.reg r_w_eqConsole_4 [4]) .ret) .skip)) (.seq (.reg r_w_eqConsole_5 [4]) .ret))))
def k_w_eqConsole : Nat → List Nat
  | 0 => [2, 3]
  | 1 => [2, 3, 10]
  | 2 => [4]
  | 3 => [16]
  | 4 => [4]
  | 5 => [4]
  | _ => []
theorem fn_w_eqConsole : FnC Try.prog n_w_eqConsole c_w_eqConsole [(.tmp 4)] 17 :=
  ⟨Try.f8, _, k_w_eqConsole, Try.func8, rfl, by kernel_rfl, by kernel_rfl, by kernel_rfl, rfl⟩
def r_w_markRegister_0 : List CO := [⟨none, (some 2), (.box 1 (.t 0))⟩, ⟨none, (some 4), (.mv (.k (.v (.int .i64 (0)))))⟩]
def r_w_markRegister_1 : List CO := [⟨none, (some 5), (.faddr 0 (.t 2))⟩, ⟨none, (some 6), (.ld false 1 (.t 5))⟩, ⟨none, (some 7), (.mv (.t 1))⟩, ⟨none, (some 8), (.call n_w_markGrantS [(.t 6), (.t 7)])⟩, ⟨none, (some 1), (.mv (.t 8))⟩]
def r_w_markRegister_2 : List CO := [⟨none, (some 9), (.mv (.t 1))⟩, ⟨none, (some 4), (.mv (.t 9))⟩]
/-- loop.example/g00884/laws.markRegister -/
def c_w_markRegister : C := (.seq (.reg r_w_markRegister_0 [1, 2]) (.seq (.reg r_w_markRegister_1 [1]) (.seq (.reg r_w_markRegister_2 [4]) .ret)))
def k_w_markRegister : Nat → List Nat
  | 0 => [1, 2]
  | 1 => [1]
  | 2 => [4]
  | _ => []
theorem fn_w_markRegister : FnC Try.prog n_w_markRegister c_w_markRegister [(.tmp 4)] 10 :=
  ⟨Try.f10, _, k_w_markRegister, Try.func10, rfl, by kernel_rfl, by kernel_rfl, by kernel_rfl, rfl⟩
def r_w_markConsole_0 : List CO := [⟨none, (some 2), (.box 4 (.t 0))⟩, ⟨none, (some 4), (.mv (.k (.v (.int .i64 (0)))))⟩]
def r_w_markConsole_1 : List CO := [⟨none, (some 5), (.faddr 0 (.t 2))⟩, ⟨none, (some 6), (.ld true 1 (.t 5))⟩, ⟨none, (some 7), (.mv (.t 1))⟩, ⟨none, (some 8), (.call n_w_markRegister [(.t 6), (.t 7)])⟩, ⟨none, (some 1), (.mv (.t 8))⟩]
def r_w_markConsole_2 : List CO := [⟨none, (some 9), (.mv (.t 1))⟩, ⟨none, (some 4), (.mv (.t 9))⟩]
/-- loop.example/g00884/laws.markConsole -/
def c_w_markConsole : C := (.seq (.reg r_w_markConsole_0 [1, 2]) (.seq (.reg r_w_markConsole_1 [1]) (.seq (.reg r_w_markConsole_2 [4]) .ret)))
def k_w_markConsole : Nat → List Nat
  | 0 => [1, 2]
  | 1 => [1]
  | 2 => [4]
  | _ => []
theorem fn_w_markConsole : FnC Try.prog n_w_markConsole c_w_markConsole [(.tmp 4)] 10 :=
  ⟨Try.f11, _, k_w_markConsole, Try.func11, rfl, by kernel_rfl, by kernel_rfl, by kernel_rfl, rfl⟩
def r_w_heldRegister_0 : List CO := [⟨none, (some 2), (.box 1 (.t 0))⟩, ⟨none, (some 4), (.mv (.k (.v (.int .i64 (0)))))⟩]
def r_w_heldRegister_1 : List CO := [⟨none, (some 5), (.faddr 0 (.t 2))⟩, ⟨none, (some 6), (.ld false 1 (.t 5))⟩, ⟨none, (some 7), (.mv (.t 1))⟩, ⟨none, (some 8), (.call n_w_heldGrantS [(.t 6), (.t 7)])⟩, ⟨none, (some 1), (.mv (.t 8))⟩]
def r_w_heldRegister_2 : List CO := [⟨none, (some 9), (.mv (.t 1))⟩, ⟨none, (some 10), (.bin .lss .none (.t 9) (.k (.v (.int .i64 (0)))))⟩]
def r_w_heldRegister_3 : List CO := [⟨none, (some 4), (.mv (.k (.v (.int .i64 (-1)))))⟩]
def r_w_heldRegister_4 : List CO := [⟨none, (some 11), (.mv (.t 1))⟩, ⟨none, (some 4), (.mv (.t 11))⟩]
/-- loop.example/g00884/laws.heldRegister -/
def c_w_heldRegister : C := (.seq (.reg r_w_heldRegister_0 [1, 2]) (.seq (.reg r_w_heldRegister_1 [1]) (.seq (.seq (.reg r_w_heldRegister_2 [1, 10]) (.cond (.t 10) (.seq (.reg r_w_heldRegister_3 [4]) .ret) .skip)) (.seq (.reg r_w_heldRegister_4 [4]) .ret))))
def k_w_heldRegister : Nat → List Nat
  | 0 => [1, 2]
  | 1 => [1]
  | 2 => [1, 10]
  | 3 => [4]
  | 4 => [4]
  | _ => []
theorem fn_w_heldRegister : FnC Try.prog n_w_heldRegister c_w_heldRegister [(.tmp 4)] 12 :=
  ⟨Try.f22, _, k_w_heldRegister, Try.func22, rfl, by kernel_rfl, by kernel_rfl, by kernel_rfl, rfl⟩
def r_w_heldConsole_0 : List CO := [⟨none, (some 2), (.box 4 (.t 0))⟩, ⟨none, (some 4), (.mv (.k (.v (.int .i64 (0)))))⟩]
def r_w_heldConsole_1 : List CO := [⟨none, (some 5), (.faddr 0 (.t 2))⟩, ⟨none, (some 6), (.ld true 1 (.t 5))⟩, ⟨none, (some 7), (.mv (.t 1))⟩, ⟨none, (some 8), (.call n_w_heldRegister [(.t 6), (.t 7)])⟩, ⟨none, (some 1), (.mv (.t 8))⟩]
def r_w_heldConsole_2 : List CO := [⟨none, (some 9), (.mv (.t 1))⟩, ⟨none, (some 10), (.bin .lss .none (.t 9) (.k (.v (.int .i64 (0)))))⟩]
def r_w_heldConsole_3 : List CO := [⟨none, (some 4), (.mv (.k (.v (.int .i64 (-1)))))⟩]
def r_w_heldConsole_4 : List CO := [⟨none, (some 11), (.mv (.t 1))⟩, ⟨none, (some 4), (.mv (.t 11))⟩]
/-- loop.example/g00884/laws.heldConsole -/
def c_w_heldConsole : C := (.seq (.reg r_w_heldConsole_0 [1, 2]) (.seq (.reg r_w_heldConsole_1 [1]) (.seq (.seq (.reg r_w_heldConsole_2 [1, 10]) (.cond (.t 10) (.seq (.reg r_w_heldConsole_3 [4]) .ret) .skip)) (.seq (.reg r_w_heldConsole_4 [4]) .ret))))
def k_w_heldConsole : Nat → List Nat
  | 0 => [1, 2]
  | 1 => [1]
  | 2 => [1, 10]
  | 3 => [4]
  | 4 => [4]
  | _ => []
theorem fn_w_heldConsole : FnC Try.prog n_w_heldConsole c_w_heldConsole [(.tmp 4)] 12 :=
  ⟨Try.f12, _, k_w_heldConsole, Try.func12, rfl, by kernel_rfl, by kernel_rfl, by kernel_rfl, rfl⟩
end Go.Proofs.Ytcfmohcpfmedaaa
