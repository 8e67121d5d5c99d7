/- The compact code of the functions, and that it is theirs: written by a program of this claim. -/
import Derived.Test.YtcfmohcpfmedaaaGreatDoorNums
namespace Go.Proofs.YtcfmohcpfmedaaaGreatDoor
open Go.Abs
set_option maxRecDepth 100000
def r_w_eqConsole_0 : List CO := [⟨none, (some 2), (.box 4 (.t 0))⟩, ⟨none, (some 3), (.box 4 (.t 1))⟩, ⟨none, (some 4), (.mv (.k (.v (.bool false))))⟩]
def r_w_eqConsole_1 : List CO := [⟨none, (some 5), (.faddr 0 (.t 2))⟩, ⟨none, (some 6), (.ld true 1 (.t 5))⟩, ⟨none, (some 7), (.faddr 0 (.t 3))⟩, ⟨none, (some 8), (.ld true 1 (.t 7))⟩, ⟨none, (some 9), (.call n_w_eqRegister [(.t 6), (.t 8)])⟩, ⟨none, (some 10), (.un .not (.t 9))⟩]
def r_w_eqConsole_2 : List CO := [⟨none, (some 4), (.mv (.k (.v (.bool false))))⟩]
def r_w_eqConsole_3 : List CO := [⟨none, (some 11), (.faddr 1 (.t 2))⟩, ⟨none, (some 12), (.ld true 3 (.t 11))⟩, ⟨none, (some 13), (.faddr 1 (.t 3))⟩, ⟨none, (some 14), (.ld true 3 (.t 13))⟩, ⟨none, (some 15), (.call n_w_eqLog [(.t 12), (.t 14)])⟩, ⟨none, (some 16), (.un .not (.t 15))⟩]
def r_w_eqConsole_4 : List CO := [⟨none, (some 4), (.mv (.k (.v (.bool false))))⟩]
def r_w_eqConsole_5 : List CO := [⟨none, (some 4), (.mv (.k (.v (.bool true))))⟩]
/-- loop.example/g00884/laws.eqConsole -/
def c_w_eqConsole : C := (.seq (.reg r_w_eqConsole_0 [2, 3]) (.seq (.seq (.reg r_w_eqConsole_1 [2, 3, 10]) (.cond (.t 10) (.seq (.reg r_w_eqConsole_2 [4]) .ret) .skip)) (.seq (.seq (.reg r_w_eqConsole_3 [16]) (.cond (.t 16) (.seq (.reg r_w_eqConsole_4 [4]) .ret) .skip)) (.seq (.reg r_w_eqConsole_5 [4]) .ret))))
def k_w_eqConsole : Nat → List Nat
  | 0 => [2, 3]
  | 1 => [2, 3, 10]
  | 2 => [4]
  | 3 => [16]
  | 4 => [4]
  | 5 => [4]
  | _ => []
theorem fn_w_eqConsole : FnC Tryz.prog n_w_eqConsole c_w_eqConsole [(.tmp 4)] 17 :=
  ⟨Tryz.f8, _, k_w_eqConsole, Tryz.func8, rfl, by kernel_rfl, by kernel_rfl, by kernel_rfl, rfl⟩
end Go.Proofs.YtcfmohcpfmedaaaGreatDoor
