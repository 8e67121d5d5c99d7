/- The compact code of the functions, and that it is theirs: written by a program of this claim. -/
import Derived.Test.YtcfmohcpfmedaaaGreatDoorNums
namespace Go.Proofs.YtcfmohcpfmedaaaGreatDoor
open Go.Abs
set_option maxRecDepth 100000
def r_w_eqLog_0 : List CO := [⟨none, (some 2), (.box 3 (.t 0))⟩, ⟨none, (some 3), (.box 3 (.t 1))⟩, ⟨none, (some 4), (.mv (.k (.v (.bool false))))⟩]
def r_w_eqLog_1 : List CO := [⟨none, (some 5), (.faddr 0 (.t 2))⟩, ⟨none, (some 6), (.ld false 1 (.t 5))⟩, ⟨none, (some 7), (.faddr 0 (.t 3))⟩, ⟨none, (some 8), (.ld false 1 (.t 7))⟩, ⟨none, (some 9), (.bin .neq .none (.t 6) (.t 8))⟩]
def r_w_eqLog_2 : List CO := [⟨none, (some 4), (.mv (.k (.v (.bool false))))⟩]
def r_w_eqLog_3 : List CO := [⟨none, (some 10), (.faddr 1 (.t 2))⟩, ⟨none, (some 11), (.ld false 1 (.t 10))⟩, ⟨none, (some 12), (.faddr 1 (.t 3))⟩, ⟨none, (some 13), (.ld false 1 (.t 12))⟩, ⟨none, (some 14), (.bin .neq .none (.t 11) (.t 13))⟩]
def r_w_eqLog_4 : List CO := [⟨none, (some 4), (.mv (.k (.v (.bool false))))⟩]
def r_w_eqLog_5 : List CO := [⟨none, (some 15), (.faddr 2 (.t 2))⟩, ⟨none, (some 16), (.ld false 1 (.t 15))⟩, ⟨none, (some 17), (.faddr 2 (.t 3))⟩, ⟨none, (some 18), (.ld false 1 (.t 17))⟩, ⟨none, (some 19), (.bin .neq .none (.t 16) (.t 18))⟩]
def r_w_eqLog_6 : List CO := [⟨none, (some 4), (.mv (.k (.v (.bool false))))⟩]
def r_w_eqLog_7 : List CO := [⟨none, (some 4), (.mv (.k (.v (.bool true))))⟩]
/-- loop.example/g00884/laws.eqLog -/
def c_w_eqLog : C := (.seq (.reg r_w_eqLog_0 [2, 3]) (.seq (.seq (.reg r_w_eqLog_1 [2, 3, 9]) (.cond (.t 9) (.seq (.reg r_w_eqLog_2 [4]) .ret) .skip)) (.seq (.seq (.reg r_w_eqLog_3 [2, 3, 14]) (.cond (.t 14) (.seq (.reg r_w_eqLog_4 [4]) .ret) .skip)) (.seq (.seq (.reg r_w_eqLog_5 [19]) (.cond (.t 19) (.seq (.reg r_w_eqLog_6 [4]) .ret) .skip)) (.seq (.reg r_w_eqLog_7 [4]) .ret)))))
def k_w_eqLog : Nat → List Nat
  | 0 => [2, 3]
  | 1 => [2, 3, 9]
  | 2 => [4]
  | 3 => [2, 3, 14]
  | 4 => [4]
  | 5 => [19]
  | 6 => [4]
  | 7 => [4]
  | _ => []
theorem fn_w_eqLog : FnC Tryz.prog n_w_eqLog c_w_eqLog [(.tmp 4)] 20 :=
  ⟨Tryz.f17, _, k_w_eqLog, Tryz.func17, rfl, by kernel_rfl, by kernel_rfl, by kernel_rfl, rfl⟩
end Go.Proofs.YtcfmohcpfmedaaaGreatDoor
