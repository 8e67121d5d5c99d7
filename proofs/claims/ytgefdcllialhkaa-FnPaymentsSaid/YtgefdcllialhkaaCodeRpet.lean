/- The compact code of the functions, and that it is theirs: written by a program of this claim. -/
import Derived.Test.YtgefdcllialhkaaNums
namespace Go.Proofs.Ytgefdcllialhkaa
open Go.Abs
set_option maxRecDepth 100000
def r_w_rPetitions_0 : List CO := [⟨none, (some 4), (.mv (.k (.v (.bool false))))⟩]
def r_w_rPetitions_1 : List CO := [⟨none, (some 6), (.mv (.t 0))⟩, ⟨none, (some 7), (.len false (.t 6))⟩, ⟨none, (some 8), (.mv (.t 1))⟩, ⟨none, (some 9), (.len false (.t 8))⟩, ⟨none, (some 10), (.bin .neq .none (.t 7) (.t 9))⟩]
def r_w_rPetitions_2 : List CO := [⟨none, (some 4), (.mv (.k (.v (.bool false))))⟩]
def r_w_rPetitions_3 : List CO := [⟨none, (some 5), (.mv (.k (.v (.int .i64 (0)))))⟩]
def r_w_rPetitions_4 : List CO := [⟨none, (some 11), (.mv (.t 5))⟩, ⟨none, (some 12), (.mv (.t 0))⟩, ⟨none, (some 13), (.len false (.t 12))⟩, ⟨none, (some 14), (.bin .lss .none (.t 11) (.t 13))⟩]
def r_w_rPetitions_5 : List CO := [⟨none, (some 17), (.mv (.t 0))⟩, ⟨none, (some 18), (.mv (.t 5))⟩, ⟨none, (some 19), (.iaddr 5 (.t 17) (.t 18))⟩, ⟨none, (some 20), (.ld true 5 (.t 19))⟩, ⟨none, (some 21), (.mv (.t 1))⟩, ⟨none, (some 22), (.mv (.t 5))⟩, ⟨none, (some 23), (.iaddr 5 (.t 21) (.t 22))⟩, ⟨none, (some 24), (.ld true 5 (.t 23))⟩, ⟨none, (some 25), (.bin .neq (.struct [EK.int, EK.int, EK.int, EK.int, EK.int]) (.t 20) (.t 24))⟩]
def p_w_rPetitions_5 : List (List Nat) := [[], [], [0, 1], [0, 1, 2], [], [], [4, 5], [4, 5, 6], [0, 1, 2, 3, 4, 5, 6, 7]]
def r_w_rPetitions_6 : List CO := [⟨none, (some 4), (.mv (.k (.v (.bool false))))⟩]
def r_w_rPetitions_7 : List CO := [⟨none, (some 15), (.mv (.t 5))⟩, ⟨none, (some 16), (.bin .add .none (.t 15) (.k (.v (.int .i64 (1)))))⟩, ⟨none, (some 5), (.mv (.t 16))⟩]
def l_w_rPetitions_8 : C := (.seq (.seq (.reg r_w_rPetitions_4 [0, 1, 5, 14]) (.cond (.t 14) .skip (.exit 0))) (.seq (.block 1 (.seq (.regD r_w_rPetitions_5 p_w_rPetitions_5 [0, 1, 5, 25]) (.cond (.t 25) (.seq (.reg r_w_rPetitions_6 [4]) .ret) .skip))) (.reg r_w_rPetitions_7 [0, 1, 5])))
def r_w_rPetitions_9 : List CO := [⟨none, (some 4), (.mv (.k (.v (.bool true))))⟩]
/-- loop.example/g00884/laws.rPetitions -/
def c_w_rPetitions : C := (.seq (.reg r_w_rPetitions_0 [0, 1]) (.seq (.seq (.reg r_w_rPetitions_1 [0, 1, 10]) (.cond (.t 10) (.seq (.reg r_w_rPetitions_2 [4]) .ret) .skip)) (.seq (.seq (.reg r_w_rPetitions_3 [0, 1, 5]) (.block 0 (.loop l_w_rPetitions_8))) (.seq (.reg r_w_rPetitions_9 [4]) .ret))))
def k_w_rPetitions : Nat → List Nat
  | 0 => [0, 1]
  | 1 => [0, 1, 10]
  | 2 => [4]
  | 3 => [0, 1, 5]
  | 4 => [0, 1, 5, 14]
  | 6 => [0, 1, 5, 25]
  | 7 => [4]
  | 5 => [0, 1, 5]
  | 8 => [4]
  | _ => []
theorem fn_w_rPetitions : FnC Try.prog n_w_rPetitions c_w_rPetitions [(.tmp 4)] 26 :=
  ⟨Try.f24, _, k_w_rPetitions, Try.func24, rfl, by kernel_rfl, by kernel_rfl, by kernel_rfl, rfl⟩
end Go.Proofs.Ytgefdcllialhkaa
