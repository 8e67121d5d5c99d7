/- The compact code of the functions, and that it is theirs: written by a program of this claim. -/
import Derived.Test.YtbeoijlggphklaaGreatNums
namespace Go.Proofs.YtbeoijlggphklaaGreat
open Go.Abs
set_option maxRecDepth 100000
def r_i_inside_0 : List CO := [⟨none, (some 6), (.mv (.k (.v (.bool false))))⟩]
def r_i_inside_1 : List CO := [⟨none, (some 7), (.mv (.t 0))⟩, ⟨none, (some 8), (.mv (.t 1))⟩, ⟨none, (some 9), (.bin .geq .none (.t 7) (.t 8))⟩, ⟨none, (some 10), (.mv (.t 9))⟩, ⟨(some (10, true)), (some 11), (.mv (.t 0))⟩, ⟨(some (10, true)), (some 12), (.mv (.t 2))⟩, ⟨(some (10, true)), (some 13), (.bin .leq .none (.t 11) (.t 12))⟩, ⟨none, (some 14), (.pick (.t 10) (.t 13) (.k (.v (.bool false))))⟩, ⟨none, (some 6), (.mv (.t 14))⟩]
/-- loop.example/g00884/impl.inside -/
def c_i_inside : C := (.seq (.reg r_i_inside_0 [0, 1, 2]) (.seq (.reg r_i_inside_1 [6]) .ret))
def k_i_inside : Nat → List Nat
  | 0 => [0, 1, 2]
  | 1 => [6]
  | _ => []
theorem fn_i_inside : FnC Tryz.prog n_i_inside c_i_inside [(.tmp 6)] 15 :=
  ⟨Tryz.f19, _, k_i_inside, Tryz.func19, rfl, by kernel_rfl, by kernel_rfl, by kernel_rfl, rfl⟩
def r_s_l1In_0 : List CO := [⟨none, (some 6), (.mv (.k (.v (.bool false))))⟩]
def r_s_l1In_1 : List CO := [⟨none, (some 7), (.mv (.t 0))⟩, ⟨none, (some 8), (.mv (.t 1))⟩, ⟨none, (some 9), (.bin .geq .none (.t 7) (.t 8))⟩, ⟨none, (some 10), (.mv (.t 9))⟩, ⟨(some (10, true)), (some 11), (.mv (.t 0))⟩, ⟨(some (10, true)), (some 12), (.mv (.t 2))⟩, ⟨(some (10, true)), (some 13), (.bin .leq .none (.t 11) (.t 12))⟩, ⟨none, (some 14), (.pick (.t 10) (.t 13) (.k (.v (.bool false))))⟩, ⟨none, (some 6), (.mv (.t 14))⟩]
/-- loop.example/g00884/spec.l1In -/
def c_s_l1In : C := (.seq (.reg r_s_l1In_0 [0, 1, 2]) (.seq (.reg r_s_l1In_1 [6]) .ret))
def k_s_l1In : Nat → List Nat
  | 0 => [0, 1, 2]
  | 1 => [6]
  | _ => []
theorem fn_s_l1In : FnC Tryz.prog n_s_l1In c_s_l1In [(.tmp 6)] 15 :=
  ⟨Tryz.f26, _, k_s_l1In, Tryz.func26, rfl, by kernel_rfl, by kernel_rfl, by kernel_rfl, rfl⟩
end Go.Proofs.YtbeoijlggphklaaGreat
