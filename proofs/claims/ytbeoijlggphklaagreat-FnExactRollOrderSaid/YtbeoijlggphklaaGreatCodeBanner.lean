/- The compact code of the functions, and that it is theirs: written by a program of this claim. -/
import Derived.Test.YtbeoijlggphklaaGreatNums
namespace Go.Proofs.YtbeoijlggphklaaGreat
open Go.Abs
set_option maxRecDepth 100000
def r_s_l2Good_0 : List CO := [⟨none, (some 2), (.mv (.k (.v (.bool false))))⟩]
def r_s_l2Good_1 : List CO := [⟨none, (some 3), (.mv (.t 0))⟩, ⟨none, (some 4), (.call n_s_l1In [(.t 3), (.k (.v (.int .i64 (1)))), (.k (.v (.int .i64 (9))))])⟩, ⟨none, (some 2), (.mv (.t 4))⟩]
/-- loop.example/g00884/spec.l2Good -/
def c_s_l2Good : C := (.seq (.reg r_s_l2Good_0 [0]) (.seq (.reg r_s_l2Good_1 [2]) .ret))
def k_s_l2Good : Nat → List Nat
  | 0 => [0]
  | 1 => [2]
  | _ => []
theorem fn_s_l2Good : FnC Tryz.prog n_s_l2Good c_s_l2Good [(.tmp 2)] 5 :=
  ⟨Tryz.f60, _, k_s_l2Good, Tryz.func60, rfl, by kernel_rfl, by kernel_rfl, by kernel_rfl, rfl⟩
def r_i_IsTincture_0 : List CO := [⟨none, (some 2), (.mv (.k (.v (.bool false))))⟩]
def r_i_IsTincture_1 : List CO := [⟨none, (some 3), (.mv (.t 0))⟩, ⟨none, (some 4), (.call n_i_inside [(.t 3), (.k (.v (.int .i64 (1)))), (.k (.v (.int .i64 (9))))])⟩, ⟨none, (some 2), (.mv (.t 4))⟩]
/-- loop.example/g00884/impl.IsTincture -/
def c_i_IsTincture : C := (.seq (.reg r_i_IsTincture_0 [0]) (.seq (.reg r_i_IsTincture_1 [2]) .ret))
def k_i_IsTincture : Nat → List Nat
  | 0 => [0]
  | 1 => [2]
  | _ => []
theorem fn_i_IsTincture : FnC Tryz.prog n_i_IsTincture c_i_IsTincture [(.tmp 2)] 5 :=
  ⟨Tryz.f71, _, k_i_IsTincture, Tryz.func71, rfl, by kernel_rfl, by kernel_rfl, by kernel_rfl, rfl⟩
end Go.Proofs.YtbeoijlggphklaaGreat
