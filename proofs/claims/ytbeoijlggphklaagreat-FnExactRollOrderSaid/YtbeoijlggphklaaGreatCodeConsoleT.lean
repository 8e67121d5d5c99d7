/- The compact code of the functions, and that it is theirs: written by a program of this claim. -/
import Derived.Test.YtbeoijlggphklaaGreatNums
namespace Go.Proofs.YtbeoijlggphklaaGreat
open Go.Abs
set_option maxRecDepth 100000
def r_w_markRegister_0 : List CO := [⟨none, (some 2), (.box 1 (.t 0))⟩, ⟨none, (some 4), (.mv (.k (.v (.int .i64 (0)))))⟩]
def r_w_markRegister_1 : List CO := [⟨none, (some 5), (.faddr 0 (.t 2))⟩, ⟨none, (some 6), (.ld false 1 (.t 5))⟩, ⟨none, (some 7), (.mv (.t 1))⟩, ⟨none, (some 8), (.call n_w_markGrantS [(.t 6), (.t 7)])⟩, ⟨none, (some 1), (.mv (.t 8))⟩]
def r_w_markRegister_2 : List CO := [⟨none, (some 9), (.mv (.t 1))⟩, ⟨none, (some 4), (.mv (.t 9))⟩]
/-- loop.example/g00884/laws.markRegister -/
def c_w_markRegister : C := (.seq (.reg r_w_markRegister_0 [1, 2]) (.seq (.reg r_w_markRegister_1 [1]) (.seq (.reg r_w_markRegister_2 [4]) .ret)))
def k_w_markRegister : Nat → List Nat
  | 0 => [1, 2]
  | 1 => [1]
  | 2 => [4]
  | _ => []
theorem fn_w_markRegister : FnC Tryz.prog n_w_markRegister c_w_markRegister [(.tmp 4)] 10 :=
  ⟨Tryz.f10, _, k_w_markRegister, Tryz.func10, rfl, by kernel_rfl, by kernel_rfl, by kernel_rfl, rfl⟩
end Go.Proofs.YtbeoijlggphklaaGreat
