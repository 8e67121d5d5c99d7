/- The compact code of the functions, and that it is theirs: written by a program of this claim. -/
import Derived.Test.YtopcfaffljjnbaaDoorNums
namespace Go.Proofs.YtopcfaffljjnbaaDoor
open Go.Abs
set_option maxRecDepth 100000
def r_s_l1Split_0 : List CO := [⟨none, (some 4), (.mv (.k (.v (.slice none 0 0))))⟩]
def r_s_l1Split_1 : List CO := [⟨none, (some 8), (.bslice 1 (.v (.string (bs []))) 0 [])⟩, ⟨none, (some 5), (.mv (.t 8))⟩]
def r_s_l1Split_2 : List CO := [⟨none, (some 6), (.mv (.k (.v (.int .i64 (0)))))⟩]
def r_s_l1Split_3 : List CO := [⟨none, (some 7), (.mv (.k (.v (.int .i64 (0)))))⟩]
def r_s_l1Split_4 : List CO := [⟨none, (some 9), (.mv (.t 7))⟩, ⟨none, (some 10), (.mv (.t 0))⟩, ⟨none, (some 11), (.len true (.t 10))⟩, ⟨none, (some 12), (.bin .lss .none (.t 9) (.t 11))⟩]
def r_s_l1Split_5 : List CO := [⟨none, (some 15), (.mv (.t 0))⟩, ⟨none, (some 16), (.mv (.t 7))⟩, ⟨none, (some 17), (.idx (.t 15) (.t 16))⟩, ⟨none, (some 18), (.mv (.t 1))⟩, ⟨none, (some 19), (.bin .eql .none (.t 17) (.t 18))⟩]
def r_s_l1Split_6 : List CO := [⟨none, (some 20), (.mv (.t 5))⟩, ⟨none, (some 21), (.mv (.t 0))⟩, ⟨none, (some 22), (.mv (.t 6))⟩, ⟨none, (some 23), (.mv (.t 7))⟩, ⟨none, (some 24), (.slc none (.t 21) (some (.t 22)) (some (.t 23)))⟩, ⟨none, (some 25), (.bslice 1 (.v (.string (bs []))) 1 [(0, (.t 24))])⟩, ⟨none, (some 26), (.app 1 16 (.t 20) (.t 25))⟩, ⟨none, (some 5), (.mv (.t 26))⟩]
def r_s_l1Split_7 : List CO := [⟨none, (some 27), (.mv (.t 7))⟩, ⟨none, (some 28), (.bin .add .none (.t 27) (.k (.v (.int .i64 (1)))))⟩, ⟨none, (some 6), (.mv (.t 28))⟩]
def r_s_l1Split_8 : List CO := [⟨none, (some 13), (.mv (.t 7))⟩, ⟨none, (some 14), (.bin .add .none (.t 13) (.k (.v (.int .i64 (1)))))⟩, ⟨none, (some 7), (.mv (.t 14))⟩]
def l_s_l1Split_9 : C := (.seq (.seq (.reg r_s_l1Split_4 [0, 1, 5, 6, 7, 12]) (.cond (.t 12) .skip (.exit 0))) (.seq (.block 1 (.seq (.reg r_s_l1Split_5 [0, 1, 5, 6, 7, 19]) (.cond (.t 19) (.seq (.reg r_s_l1Split_6 [0, 1, 5, 7]) (.reg r_s_l1Split_7 [0, 1, 5, 6, 7])) .skip))) (.reg r_s_l1Split_8 [0, 1, 5, 6, 7])))
def r_s_l1Split_10 : List CO := [⟨none, (some 29), (.mv (.t 5))⟩, ⟨none, (some 30), (.mv (.t 0))⟩, ⟨none, (some 31), (.mv (.t 6))⟩, ⟨none, (some 32), (.slc none (.t 30) (some (.t 31)) none)⟩, ⟨none, (some 33), (.bslice 1 (.v (.string (bs []))) 1 [(0, (.t 32))])⟩, ⟨none, (some 34), (.app 1 16 (.t 29) (.t 33))⟩, ⟨none, (some 4), (.mv (.t 34))⟩]
/-- loop.example/g00884/spec.l1Split -/
def c_s_l1Split : C := (.seq (.reg r_s_l1Split_0 [0, 1]) (.seq (.reg r_s_l1Split_1 [0, 1, 5]) (.seq (.reg r_s_l1Split_2 [0, 1, 5, 6]) (.seq (.seq (.reg r_s_l1Split_3 [0, 1, 5, 6, 7]) (.block 0 (.loop l_s_l1Split_9))) (.seq (.reg r_s_l1Split_10 [4]) .ret)))))
def k_s_l1Split : Nat → List Nat
  | 0 => [0, 1]
  | 1 => [0, 1, 5]
  | 2 => [0, 1, 5, 6]
  | 3 => [0, 1, 5, 6, 7]
  | 4 => [0, 1, 5, 6, 7, 12]
  | 6 => [0, 1, 5, 6, 7, 19]
  | 7 => [0, 1, 5, 7]
  | 8 => [0, 1, 5, 6, 7]
  | 5 => [0, 1, 5, 6, 7]
  | 9 => [4]
  | _ => []
theorem fn_s_l1Split : FnC Tryd.prog n_s_l1Split c_s_l1Split [(.tmp 4)] 35 :=
  ⟨Tryd.f20, _, k_s_l1Split, Tryd.func20, rfl, by kernel_rfl, by kernel_rfl, by kernel_rfl, rfl⟩
end Go.Proofs.YtopcfaffljjnbaaDoor
