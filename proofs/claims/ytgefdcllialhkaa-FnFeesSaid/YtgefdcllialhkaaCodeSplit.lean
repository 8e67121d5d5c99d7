/- The compact code of the functions, and that it is theirs: written by a program of this claim. -/
import Derived.Test.YtgefdcllialhkaaNums
namespace Go.Proofs.Ytgefdcllialhkaa
open Go.Abs
set_option maxRecDepth 100000
def r_s_SplitFee_0 : List CO := [⟨none, (some 4), (.mv (.k (.v (.slice none 0 0))))⟩, ⟨none, (some 5), (.mv (.k (.v (.bool false))))⟩]
def r_s_SplitFee_1 : List CO := [⟨none, (some 9), (.bslice 1 (.v (.int .i64 (0))) 0 [])⟩, ⟨none, (some 6), (.mv (.t 9))⟩]
def r_s_SplitFee_2 : List CO := [⟨none, (some 10), (.mv (.t 0))⟩, ⟨none, (some 11), (.call n_s_l1In [(.t 10), (.k (.v (.int .i64 (0)))), (.k (.v (.int .i64 (1000000))))])⟩, ⟨none, (some 12), (.un .not (.t 11))⟩, ⟨none, (some 13), (.mv (.t 12))⟩, ⟨(some (13, false)), (some 14), (.mv (.t 1))⟩, ⟨(some (13, false)), (some 15), (.call n_s_l1In [(.t 14), (.k (.v (.int .i64 (1)))), (.k (.v (.int .i64 (12))))])⟩, ⟨(some (13, false)), (some 16), (.un .not (.t 15))⟩, ⟨none, (some 17), (.pick (.t 13) (.k (.v (.bool true))) (.t 16))⟩]
def r_s_SplitFee_3 : List CO := [⟨none, (some 18), (.mv (.t 6))⟩, ⟨none, (some 4), (.mv (.t 18))⟩, ⟨none, (some 5), (.mv (.k (.v (.bool false))))⟩]
def r_s_SplitFee_4 : List CO := [⟨none, (some 7), (.mv (.k (.v (.int .i64 (0)))))⟩]
def r_s_SplitFee_5 : List CO := [⟨none, (some 19), (.mv (.t 7))⟩, ⟨none, (some 20), (.mv (.t 1))⟩, ⟨none, (some 21), (.bin .lss .none (.t 19) (.t 20))⟩]
def r_s_SplitFee_6 : List CO := [⟨none, (some 24), (.mv (.t 0))⟩, ⟨none, (some 25), (.mv (.t 1))⟩, ⟨none, (some 26), (.bin .quo .none (.t 24) (.t 25))⟩, ⟨none, (some 8), (.mv (.t 26))⟩]
def r_s_SplitFee_7 : List CO := [⟨none, (some 27), (.mv (.t 7))⟩, ⟨none, (some 28), (.mv (.t 0))⟩, ⟨none, (some 29), (.mv (.t 1))⟩, ⟨none, (some 30), (.bin .rem .none (.t 28) (.t 29))⟩, ⟨none, (some 31), (.bin .lss .none (.t 27) (.t 30))⟩]
def r_s_SplitFee_8 : List CO := [⟨none, (some 32), (.mv (.t 8))⟩, ⟨none, (some 33), (.bin .add .none (.t 32) (.k (.v (.int .i64 (1)))))⟩, ⟨none, (some 8), (.mv (.t 33))⟩]
def r_s_SplitFee_9 : List CO := [⟨none, (some 34), (.mv (.t 6))⟩, ⟨none, (some 35), (.mv (.t 8))⟩, ⟨none, (some 36), (.bslice 1 (.v (.int .i64 (0))) 1 [(0, (.t 35))])⟩, ⟨none, (some 37), (.app 1 8 (.t 34) (.t 36))⟩, ⟨none, (some 6), (.mv (.t 37))⟩]
def r_s_SplitFee_10 : List CO := [⟨none, (some 22), (.mv (.t 7))⟩, ⟨none, (some 23), (.bin .add .none (.t 22) (.k (.v (.int .i64 (1)))))⟩, ⟨none, (some 7), (.mv (.t 23))⟩]
def l_s_SplitFee_11 : C := (.seq (.seq (.reg r_s_SplitFee_5 [0, 1, 6, 7, 21]) (.cond (.t 21) .skip (.exit 0))) (.seq (.block 1 (.seq (.reg r_s_SplitFee_6 [0, 1, 6, 7, 8]) (.seq (.seq (.reg r_s_SplitFee_7 [0, 1, 6, 7, 8, 31]) (.cond (.t 31) (.reg r_s_SplitFee_8 [0, 1, 6, 7, 8]) .skip)) (.reg r_s_SplitFee_9 [0, 1, 6, 7])))) (.reg r_s_SplitFee_10 [0, 1, 6, 7])))
def r_s_SplitFee_12 : List CO := [⟨none, (some 38), (.mv (.t 6))⟩, ⟨none, (some 4), (.mv (.t 38))⟩, ⟨none, (some 5), (.mv (.k (.v (.bool true))))⟩]
/-- loop.example/g00884/spec.SplitFee -/
def c_s_SplitFee : C := (.seq (.reg r_s_SplitFee_0 [0, 1]) (.seq (.reg r_s_SplitFee_1 [0, 1, 6]) (.seq (.seq (.reg r_s_SplitFee_2 [0, 1, 6, 17]) (.cond (.t 17) (.seq (.reg r_s_SplitFee_3 [4, 5]) .ret) .skip)) (.seq (.seq (.reg r_s_SplitFee_4 [0, 1, 6, 7]) (.block 0 (.loop l_s_SplitFee_11))) (.seq (.reg r_s_SplitFee_12 [4, 5]) .ret)))))
def k_s_SplitFee : Nat → List Nat
  | 0 => [0, 1]
  | 1 => [0, 1, 6]
  | 2 => [0, 1, 6, 17]
  | 3 => [4, 5]
  | 4 => [0, 1, 6, 7]
  | 5 => [0, 1, 6, 7, 21]
  | 7 => [0, 1, 6, 7, 8]
  | 8 => [0, 1, 6, 7, 8, 31]
  | 9 => [0, 1, 6, 7, 8]
  | 10 => [0, 1, 6, 7]
  | 6 => [0, 1, 6, 7]
  | 11 => [4, 5]
  | _ => []
theorem fn_s_SplitFee : FnC Try.prog n_s_SplitFee c_s_SplitFee [(.tmp 4), (.tmp 5)] 39 :=
  ⟨Try.f41, _, k_s_SplitFee, Try.func41, rfl, by kernel_rfl, by kernel_rfl, by kernel_rfl, rfl⟩
def r_i_SplitFee_0 : List CO := [⟨none, (some 4), (.mv (.k (.v (.slice none 0 0))))⟩, ⟨none, (some 5), (.mv (.k (.v (.bool false))))⟩]
def r_i_SplitFee_1 : List CO := [⟨none, (some 8), (.mv (.t 0))⟩, ⟨none, (some 9), (.call n_i_inside [(.t 8), (.k (.v (.int .i64 (0)))), (.k (.v (.int .i64 (1000000))))])⟩, ⟨none, (some 10), (.un .not (.t 9))⟩, ⟨none, (some 11), (.mv (.t 10))⟩, ⟨(some (11, false)), (some 12), (.mv (.t 1))⟩, ⟨(some (11, false)), (some 13), (.call n_i_inside [(.t 12), (.k (.v (.int .i64 (1)))), (.k (.v (.int .i64 (12))))])⟩, ⟨(some (11, false)), (some 14), (.un .not (.t 13))⟩, ⟨none, (some 15), (.pick (.t 11) (.k (.v (.bool true))) (.t 14))⟩]
def r_i_SplitFee_2 : List CO := [⟨none, (some 4), (.mv (.k (.v (.slice none 0 0))))⟩, ⟨none, (some 5), (.mv (.k (.v (.bool false))))⟩]
def r_i_SplitFee_3 : List CO := [⟨none, (some 16), (.bslice 1 (.v (.int .i64 (0))) 0 [])⟩, ⟨none, (some 6), (.mv (.t 16))⟩]
def r_i_SplitFee_4 : List CO := [⟨none, (some 17), (.mv (.t 1))⟩, ⟨none, (some 18), (.mv (.k (.v (.int .i64 (0)))))⟩]
def r_i_SplitFee_5 : List CO := [⟨none, (some 19), (.bin .lss .none (.t 18) (.t 17))⟩]
def r_i_SplitFee_6 : List CO := [⟨none, (some 20), (.mv (.t 18))⟩, ⟨none, (some 7), (.mv (.t 20))⟩]
def r_i_SplitFee_7 : List CO := [⟨none, (some 21), (.mv (.t 6))⟩, ⟨none, (some 22), (.mv (.t 0))⟩, ⟨none, (some 23), (.mv (.t 1))⟩, ⟨none, (some 24), (.bin .quo .none (.t 22) (.t 23))⟩, ⟨none, (some 25), (.mv (.t 7))⟩, ⟨none, (some 26), (.mv (.t 0))⟩, ⟨none, (some 27), (.mv (.t 1))⟩, ⟨none, (some 28), (.bin .rem .none (.t 26) (.t 27))⟩, ⟨none, (some 29), (.bin .lss .none (.t 25) (.t 28))⟩, ⟨none, (some 30), (.call n_i_number [(.t 29)])⟩, ⟨none, (some 31), (.bin .add .none (.t 24) (.t 30))⟩, ⟨none, (some 32), (.bslice 1 (.v (.int .i64 (0))) 1 [(0, (.t 31))])⟩, ⟨none, (some 33), (.app 1 8 (.t 21) (.t 32))⟩, ⟨none, (some 6), (.mv (.t 33))⟩]
def p_i_SplitFee_7 : List (List Nat) := [[], [], [], [1, 2], [], [], [], [5, 6], [4, 5, 6, 7], [4, 5, 6, 7, 8], [1, 2, 3, 4, 5, 6, 7, 8, 9], [1, 2, 3, 4, 5, 6, 7, 8, 9, 10], [0, 1, 2, 3, 4, 5, 6, 7, 8, 9, 10, 11], [0, 1, 2, 3, 4, 5, 6, 7, 8, 9, 10, 11, 12]]
def r_i_SplitFee_8 : List CO := [⟨none, (some 34), (.bin .add .none (.t 18) (.k (.v (.int .i64 (1)))))⟩, ⟨none, (some 18), (.mv (.t 34))⟩]
def l_i_SplitFee_9 : C := (.seq (.reg r_i_SplitFee_5 [0, 1, 6, 17, 18, 19]) (.seq (.cond (.t 19) .skip (.exit 0)) (.seq (.block 1 (.seq (.reg r_i_SplitFee_6 [0, 1, 6, 7, 17, 18]) (.regD r_i_SplitFee_7 p_i_SplitFee_7 [0, 1, 6, 17, 18]))) (.reg r_i_SplitFee_8 [0, 1, 6, 17, 18]))))
def r_i_SplitFee_10 : List CO := [⟨none, (some 35), (.mv (.t 6))⟩, ⟨none, (some 4), (.mv (.t 35))⟩, ⟨none, (some 5), (.mv (.k (.v (.bool true))))⟩]
/-- loop.example/g00884/impl.SplitFee -/
def c_i_SplitFee : C := (.seq (.reg r_i_SplitFee_0 [0, 1]) (.seq (.seq (.reg r_i_SplitFee_1 [0, 1, 15]) (.cond (.t 15) (.seq (.reg r_i_SplitFee_2 [4, 5]) .ret) .skip)) (.seq (.reg r_i_SplitFee_3 [0, 1, 6]) (.seq (.seq (.reg r_i_SplitFee_4 [0, 1, 6, 17, 18]) (.block 0 (.loop l_i_SplitFee_9))) (.seq (.reg r_i_SplitFee_10 [4, 5]) .ret)))))
def k_i_SplitFee : Nat → List Nat
  | 0 => [0, 1]
  | 1 => [0, 1, 15]
  | 2 => [4, 5]
  | 3 => [0, 1, 6]
  | 4 => [0, 1, 6, 17, 18]
  | 5 => [0, 1, 6, 17, 18, 19]
  | 6 => [0, 1, 6, 7, 17, 18]
  | 7 => [0, 1, 6, 17, 18]
  | 8 => [0, 1, 6, 17, 18]
  | 9 => [4, 5]
  | _ => []
theorem fn_i_SplitFee : FnC Try.prog n_i_SplitFee c_i_SplitFee [(.tmp 4), (.tmp 5)] 36 :=
  ⟨Try.f40, _, k_i_SplitFee, Try.func40, rfl, by kernel_rfl, by kernel_rfl, by kernel_rfl, rfl⟩
end Go.Proofs.Ytgefdcllialhkaa
