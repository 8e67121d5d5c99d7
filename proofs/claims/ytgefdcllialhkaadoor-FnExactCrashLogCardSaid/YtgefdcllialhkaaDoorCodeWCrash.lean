/- The compact code of the functions, and that it is theirs: written by a program of this claim. -/
import Derived.Test.YtgefdcllialhkaaDoorNums
namespace Go.Proofs.YtgefdcllialhkaaDoor
open Go.Abs
set_option maxRecDepth 100000
def r_w_FnExactCrashLog_0 : List CO := [⟨none, (some 3), (.box 3 (.t 0))⟩, ⟨none, (some 6), (.mv (.k (.v (.bool false))))⟩]
def r_w_FnExactCrashLog_1 : List CO := [⟨none, (some 7), (.mv (.k (.v (.int .i64 (1048576)))))⟩]
def r_w_FnExactCrashLog_2 : List CO := [⟨none, (some 12), (.ld true 3 (.t 3))⟩, ⟨none, (some 13), (.mv (.t 7))⟩, ⟨none, (some 14), (.call n_w_szLog [(.t 12), (.t 13)])⟩, ⟨none, (some 7), (.mv (.t 14))⟩]
def r_w_FnExactCrashLog_3 : List CO := [⟨none, (some 15), (.mv (.t 7))⟩, ⟨none, (some 16), (.bin .lss .none (.t 15) (.k (.v (.int .i64 (0)))))⟩]
def r_w_FnExactCrashLog_4 : List CO := [⟨none, (some 6), (.mv (.k (.v (.bool true))))⟩]
def r_w_FnExactCrashLog_5 : List CO := [⟨none, (some 18), (.ld true 3 (.t 3))⟩, ⟨none, (some 19), (.call n_w_toLog [(.t 18)])⟩, ⟨none, (some 20), (.mv (.t 1))⟩, ⟨none, (some 21), (.mv (.t 2))⟩, ⟨none, (some 22), (.call n_s_CrashLog [(.t 19), (.t 20), (.t 21)])⟩, ⟨none, (some 17), (.mv (.t 22))⟩, ⟨none, (some 23), (.ext (.t 17) 0)⟩, ⟨none, (some 24), (.ext (.t 17) 1)⟩, ⟨none, (some 8), (.mv (.t 23))⟩, ⟨none, (some 9), (.mv (.t 24))⟩]
def r_w_FnExactCrashLog_6 : List CO := [⟨none, (some 26), (.ld true 3 (.t 3))⟩, ⟨none, (some 27), (.call n_w_toLog [(.t 26)])⟩, ⟨none, (some 28), (.mv (.t 1))⟩, ⟨none, (some 29), (.mv (.t 2))⟩, ⟨none, (some 30), (.call n_i_CrashLog [(.t 27), (.t 28), (.t 29)])⟩, ⟨none, (some 25), (.mv (.t 30))⟩, ⟨none, (some 31), (.ext (.t 25) 0)⟩, ⟨none, (some 32), (.ext (.t 25) 1)⟩, ⟨none, (some 10), (.mv (.t 31))⟩, ⟨none, (some 11), (.mv (.t 32))⟩]
def r_w_FnExactCrashLog_7 : List CO := [⟨none, (some 33), (.mv (.t 10))⟩, ⟨none, (some 34), (.mv (.t 8))⟩, ⟨none, (some 35), (.bin .neq .none (.t 33) (.t 34))⟩, ⟨none, (some 36), (.mv (.t 35))⟩, ⟨(some (36, false)), (some 37), (.mv (.t 11))⟩, ⟨(some (36, false)), (some 38), (.mv (.t 9))⟩, ⟨(some (36, false)), (some 39), (.bin .neq .bool (.t 37) (.t 38))⟩, ⟨none, (some 40), (.pick (.t 36) (.k (.v (.bool true))) (.t 39))⟩]
def r_w_FnExactCrashLog_8 : List CO := [⟨none, (some 6), (.mv (.k (.v (.bool false))))⟩]
def r_w_FnExactCrashLog_9 : List CO := [⟨none, (some 6), (.mv (.k (.v (.bool true))))⟩]
/-- loop.example/g00884/laws.FnExactCrashLog -/
def c_w_FnExactCrashLog : C := (.seq (.reg r_w_FnExactCrashLog_0 [1, 2, 3]) (.seq (.reg r_w_FnExactCrashLog_1 [1, 2, 3, 7]) (.seq (.reg r_w_FnExactCrashLog_2 [1, 2, 3, 7]) (.seq (.seq (.reg r_w_FnExactCrashLog_3 [1, 2, 3, 16]) (.cond (.t 16) (.seq (.reg r_w_FnExactCrashLog_4 [6]) .ret) .skip)) (.seq (.reg r_w_FnExactCrashLog_5 [1, 2, 3, 8, 9]) (.seq (.reg r_w_FnExactCrashLog_6 [8, 9, 10, 11]) (.seq (.seq (.reg r_w_FnExactCrashLog_7 [40]) (.cond (.t 40) (.seq (.reg r_w_FnExactCrashLog_8 [6]) .ret) .skip)) (.seq (.reg r_w_FnExactCrashLog_9 [6]) .ret))))))))
def k_w_FnExactCrashLog : Nat → List Nat
  | 0 => [1, 2, 3]
  | 1 => [1, 2, 3, 7]
  | 2 => [1, 2, 3, 7]
  | 3 => [1, 2, 3, 16]
  | 4 => [6]
  | 5 => [1, 2, 3, 8, 9]
  | 6 => [8, 9, 10, 11]
  | 7 => [40]
  | 8 => [6]
  | 9 => [6]
  | _ => []
theorem fn_w_FnExactCrashLog : FnC Tryd.prog n_w_FnExactCrashLog c_w_FnExactCrashLog [(.tmp 6)] 41 :=
  ⟨Tryd.f3, _, k_w_FnExactCrashLog, Tryd.func3, rfl, by kernel_rfl, by kernel_rfl, by kernel_rfl, rfl⟩
end Go.Proofs.YtgefdcllialhkaaDoor
