/- The compact code of the functions, and that it is theirs: written by a program of this claim. -/
import Derived.Test.YtgefdcllialhkaaDoorNums
namespace Go.Proofs.YtgefdcllialhkaaDoor
open Go.Abs
set_option maxRecDepth 100000
def r_w_szLog_0 : List CO := [⟨none, (some 2), (.box 3 (.t 0))⟩, ⟨none, (some 4), (.mv (.k (.v (.int .i64 (0)))))⟩]
def r_w_szLog_1 : List CO := [⟨none, (some 5), (.mv (.t 1))⟩, ⟨none, (some 6), (.faddr 0 (.t 2))⟩, ⟨none, (some 7), (.ld false 1 (.t 6))⟩, ⟨none, (some 8), (.len true (.t 7))⟩, ⟨none, (some 9), (.bin .sub .none (.t 5) (.t 8))⟩, ⟨none, (some 1), (.mv (.t 9))⟩]
def r_w_szLog_2 : List CO := [⟨none, (some 10), (.mv (.t 1))⟩, ⟨none, (some 11), (.bin .lss .none (.t 10) (.k (.v (.int .i64 (0)))))⟩]
def r_w_szLog_3 : List CO := [⟨none, (some 4), (.mv (.k (.v (.int .i64 (-1)))))⟩]
def r_w_szLog_4 : List CO := [⟨none, (some 12), (.mv (.t 1))⟩, ⟨none, (some 13), (.faddr 1 (.t 2))⟩, ⟨none, (some 14), (.ld false 1 (.t 13))⟩, ⟨none, (some 15), (.len true (.t 14))⟩, ⟨none, (some 16), (.bin .sub .none (.t 12) (.t 15))⟩, ⟨none, (some 1), (.mv (.t 16))⟩]
def r_w_szLog_5 : List CO := [⟨none, (some 17), (.mv (.t 1))⟩, ⟨none, (some 18), (.bin .lss .none (.t 17) (.k (.v (.int .i64 (0)))))⟩]
def r_w_szLog_6 : List CO := [⟨none, (some 4), (.mv (.k (.v (.int .i64 (-1)))))⟩]
def r_w_szLog_7 : List CO := [⟨none, (some 19), (.mv (.t 1))⟩, ⟨none, (some 4), (.mv (.t 19))⟩]
/-- loop.example/g00884/laws.szLog -/
def c_w_szLog : C := (.seq (.reg r_w_szLog_0 [1, 2]) (.seq (.reg r_w_szLog_1 [1, 2]) (.seq (.seq (.reg r_w_szLog_2 [1, 2, 11]) (.cond (.t 11) (.seq (.reg r_w_szLog_3 [4]) .ret) .skip)) (.seq (.reg r_w_szLog_4 [1]) (.seq (.seq (.reg r_w_szLog_5 [1, 18]) (.cond (.t 18) (.seq (.reg r_w_szLog_6 [4]) .ret) .skip)) (.seq (.reg r_w_szLog_7 [4]) .ret))))))
def k_w_szLog : Nat → List Nat
  | 0 => [1, 2]
  | 1 => [1, 2]
  | 2 => [1, 2, 11]
  | 3 => [4]
  | 4 => [1]
  | 5 => [1, 18]
  | 6 => [4]
  | 7 => [4]
  | _ => []
theorem fn_w_szLog : FnC Tryd.prog n_w_szLog c_w_szLog [(.tmp 4)] 20 :=
  ⟨Tryd.f7, _, k_w_szLog, Tryd.func7, rfl, by kernel_rfl, by kernel_rfl, by kernel_rfl, rfl⟩
def r_w_toLog_0 : List CO := [⟨none, (some 1), (.box 3 (.t 0))⟩, ⟨none, (some 2), (.box 3 (.k (.agg [(.v (.string (bs []))), (.v (.string (bs []))), (.v (.int .i64 (0)))])))⟩]
def r_w_toLog_1 : List CO := [⟨none, (some 3), (.box 3 (.k (.agg [(.v (.string (bs []))), (.v (.string (bs []))), (.v (.int .i64 (0)))])))⟩]
def r_w_toLog_2 : List CO := [⟨none, (some 4), (.faddr 0 (.t 1))⟩, ⟨none, (some 5), (.ld false 1 (.t 4))⟩, ⟨none, (some 6), (.faddr 0 (.t 3))⟩, ⟨none, none, (.st 1 (.t 6) (.t 5))⟩]
def r_w_toLog_3 : List CO := [⟨none, (some 7), (.faddr 1 (.t 1))⟩, ⟨none, (some 8), (.ld false 1 (.t 7))⟩, ⟨none, (some 9), (.faddr 1 (.t 3))⟩, ⟨none, none, (.st 1 (.t 9) (.t 8))⟩]
def r_w_toLog_4 : List CO := [⟨none, (some 10), (.faddr 2 (.t 1))⟩, ⟨none, (some 11), (.ld false 1 (.t 10))⟩, ⟨none, (some 12), (.faddr 2 (.t 3))⟩, ⟨none, none, (.st 1 (.t 12) (.t 11))⟩]
def r_w_toLog_5 : List CO := [⟨none, (some 13), (.ld true 3 (.t 3))⟩, ⟨none, none, (.st 3 (.t 2) (.t 13))⟩]
/-- loop.example/g00884/laws.toLog -/
def c_w_toLog : C := (.seq (.reg r_w_toLog_0 [1, 2]) (.seq (.reg r_w_toLog_1 [1, 2, 3]) (.seq (.reg r_w_toLog_2 [1, 2, 3]) (.seq (.reg r_w_toLog_3 [1, 2, 3]) (.seq (.reg r_w_toLog_4 [2, 3]) (.seq (.reg r_w_toLog_5 [2]) .ret))))))
def k_w_toLog : Nat → List Nat
  | 0 => [1, 2]
  | 1 => [1, 2, 3]
  | 2 => [1, 2, 3]
  | 3 => [1, 2, 3]
  | 4 => [2, 3]
  | 5 => [2]
  | _ => []
theorem fn_w_toLog : FnC Tryd.prog n_w_toLog c_w_toLog [(.cell 2 true 3)] 14 :=
  ⟨Tryd.f9, _, k_w_toLog, Tryd.func9, rfl, by kernel_rfl, by kernel_rfl, by kernel_rfl, rfl⟩
end Go.Proofs.YtgefdcllialhkaaDoor
