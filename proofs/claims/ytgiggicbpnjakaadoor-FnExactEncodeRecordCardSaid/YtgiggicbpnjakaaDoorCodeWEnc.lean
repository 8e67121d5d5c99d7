/- The compact code of the functions, and that it is theirs: written by a program of this claim. -/
import Derived.Test.YtgiggicbpnjakaaDoorNums
namespace Go.Proofs.YtgiggicbpnjakaaDoor
open Go.Abs
set_option maxRecDepth 100000
def r_w_FnExactEncodeRecord_0 : List CO := [⟨none, (some 3), (.box 2 (.t 1))⟩, ⟨none, (some 4), (.mv (.k (.v (.bool false))))⟩]
def r_w_FnExactEncodeRecord_1 : List CO := [⟨none, (some 5), (.mv (.k (.v (.int .i64 (1048576)))))⟩]
def r_w_FnExactEncodeRecord_2 : List CO := [⟨none, (some 10), (.ld true 2 (.t 3))⟩, ⟨none, (some 11), (.mv (.t 5))⟩, ⟨none, (some 12), (.call n_w_szLogRecord [(.t 10), (.t 11)])⟩, ⟨none, (some 5), (.mv (.t 12))⟩]
def r_w_FnExactEncodeRecord_3 : List CO := [⟨none, (some 13), (.mv (.t 5))⟩, ⟨none, (some 14), (.bin .lss .none (.t 13) (.k (.v (.int .i64 (0)))))⟩]
def r_w_FnExactEncodeRecord_4 : List CO := [⟨none, (some 4), (.mv (.k (.v (.bool true))))⟩]
def r_w_FnExactEncodeRecord_5 : List CO := [⟨none, (some 16), (.mv (.t 0))⟩, ⟨none, (some 17), (.ld true 2 (.t 3))⟩, ⟨none, (some 18), (.call n_w_toLogRecord [(.t 17)])⟩, ⟨none, (some 19), (.call n_s_EncodeRecord [(.t 16), (.t 18)])⟩, ⟨none, (some 15), (.mv (.t 19))⟩, ⟨none, (some 20), (.ext (.t 15) 0)⟩, ⟨none, (some 21), (.ext (.t 15) 1)⟩, ⟨none, (some 6), (.mv (.t 20))⟩, ⟨none, (some 7), (.mv (.t 21))⟩]
def r_w_FnExactEncodeRecord_6 : List CO := [⟨none, (some 23), (.mv (.t 0))⟩, ⟨none, (some 24), (.ld true 2 (.t 3))⟩, ⟨none, (some 25), (.call n_w_toLogRecord [(.t 24)])⟩, ⟨none, (some 26), (.call n_i_EncodeRecord [(.t 23), (.t 25)])⟩, ⟨none, (some 22), (.mv (.t 26))⟩, ⟨none, (some 27), (.ext (.t 22) 0)⟩, ⟨none, (some 28), (.ext (.t 22) 1)⟩, ⟨none, (some 8), (.mv (.t 27))⟩, ⟨none, (some 9), (.mv (.t 28))⟩]
def r_w_FnExactEncodeRecord_7 : List CO := [⟨none, (some 29), (.mv (.t 8))⟩, ⟨none, (some 30), (.mv (.t 6))⟩, ⟨none, (some 31), (.bin .neq .none (.t 29) (.t 30))⟩, ⟨none, (some 32), (.mv (.t 31))⟩, ⟨(some (32, false)), (some 33), (.mv (.t 9))⟩, ⟨(some (32, false)), (some 34), (.mv (.t 7))⟩, ⟨(some (32, false)), (some 35), (.bin .neq .bool (.t 33) (.t 34))⟩, ⟨none, (some 36), (.pick (.t 32) (.k (.v (.bool true))) (.t 35))⟩]
def r_w_FnExactEncodeRecord_8 : List CO := [⟨none, (some 4), (.mv (.k (.v (.bool false))))⟩]
def r_w_FnExactEncodeRecord_9 : List CO := [⟨none, (some 4), (.mv (.k (.v (.bool true))))⟩]
/-- loop.example/g00884/laws.FnExactEncodeRecord -/
def c_w_FnExactEncodeRecord : C := (.seq (.reg r_w_FnExactEncodeRecord_0 [0, 3]) (.seq (.reg r_w_FnExactEncodeRecord_1 [0, 3, 5]) (.seq (.reg r_w_FnExactEncodeRecord_2 [0, 3, 5]) (.seq (.seq (.reg r_w_FnExactEncodeRecord_3 [0, 3, 14]) (.cond (.t 14) (.seq (.reg r_w_FnExactEncodeRecord_4 [4]) .ret) .skip)) (.seq (.reg r_w_FnExactEncodeRecord_5 [0, 3, 6, 7]) (.seq (.reg r_w_FnExactEncodeRecord_6 [6, 7, 8, 9]) (.seq (.seq (.reg r_w_FnExactEncodeRecord_7 [36]) (.cond (.t 36) (.seq (.reg r_w_FnExactEncodeRecord_8 [4]) .ret) .skip)) (.seq (.reg r_w_FnExactEncodeRecord_9 [4]) .ret))))))))
def k_w_FnExactEncodeRecord : Nat → List Nat
  | 0 => [0, 3]
  | 1 => [0, 3, 5]
  | 2 => [0, 3, 5]
  | 3 => [0, 3, 14]
  | 4 => [4]
  | 5 => [0, 3, 6, 7]
  | 6 => [6, 7, 8, 9]
  | 7 => [36]
  | 8 => [4]
  | 9 => [4]
  | _ => []
theorem fn_w_FnExactEncodeRecord : FnC Tryd.prog n_w_FnExactEncodeRecord c_w_FnExactEncodeRecord [(.tmp 4)] 37 :=
  ⟨Tryd.f3, _, k_w_FnExactEncodeRecord, Tryd.func3, rfl, by kernel_rfl, by kernel_rfl, by kernel_rfl, rfl⟩
end Go.Proofs.YtgiggicbpnjakaaDoor
