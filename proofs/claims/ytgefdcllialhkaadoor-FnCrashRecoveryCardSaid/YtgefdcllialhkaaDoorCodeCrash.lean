/- The compact code of the functions, and that it is theirs: written by a program of this claim. -/
import Derived.Test.YtgefdcllialhkaaDoorNums
namespace Go.Proofs.YtgefdcllialhkaaDoor
open Go.Abs
set_option maxRecDepth 100000
def r_i_CrashLog_0 : List CO := [⟨none, (some 3), (.box 3 (.t 0))⟩, ⟨none, (some 6), (.mv (.k (.v (.string (bs [])))))⟩, ⟨none, (some 7), (.mv (.k (.v (.bool false))))⟩]
def r_i_CrashLog_1 : List CO := [⟨none, (some 9), (.ld true 3 (.t 3))⟩, ⟨none, (some 10), (.call n_i_IsValidLog [(.t 9)])⟩, ⟨none, (some 11), (.un .not (.t 10))⟩, ⟨none, (some 12), (.mv (.t 11))⟩, ⟨(some (12, false)), (some 13), (.mv (.t 1))⟩, ⟨(some (12, false)), (some 14), (.faddr 1 (.t 3))⟩, ⟨(some (12, false)), (some 15), (.ld false 1 (.t 14))⟩, ⟨(some (12, false)), (some 16), (.len true (.t 15))⟩, ⟨(some (12, false)), (some 17), (.call n_i_inside [(.t 13), (.k (.v (.int .i64 (0)))), (.t 16)])⟩, ⟨(some (12, false)), (some 18), (.un .not (.t 17))⟩, ⟨none, (some 19), (.pick (.t 12) (.k (.v (.bool true))) (.t 18))⟩]
def r_i_CrashLog_2 : List CO := [⟨none, (some 6), (.mv (.k (.v (.string (bs [])))))⟩, ⟨none, (some 7), (.mv (.k (.v (.bool false))))⟩]
def r_i_CrashLog_3 : List CO := [⟨none, (some 20), (.faddr 1 (.t 3))⟩, ⟨none, (some 21), (.ld false 1 (.t 20))⟩, ⟨none, (some 22), (.mv (.t 1))⟩, ⟨none, (some 23), (.slc none (.t 21) none (some (.t 22)))⟩, ⟨none, (some 24), (.conv .strBytes (.t 23))⟩, ⟨none, (some 8), (.mv (.t 24))⟩]
def r_i_CrashLog_4 : List CO := [⟨none, (some 25), (.mv (.t 2))⟩, ⟨none, (some 26), (.mv (.t 25))⟩, ⟨(some (26, true)), (some 27), (.mv (.t 1))⟩, ⟨(some (26, true)), (some 28), (.bin .gtr .none (.t 27) (.k (.v (.int .i64 (0)))))⟩, ⟨none, (some 29), (.pick (.t 26) (.t 28) (.k (.v (.bool false))))⟩]
def r_i_CrashLog_5 : List CO := [⟨none, (some 30), (.mv (.t 8))⟩, ⟨none, (some 31), (.mv (.t 1))⟩, ⟨none, (some 32), (.bin .sub .none (.t 31) (.k (.v (.int .i64 (1)))))⟩, ⟨none, (some 33), (.mv (.t 8))⟩, ⟨none, (some 34), (.mv (.t 1))⟩, ⟨none, (some 35), (.bin .sub .none (.t 34) (.k (.v (.int .i64 (1)))))⟩, ⟨none, (some 36), (.iaddr 1 (.t 33) (.t 35))⟩, ⟨none, (some 37), (.ld false 1 (.t 36))⟩, ⟨none, (some 38), (.bin .sub .none (.k (.v (.int .u8 (255)))) (.t 37))⟩, ⟨none, (some 39), (.iaddr 1 (.t 30) (.t 32))⟩, ⟨none, none, (.st 1 (.t 39) (.t 38))⟩]
def r_i_CrashLog_6 : List CO := [⟨none, (some 40), (.faddr 0 (.t 3))⟩, ⟨none, (some 41), (.ld false 1 (.t 40))⟩, ⟨none, (some 42), (.mv (.t 8))⟩, ⟨none, (some 43), (.conv .bytesStr (.t 42))⟩, ⟨none, (some 44), (.bin .add .none (.t 41) (.t 43))⟩, ⟨none, (some 6), (.mv (.t 44))⟩, ⟨none, (some 7), (.mv (.k (.v (.bool true))))⟩]
/-- loop.example/g00884/impl.CrashLog -/
def c_i_CrashLog : C := (.seq (.reg r_i_CrashLog_0 [1, 2, 3]) (.seq (.seq (.reg r_i_CrashLog_1 [1, 2, 3, 19]) (.cond (.t 19) (.seq (.reg r_i_CrashLog_2 [6, 7]) .ret) .skip)) (.seq (.reg r_i_CrashLog_3 [1, 2, 3, 8]) (.seq (.seq (.reg r_i_CrashLog_4 [1, 3, 8, 29]) (.cond (.t 29) (.reg r_i_CrashLog_5 [3, 8]) .skip)) (.seq (.reg r_i_CrashLog_6 [6, 7]) .ret)))))
def k_i_CrashLog : Nat → List Nat
  | 0 => [1, 2, 3]
  | 1 => [1, 2, 3, 19]
  | 2 => [6, 7]
  | 3 => [1, 2, 3, 8]
  | 4 => [1, 3, 8, 29]
  | 5 => [3, 8]
  | 6 => [6, 7]
  | _ => []
theorem fn_i_CrashLog : FnC Tryd.prog n_i_CrashLog c_i_CrashLog [(.tmp 6), (.tmp 7)] 45 :=
  ⟨Tryd.f10, _, k_i_CrashLog, Tryd.func10, rfl, by kernel_rfl, by kernel_rfl, by kernel_rfl, rfl⟩
def r_s_CrashLog_0 : List CO := [⟨none, (some 3), (.box 3 (.t 0))⟩, ⟨none, (some 6), (.mv (.k (.v (.string (bs [])))))⟩, ⟨none, (some 7), (.mv (.k (.v (.bool false))))⟩]
def r_s_CrashLog_1 : List CO := [⟨none, (some 9), (.ld true 3 (.t 3))⟩, ⟨none, (some 10), (.call n_s_l27Log [(.t 9)])⟩, ⟨none, (some 11), (.un .not (.t 10))⟩, ⟨none, (some 12), (.mv (.t 11))⟩, ⟨(some (12, false)), (some 13), (.mv (.t 1))⟩, ⟨(some (12, false)), (some 14), (.faddr 1 (.t 3))⟩, ⟨(some (12, false)), (some 15), (.ld false 1 (.t 14))⟩, ⟨(some (12, false)), (some 16), (.len true (.t 15))⟩, ⟨(some (12, false)), (some 17), (.call n_s_l1In [(.t 13), (.k (.v (.int .i64 (0)))), (.t 16)])⟩, ⟨(some (12, false)), (some 18), (.un .not (.t 17))⟩, ⟨none, (some 19), (.pick (.t 12) (.k (.v (.bool true))) (.t 18))⟩]
def r_s_CrashLog_2 : List CO := [⟨none, (some 6), (.mv (.k (.v (.string (bs [])))))⟩, ⟨none, (some 7), (.mv (.k (.v (.bool false))))⟩]
def r_s_CrashLog_3 : List CO := [⟨none, (some 20), (.faddr 1 (.t 3))⟩, ⟨none, (some 21), (.ld false 1 (.t 20))⟩, ⟨none, (some 22), (.mv (.t 1))⟩, ⟨none, (some 23), (.slc none (.t 21) none (some (.t 22)))⟩, ⟨none, (some 24), (.conv .strBytes (.t 23))⟩, ⟨none, (some 8), (.mv (.t 24))⟩]
def r_s_CrashLog_4 : List CO := [⟨none, (some 25), (.mv (.t 2))⟩, ⟨none, (some 26), (.mv (.t 25))⟩, ⟨(some (26, true)), (some 27), (.mv (.t 1))⟩, ⟨(some (26, true)), (some 28), (.bin .gtr .none (.t 27) (.k (.v (.int .i64 (0)))))⟩, ⟨none, (some 29), (.pick (.t 26) (.t 28) (.k (.v (.bool false))))⟩]
def r_s_CrashLog_5 : List CO := [⟨none, (some 30), (.mv (.t 8))⟩, ⟨none, (some 31), (.mv (.t 1))⟩, ⟨none, (some 32), (.bin .sub .none (.t 31) (.k (.v (.int .i64 (1)))))⟩, ⟨none, (some 33), (.mv (.t 8))⟩, ⟨none, (some 34), (.mv (.t 1))⟩, ⟨none, (some 35), (.bin .sub .none (.t 34) (.k (.v (.int .i64 (1)))))⟩, ⟨none, (some 36), (.iaddr 1 (.t 33) (.t 35))⟩, ⟨none, (some 37), (.ld false 1 (.t 36))⟩, ⟨none, (some 38), (.bin .sub .none (.k (.v (.int .u8 (255)))) (.t 37))⟩, ⟨none, (some 39), (.iaddr 1 (.t 30) (.t 32))⟩, ⟨none, none, (.st 1 (.t 39) (.t 38))⟩]
def r_s_CrashLog_6 : List CO := [⟨none, (some 40), (.faddr 0 (.t 3))⟩, ⟨none, (some 41), (.ld false 1 (.t 40))⟩, ⟨none, (some 42), (.mv (.t 8))⟩, ⟨none, (some 43), (.conv .bytesStr (.t 42))⟩, ⟨none, (some 44), (.bin .add .none (.t 41) (.t 43))⟩, ⟨none, (some 6), (.mv (.t 44))⟩, ⟨none, (some 7), (.mv (.k (.v (.bool true))))⟩]
/-- loop.example/g00884/spec.CrashLog -/
def c_s_CrashLog : C := (.seq (.reg r_s_CrashLog_0 [1, 2, 3]) (.seq (.seq (.reg r_s_CrashLog_1 [1, 2, 3, 19]) (.cond (.t 19) (.seq (.reg r_s_CrashLog_2 [6, 7]) .ret) .skip)) (.seq (.reg r_s_CrashLog_3 [1, 2, 3, 8]) (.seq (.seq (.reg r_s_CrashLog_4 [1, 3, 8, 29]) (.cond (.t 29) (.reg r_s_CrashLog_5 [3, 8]) .skip)) (.seq (.reg r_s_CrashLog_6 [6, 7]) .ret)))))
def k_s_CrashLog : Nat → List Nat
  | 0 => [1, 2, 3]
  | 1 => [1, 2, 3, 19]
  | 2 => [6, 7]
  | 3 => [1, 2, 3, 8]
  | 4 => [1, 3, 8, 29]
  | 5 => [3, 8]
  | 6 => [6, 7]
  | _ => []
theorem fn_s_CrashLog : FnC Tryd.prog n_s_CrashLog c_s_CrashLog [(.tmp 6), (.tmp 7)] 45 :=
  ⟨Tryd.f8, _, k_s_CrashLog, Tryd.func8, rfl, by kernel_rfl, by kernel_rfl, by kernel_rfl, rfl⟩
end Go.Proofs.YtgefdcllialhkaaDoor
