/- The compact code of the functions, and that it is theirs: written by a program of this claim. -/
import Derived.Test.YtcfmohcpfmedaaaGreatDoorNums
namespace Go.Proofs.YtcfmohcpfmedaaaGreatDoor
open Go.Abs
set_option maxRecDepth 100000
def r_s_l27Log_0 : List CO := [⟨none, (some 1), (.box 3 (.t 0))⟩, ⟨none, (some 2), (.mv (.k (.v (.bool false))))⟩]
def r_s_l27Log_1 : List CO := [⟨none, (some 7), (.faddr 0 (.t 1))⟩, ⟨none, (some 8), (.ld false 1 (.t 7))⟩, ⟨none, (some 9), (.len true (.t 8))⟩, ⟨none, (some 10), (.faddr 1 (.t 1))⟩, ⟨none, (some 11), (.ld false 1 (.t 10))⟩, ⟨none, (some 12), (.len true (.t 11))⟩, ⟨none, (some 13), (.bin .add .none (.t 9) (.t 12))⟩, ⟨none, (some 14), (.bin .gtr .none (.t 13) (.k (.v (.int .i64 (30000)))))⟩]
def r_s_l27Log_2 : List CO := [⟨none, (some 2), (.mv (.k (.v (.bool false))))⟩]
def r_s_l27Log_3 : List CO := [⟨none, (some 16), (.faddr 0 (.t 1))⟩, ⟨none, (some 17), (.ld false 1 (.t 16))⟩, ⟨none, (some 18), (.faddr 1 (.t 1))⟩, ⟨none, (some 19), (.ld false 1 (.t 18))⟩, ⟨none, (some 20), (.bin .add .none (.t 17) (.t 19))⟩, ⟨none, (some 21), (.call n_s_l27Open [(.t 20)])⟩, ⟨none, (some 15), (.mv (.t 21))⟩, ⟨none, (some 22), (.ext (.t 15) 0)⟩, ⟨none, (some 23), (.ext (.t 15) 1)⟩, ⟨none, (some 3), (.mv (.t 22))⟩, ⟨none, (some 4), (.mv (.t 23))⟩]
def r_s_l27Log_4 : List CO := [⟨none, (some 25), (.faddr 0 (.t 1))⟩, ⟨none, (some 26), (.ld false 1 (.t 25))⟩, ⟨none, (some 27), (.call n_s_l27Open [(.t 26)])⟩, ⟨none, (some 24), (.mv (.t 27))⟩, ⟨none, (some 28), (.ext (.t 24) 0)⟩, ⟨none, (some 29), (.ext (.t 24) 1)⟩, ⟨none, (some 5), (.mv (.t 28))⟩, ⟨none, (some 6), (.mv (.t 29))⟩]
def r_s_l27Log_5 : List CO := [⟨none, (some 30), (.mv (.t 4))⟩, ⟨none, (some 31), (.faddr 0 (.t 1))⟩, ⟨none, (some 32), (.ld false 1 (.t 31))⟩, ⟨none, (some 33), (.len true (.t 32))⟩, ⟨none, (some 34), (.faddr 1 (.t 1))⟩, ⟨none, (some 35), (.ld false 1 (.t 34))⟩, ⟨none, (some 36), (.len true (.t 35))⟩, ⟨none, (some 37), (.bin .add .none (.t 33) (.t 36))⟩, ⟨none, (some 38), (.bin .eql .none (.t 30) (.t 37))⟩, ⟨none, (some 39), (.mv (.t 38))⟩, ⟨(some (39, true)), (some 40), (.mv (.t 6))⟩, ⟨(some (39, true)), (some 41), (.faddr 0 (.t 1))⟩, ⟨(some (39, true)), (some 42), (.ld false 1 (.t 41))⟩, ⟨(some (39, true)), (some 43), (.len true (.t 42))⟩, ⟨(some (39, true)), (some 44), (.bin .eql .none (.t 40) (.t 43))⟩, ⟨none, (some 45), (.pick (.t 39) (.t 44) (.k (.v (.bool false))))⟩, ⟨none, (some 46), (.mv (.t 45))⟩, ⟨(some (46, true)), (some 47), (.mv (.t 3))⟩, ⟨(some (46, true)), (some 48), (.len false (.t 47))⟩, ⟨(some (46, true)), (some 49), (.faddr 2 (.t 1))⟩, ⟨(some (46, true)), (some 50), (.ld false 1 (.t 49))⟩, ⟨(some (46, true)), (some 51), (.bin .eql .none (.t 48) (.t 50))⟩, ⟨none, (some 52), (.pick (.t 46) (.t 51) (.k (.v (.bool false))))⟩, ⟨none, (some 2), (.mv (.t 52))⟩]
/-- loop.example/g00884/spec.l27Log -/
def c_s_l27Log : C := (.seq (.reg r_s_l27Log_0 [1]) (.seq (.seq (.reg r_s_l27Log_1 [1, 14]) (.cond (.t 14) (.seq (.reg r_s_l27Log_2 [2]) .ret) .skip)) (.seq (.reg r_s_l27Log_3 [1, 3, 4]) (.seq (.reg r_s_l27Log_4 [1, 3, 4, 6]) (.seq (.reg r_s_l27Log_5 [2]) .ret)))))
def k_s_l27Log : Nat → List Nat
  | 0 => [1]
  | 1 => [1, 14]
  | 2 => [2]
  | 3 => [1, 3, 4]
  | 4 => [1, 3, 4, 6]
  | 5 => [2]
  | _ => []
theorem fn_s_l27Log : FnC Tryz.prog n_s_l27Log c_s_l27Log [(.tmp 2)] 53 :=
  ⟨Tryz.f20, _, k_s_l27Log, Tryz.func20, rfl, by kernel_rfl, by kernel_rfl, by kernel_rfl, rfl⟩
def r_i_IsValidLog_0 : List CO := [⟨none, (some 1), (.box 3 (.t 0))⟩, ⟨none, (some 2), (.mv (.k (.v (.bool false))))⟩]
def r_i_IsValidLog_1 : List CO := [⟨none, (some 8), (.faddr 0 (.t 1))⟩, ⟨none, (some 9), (.ld false 1 (.t 8))⟩, ⟨none, (some 10), (.faddr 1 (.t 1))⟩, ⟨none, (some 11), (.ld false 1 (.t 10))⟩, ⟨none, (some 12), (.bin .add .none (.t 9) (.t 11))⟩, ⟨none, (some 3), (.mv (.t 12))⟩]
def r_i_IsValidLog_2 : List CO := [⟨none, (some 14), (.mv (.t 3))⟩, ⟨none, (some 15), (.call n_i_readRecords [(.t 14)])⟩, ⟨none, (some 13), (.mv (.t 15))⟩, ⟨none, (some 16), (.ext (.t 13) 0)⟩, ⟨none, (some 17), (.ext (.t 13) 1)⟩, ⟨none, (some 4), (.mv (.t 16))⟩, ⟨none, (some 5), (.mv (.t 17))⟩]
def r_i_IsValidLog_3 : List CO := [⟨none, (some 18), (.mv (.t 5))⟩, ⟨none, (some 19), (.mv (.t 4))⟩, ⟨none, (some 20), (.len false (.t 19))⟩, ⟨none, (some 21), (.iaddr 1 (.t 18) (.t 20))⟩, ⟨none, (some 22), (.ld false 1 (.t 21))⟩, ⟨none, (some 23), (.mv (.t 3))⟩, ⟨none, (some 24), (.len true (.t 23))⟩, ⟨none, (some 25), (.bin .neq .none (.t 22) (.t 24))⟩, ⟨none, (some 26), (.mv (.t 25))⟩, ⟨(some (26, false)), (some 27), (.mv (.t 4))⟩, ⟨(some (26, false)), (some 28), (.len false (.t 27))⟩, ⟨(some (26, false)), (some 29), (.faddr 2 (.t 1))⟩, ⟨(some (26, false)), (some 30), (.ld false 1 (.t 29))⟩, ⟨(some (26, false)), (some 31), (.bin .neq .none (.t 28) (.t 30))⟩, ⟨none, (some 32), (.pick (.t 26) (.k (.v (.bool true))) (.t 31))⟩]
def r_i_IsValidLog_4 : List CO := [⟨none, (some 2), (.mv (.k (.v (.bool false))))⟩]
def r_i_IsValidLog_5 : List CO := [⟨none, (some 33), (.mv (.t 5))⟩, ⟨none, (some 34), (.len false (.t 33))⟩, ⟨none, (some 35), (.mv (.k (.v (.int .i64 (0)))))⟩]
def r_i_IsValidLog_6 : List CO := [⟨none, (some 36), (.bin .lss .none (.t 35) (.t 34))⟩]
def r_i_IsValidLog_7 : List CO := [⟨none, (some 37), (.iaddr 1 (.t 33) (.t 35))⟩, ⟨none, (some 38), (.ld false 1 (.t 37))⟩, ⟨none, (some 7), (.mv (.t 38))⟩]
def r_i_IsValidLog_8 : List CO := [⟨none, (some 39), (.mv (.t 7))⟩, ⟨none, (some 40), (.faddr 0 (.t 1))⟩, ⟨none, (some 41), (.ld false 1 (.t 40))⟩, ⟨none, (some 42), (.len true (.t 41))⟩, ⟨none, (some 43), (.bin .eql .none (.t 39) (.t 42))⟩]
def r_i_IsValidLog_9 : List CO := [⟨none, (some 2), (.mv (.k (.v (.bool true))))⟩]
def r_i_IsValidLog_10 : List CO := [⟨none, (some 44), (.bin .add .none (.t 35) (.k (.v (.int .i64 (1)))))⟩, ⟨none, (some 35), (.mv (.t 44))⟩]
def l_i_IsValidLog_11 : C := (.seq (.reg r_i_IsValidLog_6 [1, 33, 34, 35, 36]) (.seq (.cond (.t 36) .skip (.exit 0)) (.seq (.block 1 (.seq (.reg r_i_IsValidLog_7 [1, 7, 33, 34, 35]) (.seq (.reg r_i_IsValidLog_8 [1, 33, 34, 35, 43]) (.cond (.t 43) (.seq (.reg r_i_IsValidLog_9 [2]) .ret) .skip)))) (.reg r_i_IsValidLog_10 [1, 33, 34, 35]))))
def r_i_IsValidLog_12 : List CO := [⟨none, (some 2), (.mv (.k (.v (.bool false))))⟩]
/-- loop.example/g00884/impl.IsValidLog -/
def c_i_IsValidLog : C := (.seq (.reg r_i_IsValidLog_0 [1]) (.seq (.reg r_i_IsValidLog_1 [1, 3]) (.seq (.reg r_i_IsValidLog_2 [1, 3, 4, 5]) (.seq (.seq (.reg r_i_IsValidLog_3 [1, 5, 32]) (.cond (.t 32) (.seq (.reg r_i_IsValidLog_4 [2]) .ret) .skip)) (.seq (.seq (.reg r_i_IsValidLog_5 [1, 33, 34, 35]) (.block 0 (.loop l_i_IsValidLog_11))) (.seq (.reg r_i_IsValidLog_12 [2]) .ret))))))
def k_i_IsValidLog : Nat → List Nat
  | 0 => [1]
  | 1 => [1, 3]
  | 2 => [1, 3, 4, 5]
  | 3 => [1, 5, 32]
  | 4 => [2]
  | 5 => [1, 33, 34, 35]
  | 6 => [1, 33, 34, 35, 36]
  | 7 => [1, 7, 33, 34, 35]
  | 8 => [1, 33, 34, 35, 43]
  | 9 => [2]
  | 10 => [1, 33, 34, 35]
  | 11 => [2]
  | _ => []
theorem fn_i_IsValidLog : FnC Tryz.prog n_i_IsValidLog c_i_IsValidLog [(.tmp 2)] 45 :=
  ⟨Tryz.f15, _, k_i_IsValidLog, Tryz.func15, rfl, by kernel_rfl, by kernel_rfl, by kernel_rfl, rfl⟩
end Go.Proofs.YtcfmohcpfmedaaaGreatDoor
