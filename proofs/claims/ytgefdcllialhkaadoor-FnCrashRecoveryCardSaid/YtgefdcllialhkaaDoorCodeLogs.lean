/- The compact code of the functions, and that it is theirs: written by a program of this claim. -/
import Derived.Test.YtgefdcllialhkaaDoorNums
namespace Go.Proofs.YtgefdcllialhkaaDoor
open Go.Abs
set_option maxRecDepth 100000
def r_s_l27Log_0 : List CO := [⟨none, (some 1), (.box 3 (.t 0))⟩, ⟨none, (some 2), (.mv (.k (.v (.bool false))))⟩]
def r_s_l27Log_1 : List CO := [⟨none, (some 7), (.faddr 0 (.t 1))⟩, ⟨none, (some 8), (.ld false 1 (.t 7))⟩, ⟨none, (some 9), (.len true (.t 8))⟩, ⟨none, (some 10), (.faddr 1 (.t 1))⟩, ⟨none, (some 11), (.ld false 1 (.t 10))⟩, ⟨none, (some 12), (.len true (.t 11))⟩, ⟨none, (some 13), (.bin .add .none (.t 9) (.t 12))⟩, ⟨none, (some 14), (.bin .gtr .none (.t 13) (.k (.v (.int .i64 (30000)))))⟩]
def r_s_l27Log_2 : List CO := [⟨none, (some 2), (.mv (.k (.v (.bool false))))⟩]
def r_s_l27Log_3 : List CO := [⟨none, (some 16), (.faddr 0 (.t 1))⟩, ⟨none, (some 17), (.ld false 1 (.t 16))⟩, ⟨none, (some 18), (.faddr 1 (.t 1))⟩, ⟨none, (some 19), (.ld false 1 (.t 18))⟩, ⟨none, (some 20), (.bin .add .none (.t 17) (.t 19))⟩, ⟨none, (some 21), (.call n_s_l27Open [(.t 20)])⟩, ⟨none, (some 15), (.mv (.t 21))⟩, ⟨none, (some 22), (.ext (.t 15) 0)⟩, ⟨none, (some 23), (.ext (.t 15) 1)⟩, ⟨none, (some 3), (.mv (.t 22))⟩, ⟨none, (some 4), (.mv (.t 23))⟩]
def r_s_l27Log_4 : List CO := [⟨none, (some 25), (.faddr 0 (.t 1))⟩, ⟨none, (some 26), (.ld false 1 (.t 25))⟩, ⟨none, (some 27), (.call n_s_l27Open [(.t 26)])⟩, ⟨none, (some 24), (.mv (.t 27))⟩, ⟨none, (some 28), (.ext (.t 24) 0)⟩, ⟨none, (some 29), (.ext (.t 24) 1)⟩, ⟨none, (some 5), (.mv (.t 28))⟩, ⟨none, (some 6), (.mv (.t 29))⟩]
def r_s_l27Log_5 : List CO := [⟨none, (some 30), (.mv (.t 4))⟩, ⟨none, (some 31), (.faddr 0 (.t 1))⟩, ⟨none, (some 32), (.ld false 1 (.t 31))⟩, ⟨none, (some 33), (.len true (.t 32))⟩, ⟨none, (some 34), (.faddr 1 (.t 1))⟩, ⟨none, (some 35), (.ld false 1 (.t 34))⟩, ⟨none, (some 36), (.len true (.t 35))⟩, ⟨none, (some 37), (.bin .add .none (.t 33) (.t 36))⟩, ⟨none, (some 38), (.bin .eql .none (.t 30) (.t 37))⟩, ⟨none, (some 39), (.mv (.t 38))⟩, ⟨(some (39, true)), (some 40), (.mv (.t 6))⟩, ⟨(some (39, true)), (some 41), (.faddr 0 (.t 1))⟩, ⟨(some (39, true)), (some 42), (.ld false 1 (.t 41))⟩, ⟨(some (39, true)), (some 43), (.len true (.t 42))⟩, ⟨(some (39, true)), (some 44), (.bin .eql .none (.t 40) (.t 43))⟩, ⟨none, (some 45), (.pick (.t 39) (.t 44) (.k (.v (.bool false))))⟩, ⟨none, (some 46), (.mv (.t 45))⟩, ⟨(some (46, true)), (some 47), (.mv (.t 3))⟩, ⟨(some (46, true)), (some 48), (.len false (.t 47))⟩, ⟨(some (46, true)), (some 49), (.faddr 2 (.t 1))⟩, ⟨(some (46, true)), (some 50), (.ld false 1 (.t 49))⟩, ⟨(some (46, true)), (some 51), (.bin .eql .none (.t 48) (.t 50))⟩, ⟨none, (some 52), (.pick (.t 46) (.t 51) (.k (.v (.bool false))))⟩, ⟨none, (some 2), (.mv (.t 52))⟩]
/-- loop.example/g00884/spec.l27Log -/
def c_s_l27Log : C := (.seq (.reg r_s_l27Log_0 [1]) (.seq (.seq (.reg r_s_l27Log_1 [1, 14]) (.cond (.t 14) (.seq (.reg r_s_l27Log_2 [2]) .ret) .skip)) (.seq (.reg r_s_l27Log_3 [1, 3, 4]) (.seq (.reg r_s_l27Log_4 [1, 3, 4, 6]) (.seq (.reg r_s_l27Log_5 [2]) .ret)))))
def k_s_l27Log : Nat → List Nat
  | 0 => [1]
  | 1 => [1, 14]
  | 2 => [2]
  | 3 => [1, 3, 4]
  | 4 => [1, 3, 4, 6]
  | 5 => [2]
  | _ => []
theorem fn_s_l27Log : FnC Tryd.prog n_s_l27Log c_s_l27Log [(.tmp 2)] 53 :=
  ⟨Tryd.f29, _, k_s_l27Log, Tryd.func29, rfl, by kernel_rfl, by kernel_rfl, by kernel_rfl, rfl⟩
def r_s_IsValidLog_0 : List CO := [⟨none, (some 1), (.box 3 (.t 0))⟩, ⟨none, (some 2), (.mv (.k (.v (.bool false))))⟩]
def r_s_IsValidLog_1 : List CO := [⟨none, (some 3), (.ld true 3 (.t 1))⟩, ⟨none, (some 4), (.call n_s_l27Log [(.t 3)])⟩, ⟨none, (some 2), (.mv (.t 4))⟩]
/-- loop.example/g00884/spec.IsValidLog -/
def c_s_IsValidLog : C := (.seq (.reg r_s_IsValidLog_0 [1]) (.seq (.reg r_s_IsValidLog_1 [2]) .ret))
def k_s_IsValidLog : Nat → List Nat
  | 0 => [1]
  | 1 => [2]
  | _ => []
theorem fn_s_IsValidLog : FnC Tryd.prog n_s_IsValidLog c_s_IsValidLog [(.tmp 2)] 5 :=
  ⟨Tryd.f16, _, k_s_IsValidLog, Tryd.func16, rfl, by kernel_rfl, by kernel_rfl, by kernel_rfl, rfl⟩
def r_i_IsValidLog_0 : List CO := [⟨none, (some 1), (.box 3 (.t 0))⟩, ⟨none, (some 2), (.mv (.k (.v (.bool false))))⟩]
def r_i_IsValidLog_1 : List CO := [⟨none, (some 8), (.faddr 0 (.t 1))⟩, ⟨none, (some 9), (.ld false 1 (.t 8))⟩, ⟨none, (some 10), (.faddr 1 (.t 1))⟩, ⟨none, (some 11), (.ld false 1 (.t 10))⟩, ⟨none, (some 12), (.bin .add .none (.t 9) (.t 11))⟩, ⟨none, (some 3), (.mv (.t 12))⟩]
def r_i_IsValidLog_2 : List CO := [⟨none, (some 14), (.mv (.t 3))⟩, ⟨none, (some 15), (.call n_i_readRecords [(.t 14)])⟩, ⟨none, (some 13), (.mv (.t 15))⟩, ⟨none, (some 16), (.ext (.t 13) 0)⟩, ⟨none, (some 17), (.ext (.t 13) 1)⟩, ⟨none, (some 4), (.mv (.t 16))⟩, ⟨none, (some 5), (.mv (.t 17))⟩]
def r_i_IsValidLog_3 : List CO := [⟨none, (some 18), (.mv (.t 5))⟩, ⟨none, (some 19), (.mv (.t 4))⟩, ⟨none, (some 20), (.len false (.t 19))⟩, ⟨none, (some 21), (.iaddr 1 (.t 18) (.t 20))⟩, ⟨none, (some 22), (.ld false 1 (.t 21))⟩, ⟨none, (some 23), (.mv (.t 3))⟩, ⟨none, (some 24), (.len true (.t 23))⟩, ⟨none, (some 25), (.bin .neq .none (.t 22) (.t 24))⟩, ⟨none, (some 26), (.mv (.t 25))⟩, ⟨(some (26, false)), (some 27), (.mv (.t 4))⟩, ⟨(some (26, false)), (some 28), (.len false (.t 27))⟩, ⟨(some (26, false)), (some 29), (.faddr 2 (.t 1))⟩, ⟨(some (26, false)), (some 30), (.ld false 1 (.t 29))⟩, ⟨(some (26, false)), (some 31), (.bin .neq .none (.t 28) (.t 30))⟩, ⟨none, (some 32), (.pick (.t 26) (.k (.v (.bool true))) (.t 31))⟩]
def r_i_IsValidLog_4 : List CO := [⟨none, (some 2), (.mv (.k (.v (.bool false))))⟩]
def r_i_IsValidLog_5 : List CO := [⟨none, (some 33), (.mv (.t 5))⟩, ⟨none, (some 34), (.len false (.t 33))⟩, ⟨none, (some 35), (.mv (.k (.v (.int .i64 (0)))))⟩]
def r_i_IsValidLog_6 : List CO := [⟨none, (some 36), (.bin .lss .none (.t 35) (.t 34))⟩]
def r_i_IsValidLog_7 : List CO := [⟨none, (some 37), (.iaddr 1 (.t 33) (.t 35))⟩, ⟨none, (some 38), (.ld false 1 (.t 37))⟩, ⟨none, (some 7), (.mv (.t 38))⟩]
def r_i_IsValidLog_8 : List CO := [⟨none, (some 39), (.mv (.t 7))⟩, ⟨none, (some 40), (.faddr 0 (.t 1))⟩, ⟨none, (some 41), (.ld false 1 (.t 40))⟩, ⟨none, (some 42), (.len true (.t 41))⟩, ⟨none, (some 43), (.bin .eql .none (.t 39) (.t 42))⟩]
def r_i_IsValidLog_9 : List CO := [⟨none, (some 2), (.mv (.k (.v (.bool true))))⟩]
def r_i_IsValidLog_10 : List CO := [⟨none, (some 44), (.bin .add .none (.t 35) (.k (.v (.int .i64 (1)))))⟩, ⟨none, (some 35), (.mv (.t 44))⟩]
def l_i_IsValidLog_11 : C := (.seq (.reg r_i_IsValidLog_6 [1, 33, 34, 35, 36]) (.seq (.cond (.t 36) .skip (.exit 0)) (.seq (.block 1 (.seq (.reg r_i_IsValidLog_7 [1, 7, 33, 34, 35]) (.seq (.reg r_i_IsValidLog_8 [1, 33, 34, 35, 43]) (.cond (.t 43) (.seq (.reg r_i_IsValidLog_9 [2]) .ret) .skip)))) (.reg r_i_IsValidLog_10 [1, 33, 34, 35]))))
def r_i_IsValidLog_12 : List CO := [⟨none, (some 2), (.mv (.k (.v (.bool false))))⟩]
/-- loop.example/g00884/impl.IsValidLog -/
def c_i_IsValidLog : C := (.seq (.reg r_i_IsValidLog_0 [1]) (.seq (.reg r_i_IsValidLog_1 [1, 3]) (.seq (.reg r_i_IsValidLog_2 [1, 3, 4, 5]) (.seq (.seq (.reg r_i_IsValidLog_3 [1, 5, 32]) (.cond (.t 32) (.seq (.reg r_i_IsValidLog_4 [2]) .ret) .skip)) (.seq (.seq (.reg r_i_IsValidLog_5 [1, 33, 34, 35]) (.block 0 (.loop l_i_IsValidLog_11))) (.seq (.reg r_i_IsValidLog_12 [2]) .ret))))))
def k_i_IsValidLog : Nat → List Nat
  | 0 => [1]
  | 1 => [1, 3]
  | 2 => [1, 3, 4, 5]
  | 3 => [1, 5, 32]
  | 4 => [2]
  | 5 => [1, 33, 34, 35]
  | 6 => [1, 33, 34, 35, 36]
  | 7 => [1, 7, 33, 34, 35]
  | 8 => [1, 33, 34, 35, 43]
  | 9 => [2]
  | 10 => [1, 33, 34, 35]
  | 11 => [2]
  | _ => []
theorem fn_i_IsValidLog : FnC Tryd.prog n_i_IsValidLog c_i_IsValidLog [(.tmp 2)] 45 :=
  ⟨Tryd.f15, _, k_i_IsValidLog, Tryd.func15, rfl, by kernel_rfl, by kernel_rfl, by kernel_rfl, rfl⟩
def r_s_RecoverLog_0 : List CO := [⟨none, (some 2), (.box 3 (.k (.agg [(.v (.string (bs []))), (.v (.string (bs []))), (.v (.int .i64 (0)))])))⟩, ⟨none, (some 3), (.mv (.k (.v (.int .i64 (0)))))⟩, ⟨none, (some 4), (.mv (.k (.v (.bool false))))⟩]
def r_s_RecoverLog_1 : List CO := [⟨none, (some 7), (.mv (.t 0))⟩, ⟨none, (some 8), (.len true (.t 7))⟩, ⟨none, (some 9), (.bin .gtr .none (.t 8) (.k (.v (.int .i64 (30000)))))⟩]
def r_s_RecoverLog_2 : List CO := [⟨none, (some 10), (.build (.agg [(.v (.string (bs []))), (.v (.string (bs []))), (.v (.int .i64 (0)))]) [])⟩, ⟨none, none, (.st 3 (.t 2) (.t 10))⟩, ⟨none, (some 3), (.mv (.k (.v (.int .i64 (0)))))⟩, ⟨none, (some 4), (.mv (.k (.v (.bool false))))⟩]
def r_s_RecoverLog_3 : List CO := [⟨none, (some 12), (.mv (.t 0))⟩, ⟨none, (some 13), (.call n_s_l27Open [(.t 12)])⟩, ⟨none, (some 11), (.mv (.t 13))⟩, ⟨none, (some 14), (.ext (.t 11) 0)⟩, ⟨none, (some 15), (.ext (.t 11) 1)⟩, ⟨none, (some 5), (.mv (.t 14))⟩, ⟨none, (some 6), (.mv (.t 15))⟩]
def r_s_RecoverLog_4 : List CO := [⟨none, (some 16), (.mv (.t 0))⟩, ⟨none, (some 17), (.mv (.t 6))⟩, ⟨none, (some 18), (.slc none (.t 16) none (some (.t 17)))⟩, ⟨none, (some 19), (.mv (.t 5))⟩, ⟨none, (some 20), (.len false (.t 19))⟩, ⟨none, (some 21), (.build (.agg [(.v (.string (bs []))), (.v (.string (bs []))), (.v (.int .i64 (0)))]) [(0, (1, (.t 18))), (2, (1, (.t 20)))])⟩, ⟨none, (some 22), (.mv (.t 6))⟩, ⟨none, none, (.st 3 (.t 2) (.t 21))⟩, ⟨none, (some 3), (.mv (.t 22))⟩, ⟨none, (some 4), (.mv (.k (.v (.bool true))))⟩]
/-- loop.example/g00884/spec.RecoverLog -/
def c_s_RecoverLog : C := (.seq (.reg r_s_RecoverLog_0 [0, 2]) (.seq (.seq (.reg r_s_RecoverLog_1 [0, 2, 9]) (.cond (.t 9) (.seq (.reg r_s_RecoverLog_2 [2, 3, 4]) .ret) .skip)) (.seq (.reg r_s_RecoverLog_3 [0, 2, 5, 6]) (.seq (.reg r_s_RecoverLog_4 [2, 3, 4]) .ret))))
def k_s_RecoverLog : Nat → List Nat
  | 0 => [0, 2]
  | 1 => [0, 2, 9]
  | 2 => [2, 3, 4]
  | 3 => [0, 2, 5, 6]
  | 4 => [2, 3, 4]
  | _ => []
theorem fn_s_RecoverLog : FnC Tryd.prog n_s_RecoverLog c_s_RecoverLog [(.cell 2 true 3), (.tmp 3), (.tmp 4)] 23 :=
  ⟨Tryd.f26, _, k_s_RecoverLog, Tryd.func26, rfl, by kernel_rfl, by kernel_rfl, by kernel_rfl, rfl⟩
def r_i_RecoverLog_0 : List CO := [⟨none, (some 2), (.box 3 (.k (.agg [(.v (.string (bs []))), (.v (.string (bs []))), (.v (.int .i64 (0)))])))⟩, ⟨none, (some 3), (.mv (.k (.v (.int .i64 (0)))))⟩, ⟨none, (some 4), (.mv (.k (.v (.bool false))))⟩]
def r_i_RecoverLog_1 : List CO := [⟨none, (some 8), (.mv (.t 0))⟩, ⟨none, (some 9), (.len true (.t 8))⟩, ⟨none, (some 10), (.bin .gtr .none (.t 9) (.k (.v (.int .i64 (30000)))))⟩]
def r_i_RecoverLog_2 : List CO := [⟨none, (some 11), (.build (.agg [(.v (.string (bs []))), (.v (.string (bs []))), (.v (.int .i64 (0)))]) [])⟩, ⟨none, none, (.st 3 (.t 2) (.t 11))⟩, ⟨none, (some 3), (.mv (.k (.v (.int .i64 (0)))))⟩, ⟨none, (some 4), (.mv (.k (.v (.bool false))))⟩]
def r_i_RecoverLog_3 : List CO := [⟨none, (some 13), (.mv (.t 0))⟩, ⟨none, (some 14), (.call n_i_readRecords [(.t 13)])⟩, ⟨none, (some 12), (.mv (.t 14))⟩, ⟨none, (some 15), (.ext (.t 12) 0)⟩, ⟨none, (some 16), (.ext (.t 12) 1)⟩, ⟨none, (some 5), (.mv (.t 15))⟩, ⟨none, (some 6), (.mv (.t 16))⟩]
def r_i_RecoverLog_4 : List CO := [⟨none, (some 17), (.mv (.t 6))⟩, ⟨none, (some 18), (.mv (.t 5))⟩, ⟨none, (some 19), (.len false (.t 18))⟩, ⟨none, (some 20), (.iaddr 1 (.t 17) (.t 19))⟩, ⟨none, (some 21), (.ld false 1 (.t 20))⟩, ⟨none, (some 7), (.mv (.t 21))⟩]
def r_i_RecoverLog_5 : List CO := [⟨none, (some 22), (.mv (.t 0))⟩, ⟨none, (some 23), (.mv (.t 7))⟩, ⟨none, (some 24), (.slc none (.t 22) none (some (.t 23)))⟩, ⟨none, (some 25), (.mv (.t 5))⟩, ⟨none, (some 26), (.len false (.t 25))⟩, ⟨none, (some 27), (.build (.agg [(.v (.string (bs []))), (.v (.string (bs []))), (.v (.int .i64 (0)))]) [(0, (1, (.t 24))), (2, (1, (.t 26)))])⟩, ⟨none, (some 28), (.mv (.t 7))⟩, ⟨none, none, (.st 3 (.t 2) (.t 27))⟩, ⟨none, (some 3), (.mv (.t 28))⟩, ⟨none, (some 4), (.mv (.k (.v (.bool true))))⟩]
/-- loop.example/g00884/impl.RecoverLog -/
def c_i_RecoverLog : C := (.seq (.reg r_i_RecoverLog_0 [0, 2]) (.seq (.seq (.reg r_i_RecoverLog_1 [0, 2, 10]) (.cond (.t 10) (.seq (.reg r_i_RecoverLog_2 [2, 3, 4]) .ret) .skip)) (.seq (.reg r_i_RecoverLog_3 [0, 2, 5, 6]) (.seq (.reg r_i_RecoverLog_4 [0, 2, 5, 7]) (.seq (.reg r_i_RecoverLog_5 [2, 3, 4]) .ret)))))
def k_i_RecoverLog : Nat → List Nat
  | 0 => [0, 2]
  | 1 => [0, 2, 10]
  | 2 => [2, 3, 4]
  | 3 => [0, 2, 5, 6]
  | 4 => [0, 2, 5, 7]
  | 5 => [2, 3, 4]
  | _ => []
theorem fn_i_RecoverLog : FnC Tryd.prog n_i_RecoverLog c_i_RecoverLog [(.cell 2 true 3), (.tmp 3), (.tmp 4)] 29 :=
  ⟨Tryd.f20, _, k_i_RecoverLog, Tryd.func20, rfl, by kernel_rfl, by kernel_rfl, by kernel_rfl, rfl⟩
def r_s_SyncLog_0 : List CO := [⟨none, (some 1), (.box 3 (.t 0))⟩, ⟨none, (some 2), (.box 3 (.k (.agg [(.v (.string (bs []))), (.v (.string (bs []))), (.v (.int .i64 (0)))])))⟩, ⟨none, (some 3), (.mv (.k (.v (.bool false))))⟩]
def r_s_SyncLog_1 : List CO := [⟨none, (some 4), (.ld true 3 (.t 1))⟩, ⟨none, (some 5), (.call n_s_l27Log [(.t 4)])⟩, ⟨none, (some 6), (.un .not (.t 5))⟩]
def r_s_SyncLog_2 : List CO := [⟨none, (some 7), (.build (.agg [(.v (.string (bs []))), (.v (.string (bs []))), (.v (.int .i64 (0)))]) [])⟩, ⟨none, none, (.st 3 (.t 2) (.t 7))⟩, ⟨none, (some 3), (.mv (.k (.v (.bool false))))⟩]
def r_s_SyncLog_3 : List CO := [⟨none, (some 8), (.faddr 0 (.t 1))⟩, ⟨none, (some 9), (.ld false 1 (.t 8))⟩, ⟨none, (some 10), (.faddr 1 (.t 1))⟩, ⟨none, (some 11), (.ld false 1 (.t 10))⟩, ⟨none, (some 12), (.bin .add .none (.t 9) (.t 11))⟩, ⟨none, (some 13), (.faddr 2 (.t 1))⟩, ⟨none, (some 14), (.ld false 1 (.t 13))⟩, ⟨none, (some 15), (.build (.agg [(.v (.string (bs []))), (.v (.string (bs []))), (.v (.int .i64 (0)))]) [(0, (1, (.t 12))), (2, (1, (.t 14)))])⟩, ⟨none, none, (.st 3 (.t 2) (.t 15))⟩, ⟨none, (some 3), (.mv (.k (.v (.bool true))))⟩]
/-- loop.example/g00884/spec.SyncLog -/
def c_s_SyncLog : C := (.seq (.reg r_s_SyncLog_0 [1, 2]) (.seq (.seq (.reg r_s_SyncLog_1 [1, 2, 6]) (.cond (.t 6) (.seq (.reg r_s_SyncLog_2 [2, 3]) .ret) .skip)) (.seq (.reg r_s_SyncLog_3 [2, 3]) .ret)))
def k_s_SyncLog : Nat → List Nat
  | 0 => [1, 2]
  | 1 => [1, 2, 6]
  | 2 => [2, 3]
  | 3 => [2, 3]
  | _ => []
theorem fn_s_SyncLog : FnC Tryd.prog n_s_SyncLog c_s_SyncLog [(.cell 2 true 3), (.tmp 3)] 16 :=
  ⟨Tryd.f56, _, k_s_SyncLog, Tryd.func56, rfl, by kernel_rfl, by kernel_rfl, by kernel_rfl, rfl⟩
def r_i_SyncLog_0 : List CO := [⟨none, (some 1), (.box 3 (.t 0))⟩, ⟨none, (some 2), (.box 3 (.k (.agg [(.v (.string (bs []))), (.v (.string (bs []))), (.v (.int .i64 (0)))])))⟩, ⟨none, (some 3), (.mv (.k (.v (.bool false))))⟩]
def r_i_SyncLog_1 : List CO := [⟨none, (some 4), (.ld true 3 (.t 1))⟩, ⟨none, (some 5), (.call n_i_IsValidLog [(.t 4)])⟩, ⟨none, (some 6), (.un .not (.t 5))⟩]
def r_i_SyncLog_2 : List CO := [⟨none, (some 7), (.build (.agg [(.v (.string (bs []))), (.v (.string (bs []))), (.v (.int .i64 (0)))]) [])⟩, ⟨none, none, (.st 3 (.t 2) (.t 7))⟩, ⟨none, (some 3), (.mv (.k (.v (.bool false))))⟩]
def r_i_SyncLog_3 : List CO := [⟨none, (some 8), (.faddr 0 (.t 1))⟩, ⟨none, (some 9), (.ld false 1 (.t 8))⟩, ⟨none, (some 10), (.faddr 1 (.t 1))⟩, ⟨none, (some 11), (.ld false 1 (.t 10))⟩, ⟨none, (some 12), (.bin .add .none (.t 9) (.t 11))⟩, ⟨none, (some 13), (.faddr 2 (.t 1))⟩, ⟨none, (some 14), (.ld false 1 (.t 13))⟩, ⟨none, (some 15), (.build (.agg [(.v (.string (bs []))), (.v (.string (bs []))), (.v (.int .i64 (0)))]) [(0, (1, (.t 12))), (2, (1, (.t 14)))])⟩, ⟨none, none, (.st 3 (.t 2) (.t 15))⟩, ⟨none, (some 3), (.mv (.k (.v (.bool true))))⟩]
/-- loop.example/g00884/impl.SyncLog -/
def c_i_SyncLog : C := (.seq (.reg r_i_SyncLog_0 [1, 2]) (.seq (.seq (.reg r_i_SyncLog_1 [1, 2, 6]) (.cond (.t 6) (.seq (.reg r_i_SyncLog_2 [2, 3]) .ret) .skip)) (.seq (.reg r_i_SyncLog_3 [2, 3]) .ret)))
def k_i_SyncLog : Nat → List Nat
  | 0 => [1, 2]
  | 1 => [1, 2, 6]
  | 2 => [2, 3]
  | 3 => [2, 3]
  | _ => []
theorem fn_i_SyncLog : FnC Tryd.prog n_i_SyncLog c_i_SyncLog [(.cell 2 true 3), (.tmp 3)] 16 :=
  ⟨Tryd.f21, _, k_i_SyncLog, Tryd.func21, rfl, by kernel_rfl, by kernel_rfl, by kernel_rfl, rfl⟩
def r_s_AppendRecord_0 : List CO := [⟨none, (some 2), (.box 3 (.t 0))⟩, ⟨none, (some 3), (.box 2 (.t 1))⟩, ⟨none, (some 4), (.box 3 (.k (.agg [(.v (.string (bs []))), (.v (.string (bs []))), (.v (.int .i64 (0)))])))⟩, ⟨none, (some 5), (.mv (.k (.v (.int .i64 (0)))))⟩]
def r_s_AppendRecord_1 : List CO := [⟨none, (some 6), (.ld true 3 (.t 2))⟩, ⟨none, (some 7), (.call n_s_l27Log [(.t 6)])⟩, ⟨none, (some 8), (.un .not (.t 7))⟩, ⟨none, (some 9), (.mv (.t 8))⟩, ⟨(some (9, false)), (some 10), (.ld true 2 (.t 3))⟩, ⟨(some (9, false)), (some 11), (.call n_s_l27Good [(.t 10)])⟩, ⟨(some (9, false)), (some 12), (.un .not (.t 11))⟩, ⟨none, (some 13), (.pick (.t 9) (.k (.v (.bool true))) (.t 12))⟩]
def r_s_AppendRecord_2 : List CO := [⟨none, (some 14), (.ld true 3 (.t 2))⟩, ⟨none, none, (.st 3 (.t 4) (.t 14))⟩, ⟨none, (some 5), (.mv (.k (.v (.int .i64 (1)))))⟩]
def r_s_AppendRecord_3 : List CO := [⟨none, (some 15), (.faddr 2 (.t 2))⟩, ⟨none, (some 16), (.ld false 1 (.t 15))⟩, ⟨none, (some 17), (.bin .eql .none (.t 16) (.k (.v (.int .i64 (60)))))⟩]
def r_s_AppendRecord_4 : List CO := [⟨none, (some 18), (.ld true 3 (.t 2))⟩, ⟨none, none, (.st 3 (.t 4) (.t 18))⟩, ⟨none, (some 5), (.mv (.k (.v (.int .i64 (2)))))⟩]
def r_s_AppendRecord_5 : List CO := [⟨none, (some 19), (.faddr 1 (.t 2))⟩, ⟨none, (some 20), (.ld false 1 (.t 19))⟩, ⟨none, (some 21), (.faddr 2 (.t 2))⟩, ⟨none, (some 22), (.ld false 1 (.t 21))⟩, ⟨none, (some 23), (.ld true 2 (.t 3))⟩, ⟨none, (some 24), (.call n_s_l27Line [(.t 22), (.t 23)])⟩, ⟨none, (some 25), (.bin .add .none (.t 20) (.t 24))⟩, ⟨none, (some 26), (.faddr 1 (.t 2))⟩, ⟨none, none, (.st 1 (.t 26) (.t 25))⟩]
def p_s_AppendRecord_5 : List (List Nat) := [[], [0], [], [2], [], [2, 3, 4], [0, 1, 2, 3, 4, 5], [0, 1, 2, 3, 4, 5, 6], [0, 1, 2, 3, 4, 5, 6, 7]]
def r_s_AppendRecord_6 : List CO := [⟨none, (some 27), (.faddr 2 (.t 2))⟩, ⟨none, (some 28), (.ld false 1 (.t 27))⟩, ⟨none, (some 29), (.bin .add .none (.t 28) (.k (.v (.int .i64 (1)))))⟩, ⟨none, (some 30), (.faddr 2 (.t 2))⟩, ⟨none, none, (.st 1 (.t 30) (.t 29))⟩]
def r_s_AppendRecord_7 : List CO := [⟨none, (some 31), (.ld true 3 (.t 2))⟩, ⟨none, none, (.st 3 (.t 4) (.t 31))⟩, ⟨none, (some 5), (.mv (.k (.v (.int .i64 (0)))))⟩]
/-- loop.example/g00884/spec.AppendRecord -/
def c_s_AppendRecord : C := (.seq (.reg r_s_AppendRecord_0 [2, 3, 4]) (.seq (.seq (.reg r_s_AppendRecord_1 [2, 3, 4, 13]) (.cond (.t 13) (.seq (.reg r_s_AppendRecord_2 [4, 5]) .ret) .skip)) (.seq (.seq (.reg r_s_AppendRecord_3 [2, 3, 4, 17]) (.cond (.t 17) (.seq (.reg r_s_AppendRecord_4 [4, 5]) .ret) .skip)) (.seq (.regD r_s_AppendRecord_5 p_s_AppendRecord_5 [2, 4]) (.seq (.reg r_s_AppendRecord_6 [2, 4]) (.seq (.reg r_s_AppendRecord_7 [4, 5]) .ret))))))
def k_s_AppendRecord : Nat → List Nat
  | 0 => [2, 3, 4]
  | 1 => [2, 3, 4, 13]
  | 2 => [4, 5]
  | 3 => [2, 3, 4, 17]
  | 4 => [4, 5]
  | 5 => [2, 4]
  | 6 => [2, 4]
  | 7 => [4, 5]
  | _ => []
theorem fn_s_AppendRecord : FnC Tryd.prog n_s_AppendRecord c_s_AppendRecord [(.cell 4 true 3), (.tmp 5)] 32 :=
  ⟨Tryd.f14, _, k_s_AppendRecord, Tryd.func14, rfl, by kernel_rfl, by kernel_rfl, by kernel_rfl, rfl⟩
def r_i_AppendRecord_0 : List CO := [⟨none, (some 2), (.box 3 (.t 0))⟩, ⟨none, (some 3), (.box 2 (.t 1))⟩, ⟨none, (some 4), (.box 3 (.k (.agg [(.v (.string (bs []))), (.v (.string (bs []))), (.v (.int .i64 (0)))])))⟩, ⟨none, (some 5), (.mv (.k (.v (.int .i64 (0)))))⟩]
def r_i_AppendRecord_1 : List CO := [⟨none, (some 7), (.ld true 3 (.t 2))⟩, ⟨none, (some 8), (.call n_i_IsValidLog [(.t 7)])⟩, ⟨none, (some 9), (.un .not (.t 8))⟩, ⟨none, (some 10), (.mv (.t 9))⟩, ⟨(some (10, false)), (some 11), (.ld true 2 (.t 3))⟩, ⟨(some (10, false)), (some 12), (.call n_i_IsValidRecord [(.t 11)])⟩, ⟨(some (10, false)), (some 13), (.un .not (.t 12))⟩, ⟨none, (some 14), (.pick (.t 10) (.k (.v (.bool true))) (.t 13))⟩, ⟨none, (some 6), (.mv (.t 14))⟩]
def r_i_AppendRecord_2 : List CO := [⟨none, (some 15), (.ld true 3 (.t 2))⟩, ⟨none, none, (.st 3 (.t 4) (.t 15))⟩, ⟨none, (some 5), (.mv (.k (.v (.int .i64 (1)))))⟩]
def r_i_AppendRecord_3 : List CO := [⟨none, (some 17), (.faddr 2 (.t 2))⟩, ⟨none, (some 18), (.ld false 1 (.t 17))⟩, ⟨none, (some 19), (.bin .eql .none (.t 18) (.k (.v (.int .i64 (60)))))⟩, ⟨none, (some 16), (.mv (.t 19))⟩]
def r_i_AppendRecord_4 : List CO := [⟨none, (some 20), (.ld true 3 (.t 2))⟩, ⟨none, none, (.st 3 (.t 4) (.t 20))⟩, ⟨none, (some 5), (.mv (.k (.v (.int .i64 (2)))))⟩]
def r_i_AppendRecord_5 : List CO := [⟨none, (some 21), (.faddr 0 (.t 2))⟩, ⟨none, (some 22), (.ld false 1 (.t 21))⟩, ⟨none, (some 23), (.faddr 1 (.t 2))⟩, ⟨none, (some 24), (.ld false 1 (.t 23))⟩, ⟨none, (some 25), (.faddr 2 (.t 2))⟩, ⟨none, (some 26), (.ld false 1 (.t 25))⟩, ⟨none, (some 27), (.ld true 2 (.t 3))⟩, ⟨none, (some 28), (.call n_i_encodeRecord [(.t 26), (.t 27)])⟩, ⟨none, (some 29), (.bin .add .none (.t 24) (.t 28))⟩, ⟨none, (some 30), (.faddr 2 (.t 2))⟩, ⟨none, (some 31), (.ld false 1 (.t 30))⟩, ⟨none, (some 32), (.bin .add .none (.t 31) (.k (.v (.int .i64 (1)))))⟩, ⟨none, (some 33), (.build (.agg [(.v (.string (bs []))), (.v (.string (bs []))), (.v (.int .i64 (0)))]) [(0, (1, (.t 22))), (1, (1, (.t 29))), (2, (1, (.t 32)))])⟩, ⟨none, none, (.st 3 (.t 4) (.t 33))⟩, ⟨none, (some 5), (.mv (.k (.v (.int .i64 (0)))))⟩]
def p_i_AppendRecord_5 : List (List Nat) := [[], [0], [], [2], [], [4], [], [4, 5, 6], [2, 3, 4, 5, 6, 7], [], [9], [9, 10], [0, 1, 2, 3, 4, 5, 6, 7, 8, 9, 10, 11], [0, 1, 2, 3, 4, 5, 6, 7, 8, 9, 10, 11, 12], [0, 1, 2, 3, 4, 5, 6, 7, 8, 9, 10, 11, 12, 13]]
/-- loop.example/g00884/impl.AppendRecord -/
def c_i_AppendRecord : C := (.seq (.reg r_i_AppendRecord_0 [2, 3, 4]) (.seq (.block 0 (.seq (.reg r_i_AppendRecord_1 [2, 3, 4, 6]) (.cond (.t 6) (.seq (.reg r_i_AppendRecord_2 [4, 5]) .ret) (.seq (.reg r_i_AppendRecord_3 [2, 3, 4, 16]) (.cond (.t 16) (.seq (.reg r_i_AppendRecord_4 [4, 5]) .ret) .skip))))) (.seq (.regD r_i_AppendRecord_5 p_i_AppendRecord_5 [4, 5]) .ret)))
def k_i_AppendRecord : Nat → List Nat
  | 0 => [2, 3, 4]
  | 1 => [2, 3, 4, 6]
  | 2 => [4, 5]
  | 3 => [2, 3, 4, 16]
  | 4 => [4, 5]
  | 5 => [4, 5]
  | _ => []
theorem fn_i_AppendRecord : FnC Tryd.prog n_i_AppendRecord c_i_AppendRecord [(.cell 4 true 3), (.tmp 5)] 34 :=
  ⟨Tryd.f13, _, k_i_AppendRecord, Tryd.func13, rfl, by kernel_rfl, by kernel_rfl, by kernel_rfl, rfl⟩
def r_s_LogRecords_0 : List CO := [⟨none, (some 1), (.box 3 (.t 0))⟩, ⟨none, (some 2), (.mv (.k (.v (.slice none 0 0))))⟩, ⟨none, (some 3), (.mv (.k (.v (.bool false))))⟩]
def r_s_LogRecords_1 : List CO := [⟨none, (some 6), (.ld true 3 (.t 1))⟩, ⟨none, (some 7), (.call n_s_l27Log [(.t 6)])⟩, ⟨none, (some 8), (.un .not (.t 7))⟩]
def r_s_LogRecords_2 : List CO := [⟨none, (some 9), (.bslice 2 (.agg [(.v (.string (bs []))), (.v (.string (bs [])))]) 0 [])⟩, ⟨none, (some 2), (.mv (.t 9))⟩, ⟨none, (some 3), (.mv (.k (.v (.bool false))))⟩]
def r_s_LogRecords_3 : List CO := [⟨none, (some 11), (.faddr 0 (.t 1))⟩, ⟨none, (some 12), (.ld false 1 (.t 11))⟩, ⟨none, (some 13), (.faddr 1 (.t 1))⟩, ⟨none, (some 14), (.ld false 1 (.t 13))⟩, ⟨none, (some 15), (.bin .add .none (.t 12) (.t 14))⟩, ⟨none, (some 16), (.call n_s_l27Open [(.t 15)])⟩, ⟨none, (some 10), (.mv (.t 16))⟩, ⟨none, (some 17), (.ext (.t 10) 0)⟩, ⟨none, (some 18), (.ext (.t 10) 1)⟩, ⟨none, (some 4), (.mv (.t 17))⟩, ⟨none, (some 5), (.mv (.t 18))⟩]
def r_s_LogRecords_4 : List CO := [⟨none, (some 19), (.mv (.t 4))⟩, ⟨none, (some 2), (.mv (.t 19))⟩, ⟨none, (some 3), (.mv (.k (.v (.bool true))))⟩]
/-- loop.example/g00884/spec.LogRecords -/
def c_s_LogRecords : C := (.seq (.reg r_s_LogRecords_0 [1]) (.seq (.seq (.reg r_s_LogRecords_1 [1, 8]) (.cond (.t 8) (.seq (.reg r_s_LogRecords_2 [2, 3]) .ret) .skip)) (.seq (.reg r_s_LogRecords_3 [4]) (.seq (.reg r_s_LogRecords_4 [2, 3]) .ret))))
def k_s_LogRecords : Nat → List Nat
  | 0 => [1]
  | 1 => [1, 8]
  | 2 => [2, 3]
  | 3 => [4]
  | 4 => [2, 3]
  | _ => []
theorem fn_s_LogRecords : FnC Tryd.prog n_s_LogRecords c_s_LogRecords [(.tmp 2), (.tmp 3)] 20 :=
  ⟨Tryd.f28, _, k_s_LogRecords, Tryd.func28, rfl, by kernel_rfl, by kernel_rfl, by kernel_rfl, rfl⟩
def r_i_LogRecords_0 : List CO := [⟨none, (some 1), (.box 3 (.t 0))⟩, ⟨none, (some 2), (.mv (.k (.v (.slice none 0 0))))⟩, ⟨none, (some 3), (.mv (.k (.v (.bool false))))⟩]
def r_i_LogRecords_1 : List CO := [⟨none, (some 6), (.ld true 3 (.t 1))⟩, ⟨none, (some 7), (.call n_i_IsValidLog [(.t 6)])⟩, ⟨none, (some 8), (.un .not (.t 7))⟩]
def r_i_LogRecords_2 : List CO := [⟨none, (some 2), (.mv (.k (.v (.slice none 0 0))))⟩, ⟨none, (some 3), (.mv (.k (.v (.bool false))))⟩]
def r_i_LogRecords_3 : List CO := [⟨none, (some 10), (.faddr 0 (.t 1))⟩, ⟨none, (some 11), (.ld false 1 (.t 10))⟩, ⟨none, (some 12), (.faddr 1 (.t 1))⟩, ⟨none, (some 13), (.ld false 1 (.t 12))⟩, ⟨none, (some 14), (.bin .add .none (.t 11) (.t 13))⟩, ⟨none, (some 15), (.call n_i_readRecords [(.t 14)])⟩, ⟨none, (some 9), (.mv (.t 15))⟩, ⟨none, (some 16), (.ext (.t 9) 0)⟩, ⟨none, (some 17), (.ext (.t 9) 1)⟩, ⟨none, (some 4), (.mv (.t 16))⟩, ⟨none, (some 5), (.mv (.t 17))⟩]
def r_i_LogRecords_4 : List CO := [⟨none, (some 18), (.mv (.t 4))⟩, ⟨none, (some 2), (.mv (.t 18))⟩, ⟨none, (some 3), (.mv (.k (.v (.bool true))))⟩]
/-- loop.example/g00884/impl.LogRecords -/
def c_i_LogRecords : C := (.seq (.reg r_i_LogRecords_0 [1]) (.seq (.seq (.reg r_i_LogRecords_1 [1, 8]) (.cond (.t 8) (.seq (.reg r_i_LogRecords_2 [2, 3]) .ret) .skip)) (.seq (.reg r_i_LogRecords_3 [4]) (.seq (.reg r_i_LogRecords_4 [2, 3]) .ret))))
def k_i_LogRecords : Nat → List Nat
  | 0 => [1]
  | 1 => [1, 8]
  | 2 => [2, 3]
  | 3 => [4]
  | 4 => [2, 3]
  | _ => []
theorem fn_i_LogRecords : FnC Tryd.prog n_i_LogRecords c_i_LogRecords [(.tmp 2), (.tmp 3)] 19 :=
  ⟨Tryd.f19, _, k_i_LogRecords, Tryd.func19, rfl, by kernel_rfl, by kernel_rfl, by kernel_rfl, rfl⟩
end Go.Proofs.YtgefdcllialhkaaDoor
