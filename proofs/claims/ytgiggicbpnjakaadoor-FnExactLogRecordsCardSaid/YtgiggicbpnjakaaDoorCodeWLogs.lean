/- The compact code of the functions, and that it is theirs: written by a program of this claim. -/
import Derived.Test.YtgiggicbpnjakaaDoorNums
namespace Go.Proofs.YtgiggicbpnjakaaDoor
open Go.Abs
set_option maxRecDepth 100000
def r_w_szLog_0 : List CO := [⟨none, (some 2), (.box 3 (.t 0))⟩, ⟨none, (some 4), (.mv (.k (.v (.int .i64 (0)))))⟩]
def r_w_szLog_1 : List CO := [⟨none, (some 5), (.mv (.t 1))⟩, ⟨none, (some 6), (.faddr 0 (.t 2))⟩, ⟨none, (some 7), (.ld false 1 (.t 6))⟩, ⟨none, (some 8), (.len true (.t 7))⟩, ⟨none, (some 9), (.bin .sub .none (.t 5) (.t 8))⟩, ⟨none, (some 1), (.mv (.t 9))⟩]
def r_w_szLog_2 : List CO := [⟨none, (some 10), (.mv (.t 1))⟩, ⟨none, (some 11), (.bin .lss .none (.t 10) (.k (.v (.int .i64 (0)))))⟩]
def r_w_szLog_3 : List CO := [⟨none, (some 4), (.mv (.k (.v (.int .i64 (-1)))))⟩]
def r_w_szLog_4 : List CO := [⟨none, (some 12), (.mv (.t 1))⟩, ⟨none, (some 13), (.faddr 1 (.t 2))⟩, ⟨none, (some 14), (.ld false 1 (.t 13))⟩, ⟨none, (some 15), (.len true (.t 14))⟩, ⟨none, (some 16), (.bin .sub .none (.t 12) (.t 15))⟩, ⟨none, (some 1), (.mv (.t 16))⟩]
def r_w_szLog_5 : List CO := [⟨none, (some 17), (.mv (.t 1))⟩, ⟨none, (some 18), (.bin .lss .none (.t 17) (.k (.v (.int .i64 (0)))))⟩]
def r_w_szLog_6 : List CO := [⟨none, (some 4), (.mv (.k (.v (.int .i64 (-1)))))⟩]
def r_w_szLog_7 : List CO := [⟨none, (some 19), (.mv (.t 1))⟩, ⟨none, (some 4), (.mv (.t 19))⟩]
/-- loop.example/g00884/laws.szLog -/
def c_w_szLog : C := (.seq (.reg r_w_szLog_0 [1, 2]) (.seq (.reg r_w_szLog_1 [1, 2]) (.seq (.seq (.reg r_w_szLog_2 [1, 2, 11]) (.cond (.t 11) (.seq (.reg r_w_szLog_3 [4]) .ret) .skip)) (.seq (.reg r_w_szLog_4 [1]) (.seq (.seq (.reg r_w_szLog_5 [1, 18]) (.cond (.t 18) (.seq (.reg r_w_szLog_6 [4]) .ret) .skip)) (.seq (.reg r_w_szLog_7 [4]) .ret))))))
def k_w_szLog : Nat → List Nat
  | 0 => [1, 2]
  | 1 => [1, 2]
  | 2 => [1, 2, 11]
  | 3 => [4]
  | 4 => [1]
  | 5 => [1, 18]
  | 6 => [4]
  | 7 => [4]
  | _ => []
theorem fn_w_szLog : FnC Tryd.prog n_w_szLog c_w_szLog [(.tmp 4)] 20 :=
  ⟨Tryd.f20, _, k_w_szLog, Tryd.func20, rfl, by kernel_rfl, by kernel_rfl, by kernel_rfl, rfl⟩
def r_w_toLog_0 : List CO := [⟨none, (some 1), (.box 3 (.t 0))⟩, ⟨none, (some 2), (.box 3 (.k (.agg [(.v (.string (bs []))), (.v (.string (bs []))), (.v (.int .i64 (0)))])))⟩]
def r_w_toLog_1 : List CO := [⟨none, (some 3), (.box 3 (.k (.agg [(.v (.string (bs []))), (.v (.string (bs []))), (.v (.int .i64 (0)))])))⟩]
def r_w_toLog_2 : List CO := [⟨none, (some 4), (.faddr 0 (.t 1))⟩, ⟨none, (some 5), (.ld false 1 (.t 4))⟩, ⟨none, (some 6), (.faddr 0 (.t 3))⟩, ⟨none, none, (.st 1 (.t 6) (.t 5))⟩]
def r_w_toLog_3 : List CO := [⟨none, (some 7), (.faddr 1 (.t 1))⟩, ⟨none, (some 8), (.ld false 1 (.t 7))⟩, ⟨none, (some 9), (.faddr 1 (.t 3))⟩, ⟨none, none, (.st 1 (.t 9) (.t 8))⟩]
def r_w_toLog_4 : List CO := [⟨none, (some 10), (.faddr 2 (.t 1))⟩, ⟨none, (some 11), (.ld false 1 (.t 10))⟩, ⟨none, (some 12), (.faddr 2 (.t 3))⟩, ⟨none, none, (.st 1 (.t 12) (.t 11))⟩]
def r_w_toLog_5 : List CO := [⟨none, (some 13), (.ld true 3 (.t 3))⟩, ⟨none, none, (.st 3 (.t 2) (.t 13))⟩]
/-- loop.example/g00884/laws.toLog -/
def c_w_toLog : C := (.seq (.reg r_w_toLog_0 [1, 2]) (.seq (.reg r_w_toLog_1 [1, 2, 3]) (.seq (.reg r_w_toLog_2 [1, 2, 3]) (.seq (.reg r_w_toLog_3 [1, 2, 3]) (.seq (.reg r_w_toLog_4 [2, 3]) (.seq (.reg r_w_toLog_5 [2]) .ret))))))
def k_w_toLog : Nat → List Nat
  | 0 => [1, 2]
  | 1 => [1, 2, 3]
  | 2 => [1, 2, 3]
  | 3 => [1, 2, 3]
  | 4 => [2, 3]
  | 5 => [2]
  | _ => []
theorem fn_w_toLog : FnC Tryd.prog n_w_toLog c_w_toLog [(.cell 2 true 3)] 14 :=
  ⟨Tryd.f22, _, k_w_toLog, Tryd.func22, rfl, by kernel_rfl, by kernel_rfl, by kernel_rfl, rfl⟩
def r_w_eqLog_0 : List CO := [⟨none, (some 2), (.box 3 (.t 0))⟩, ⟨none, (some 3), (.box 3 (.t 1))⟩, ⟨none, (some 4), (.mv (.k (.v (.bool false))))⟩]
def r_w_eqLog_1 : List CO := [⟨none, (some 5), (.faddr 0 (.t 2))⟩, ⟨none, (some 6), (.ld false 1 (.t 5))⟩, ⟨none, (some 7), (.faddr 0 (.t 3))⟩, ⟨none, (some 8), (.ld false 1 (.t 7))⟩, ⟨none, (some 9), (.bin .neq .none (.t 6) (.t 8))⟩]
def r_w_eqLog_2 : List CO := [⟨none, (some 4), (.mv (.k (.v (.bool false))))⟩]
def r_w_eqLog_3 : List CO := [⟨none, (some 10), (.faddr 1 (.t 2))⟩, ⟨none, (some 11), (.ld false 1 (.t 10))⟩, ⟨none, (some 12), (.faddr 1 (.t 3))⟩, ⟨none, (some 13), (.ld false 1 (.t 12))⟩, ⟨none, (some 14), (.bin .neq .none (.t 11) (.t 13))⟩]
def r_w_eqLog_4 : List CO := [⟨none, (some 4), (.mv (.k (.v (.bool false))))⟩]
def r_w_eqLog_5 : List CO := [⟨none, (some 15), (.faddr 2 (.t 2))⟩, ⟨none, (some 16), (.ld false 1 (.t 15))⟩, ⟨none, (some 17), (.faddr 2 (.t 3))⟩, ⟨none, (some 18), (.ld false 1 (.t 17))⟩, ⟨none, (some 19), (.bin .neq .none (.t 16) (.t 18))⟩]
def r_w_eqLog_6 : List CO := [⟨none, (some 4), (.mv (.k (.v (.bool false))))⟩]
def r_w_eqLog_7 : List CO := [⟨none, (some 4), (.mv (.k (.v (.bool true))))⟩]
/-- loop.example/g00884/laws.eqLog -/
def c_w_eqLog : C := (.seq (.reg r_w_eqLog_0 [2, 3]) (.seq (.seq (.reg r_w_eqLog_1 [2, 3, 9]) (.cond (.t 9) (.seq (.reg r_w_eqLog_2 [4]) .ret) .skip)) (.seq (.seq (.reg r_w_eqLog_3 [2, 3, 14]) (.cond (.t 14) (.seq (.reg r_w_eqLog_4 [4]) .ret) .skip)) (.seq (.seq (.reg r_w_eqLog_5 [19]) (.cond (.t 19) (.seq (.reg r_w_eqLog_6 [4]) .ret) .skip)) (.seq (.reg r_w_eqLog_7 [4]) .ret)))))
def k_w_eqLog : Nat → List Nat
  | 0 => [2, 3]
  | 1 => [2, 3, 9]
  | 2 => [4]
  | 3 => [2, 3, 14]
  | 4 => [4]
  | 5 => [19]
  | 6 => [4]
  | 7 => [4]
  | _ => []
theorem fn_w_eqLog : FnC Tryd.prog n_w_eqLog c_w_eqLog [(.tmp 4)] 20 :=
  ⟨Tryd.f19, _, k_w_eqLog, Tryd.func19, rfl, by kernel_rfl, by kernel_rfl, by kernel_rfl, rfl⟩
def r_w_FnExactRecoverLog_0 : List CO := [⟨none, (some 2), (.mv (.k (.v (.bool false))))⟩]
def r_w_FnExactRecoverLog_1 : List CO := [⟨none, (some 9), (.mv (.t 0))⟩, ⟨none, (some 10), (.len true (.t 9))⟩, ⟨none, (some 11), (.bin .gtr .none (.t 10) (.k (.v (.int .i64 (1048576)))))⟩]
def r_w_FnExactRecoverLog_2 : List CO := [⟨none, (some 2), (.mv (.k (.v (.bool true))))⟩]
def r_w_FnExactRecoverLog_3 : List CO := [⟨none, (some 13), (.mv (.t 0))⟩, ⟨none, (some 14), (.call n_s_RecoverLog [(.t 13)])⟩, ⟨none, (some 12), (.mv (.t 14))⟩, ⟨none, (some 15), (.ext (.t 12) 0)⟩, ⟨none, (some 16), (.ext (.t 12) 1)⟩, ⟨none, (some 17), (.ext (.t 12) 2)⟩, ⟨none, (some 3), (.box 3 (.k (.agg [(.v (.string (bs []))), (.v (.string (bs []))), (.v (.int .i64 (0)))])))⟩, ⟨none, none, (.st 3 (.t 3) (.t 15))⟩, ⟨none, (some 4), (.mv (.t 16))⟩, ⟨none, (some 5), (.mv (.t 17))⟩]
def r_w_FnExactRecoverLog_4 : List CO := [⟨none, (some 19), (.mv (.t 0))⟩, ⟨none, (some 20), (.call n_i_RecoverLog [(.t 19)])⟩, ⟨none, (some 18), (.mv (.t 20))⟩, ⟨none, (some 21), (.ext (.t 18) 0)⟩, ⟨none, (some 22), (.ext (.t 18) 1)⟩, ⟨none, (some 23), (.ext (.t 18) 2)⟩, ⟨none, (some 6), (.box 3 (.k (.agg [(.v (.string (bs []))), (.v (.string (bs []))), (.v (.int .i64 (0)))])))⟩, ⟨none, none, (.st 3 (.t 6) (.t 21))⟩, ⟨none, (some 7), (.mv (.t 22))⟩, ⟨none, (some 8), (.mv (.t 23))⟩]
def r_w_FnExactRecoverLog_5 : List CO := [⟨none, (some 24), (.ld true 3 (.t 6))⟩, ⟨none, (some 25), (.ld true 3 (.t 3))⟩, ⟨none, (some 26), (.call n_w_eqLog [(.t 24), (.t 25)])⟩, ⟨none, (some 27), (.un .not (.t 26))⟩, ⟨none, (some 28), (.mv (.t 27))⟩, ⟨(some (28, false)), (some 29), (.mv (.t 7))⟩, ⟨(some (28, false)), (some 30), (.mv (.t 4))⟩, ⟨(some (28, false)), (some 31), (.bin .neq .none (.t 29) (.t 30))⟩, ⟨none, (some 32), (.pick (.t 28) (.k (.v (.bool true))) (.t 31))⟩, ⟨none, (some 33), (.mv (.t 32))⟩, ⟨(some (33, false)), (some 34), (.mv (.t 8))⟩, ⟨(some (33, false)), (some 35), (.mv (.t 5))⟩, ⟨(some (33, false)), (some 36), (.bin .neq .bool (.t 34) (.t 35))⟩, ⟨none, (some 37), (.pick (.t 33) (.k (.v (.bool true))) (.t 36))⟩]
def r_w_FnExactRecoverLog_6 : List CO := [⟨none, (some 2), (.mv (.k (.v (.bool false))))⟩]
def r_w_FnExactRecoverLog_7 : List CO := [⟨none, (some 2), (.mv (.k (.v (.bool true))))⟩]
/-- loop.example/g00884/laws.FnExactRecoverLog -/
def c_w_FnExactRecoverLog : C := (.seq (.reg r_w_FnExactRecoverLog_0 [0]) (.seq (.seq (.reg r_w_FnExactRecoverLog_1 [0, 11]) (.cond (.t 11) (.seq (.reg r_w_FnExactRecoverLog_2 [2]) .ret) .skip)) (.seq (.reg r_w_FnExactRecoverLog_3 [0, 3, 4, 5]) (.seq (.reg r_w_FnExactRecoverLog_4 [3, 4, 5, 6, 7, 8]) (.seq (.seq (.reg r_w_FnExactRecoverLog_5 [37]) (.cond (.t 37) (.seq (.reg r_w_FnExactRecoverLog_6 [2]) .ret) .skip)) (.seq (.reg r_w_FnExactRecoverLog_7 [2]) .ret))))))
def k_w_FnExactRecoverLog : Nat → List Nat
  | 0 => [0]
  | 1 => [0, 11]
  | 2 => [2]
  | 3 => [0, 3, 4, 5]
  | 4 => [3, 4, 5, 6, 7, 8]
  | 5 => [37]
  | 6 => [2]
  | 7 => [2]
  | _ => []
theorem fn_w_FnExactRecoverLog : FnC Tryd.prog n_w_FnExactRecoverLog c_w_FnExactRecoverLog [(.tmp 2)] 38 :=
  ⟨Tryd.f4, _, k_w_FnExactRecoverLog, Tryd.func4, rfl, by kernel_rfl, by kernel_rfl, by kernel_rfl, rfl⟩
def r_w_FnExactIsValidLog_0 : List CO := [⟨none, (some 1), (.box 3 (.t 0))⟩, ⟨none, (some 2), (.mv (.k (.v (.bool false))))⟩]
def r_w_FnExactIsValidLog_1 : List CO := [⟨none, (some 3), (.mv (.k (.v (.int .i64 (1048576)))))⟩]
def r_w_FnExactIsValidLog_2 : List CO := [⟨none, (some 6), (.ld true 3 (.t 1))⟩, ⟨none, (some 7), (.mv (.t 3))⟩, ⟨none, (some 8), (.call n_w_szLog [(.t 6), (.t 7)])⟩, ⟨none, (some 3), (.mv (.t 8))⟩]
def r_w_FnExactIsValidLog_3 : List CO := [⟨none, (some 9), (.mv (.t 3))⟩, ⟨none, (some 10), (.bin .lss .none (.t 9) (.k (.v (.int .i64 (0)))))⟩]
def r_w_FnExactIsValidLog_4 : List CO := [⟨none, (some 2), (.mv (.k (.v (.bool true))))⟩]
def r_w_FnExactIsValidLog_5 : List CO := [⟨none, (some 11), (.ld true 3 (.t 1))⟩, ⟨none, (some 12), (.call n_w_toLog [(.t 11)])⟩, ⟨none, (some 13), (.call n_s_IsValidLog [(.t 12)])⟩, ⟨none, (some 4), (.mv (.t 13))⟩]
def r_w_FnExactIsValidLog_6 : List CO := [⟨none, (some 14), (.ld true 3 (.t 1))⟩, ⟨none, (some 15), (.call n_w_toLog [(.t 14)])⟩, ⟨none, (some 16), (.call n_i_IsValidLog [(.t 15)])⟩, ⟨none, (some 5), (.mv (.t 16))⟩]
def r_w_FnExactIsValidLog_7 : List CO := [⟨none, (some 17), (.mv (.t 5))⟩, ⟨none, (some 18), (.mv (.t 4))⟩, ⟨none, (some 19), (.bin .neq .bool (.t 17) (.t 18))⟩]
def r_w_FnExactIsValidLog_8 : List CO := [⟨none, (some 2), (.mv (.k (.v (.bool false))))⟩]
def r_w_FnExactIsValidLog_9 : List CO := [⟨none, (some 2), (.mv (.k (.v (.bool true))))⟩]
/-- loop.example/g00884/laws.FnExactIsValidLog -/
def c_w_FnExactIsValidLog : C := (.seq (.reg r_w_FnExactIsValidLog_0 [1]) (.seq (.reg r_w_FnExactIsValidLog_1 [1, 3]) (.seq (.reg r_w_FnExactIsValidLog_2 [1, 3]) (.seq (.seq (.reg r_w_FnExactIsValidLog_3 [1, 10]) (.cond (.t 10) (.seq (.reg r_w_FnExactIsValidLog_4 [2]) .ret) .skip)) (.seq (.reg r_w_FnExactIsValidLog_5 [1, 4]) (.seq (.reg r_w_FnExactIsValidLog_6 [4, 5]) (.seq (.seq (.reg r_w_FnExactIsValidLog_7 [19]) (.cond (.t 19) (.seq (.reg r_w_FnExactIsValidLog_8 [2]) .ret) .skip)) (.seq (.reg r_w_FnExactIsValidLog_9 [2]) .ret))))))))
def k_w_FnExactIsValidLog : Nat → List Nat
  | 0 => [1]
  | 1 => [1, 3]
  | 2 => [1, 3]
  | 3 => [1, 10]
  | 4 => [2]
  | 5 => [1, 4]
  | 6 => [4, 5]
  | 7 => [19]
  | 8 => [2]
  | 9 => [2]
  | _ => []
theorem fn_w_FnExactIsValidLog : FnC Tryd.prog n_w_FnExactIsValidLog c_w_FnExactIsValidLog [(.tmp 2)] 20 :=
  ⟨Tryd.f5, _, k_w_FnExactIsValidLog, Tryd.func5, rfl, by kernel_rfl, by kernel_rfl, by kernel_rfl, rfl⟩
def r_w_FnExactSyncLog_0 : List CO := [⟨none, (some 1), (.box 3 (.t 0))⟩, ⟨none, (some 2), (.mv (.k (.v (.bool false))))⟩]
def r_w_FnExactSyncLog_1 : List CO := [⟨none, (some 3), (.mv (.k (.v (.int .i64 (1048576)))))⟩]
def r_w_FnExactSyncLog_2 : List CO := [⟨none, (some 8), (.ld true 3 (.t 1))⟩, ⟨none, (some 9), (.mv (.t 3))⟩, ⟨none, (some 10), (.call n_w_szLog [(.t 8), (.t 9)])⟩, ⟨none, (some 3), (.mv (.t 10))⟩]
def r_w_FnExactSyncLog_3 : List CO := [⟨none, (some 11), (.mv (.t 3))⟩, ⟨none, (some 12), (.bin .lss .none (.t 11) (.k (.v (.int .i64 (0)))))⟩]
def r_w_FnExactSyncLog_4 : List CO := [⟨none, (some 2), (.mv (.k (.v (.bool true))))⟩]
def r_w_FnExactSyncLog_5 : List CO := [⟨none, (some 14), (.ld true 3 (.t 1))⟩, ⟨none, (some 15), (.call n_w_toLog [(.t 14)])⟩, ⟨none, (some 16), (.call n_s_SyncLog [(.t 15)])⟩, ⟨none, (some 13), (.mv (.t 16))⟩, ⟨none, (some 17), (.ext (.t 13) 0)⟩, ⟨none, (some 18), (.ext (.t 13) 1)⟩, ⟨none, (some 4), (.box 3 (.k (.agg [(.v (.string (bs []))), (.v (.string (bs []))), (.v (.int .i64 (0)))])))⟩, ⟨none, none, (.st 3 (.t 4) (.t 17))⟩, ⟨none, (some 5), (.mv (.t 18))⟩]
def r_w_FnExactSyncLog_6 : List CO := [⟨none, (some 20), (.ld true 3 (.t 1))⟩, ⟨none, (some 21), (.call n_w_toLog [(.t 20)])⟩, ⟨none, (some 22), (.call n_i_SyncLog [(.t 21)])⟩, ⟨none, (some 19), (.mv (.t 22))⟩, ⟨none, (some 23), (.ext (.t 19) 0)⟩, ⟨none, (some 24), (.ext (.t 19) 1)⟩, ⟨none, (some 6), (.box 3 (.k (.agg [(.v (.string (bs []))), (.v (.string (bs []))), (.v (.int .i64 (0)))])))⟩, ⟨none, none, (.st 3 (.t 6) (.t 23))⟩, ⟨none, (some 7), (.mv (.t 24))⟩]
def r_w_FnExactSyncLog_7 : List CO := [⟨none, (some 25), (.ld true 3 (.t 6))⟩, ⟨none, (some 26), (.ld true 3 (.t 4))⟩, ⟨none, (some 27), (.call n_w_eqLog [(.t 25), (.t 26)])⟩, ⟨none, (some 28), (.un .not (.t 27))⟩, ⟨none, (some 29), (.mv (.t 28))⟩, ⟨(some (29, false)), (some 30), (.mv (.t 7))⟩, ⟨(some (29, false)), (some 31), (.mv (.t 5))⟩, ⟨(some (29, false)), (some 32), (.bin .neq .bool (.t 30) (.t 31))⟩, ⟨none, (some 33), (.pick (.t 29) (.k (.v (.bool true))) (.t 32))⟩]
def r_w_FnExactSyncLog_8 : List CO := [⟨none, (some 2), (.mv (.k (.v (.bool false))))⟩]
def r_w_FnExactSyncLog_9 : List CO := [⟨none, (some 2), (.mv (.k (.v (.bool true))))⟩]
/-- loop.example/g00884/laws.FnExactSyncLog -/
def c_w_FnExactSyncLog : C := (.seq (.reg r_w_FnExactSyncLog_0 [1]) (.seq (.reg r_w_FnExactSyncLog_1 [1, 3]) (.seq (.reg r_w_FnExactSyncLog_2 [1, 3]) (.seq (.seq (.reg r_w_FnExactSyncLog_3 [1, 12]) (.cond (.t 12) (.seq (.reg r_w_FnExactSyncLog_4 [2]) .ret) .skip)) (.seq (.reg r_w_FnExactSyncLog_5 [1, 4, 5]) (.seq (.reg r_w_FnExactSyncLog_6 [4, 5, 6, 7]) (.seq (.seq (.reg r_w_FnExactSyncLog_7 [33]) (.cond (.t 33) (.seq (.reg r_w_FnExactSyncLog_8 [2]) .ret) .skip)) (.seq (.reg r_w_FnExactSyncLog_9 [2]) .ret))))))))
def k_w_FnExactSyncLog : Nat → List Nat
  | 0 => [1]
  | 1 => [1, 3]
  | 2 => [1, 3]
  | 3 => [1, 12]
  | 4 => [2]
  | 5 => [1, 4, 5]
  | 6 => [4, 5, 6, 7]
  | 7 => [33]
  | 8 => [2]
  | 9 => [2]
  | _ => []
theorem fn_w_FnExactSyncLog : FnC Tryd.prog n_w_FnExactSyncLog c_w_FnExactSyncLog [(.tmp 2)] 34 :=
  ⟨Tryd.f7, _, k_w_FnExactSyncLog, Tryd.func7, rfl, by kernel_rfl, by kernel_rfl, by kernel_rfl, rfl⟩
def r_w_FnExactAppendRecord_0 : List CO := [⟨none, (some 2), (.box 3 (.t 0))⟩, ⟨none, (some 3), (.box 2 (.t 1))⟩, ⟨none, (some 4), (.mv (.k (.v (.bool false))))⟩]
def r_w_FnExactAppendRecord_1 : List CO := [⟨none, (some 5), (.mv (.k (.v (.int .i64 (1048576)))))⟩]
def r_w_FnExactAppendRecord_2 : List CO := [⟨none, (some 10), (.ld true 3 (.t 2))⟩, ⟨none, (some 11), (.mv (.t 5))⟩, ⟨none, (some 12), (.call n_w_szLog [(.t 10), (.t 11)])⟩, ⟨none, (some 5), (.mv (.t 12))⟩]
def r_w_FnExactAppendRecord_3 : List CO := [⟨none, (some 13), (.mv (.t 5))⟩, ⟨none, (some 14), (.bin .lss .none (.t 13) (.k (.v (.int .i64 (0)))))⟩]
def r_w_FnExactAppendRecord_4 : List CO := [⟨none, (some 4), (.mv (.k (.v (.bool true))))⟩]
def r_w_FnExactAppendRecord_5 : List CO := [⟨none, (some 15), (.ld true 2 (.t 3))⟩, ⟨none, (some 16), (.mv (.t 5))⟩, ⟨none, (some 17), (.call n_w_szLogRecord [(.t 15), (.t 16)])⟩, ⟨none, (some 5), (.mv (.t 17))⟩]
def r_w_FnExactAppendRecord_6 : List CO := [⟨none, (some 18), (.mv (.t 5))⟩, ⟨none, (some 19), (.bin .lss .none (.t 18) (.k (.v (.int .i64 (0)))))⟩]
def r_w_FnExactAppendRecord_7 : List CO := [⟨none, (some 4), (.mv (.k (.v (.bool true))))⟩]
def r_w_FnExactAppendRecord_8 : List CO := [⟨none, (some 21), (.ld true 3 (.t 2))⟩, ⟨none, (some 22), (.call n_w_toLog [(.t 21)])⟩, ⟨none, (some 23), (.ld true 2 (.t 3))⟩, ⟨none, (some 24), (.call n_w_toLogRecord [(.t 23)])⟩, ⟨none, (some 25), (.call n_s_AppendRecord [(.t 22), (.t 24)])⟩, ⟨none, (some 20), (.mv (.t 25))⟩, ⟨none, (some 26), (.ext (.t 20) 0)⟩, ⟨none, (some 27), (.ext (.t 20) 1)⟩, ⟨none, (some 6), (.box 3 (.k (.agg [(.v (.string (bs []))), (.v (.string (bs []))), (.v (.int .i64 (0)))])))⟩, ⟨none, none, (.st 3 (.t 6) (.t 26))⟩, ⟨none, (some 7), (.mv (.t 27))⟩]
def p_w_FnExactAppendRecord_8 : List (List Nat) := [[], [0], [], [0, 1, 2], [0, 1, 2, 3], [0, 1, 2, 3, 4], [0, 1, 2, 3, 4, 5], [0, 1, 2, 3, 4, 5], [], [0, 1, 2, 3, 4, 5, 6, 8], [0, 1, 2, 3, 4, 5, 6, 7, 8, 9]]
def r_w_FnExactAppendRecord_9 : List CO := [⟨none, (some 29), (.ld true 3 (.t 2))⟩, ⟨none, (some 30), (.call n_w_toLog [(.t 29)])⟩, ⟨none, (some 31), (.ld true 2 (.t 3))⟩, ⟨none, (some 32), (.call n_w_toLogRecord [(.t 31)])⟩, ⟨none, (some 33), (.call n_i_AppendRecord [(.t 30), (.t 32)])⟩, ⟨none, (some 28), (.mv (.t 33))⟩, ⟨none, (some 34), (.ext (.t 28) 0)⟩, ⟨none, (some 35), (.ext (.t 28) 1)⟩, ⟨none, (some 8), (.box 3 (.k (.agg [(.v (.string (bs []))), (.v (.string (bs []))), (.v (.int .i64 (0)))])))⟩, ⟨none, none, (.st 3 (.t 8) (.t 34))⟩, ⟨none, (some 9), (.mv (.t 35))⟩]
def p_w_FnExactAppendRecord_9 : List (List Nat) := [[], [0], [], [0, 1, 2], [0, 1, 2, 3], [0, 1, 2, 3, 4], [0, 1, 2, 3, 4, 5], [0, 1, 2, 3, 4, 5], [], [0, 1, 2, 3, 4, 5, 6, 8], [0, 1, 2, 3, 4, 5, 6, 7, 8, 9]]
def r_w_FnExactAppendRecord_10 : List CO := [⟨none, (some 36), (.ld true 3 (.t 8))⟩, ⟨none, (some 37), (.ld true 3 (.t 6))⟩, ⟨none, (some 38), (.call n_w_eqLog [(.t 36), (.t 37)])⟩, ⟨none, (some 39), (.un .not (.t 38))⟩, ⟨none, (some 40), (.mv (.t 39))⟩, ⟨(some (40, false)), (some 41), (.mv (.t 9))⟩, ⟨(some (40, false)), (some 42), (.mv (.t 7))⟩, ⟨(some (40, false)), (some 43), (.bin .neq .none (.t 41) (.t 42))⟩, ⟨none, (some 44), (.pick (.t 40) (.k (.v (.bool true))) (.t 43))⟩]
def r_w_FnExactAppendRecord_11 : List CO := [⟨none, (some 4), (.mv (.k (.v (.bool false))))⟩]
def r_w_FnExactAppendRecord_12 : List CO := [⟨none, (some 4), (.mv (.k (.v (.bool true))))⟩]
/-- loop.example/g00884/laws.FnExactAppendRecord -/
def c_w_FnExactAppendRecord : C := (.seq (.reg r_w_FnExactAppendRecord_0 [2, 3]) (.seq (.reg r_w_FnExactAppendRecord_1 [2, 3, 5]) (.seq (.reg r_w_FnExactAppendRecord_2 [2, 3, 5]) (.seq (.seq (.reg r_w_FnExactAppendRecord_3 [2, 3, 5, 14]) (.cond (.t 14) (.seq (.reg r_w_FnExactAppendRecord_4 [4]) .ret) .skip)) (.seq (.reg r_w_FnExactAppendRecord_5 [2, 3, 5]) (.seq (.seq (.reg r_w_FnExactAppendRecord_6 [2, 3, 19]) (.cond (.t 19) (.seq (.reg r_w_FnExactAppendRecord_7 [4]) .ret) .skip)) (.seq (.regD r_w_FnExactAppendRecord_8 p_w_FnExactAppendRecord_8 [2, 3, 6, 7]) (.seq (.regD r_w_FnExactAppendRecord_9 p_w_FnExactAppendRecord_9 [6, 7, 8, 9]) (.seq (.seq (.reg r_w_FnExactAppendRecord_10 [44]) (.cond (.t 44) (.seq (.reg r_w_FnExactAppendRecord_11 [4]) .ret) .skip)) (.seq (.reg r_w_FnExactAppendRecord_12 [4]) .ret))))))))))
def k_w_FnExactAppendRecord : Nat → List Nat
  | 0 => [2, 3]
  | 1 => [2, 3, 5]
  | 2 => [2, 3, 5]
  | 3 => [2, 3, 5, 14]
  | 4 => [4]
  | 5 => [2, 3, 5]
  | 6 => [2, 3, 19]
  | 7 => [4]
  | 8 => [2, 3, 6, 7]
  | 9 => [6, 7, 8, 9]
  | 10 => [44]
  | 11 => [4]
  | 12 => [4]
  | _ => []
theorem fn_w_FnExactAppendRecord : FnC Tryd.prog n_w_FnExactAppendRecord c_w_FnExactAppendRecord [(.tmp 4)] 45 :=
  ⟨Tryd.f8, _, k_w_FnExactAppendRecord, Tryd.func8, rfl, by kernel_rfl, by kernel_rfl, by kernel_rfl, rfl⟩
end Go.Proofs.YtgiggicbpnjakaaDoor
