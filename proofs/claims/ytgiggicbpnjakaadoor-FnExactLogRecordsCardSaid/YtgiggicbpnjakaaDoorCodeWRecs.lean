/- The compact code of the functions, and that it is theirs: written by a program of this claim. -/
import Derived.Test.YtgiggicbpnjakaaDoorNums
namespace Go.Proofs.YtgiggicbpnjakaaDoor
open Go.Abs
set_option maxRecDepth 100000
def r_w_eqLogRecord_0 : List CO := [⟨none, (some 2), (.box 2 (.t 0))⟩, ⟨none, (some 3), (.box 2 (.t 1))⟩, ⟨none, (some 4), (.mv (.k (.v (.bool false))))⟩]
def r_w_eqLogRecord_1 : List CO := [⟨none, (some 5), (.faddr 0 (.t 2))⟩, ⟨none, (some 6), (.ld false 1 (.t 5))⟩, ⟨none, (some 7), (.faddr 0 (.t 3))⟩, ⟨none, (some 8), (.ld false 1 (.t 7))⟩, ⟨none, (some 9), (.bin .neq .none (.t 6) (.t 8))⟩]
def r_w_eqLogRecord_2 : List CO := [⟨none, (some 4), (.mv (.k (.v (.bool false))))⟩]
def r_w_eqLogRecord_3 : List CO := [⟨none, (some 10), (.faddr 1 (.t 2))⟩, ⟨none, (some 11), (.ld false 1 (.t 10))⟩, ⟨none, (some 12), (.faddr 1 (.t 3))⟩, ⟨none, (some 13), (.ld false 1 (.t 12))⟩, ⟨none, (some 14), (.bin .neq .none (.t 11) (.t 13))⟩]
def r_w_eqLogRecord_4 : List CO := [⟨none, (some 4), (.mv (.k (.v (.bool false))))⟩]
def r_w_eqLogRecord_5 : List CO := [⟨none, (some 4), (.mv (.k (.v (.bool true))))⟩]
/-- loop.example/g00884/laws.eqLogRecord -/
def c_w_eqLogRecord : C := (.seq (.reg r_w_eqLogRecord_0 [2, 3]) (.seq (.seq (.reg r_w_eqLogRecord_1 [2, 3, 9]) (.cond (.t 9) (.seq (.reg r_w_eqLogRecord_2 [4]) .ret) .skip)) (.seq (.seq (.reg r_w_eqLogRecord_3 [14]) (.cond (.t 14) (.seq (.reg r_w_eqLogRecord_4 [4]) .ret) .skip)) (.seq (.reg r_w_eqLogRecord_5 [4]) .ret))))
def k_w_eqLogRecord : Nat → List Nat
  | 0 => [2, 3]
  | 1 => [2, 3, 9]
  | 2 => [4]
  | 3 => [14]
  | 4 => [4]
  | 5 => [4]
  | _ => []
theorem fn_w_eqLogRecord : FnC Tryd.prog n_w_eqLogRecord c_w_eqLogRecord [(.tmp 4)] 15 :=
  ⟨Tryd.f50, _, k_w_eqLogRecord, Tryd.func50, rfl, by kernel_rfl, by kernel_rfl, by kernel_rfl, rfl⟩
def r_w_eqLogRecordS_0 : List CO := [⟨none, (some 4), (.mv (.k (.v (.bool false))))⟩]
def r_w_eqLogRecordS_1 : List CO := [⟨none, (some 6), (.mv (.t 0))⟩, ⟨none, (some 7), (.len false (.t 6))⟩, ⟨none, (some 8), (.mv (.t 1))⟩, ⟨none, (some 9), (.len false (.t 8))⟩, ⟨none, (some 10), (.bin .neq .none (.t 7) (.t 9))⟩]
def r_w_eqLogRecordS_2 : List CO := [⟨none, (some 4), (.mv (.k (.v (.bool false))))⟩]
def r_w_eqLogRecordS_3 : List CO := [⟨none, (some 5), (.mv (.k (.v (.int .i64 (0)))))⟩]
def r_w_eqLogRecordS_4 : List CO := [⟨none, (some 11), (.mv (.t 5))⟩, ⟨none, (some 12), (.mv (.t 0))⟩, ⟨none, (some 13), (.len false (.t 12))⟩, ⟨none, (some 14), (.bin .lss .none (.t 11) (.t 13))⟩]
def r_w_eqLogRecordS_5 : List CO := [⟨none, (some 17), (.mv (.t 0))⟩, ⟨none, (some 18), (.mv (.t 5))⟩, ⟨none, (some 19), (.iaddr 2 (.t 17) (.t 18))⟩, ⟨none, (some 20), (.ld true 2 (.t 19))⟩, ⟨none, (some 21), (.mv (.t 1))⟩, ⟨none, (some 22), (.mv (.t 5))⟩, ⟨none, (some 23), (.iaddr 2 (.t 21) (.t 22))⟩, ⟨none, (some 24), (.ld true 2 (.t 23))⟩, ⟨none, (some 25), (.call n_w_eqLogRecord [(.t 20), (.t 24)])⟩, ⟨none, (some 26), (.un .not (.t 25))⟩]
def p_w_eqLogRecordS_5 : List (List Nat) := [[], [], [0, 1], [0, 1, 2], [], [], [4, 5], [4, 5, 6], [0, 1, 2, 3, 4, 5, 6, 7], [0, 1, 2, 3, 4, 5, 6, 7, 8]]
def r_w_eqLogRecordS_6 : List CO := [⟨none, (some 4), (.mv (.k (.v (.bool false))))⟩]
def r_w_eqLogRecordS_7 : List CO := [⟨none, (some 15), (.mv (.t 5))⟩, ⟨none, (some 16), (.bin .add .none (.t 15) (.k (.v (.int .i64 (1)))))⟩, ⟨none, (some 5), (.mv (.t 16))⟩]
def l_w_eqLogRecordS_8 : C := (.seq (.seq (.reg r_w_eqLogRecordS_4 [0, 1, 5, 14]) (.cond (.t 14) .skip (.exit 0))) (.seq (.block 1 (.seq (.regD r_w_eqLogRecordS_5 p_w_eqLogRecordS_5 [0, 1, 5, 26]) (.cond (.t 26) (.seq (.reg r_w_eqLogRecordS_6 [4]) .ret) .skip))) (.reg r_w_eqLogRecordS_7 [0, 1, 5])))
def r_w_eqLogRecordS_9 : List CO := [⟨none, (some 4), (.mv (.k (.v (.bool true))))⟩]
/-- loop.example/g00884/laws.eqLogRecordS -/
def c_w_eqLogRecordS : C := (.seq (.reg r_w_eqLogRecordS_0 [0, 1]) (.seq (.seq (.reg r_w_eqLogRecordS_1 [0, 1, 10]) (.cond (.t 10) (.seq (.reg r_w_eqLogRecordS_2 [4]) .ret) .skip)) (.seq (.seq (.reg r_w_eqLogRecordS_3 [0, 1, 5]) (.block 0 (.loop l_w_eqLogRecordS_8))) (.seq (.reg r_w_eqLogRecordS_9 [4]) .ret))))
def k_w_eqLogRecordS : Nat → List Nat
  | 0 => [0, 1]
  | 1 => [0, 1, 10]
  | 2 => [4]
  | 3 => [0, 1, 5]
  | 4 => [0, 1, 5, 14]
  | 6 => [0, 1, 5, 26]
  | 7 => [4]
  | 5 => [0, 1, 5]
  | 8 => [4]
  | _ => []
theorem fn_w_eqLogRecordS : FnC Tryd.prog n_w_eqLogRecordS c_w_eqLogRecordS [(.tmp 4)] 27 :=
  ⟨Tryd.f32, _, k_w_eqLogRecordS, Tryd.func32, rfl, by kernel_rfl, by kernel_rfl, by kernel_rfl, rfl⟩
def r_w_markLogRecordS_0 : List CO := [⟨none, (some 4), (.mv (.k (.v (.int .i64 (0)))))⟩]
def r_w_markLogRecordS_1 : List CO := [⟨none, (some 5), (.mv (.k (.v (.int .i64 (0)))))⟩]
def r_w_markLogRecordS_2 : List CO := [⟨none, (some 6), (.mv (.t 5))⟩, ⟨none, (some 7), (.mv (.t 0))⟩, ⟨none, (some 8), (.len false (.t 7))⟩, ⟨none, (some 9), (.bin .lss .none (.t 6) (.t 8))⟩]
def r_w_markLogRecordS_3 : List CO := [⟨none, (some 12), (.mv (.t 0))⟩, ⟨none, (some 13), (.mv (.t 5))⟩, ⟨none, (some 14), (.mv (.t 1))⟩, ⟨none, (some 15), (.call n_w_markText [(.t 14)])⟩, ⟨none, (some 16), (.iaddr 2 (.t 12) (.t 13))⟩, ⟨none, (some 17), (.faddr 0 (.t 16))⟩, ⟨none, none, (.st 1 (.t 17) (.t 15))⟩]
def r_w_markLogRecordS_4 : List CO := [⟨none, (some 18), (.mv (.t 1))⟩, ⟨none, (some 19), (.bin .add .none (.t 18) (.k (.v (.int .i64 (1)))))⟩, ⟨none, (some 1), (.mv (.t 19))⟩]
def r_w_markLogRecordS_5 : List CO := [⟨none, (some 20), (.mv (.t 0))⟩, ⟨none, (some 21), (.mv (.t 5))⟩, ⟨none, (some 22), (.mv (.t 1))⟩, ⟨none, (some 23), (.call n_w_markText [(.t 22)])⟩, ⟨none, (some 24), (.iaddr 2 (.t 20) (.t 21))⟩, ⟨none, (some 25), (.faddr 1 (.t 24))⟩, ⟨none, none, (.st 1 (.t 25) (.t 23))⟩]
def r_w_markLogRecordS_6 : List CO := [⟨none, (some 26), (.mv (.t 1))⟩, ⟨none, (some 27), (.bin .add .none (.t 26) (.k (.v (.int .i64 (1)))))⟩, ⟨none, (some 1), (.mv (.t 27))⟩]
def r_w_markLogRecordS_7 : List CO := [⟨none, (some 10), (.mv (.t 5))⟩, ⟨none, (some 11), (.bin .add .none (.t 10) (.k (.v (.int .i64 (1)))))⟩, ⟨none, (some 5), (.mv (.t 11))⟩]
def l_w_markLogRecordS_8 : C := (.seq (.seq (.reg r_w_markLogRecordS_2 [0, 1, 5, 9]) (.cond (.t 9) .skip (.exit 0))) (.seq (.block 1 (.seq (.reg r_w_markLogRecordS_3 [0, 1, 5]) (.seq (.reg r_w_markLogRecordS_4 [0, 1, 5]) (.seq (.reg r_w_markLogRecordS_5 [0, 1, 5]) (.reg r_w_markLogRecordS_6 [0, 1, 5]))))) (.reg r_w_markLogRecordS_7 [0, 1, 5])))
def r_w_markLogRecordS_9 : List CO := [⟨none, (some 28), (.mv (.t 1))⟩, ⟨none, (some 4), (.mv (.t 28))⟩]
/-- loop.example/g00884/laws.markLogRecordS -/
def c_w_markLogRecordS : C := (.seq (.reg r_w_markLogRecordS_0 [0, 1]) (.seq (.seq (.reg r_w_markLogRecordS_1 [0, 1, 5]) (.block 0 (.loop l_w_markLogRecordS_8))) (.seq (.reg r_w_markLogRecordS_9 [4]) .ret)))
def k_w_markLogRecordS : Nat → List Nat
  | 0 => [0, 1]
  | 1 => [0, 1, 5]
  | 2 => [0, 1, 5, 9]
  | 4 => [0, 1, 5]
  | 5 => [0, 1, 5]
  | 6 => [0, 1, 5]
  | 7 => [0, 1, 5]
  | 3 => [0, 1, 5]
  | 8 => [4]
  | _ => []
theorem fn_w_markLogRecordS : FnC Tryd.prog n_w_markLogRecordS c_w_markLogRecordS [(.tmp 4)] 29 :=
  ⟨Tryd.f33, _, k_w_markLogRecordS, Tryd.func33, rfl, by kernel_rfl, by kernel_rfl, by kernel_rfl, rfl⟩
def r_w_heldLogRecordS_0 : List CO := [⟨none, (some 4), (.mv (.k (.v (.int .i64 (0)))))⟩]
def r_w_heldLogRecordS_1 : List CO := [⟨none, (some 5), (.mv (.k (.v (.int .i64 (0)))))⟩]
def r_w_heldLogRecordS_2 : List CO := [⟨none, (some 6), (.mv (.t 5))⟩, ⟨none, (some 7), (.mv (.t 0))⟩, ⟨none, (some 8), (.len false (.t 7))⟩, ⟨none, (some 9), (.bin .lss .none (.t 6) (.t 8))⟩]
def r_w_heldLogRecordS_3 : List CO := [⟨none, (some 12), (.mv (.t 0))⟩, ⟨none, (some 13), (.mv (.t 5))⟩, ⟨none, (some 14), (.iaddr 2 (.t 12) (.t 13))⟩, ⟨none, (some 15), (.faddr 0 (.t 14))⟩, ⟨none, (some 16), (.ld false 1 (.t 15))⟩, ⟨none, (some 17), (.mv (.t 1))⟩, ⟨none, (some 18), (.call n_w_markText [(.t 17)])⟩, ⟨none, (some 19), (.bin .neq .none (.t 16) (.t 18))⟩]
def p_w_heldLogRecordS_3 : List (List Nat) := [[], [], [0, 1], [0, 1, 2], [0, 1, 2, 3], [], [5], [0, 1, 2, 3, 4, 5, 6]]
def r_w_heldLogRecordS_4 : List CO := [⟨none, (some 4), (.mv (.k (.v (.int .i64 (-1)))))⟩]
def r_w_heldLogRecordS_5 : List CO := [⟨none, (some 20), (.mv (.t 1))⟩, ⟨none, (some 21), (.bin .add .none (.t 20) (.k (.v (.int .i64 (1)))))⟩, ⟨none, (some 1), (.mv (.t 21))⟩]
def r_w_heldLogRecordS_6 : List CO := [⟨none, (some 22), (.mv (.t 0))⟩, ⟨none, (some 23), (.mv (.t 5))⟩, ⟨none, (some 24), (.iaddr 2 (.t 22) (.t 23))⟩, ⟨none, (some 25), (.faddr 1 (.t 24))⟩, ⟨none, (some 26), (.ld false 1 (.t 25))⟩, ⟨none, (some 27), (.mv (.t 1))⟩, ⟨none, (some 28), (.call n_w_markText [(.t 27)])⟩, ⟨none, (some 29), (.bin .neq .none (.t 26) (.t 28))⟩]
def p_w_heldLogRecordS_6 : List (List Nat) := [[], [], [0, 1], [0, 1, 2], [0, 1, 2, 3], [], [5], [0, 1, 2, 3, 4, 5, 6]]
def r_w_heldLogRecordS_7 : List CO := [⟨none, (some 4), (.mv (.k (.v (.int .i64 (-1)))))⟩]
def r_w_heldLogRecordS_8 : List CO := [⟨none, (some 30), (.mv (.t 1))⟩, ⟨none, (some 31), (.bin .add .none (.t 30) (.k (.v (.int .i64 (1)))))⟩, ⟨none, (some 1), (.mv (.t 31))⟩]
def r_w_heldLogRecordS_9 : List CO := [⟨none, (some 10), (.mv (.t 5))⟩, ⟨none, (some 11), (.bin .add .none (.t 10) (.k (.v (.int .i64 (1)))))⟩, ⟨none, (some 5), (.mv (.t 11))⟩]
def l_w_heldLogRecordS_10 : C := (.seq (.seq (.reg r_w_heldLogRecordS_2 [0, 1, 5, 9]) (.cond (.t 9) .skip (.exit 0))) (.seq (.block 1 (.seq (.seq (.regD r_w_heldLogRecordS_3 p_w_heldLogRecordS_3 [0, 1, 5, 19]) (.cond (.t 19) (.seq (.reg r_w_heldLogRecordS_4 [4]) .ret) .skip)) (.seq (.reg r_w_heldLogRecordS_5 [0, 1, 5]) (.seq (.seq (.regD r_w_heldLogRecordS_6 p_w_heldLogRecordS_6 [0, 1, 5, 29]) (.cond (.t 29) (.seq (.reg r_w_heldLogRecordS_7 [4]) .ret) .skip)) (.reg r_w_heldLogRecordS_8 [0, 1, 5]))))) (.reg r_w_heldLogRecordS_9 [0, 1, 5])))
def r_w_heldLogRecordS_11 : List CO := [⟨none, (some 32), (.mv (.t 1))⟩, ⟨none, (some 4), (.mv (.t 32))⟩]
/-- loop.example/g00884/laws.heldLogRecordS -/
def c_w_heldLogRecordS : C := (.seq (.reg r_w_heldLogRecordS_0 [0, 1]) (.seq (.seq (.reg r_w_heldLogRecordS_1 [0, 1, 5]) (.block 0 (.loop l_w_heldLogRecordS_10))) (.seq (.reg r_w_heldLogRecordS_11 [4]) .ret)))
def k_w_heldLogRecordS : Nat → List Nat
  | 0 => [0, 1]
  | 1 => [0, 1, 5]
  | 2 => [0, 1, 5, 9]
  | 4 => [0, 1, 5, 19]
  | 5 => [4]
  | 6 => [0, 1, 5]
  | 7 => [0, 1, 5, 29]
  | 8 => [4]
  | 9 => [0, 1, 5]
  | 3 => [0, 1, 5]
  | 10 => [4]
  | _ => []
theorem fn_w_heldLogRecordS : FnC Tryd.prog n_w_heldLogRecordS c_w_heldLogRecordS [(.tmp 4)] 33 :=
  ⟨Tryd.f34, _, k_w_heldLogRecordS, Tryd.func34, rfl, by kernel_rfl, by kernel_rfl, by kernel_rfl, rfl⟩
def r_w_FnExactLogRecords_0 : List CO := [⟨none, (some 1), (.box 3 (.t 0))⟩, ⟨none, (some 2), (.mv (.k (.v (.bool false))))⟩]
def r_w_FnExactLogRecords_1 : List CO := [⟨none, (some 3), (.mv (.k (.v (.int .i64 (1048576)))))⟩]
def r_w_FnExactLogRecords_2 : List CO := [⟨none, (some 12), (.ld true 3 (.t 1))⟩, ⟨none, (some 13), (.mv (.t 3))⟩, ⟨none, (some 14), (.call n_w_szLog [(.t 12), (.t 13)])⟩, ⟨none, (some 3), (.mv (.t 14))⟩]
def r_w_FnExactLogRecords_3 : List CO := [⟨none, (some 15), (.mv (.t 3))⟩, ⟨none, (some 16), (.bin .lss .none (.t 15) (.k (.v (.int .i64 (0)))))⟩]
def r_w_FnExactLogRecords_4 : List CO := [⟨none, (some 2), (.mv (.k (.v (.bool true))))⟩]
def r_w_FnExactLogRecords_5 : List CO := [⟨none, (some 18), (.ld true 3 (.t 1))⟩, ⟨none, (some 19), (.call n_w_toLog [(.t 18)])⟩, ⟨none, (some 20), (.call n_s_LogRecords [(.t 19)])⟩, ⟨none, (some 17), (.mv (.t 20))⟩, ⟨none, (some 21), (.ext (.t 17) 0)⟩, ⟨none, (some 22), (.ext (.t 17) 1)⟩, ⟨none, (some 4), (.mv (.t 21))⟩, ⟨none, (some 5), (.mv (.t 22))⟩]
def r_w_FnExactLogRecords_6 : List CO := [⟨none, (some 24), (.ld true 3 (.t 1))⟩, ⟨none, (some 25), (.call n_w_toLog [(.t 24)])⟩, ⟨none, (some 26), (.call n_i_LogRecords [(.t 25)])⟩, ⟨none, (some 23), (.mv (.t 26))⟩, ⟨none, (some 27), (.ext (.t 23) 0)⟩, ⟨none, (some 28), (.ext (.t 23) 1)⟩, ⟨none, (some 6), (.mv (.t 27))⟩, ⟨none, (some 7), (.mv (.t 28))⟩]
def r_w_FnExactLogRecords_7 : List CO := [⟨none, (some 29), (.mv (.t 6))⟩, ⟨none, (some 30), (.mv (.t 4))⟩, ⟨none, (some 31), (.call n_w_eqLogRecordS [(.t 29), (.t 30)])⟩, ⟨none, (some 32), (.un .not (.t 31))⟩, ⟨none, (some 33), (.mv (.t 32))⟩, ⟨(some (33, false)), (some 34), (.mv (.t 7))⟩, ⟨(some (33, false)), (some 35), (.mv (.t 5))⟩, ⟨(some (33, false)), (some 36), (.bin .neq .bool (.t 34) (.t 35))⟩, ⟨none, (some 37), (.pick (.t 33) (.k (.v (.bool true))) (.t 36))⟩]
def r_w_FnExactLogRecords_8 : List CO := [⟨none, (some 2), (.mv (.k (.v (.bool false))))⟩]
def r_w_FnExactLogRecords_9 : List CO := [⟨none, (some 8), (.mv (.k (.v (.int .i64 (1)))))⟩]
def r_w_FnExactLogRecords_10 : List CO := [⟨none, (some 38), (.mv (.t 6))⟩, ⟨none, (some 39), (.mv (.t 8))⟩, ⟨none, (some 40), (.call n_w_markLogRecordS [(.t 38), (.t 39)])⟩, ⟨none, (some 8), (.mv (.t 40))⟩]
def r_w_FnExactLogRecords_11 : List CO := [⟨none, (some 9), (.mv (.k (.v (.int .i64 (1)))))⟩]
def r_w_FnExactLogRecords_12 : List CO := [⟨none, (some 41), (.mv (.t 6))⟩, ⟨none, (some 42), (.mv (.t 9))⟩, ⟨none, (some 43), (.call n_w_heldLogRecordS [(.t 41), (.t 42)])⟩, ⟨none, (some 9), (.mv (.t 43))⟩]
def r_w_FnExactLogRecords_13 : List CO := [⟨none, (some 44), (.mv (.t 9))⟩, ⟨none, (some 45), (.bin .lss .none (.t 44) (.k (.v (.int .i64 (0)))))⟩]
def r_w_FnExactLogRecords_14 : List CO := [⟨none, (some 2), (.mv (.k (.v (.bool false))))⟩]
def r_w_FnExactLogRecords_15 : List CO := [⟨none, (some 46), (.mv (.t 9))⟩, ⟨none, (some 47), (.mv (.t 8))⟩, ⟨none, (some 48), (.bin .neq .none (.t 46) (.t 47))⟩]
def r_w_FnExactLogRecords_16 : List CO := [⟨none, (some 2), (.mv (.k (.v (.bool false))))⟩]
def r_w_FnExactLogRecords_17 : List CO := [⟨none, (some 50), (.ld true 3 (.t 1))⟩, ⟨none, (some 51), (.call n_w_toLog [(.t 50)])⟩, ⟨none, (some 52), (.call n_i_LogRecords [(.t 51)])⟩, ⟨none, (some 49), (.mv (.t 52))⟩, ⟨none, (some 53), (.ext (.t 49) 0)⟩, ⟨none, (some 54), (.ext (.t 49) 1)⟩, ⟨none, (some 10), (.mv (.t 53))⟩, ⟨none, (some 11), (.mv (.t 54))⟩]
def r_w_FnExactLogRecords_18 : List CO := [⟨none, (some 55), (.mv (.t 10))⟩, ⟨none, (some 56), (.mv (.t 4))⟩, ⟨none, (some 57), (.call n_w_eqLogRecordS [(.t 55), (.t 56)])⟩, ⟨none, (some 58), (.un .not (.t 57))⟩, ⟨none, (some 59), (.mv (.t 58))⟩, ⟨(some (59, false)), (some 60), (.mv (.t 11))⟩, ⟨(some (59, false)), (some 61), (.mv (.t 5))⟩, ⟨(some (59, false)), (some 62), (.bin .neq .bool (.t 60) (.t 61))⟩, ⟨none, (some 63), (.pick (.t 59) (.k (.v (.bool true))) (.t 62))⟩]
def r_w_FnExactLogRecords_19 : List CO := [⟨none, (some 2), (.mv (.k (.v (.bool false))))⟩]
def r_w_FnExactLogRecords_20 : List CO := [⟨none, (some 9), (.mv (.k (.v (.int .i64 (1)))))⟩]
def r_w_FnExactLogRecords_21 : List CO := [⟨none, (some 64), (.mv (.t 6))⟩, ⟨none, (some 65), (.mv (.t 9))⟩, ⟨none, (some 66), (.call n_w_heldLogRecordS [(.t 64), (.t 65)])⟩, ⟨none, (some 9), (.mv (.t 66))⟩]
def r_w_FnExactLogRecords_22 : List CO := [⟨none, (some 67), (.mv (.t 9))⟩, ⟨none, (some 68), (.bin .lss .none (.t 67) (.k (.v (.int .i64 (0)))))⟩]
def r_w_FnExactLogRecords_23 : List CO := [⟨none, (some 2), (.mv (.k (.v (.bool false))))⟩]
def r_w_FnExactLogRecords_24 : List CO := [⟨none, (some 69), (.mv (.t 9))⟩, ⟨none, (some 70), (.mv (.t 8))⟩, ⟨none, (some 71), (.bin .neq .none (.t 69) (.t 70))⟩]
def r_w_FnExactLogRecords_25 : List CO := [⟨none, (some 2), (.mv (.k (.v (.bool false))))⟩]
def r_w_FnExactLogRecords_26 : List CO := [⟨none, (some 2), (.mv (.k (.v (.bool true))))⟩]
/-- loop.example/g00884/laws.FnExactLogRecords -/
def c_w_FnExactLogRecords : C := (.seq (.reg r_w_FnExactLogRecords_0 [1]) (.seq (.reg r_w_FnExactLogRecords_1 [1, 3]) (.seq (.reg r_w_FnExactLogRecords_2 [1, 3]) (.seq (.seq (.reg r_w_FnExactLogRecords_3 [1, 16]) (.cond (.t 16) (.seq (.reg r_w_FnExactLogRecords_4 [2]) .ret) .skip)) (.seq (.reg r_w_FnExactLogRecords_5 [1, 4, 5]) (.seq (.reg r_w_FnExactLogRecords_6 [1, 4, 5, 6, 7]) (.seq (.seq (.reg r_w_FnExactLogRecords_7 [1, 4, 5, 6, 37]) (.cond (.t 37) (.seq (.reg r_w_FnExactLogRecords_8 [2]) .ret) .skip)) (.seq (.reg r_w_FnExactLogRecords_9 [1, 4, 5, 6, 8]) (.seq (.reg r_w_FnExactLogRecords_10 [1, 4, 5, 6, 8]) (.seq (.reg r_w_FnExactLogRecords_11 [1, 4, 5, 6, 8, 9]) (.seq (.reg r_w_FnExactLogRecords_12 [1, 4, 5, 6, 8, 9]) (.seq (.seq (.reg r_w_FnExactLogRecords_13 [1, 4, 5, 6, 8, 9, 45]) (.cond (.t 45) (.seq (.reg r_w_FnExactLogRecords_14 [2]) .ret) .skip)) (.seq (.seq (.reg r_w_FnExactLogRecords_15 [1, 4, 5, 6, 8, 48]) (.cond (.t 48) (.seq (.reg r_w_FnExactLogRecords_16 [2]) .ret) .skip)) (.seq (.reg r_w_FnExactLogRecords_17 [4, 5, 6, 8, 10, 11]) (.seq (.seq (.reg r_w_FnExactLogRecords_18 [6, 8, 63]) (.cond (.t 63) (.seq (.reg r_w_FnExactLogRecords_19 [2]) .ret) .skip)) (.seq (.reg r_w_FnExactLogRecords_20 [6, 8, 9]) (.seq (.reg r_w_FnExactLogRecords_21 [8, 9]) (.seq (.seq (.reg r_w_FnExactLogRecords_22 [8, 9, 68]) (.cond (.t 68) (.seq (.reg r_w_FnExactLogRecords_23 [2]) .ret) .skip)) (.seq (.seq (.reg r_w_FnExactLogRecords_24 [71]) (.cond (.t 71) (.seq (.reg r_w_FnExactLogRecords_25 [2]) .ret) .skip)) (.seq (.reg r_w_FnExactLogRecords_26 [2]) .ret))))))))))))))))))))
def k_w_FnExactLogRecords : Nat → List Nat
  | 0 => [1]
  | 1 => [1, 3]
  | 2 => [1, 3]
  | 3 => [1, 16]
  | 4 => [2]
  | 5 => [1, 4, 5]
  | 6 => [1, 4, 5, 6, 7]
  | 7 => [1, 4, 5, 6, 37]
  | 8 => [2]
  | 9 => [1, 4, 5, 6, 8]
  | 10 => [1, 4, 5, 6, 8]
  | 11 => [1, 4, 5, 6, 8, 9]
  | 12 => [1, 4, 5, 6, 8, 9]
  | 13 => [1, 4, 5, 6, 8, 9, 45]
  | 14 => [2]
  | 15 => [1, 4, 5, 6, 8, 48]
  | 16 => [2]
  | 17 => [4, 5, 6, 8, 10, 11]
  | 18 => [6, 8, 63]
  | 19 => [2]
  | 20 => [6, 8, 9]
  | 21 => [8, 9]
  | 22 => [8, 9, 68]
  | 23 => [2]
  | 24 => [71]
  | 25 => [2]
  | 26 => [2]
  | _ => []
theorem fn_w_FnExactLogRecords : FnC Tryd.prog n_w_FnExactLogRecords c_w_FnExactLogRecords [(.tmp 2)] 72 :=
  ⟨Tryd.f9, _, k_w_FnExactLogRecords, Tryd.func9, rfl, by kernel_rfl, by kernel_rfl, by kernel_rfl, rfl⟩
end Go.Proofs.YtgiggicbpnjakaaDoor
