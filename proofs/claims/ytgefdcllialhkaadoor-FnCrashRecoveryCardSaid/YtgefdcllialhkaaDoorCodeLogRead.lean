/- The compact code of the functions, and that it is theirs: written by a program of this claim. -/
import Derived.Test.YtgefdcllialhkaaDoorNums
namespace Go.Proofs.YtgefdcllialhkaaDoor
open Go.Abs
set_option maxRecDepth 100000
def r_s_l27Read_0 : List CO := [⟨none, (some 4), (.box 2 (.k (.agg [(.v (.string (bs []))), (.v (.string (bs [])))])))⟩, ⟨none, (some 5), (.mv (.k (.v (.bool false))))⟩]
def r_s_l27Read_1 : List CO := [⟨none, (some 11), (.mv (.t 1))⟩, ⟨none, (some 12), (.call n_s_l1Num [(.t 11)])⟩, ⟨none, (some 13), (.bin .add .none (.t 12) (.k (.v (.string (bs [32])))))⟩, ⟨none, (some 6), (.mv (.t 13))⟩]
def r_s_l27Read_2 : List CO := [⟨none, (some 14), (.mv (.t 0))⟩, ⟨none, (some 15), (.call n_s_l1Split [(.t 14), (.k (.v (.int .u8 (35))))])⟩, ⟨none, (some 16), (.iaddr 1 (.t 15) (.k (.v (.int .i64 (0)))))⟩, ⟨none, (some 17), (.ld false 1 (.t 16))⟩, ⟨none, (some 7), (.mv (.t 17))⟩]
def r_s_l27Read_3 : List CO := [⟨none, (some 18), (.mv (.t 7))⟩, ⟨none, (some 19), (.len true (.t 18))⟩, ⟨none, (some 20), (.mv (.t 6))⟩, ⟨none, (some 21), (.len true (.t 20))⟩, ⟨none, (some 22), (.bin .lss .none (.t 19) (.t 21))⟩, ⟨none, (some 23), (.mv (.t 22))⟩, ⟨(some (23, false)), (some 24), (.mv (.t 7))⟩, ⟨(some (23, false)), (some 25), (.mv (.t 6))⟩, ⟨(some (23, false)), (some 26), (.len true (.t 25))⟩, ⟨(some (23, false)), (some 27), (.slc none (.t 24) none (some (.t 26)))⟩, ⟨(some (23, false)), (some 28), (.mv (.t 6))⟩, ⟨(some (23, false)), (some 29), (.bin .neq .none (.t 27) (.t 28))⟩, ⟨none, (some 30), (.pick (.t 23) (.k (.v (.bool true))) (.t 29))⟩]
def r_s_l27Read_4 : List CO := [⟨none, (some 31), (.build (.agg [(.v (.string (bs []))), (.v (.string (bs [])))]) [])⟩, ⟨none, none, (.st 2 (.t 4) (.t 31))⟩, ⟨none, (some 5), (.mv (.k (.v (.bool false))))⟩]
def r_s_l27Read_5 : List CO := [⟨none, (some 32), (.mv (.t 7))⟩, ⟨none, (some 33), (.mv (.t 6))⟩, ⟨none, (some 34), (.len true (.t 33))⟩, ⟨none, (some 35), (.slc none (.t 32) (some (.t 34)) none)⟩, ⟨none, (some 8), (.mv (.t 35))⟩]
def r_s_l27Read_6 : List CO := [⟨none, (some 36), (.mv (.t 8))⟩, ⟨none, (some 37), (.call n_s_l1Split [(.t 36), (.k (.v (.int .u8 (64))))])⟩, ⟨none, (some 38), (.iaddr 1 (.t 37) (.k (.v (.int .i64 (0)))))⟩, ⟨none, (some 39), (.ld false 1 (.t 38))⟩, ⟨none, (some 9), (.mv (.t 39))⟩]
def r_s_l27Read_7 : List CO := [⟨none, (some 40), (.mv (.t 9))⟩, ⟨none, (some 41), (.len true (.t 40))⟩, ⟨none, (some 42), (.mv (.t 8))⟩, ⟨none, (some 43), (.len true (.t 42))⟩, ⟨none, (some 44), (.bin .eql .none (.t 41) (.t 43))⟩]
def r_s_l27Read_8 : List CO := [⟨none, (some 45), (.build (.agg [(.v (.string (bs []))), (.v (.string (bs [])))]) [])⟩, ⟨none, none, (.st 2 (.t 4) (.t 45))⟩, ⟨none, (some 5), (.mv (.k (.v (.bool false))))⟩]
def r_s_l27Read_9 : List CO := [⟨none, (some 46), (.mv (.t 9))⟩, ⟨none, (some 47), (.mv (.t 8))⟩, ⟨none, (some 48), (.mv (.t 9))⟩, ⟨none, (some 49), (.len true (.t 48))⟩, ⟨none, (some 50), (.bin .add .none (.t 49) (.k (.v (.int .i64 (1)))))⟩, ⟨none, (some 51), (.slc none (.t 47) (some (.t 50)) none)⟩, ⟨none, (some 52), (.build (.agg [(.v (.string (bs []))), (.v (.string (bs [])))]) [(0, (1, (.t 46))), (1, (1, (.t 51)))])⟩, ⟨none, (some 10), (.box 2 (.k (.agg [(.v (.string (bs []))), (.v (.string (bs [])))])))⟩, ⟨none, none, (.st 2 (.t 10) (.t 52))⟩]
def r_s_l27Read_10 : List CO := [⟨none, (some 53), (.ld true 2 (.t 10))⟩, ⟨none, (some 54), (.ld true 2 (.t 10))⟩, ⟨none, (some 55), (.call n_s_l27Good [(.t 54)])⟩, ⟨none, (some 56), (.mv (.t 55))⟩, ⟨(some (56, true)), (some 57), (.mv (.t 1))⟩, ⟨(some (56, true)), (some 58), (.ld true 2 (.t 10))⟩, ⟨(some (56, true)), (some 59), (.call n_s_l27Line [(.t 57), (.t 58)])⟩, ⟨(some (56, true)), (some 60), (.mv (.t 0))⟩, ⟨(some (56, true)), (some 61), (.bin .add .none (.t 60) (.k (.v (.string (bs [10])))))⟩, ⟨(some (56, true)), (some 62), (.bin .eql .none (.t 59) (.t 61))⟩, ⟨none, (some 63), (.pick (.t 56) (.t 62) (.k (.v (.bool false))))⟩, ⟨none, none, (.st 2 (.t 4) (.t 53))⟩, ⟨none, (some 5), (.mv (.t 63))⟩]
def p_s_l27Read_10 : List (List Nat) := [[], [], [1], [1, 2], [1, 2, 3], [1, 2, 3], [1, 2, 3, 4, 5], [1, 2, 3], [1, 2, 3, 7], [1, 2, 3, 4, 5, 6, 7, 8], [1, 2, 3, 4, 5, 6, 7, 8, 9], [0, 1, 2, 3, 4, 5, 6], [0, 1, 2, 3, 4, 5, 6, 7, 8, 9, 10, 11]]
/-- loop.example/g00884/spec.l27Read -/
def c_s_l27Read : C := (.seq (.reg r_s_l27Read_0 [0, 1, 4]) (.seq (.reg r_s_l27Read_1 [0, 1, 4, 6]) (.seq (.reg r_s_l27Read_2 [0, 1, 4, 6, 7]) (.seq (.seq (.reg r_s_l27Read_3 [0, 1, 4, 6, 7, 30]) (.cond (.t 30) (.seq (.reg r_s_l27Read_4 [4, 5]) .ret) .skip)) (.seq (.reg r_s_l27Read_5 [0, 1, 4, 8]) (.seq (.reg r_s_l27Read_6 [0, 1, 4, 8, 9]) (.seq (.seq (.reg r_s_l27Read_7 [0, 1, 4, 8, 9, 44]) (.cond (.t 44) (.seq (.reg r_s_l27Read_8 [4, 5]) .ret) .skip)) (.seq (.reg r_s_l27Read_9 [0, 1, 4, 10]) (.seq (.regD r_s_l27Read_10 p_s_l27Read_10 [4, 5]) .ret)))))))))
def k_s_l27Read : Nat → List Nat
  | 0 => [0, 1, 4]
  | 1 => [0, 1, 4, 6]
  | 2 => [0, 1, 4, 6, 7]
  | 3 => [0, 1, 4, 6, 7, 30]
  | 4 => [4, 5]
  | 5 => [0, 1, 4, 8]
  | 6 => [0, 1, 4, 8, 9]
  | 7 => [0, 1, 4, 8, 9, 44]
  | 8 => [4, 5]
  | 9 => [0, 1, 4, 10]
  | 10 => [4, 5]
  | _ => []
theorem fn_s_l27Read : FnC Tryd.prog n_s_l27Read c_s_l27Read [(.cell 4 true 2), (.tmp 5)] 64 :=
  ⟨Tryd.f58, _, k_s_l27Read, Tryd.func58, rfl, by kernel_rfl, by kernel_rfl, by kernel_rfl, rfl⟩
def r_i_readRecord_0 : List CO := [⟨none, (some 4), (.box 2 (.k (.agg [(.v (.string (bs []))), (.v (.string (bs [])))])))⟩, ⟨none, (some 5), (.mv (.k (.v (.int .i64 (0)))))⟩, ⟨none, (some 6), (.mv (.k (.v (.bool false))))⟩]
def r_i_readRecord_1 : List CO := [⟨none, (some 21), (.mv (.t 0))⟩, ⟨none, (some 22), (.call n_strings_Cut [(.t 21), (.k (.v (.string (bs [10]))))])⟩, ⟨none, (some 20), (.mv (.t 22))⟩, ⟨none, (some 23), (.ext (.t 20) 0)⟩, ⟨none, (some 24), (.ext (.t 20) 1)⟩, ⟨none, (some 25), (.ext (.t 20) 2)⟩, ⟨none, (some 7), (.mv (.t 23))⟩, ⟨none, (some 8), (.mv (.t 24))⟩, ⟨none, (some 9), (.mv (.t 25))⟩]
def r_i_readRecord_2 : List CO := [⟨none, (some 27), (.mv (.t 7))⟩, ⟨none, (some 28), (.call n_strings_Cut [(.t 27), (.k (.v (.string (bs [35]))))])⟩, ⟨none, (some 26), (.mv (.t 28))⟩, ⟨none, (some 29), (.ext (.t 26) 0)⟩, ⟨none, (some 30), (.ext (.t 26) 1)⟩, ⟨none, (some 31), (.ext (.t 26) 2)⟩, ⟨none, (some 10), (.mv (.t 29))⟩, ⟨none, (some 11), (.mv (.t 30))⟩, ⟨none, (some 12), (.mv (.t 31))⟩]
def r_i_readRecord_3 : List CO := [⟨none, (some 33), (.mv (.t 10))⟩, ⟨none, (some 34), (.call n_strings_Cut [(.t 33), (.k (.v (.string (bs [32]))))])⟩, ⟨none, (some 32), (.mv (.t 34))⟩, ⟨none, (some 35), (.ext (.t 32) 0)⟩, ⟨none, (some 36), (.ext (.t 32) 1)⟩, ⟨none, (some 37), (.ext (.t 32) 2)⟩, ⟨none, (some 13), (.mv (.t 35))⟩, ⟨none, (some 14), (.mv (.t 36))⟩, ⟨none, (some 15), (.mv (.t 37))⟩]
def r_i_readRecord_4 : List CO := [⟨none, (some 39), (.mv (.t 14))⟩, ⟨none, (some 40), (.call n_strings_Cut [(.t 39), (.k (.v (.string (bs [64]))))])⟩, ⟨none, (some 38), (.mv (.t 40))⟩, ⟨none, (some 41), (.ext (.t 38) 0)⟩, ⟨none, (some 42), (.ext (.t 38) 1)⟩, ⟨none, (some 43), (.ext (.t 38) 2)⟩, ⟨none, (some 16), (.mv (.t 41))⟩, ⟨none, (some 17), (.mv (.t 42))⟩, ⟨none, (some 18), (.mv (.t 43))⟩]
def r_i_readRecord_5 : List CO := [⟨none, (some 44), (.mv (.t 16))⟩, ⟨none, (some 45), (.mv (.t 17))⟩, ⟨none, (some 46), (.build (.agg [(.v (.string (bs []))), (.v (.string (bs [])))]) [(0, (1, (.t 44))), (1, (1, (.t 45)))])⟩, ⟨none, (some 19), (.box 2 (.k (.agg [(.v (.string (bs []))), (.v (.string (bs [])))])))⟩, ⟨none, none, (.st 2 (.t 19) (.t 46))⟩]
def r_i_readRecord_6 : List CO := [⟨none, (some 47), (.mv (.t 9))⟩, ⟨none, (some 48), (.un .not (.t 47))⟩, ⟨none, (some 49), (.mv (.t 48))⟩, ⟨(some (49, false)), (some 50), (.mv (.t 1))⟩, ⟨(some (49, false)), (some 51), (.bin .geq .none (.t 50) (.k (.v (.int .i64 (60)))))⟩, ⟨none, (some 52), (.pick (.t 49) (.k (.v (.bool true))) (.t 51))⟩, ⟨none, (some 53), (.mv (.t 52))⟩, ⟨(some (53, false)), (some 54), (.ld true 2 (.t 19))⟩, ⟨(some (53, false)), (some 55), (.call n_i_IsValidRecord [(.t 54)])⟩, ⟨(some (53, false)), (some 56), (.un .not (.t 55))⟩, ⟨none, (some 57), (.pick (.t 53) (.k (.v (.bool true))) (.t 56))⟩, ⟨none, (some 58), (.mv (.t 57))⟩, ⟨(some (58, false)), (some 59), (.mv (.t 1))⟩, ⟨(some (58, false)), (some 60), (.ld true 2 (.t 19))⟩, ⟨(some (58, false)), (some 61), (.call n_i_encodeRecord [(.t 59), (.t 60)])⟩, ⟨(some (58, false)), (some 62), (.mv (.t 7))⟩, ⟨(some (58, false)), (some 63), (.bin .add .none (.t 62) (.k (.v (.string (bs [10])))))⟩, ⟨(some (58, false)), (some 64), (.bin .neq .none (.t 61) (.t 63))⟩, ⟨none, (some 65), (.pick (.t 58) (.k (.v (.bool true))) (.t 64))⟩]
def r_i_readRecord_7 : List CO := [⟨none, (some 66), (.build (.agg [(.v (.string (bs []))), (.v (.string (bs [])))]) [])⟩, ⟨none, none, (.st 2 (.t 4) (.t 66))⟩, ⟨none, (some 5), (.mv (.k (.v (.int .i64 (0)))))⟩, ⟨none, (some 6), (.mv (.k (.v (.bool false))))⟩]
def r_i_readRecord_8 : List CO := [⟨none, (some 67), (.ld true 2 (.t 19))⟩, ⟨none, (some 68), (.mv (.t 7))⟩, ⟨none, (some 69), (.len true (.t 68))⟩, ⟨none, (some 70), (.bin .add .none (.t 69) (.k (.v (.int .i64 (1)))))⟩, ⟨none, none, (.st 2 (.t 4) (.t 67))⟩, ⟨none, (some 5), (.mv (.t 70))⟩, ⟨none, (some 6), (.mv (.k (.v (.bool true))))⟩]
/-- loop.example/g00884/impl.readRecord -/
def c_i_readRecord : C := (.seq (.reg r_i_readRecord_0 [0, 1, 4]) (.seq (.reg r_i_readRecord_1 [1, 4, 7, 9]) (.seq (.reg r_i_readRecord_2 [1, 4, 7, 9, 10]) (.seq (.reg r_i_readRecord_3 [1, 4, 7, 9, 14]) (.seq (.reg r_i_readRecord_4 [1, 4, 7, 9, 16, 17]) (.seq (.reg r_i_readRecord_5 [1, 4, 7, 9, 19]) (.seq (.seq (.reg r_i_readRecord_6 [4, 7, 19, 65]) (.cond (.t 65) (.seq (.reg r_i_readRecord_7 [4, 5, 6]) .ret) .skip)) (.seq (.reg r_i_readRecord_8 [4, 5, 6]) .ret))))))))
def k_i_readRecord : Nat → List Nat
  | 0 => [0, 1, 4]
  | 1 => [1, 4, 7, 9]
  | 2 => [1, 4, 7, 9, 10]
  | 3 => [1, 4, 7, 9, 14]
  | 4 => [1, 4, 7, 9, 16, 17]
  | 5 => [1, 4, 7, 9, 19]
  | 6 => [4, 7, 19, 65]
  | 7 => [4, 5, 6]
  | 8 => [4, 5, 6]
  | _ => []
theorem fn_i_readRecord : FnC Tryd.prog n_i_readRecord c_i_readRecord [(.cell 4 true 2), (.tmp 5), (.tmp 6)] 71 :=
  ⟨Tryd.f54, _, k_i_readRecord, Tryd.func54, rfl, by kernel_rfl, by kernel_rfl, by kernel_rfl, rfl⟩
def r_i_readRecords_0 : List CO := [⟨none, (some 2), (.mv (.k (.v (.slice none 0 0))))⟩, ⟨none, (some 3), (.mv (.k (.v (.slice none 0 0))))⟩]
def r_i_readRecords_1 : List CO := [⟨none, (some 10), (.bslice 2 (.agg [(.v (.string (bs []))), (.v (.string (bs [])))]) 0 [])⟩, ⟨none, (some 11), (.bslice 1 (.v (.int .i64 (0))) 1 [(0, (.k (.v (.int .i64 (0)))))])⟩, ⟨none, (some 4), (.mv (.t 10))⟩, ⟨none, (some 5), (.mv (.t 11))⟩, ⟨none, (some 6), (.mv (.k (.v (.int .i64 (0)))))⟩]
def r_i_readRecords_2 : List CO := [⟨none, (some 13), (.mv (.t 0))⟩, ⟨none, (some 14), (.mv (.t 6))⟩, ⟨none, (some 15), (.slc none (.t 13) (some (.t 14)) none)⟩, ⟨none, (some 16), (.mv (.t 4))⟩, ⟨none, (some 17), (.len false (.t 16))⟩, ⟨none, (some 18), (.call n_i_readRecord [(.t 15), (.t 17)])⟩, ⟨none, (some 12), (.mv (.t 18))⟩, ⟨none, (some 19), (.ext (.t 12) 0)⟩, ⟨none, (some 20), (.ext (.t 12) 1)⟩, ⟨none, (some 21), (.ext (.t 12) 2)⟩, ⟨none, (some 7), (.box 2 (.k (.agg [(.v (.string (bs []))), (.v (.string (bs [])))])))⟩, ⟨none, none, (.st 2 (.t 7) (.t 19))⟩, ⟨none, (some 8), (.mv (.t 20))⟩, ⟨none, (some 9), (.mv (.t 21))⟩]
def r_i_readRecords_3 : List CO := [⟨none, (some 22), (.mv (.t 9))⟩, ⟨none, (some 23), (.un .not (.t 22))⟩]
def r_i_readRecords_4 : List CO := [⟨none, (some 24), (.mv (.t 4))⟩, ⟨none, (some 25), (.mv (.t 5))⟩, ⟨none, (some 2), (.mv (.t 24))⟩, ⟨none, (some 3), (.mv (.t 25))⟩]
def r_i_readRecords_5 : List CO := [⟨none, (some 26), (.mv (.t 6))⟩, ⟨none, (some 27), (.mv (.t 8))⟩, ⟨none, (some 28), (.bin .add .none (.t 26) (.t 27))⟩, ⟨none, (some 6), (.mv (.t 28))⟩]
def r_i_readRecords_6 : List CO := [⟨none, (some 29), (.mv (.t 4))⟩, ⟨none, (some 30), (.ld true 2 (.t 7))⟩, ⟨none, (some 31), (.bslice 2 (.agg [(.v (.string (bs []))), (.v (.string (bs [])))]) 1 [(0, (.t 30))])⟩, ⟨none, (some 32), (.app 2 32 (.t 29) (.t 31))⟩, ⟨none, (some 4), (.mv (.t 32))⟩]
def r_i_readRecords_7 : List CO := [⟨none, (some 33), (.mv (.t 5))⟩, ⟨none, (some 34), (.mv (.t 6))⟩, ⟨none, (some 35), (.bslice 1 (.v (.int .i64 (0))) 1 [(0, (.t 34))])⟩, ⟨none, (some 36), (.app 1 8 (.t 33) (.t 35))⟩, ⟨none, (some 5), (.mv (.t 36))⟩]
def l_i_readRecords_8 : C := (.block 1 (.seq (.reg r_i_readRecords_2 [0, 4, 5, 6, 7, 8, 9]) (.seq (.seq (.reg r_i_readRecords_3 [0, 4, 5, 6, 7, 8, 23]) (.cond (.t 23) (.seq (.reg r_i_readRecords_4 [2, 3]) .ret) .skip)) (.seq (.reg r_i_readRecords_5 [0, 4, 5, 6, 7]) (.seq (.reg r_i_readRecords_6 [0, 4, 5, 6]) (.reg r_i_readRecords_7 [0, 4, 5, 6]))))))
/-- loop.example/g00884/impl.readRecords -/
def c_i_readRecords : C := (.seq (.reg r_i_readRecords_0 [0]) (.seq (.reg r_i_readRecords_1 [0, 4, 5, 6]) (.block 0 (.loop l_i_readRecords_8))))
def k_i_readRecords : Nat → List Nat
  | 0 => [0]
  | 1 => [0, 4, 5, 6]
  | 2 => [0, 4, 5, 6, 7, 8, 9]
  | 3 => [0, 4, 5, 6, 7, 8, 23]
  | 4 => [2, 3]
  | 5 => [0, 4, 5, 6, 7]
  | 6 => [0, 4, 5, 6]
  | 7 => [0, 4, 5, 6]
  | _ => []
theorem fn_i_readRecords : FnC Tryd.prog n_i_readRecords c_i_readRecords [(.tmp 2), (.tmp 3)] 37 :=
  ⟨Tryd.f39, _, k_i_readRecords, Tryd.func39, rfl, by kernel_rfl, by kernel_rfl, by kernel_rfl, rfl⟩
def r_s_l27Open_0 : List CO := [⟨none, (some 2), (.mv (.k (.v (.slice none 0 0))))⟩, ⟨none, (some 3), (.mv (.k (.v (.int .i64 (0)))))⟩]
def r_s_l27Open_1 : List CO := [⟨none, (some 9), (.bslice 2 (.agg [(.v (.string (bs []))), (.v (.string (bs [])))]) 0 [])⟩, ⟨none, (some 4), (.mv (.t 9))⟩]
def r_s_l27Open_2 : List CO := [⟨none, (some 5), (.mv (.k (.v (.int .i64 (0)))))⟩]
def r_s_l27Open_3 : List CO := [⟨none, (some 10), (.mv (.t 5))⟩, ⟨none, (some 11), (.mv (.t 0))⟩, ⟨none, (some 12), (.len true (.t 11))⟩, ⟨none, (some 13), (.bin .lss .none (.t 10) (.t 12))⟩, ⟨none, (some 14), (.mv (.t 13))⟩, ⟨(some (14, true)), (some 15), (.mv (.t 4))⟩, ⟨(some (14, true)), (some 16), (.len false (.t 15))⟩, ⟨(some (14, true)), (some 17), (.bin .lss .none (.t 16) (.k (.v (.int .i64 (60)))))⟩, ⟨none, (some 18), (.pick (.t 14) (.t 17) (.k (.v (.bool false))))⟩]
def r_s_l27Open_4 : List CO := [⟨none, (some 19), (.mv (.t 0))⟩, ⟨none, (some 20), (.mv (.t 5))⟩, ⟨none, (some 21), (.slc none (.t 19) (some (.t 20)) none)⟩, ⟨none, (some 22), (.call n_s_l1Split [(.t 21), (.k (.v (.int .u8 (10))))])⟩, ⟨none, (some 6), (.mv (.t 22))⟩]
def r_s_l27Open_5 : List CO := [⟨none, (some 24), (.mv (.t 6))⟩, ⟨none, (some 25), (.iaddr 1 (.t 24) (.k (.v (.int .i64 (0)))))⟩, ⟨none, (some 26), (.ld false 1 (.t 25))⟩, ⟨none, (some 27), (.mv (.t 4))⟩, ⟨none, (some 28), (.len false (.t 27))⟩, ⟨none, (some 29), (.call n_s_l27Read [(.t 26), (.t 28)])⟩, ⟨none, (some 23), (.mv (.t 29))⟩, ⟨none, (some 30), (.ext (.t 23) 0)⟩, ⟨none, (some 31), (.ext (.t 23) 1)⟩, ⟨none, (some 7), (.box 2 (.k (.agg [(.v (.string (bs []))), (.v (.string (bs [])))])))⟩, ⟨none, none, (.st 2 (.t 7) (.t 30))⟩, ⟨none, (some 8), (.mv (.t 31))⟩]
def r_s_l27Open_6 : List CO := [⟨none, (some 32), (.mv (.t 6))⟩, ⟨none, (some 33), (.len false (.t 32))⟩, ⟨none, (some 34), (.bin .lss .none (.t 33) (.k (.v (.int .i64 (2)))))⟩, ⟨none, (some 35), (.mv (.t 34))⟩, ⟨(some (35, false)), (some 36), (.mv (.t 8))⟩, ⟨(some (35, false)), (some 37), (.un .not (.t 36))⟩, ⟨none, (some 38), (.pick (.t 35) (.k (.v (.bool true))) (.t 37))⟩]
def r_s_l27Open_7 : List CO := [⟨none, (some 39), (.mv (.t 4))⟩, ⟨none, (some 40), (.ld true 2 (.t 7))⟩, ⟨none, (some 41), (.bslice 2 (.agg [(.v (.string (bs []))), (.v (.string (bs [])))]) 1 [(0, (.t 40))])⟩, ⟨none, (some 42), (.app 2 32 (.t 39) (.t 41))⟩, ⟨none, (some 4), (.mv (.t 42))⟩]
def r_s_l27Open_8 : List CO := [⟨none, (some 43), (.mv (.t 5))⟩, ⟨none, (some 44), (.mv (.t 6))⟩, ⟨none, (some 45), (.iaddr 1 (.t 44) (.k (.v (.int .i64 (0)))))⟩, ⟨none, (some 46), (.ld false 1 (.t 45))⟩, ⟨none, (some 47), (.len true (.t 46))⟩, ⟨none, (some 48), (.bin .add .none (.t 43) (.t 47))⟩, ⟨none, (some 49), (.bin .add .none (.t 48) (.k (.v (.int .i64 (1)))))⟩, ⟨none, (some 5), (.mv (.t 49))⟩]
def l_s_l27Open_9 : C := (.seq (.seq (.reg r_s_l27Open_3 [0, 4, 5, 18]) (.cond (.t 18) .skip (.exit 0))) (.block 1 (.seq (.reg r_s_l27Open_4 [0, 4, 5, 6]) (.seq (.reg r_s_l27Open_5 [0, 4, 5, 6, 7, 8]) (.seq (.seq (.reg r_s_l27Open_6 [0, 4, 5, 6, 7, 38]) (.cond (.t 38) (.exit 0) .skip)) (.seq (.reg r_s_l27Open_7 [0, 4, 5, 6]) (.reg r_s_l27Open_8 [0, 4, 5])))))))
def r_s_l27Open_10 : List CO := [⟨none, (some 50), (.mv (.t 4))⟩, ⟨none, (some 51), (.mv (.t 5))⟩, ⟨none, (some 2), (.mv (.t 50))⟩, ⟨none, (some 3), (.mv (.t 51))⟩]
/-- loop.example/g00884/spec.l27Open -/
def c_s_l27Open : C := (.seq (.reg r_s_l27Open_0 [0]) (.seq (.reg r_s_l27Open_1 [0, 4]) (.seq (.reg r_s_l27Open_2 [0, 4, 5]) (.seq (.block 0 (.loop l_s_l27Open_9)) (.seq (.reg r_s_l27Open_10 [2, 3]) .ret)))))
def k_s_l27Open : Nat → List Nat
  | 0 => [0]
  | 1 => [0, 4]
  | 2 => [0, 4, 5]
  | 3 => [0, 4, 5, 18]
  | 4 => [0, 4, 5, 6]
  | 5 => [0, 4, 5, 6, 7, 8]
  | 6 => [0, 4, 5, 6, 7, 38]
  | 7 => [0, 4, 5, 6]
  | 8 => [0, 4, 5]
  | 9 => [2, 3]
  | _ => []
theorem fn_s_l27Open : FnC Tryd.prog n_s_l27Open c_s_l27Open [(.tmp 2), (.tmp 3)] 52 :=
  ⟨Tryd.f45, _, k_s_l27Open, Tryd.func45, rfl, by kernel_rfl, by kernel_rfl, by kernel_rfl, rfl⟩
end Go.Proofs.YtgefdcllialhkaaDoor
