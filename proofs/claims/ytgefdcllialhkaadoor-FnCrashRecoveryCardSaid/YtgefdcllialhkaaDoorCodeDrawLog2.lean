/- The compact code of the functions, and that it is theirs: written by a program of this claim. -/
import Derived.Test.YtgefdcllialhkaaDoorNums
namespace Go.Proofs.YtgefdcllialhkaaDoor
open Go.Abs
set_option maxRecDepth 100000
def r_s_l1Cur_anyLog_0 : List CO := [⟨none, (some 2), (.box 3 (.k (.agg [(.v (.string (bs []))), (.v (.string (bs []))), (.v (.int .i64 (0)))])))⟩]
def r_s_l1Cur_anyLog_1 : List CO := [⟨none, (some 4), (.mv (.t 0))⟩, ⟨none, (some 5), (.call n_s_l1Cur_log [(.t 4)])⟩, ⟨none, (some 3), (.box 3 (.k (.agg [(.v (.string (bs []))), (.v (.string (bs []))), (.v (.int .i64 (0)))])))⟩, ⟨none, none, (.st 3 (.t 3) (.t 5))⟩]
def r_s_l1Cur_anyLog_2 : List CO := [⟨none, (some 6), (.mv (.t 0))⟩, ⟨none, (some 7), (.call n_s_l1Cur_pick [(.t 6), (.k (.v (.int .i64 (24))))])⟩]
def r_s_l1Cur_anyLog_3 : List CO := [⟨none, (some 9), (.bin .eql .none (.t 7) (.k (.v (.int .i64 (0)))))⟩, ⟨none, (some 8), (.mv (.t 9))⟩]
def r_s_l1Cur_anyLog_4 : List CO := [⟨none, (some 10), (.faddr 2 (.t 3))⟩, ⟨none, (some 11), (.ld false 1 (.t 10))⟩, ⟨none, (some 12), (.bin .add .none (.t 11) (.k (.v (.int .i64 (1)))))⟩, ⟨none, (some 13), (.faddr 2 (.t 3))⟩, ⟨none, none, (.st 1 (.t 13) (.t 12))⟩]
def r_s_l1Cur_anyLog_5 : List CO := [⟨none, (some 15), (.bin .eql .none (.t 7) (.k (.v (.int .i64 (1)))))⟩, ⟨none, (some 14), (.mv (.t 15))⟩]
def r_s_l1Cur_anyLog_6 : List CO := [⟨none, (some 16), (.mv (.t 0))⟩, ⟨none, (some 17), (.faddr 1 (.t 3))⟩, ⟨none, (some 18), (.ld false 1 (.t 17))⟩, ⟨none, (some 19), (.call n_s_l1Cur_spoilt [(.t 16), (.t 18), (.k (.v (.string (bs [35, 64, 10, 48, 49]))))])⟩, ⟨none, (some 20), (.faddr 1 (.t 3))⟩, ⟨none, none, (.st 1 (.t 20) (.t 19))⟩]
def r_s_l1Cur_anyLog_7 : List CO := [⟨none, (some 22), (.bin .eql .none (.t 7) (.k (.v (.int .i64 (2)))))⟩, ⟨none, (some 21), (.mv (.t 22))⟩]
def r_s_l1Cur_anyLog_8 : List CO := [⟨none, (some 23), (.faddr 0 (.t 3))⟩, ⟨none, (some 24), (.ld false 1 (.t 23))⟩, ⟨none, (some 25), (.faddr 1 (.t 3))⟩, ⟨none, (some 26), (.ld false 1 (.t 25))⟩, ⟨none, (some 27), (.bin .add .none (.t 24) (.t 26))⟩, ⟨none, (some 28), (.faddr 0 (.t 3))⟩, ⟨none, none, (.st 1 (.t 28) (.t 27))⟩]
def r_s_l1Cur_anyLog_9 : List CO := [⟨none, (some 29), (.ld true 3 (.t 3))⟩, ⟨none, none, (.st 3 (.t 2) (.t 29))⟩]
/-- (*loop.example/g00884/spec.l1Cur).anyLog -/
def c_s_l1Cur_anyLog : C := (.seq (.reg r_s_l1Cur_anyLog_0 [0, 2]) (.seq (.reg r_s_l1Cur_anyLog_1 [0, 2, 3]) (.seq (.seq (.reg r_s_l1Cur_anyLog_2 [0, 2, 3, 7]) (.block 0 (.seq (.reg r_s_l1Cur_anyLog_3 [0, 2, 3, 7, 8]) (.cond (.t 8) (.reg r_s_l1Cur_anyLog_4 [2, 3]) (.seq (.reg r_s_l1Cur_anyLog_5 [0, 2, 3, 7, 14]) (.cond (.t 14) (.reg r_s_l1Cur_anyLog_6 [2, 3]) (.seq (.reg r_s_l1Cur_anyLog_7 [2, 3, 21]) (.cond (.t 21) (.reg r_s_l1Cur_anyLog_8 [2, 3]) .skip)))))))) (.seq (.reg r_s_l1Cur_anyLog_9 [2]) .ret))))
def k_s_l1Cur_anyLog : Nat → List Nat
  | 0 => [0, 2]
  | 1 => [0, 2, 3]
  | 2 => [0, 2, 3, 7]
  | 3 => [0, 2, 3, 7, 8]
  | 4 => [2, 3]
  | 5 => [0, 2, 3, 7, 14]
  | 6 => [2, 3]
  | 7 => [2, 3, 21]
  | 8 => [2, 3]
  | 9 => [2]
  | _ => []
theorem fn_s_l1Cur_anyLog : FnC Tryd.prog n_s_l1Cur_anyLog c_s_l1Cur_anyLog [(.cell 2 true 3)] 30 :=
  ⟨Tryd.f32, _, k_s_l1Cur_anyLog, Tryd.func32, rfl, by kernel_rfl, by kernel_rfl, by kernel_rfl, rfl⟩
def r_s_DrawEncodeRecord_0 : List CO := [⟨none, (some 2), (.mv (.k (.v (.int .i64 (0)))))⟩, ⟨none, (some 3), (.box 2 (.k (.agg [(.v (.string (bs []))), (.v (.string (bs [])))])))⟩]
def r_s_DrawEncodeRecord_1 : List CO := [⟨none, (some 6), (.mv (.t 0))⟩, ⟨none, (some 7), (.build (.agg [(.v (.slice none 0 0)), (.v (.int .i64 (0))), (.v (.int .u64 (0)))]) [(0, (1, (.t 6)))])⟩, ⟨none, (some 8), (.box 3 (.t 7))⟩, ⟨none, (some 4), (.mv (.t 8))⟩]
def r_s_DrawEncodeRecord_2 : List CO := [⟨none, (some 9), (.mv (.t 4))⟩, ⟨none, (some 10), (.bslice 1 (.v (.int .i64 (0))) 6 [(0, (.k (.v (.int .i64 (0))))), (1, (.k (.v (.int .i64 (1))))), (2, (.k (.v (.int .i64 (12))))), (3, (.k (.v (.int .i64 (59))))), (4, (.k (.v (.int .i64 (60))))), (5, (.k (.v (.int .i64 (-1)))))])⟩, ⟨none, (some 11), (.call n_s_l1Cur_among [(.t 9), (.t 10)])⟩, ⟨none, (some 5), (.mv (.t 11))⟩]
def r_s_DrawEncodeRecord_3 : List CO := [⟨none, (some 12), (.mv (.t 5))⟩, ⟨none, (some 13), (.mv (.t 4))⟩, ⟨none, (some 14), (.call n_s_l1Cur_logRecord [(.t 13)])⟩, ⟨none, (some 2), (.mv (.t 12))⟩, ⟨none, none, (.st 2 (.t 3) (.t 14))⟩]
/-- loop.example/g00884/spec.DrawEncodeRecord -/
def c_s_DrawEncodeRecord : C := (.seq (.reg r_s_DrawEncodeRecord_0 [0, 3]) (.seq (.reg r_s_DrawEncodeRecord_1 [3, 4]) (.seq (.reg r_s_DrawEncodeRecord_2 [3, 4, 5]) (.seq (.reg r_s_DrawEncodeRecord_3 [2, 3]) .ret))))
def k_s_DrawEncodeRecord : Nat → List Nat
  | 0 => [0, 3]
  | 1 => [3, 4]
  | 2 => [3, 4, 5]
  | 3 => [2, 3]
  | _ => []
theorem fn_s_DrawEncodeRecord : FnC Tryd.prog n_s_DrawEncodeRecord c_s_DrawEncodeRecord [(.tmp 2), (.cell 3 true 2)] 15 :=
  ⟨Tryd.f22, _, k_s_DrawEncodeRecord, Tryd.func22, rfl, by kernel_rfl, by kernel_rfl, by kernel_rfl, rfl⟩
def r_s_DrawCrashLog_0 : List CO := [⟨none, (some 2), (.box 3 (.k (.agg [(.v (.string (bs []))), (.v (.string (bs []))), (.v (.int .i64 (0)))])))⟩, ⟨none, (some 3), (.mv (.k (.v (.int .i64 (0)))))⟩, ⟨none, (some 4), (.mv (.k (.v (.bool false))))⟩]
def r_s_DrawCrashLog_1 : List CO := [⟨none, (some 8), (.mv (.t 0))⟩, ⟨none, (some 9), (.build (.agg [(.v (.slice none 0 0)), (.v (.int .i64 (0))), (.v (.int .u64 (0)))]) [(0, (1, (.t 8)))])⟩, ⟨none, (some 10), (.box 3 (.t 9))⟩, ⟨none, (some 5), (.mv (.t 10))⟩]
def r_s_DrawCrashLog_2 : List CO := [⟨none, (some 11), (.mv (.t 5))⟩, ⟨none, (some 12), (.call n_s_l1Cur_anyLog [(.t 11)])⟩, ⟨none, (some 6), (.box 3 (.k (.agg [(.v (.string (bs []))), (.v (.string (bs []))), (.v (.int .i64 (0)))])))⟩, ⟨none, none, (.st 3 (.t 6) (.t 12))⟩]
def r_s_DrawCrashLog_3 : List CO := [⟨none, (some 13), (.mv (.t 5))⟩, ⟨none, (some 14), (.faddr 1 (.t 6))⟩, ⟨none, (some 15), (.ld false 1 (.t 14))⟩, ⟨none, (some 16), (.len true (.t 15))⟩, ⟨none, (some 17), (.bin .add .none (.t 16) (.k (.v (.int .i64 (3)))))⟩, ⟨none, (some 18), (.call n_s_l1Cur_pick [(.t 13), (.t 17)])⟩, ⟨none, (some 19), (.bin .sub .none (.t 18) (.k (.v (.int .i64 (1)))))⟩, ⟨none, (some 7), (.mv (.t 19))⟩]
def r_s_DrawCrashLog_4 : List CO := [⟨none, (some 20), (.ld true 3 (.t 6))⟩, ⟨none, (some 21), (.mv (.t 7))⟩, ⟨none, (some 22), (.mv (.t 5))⟩, ⟨none, (some 23), (.call n_s_l1Cur_one [(.t 22), (.k (.v (.int .i64 (2))))])⟩, ⟨none, none, (.st 3 (.t 2) (.t 20))⟩, ⟨none, (some 3), (.mv (.t 21))⟩, ⟨none, (some 4), (.mv (.t 23))⟩]
def p_s_DrawCrashLog_4 : List (List Nat) := [[], [], [], [2], [0, 2, 3], [0, 1, 2, 3, 4], [0, 1, 2, 3, 4, 5]]
/-- loop.example/g00884/spec.DrawCrashLog -/
def c_s_DrawCrashLog : C := (.seq (.reg r_s_DrawCrashLog_0 [0, 2]) (.seq (.reg r_s_DrawCrashLog_1 [2, 5]) (.seq (.reg r_s_DrawCrashLog_2 [2, 5, 6]) (.seq (.reg r_s_DrawCrashLog_3 [2, 5, 6, 7]) (.seq (.regD r_s_DrawCrashLog_4 p_s_DrawCrashLog_4 [2, 3, 4]) .ret)))))
def k_s_DrawCrashLog : Nat → List Nat
  | 0 => [0, 2]
  | 1 => [2, 5]
  | 2 => [2, 5, 6]
  | 3 => [2, 5, 6, 7]
  | 4 => [2, 3, 4]
  | _ => []
theorem fn_s_DrawCrashLog : FnC Tryd.prog n_s_DrawCrashLog c_s_DrawCrashLog [(.cell 2 true 3), (.tmp 3), (.tmp 4)] 24 :=
  ⟨Tryd.f27, _, k_s_DrawCrashLog, Tryd.func27, rfl, by kernel_rfl, by kernel_rfl, by kernel_rfl, rfl⟩
def r_s_DrawAppendRecord_0 : List CO := [⟨none, (some 2), (.box 3 (.k (.agg [(.v (.string (bs []))), (.v (.string (bs []))), (.v (.int .i64 (0)))])))⟩, ⟨none, (some 3), (.box 2 (.k (.agg [(.v (.string (bs []))), (.v (.string (bs [])))])))⟩]
def r_s_DrawAppendRecord_1 : List CO := [⟨none, (some 7), (.mv (.t 0))⟩, ⟨none, (some 8), (.build (.agg [(.v (.slice none 0 0)), (.v (.int .i64 (0))), (.v (.int .u64 (0)))]) [(0, (1, (.t 7)))])⟩, ⟨none, (some 9), (.box 3 (.t 8))⟩, ⟨none, (some 4), (.mv (.t 9))⟩]
def r_s_DrawAppendRecord_2 : List CO := [⟨none, (some 10), (.mv (.t 4))⟩, ⟨none, (some 11), (.call n_s_l1Cur_anyLog [(.t 10)])⟩, ⟨none, (some 5), (.box 3 (.k (.agg [(.v (.string (bs []))), (.v (.string (bs []))), (.v (.int .i64 (0)))])))⟩, ⟨none, none, (.st 3 (.t 5) (.t 11))⟩]
def r_s_DrawAppendRecord_3 : List CO := [⟨none, (some 12), (.mv (.t 4))⟩, ⟨none, (some 13), (.call n_s_l1Cur_one [(.t 12), (.k (.v (.int .i64 (40))))])⟩]
def r_s_DrawAppendRecord_4 : List CO := [⟨none, (some 14), (.build (.agg [(.v (.string (bs []))), (.v (.string (bs []))), (.v (.int .i64 (0)))]) [])⟩, ⟨none, none, (.st 3 (.t 5) (.t 14))⟩]
def r_s_DrawAppendRecord_5 : List CO := [⟨none, (some 15), (.mv (.t 4))⟩, ⟨none, (some 16), (.call n_s_l1Cur_pick [(.t 15), (.k (.v (.int .i64 (2))))])⟩, ⟨none, (some 17), (.bin .add .none (.k (.v (.int .i64 (59)))) (.t 16))⟩, ⟨none, (some 6), (.mv (.t 17))⟩]
def r_s_DrawAppendRecord_6 : List CO := [⟨none, (some 18), (.mv (.t 6))⟩, ⟨none, (some 19), (.bin .gtr .none (.t 18) (.k (.v (.int .i64 (0)))))⟩]
def r_s_DrawAppendRecord_7 : List CO := [⟨none, (some 23), (.ld true 3 (.t 5))⟩, ⟨none, (some 24), (.build (.agg [(.v (.string (bs []))), (.v (.string (bs [])))]) [(0, (1, (.k (.v (.string (bs [120]))))))])⟩, ⟨none, (some 25), (.call n_s_AppendRecord [(.t 23), (.t 24)])⟩, ⟨none, (some 22), (.mv (.t 25))⟩, ⟨none, (some 26), (.ext (.t 22) 0)⟩, ⟨none, (some 27), (.ext (.t 22) 1)⟩, ⟨none, none, (.st 3 (.t 5) (.t 26))⟩]
def r_s_DrawAppendRecord_8 : List CO := [⟨none, (some 20), (.mv (.t 6))⟩, ⟨none, (some 21), (.bin .sub .none (.t 20) (.k (.v (.int .i64 (1)))))⟩, ⟨none, (some 6), (.mv (.t 21))⟩]
def l_s_DrawAppendRecord_9 : C := (.seq (.seq (.reg r_s_DrawAppendRecord_6 [2, 3, 4, 5, 6, 19]) (.cond (.t 19) .skip (.exit 0))) (.seq (.block 1 (.reg r_s_DrawAppendRecord_7 [2, 3, 4, 5, 6])) (.reg r_s_DrawAppendRecord_8 [2, 3, 4, 5, 6])))
def r_s_DrawAppendRecord_10 : List CO := [⟨none, (some 28), (.ld true 3 (.t 5))⟩, ⟨none, (some 29), (.mv (.t 4))⟩, ⟨none, (some 30), (.call n_s_l1Cur_logRecord [(.t 29)])⟩, ⟨none, none, (.st 3 (.t 2) (.t 28))⟩, ⟨none, none, (.st 2 (.t 3) (.t 30))⟩]
def p_s_DrawAppendRecord_10 : List (List Nat) := [[], [], [1], [0, 1, 2], [0, 1, 2, 3]]
/-- loop.example/g00884/spec.DrawAppendRecord -/
def c_s_DrawAppendRecord : C := (.seq (.reg r_s_DrawAppendRecord_0 [0, 2, 3]) (.seq (.reg r_s_DrawAppendRecord_1 [2, 3, 4]) (.seq (.reg r_s_DrawAppendRecord_2 [2, 3, 4, 5]) (.seq (.seq (.reg r_s_DrawAppendRecord_3 [2, 3, 4, 5, 13]) (.cond (.t 13) (.seq (.reg r_s_DrawAppendRecord_4 [2, 3, 4, 5]) (.seq (.reg r_s_DrawAppendRecord_5 [2, 3, 4, 5, 6]) (.block 0 (.loop l_s_DrawAppendRecord_9)))) .skip)) (.seq (.regD r_s_DrawAppendRecord_10 p_s_DrawAppendRecord_10 [2, 3]) .ret)))))
def k_s_DrawAppendRecord : Nat → List Nat
  | 0 => [0, 2, 3]
  | 1 => [2, 3, 4]
  | 2 => [2, 3, 4, 5]
  | 3 => [2, 3, 4, 5, 13]
  | 4 => [2, 3, 4, 5]
  | 5 => [2, 3, 4, 5, 6]
  | 6 => [2, 3, 4, 5, 6, 19]
  | 8 => [2, 3, 4, 5, 6]
  | 7 => [2, 3, 4, 5, 6]
  | 9 => [2, 3]
  | _ => []
theorem fn_s_DrawAppendRecord : FnC Tryd.prog n_s_DrawAppendRecord c_s_DrawAppendRecord [(.cell 2 true 3), (.cell 3 true 2)] 31 :=
  ⟨Tryd.f12, _, k_s_DrawAppendRecord, Tryd.func12, rfl, by kernel_rfl, by kernel_rfl, by kernel_rfl, rfl⟩
def r_s_DrawRecoverLog_0 : List CO := [⟨none, (some 2), (.mv (.k (.v (.string (bs [])))))⟩]
def r_s_DrawRecoverLog_1 : List CO := [⟨none, (some 6), (.mv (.t 0))⟩, ⟨none, (some 7), (.build (.agg [(.v (.slice none 0 0)), (.v (.int .i64 (0))), (.v (.int .u64 (0)))]) [(0, (1, (.t 6)))])⟩, ⟨none, (some 8), (.box 3 (.t 7))⟩, ⟨none, (some 3), (.mv (.t 8))⟩]
def r_s_DrawRecoverLog_2 : List CO := [⟨none, (some 9), (.mv (.t 3))⟩, ⟨none, (some 10), (.call n_s_l1Cur_log [(.t 9)])⟩, ⟨none, (some 4), (.box 3 (.k (.agg [(.v (.string (bs []))), (.v (.string (bs []))), (.v (.int .i64 (0)))])))⟩, ⟨none, none, (.st 3 (.t 4) (.t 10))⟩]
def r_s_DrawRecoverLog_3 : List CO := [⟨none, (some 11), (.faddr 0 (.t 4))⟩, ⟨none, (some 12), (.ld false 1 (.t 11))⟩, ⟨none, (some 13), (.faddr 1 (.t 4))⟩, ⟨none, (some 14), (.ld false 1 (.t 13))⟩, ⟨none, (some 15), (.bin .add .none (.t 12) (.t 14))⟩, ⟨none, (some 5), (.mv (.t 15))⟩]
def r_s_DrawRecoverLog_4 : List CO := [⟨none, (some 16), (.mv (.t 3))⟩, ⟨none, (some 17), (.call n_s_l1Cur_pick [(.t 16), (.k (.v (.int .i64 (4))))])⟩]
def r_s_DrawRecoverLog_5 : List CO := [⟨none, (some 19), (.bin .eql .none (.t 17) (.k (.v (.int .i64 (0)))))⟩, ⟨none, (some 18), (.mv (.t 19))⟩]
def r_s_DrawRecoverLog_6 : List CO := [⟨none, (some 20), (.mv (.t 3))⟩, ⟨none, (some 21), (.mv (.t 5))⟩, ⟨none, (some 22), (.call n_s_l1Cur_spoilt [(.t 20), (.t 21), (.k (.v (.string (bs [35, 64, 10, 48, 49]))))])⟩, ⟨none, (some 5), (.mv (.t 22))⟩]
def r_s_DrawRecoverLog_7 : List CO := [⟨none, (some 24), (.bin .eql .none (.t 17) (.k (.v (.int .i64 (1)))))⟩, ⟨none, (some 23), (.mv (.t 24))⟩]
def r_s_DrawRecoverLog_8 : List CO := [⟨none, (some 25), (.mv (.t 5))⟩, ⟨none, (some 26), (.mv (.t 3))⟩, ⟨none, (some 27), (.mv (.t 5))⟩, ⟨none, (some 28), (.len true (.t 27))⟩, ⟨none, (some 29), (.bin .add .none (.t 28) (.k (.v (.int .i64 (1)))))⟩, ⟨none, (some 30), (.call n_s_l1Cur_pick [(.t 26), (.t 29)])⟩, ⟨none, (some 31), (.slc none (.t 25) none (some (.t 30)))⟩, ⟨none, (some 5), (.mv (.t 31))⟩]
def r_s_DrawRecoverLog_9 : List CO := [⟨none, (some 33), (.bin .eql .none (.t 17) (.k (.v (.int .i64 (2)))))⟩, ⟨none, (some 32), (.mv (.t 33))⟩]
def r_s_DrawRecoverLog_10 : List CO := [⟨none, (some 34), (.mv (.t 5))⟩, ⟨none, (some 35), (.mv (.t 3))⟩, ⟨none, (some 36), (.call n_s_l1Cur_pick [(.t 35), (.k (.v (.int .i64 (4))))])⟩, ⟨none, (some 37), (.mv (.t 3))⟩, ⟨none, (some 38), (.call n_s_l1Cur_logRecord [(.t 37)])⟩, ⟨none, (some 39), (.call n_s_l27Line [(.t 36), (.t 38)])⟩, ⟨none, (some 40), (.bin .add .none (.t 34) (.t 39))⟩, ⟨none, (some 5), (.mv (.t 40))⟩]
def r_s_DrawRecoverLog_11 : List CO := [⟨none, (some 41), (.mv (.t 3))⟩, ⟨none, (some 42), (.call n_s_l1Cur_one [(.t 41), (.k (.v (.int .i64 (40))))])⟩]
def r_s_DrawRecoverLog_12 : List CO := [⟨none, (some 43), (.mv (.t 3))⟩, ⟨none, (some 44), (.call n_s_l1Cur_pick [(.t 43), (.k (.v (.int .i64 (2))))])⟩, ⟨none, (some 45), (.bin .add .none (.k (.v (.int .i64 (30000)))) (.t 44))⟩, ⟨none, (some 46), (.mks 1 (.v (.int .u8 (0))) 1 (.t 45) (.t 45))⟩, ⟨none, (some 47), (.conv .bytesStr (.t 46))⟩, ⟨none, (some 5), (.mv (.t 47))⟩]
def r_s_DrawRecoverLog_13 : List CO := [⟨none, (some 48), (.mv (.t 5))⟩, ⟨none, (some 2), (.mv (.t 48))⟩]
/-- loop.example/g00884/spec.DrawRecoverLog -/
def c_s_DrawRecoverLog : C := (.seq (.reg r_s_DrawRecoverLog_0 [0]) (.seq (.reg r_s_DrawRecoverLog_1 [3]) (.seq (.reg r_s_DrawRecoverLog_2 [3, 4]) (.seq (.reg r_s_DrawRecoverLog_3 [3, 5]) (.seq (.seq (.reg r_s_DrawRecoverLog_4 [3, 5, 17]) (.block 0 (.seq (.reg r_s_DrawRecoverLog_5 [3, 5, 17, 18]) (.cond (.t 18) (.reg r_s_DrawRecoverLog_6 [3, 5]) (.seq (.reg r_s_DrawRecoverLog_7 [3, 5, 17, 23]) (.cond (.t 23) (.reg r_s_DrawRecoverLog_8 [3, 5]) (.seq (.reg r_s_DrawRecoverLog_9 [3, 5, 32]) (.cond (.t 32) (.reg r_s_DrawRecoverLog_10 [3, 5]) .skip)))))))) (.seq (.seq (.wk (.reg r_s_DrawRecoverLog_11 [3, 5, 42])) (.cond (.t 42) (.reg r_s_DrawRecoverLog_12 [5]) .skip)) (.seq (.reg r_s_DrawRecoverLog_13 [2]) .ret)))))))
def k_s_DrawRecoverLog : Nat → List Nat
  | 0 => [0]
  | 1 => [3]
  | 2 => [3, 4]
  | 3 => [3, 5]
  | 4 => [3, 5, 17]
  | 5 => [3, 5, 17, 18]
  | 6 => [3, 5]
  | 7 => [3, 5, 17, 23]
  | 8 => [3, 5]
  | 9 => [3, 5, 32]
  | 10 => [3, 5]
  | 11 => [999999, 3, 5, 42]
  | 12 => [5]
  | 13 => [2]
  | _ => []
theorem fn_s_DrawRecoverLog : FnC Tryd.prog n_s_DrawRecoverLog c_s_DrawRecoverLog [(.tmp 2)] 49 :=
  ⟨Tryd.f25, _, k_s_DrawRecoverLog, Tryd.func25, rfl, by kernel_rfl, by kernel_rfl, by kernel_rfl, rfl⟩
end Go.Proofs.YtgefdcllialhkaaDoor
