/- The compact code of the functions, and that it is theirs: written by a program of this claim. -/
import Derived.Test.YtgefdcllialhkaaDoorNums
namespace Go.Proofs.YtgefdcllialhkaaDoor
open Go.Abs
set_option maxRecDepth 100000
def r_s_l1Cur_of_0 : List CO := [⟨none, (some 4), (.mv (.k (.v (.string (bs [])))))⟩]
def r_s_l1Cur_of_1 : List CO := [⟨none, (some 5), (.mv (.t 1))⟩, ⟨none, (some 6), (.mv (.t 0))⟩, ⟨none, (some 7), (.mv (.t 1))⟩, ⟨none, (some 8), (.len false (.t 7))⟩, ⟨none, (some 9), (.call n_s_l1Cur_pick [(.t 6), (.t 8)])⟩, ⟨none, (some 10), (.iaddr 1 (.t 5) (.t 9))⟩, ⟨none, (some 11), (.ld false 1 (.t 10))⟩, ⟨none, (some 4), (.mv (.t 11))⟩]
/-- (*loop.example/g00884/spec.l1Cur).of -/
def c_s_l1Cur_of : C := (.seq (.reg r_s_l1Cur_of_0 [0, 1]) (.seq (.reg r_s_l1Cur_of_1 [4]) .ret))
def k_s_l1Cur_of : Nat → List Nat
  | 0 => [0, 1]
  | 1 => [4]
  | _ => []
theorem fn_s_l1Cur_of : FnC Tryd.prog n_s_l1Cur_of c_s_l1Cur_of [(.tmp 4)] 12 :=
  ⟨Tryd.f47, _, k_s_l1Cur_of, Tryd.func47, rfl, by kernel_rfl, by kernel_rfl, by kernel_rfl, rfl⟩
def r_s_l1Cur_spoilt_0 : List CO := [⟨none, (some 6), (.mv (.k (.v (.string (bs [])))))⟩]
def r_s_l1Cur_spoilt_1 : List CO := [⟨none, (some 9), (.mv (.t 1))⟩, ⟨none, (some 10), (.bin .eql .none (.t 9) (.k (.v (.string (bs [])))))⟩]
def r_s_l1Cur_spoilt_2 : List CO := [⟨none, (some 11), (.mv (.t 2))⟩, ⟨none, (some 12), (.slc none (.t 11) none (some (.k (.v (.int .i64 (1))))))⟩, ⟨none, (some 6), (.mv (.t 12))⟩]
def r_s_l1Cur_spoilt_3 : List CO := [⟨none, (some 13), (.mv (.t 0))⟩, ⟨none, (some 14), (.mv (.t 1))⟩, ⟨none, (some 15), (.len true (.t 14))⟩, ⟨none, (some 16), (.call n_s_l1Cur_pick [(.t 13), (.t 15)])⟩, ⟨none, (some 7), (.mv (.t 16))⟩]
def r_s_l1Cur_spoilt_4 : List CO := [⟨none, (some 17), (.mv (.t 2))⟩, ⟨none, (some 18), (.mv (.t 0))⟩, ⟨none, (some 19), (.mv (.t 2))⟩, ⟨none, (some 20), (.len true (.t 19))⟩, ⟨none, (some 21), (.call n_s_l1Cur_pick [(.t 18), (.t 20)])⟩, ⟨none, (some 22), (.slc none (.t 17) (some (.t 21)) none)⟩, ⟨none, (some 23), (.slc none (.t 22) none (some (.k (.v (.int .i64 (1))))))⟩, ⟨none, (some 8), (.mv (.t 23))⟩]
def r_s_l1Cur_spoilt_5 : List CO := [⟨none, (some 24), (.mv (.t 0))⟩, ⟨none, (some 25), (.call n_s_l1Cur_pick [(.t 24), (.k (.v (.int .i64 (3))))])⟩]
def r_s_l1Cur_spoilt_6 : List CO := [⟨none, (some 27), (.bin .eql .none (.t 25) (.k (.v (.int .i64 (0)))))⟩, ⟨none, (some 26), (.mv (.t 27))⟩]
def r_s_l1Cur_spoilt_7 : List CO := [⟨none, (some 28), (.mv (.t 1))⟩, ⟨none, (some 29), (.mv (.t 7))⟩, ⟨none, (some 30), (.slc none (.t 28) none (some (.t 29)))⟩, ⟨none, (some 31), (.mv (.t 8))⟩, ⟨none, (some 32), (.bin .add .none (.t 30) (.t 31))⟩, ⟨none, (some 33), (.mv (.t 1))⟩, ⟨none, (some 34), (.mv (.t 7))⟩, ⟨none, (some 35), (.slc none (.t 33) (some (.t 34)) none)⟩, ⟨none, (some 36), (.bin .add .none (.t 32) (.t 35))⟩, ⟨none, (some 6), (.mv (.t 36))⟩]
def p_s_l1Cur_spoilt_7 : List (List Nat) := [[], [], [0, 1], [], [0, 1, 2, 3], [], [], [5, 6], [0, 1, 2, 3, 4, 5, 6, 7], [0, 1, 2, 3, 4, 5, 6, 7, 8]]
def r_s_l1Cur_spoilt_8 : List CO := [⟨none, (some 38), (.bin .eql .none (.t 25) (.k (.v (.int .i64 (1)))))⟩, ⟨none, (some 37), (.mv (.t 38))⟩]
def r_s_l1Cur_spoilt_9 : List CO := [⟨none, (some 39), (.mv (.t 1))⟩, ⟨none, (some 40), (.mv (.t 7))⟩, ⟨none, (some 41), (.slc none (.t 39) none (some (.t 40)))⟩, ⟨none, (some 42), (.mv (.t 8))⟩, ⟨none, (some 43), (.bin .add .none (.t 41) (.t 42))⟩, ⟨none, (some 44), (.mv (.t 1))⟩, ⟨none, (some 45), (.mv (.t 7))⟩, ⟨none, (some 46), (.bin .add .none (.t 45) (.k (.v (.int .i64 (1)))))⟩, ⟨none, (some 47), (.slc none (.t 44) (some (.t 46)) none)⟩, ⟨none, (some 48), (.bin .add .none (.t 43) (.t 47))⟩, ⟨none, (some 6), (.mv (.t 48))⟩]
def p_s_l1Cur_spoilt_9 : List (List Nat) := [[], [], [0, 1], [], [0, 1, 2, 3], [], [], [6], [5, 6, 7], [0, 1, 2, 3, 4, 5, 6, 7, 8], [0, 1, 2, 3, 4, 5, 6, 7, 8, 9]]
def r_s_l1Cur_spoilt_10 : List CO := [⟨none, (some 49), (.mv (.t 1))⟩, ⟨none, (some 50), (.mv (.t 7))⟩, ⟨none, (some 51), (.slc none (.t 49) none (some (.t 50)))⟩, ⟨none, (some 52), (.mv (.t 1))⟩, ⟨none, (some 53), (.mv (.t 7))⟩, ⟨none, (some 54), (.bin .add .none (.t 53) (.k (.v (.int .i64 (1)))))⟩, ⟨none, (some 55), (.slc none (.t 52) (some (.t 54)) none)⟩, ⟨none, (some 56), (.bin .add .none (.t 51) (.t 55))⟩, ⟨none, (some 6), (.mv (.t 56))⟩]
def p_s_l1Cur_spoilt_10 : List (List Nat) := [[], [], [0, 1], [], [], [4], [3, 4, 5], [0, 1, 2, 3, 4, 5, 6], [0, 1, 2, 3, 4, 5, 6, 7]]
/-- (*loop.example/g00884/spec.l1Cur).spoilt -/
def c_s_l1Cur_spoilt : C := (.seq (.reg r_s_l1Cur_spoilt_0 [0, 1, 2]) (.seq (.seq (.reg r_s_l1Cur_spoilt_1 [0, 1, 2, 10]) (.cond (.t 10) (.seq (.reg r_s_l1Cur_spoilt_2 [6]) .ret) .skip)) (.seq (.reg r_s_l1Cur_spoilt_3 [0, 1, 2, 7]) (.seq (.reg r_s_l1Cur_spoilt_4 [0, 1, 7, 8]) (.seq (.seq (.reg r_s_l1Cur_spoilt_5 [1, 7, 8, 25]) (.block 0 (.seq (.reg r_s_l1Cur_spoilt_6 [1, 7, 8, 25, 26]) (.cond (.t 26) (.seq (.regD r_s_l1Cur_spoilt_7 p_s_l1Cur_spoilt_7 [6]) .ret) (.seq (.reg r_s_l1Cur_spoilt_8 [1, 7, 8, 37]) (.cond (.t 37) (.seq (.regD r_s_l1Cur_spoilt_9 p_s_l1Cur_spoilt_9 [6]) .ret) .skip)))))) (.seq (.regD r_s_l1Cur_spoilt_10 p_s_l1Cur_spoilt_10 [6]) .ret))))))
def k_s_l1Cur_spoilt : Nat → List Nat
  | 0 => [0, 1, 2]
  | 1 => [0, 1, 2, 10]
  | 2 => [6]
  | 3 => [0, 1, 2, 7]
  | 4 => [0, 1, 7, 8]
  | 5 => [1, 7, 8, 25]
  | 6 => [1, 7, 8, 25, 26]
  | 7 => [6]
  | 8 => [1, 7, 8, 37]
  | 9 => [6]
  | 10 => [6]
  | _ => []
theorem fn_s_l1Cur_spoilt : FnC Tryd.prog n_s_l1Cur_spoilt c_s_l1Cur_spoilt [(.tmp 6)] 57 :=
  ⟨Tryd.f44, _, k_s_l1Cur_spoilt, Tryd.func44, rfl, by kernel_rfl, by kernel_rfl, by kernel_rfl, rfl⟩
def r_s_l1Cur_logRecord_0 : List CO := [⟨none, (some 2), (.box 2 (.k (.agg [(.v (.string (bs []))), (.v (.string (bs [])))])))⟩]
def r_s_l1Cur_logRecord_1 : List CO := [⟨none, (some 4), (.mv (.t 0))⟩, ⟨none, (some 5), (.bslice 1 (.v (.string (bs []))) 5 [(0, (.k (.v (.string (bs [99, 111, 117, 110, 116]))))), (1, (.k (.v (.string (bs [115, 111, 114, 116, 32, 109, 101, 114, 103, 101]))))), (2, (.k (.v (.string (bs [120]))))), (3, (.k (.v (.string (bs [115, 101, 108, 101, 99, 116, 32, 50]))))), (4, (.k (.v (.string (bs [48, 32, 49])))))])⟩, ⟨none, (some 6), (.call n_s_l1Cur_of [(.t 4), (.t 5)])⟩, ⟨none, (some 7), (.mv (.t 0))⟩, ⟨none, (some 8), (.bslice 1 (.v (.string (bs []))) 5 [(0, (.k (.v (.string (bs []))))), (1, (.k (.v (.string (bs [51]))))), (2, (.k (.v (.string (bs [63]))))), (3, (.k (.v (.string (bs [97, 64, 98]))))), (4, (.k (.v (.string (bs [51, 32, 49, 32, 50])))))])⟩, ⟨none, (some 9), (.call n_s_l1Cur_of [(.t 7), (.t 8)])⟩, ⟨none, (some 10), (.build (.agg [(.v (.string (bs []))), (.v (.string (bs [])))]) [(0, (1, (.t 6))), (1, (1, (.t 9)))])⟩, ⟨none, (some 3), (.box 2 (.k (.agg [(.v (.string (bs []))), (.v (.string (bs [])))])))⟩, ⟨none, none, (.st 2 (.t 3) (.t 10))⟩]
def r_s_l1Cur_logRecord_2 : List CO := [⟨none, (some 11), (.mv (.t 0))⟩, ⟨none, (some 12), (.call n_s_l1Cur_pick [(.t 11), (.k (.v (.int .i64 (24))))])⟩]
def r_s_l1Cur_logRecord_3 : List CO := [⟨none, (some 14), (.bin .eql .none (.t 12) (.k (.v (.int .i64 (0)))))⟩, ⟨none, (some 13), (.mv (.t 14))⟩]
def r_s_l1Cur_logRecord_4 : List CO := [⟨none, (some 15), (.mv (.t 0))⟩, ⟨none, (some 16), (.mks 1 (.v (.int .u8 (0))) 1 (.k (.v (.int .i64 (3)))) (.k (.v (.int .i64 (3)))))⟩, ⟨none, (some 17), (.conv .bytesStr (.t 16))⟩, ⟨none, (some 18), (.bslice 1 (.v (.string (bs []))) 5 [(0, (.k (.v (.string (bs []))))), (1, (.k (.v (.string (bs [97, 64, 98]))))), (2, (.k (.v (.string (bs [97, 35]))))), (3, (.k (.v (.string (bs [10]))))), (4, (.t 17))])⟩, ⟨none, (some 19), (.call n_s_l1Cur_of [(.t 15), (.t 18)])⟩, ⟨none, (some 20), (.faddr 0 (.t 3))⟩, ⟨none, none, (.st 1 (.t 20) (.t 19))⟩]
def r_s_l1Cur_logRecord_5 : List CO := [⟨none, (some 22), (.bin .eql .none (.t 12) (.k (.v (.int .i64 (1)))))⟩, ⟨none, (some 21), (.mv (.t 22))⟩]
def r_s_l1Cur_logRecord_6 : List CO := [⟨none, (some 23), (.mv (.t 0))⟩, ⟨none, (some 24), (.bslice 1 (.v (.string (bs []))) 3 [(0, (.k (.v (.string (bs [35]))))), (1, (.k (.v (.string (bs [10]))))), (2, (.k (.v (.string (bs [127])))))])⟩, ⟨none, (some 25), (.call n_s_l1Cur_of [(.t 23), (.t 24)])⟩, ⟨none, (some 26), (.faddr 1 (.t 3))⟩, ⟨none, none, (.st 1 (.t 26) (.t 25))⟩]
def r_s_l1Cur_logRecord_7 : List CO := [⟨none, (some 27), (.ld true 2 (.t 3))⟩, ⟨none, none, (.st 2 (.t 2) (.t 27))⟩]
/-- (*loop.example/g00884/spec.l1Cur).logRecord -/
def c_s_l1Cur_logRecord : C := (.seq (.reg r_s_l1Cur_logRecord_0 [0, 2]) (.seq (.reg r_s_l1Cur_logRecord_1 [0, 2, 3]) (.seq (.seq (.reg r_s_l1Cur_logRecord_2 [0, 2, 3, 12]) (.block 0 (.seq (.reg r_s_l1Cur_logRecord_3 [0, 2, 3, 12, 13]) (.cond (.t 13) (.reg r_s_l1Cur_logRecord_4 [2, 3]) (.seq (.reg r_s_l1Cur_logRecord_5 [0, 2, 3, 21]) (.cond (.t 21) (.reg r_s_l1Cur_logRecord_6 [2, 3]) .skip)))))) (.seq (.reg r_s_l1Cur_logRecord_7 [2]) .ret))))
def k_s_l1Cur_logRecord : Nat → List Nat
  | 0 => [0, 2]
  | 1 => [0, 2, 3]
  | 2 => [0, 2, 3, 12]
  | 3 => [0, 2, 3, 12, 13]
  | 4 => [2, 3]
  | 5 => [0, 2, 3, 21]
  | 6 => [2, 3]
  | 7 => [2]
  | _ => []
theorem fn_s_l1Cur_logRecord : FnC Tryd.prog n_s_l1Cur_logRecord c_s_l1Cur_logRecord [(.cell 2 true 2)] 28 :=
  ⟨Tryd.f35, _, k_s_l1Cur_logRecord, Tryd.func35, rfl, by kernel_rfl, by kernel_rfl, by kernel_rfl, rfl⟩
def r_s_l1Cur_log_0 : List CO := [⟨none, (some 2), (.box 3 (.k (.agg [(.v (.string (bs []))), (.v (.string (bs []))), (.v (.int .i64 (0)))])))⟩]
def r_s_l1Cur_log_1 : List CO := [⟨none, (some 5), (.build (.agg [(.v (.string (bs []))), (.v (.string (bs []))), (.v (.int .i64 (0)))]) [])⟩, ⟨none, (some 3), (.box 3 (.k (.agg [(.v (.string (bs []))), (.v (.string (bs []))), (.v (.int .i64 (0)))])))⟩, ⟨none, none, (.st 3 (.t 3) (.t 5))⟩]
def r_s_l1Cur_log_2 : List CO := [⟨none, (some 6), (.mv (.t 0))⟩, ⟨none, (some 7), (.call n_s_l1Cur_pick [(.t 6), (.k (.v (.int .i64 (7))))])⟩, ⟨none, (some 4), (.mv (.t 7))⟩]
def r_s_l1Cur_log_3 : List CO := [⟨none, (some 8), (.mv (.t 4))⟩, ⟨none, (some 9), (.bin .gtr .none (.t 8) (.k (.v (.int .i64 (0)))))⟩]
def r_s_l1Cur_log_4 : List CO := [⟨none, (some 13), (.ld true 3 (.t 3))⟩, ⟨none, (some 14), (.mv (.t 0))⟩, ⟨none, (some 15), (.call n_s_l1Cur_logRecord [(.t 14)])⟩, ⟨none, (some 16), (.call n_s_AppendRecord [(.t 13), (.t 15)])⟩, ⟨none, (some 12), (.mv (.t 16))⟩, ⟨none, (some 17), (.ext (.t 12) 0)⟩, ⟨none, (some 18), (.ext (.t 12) 1)⟩, ⟨none, none, (.st 3 (.t 3) (.t 17))⟩]
def p_s_l1Cur_log_4 : List (List Nat) := [[], [], [1], [0, 1, 2], [0, 1, 2, 3], [0, 1, 2, 3, 4], [0, 1, 2, 3, 4], [0, 1, 2, 3, 4, 5]]
def r_s_l1Cur_log_5 : List CO := [⟨none, (some 19), (.mv (.t 0))⟩, ⟨none, (some 20), (.call n_s_l1Cur_one [(.t 19), (.k (.v (.int .i64 (4))))])⟩]
def r_s_l1Cur_log_6 : List CO := [⟨none, (some 22), (.ld true 3 (.t 3))⟩, ⟨none, (some 23), (.call n_s_SyncLog [(.t 22)])⟩, ⟨none, (some 21), (.mv (.t 23))⟩, ⟨none, (some 24), (.ext (.t 21) 0)⟩, ⟨none, (some 25), (.ext (.t 21) 1)⟩, ⟨none, none, (.st 3 (.t 3) (.t 24))⟩]
def r_s_l1Cur_log_7 : List CO := [⟨none, (some 10), (.mv (.t 4))⟩, ⟨none, (some 11), (.bin .sub .none (.t 10) (.k (.v (.int .i64 (1)))))⟩, ⟨none, (some 4), (.mv (.t 11))⟩]
def l_s_l1Cur_log_8 : C := (.seq (.seq (.reg r_s_l1Cur_log_3 [0, 2, 3, 4, 9]) (.cond (.t 9) .skip (.exit 0))) (.seq (.block 1 (.seq (.regD r_s_l1Cur_log_4 p_s_l1Cur_log_4 [0, 2, 3, 4]) (.seq (.reg r_s_l1Cur_log_5 [0, 2, 3, 4, 20]) (.cond (.t 20) (.reg r_s_l1Cur_log_6 [0, 2, 3, 4]) .skip)))) (.reg r_s_l1Cur_log_7 [0, 2, 3, 4])))
def r_s_l1Cur_log_9 : List CO := [⟨none, (some 26), (.ld true 3 (.t 3))⟩, ⟨none, none, (.st 3 (.t 2) (.t 26))⟩]
/-- (*loop.example/g00884/spec.l1Cur).log -/
def c_s_l1Cur_log : C := (.seq (.reg r_s_l1Cur_log_0 [0, 2]) (.seq (.reg r_s_l1Cur_log_1 [0, 2, 3]) (.seq (.seq (.reg r_s_l1Cur_log_2 [0, 2, 3, 4]) (.block 0 (.loop l_s_l1Cur_log_8))) (.seq (.reg r_s_l1Cur_log_9 [2]) .ret))))
def k_s_l1Cur_log : Nat → List Nat
  | 0 => [0, 2]
  | 1 => [0, 2, 3]
  | 2 => [0, 2, 3, 4]
  | 3 => [0, 2, 3, 4, 9]
  | 5 => [0, 2, 3, 4]
  | 6 => [0, 2, 3, 4, 20]
  | 7 => [0, 2, 3, 4]
  | 4 => [0, 2, 3, 4]
  | 8 => [2]
  | _ => []
theorem fn_s_l1Cur_log : FnC Tryd.prog n_s_l1Cur_log c_s_l1Cur_log [(.cell 2 true 3)] 27 :=
  ⟨Tryd.f43, _, k_s_l1Cur_log, Tryd.func43, rfl, by kernel_rfl, by kernel_rfl, by kernel_rfl, rfl⟩
end Go.Proofs.YtgefdcllialhkaaDoor
