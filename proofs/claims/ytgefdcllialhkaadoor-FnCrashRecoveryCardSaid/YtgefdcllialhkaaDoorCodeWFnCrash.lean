/- The compact code of the functions, and that it is theirs: written by a program of this claim. -/
import Derived.Test.YtgefdcllialhkaaDoorNums
namespace Go.Proofs.YtgefdcllialhkaaDoor
open Go.Abs
set_option maxRecDepth 100000
def r_w_FnCrashRecovery_0 : List CO := [⟨none, (some 2), (.mv (.k (.v (.bool false))))⟩]
def r_w_FnCrashRecovery_1 : List CO := [⟨none, (some 18), (.mv (.t 0))⟩, ⟨none, (some 19), (.call n_w_vBig [(.t 18)])⟩]
def r_w_FnCrashRecovery_2 : List CO := [⟨none, (some 2), (.mv (.k (.v (.bool true))))⟩]
def r_w_FnCrashRecovery_3 : List CO := [⟨none, (some 21), (.mv (.t 0))⟩, ⟨none, (some 22), (.call n_s_DrawCrashLog [(.t 21)])⟩, ⟨none, (some 20), (.mv (.t 22))⟩, ⟨none, (some 23), (.ext (.t 20) 0)⟩, ⟨none, (some 24), (.ext (.t 20) 1)⟩, ⟨none, (some 25), (.ext (.t 20) 2)⟩, ⟨none, (some 3), (.box 3 (.k (.agg [(.v (.string (bs []))), (.v (.string (bs []))), (.v (.int .i64 (0)))])))⟩, ⟨none, none, (.st 3 (.t 3) (.t 23))⟩, ⟨none, (some 4), (.mv (.t 24))⟩, ⟨none, (some 5), (.mv (.t 25))⟩]
def r_w_FnCrashRecovery_4 : List CO := [⟨none, (some 27), (.ld true 3 (.t 3))⟩, ⟨none, (some 28), (.mv (.t 4))⟩, ⟨none, (some 29), (.mv (.t 5))⟩, ⟨none, (some 30), (.call n_i_CrashLog [(.t 27), (.t 28), (.t 29)])⟩, ⟨none, (some 26), (.mv (.t 30))⟩, ⟨none, (some 31), (.ext (.t 26) 0)⟩, ⟨none, (some 32), (.ext (.t 26) 1)⟩, ⟨none, (some 6), (.mv (.t 31))⟩, ⟨none, (some 7), (.mv (.t 32))⟩]
def r_w_FnCrashRecovery_5 : List CO := [⟨none, (some 34), (.ld true 3 (.t 3))⟩, ⟨none, (some 35), (.mv (.t 4))⟩, ⟨none, (some 36), (.mv (.t 5))⟩, ⟨none, (some 37), (.call n_s_CrashLog [(.t 34), (.t 35), (.t 36)])⟩, ⟨none, (some 33), (.mv (.t 37))⟩, ⟨none, (some 38), (.ext (.t 33) 0)⟩, ⟨none, (some 39), (.ext (.t 33) 1)⟩, ⟨none, (some 8), (.mv (.t 38))⟩, ⟨none, (some 9), (.mv (.t 39))⟩]
def r_w_FnCrashRecovery_6 : List CO := [⟨none, (some 40), (.mv (.t 6))⟩, ⟨none, (some 41), (.mv (.t 8))⟩, ⟨none, (some 42), (.bin .neq .none (.t 40) (.t 41))⟩, ⟨none, (some 43), (.mv (.t 42))⟩, ⟨(some (43, false)), (some 44), (.mv (.t 7))⟩, ⟨(some (43, false)), (some 45), (.mv (.t 9))⟩, ⟨(some (43, false)), (some 46), (.bin .neq .bool (.t 44) (.t 45))⟩, ⟨none, (some 47), (.pick (.t 43) (.k (.v (.bool true))) (.t 46))⟩]
def r_w_FnCrashRecovery_7 : List CO := [⟨none, (some 2), (.mv (.k (.v (.bool false))))⟩]
def r_w_FnCrashRecovery_8 : List CO := [⟨none, (some 48), (.mv (.t 7))⟩, ⟨none, (some 49), (.un .not (.t 48))⟩]
def r_w_FnCrashRecovery_9 : List CO := [⟨none, (some 50), (.mv (.t 6))⟩, ⟨none, (some 51), (.bin .eql .none (.t 50) (.k (.v (.string (bs [])))))⟩, ⟨none, (some 2), (.mv (.t 51))⟩]
def r_w_FnCrashRecovery_10 : List CO := [⟨none, (some 53), (.mv (.t 6))⟩, ⟨none, (some 54), (.call n_i_RecoverLog [(.t 53)])⟩, ⟨none, (some 52), (.mv (.t 54))⟩, ⟨none, (some 55), (.ext (.t 52) 0)⟩, ⟨none, (some 56), (.ext (.t 52) 1)⟩, ⟨none, (some 57), (.ext (.t 52) 2)⟩, ⟨none, (some 10), (.box 3 (.k (.agg [(.v (.string (bs []))), (.v (.string (bs []))), (.v (.int .i64 (0)))])))⟩, ⟨none, none, (.st 3 (.t 10) (.t 55))⟩, ⟨none, (some 11), (.mv (.t 56))⟩, ⟨none, (some 12), (.mv (.t 57))⟩]
def r_w_FnCrashRecovery_11 : List CO := [⟨none, (some 59), (.ld true 3 (.t 10))⟩, ⟨none, (some 60), (.call n_i_LogRecords [(.t 59)])⟩, ⟨none, (some 58), (.mv (.t 60))⟩, ⟨none, (some 61), (.ext (.t 58) 0)⟩, ⟨none, (some 62), (.ext (.t 58) 1)⟩, ⟨none, (some 13), (.mv (.t 61))⟩, ⟨none, (some 14), (.mv (.t 62))⟩]
def r_w_FnCrashRecovery_12 : List CO := [⟨none, (some 64), (.ld true 3 (.t 3))⟩, ⟨none, (some 65), (.call n_s_LogRecords [(.t 64)])⟩, ⟨none, (some 63), (.mv (.t 65))⟩, ⟨none, (some 66), (.ext (.t 63) 0)⟩, ⟨none, (some 67), (.ext (.t 63) 1)⟩, ⟨none, (some 15), (.mv (.t 66))⟩, ⟨none, (some 16), (.mv (.t 67))⟩]
def r_w_FnCrashRecovery_13 : List CO := [⟨none, (some 68), (.mv (.t 12))⟩, ⟨none, (some 69), (.un .not (.t 68))⟩, ⟨none, (some 70), (.mv (.t 69))⟩, ⟨(some (70, false)), (some 71), (.mv (.t 11))⟩, ⟨(some (70, false)), (some 72), (.mv (.t 6))⟩, ⟨(some (70, false)), (some 73), (.len true (.t 72))⟩, ⟨(some (70, false)), (some 74), (.bin .gtr .none (.t 71) (.t 73))⟩, ⟨none, (some 75), (.pick (.t 70) (.k (.v (.bool true))) (.t 74))⟩, ⟨none, (some 76), (.mv (.t 75))⟩, ⟨(some (76, false)), (some 77), (.mv (.t 11))⟩, ⟨(some (76, false)), (some 78), (.faddr 0 (.t 3))⟩, ⟨(some (76, false)), (some 79), (.ld false 1 (.t 78))⟩, ⟨(some (76, false)), (some 80), (.len true (.t 79))⟩, ⟨(some (76, false)), (some 81), (.bin .lss .none (.t 77) (.t 80))⟩, ⟨none, (some 82), (.pick (.t 76) (.k (.v (.bool true))) (.t 81))⟩, ⟨none, (some 83), (.mv (.t 82))⟩, ⟨(some (83, false)), (some 84), (.mv (.t 13))⟩, ⟨(some (83, false)), (some 85), (.len false (.t 84))⟩, ⟨(some (83, false)), (some 86), (.mv (.t 15))⟩, ⟨(some (83, false)), (some 87), (.len false (.t 86))⟩, ⟨(some (83, false)), (some 88), (.bin .gtr .none (.t 85) (.t 87))⟩, ⟨none, (some 89), (.pick (.t 83) (.k (.v (.bool true))) (.t 88))⟩]
def r_w_FnCrashRecovery_14 : List CO := [⟨none, (some 2), (.mv (.k (.v (.bool false))))⟩]
def r_w_FnCrashRecovery_15 : List CO := [⟨none, (some 17), (.mv (.k (.v (.int .i64 (0)))))⟩]
def r_w_FnCrashRecovery_16 : List CO := [⟨none, (some 90), (.mv (.t 17))⟩, ⟨none, (some 91), (.mv (.t 13))⟩, ⟨none, (some 92), (.len false (.t 91))⟩, ⟨none, (some 93), (.bin .lss .none (.t 90) (.t 92))⟩]
def r_w_FnCrashRecovery_17 : List CO := [⟨none, (some 96), (.mv (.t 13))⟩, ⟨none, (some 97), (.mv (.t 17))⟩, ⟨none, (some 98), (.iaddr 2 (.t 96) (.t 97))⟩, ⟨none, (some 99), (.ld true 2 (.t 98))⟩, ⟨none, (some 100), (.mv (.t 15))⟩, ⟨none, (some 101), (.mv (.t 17))⟩, ⟨none, (some 102), (.iaddr 2 (.t 100) (.t 101))⟩, ⟨none, (some 103), (.ld true 2 (.t 102))⟩, ⟨none, (some 104), (.bin .neq (.struct [EK.str, EK.str]) (.t 99) (.t 103))⟩]
def p_w_FnCrashRecovery_17 : List (List Nat) := [[], [], [0, 1], [0, 1, 2], [], [], [4, 5], [4, 5, 6], [0, 1, 2, 3, 4, 5, 6, 7]]
def r_w_FnCrashRecovery_18 : List CO := [⟨none, (some 2), (.mv (.k (.v (.bool false))))⟩]
def r_w_FnCrashRecovery_19 : List CO := [⟨none, (some 94), (.mv (.t 17))⟩, ⟨none, (some 95), (.bin .add .none (.t 94) (.k (.v (.int .i64 (1)))))⟩, ⟨none, (some 17), (.mv (.t 95))⟩]
def l_w_FnCrashRecovery_20 : C := (.seq (.seq (.reg r_w_FnCrashRecovery_16 [6, 10, 11, 13, 15, 17, 93]) (.cond (.t 93) .skip (.exit 0))) (.seq (.block 1 (.seq (.regD r_w_FnCrashRecovery_17 p_w_FnCrashRecovery_17 [6, 10, 11, 13, 15, 17, 104]) (.cond (.t 104) (.seq (.reg r_w_FnCrashRecovery_18 [2]) .ret) .skip))) (.reg r_w_FnCrashRecovery_19 [6, 10, 11, 13, 15, 17])))
def r_w_FnCrashRecovery_21 : List CO := [⟨none, (some 105), (.ld true 3 (.t 10))⟩, ⟨none, (some 106), (.call n_i_IsValidLog [(.t 105)])⟩, ⟨none, (some 107), (.mv (.t 106))⟩, ⟨(some (107, true)), (some 108), (.faddr 0 (.t 10))⟩, ⟨(some (107, true)), (some 109), (.ld false 1 (.t 108))⟩, ⟨(some (107, true)), (some 110), (.mv (.t 6))⟩, ⟨(some (107, true)), (some 111), (.mv (.t 11))⟩, ⟨(some (107, true)), (some 112), (.slc none (.t 110) none (some (.t 111)))⟩, ⟨(some (107, true)), (some 113), (.bin .eql .none (.t 109) (.t 112))⟩, ⟨none, (some 114), (.pick (.t 107) (.t 113) (.k (.v (.bool false))))⟩, ⟨none, (some 2), (.mv (.t 114))⟩]
def p_w_FnCrashRecovery_21 : List (List Nat) := [[], [0], [0, 1], [0, 1, 2], [0, 1, 2, 3], [0, 1, 2], [0, 1, 2], [0, 1, 2, 5, 6], [0, 1, 2, 3, 4, 5, 6, 7], [0, 1, 2, 3, 4, 5, 6, 7, 8], [0, 1, 2, 3, 4, 5, 6, 7, 8, 9]]
/-- loop.example/g00884/laws.FnCrashRecovery -/
def c_w_FnCrashRecovery : C := (.seq (.reg r_w_FnCrashRecovery_0 [0]) (.seq (.seq (.reg r_w_FnCrashRecovery_1 [0, 19]) (.cond (.t 19) (.seq (.reg r_w_FnCrashRecovery_2 [2]) .ret) .skip)) (.seq (.reg r_w_FnCrashRecovery_3 [3, 4, 5]) (.seq (.reg r_w_FnCrashRecovery_4 [3, 4, 5, 6, 7]) (.seq (.seq (.reg r_w_FnCrashRecovery_5 [3, 6, 7, 8, 9]) (.seq (.reg r_w_FnCrashRecovery_6 [3, 6, 7, 47]) (.cond (.t 47) (.seq (.reg r_w_FnCrashRecovery_7 [2]) .ret) .skip))) (.seq (.seq (.reg r_w_FnCrashRecovery_8 [3, 6, 49]) (.cond (.t 49) (.seq (.reg r_w_FnCrashRecovery_9 [2]) .ret) .skip)) (.seq (.reg r_w_FnCrashRecovery_10 [3, 6, 10, 11, 12]) (.seq (.reg r_w_FnCrashRecovery_11 [3, 6, 10, 11, 12, 13]) (.seq (.reg r_w_FnCrashRecovery_12 [3, 6, 10, 11, 12, 13, 15]) (.seq (.seq (.reg r_w_FnCrashRecovery_13 [6, 10, 11, 13, 15, 89]) (.cond (.t 89) (.seq (.reg r_w_FnCrashRecovery_14 [2]) .ret) .skip)) (.seq (.seq (.reg r_w_FnCrashRecovery_15 [6, 10, 11, 13, 15, 17]) (.block 0 (.loop l_w_FnCrashRecovery_20))) (.seq (.regD r_w_FnCrashRecovery_21 p_w_FnCrashRecovery_21 [2]) .ret))))))))))))
def k_w_FnCrashRecovery : Nat → List Nat
  | 0 => [0]
  | 1 => [0, 19]
  | 2 => [2]
  | 3 => [3, 4, 5]
  | 4 => [3, 4, 5, 6, 7]
  | 5 => [3, 6, 7, 8, 9]
  | 6 => [3, 6, 7, 47]
  | 7 => [2]
  | 8 => [3, 6, 49]
  | 9 => [2]
  | 10 => [3, 6, 10, 11, 12]
  | 11 => [3, 6, 10, 11, 12, 13]
  | 12 => [3, 6, 10, 11, 12, 13, 15]
  | 13 => [6, 10, 11, 13, 15, 89]
  | 14 => [2]
  | 15 => [6, 10, 11, 13, 15, 17]
  | 16 => [6, 10, 11, 13, 15, 17, 93]
  | 18 => [6, 10, 11, 13, 15, 17, 104]
  | 19 => [2]
  | 17 => [6, 10, 11, 13, 15, 17]
  | 20 => [2]
  | _ => []
theorem fn_w_FnCrashRecovery : FnC Tryd.prog n_w_FnCrashRecovery c_w_FnCrashRecovery [(.tmp 2)] 115 :=
  ⟨Tryd.f6, _, k_w_FnCrashRecovery, Tryd.func6, rfl, by kernel_rfl, by kernel_rfl, by kernel_rfl, rfl⟩
end Go.Proofs.YtgefdcllialhkaaDoor
