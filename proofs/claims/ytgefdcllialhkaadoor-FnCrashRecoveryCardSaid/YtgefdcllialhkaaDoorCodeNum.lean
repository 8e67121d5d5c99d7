/- The compact code of the functions, and that it is theirs: written by a program of this claim. -/
import Derived.Test.YtgefdcllialhkaaDoorNums
namespace Go.Proofs.YtgefdcllialhkaaDoor
open Go.Abs
set_option maxRecDepth 100000
def r_s_l1Num_0 : List CO := [⟨none, (some 2), (.mv (.k (.v (.string (bs [])))))⟩]
def r_s_l1Num_1 : List CO := [⟨none, (some 3), (.mv (.t 0))⟩, ⟨none, (some 4), (.bin .lss .none (.t 3) (.k (.v (.int .i64 (0)))))⟩]
def r_s_l1Num_2 : List CO := [⟨none, (some 5), (.mv (.t 0))⟩, ⟨none, (some 6), (.un .neg (.t 5))⟩, ⟨none, (some 7), (.call n_s_l1Num [(.t 6)])⟩, ⟨none, (some 8), (.bin .add .none (.k (.v (.string (bs [45])))) (.t 7))⟩, ⟨none, (some 2), (.mv (.t 8))⟩]
def r_s_l1Num_3 : List CO := [⟨none, (some 9), (.mv (.t 0))⟩, ⟨none, (some 10), (.bin .lss .none (.t 9) (.k (.v (.int .i64 (10)))))⟩]
def r_s_l1Num_4 : List CO := [⟨none, (some 11), (.mv (.t 0))⟩, ⟨none, (some 12), (.mv (.t 0))⟩, ⟨none, (some 13), (.bin .add .none (.t 12) (.k (.v (.int .i64 (1)))))⟩, ⟨none, (some 14), (.slc none (.k (.v (.string (bs [48, 49, 50, 51, 52, 53, 54, 55, 56, 57])))) (some (.t 11)) (some (.t 13)))⟩, ⟨none, (some 2), (.mv (.t 14))⟩]
def r_s_l1Num_5 : List CO := [⟨none, (some 15), (.mv (.t 0))⟩, ⟨none, (some 16), (.bin .quo .none (.t 15) (.k (.v (.int .i64 (10)))))⟩, ⟨none, (some 17), (.call n_s_l1Num [(.t 16)])⟩, ⟨none, (some 18), (.mv (.t 0))⟩, ⟨none, (some 19), (.bin .rem .none (.t 18) (.k (.v (.int .i64 (10)))))⟩, ⟨none, (some 20), (.mv (.t 0))⟩, ⟨none, (some 21), (.bin .rem .none (.t 20) (.k (.v (.int .i64 (10)))))⟩, ⟨none, (some 22), (.bin .add .none (.t 21) (.k (.v (.int .i64 (1)))))⟩, ⟨none, (some 23), (.slc none (.k (.v (.string (bs [48, 49, 50, 51, 52, 53, 54, 55, 56, 57])))) (some (.t 19)) (some (.t 22)))⟩, ⟨none, (some 24), (.bin .add .none (.t 17) (.t 23))⟩, ⟨none, (some 2), (.mv (.t 24))⟩]
def p_s_l1Num_5 : List (List Nat) := [[], [0], [0, 1], [], [3], [], [5], [5, 6], [3, 4, 5, 6, 7], [0, 1, 2, 3, 4, 5, 6, 7, 8], [0, 1, 2, 3, 4, 5, 6, 7, 8, 9]]
/-- loop.example/g00884/spec.l1Num -/
def c_s_l1Num : C := (.seq (.reg r_s_l1Num_0 [0]) (.seq (.seq (.reg r_s_l1Num_1 [0, 4]) (.cond (.t 4) (.seq (.reg r_s_l1Num_2 [2]) .ret) .skip)) (.seq (.seq (.reg r_s_l1Num_3 [0, 10]) (.cond (.t 10) (.seq (.reg r_s_l1Num_4 [2]) .ret) .skip)) (.seq (.regD r_s_l1Num_5 p_s_l1Num_5 [2]) .ret))))
def k_s_l1Num : Nat → List Nat
  | 0 => [0]
  | 1 => [0, 4]
  | 2 => [2]
  | 3 => [0, 10]
  | 4 => [2]
  | 5 => [2]
  | _ => []
theorem fn_s_l1Num : FnC Tryd.prog n_s_l1Num c_s_l1Num [(.tmp 2)] 25 :=
  ⟨Tryd.f53, _, k_s_l1Num, Tryd.func53, rfl, by kernel_rfl, by kernel_rfl, by kernel_rfl, rfl⟩
def r_i_checksum_0 : List CO := [⟨none, (some 2), (.mv (.k (.v (.int .i64 (0)))))⟩]
def r_i_checksum_1 : List CO := [⟨none, (some 3), (.mv (.k (.v (.int .i64 (7)))))⟩]
def r_i_checksum_2 : List CO := [⟨none, (some 4), (.mv (.k (.v (.int .i64 (0)))))⟩]
def r_i_checksum_3 : List CO := [⟨none, (some 5), (.mv (.t 4))⟩, ⟨none, (some 6), (.mv (.t 0))⟩, ⟨none, (some 7), (.len true (.t 6))⟩, ⟨none, (some 8), (.bin .lss .none (.t 5) (.t 7))⟩]
def r_i_checksum_4 : List CO := [⟨none, (some 11), (.mv (.t 3))⟩, ⟨none, (some 12), (.bin .mul .none (.k (.v (.int .i64 (41)))) (.t 11))⟩, ⟨none, (some 13), (.mv (.t 0))⟩, ⟨none, (some 14), (.mv (.t 4))⟩, ⟨none, (some 15), (.idx (.t 13) (.t 14))⟩, ⟨none, (some 16), (.conv (.int .i64) (.t 15))⟩, ⟨none, (some 17), (.bin .add .none (.t 12) (.t 16))⟩, ⟨none, (some 18), (.bin .add .none (.t 17) (.k (.v (.int .i64 (1)))))⟩, ⟨none, (some 19), (.bin .rem .none (.t 18) (.k (.v (.int .i64 (999979)))))⟩, ⟨none, (some 3), (.mv (.t 19))⟩]
def r_i_checksum_5 : List CO := [⟨none, (some 9), (.mv (.t 4))⟩, ⟨none, (some 10), (.bin .add .none (.t 9) (.k (.v (.int .i64 (1)))))⟩, ⟨none, (some 4), (.mv (.t 10))⟩]
def l_i_checksum_6 : C := (.seq (.seq (.reg r_i_checksum_3 [0, 3, 4, 8]) (.cond (.t 8) .skip (.exit 0))) (.seq (.block 1 (.reg r_i_checksum_4 [0, 3, 4])) (.reg r_i_checksum_5 [0, 3, 4])))
def r_i_checksum_7 : List CO := [⟨none, (some 20), (.mv (.t 3))⟩, ⟨none, (some 2), (.mv (.t 20))⟩]
/-- loop.example/g00884/impl.checksum -/
def c_i_checksum : C := (.seq (.reg r_i_checksum_0 [0]) (.seq (.reg r_i_checksum_1 [0, 3]) (.seq (.seq (.reg r_i_checksum_2 [0, 3, 4]) (.block 0 (.loop l_i_checksum_6))) (.seq (.reg r_i_checksum_7 [2]) .ret))))
def k_i_checksum : Nat → List Nat
  | 0 => [0]
  | 1 => [0, 3]
  | 2 => [0, 3, 4]
  | 3 => [0, 3, 4, 8]
  | 5 => [0, 3, 4]
  | 4 => [0, 3, 4]
  | 6 => [2]
  | _ => []
theorem fn_i_checksum : FnC Tryd.prog n_i_checksum c_i_checksum [(.tmp 2)] 21 :=
  ⟨Tryd.f59, _, k_i_checksum, Tryd.func59, rfl, by kernel_rfl, by kernel_rfl, by kernel_rfl, rfl⟩
def r_s_l1Sum_0 : List CO := [⟨none, (some 2), (.mv (.k (.v (.int .i64 (0)))))⟩]
def r_s_l1Sum_1 : List CO := [⟨none, (some 3), (.mv (.k (.v (.int .i64 (7)))))⟩]
def r_s_l1Sum_2 : List CO := [⟨none, (some 4), (.mv (.k (.v (.int .i64 (0)))))⟩]
def r_s_l1Sum_3 : List CO := [⟨none, (some 5), (.mv (.t 4))⟩, ⟨none, (some 6), (.mv (.t 0))⟩, ⟨none, (some 7), (.len true (.t 6))⟩, ⟨none, (some 8), (.bin .lss .none (.t 5) (.t 7))⟩]
def r_s_l1Sum_4 : List CO := [⟨none, (some 11), (.mv (.t 3))⟩, ⟨none, (some 12), (.bin .mul .none (.k (.v (.int .i64 (41)))) (.t 11))⟩, ⟨none, (some 13), (.mv (.t 0))⟩, ⟨none, (some 14), (.mv (.t 4))⟩, ⟨none, (some 15), (.idx (.t 13) (.t 14))⟩, ⟨none, (some 16), (.conv (.int .i64) (.t 15))⟩, ⟨none, (some 17), (.bin .add .none (.t 12) (.t 16))⟩, ⟨none, (some 18), (.bin .add .none (.t 17) (.k (.v (.int .i64 (1)))))⟩, ⟨none, (some 19), (.bin .rem .none (.t 18) (.k (.v (.int .i64 (999979)))))⟩, ⟨none, (some 3), (.mv (.t 19))⟩]
def r_s_l1Sum_5 : List CO := [⟨none, (some 9), (.mv (.t 4))⟩, ⟨none, (some 10), (.bin .add .none (.t 9) (.k (.v (.int .i64 (1)))))⟩, ⟨none, (some 4), (.mv (.t 10))⟩]
def l_s_l1Sum_6 : C := (.seq (.seq (.reg r_s_l1Sum_3 [0, 3, 4, 8]) (.cond (.t 8) .skip (.exit 0))) (.seq (.block 1 (.reg r_s_l1Sum_4 [0, 3, 4])) (.reg r_s_l1Sum_5 [0, 3, 4])))
def r_s_l1Sum_7 : List CO := [⟨none, (some 20), (.mv (.t 3))⟩, ⟨none, (some 2), (.mv (.t 20))⟩]
/-- loop.example/g00884/spec.l1Sum -/
def c_s_l1Sum : C := (.seq (.reg r_s_l1Sum_0 [0]) (.seq (.reg r_s_l1Sum_1 [0, 3]) (.seq (.seq (.reg r_s_l1Sum_2 [0, 3, 4]) (.block 0 (.loop l_s_l1Sum_6))) (.seq (.reg r_s_l1Sum_7 [2]) .ret))))
def k_s_l1Sum : Nat → List Nat
  | 0 => [0]
  | 1 => [0, 3]
  | 2 => [0, 3, 4]
  | 3 => [0, 3, 4, 8]
  | 5 => [0, 3, 4]
  | 4 => [0, 3, 4]
  | 6 => [2]
  | _ => []
theorem fn_s_l1Sum : FnC Tryd.prog n_s_l1Sum c_s_l1Sum [(.tmp 2)] 21 :=
  ⟨Tryd.f61, _, k_s_l1Sum, Tryd.func61, rfl, by kernel_rfl, by kernel_rfl, by kernel_rfl, rfl⟩
def r_s_l1Seal_0 : List CO := [⟨none, (some 2), (.mv (.k (.v (.string (bs [])))))⟩]
def r_s_l1Seal_1 : List CO := [⟨none, (some 3), (.mv (.t 0))⟩, ⟨none, (some 4), (.bin .add .none (.t 3) (.k (.v (.string (bs [35])))))⟩, ⟨none, (some 5), (.mv (.t 0))⟩, ⟨none, (some 6), (.call n_s_l1Sum [(.t 5)])⟩, ⟨none, (some 7), (.call n_s_l1Num [(.t 6)])⟩, ⟨none, (some 8), (.bin .add .none (.t 4) (.t 7))⟩, ⟨none, (some 2), (.mv (.t 8))⟩]
/-- loop.example/g00884/spec.l1Seal -/
def c_s_l1Seal : C := (.seq (.reg r_s_l1Seal_0 [0]) (.seq (.reg r_s_l1Seal_1 [2]) .ret))
def k_s_l1Seal : Nat → List Nat
  | 0 => [0]
  | 1 => [2]
  | _ => []
theorem fn_s_l1Seal : FnC Tryd.prog n_s_l1Seal c_s_l1Seal [(.tmp 2)] 9 :=
  ⟨Tryd.f52, _, k_s_l1Seal, Tryd.func52, rfl, by kernel_rfl, by kernel_rfl, by kernel_rfl, rfl⟩
def r_s_l27Line_0 : List CO := [⟨none, (some 3), (.box 2 (.t 1))⟩, ⟨none, (some 4), (.mv (.k (.v (.string (bs [])))))⟩]
def r_s_l27Line_1 : List CO := [⟨none, (some 5), (.mv (.t 0))⟩, ⟨none, (some 6), (.call n_s_l1Num [(.t 5)])⟩, ⟨none, (some 7), (.bin .add .none (.t 6) (.k (.v (.string (bs [32])))))⟩, ⟨none, (some 8), (.faddr 0 (.t 3))⟩, ⟨none, (some 9), (.ld false 1 (.t 8))⟩, ⟨none, (some 10), (.bin .add .none (.t 7) (.t 9))⟩, ⟨none, (some 11), (.bin .add .none (.t 10) (.k (.v (.string (bs [64])))))⟩, ⟨none, (some 12), (.faddr 1 (.t 3))⟩, ⟨none, (some 13), (.ld false 1 (.t 12))⟩, ⟨none, (some 14), (.bin .add .none (.t 11) (.t 13))⟩, ⟨none, (some 15), (.call n_s_l1Seal [(.t 14)])⟩, ⟨none, (some 16), (.bin .add .none (.t 15) (.k (.v (.string (bs [10])))))⟩, ⟨none, (some 4), (.mv (.t 16))⟩]
def p_s_l27Line_1 : List (List Nat) := [[], [0], [0, 1], [], [3], [0, 1, 2, 3, 4], [0, 1, 2, 3, 4, 5], [], [7], [0, 1, 2, 3, 4, 5, 6, 7, 8], [0, 1, 2, 3, 4, 5, 6, 7, 8, 9], [0, 1, 2, 3, 4, 5, 6, 7, 8, 9, 10], [0, 1, 2, 3, 4, 5, 6, 7, 8, 9, 10, 11]]
/-- loop.example/g00884/spec.l27Line -/
def c_s_l27Line : C := (.seq (.reg r_s_l27Line_0 [0, 3]) (.seq (.regD r_s_l27Line_1 p_s_l27Line_1 [4]) .ret))
def k_s_l27Line : Nat → List Nat
  | 0 => [0, 3]
  | 1 => [4]
  | _ => []
theorem fn_s_l27Line : FnC Tryd.prog n_s_l27Line c_s_l27Line [(.tmp 4)] 17 :=
  ⟨Tryd.f38, _, k_s_l27Line, Tryd.func38, rfl, by kernel_rfl, by kernel_rfl, by kernel_rfl, rfl⟩
def r_i_AppendChecksum_0 : List CO := [⟨none, (some 2), (.mv (.k (.v (.string (bs [])))))⟩, ⟨none, (some 3), (.mv (.k (.v (.bool false))))⟩]
def r_i_AppendChecksum_1 : List CO := [⟨none, (some 5), (.mv (.t 0))⟩, ⟨none, (some 6), (.len true (.t 5))⟩, ⟨none, (some 7), (.bin .gtr .none (.t 6) (.k (.v (.int .i64 (4000)))))⟩, ⟨none, (some 8), (.mv (.t 7))⟩, ⟨(some (8, false)), (some 9), (.mv (.t 0))⟩, ⟨(some (8, false)), (some 10), (.call n_strings_Contains [(.t 9), (.k (.v (.string (bs [35]))))])⟩, ⟨none, (some 11), (.pick (.t 8) (.k (.v (.bool true))) (.t 10))⟩]
def r_i_AppendChecksum_2 : List CO := [⟨none, (some 2), (.mv (.k (.v (.string (bs [])))))⟩, ⟨none, (some 3), (.mv (.k (.v (.bool false))))⟩]
def r_i_AppendChecksum_3 : List CO := [⟨none, (some 12), (.mv (.t 0))⟩, ⟨none, (some 13), (.bin .add .none (.t 12) (.k (.v (.string (bs [35])))))⟩, ⟨none, (some 14), (.mv (.t 0))⟩, ⟨none, (some 15), (.call n_i_checksum [(.t 14)])⟩, ⟨none, (some 16), (.call n_strconv_Itoa [(.t 15)])⟩, ⟨none, (some 17), (.bin .add .none (.t 13) (.t 16))⟩, ⟨none, (some 4), (.mv (.t 17))⟩]
def r_i_AppendChecksum_4 : List CO := [⟨none, (some 18), (.mv (.t 4))⟩, ⟨none, (some 19), (.len true (.t 18))⟩, ⟨none, (some 20), (.bin .gtr .none (.t 19) (.k (.v (.int .i64 (4000)))))⟩]
def r_i_AppendChecksum_5 : List CO := [⟨none, (some 2), (.mv (.k (.v (.string (bs [])))))⟩, ⟨none, (some 3), (.mv (.k (.v (.bool false))))⟩]
def r_i_AppendChecksum_6 : List CO := [⟨none, (some 21), (.mv (.t 4))⟩, ⟨none, (some 2), (.mv (.t 21))⟩, ⟨none, (some 3), (.mv (.k (.v (.bool true))))⟩]
/-- loop.example/g00884/impl.AppendChecksum -/
def c_i_AppendChecksum : C := (.seq (.reg r_i_AppendChecksum_0 [0]) (.seq (.seq (.reg r_i_AppendChecksum_1 [0, 11]) (.cond (.t 11) (.seq (.reg r_i_AppendChecksum_2 [2, 3]) .ret) .skip)) (.seq (.reg r_i_AppendChecksum_3 [4]) (.seq (.seq (.reg r_i_AppendChecksum_4 [4, 20]) (.cond (.t 20) (.seq (.reg r_i_AppendChecksum_5 [2, 3]) .ret) .skip)) (.seq (.reg r_i_AppendChecksum_6 [2, 3]) .ret)))))
def k_i_AppendChecksum : Nat → List Nat
  | 0 => [0]
  | 1 => [0, 11]
  | 2 => [2, 3]
  | 3 => [4]
  | 4 => [4, 20]
  | 5 => [2, 3]
  | 6 => [2, 3]
  | _ => []
theorem fn_i_AppendChecksum : FnC Tryd.prog n_i_AppendChecksum c_i_AppendChecksum [(.tmp 2), (.tmp 3)] 22 :=
  ⟨Tryd.f48, _, k_i_AppendChecksum, Tryd.func48, rfl, by kernel_rfl, by kernel_rfl, by kernel_rfl, rfl⟩
def r_i_encodeRecord_0 : List CO := [⟨none, (some 3), (.box 2 (.t 1))⟩, ⟨none, (some 4), (.mv (.k (.v (.string (bs [])))))⟩]
def r_i_encodeRecord_1 : List CO := [⟨none, (some 8), (.mv (.t 0))⟩, ⟨none, (some 9), (.call n_strconv_Itoa [(.t 8)])⟩, ⟨none, (some 10), (.bin .add .none (.t 9) (.k (.v (.string (bs [32])))))⟩, ⟨none, (some 11), (.faddr 0 (.t 3))⟩, ⟨none, (some 12), (.ld false 1 (.t 11))⟩, ⟨none, (some 13), (.bin .add .none (.t 10) (.t 12))⟩, ⟨none, (some 14), (.bin .add .none (.t 13) (.k (.v (.string (bs [64])))))⟩, ⟨none, (some 15), (.faddr 1 (.t 3))⟩, ⟨none, (some 16), (.ld false 1 (.t 15))⟩, ⟨none, (some 17), (.bin .add .none (.t 14) (.t 16))⟩, ⟨none, (some 18), (.call n_i_AppendChecksum [(.t 17)])⟩, ⟨none, (some 7), (.mv (.t 18))⟩, ⟨none, (some 19), (.ext (.t 7) 0)⟩, ⟨none, (some 20), (.ext (.t 7) 1)⟩, ⟨none, (some 5), (.mv (.t 19))⟩, ⟨none, (some 6), (.mv (.t 20))⟩]
def p_i_encodeRecord_1 : List (List Nat) := [[], [0], [0, 1], [], [3], [0, 1, 2, 3, 4], [0, 1, 2, 3, 4, 5], [], [7], [0, 1, 2, 3, 4, 5, 6, 7, 8], [0, 1, 2, 3, 4, 5, 6, 7, 8, 9], [0, 1, 2, 3, 4, 5, 6, 7, 8, 9, 10], [0, 1, 2, 3, 4, 5, 6, 7, 8, 9, 10, 11], [0, 1, 2, 3, 4, 5, 6, 7, 8, 9, 10, 11], [0, 1, 2, 3, 4, 5, 6, 7, 8, 9, 10, 11, 12], [0, 1, 2, 3, 4, 5, 6, 7, 8, 9, 10, 11, 12, 13, 14]]
def r_i_encodeRecord_2 : List CO := [⟨none, (some 21), (.mv (.t 5))⟩, ⟨none, (some 22), (.bin .add .none (.t 21) (.k (.v (.string (bs [10])))))⟩, ⟨none, (some 4), (.mv (.t 22))⟩]
/-- loop.example/g00884/impl.encodeRecord -/
def c_i_encodeRecord : C := (.seq (.reg r_i_encodeRecord_0 [0, 3]) (.seq (.regD r_i_encodeRecord_1 p_i_encodeRecord_1 [5]) (.seq (.reg r_i_encodeRecord_2 [4]) .ret)))
def k_i_encodeRecord : Nat → List Nat
  | 0 => [0, 3]
  | 1 => [5]
  | 2 => [4]
  | _ => []
theorem fn_i_encodeRecord : FnC Tryd.prog n_i_encodeRecord c_i_encodeRecord [(.tmp 4)] 23 :=
  ⟨Tryd.f36, _, k_i_encodeRecord, Tryd.func36, rfl, by kernel_rfl, by kernel_rfl, by kernel_rfl, rfl⟩
def r_i_EncodeRecord_0 : List CO := [⟨none, (some 3), (.box 2 (.t 1))⟩, ⟨none, (some 4), (.mv (.k (.v (.string (bs [])))))⟩, ⟨none, (some 5), (.mv (.k (.v (.bool false))))⟩]
def r_i_EncodeRecord_1 : List CO := [⟨none, (some 6), (.mv (.t 0))⟩, ⟨none, (some 7), (.call n_i_inside [(.t 6), (.k (.v (.int .i64 (0)))), (.k (.v (.int .i64 (59))))])⟩, ⟨none, (some 8), (.un .not (.t 7))⟩, ⟨none, (some 9), (.mv (.t 8))⟩, ⟨(some (9, false)), (some 10), (.ld true 2 (.t 3))⟩, ⟨(some (9, false)), (some 11), (.call n_i_IsValidRecord [(.t 10)])⟩, ⟨(some (9, false)), (some 12), (.un .not (.t 11))⟩, ⟨none, (some 13), (.pick (.t 9) (.k (.v (.bool true))) (.t 12))⟩]
def r_i_EncodeRecord_2 : List CO := [⟨none, (some 4), (.mv (.k (.v (.string (bs [])))))⟩, ⟨none, (some 5), (.mv (.k (.v (.bool false))))⟩]
def r_i_EncodeRecord_3 : List CO := [⟨none, (some 14), (.mv (.t 0))⟩, ⟨none, (some 15), (.ld true 2 (.t 3))⟩, ⟨none, (some 16), (.call n_i_encodeRecord [(.t 14), (.t 15)])⟩, ⟨none, (some 4), (.mv (.t 16))⟩, ⟨none, (some 5), (.mv (.k (.v (.bool true))))⟩]
/-- loop.example/g00884/impl.EncodeRecord -/
def c_i_EncodeRecord : C := (.seq (.reg r_i_EncodeRecord_0 [0, 3]) (.seq (.seq (.reg r_i_EncodeRecord_1 [0, 3, 13]) (.cond (.t 13) (.seq (.reg r_i_EncodeRecord_2 [4, 5]) .ret) .skip)) (.seq (.reg r_i_EncodeRecord_3 [4, 5]) .ret)))
def k_i_EncodeRecord : Nat → List Nat
  | 0 => [0, 3]
  | 1 => [0, 3, 13]
  | 2 => [4, 5]
  | 3 => [4, 5]
  | _ => []
theorem fn_i_EncodeRecord : FnC Tryd.prog n_i_EncodeRecord c_i_EncodeRecord [(.tmp 4), (.tmp 5)] 17 :=
  ⟨Tryd.f23, _, k_i_EncodeRecord, Tryd.func23, rfl, by kernel_rfl, by kernel_rfl, by kernel_rfl, rfl⟩
def r_s_EncodeRecord_0 : List CO := [⟨none, (some 3), (.box 2 (.t 1))⟩, ⟨none, (some 4), (.mv (.k (.v (.string (bs [])))))⟩, ⟨none, (some 5), (.mv (.k (.v (.bool false))))⟩]
def r_s_EncodeRecord_1 : List CO := [⟨none, (some 6), (.mv (.t 0))⟩, ⟨none, (some 7), (.call n_s_l1In [(.t 6), (.k (.v (.int .i64 (0)))), (.k (.v (.int .i64 (59))))])⟩, ⟨none, (some 8), (.un .not (.t 7))⟩, ⟨none, (some 9), (.mv (.t 8))⟩, ⟨(some (9, false)), (some 10), (.ld true 2 (.t 3))⟩, ⟨(some (9, false)), (some 11), (.call n_s_l27Good [(.t 10)])⟩, ⟨(some (9, false)), (some 12), (.un .not (.t 11))⟩, ⟨none, (some 13), (.pick (.t 9) (.k (.v (.bool true))) (.t 12))⟩]
def r_s_EncodeRecord_2 : List CO := [⟨none, (some 4), (.mv (.k (.v (.string (bs [])))))⟩, ⟨none, (some 5), (.mv (.k (.v (.bool false))))⟩]
def r_s_EncodeRecord_3 : List CO := [⟨none, (some 14), (.mv (.t 0))⟩, ⟨none, (some 15), (.ld true 2 (.t 3))⟩, ⟨none, (some 16), (.call n_s_l27Line [(.t 14), (.t 15)])⟩, ⟨none, (some 4), (.mv (.t 16))⟩, ⟨none, (some 5), (.mv (.k (.v (.bool true))))⟩]
/-- loop.example/g00884/spec.EncodeRecord -/
def c_s_EncodeRecord : C := (.seq (.reg r_s_EncodeRecord_0 [0, 3]) (.seq (.seq (.reg r_s_EncodeRecord_1 [0, 3, 13]) (.cond (.t 13) (.seq (.reg r_s_EncodeRecord_2 [4, 5]) .ret) .skip)) (.seq (.reg r_s_EncodeRecord_3 [4, 5]) .ret)))
def k_s_EncodeRecord : Nat → List Nat
  | 0 => [0, 3]
  | 1 => [0, 3, 13]
  | 2 => [4, 5]
  | 3 => [4, 5]
  | _ => []
theorem fn_s_EncodeRecord : FnC Tryd.prog n_s_EncodeRecord c_s_EncodeRecord [(.tmp 4), (.tmp 5)] 17 :=
  ⟨Tryd.f24, _, k_s_EncodeRecord, Tryd.func24, rfl, by kernel_rfl, by kernel_rfl, by kernel_rfl, rfl⟩
end Go.Proofs.YtgefdcllialhkaaDoor
