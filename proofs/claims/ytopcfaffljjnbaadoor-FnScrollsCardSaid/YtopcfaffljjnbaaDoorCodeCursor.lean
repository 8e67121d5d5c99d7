/- The compact code of the functions, and that it is theirs: written by a program of this claim. -/
import Derived.Test.YtopcfaffljjnbaaDoorNums
namespace Go.Proofs.YtopcfaffljjnbaaDoor
open Go.Abs
set_option maxRecDepth 100000
def r_s_l1Cur_next_0 : List CO := [⟨none, (some 2), (.mv (.k (.v (.int .i64 (0)))))⟩]
def r_s_l1Cur_next_1 : List CO := [⟨none, (some 3), (.mv (.k (.v (.int .i64 (0)))))⟩]
def r_s_l1Cur_next_2 : List CO := [⟨none, (some 4), (.mv (.t 0))⟩, ⟨none, (some 5), (.faddr 0 (.t 4))⟩, ⟨none, (some 6), (.faddr 1 (.t 5))⟩, ⟨none, (some 7), (.ld false 1 (.t 6))⟩, ⟨none, (some 8), (.mv (.t 0))⟩, ⟨none, (some 9), (.faddr 0 (.t 8))⟩, ⟨none, (some 10), (.faddr 0 (.t 9))⟩, ⟨none, (some 11), (.ld false 1 (.t 10))⟩, ⟨none, (some 12), (.len false (.t 11))⟩, ⟨none, (some 13), (.bin .lss .none (.t 7) (.t 12))⟩]
def p_s_l1Cur_next_2 : List (List Nat) := [[], [0], [0, 1], [0, 1, 2], [], [4], [4, 5], [4, 5, 6], [4, 5, 6, 7], [0, 1, 2, 3, 4, 5, 6, 7, 8]]
def r_s_l1Cur_next_3 : List CO := [⟨none, (some 14), (.mv (.t 0))⟩, ⟨none, (some 15), (.faddr 0 (.t 14))⟩, ⟨none, (some 16), (.faddr 0 (.t 15))⟩, ⟨none, (some 17), (.ld false 1 (.t 16))⟩, ⟨none, (some 18), (.mv (.t 0))⟩, ⟨none, (some 19), (.faddr 0 (.t 18))⟩, ⟨none, (some 20), (.faddr 1 (.t 19))⟩, ⟨none, (some 21), (.ld false 1 (.t 20))⟩, ⟨none, (some 22), (.iaddr 1 (.t 17) (.t 21))⟩, ⟨none, (some 23), (.ld false 1 (.t 22))⟩, ⟨none, (some 24), (.conv (.int .i64) (.t 23))⟩, ⟨none, (some 3), (.mv (.t 24))⟩]
def p_s_l1Cur_next_3 : List (List Nat) := [[], [0], [0, 1], [0, 1, 2], [], [4], [4, 5], [4, 5, 6], [0, 1, 2, 3, 4, 5, 6, 7], [0, 1, 2, 3, 4, 5, 6, 7, 8], [0, 1, 2, 3, 4, 5, 6, 7, 8, 9], [0, 1, 2, 3, 4, 5, 6, 7, 8, 9, 10]]
def r_s_l1Cur_next_4 : List CO := [⟨none, (some 25), (.mv (.t 0))⟩, ⟨none, (some 26), (.faddr 0 (.t 25))⟩, ⟨none, (some 27), (.faddr 1 (.t 26))⟩, ⟨none, (some 28), (.ld false 1 (.t 27))⟩, ⟨none, (some 29), (.bin .add .none (.t 28) (.k (.v (.int .i64 (1)))))⟩, ⟨none, (some 30), (.faddr 0 (.t 25))⟩, ⟨none, (some 31), (.faddr 1 (.t 30))⟩, ⟨none, none, (.st 1 (.t 31) (.t 29))⟩]
def r_s_l1Cur_next_5 : List CO := [⟨none, (some 32), (.mv (.t 0))⟩, ⟨none, (some 33), (.mv (.t 0))⟩, ⟨none, (some 34), (.faddr 0 (.t 33))⟩, ⟨none, (some 35), (.faddr 2 (.t 34))⟩, ⟨none, (some 36), (.ld false 1 (.t 35))⟩, ⟨none, (some 37), (.bin .mul .none (.t 36) (.k (.v (.int .u64 (6364136223846793005)))))⟩, ⟨none, (some 38), (.mv (.t 3))⟩, ⟨none, (some 39), (.conv (.int .u64) (.t 38))⟩, ⟨none, (some 40), (.bin .add .none (.t 37) (.t 39))⟩, ⟨none, (some 41), (.bin .add .none (.t 40) (.k (.v (.int .u64 (884884)))))⟩, ⟨none, (some 42), (.faddr 0 (.t 32))⟩, ⟨none, (some 43), (.faddr 2 (.t 42))⟩, ⟨none, none, (.st 1 (.t 43) (.t 41))⟩]
def r_s_l1Cur_next_6 : List CO := [⟨none, (some 44), (.mv (.t 0))⟩, ⟨none, (some 45), (.faddr 0 (.t 44))⟩, ⟨none, (some 46), (.faddr 1 (.t 45))⟩, ⟨none, (some 47), (.ld false 1 (.t 46))⟩, ⟨none, (some 48), (.mv (.t 0))⟩, ⟨none, (some 49), (.faddr 0 (.t 48))⟩, ⟨none, (some 50), (.faddr 0 (.t 49))⟩, ⟨none, (some 51), (.ld false 1 (.t 50))⟩, ⟨none, (some 52), (.len false (.t 51))⟩, ⟨none, (some 53), (.bin .leq .none (.t 47) (.t 52))⟩]
def p_s_l1Cur_next_6 : List (List Nat) := [[], [0], [0, 1], [0, 1, 2], [], [4], [4, 5], [4, 5, 6], [4, 5, 6, 7], [0, 1, 2, 3, 4, 5, 6, 7, 8]]
def r_s_l1Cur_next_7 : List CO := [⟨none, (some 54), (.mv (.t 3))⟩, ⟨none, (some 2), (.mv (.t 54))⟩]
def r_s_l1Cur_next_8 : List CO := [⟨none, (some 55), (.mv (.t 0))⟩, ⟨none, (some 56), (.faddr 0 (.t 55))⟩, ⟨none, (some 57), (.faddr 2 (.t 56))⟩, ⟨none, (some 58), (.ld false 1 (.t 57))⟩, ⟨none, (some 59), (.bin .shr .none (.t 58) (.k (.v (.int .u64 (40)))))⟩, ⟨none, (some 60), (.bin .and .none (.t 59) (.k (.v (.int .u64 (255)))))⟩, ⟨none, (some 61), (.conv (.int .i64) (.t 60))⟩, ⟨none, (some 2), (.mv (.t 61))⟩]
/-- (*loop.example/g00884/spec.l1Cur).next -/
def c_s_l1Cur_next : C := (.seq (.reg r_s_l1Cur_next_0 [0]) (.seq (.reg r_s_l1Cur_next_1 [0, 3]) (.seq (.seq (.regD r_s_l1Cur_next_2 p_s_l1Cur_next_2 [0, 3, 13]) (.cond (.t 13) (.regD r_s_l1Cur_next_3 p_s_l1Cur_next_3 [0, 3]) .skip)) (.seq (.reg r_s_l1Cur_next_4 [0, 3]) (.seq (.reg r_s_l1Cur_next_5 [0, 3]) (.seq (.seq (.regD r_s_l1Cur_next_6 p_s_l1Cur_next_6 [0, 3, 53]) (.cond (.t 53) (.seq (.reg r_s_l1Cur_next_7 [2]) .ret) .skip)) (.seq (.reg r_s_l1Cur_next_8 [2]) .ret)))))))
def k_s_l1Cur_next : Nat → List Nat
  | 0 => [0]
  | 1 => [0, 3]
  | 2 => [0, 3, 13]
  | 3 => [0, 3]
  | 4 => [0, 3]
  | 5 => [0, 3]
  | 6 => [0, 3, 53]
  | 7 => [2]
  | 8 => [2]
  | _ => []
theorem fn_s_l1Cur_next : FnC Tryd.prog n_s_l1Cur_next c_s_l1Cur_next [(.tmp 2)] 62 :=
  ⟨Tryd.f76, _, k_s_l1Cur_next, Tryd.func76, rfl, by kernel_rfl, by kernel_rfl, by kernel_rfl, rfl⟩
def r_s_l1Cur_pick_0 : List CO := [⟨none, (some 4), (.mv (.k (.v (.int .i64 (0)))))⟩]
def r_s_l1Cur_pick_1 : List CO := [⟨none, (some 6), (.mv (.t 1))⟩, ⟨none, (some 7), (.bin .leq .none (.t 6) (.k (.v (.int .i64 (1)))))⟩]
def r_s_l1Cur_pick_2 : List CO := [⟨none, (some 4), (.mv (.k (.v (.int .i64 (0)))))⟩]
def r_s_l1Cur_pick_3 : List CO := [⟨none, (some 8), (.mv (.t 0))⟩, ⟨none, (some 9), (.call n_s_l1Cur_next [(.t 8)])⟩, ⟨none, (some 5), (.mv (.t 9))⟩]
def r_s_l1Cur_pick_4 : List CO := [⟨none, (some 10), (.mv (.t 1))⟩, ⟨none, (some 11), (.bin .gtr .none (.t 10) (.k (.v (.int .i64 (200)))))⟩]
def r_s_l1Cur_pick_5 : List CO := [⟨none, (some 12), (.mv (.t 5))⟩, ⟨none, (some 13), (.bin .mul .none (.t 12) (.k (.v (.int .i64 (256)))))⟩, ⟨none, (some 14), (.mv (.t 0))⟩, ⟨none, (some 15), (.call n_s_l1Cur_next [(.t 14)])⟩, ⟨none, (some 16), (.bin .add .none (.t 13) (.t 15))⟩, ⟨none, (some 5), (.mv (.t 16))⟩]
def r_s_l1Cur_pick_6 : List CO := [⟨none, (some 17), (.mv (.t 5))⟩, ⟨none, (some 18), (.mv (.t 1))⟩, ⟨none, (some 19), (.bin .rem .none (.t 17) (.t 18))⟩, ⟨none, (some 4), (.mv (.t 19))⟩]
/-- (*loop.example/g00884/spec.l1Cur).pick -/
def c_s_l1Cur_pick : C := (.seq (.reg r_s_l1Cur_pick_0 [0, 1]) (.seq (.seq (.reg r_s_l1Cur_pick_1 [0, 1, 7]) (.cond (.t 7) (.seq (.reg r_s_l1Cur_pick_2 [4]) .ret) .skip)) (.seq (.reg r_s_l1Cur_pick_3 [0, 1, 5]) (.seq (.seq (.reg r_s_l1Cur_pick_4 [0, 1, 5, 11]) (.cond (.t 11) (.reg r_s_l1Cur_pick_5 [1, 5]) .skip)) (.seq (.reg r_s_l1Cur_pick_6 [4]) .ret)))))
def k_s_l1Cur_pick : Nat → List Nat
  | 0 => [0, 1]
  | 1 => [0, 1, 7]
  | 2 => [4]
  | 3 => [0, 1, 5]
  | 4 => [0, 1, 5, 11]
  | 5 => [1, 5]
  | 6 => [4]
  | _ => []
theorem fn_s_l1Cur_pick : FnC Tryd.prog n_s_l1Cur_pick c_s_l1Cur_pick [(.tmp 4)] 20 :=
  ⟨Tryd.f56, _, k_s_l1Cur_pick, Tryd.func56, rfl, by kernel_rfl, by kernel_rfl, by kernel_rfl, rfl⟩
def r_s_l1Cur_among_0 : List CO := [⟨none, (some 4), (.mv (.k (.v (.int .i64 (0)))))⟩]
def r_s_l1Cur_among_1 : List CO := [⟨none, (some 5), (.mv (.t 1))⟩, ⟨none, (some 6), (.mv (.t 0))⟩, ⟨none, (some 7), (.mv (.t 1))⟩, ⟨none, (some 8), (.len false (.t 7))⟩, ⟨none, (some 9), (.call n_s_l1Cur_pick [(.t 6), (.t 8)])⟩, ⟨none, (some 10), (.iaddr 1 (.t 5) (.t 9))⟩, ⟨none, (some 11), (.ld false 1 (.t 10))⟩, ⟨none, (some 4), (.mv (.t 11))⟩]
/-- (*loop.example/g00884/spec.l1Cur).among -/
def c_s_l1Cur_among : C := (.seq (.reg r_s_l1Cur_among_0 [0, 1]) (.seq (.reg r_s_l1Cur_among_1 [4]) .ret))
def k_s_l1Cur_among : Nat → List Nat
  | 0 => [0, 1]
  | 1 => [4]
  | _ => []
theorem fn_s_l1Cur_among : FnC Tryd.prog n_s_l1Cur_among c_s_l1Cur_among [(.tmp 4)] 12 :=
  ⟨Tryd.f59, _, k_s_l1Cur_among, Tryd.func59, rfl, by kernel_rfl, by kernel_rfl, by kernel_rfl, rfl⟩
end Go.Proofs.YtopcfaffljjnbaaDoor
