/- The compact code of the functions, and that it is theirs: written by a program of this claim. -/
import Derived.Test.YtopcfaffljjnbaaDoorNums
namespace Go.Proofs.YtopcfaffljjnbaaDoor
open Go.Abs
set_option maxRecDepth 100000
def r_s_l1Cur_of_0 : List CO := [⟨none, (some 4), (.mv (.k (.v (.string (bs [])))))⟩]
def r_s_l1Cur_of_1 : List CO := [⟨none, (some 5), (.mv (.t 1))⟩, ⟨none, (some 6), (.mv (.t 0))⟩, ⟨none, (some 7), (.mv (.t 1))⟩, ⟨none, (some 8), (.len false (.t 7))⟩, ⟨none, (some 9), (.call n_s_l1Cur_pick [(.t 6), (.t 8)])⟩, ⟨none, (some 10), (.iaddr 1 (.t 5) (.t 9))⟩, ⟨none, (some 11), (.ld false 1 (.t 10))⟩, ⟨none, (some 4), (.mv (.t 11))⟩]
/-- (*loop.example/g00884/spec.l1Cur).of -/
def c_s_l1Cur_of : C := (.seq (.reg r_s_l1Cur_of_0 [0, 1]) (.seq (.reg r_s_l1Cur_of_1 [4]) .ret))
def k_s_l1Cur_of : Nat → List Nat
  | 0 => [0, 1]
  | 1 => [4]
  | _ => []
theorem fn_s_l1Cur_of : FnC Tryd.prog n_s_l1Cur_of c_s_l1Cur_of [(.tmp 4)] 12 :=
  ⟨Tryd.f57, _, k_s_l1Cur_of, Tryd.func57, rfl, by kernel_rfl, by kernel_rfl, by kernel_rfl, rfl⟩
def r_s_l1Cur_spoilt_0 : List CO := [⟨none, (some 6), (.mv (.k (.v (.string (bs [])))))⟩]
def r_s_l1Cur_spoilt_1 : List CO := [⟨none, (some 9), (.mv (.t 1))⟩, ⟨none, (some 10), (.bin .eql .none (.t 9) (.k (.v (.string (bs [])))))⟩]
def r_s_l1Cur_spoilt_2 : List CO := [⟨none, (some 11), (.mv (.t 2))⟩, ⟨none, (some 12), (.slc none (.t 11) none (some (.k (.v (.int .i64 (1))))))⟩, ⟨none, (some 6), (.mv (.t 12))⟩]
def r_s_l1Cur_spoilt_3 : List CO := [⟨none, (some 13), (.mv (.t 0))⟩, ⟨none, (some 14), (.mv (.t 1))⟩, ⟨none, (some 15), (.len true (.t 14))⟩, ⟨none, (some 16), (.call n_s_l1Cur_pick [(.t 13), (.t 15)])⟩, ⟨none, (some 7), (.mv (.t 16))⟩]
def r_s_l1Cur_spoilt_4 : List CO := [⟨none, (some 17), (.mv (.t 2))⟩, ⟨none, (some 18), (.mv (.t 0))⟩, ⟨none, (some 19), (.mv (.t 2))⟩, ⟨none, (some 20), (.len true (.t 19))⟩, ⟨none, (some 21), (.call n_s_l1Cur_pick [(.t 18), (.t 20)])⟩, ⟨none, (some 22), (.slc none (.t 17) (some (.t 21)) none)⟩, ⟨none, (some 23), (.slc none (.t 22) none (some (.k (.v (.int .i64 (1))))))⟩, ⟨none, (some 8), (.mv (.t 23))⟩]
def r_s_l1Cur_spoilt_5 : List CO := [⟨none, (some 24), (.mv (.t 0))⟩, ⟨none, (some 25), (.call n_s_l1Cur_pick [(.t 24), (.k (.v (.int .i64 (3))))])⟩]
def r_s_l1Cur_spoilt_6 : List CO := [⟨none, (some 27), (.bin .eql .none (.t 25) (.k (.v (.int .i64 (0)))))⟩, ⟨none, (some 26), (.mv (.t 27))⟩]
def r_s_l1Cur_spoilt_7 : List CO := [⟨none, (some 28), (.mv (.t 1))⟩, ⟨none, (some 29), (.mv (.t 7))⟩, ⟨none, (some 30), (.slc none (.t 28) none (some (.t 29)))⟩, ⟨none, (some 31), (.mv (.t 8))⟩, ⟨none, (some 32), (.bin .add .none (.t 30) (.t 31))⟩, ⟨none, (some 33), (.mv (.t 1))⟩, ⟨none, (some 34), (.mv (.t 7))⟩, ⟨none, (some 35), (.slc none (.t 33) (some (.t 34)) none)⟩, ⟨none, (some 36), (.bin .add .none (.t 32) (.t 35))⟩, ⟨none, (some 6), (.mv (.t 36))⟩]
def p_s_l1Cur_spoilt_7 : List (List Nat) := [[], [], [0, 1], [], [0, 1, 2, 3], [], [], [5, 6], [0, 1, 2, 3, 4, 5, 6, 7], [0, 1, 2, 3, 4, 5, 6, 7, 8]]
def r_s_l1Cur_spoilt_8 : List CO := [⟨none, (some 38), (.bin .eql .none (.t 25) (.k (.v (.int .i64 (1)))))⟩, ⟨none, (some 37), (.mv (.t 38))⟩]
def r_s_l1Cur_spoilt_9 : List CO := [⟨none, (some 39), (.mv (.t 1))⟩, ⟨none, (some 40), (.mv (.t 7))⟩, ⟨none, (some 41), (.slc none (.t 39) none (some (.t 40)))⟩, ⟨none, (some 42), (.mv (.t 8))⟩, ⟨none, (some 43), (.bin .add .none (.t 41) (.t 42))⟩, ⟨none, (some 44), (.mv (.t 1))⟩, ⟨none, (some 45), (.mv (.t 7))⟩, ⟨none, (some 46), (.bin .add .none (.t 45) (.k (.v (.int .i64 (1)))))⟩, ⟨none, (some 47), (.slc none (.t 44) (some (.t 46)) none)⟩, ⟨none, (some 48), (.bin .add .none (.t 43) (.t 47))⟩, ⟨none, (some 6), (.mv (.t 48))⟩]
def p_s_l1Cur_spoilt_9 : List (List Nat) := [[], [], [0, 1], [], [0, 1, 2, 3], [], [], [6], [5, 6, 7], [0, 1, 2, 3, 4, 5, 6, 7, 8], [0, 1, 2, 3, 4, 5, 6, 7, 8, 9]]
def r_s_l1Cur_spoilt_10 : List CO := [⟨none, (some 49), (.mv (.t 1))⟩, ⟨none, (some 50), (.mv (.t 7))⟩, ⟨none, (some 51), (.slc none (.t 49) none (some (.t 50)))⟩, ⟨none, (some 52), (.mv (.t 1))⟩, ⟨none, (some 53), (.mv (.t 7))⟩, ⟨none, (some 54), (.bin .add .none (.t 53) (.k (.v (.int .i64 (1)))))⟩, ⟨none, (some 55), (.slc none (.t 52) (some (.t 54)) none)⟩, ⟨none, (some 56), (.bin .add .none (.t 51) (.t 55))⟩, ⟨none, (some 6), (.mv (.t 56))⟩]
def p_s_l1Cur_spoilt_10 : List (List Nat) := [[], [], [0, 1], [], [], [4], [3, 4, 5], [0, 1, 2, 3, 4, 5, 6], [0, 1, 2, 3, 4, 5, 6, 7]]
/-- (*loop.example/g00884/spec.l1Cur).spoilt -/
def c_s_l1Cur_spoilt : C := (.seq (.reg r_s_l1Cur_spoilt_0 [0, 1, 2]) (.seq (.seq (.reg r_s_l1Cur_spoilt_1 [0, 1, 2, 10]) (.cond (.t 10) (.seq (.reg r_s_l1Cur_spoilt_2 [6]) .ret) .skip)) (.seq (.reg r_s_l1Cur_spoilt_3 [0, 1, 2, 7]) (.seq (.reg r_s_l1Cur_spoilt_4 [0, 1, 7, 8]) (.seq (.seq (.reg r_s_l1Cur_spoilt_5 [1, 7, 8, 25]) (.block 0 (.seq (.reg r_s_l1Cur_spoilt_6 [1, 7, 8, 25, 26]) (.cond (.t 26) (.seq (.regD r_s_l1Cur_spoilt_7 p_s_l1Cur_spoilt_7 [6]) .ret) (.seq (.reg r_s_l1Cur_spoilt_8 [1, 7, 8, 37]) (.cond (.t 37) (.seq (.regD r_s_l1Cur_spoilt_9 p_s_l1Cur_spoilt_9 [6]) .ret) .skip)))))) (.seq (.regD r_s_l1Cur_spoilt_10 p_s_l1Cur_spoilt_10 [6]) .ret))))))
def k_s_l1Cur_spoilt : Nat → List Nat
  | 0 => [0, 1, 2]
  | 1 => [0, 1, 2, 10]
  | 2 => [6]
  | 3 => [0, 1, 2, 7]
  | 4 => [0, 1, 7, 8]
  | 5 => [1, 7, 8, 25]
  | 6 => [1, 7, 8, 25, 26]
  | 7 => [6]
  | 8 => [1, 7, 8, 37]
  | 9 => [6]
  | 10 => [6]
  | _ => []
theorem fn_s_l1Cur_spoilt : FnC Tryd.prog n_s_l1Cur_spoilt c_s_l1Cur_spoilt [(.tmp 6)] 57 :=
  ⟨Tryd.f58, _, k_s_l1Cur_spoilt, Tryd.func58, rfl, by kernel_rfl, by kernel_rfl, by kernel_rfl, rfl⟩
end Go.Proofs.YtopcfaffljjnbaaDoor
