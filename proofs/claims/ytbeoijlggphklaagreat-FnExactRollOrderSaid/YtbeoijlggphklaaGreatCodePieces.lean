/- The compact code of the functions, and that it is theirs: written by a program of this claim. -/
import Derived.Test.YtbeoijlggphklaaGreatNums
namespace Go.Proofs.YtbeoijlggphklaaGreat
open Go.Abs
set_option maxRecDepth 100000
def r_i_pieces_joined_0 : List CO := [⟨none, (some 1), (.box 5 (.t 0))⟩, ⟨none, (some 2), (.mv (.k (.v (.string (bs [])))))⟩]
def r_i_pieces_joined_1 : List CO := [⟨none, (some 4), (.faddr 0 (.t 1))⟩, ⟨none, (some 5), (.ld false 1 (.t 4))⟩, ⟨none, (some 3), (.mv (.t 5))⟩]
def r_i_pieces_joined_2 : List CO := [⟨none, (some 7), (.faddr 1 (.t 1))⟩, ⟨none, (some 8), (.ld false 1 (.t 7))⟩, ⟨none, (some 9), (.bin .eql .none (.t 8) (.k (.v (.string (bs [])))))⟩, ⟨none, (some 10), (.mv (.t 9))⟩, ⟨(some (10, true)), (some 11), (.faddr 3 (.t 1))⟩, ⟨(some (10, true)), (some 12), (.ld false 1 (.t 11))⟩, ⟨(some (10, true)), (some 13), (.bin .eql .none (.t 12) (.k (.v (.string (bs [])))))⟩, ⟨none, (some 14), (.pick (.t 10) (.t 13) (.k (.v (.bool false))))⟩, ⟨none, (some 6), (.mv (.t 14))⟩]
def r_i_pieces_joined_3 : List CO := [⟨none, (some 15), (.mv (.t 3))⟩, ⟨none, (some 2), (.mv (.t 15))⟩]
def r_i_pieces_joined_4 : List CO := [⟨none, (some 17), (.faddr 1 (.t 1))⟩, ⟨none, (some 18), (.ld false 1 (.t 17))⟩, ⟨none, (some 19), (.bin .eql .none (.t 18) (.k (.v (.string (bs [])))))⟩, ⟨none, (some 16), (.mv (.t 19))⟩]
def r_i_pieces_joined_5 : List CO := [⟨none, (some 20), (.mv (.t 3))⟩, ⟨none, (some 21), (.bin .add .none (.t 20) (.k (.v (.string (bs [44, 32])))))⟩, ⟨none, (some 22), (.faddr 3 (.t 1))⟩, ⟨none, (some 23), (.ld false 1 (.t 22))⟩, ⟨none, (some 24), (.bin .add .none (.t 21) (.t 23))⟩, ⟨none, (some 2), (.mv (.t 24))⟩]
def r_i_pieces_joined_6 : List CO := [⟨none, (some 25), (.mv (.t 3))⟩, ⟨none, (some 26), (.faddr 1 (.t 1))⟩, ⟨none, (some 27), (.ld false 1 (.t 26))⟩, ⟨none, (some 28), (.bin .add .none (.k (.v (.string (bs [44, 32])))) (.t 27))⟩, ⟨none, (some 29), (.bin .add .none (.t 25) (.t 28))⟩, ⟨none, (some 3), (.mv (.t 29))⟩]
def r_i_pieces_joined_7 : List CO := [⟨none, (some 30), (.faddr 2 (.t 1))⟩, ⟨none, (some 31), (.ld false 1 (.t 30))⟩, ⟨none, (some 32), (.bin .neq .none (.t 31) (.k (.v (.string (bs [])))))⟩]
def r_i_pieces_joined_8 : List CO := [⟨none, (some 33), (.mv (.t 3))⟩, ⟨none, (some 34), (.faddr 2 (.t 1))⟩, ⟨none, (some 35), (.ld false 1 (.t 34))⟩, ⟨none, (some 36), (.bin .add .none (.k (.v (.string (bs [32, 99, 104, 97, 114, 103, 101, 100, 32, 119, 105, 116, 104, 32])))) (.t 35))⟩, ⟨none, (some 37), (.bin .add .none (.t 33) (.t 36))⟩, ⟨none, (some 3), (.mv (.t 37))⟩]
def r_i_pieces_joined_9 : List CO := [⟨none, (some 39), (.faddr 3 (.t 1))⟩, ⟨none, (some 40), (.ld false 1 (.t 39))⟩, ⟨none, (some 41), (.bin .eql .none (.t 40) (.k (.v (.string (bs [])))))⟩, ⟨none, (some 38), (.mv (.t 41))⟩]
def r_i_pieces_joined_10 : List CO := [⟨none, (some 42), (.mv (.t 3))⟩, ⟨none, (some 2), (.mv (.t 42))⟩]
def r_i_pieces_joined_11 : List CO := [⟨none, (some 44), (.faddr 4 (.t 1))⟩, ⟨none, (some 45), (.ld false 1 (.t 44))⟩, ⟨none, (some 43), (.mv (.t 45))⟩]
def r_i_pieces_joined_12 : List CO := [⟨none, (some 46), (.mv (.t 3))⟩, ⟨none, (some 47), (.bin .add .none (.t 46) (.k (.v (.string (bs [32, 97, 98, 111, 118, 101, 32])))))⟩, ⟨none, (some 48), (.faddr 3 (.t 1))⟩, ⟨none, (some 49), (.ld false 1 (.t 48))⟩, ⟨none, (some 50), (.bin .add .none (.t 47) (.t 49))⟩, ⟨none, (some 2), (.mv (.t 50))⟩]
def r_i_pieces_joined_13 : List CO := [⟨none, (some 51), (.mv (.t 3))⟩, ⟨none, (some 52), (.bin .add .none (.t 51) (.k (.v (.string (bs [32, 98, 101, 116, 119, 101, 101, 110, 32])))))⟩, ⟨none, (some 53), (.faddr 3 (.t 1))⟩, ⟨none, (some 54), (.ld false 1 (.t 53))⟩, ⟨none, (some 55), (.bin .add .none (.t 52) (.t 54))⟩, ⟨none, (some 2), (.mv (.t 55))⟩]
/-- (loop.example/g00884/impl.pieces).joined -/
def c_i_pieces_joined : C := (.seq (.reg r_i_pieces_joined_0 [1]) (.seq (.reg r_i_pieces_joined_1 [1, 3]) (.seq (.block 0 (.seq (.reg r_i_pieces_joined_2 [1, 3, 6]) (.cond (.t 6) (.seq (.reg r_i_pieces_joined_3 [2]) .ret) (.seq (.reg r_i_pieces_joined_4 [1, 3, 16]) (.cond (.t 16) (.seq (.reg r_i_pieces_joined_5 [2]) .ret) .skip))))) (.seq (.reg r_i_pieces_joined_6 [1, 3]) (.seq (.seq (.reg r_i_pieces_joined_7 [1, 3, 32]) (.cond (.t 32) (.reg r_i_pieces_joined_8 [1, 3]) .skip)) (.seq (.block 1 (.seq (.reg r_i_pieces_joined_9 [1, 3, 38]) (.cond (.t 38) (.seq (.reg r_i_pieces_joined_10 [2]) .ret) (.seq (.reg r_i_pieces_joined_11 [1, 3, 43]) (.cond (.t 43) (.seq (.reg r_i_pieces_joined_12 [2]) .ret) .skip))))) (.seq (.reg r_i_pieces_joined_13 [2]) .ret)))))))
def k_i_pieces_joined : Nat → List Nat
  | 0 => [1]
  | 1 => [1, 3]
  | 2 => [1, 3, 6]
  | 3 => [2]
  | 4 => [1, 3, 16]
  | 5 => [2]
  | 6 => [1, 3]
  | 7 => [1, 3, 32]
  | 8 => [1, 3]
  | 9 => [1, 3, 38]
  | 10 => [2]
  | 11 => [1, 3, 43]
  | 12 => [2]
  | 13 => [2]
  | _ => []
theorem fn_i_pieces_joined : FnC Tryz.prog n_i_pieces_joined c_i_pieces_joined [(.tmp 2)] 56 :=
  ⟨Tryz.f54, _, k_i_pieces_joined, Tryz.func54, rfl, by kernel_rfl, by kernel_rfl, by kernel_rfl, rfl⟩
end Go.Proofs.YtbeoijlggphklaaGreat
