/- The compact code of the functions, and that it is theirs: written by a program of this claim. -/
import Derived.Test.YtbeoijlggphklaaGreatNums
namespace Go.Proofs.YtbeoijlggphklaaGreat
open Go.Abs
set_option maxRecDepth 100000
def r_i_Arms_pieces_0 : List CO := [⟨none, (some 1), (.box 15 (.t 0))⟩, ⟨none, (some 2), (.box 5 (.k (.agg [(.v (.string (bs []))), (.v (.string (bs []))), (.v (.string (bs []))), (.v (.string (bs []))), (.v (.bool false))])))⟩]
def r_i_Arms_pieces_1 : List CO := [⟨none, (some 4), (.faddr 0 (.t 1))⟩, ⟨none, (some 5), (.ld true 4 (.t 4))⟩, ⟨none, (some 6), (.call n_i_Field_text [(.t 5)])⟩, ⟨none, (some 7), (.faddr 4 (.t 1))⟩, ⟨none, (some 8), (.ld false 1 (.t 7))⟩, ⟨none, (some 9), (.bin .eql .none (.t 8) (.k (.v (.int .i64 (7)))))⟩, ⟨none, (some 10), (.build (.agg [(.v (.string (bs []))), (.v (.string (bs []))), (.v (.string (bs []))), (.v (.string (bs []))), (.v (.bool false))]) [(0, (1, (.t 6))), (4, (1, (.t 9)))])⟩, ⟨none, (some 3), (.box 5 (.k (.agg [(.v (.string (bs []))), (.v (.string (bs []))), (.v (.string (bs []))), (.v (.string (bs []))), (.v (.bool false))])))⟩, ⟨none, none, (.st 5 (.t 3) (.t 10))⟩]
def p_i_Arms_pieces_1 : List (List Nat) := [[], [0], [0, 1], [], [3], [3, 4], [0, 1, 2, 3, 4, 5], [], [0, 1, 2, 3, 4, 5, 6, 7]]
def r_i_Arms_pieces_2 : List CO := [⟨none, (some 11), (.faddr 4 (.t 1))⟩, ⟨none, (some 12), (.ld false 1 (.t 11))⟩, ⟨none, (some 13), (.bin .neq .none (.t 12) (.k (.v (.int .i64 (0)))))⟩]
def r_i_Arms_pieces_3 : List CO := [⟨none, (some 14), (.faddr 4 (.t 1))⟩, ⟨none, (some 15), (.ld false 1 (.t 14))⟩, ⟨none, (some 16), (.faddr 5 (.t 1))⟩, ⟨none, (some 17), (.ld false 1 (.t 16))⟩, ⟨none, (some 18), (.call n_i_ordinaryStart [(.t 15), (.t 17)])⟩, ⟨none, (some 19), (.bin .add .none (.t 18) (.k (.v (.string (bs [32])))))⟩, ⟨none, (some 20), (.faddr 6 (.t 1))⟩, ⟨none, (some 21), (.ld false 1 (.t 20))⟩, ⟨none, (some 22), (.call n_i_tincture [(.t 21)])⟩, ⟨none, (some 23), (.bin .add .none (.t 19) (.t 22))⟩, ⟨none, (some 24), (.faddr 1 (.t 3))⟩, ⟨none, none, (.st 1 (.t 24) (.t 23))⟩]
def p_i_Arms_pieces_3 : List (List Nat) := [[], [0], [], [2], [0, 1, 2, 3], [0, 1, 2, 3, 4], [], [6], [0, 1, 2, 3, 4, 6, 7], [0, 1, 2, 3, 4, 5, 6, 7, 8], [0, 1, 2, 3, 4, 5, 6, 7, 8, 9], [0, 1, 2, 3, 4, 5, 6, 7, 8, 9, 10]]
def r_i_Arms_pieces_4 : List CO := [⟨none, (some 25), (.faddr 7 (.t 1))⟩, ⟨none, (some 26), (.ld true 4 (.t 25))⟩, ⟨none, (some 27), (.build (.agg [(.v (.int .i64 (0))), (.v (.int .i64 (0))), (.v (.int .i64 (0))), (.v (.int .i64 (0)))]) [])⟩, ⟨none, (some 28), (.bin .neq (.struct [EK.int, EK.int, EK.int, EK.int]) (.t 26) (.t 27))⟩]
def r_i_Arms_pieces_5 : List CO := [⟨none, (some 29), (.faddr 7 (.t 1))⟩, ⟨none, (some 30), (.ld true 4 (.t 29))⟩, ⟨none, (some 31), (.call n_i_Group_text [(.t 30)])⟩, ⟨none, (some 32), (.faddr 2 (.t 3))⟩, ⟨none, none, (.st 1 (.t 32) (.t 31))⟩]
def r_i_Arms_pieces_6 : List CO := [⟨none, (some 33), (.faddr 11 (.t 1))⟩, ⟨none, (some 34), (.ld true 4 (.t 33))⟩, ⟨none, (some 35), (.build (.agg [(.v (.int .i64 (0))), (.v (.int .i64 (0))), (.v (.int .i64 (0))), (.v (.int .i64 (0)))]) [])⟩, ⟨none, (some 36), (.bin .neq (.struct [EK.int, EK.int, EK.int, EK.int]) (.t 34) (.t 35))⟩]
def r_i_Arms_pieces_7 : List CO := [⟨none, (some 37), (.faddr 11 (.t 1))⟩, ⟨none, (some 38), (.ld true 4 (.t 37))⟩, ⟨none, (some 39), (.call n_i_Group_text [(.t 38)])⟩, ⟨none, (some 40), (.faddr 3 (.t 3))⟩, ⟨none, none, (.st 1 (.t 40) (.t 39))⟩]
def r_i_Arms_pieces_8 : List CO := [⟨none, (some 41), (.ld true 5 (.t 3))⟩, ⟨none, none, (.st 5 (.t 2) (.t 41))⟩]
/-- (loop.example/g00884/impl.Arms).pieces -/
def c_i_Arms_pieces : C := (.seq (.reg r_i_Arms_pieces_0 [1, 2]) (.seq (.regD r_i_Arms_pieces_1 p_i_Arms_pieces_1 [1, 2, 3]) (.seq (.seq (.wk (.reg r_i_Arms_pieces_2 [1, 2, 3, 13])) (.cond (.t 13) (.regD r_i_Arms_pieces_3 p_i_Arms_pieces_3 [1, 2, 3]) .skip)) (.seq (.seq (.wk (.reg r_i_Arms_pieces_4 [1, 2, 3, 28])) (.cond (.t 28) (.reg r_i_Arms_pieces_5 [1, 2, 3]) .skip)) (.seq (.seq (.wk (.reg r_i_Arms_pieces_6 [1, 2, 3, 36])) (.cond (.t 36) (.reg r_i_Arms_pieces_7 [2, 3]) .skip)) (.seq (.wk (.reg r_i_Arms_pieces_8 [2])) .ret))))))
def k_i_Arms_pieces : Nat → List Nat
  | 0 => [1, 2]
  | 1 => [1, 2, 3]
  | 2 => [999999, 1, 2, 3, 13]
  | 3 => [1, 2, 3]
  | 4 => [999999, 1, 2, 3, 28]
  | 5 => [1, 2, 3]
  | 6 => [999999, 1, 2, 3, 36]
  | 7 => [2, 3]
  | 8 => [999999, 2]
  | _ => []
theorem fn_i_Arms_pieces : FnC Tryz.prog n_i_Arms_pieces c_i_Arms_pieces [(.cell 2 true 5)] 42 :=
  ⟨Tryz.f53, _, k_i_Arms_pieces, Tryz.func53, rfl, by kernel_rfl, by kernel_rfl, by kernel_rfl, rfl⟩
def r_i_Arms_text_0 : List CO := [⟨none, (some 1), (.box 15 (.t 0))⟩, ⟨none, (some 2), (.mv (.k (.v (.string (bs [])))))⟩]
def r_i_Arms_text_1 : List CO := [⟨none, (some 3), (.ld true 15 (.t 1))⟩, ⟨none, (some 4), (.call n_i_Arms_pieces [(.t 3)])⟩, ⟨none, (some 5), (.call n_i_pieces_joined [(.t 4)])⟩, ⟨none, (some 2), (.mv (.t 5))⟩]
/-- (loop.example/g00884/impl.Arms).text -/
def c_i_Arms_text : C := (.seq (.reg r_i_Arms_text_0 [1]) (.seq (.reg r_i_Arms_text_1 [2]) .ret))
def k_i_Arms_text : Nat → List Nat
  | 0 => [1]
  | 1 => [2]
  | _ => []
theorem fn_i_Arms_text : FnC Tryz.prog n_i_Arms_text c_i_Arms_text [(.tmp 2)] 6 :=
  ⟨Tryz.f38, _, k_i_Arms_text, Tryz.func38, rfl, by kernel_rfl, by kernel_rfl, by kernel_rfl, rfl⟩
end Go.Proofs.YtbeoijlggphklaaGreat
