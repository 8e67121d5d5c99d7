/- The compact code of the functions, and that it is theirs: written by a program of this claim. -/
import Derived.Test.YtbeoijlggphklaaGreatNums
namespace Go.Proofs.YtbeoijlggphklaaGreat
open Go.Abs
set_option maxRecDepth 100000
def r_i_Field_text_0 : List CO := [⟨none, (some 1), (.box 4 (.t 0))⟩, ⟨none, (some 2), (.mv (.k (.v (.string (bs [])))))⟩]
def r_i_Field_text_1 : List CO := [⟨none, (some 3), (.faddr 0 (.t 1))⟩, ⟨none, (some 4), (.ld false 1 (.t 3))⟩, ⟨none, (some 5), (.bin .eql .none (.t 4) (.k (.v (.int .i64 (0)))))⟩]
def r_i_Field_text_2 : List CO := [⟨none, (some 6), (.faddr 2 (.t 1))⟩, ⟨none, (some 7), (.ld false 1 (.t 6))⟩, ⟨none, (some 8), (.call n_i_tincture [(.t 7)])⟩, ⟨none, (some 2), (.mv (.t 8))⟩]
def r_i_Field_text_3 : List CO := [⟨none, (some 9), (.call n_i_divisionWords [])⟩, ⟨none, (some 10), (.faddr 0 (.t 1))⟩, ⟨none, (some 11), (.ld false 1 (.t 10))⟩, ⟨none, (some 12), (.bin .sub .none (.t 11) (.k (.v (.int .i64 (1)))))⟩, ⟨none, (some 13), (.iaddr 1 (.t 9) (.t 12))⟩, ⟨none, (some 14), (.ld false 1 (.t 13))⟩, ⟨none, (some 15), (.faddr 1 (.t 1))⟩, ⟨none, (some 16), (.ld false 1 (.t 15))⟩, ⟨none, (some 17), (.call n_i_withLine [(.t 14), (.t 16)])⟩, ⟨none, (some 18), (.bin .add .none (.t 17) (.k (.v (.string (bs [32])))))⟩, ⟨none, (some 19), (.faddr 2 (.t 1))⟩, ⟨none, (some 20), (.ld false 1 (.t 19))⟩, ⟨none, (some 21), (.call n_i_tincture [(.t 20)])⟩, ⟨none, (some 22), (.bin .add .none (.t 18) (.t 21))⟩, ⟨none, (some 23), (.bin .add .none (.t 22) (.k (.v (.string (bs [32, 97, 110, 100, 32])))))⟩, ⟨none, (some 24), (.faddr 3 (.t 1))⟩, ⟨none, (some 25), (.ld false 1 (.t 24))⟩, ⟨none, (some 26), (.call n_i_tincture [(.t 25)])⟩, ⟨none, (some 27), (.bin .add .none (.t 23) (.t 26))⟩, ⟨none, (some 2), (.mv (.t 27))⟩]
def p_i_Field_text_3 : List (List Nat) := [[], [], [1], [1, 2], [0, 1, 2, 3], [0, 1, 2, 3, 4], [], [6], [0, 1, 2, 3, 4, 5, 6, 7], [0, 1, 2, 3, 4, 5, 6, 7, 8], [], [10], [0, 1, 2, 3, 4, 5, 6, 7, 8, 10, 11], [0, 1, 2, 3, 4, 5, 6, 7, 8, 9, 10, 11, 12], [0, 1, 2, 3, 4, 5, 6, 7, 8, 9, 10, 11, 12, 13], [], [15], [0, 1, 2, 3, 4, 5, 6, 7, 8, 10, 11, 12, 15, 16], [0, 1, 2, 3, 4, 5, 6, 7, 8, 9, 10, 11, 12, 13, 14, 15, 16, 17], [0, 1, 2, 3, 4, 5, 6, 7, 8, 9, 10, 11, 12, 13, 14, 15, 16, 17, 18]]
/-- (loop.example/g00884/impl.Field).text -/
def c_i_Field_text : C := (.seq (.reg r_i_Field_text_0 [1]) (.seq (.seq (.reg r_i_Field_text_1 [1, 5]) (.cond (.t 5) (.seq (.reg r_i_Field_text_2 [2]) .ret) .skip)) (.seq (.regD r_i_Field_text_3 p_i_Field_text_3 [2]) .ret)))
def k_i_Field_text : Nat → List Nat
  | 0 => [1]
  | 1 => [1, 5]
  | 2 => [2]
  | 3 => [2]
  | _ => []
theorem fn_i_Field_text : FnC Tryz.prog n_i_Field_text c_i_Field_text [(.tmp 2)] 28 :=
  ⟨Tryz.f79, _, k_i_Field_text, Tryz.func79, rfl, by kernel_rfl, by kernel_rfl, by kernel_rfl, rfl⟩
def r_i_Group_text_0 : List CO := [⟨none, (some 1), (.box 4 (.t 0))⟩, ⟨none, (some 2), (.mv (.k (.v (.string (bs [])))))⟩]
def r_i_Group_text_1 : List CO := [⟨none, (some 4), (.faddr 0 (.t 1))⟩, ⟨none, (some 5), (.ld false 1 (.t 4))⟩, ⟨none, (some 6), (.faddr 1 (.t 1))⟩, ⟨none, (some 7), (.ld false 1 (.t 6))⟩, ⟨none, (some 8), (.call n_i_countWord [(.t 5), (.t 7)])⟩, ⟨none, (some 9), (.bin .add .none (.t 8) (.k (.v (.string (bs [32])))))⟩, ⟨none, (some 10), (.faddr 1 (.t 1))⟩, ⟨none, (some 11), (.ld false 1 (.t 10))⟩, ⟨none, (some 12), (.faddr 0 (.t 1))⟩, ⟨none, (some 13), (.ld false 1 (.t 12))⟩, ⟨none, (some 14), (.call n_i_kindWord [(.t 11), (.t 13)])⟩, ⟨none, (some 15), (.bin .add .none (.t 9) (.t 14))⟩, ⟨none, (some 3), (.mv (.t 15))⟩]
def p_i_Group_text_1 : List (List Nat) := [[], [0], [], [2], [0, 1, 2, 3], [0, 1, 2, 3, 4], [], [6], [], [8], [0, 1, 2, 3, 4, 6, 7, 8, 9], [0, 1, 2, 3, 4, 5, 6, 7, 8, 9, 10], [0, 1, 2, 3, 4, 5, 6, 7, 8, 9, 10, 11]]
def r_i_Group_text_2 : List CO := [⟨none, (some 16), (.faddr 2 (.t 1))⟩, ⟨none, (some 17), (.ld false 1 (.t 16))⟩, ⟨none, (some 18), (.bin .gtr .none (.t 17) (.k (.v (.int .i64 (0)))))⟩]
def r_i_Group_text_3 : List CO := [⟨none, (some 19), (.mv (.t 3))⟩, ⟨none, (some 20), (.faddr 1 (.t 1))⟩, ⟨none, (some 21), (.ld false 1 (.t 20))⟩, ⟨none, (some 22), (.call n_i_attitudes [(.t 21)])⟩, ⟨none, (some 23), (.faddr 2 (.t 1))⟩, ⟨none, (some 24), (.ld false 1 (.t 23))⟩, ⟨none, (some 25), (.bin .sub .none (.t 24) (.k (.v (.int .i64 (1)))))⟩, ⟨none, (some 26), (.iaddr 1 (.t 22) (.t 25))⟩, ⟨none, (some 27), (.ld false 1 (.t 26))⟩, ⟨none, (some 28), (.bin .add .none (.k (.v (.string (bs [32])))) (.t 27))⟩, ⟨none, (some 29), (.bin .add .none (.t 19) (.t 28))⟩, ⟨none, (some 3), (.mv (.t 29))⟩]
def p_i_Group_text_3 : List (List Nat) := [[], [], [1], [1, 2], [], [4], [4, 5], [1, 2, 3, 4, 5, 6], [1, 2, 3, 4, 5, 6, 7], [1, 2, 3, 4, 5, 6, 7, 8], [0, 1, 2, 3, 4, 5, 6, 7, 8, 9], [0, 1, 2, 3, 4, 5, 6, 7, 8, 9, 10]]
def r_i_Group_text_4 : List CO := [⟨none, (some 30), (.mv (.t 3))⟩, ⟨none, (some 31), (.bin .add .none (.t 30) (.k (.v (.string (bs [32])))))⟩, ⟨none, (some 32), (.faddr 3 (.t 1))⟩, ⟨none, (some 33), (.ld false 1 (.t 32))⟩, ⟨none, (some 34), (.call n_i_tincture [(.t 33)])⟩, ⟨none, (some 35), (.bin .add .none (.t 31) (.t 34))⟩, ⟨none, (some 2), (.mv (.t 35))⟩]
/-- (loop.example/g00884/impl.Group).text -/
def c_i_Group_text : C := (.seq (.reg r_i_Group_text_0 [1]) (.seq (.regD r_i_Group_text_1 p_i_Group_text_1 [1, 3]) (.seq (.seq (.reg r_i_Group_text_2 [1, 3, 18]) (.cond (.t 18) (.regD r_i_Group_text_3 p_i_Group_text_3 [1, 3]) .skip)) (.seq (.reg r_i_Group_text_4 [2]) .ret))))
def k_i_Group_text : Nat → List Nat
  | 0 => [1]
  | 1 => [1, 3]
  | 2 => [1, 3, 18]
  | 3 => [1, 3]
  | 4 => [2]
  | _ => []
theorem fn_i_Group_text : FnC Tryz.prog n_i_Group_text c_i_Group_text [(.tmp 2)] 36 :=
  ⟨Tryz.f82, _, k_i_Group_text, Tryz.func82, rfl, by kernel_rfl, by kernel_rfl, by kernel_rfl, rfl⟩
def r_s_l6Text_0 : List CO := [⟨none, (some 1), (.box 15 (.t 0))⟩, ⟨none, (some 2), (.mv (.k (.v (.string (bs [])))))⟩]
def r_s_l6Text_1 : List CO := [⟨none, (some 4), (.faddr 0 (.t 1))⟩, ⟨none, (some 5), (.ld true 4 (.t 4))⟩, ⟨none, (some 6), (.call n_s_l3Text [(.t 5)])⟩, ⟨none, (some 3), (.mv (.t 6))⟩]
def r_s_l6Text_2 : List CO := [⟨none, (some 7), (.faddr 4 (.t 1))⟩, ⟨none, (some 8), (.ld false 1 (.t 7))⟩, ⟨none, (some 9), (.bin .gtr .none (.t 8) (.k (.v (.int .i64 (0)))))⟩]
def r_s_l6Text_3 : List CO := [⟨none, (some 10), (.mv (.t 3))⟩, ⟨none, (some 11), (.bin .add .none (.t 10) (.k (.v (.string (bs [44, 32])))))⟩, ⟨none, (some 12), (.faddr 4 (.t 1))⟩, ⟨none, (some 13), (.ld false 1 (.t 12))⟩, ⟨none, (some 14), (.faddr 5 (.t 1))⟩, ⟨none, (some 15), (.ld false 1 (.t 14))⟩, ⟨none, (some 16), (.call n_s_l6Ordinary [(.t 13), (.t 15)])⟩, ⟨none, (some 17), (.bin .add .none (.t 11) (.t 16))⟩, ⟨none, (some 18), (.bin .add .none (.t 17) (.k (.v (.string (bs [32])))))⟩, ⟨none, (some 19), (.faddr 6 (.t 1))⟩, ⟨none, (some 20), (.ld false 1 (.t 19))⟩, ⟨none, (some 21), (.call n_s_l2Word [(.t 20)])⟩, ⟨none, (some 22), (.bin .add .none (.t 18) (.t 21))⟩, ⟨none, (some 3), (.mv (.t 22))⟩]
def p_s_l6Text_3 : List (List Nat) := [[], [0], [], [2], [], [4], [2, 3, 4, 5], [0, 1, 2, 3, 4, 5, 6], [0, 1, 2, 3, 4, 5, 6, 7], [], [9], [2, 3, 4, 5, 6, 9, 10], [0, 1, 2, 3, 4, 5, 6, 7, 8, 9, 10, 11], [0, 1, 2, 3, 4, 5, 6, 7, 8, 9, 10, 11, 12]]
def r_s_l6Text_4 : List CO := [⟨none, (some 23), (.faddr 7 (.t 1))⟩, ⟨none, (some 24), (.ld true 4 (.t 23))⟩, ⟨none, (some 25), (.call n_s_l4None [(.t 24)])⟩, ⟨none, (some 26), (.un .not (.t 25))⟩]
def r_s_l6Text_5 : List CO := [⟨none, (some 27), (.mv (.t 3))⟩, ⟨none, (some 28), (.bin .add .none (.t 27) (.k (.v (.string (bs [32, 99, 104, 97, 114, 103, 101, 100, 32, 119, 105, 116, 104, 32])))))⟩, ⟨none, (some 29), (.faddr 7 (.t 1))⟩, ⟨none, (some 30), (.ld true 4 (.t 29))⟩, ⟨none, (some 31), (.call n_s_l4Text [(.t 30)])⟩, ⟨none, (some 32), (.bin .add .none (.t 28) (.t 31))⟩, ⟨none, (some 3), (.mv (.t 32))⟩]
def r_s_l6Text_6 : List CO := [⟨none, (some 33), (.faddr 11 (.t 1))⟩, ⟨none, (some 34), (.ld true 4 (.t 33))⟩, ⟨none, (some 35), (.call n_s_l4None [(.t 34)])⟩, ⟨none, (some 36), (.un .not (.t 35))⟩]
def r_s_l6Text_7 : List CO := [⟨none, (some 37), (.mv (.t 3))⟩, ⟨none, (some 38), (.faddr 4 (.t 1))⟩, ⟨none, (some 39), (.ld false 1 (.t 38))⟩, ⟨none, (some 40), (.call n_s_l6Join [(.t 39)])⟩, ⟨none, (some 41), (.bin .add .none (.t 37) (.t 40))⟩, ⟨none, (some 42), (.faddr 11 (.t 1))⟩, ⟨none, (some 43), (.ld true 4 (.t 42))⟩, ⟨none, (some 44), (.call n_s_l4Text [(.t 43)])⟩, ⟨none, (some 45), (.bin .add .none (.t 41) (.t 44))⟩, ⟨none, (some 3), (.mv (.t 45))⟩]
def p_s_l6Text_7 : List (List Nat) := [[], [], [1], [1, 2], [0, 1, 2, 3], [], [5], [1, 2, 3, 5, 6], [0, 1, 2, 3, 4, 5, 6, 7], [0, 1, 2, 3, 4, 5, 6, 7, 8]]
def r_s_l6Text_8 : List CO := [⟨none, (some 46), (.mv (.t 3))⟩, ⟨none, (some 2), (.mv (.t 46))⟩]
/-- loop.example/g00884/spec.l6Text -/
def c_s_l6Text : C := (.seq (.reg r_s_l6Text_0 [1]) (.seq (.reg r_s_l6Text_1 [1, 3]) (.seq (.seq (.reg r_s_l6Text_2 [1, 3, 9]) (.cond (.t 9) (.regD r_s_l6Text_3 p_s_l6Text_3 [1, 3]) .skip)) (.seq (.seq (.wk (.reg r_s_l6Text_4 [1, 3, 26])) (.cond (.t 26) (.reg r_s_l6Text_5 [1, 3]) .skip)) (.seq (.seq (.wk (.reg r_s_l6Text_6 [1, 3, 36])) (.cond (.t 36) (.regD r_s_l6Text_7 p_s_l6Text_7 [3]) .skip)) (.seq (.wk (.reg r_s_l6Text_8 [2])) .ret))))))
def k_s_l6Text : Nat → List Nat
  | 0 => [1]
  | 1 => [1, 3]
  | 2 => [1, 3, 9]
  | 3 => [1, 3]
  | 4 => [999999, 1, 3, 26]
  | 5 => [1, 3]
  | 6 => [999999, 1, 3, 36]
  | 7 => [3]
  | 8 => [999999, 2]
  | _ => []
theorem fn_s_l6Text : FnC Tryz.prog n_s_l6Text c_s_l6Text [(.tmp 2)] 47 :=
  ⟨Tryz.f44, _, k_s_l6Text, Tryz.func44, rfl, by kernel_rfl, by kernel_rfl, by kernel_rfl, rfl⟩
end Go.Proofs.YtbeoijlggphklaaGreat
