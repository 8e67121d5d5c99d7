/- The compact code of the functions, and that it is theirs: written by a program of this claim. -/
import Derived.Test.YtgefdcllialhkaaNums
namespace Go.Proofs.Ytgefdcllialhkaa
open Go.Abs
set_option maxRecDepth 100000
def r_s_l1Cur_field_0 : List CO := [⟨none, (some 2), (.box 4 (.k (.agg [(.v (.int .i64 (0))), (.v (.int .i64 (0))), (.v (.int .i64 (0))), (.v (.int .i64 (0)))])))⟩]
def r_s_l1Cur_field_1 : List CO := [⟨none, (some 4), (.mv (.t 0))⟩, ⟨none, (some 5), (.call n_s_l1Cur_tincture [(.t 4)])⟩, ⟨none, (some 6), (.build (.agg [(.v (.int .i64 (0))), (.v (.int .i64 (0))), (.v (.int .i64 (0))), (.v (.int .i64 (0)))]) [(2, (1, (.t 5)))])⟩, ⟨none, (some 3), (.box 4 (.k (.agg [(.v (.int .i64 (0))), (.v (.int .i64 (0))), (.v (.int .i64 (0))), (.v (.int .i64 (0)))])))⟩, ⟨none, none, (.st 4 (.t 3) (.t 6))⟩]
def r_s_l1Cur_field_2 : List CO := [⟨none, (some 7), (.mv (.t 0))⟩, ⟨none, (some 8), (.call n_s_l1Cur_one [(.t 7), (.k (.v (.int .i64 (2))))])⟩]
def r_s_l1Cur_field_3 : List CO := [⟨none, (some 9), (.ld true 4 (.t 3))⟩, ⟨none, none, (.st 4 (.t 2) (.t 9))⟩]
def r_s_l1Cur_field_4 : List CO := [⟨none, (some 10), (.mv (.t 0))⟩, ⟨none, (some 11), (.call n_s_l1Cur_pick [(.t 10), (.k (.v (.int .i64 (7))))])⟩, ⟨none, (some 12), (.bin .add .none (.k (.v (.int .i64 (1)))) (.t 11))⟩, ⟨none, (some 13), (.faddr 0 (.t 3))⟩, ⟨none, none, (.st 1 (.t 13) (.t 12))⟩]
def r_s_l1Cur_field_5 : List CO := [⟨none, (some 14), (.mv (.t 0))⟩, ⟨none, (some 15), (.bslice 1 (.v (.int .i64 (0))) 6 [(0, (.k (.v (.int .i64 (0))))), (1, (.k (.v (.int .i64 (0))))), (2, (.k (.v (.int .i64 (1))))), (3, (.k (.v (.int .i64 (2))))), (4, (.k (.v (.int .i64 (3))))), (5, (.k (.v (.int .i64 (4)))))])⟩, ⟨none, (some 16), (.call n_s_l1Cur_among [(.t 14), (.t 15)])⟩, ⟨none, (some 17), (.faddr 1 (.t 3))⟩, ⟨none, none, (.st 1 (.t 17) (.t 16))⟩]
def r_s_l1Cur_field_6 : List CO := [⟨none, (some 18), (.faddr 2 (.t 3))⟩, ⟨none, (some 19), (.ld false 1 (.t 18))⟩, ⟨none, (some 20), (.mv (.t 0))⟩, ⟨none, (some 21), (.call n_s_l1Cur_pick [(.t 20), (.k (.v (.int .i64 (8))))])⟩, ⟨none, (some 22), (.bin .add .none (.t 19) (.t 21))⟩, ⟨none, (some 23), (.bin .rem .none (.t 22) (.k (.v (.int .i64 (9)))))⟩, ⟨none, (some 24), (.bin .add .none (.k (.v (.int .i64 (1)))) (.t 23))⟩, ⟨none, (some 25), (.faddr 3 (.t 3))⟩, ⟨none, none, (.st 1 (.t 25) (.t 24))⟩]
def p_s_l1Cur_field_6 : List (List Nat) := [[], [0], [], [2], [0, 1, 2, 3], [0, 1, 2, 3, 4], [0, 1, 2, 3, 4, 5], [0, 1, 2, 3, 4, 5, 6], [0, 1, 2, 3, 4, 5, 6, 7]]
def r_s_l1Cur_field_7 : List CO := [⟨none, (some 26), (.ld true 4 (.t 3))⟩, ⟨none, none, (.st 4 (.t 2) (.t 26))⟩]
/-- (*loop.example/g00884/spec.l1Cur).field -/
def c_s_l1Cur_field : C := (.seq (.reg r_s_l1Cur_field_0 [0, 2]) (.seq (.reg r_s_l1Cur_field_1 [0, 2, 3]) (.seq (.seq (.reg r_s_l1Cur_field_2 [0, 2, 3, 8]) (.cond (.t 8) (.seq (.reg r_s_l1Cur_field_3 [2]) .ret) .skip)) (.seq (.reg r_s_l1Cur_field_4 [0, 2, 3]) (.seq (.reg r_s_l1Cur_field_5 [0, 2, 3]) (.seq (.regD r_s_l1Cur_field_6 p_s_l1Cur_field_6 [2, 3]) (.seq (.reg r_s_l1Cur_field_7 [2]) .ret)))))))
def k_s_l1Cur_field : Nat → List Nat
  | 0 => [0, 2]
  | 1 => [0, 2, 3]
  | 2 => [0, 2, 3, 8]
  | 3 => [2]
  | 4 => [0, 2, 3]
  | 5 => [0, 2, 3]
  | 6 => [2, 3]
  | 7 => [2]
  | _ => []
theorem fn_s_l1Cur_field : FnC Try.prog n_s_l1Cur_field c_s_l1Cur_field [(.cell 2 true 4)] 27 :=
  ⟨Try.f130, _, k_s_l1Cur_field, Try.func130, rfl, by kernel_rfl, by kernel_rfl, by kernel_rfl, rfl⟩
def r_s_l1Cur_group_0 : List CO := [⟨none, (some 2), (.box 4 (.k (.agg [(.v (.int .i64 (0))), (.v (.int .i64 (0))), (.v (.int .i64 (0))), (.v (.int .i64 (0)))])))⟩]
def r_s_l1Cur_group_1 : List CO := [⟨none, (some 4), (.mv (.t 0))⟩, ⟨none, (some 5), (.bslice 1 (.v (.int .i64 (0))) 8 [(0, (.k (.v (.int .i64 (1))))), (1, (.k (.v (.int .i64 (1))))), (2, (.k (.v (.int .i64 (2))))), (3, (.k (.v (.int .i64 (3))))), (4, (.k (.v (.int .i64 (3))))), (5, (.k (.v (.int .i64 (4))))), (6, (.k (.v (.int .i64 (5))))), (7, (.k (.v (.int .i64 (6)))))])⟩, ⟨none, (some 6), (.call n_s_l1Cur_among [(.t 4), (.t 5)])⟩, ⟨none, (some 7), (.mv (.t 0))⟩, ⟨none, (some 8), (.call n_s_l1Cur_pick [(.t 7), (.k (.v (.int .i64 (8))))])⟩, ⟨none, (some 9), (.bin .add .none (.k (.v (.int .i64 (1)))) (.t 8))⟩, ⟨none, (some 10), (.mv (.t 0))⟩, ⟨none, (some 11), (.call n_s_l1Cur_tincture [(.t 10)])⟩, ⟨none, (some 12), (.build (.agg [(.v (.int .i64 (0))), (.v (.int .i64 (0))), (.v (.int .i64 (0))), (.v (.int .i64 (0)))]) [(0, (1, (.t 6))), (1, (1, (.t 9))), (3, (1, (.t 11)))])⟩, ⟨none, (some 3), (.box 4 (.k (.agg [(.v (.int .i64 (0))), (.v (.int .i64 (0))), (.v (.int .i64 (0))), (.v (.int .i64 (0)))])))⟩, ⟨none, none, (.st 4 (.t 3) (.t 12))⟩]
def r_s_l1Cur_group_2 : List CO := [⟨none, (some 13), (.faddr 1 (.t 3))⟩, ⟨none, (some 14), (.ld false 1 (.t 13))⟩, ⟨none, (some 15), (.call n_s_l4Beast [(.t 14)])⟩]
def r_s_l1Cur_group_3 : List CO := [⟨none, (some 16), (.mv (.t 0))⟩, ⟨none, (some 17), (.call n_s_l1Cur_pick [(.t 16), (.k (.v (.int .i64 (2))))])⟩, ⟨none, (some 18), (.bin .add .none (.k (.v (.int .i64 (1)))) (.t 17))⟩, ⟨none, (some 19), (.faddr 2 (.t 3))⟩, ⟨none, none, (.st 1 (.t 19) (.t 18))⟩]
def r_s_l1Cur_group_4 : List CO := [⟨none, (some 20), (.ld true 4 (.t 3))⟩, ⟨none, none, (.st 4 (.t 2) (.t 20))⟩]
/-- (*loop.example/g00884/spec.l1Cur).group -/
def c_s_l1Cur_group : C := (.seq (.reg r_s_l1Cur_group_0 [0, 2]) (.seq (.reg r_s_l1Cur_group_1 [0, 2, 3]) (.seq (.seq (.reg r_s_l1Cur_group_2 [0, 2, 3, 15]) (.cond (.t 15) (.reg r_s_l1Cur_group_3 [2, 3]) .skip)) (.seq (.reg r_s_l1Cur_group_4 [2]) .ret))))
def k_s_l1Cur_group : Nat → List Nat
  | 0 => [0, 2]
  | 1 => [0, 2, 3]
  | 2 => [0, 2, 3, 15]
  | 3 => [2, 3]
  | 4 => [2]
  | _ => []
theorem fn_s_l1Cur_group : FnC Try.prog n_s_l1Cur_group c_s_l1Cur_group [(.cell 2 true 4)] 21 :=
  ⟨Try.f131, _, k_s_l1Cur_group, Try.func131, rfl, by kernel_rfl, by kernel_rfl, by kernel_rfl, rfl⟩
def r_s_l1Cur_anyField_0 : List CO := [⟨none, (some 2), (.box 4 (.k (.agg [(.v (.int .i64 (0))), (.v (.int .i64 (0))), (.v (.int .i64 (0))), (.v (.int .i64 (0)))])))⟩]
def r_s_l1Cur_anyField_1 : List CO := [⟨none, (some 4), (.mv (.t 0))⟩, ⟨none, (some 5), (.call n_s_l1Cur_field [(.t 4)])⟩, ⟨none, (some 3), (.box 4 (.k (.agg [(.v (.int .i64 (0))), (.v (.int .i64 (0))), (.v (.int .i64 (0))), (.v (.int .i64 (0)))])))⟩, ⟨none, none, (.st 4 (.t 3) (.t 5))⟩]
def r_s_l1Cur_anyField_2 : List CO := [⟨none, (some 6), (.mv (.t 0))⟩, ⟨none, (some 7), (.call n_s_l1Cur_pick [(.t 6), (.k (.v (.int .i64 (24))))])⟩]
def r_s_l1Cur_anyField_3 : List CO := [⟨none, (some 9), (.bin .eql .none (.t 7) (.k (.v (.int .i64 (0)))))⟩, ⟨none, (some 8), (.mv (.t 9))⟩]
def r_s_l1Cur_anyField_4 : List CO := [⟨none, (some 10), (.mv (.t 0))⟩, ⟨none, (some 11), (.bslice 1 (.v (.int .i64 (0))) 5 [(0, (.k (.v (.int .i64 (-1))))), (1, (.k (.v (.int .i64 (8))))), (2, (.k (.v (.int .i64 (0))))), (3, (.k (.v (.int .i64 (7))))), (4, (.k (.v (.int .i64 (1)))))])⟩, ⟨none, (some 12), (.call n_s_l1Cur_among [(.t 10), (.t 11)])⟩, ⟨none, (some 13), (.faddr 0 (.t 3))⟩, ⟨none, none, (.st 1 (.t 13) (.t 12))⟩]
def r_s_l1Cur_anyField_5 : List CO := [⟨none, (some 15), (.bin .eql .none (.t 7) (.k (.v (.int .i64 (1)))))⟩, ⟨none, (some 14), (.mv (.t 15))⟩]
def r_s_l1Cur_anyField_6 : List CO := [⟨none, (some 16), (.mv (.t 0))⟩, ⟨none, (some 17), (.bslice 1 (.v (.int .i64 (0))) 4 [(0, (.k (.v (.int .i64 (-1))))), (1, (.k (.v (.int .i64 (5))))), (2, (.k (.v (.int .i64 (1))))), (3, (.k (.v (.int .i64 (4)))))])⟩, ⟨none, (some 18), (.call n_s_l1Cur_among [(.t 16), (.t 17)])⟩, ⟨none, (some 19), (.faddr 1 (.t 3))⟩, ⟨none, none, (.st 1 (.t 19) (.t 18))⟩]
def r_s_l1Cur_anyField_7 : List CO := [⟨none, (some 21), (.bin .eql .none (.t 7) (.k (.v (.int .i64 (2)))))⟩, ⟨none, (some 20), (.mv (.t 21))⟩]
def r_s_l1Cur_anyField_8 : List CO := [⟨none, (some 22), (.mv (.t 0))⟩, ⟨none, (some 23), (.bslice 1 (.v (.int .i64 (0))) 3 [(0, (.k (.v (.int .i64 (0))))), (1, (.k (.v (.int .i64 (10))))), (2, (.k (.v (.int .i64 (9)))))])⟩, ⟨none, (some 24), (.call n_s_l1Cur_among [(.t 22), (.t 23)])⟩, ⟨none, (some 25), (.faddr 2 (.t 3))⟩, ⟨none, none, (.st 1 (.t 25) (.t 24))⟩]
def r_s_l1Cur_anyField_9 : List CO := [⟨none, (some 27), (.bin .eql .none (.t 7) (.k (.v (.int .i64 (3)))))⟩, ⟨none, (some 26), (.mv (.t 27))⟩]
def r_s_l1Cur_anyField_10 : List CO := [⟨none, (some 28), (.mv (.t 0))⟩, ⟨none, (some 29), (.faddr 2 (.t 3))⟩, ⟨none, (some 30), (.ld false 1 (.t 29))⟩, ⟨none, (some 31), (.bslice 1 (.v (.int .i64 (0))) 4 [(0, (.k (.v (.int .i64 (0))))), (1, (.k (.v (.int .i64 (10))))), (2, (.t 30)), (3, (.k (.v (.int .i64 (9)))))])⟩, ⟨none, (some 32), (.call n_s_l1Cur_among [(.t 28), (.t 31)])⟩, ⟨none, (some 33), (.faddr 3 (.t 3))⟩, ⟨none, none, (.st 1 (.t 33) (.t 32))⟩]
def r_s_l1Cur_anyField_11 : List CO := [⟨none, (some 34), (.ld true 4 (.t 3))⟩, ⟨none, none, (.st 4 (.t 2) (.t 34))⟩]
/-- (*loop.example/g00884/spec.l1Cur).anyField -/
def c_s_l1Cur_anyField : C := (.seq (.reg r_s_l1Cur_anyField_0 [0, 2]) (.seq (.reg r_s_l1Cur_anyField_1 [0, 2, 3]) (.seq (.seq (.reg r_s_l1Cur_anyField_2 [0, 2, 3, 7]) (.block 0 (.seq (.reg r_s_l1Cur_anyField_3 [0, 2, 3, 7, 8]) (.cond (.t 8) (.reg r_s_l1Cur_anyField_4 [2, 3]) (.seq (.reg r_s_l1Cur_anyField_5 [0, 2, 3, 7, 14]) (.cond (.t 14) (.reg r_s_l1Cur_anyField_6 [2, 3]) (.seq (.reg r_s_l1Cur_anyField_7 [0, 2, 3, 7, 20]) (.cond (.t 20) (.reg r_s_l1Cur_anyField_8 [2, 3]) (.seq (.reg r_s_l1Cur_anyField_9 [0, 2, 3, 26]) (.cond (.t 26) (.reg r_s_l1Cur_anyField_10 [2, 3]) .skip)))))))))) (.seq (.reg r_s_l1Cur_anyField_11 [2]) .ret))))
def k_s_l1Cur_anyField : Nat → List Nat
  | 0 => [0, 2]
  | 1 => [0, 2, 3]
  | 2 => [0, 2, 3, 7]
  | 3 => [0, 2, 3, 7, 8]
  | 4 => [2, 3]
  | 5 => [0, 2, 3, 7, 14]
  | 6 => [2, 3]
  | 7 => [0, 2, 3, 7, 20]
  | 8 => [2, 3]
  | 9 => [0, 2, 3, 26]
  | 10 => [2, 3]
  | 11 => [2]
  | _ => []
theorem fn_s_l1Cur_anyField : FnC Try.prog n_s_l1Cur_anyField c_s_l1Cur_anyField [(.cell 2 true 4)] 35 :=
  ⟨Try.f117, _, k_s_l1Cur_anyField, Try.func117, rfl, by kernel_rfl, by kernel_rfl, by kernel_rfl, rfl⟩
def r_s_l1Cur_anyGroup_0 : List CO := [⟨none, (some 2), (.box 4 (.k (.agg [(.v (.int .i64 (0))), (.v (.int .i64 (0))), (.v (.int .i64 (0))), (.v (.int .i64 (0)))])))⟩]
def r_s_l1Cur_anyGroup_1 : List CO := [⟨none, (some 4), (.mv (.t 0))⟩, ⟨none, (some 5), (.call n_s_l1Cur_group [(.t 4)])⟩, ⟨none, (some 3), (.box 4 (.k (.agg [(.v (.int .i64 (0))), (.v (.int .i64 (0))), (.v (.int .i64 (0))), (.v (.int .i64 (0)))])))⟩, ⟨none, none, (.st 4 (.t 3) (.t 5))⟩]
def r_s_l1Cur_anyGroup_2 : List CO := [⟨none, (some 6), (.mv (.t 0))⟩, ⟨none, (some 7), (.call n_s_l1Cur_pick [(.t 6), (.k (.v (.int .i64 (24))))])⟩]
def r_s_l1Cur_anyGroup_3 : List CO := [⟨none, (some 9), (.bin .eql .none (.t 7) (.k (.v (.int .i64 (0)))))⟩, ⟨none, (some 8), (.mv (.t 9))⟩]
def r_s_l1Cur_anyGroup_4 : List CO := [⟨none, (some 10), (.mv (.t 0))⟩, ⟨none, (some 11), (.bslice 1 (.v (.int .i64 (0))) 3 [(0, (.k (.v (.int .i64 (0))))), (1, (.k (.v (.int .i64 (7))))), (2, (.k (.v (.int .i64 (-1)))))])⟩, ⟨none, (some 12), (.call n_s_l1Cur_among [(.t 10), (.t 11)])⟩, ⟨none, (some 13), (.faddr 0 (.t 3))⟩, ⟨none, none, (.st 1 (.t 13) (.t 12))⟩]
def r_s_l1Cur_anyGroup_5 : List CO := [⟨none, (some 15), (.bin .eql .none (.t 7) (.k (.v (.int .i64 (1)))))⟩, ⟨none, (some 14), (.mv (.t 15))⟩]
def r_s_l1Cur_anyGroup_6 : List CO := [⟨none, (some 16), (.mv (.t 0))⟩, ⟨none, (some 17), (.bslice 1 (.v (.int .i64 (0))) 4 [(0, (.k (.v (.int .i64 (0))))), (1, (.k (.v (.int .i64 (9))))), (2, (.k (.v (.int .i64 (3))))), (3, (.k (.v (.int .i64 (4)))))])⟩, ⟨none, (some 18), (.call n_s_l1Cur_among [(.t 16), (.t 17)])⟩, ⟨none, (some 19), (.faddr 1 (.t 3))⟩, ⟨none, none, (.st 1 (.t 19) (.t 18))⟩]
def r_s_l1Cur_anyGroup_7 : List CO := [⟨none, (some 21), (.bin .eql .none (.t 7) (.k (.v (.int .i64 (2)))))⟩, ⟨none, (some 20), (.mv (.t 21))⟩]
def r_s_l1Cur_anyGroup_8 : List CO := [⟨none, (some 22), (.mv (.t 0))⟩, ⟨none, (some 23), (.bslice 1 (.v (.int .i64 (0))) 5 [(0, (.k (.v (.int .i64 (0))))), (1, (.k (.v (.int .i64 (1))))), (2, (.k (.v (.int .i64 (2))))), (3, (.k (.v (.int .i64 (3))))), (4, (.k (.v (.int .i64 (-1)))))])⟩, ⟨none, (some 24), (.call n_s_l1Cur_among [(.t 22), (.t 23)])⟩, ⟨none, (some 25), (.faddr 2 (.t 3))⟩, ⟨none, none, (.st 1 (.t 25) (.t 24))⟩]
def r_s_l1Cur_anyGroup_9 : List CO := [⟨none, (some 27), (.bin .eql .none (.t 7) (.k (.v (.int .i64 (3)))))⟩, ⟨none, (some 26), (.mv (.t 27))⟩]
def r_s_l1Cur_anyGroup_10 : List CO := [⟨none, (some 28), (.mv (.t 0))⟩, ⟨none, (some 29), (.bslice 1 (.v (.int .i64 (0))) 2 [(0, (.k (.v (.int .i64 (0))))), (1, (.k (.v (.int .i64 (10)))))])⟩, ⟨none, (some 30), (.call n_s_l1Cur_among [(.t 28), (.t 29)])⟩, ⟨none, (some 31), (.faddr 3 (.t 3))⟩, ⟨none, none, (.st 1 (.t 31) (.t 30))⟩]
def r_s_l1Cur_anyGroup_11 : List CO := [⟨none, (some 33), (.bin .eql .none (.t 7) (.k (.v (.int .i64 (4)))))⟩, ⟨none, (some 32), (.mv (.t 33))⟩]
def r_s_l1Cur_anyGroup_12 : List CO := [⟨none, (some 34), (.build (.agg [(.v (.int .i64 (0))), (.v (.int .i64 (0))), (.v (.int .i64 (0))), (.v (.int .i64 (0)))]) [])⟩, ⟨none, none, (.st 4 (.t 2) (.t 34))⟩]
def r_s_l1Cur_anyGroup_13 : List CO := [⟨none, (some 35), (.ld true 4 (.t 3))⟩, ⟨none, none, (.st 4 (.t 2) (.t 35))⟩]
/-- (*loop.example/g00884/spec.l1Cur).anyGroup -/
def c_s_l1Cur_anyGroup : C := (.seq (.reg r_s_l1Cur_anyGroup_0 [0, 2]) (.seq (.reg r_s_l1Cur_anyGroup_1 [0, 2, 3]) (.seq (.seq (.reg r_s_l1Cur_anyGroup_2 [0, 2, 3, 7]) (.block 0 (.seq (.reg r_s_l1Cur_anyGroup_3 [0, 2, 3, 7, 8]) (.cond (.t 8) (.reg r_s_l1Cur_anyGroup_4 [2, 3]) (.seq (.reg r_s_l1Cur_anyGroup_5 [0, 2, 3, 7, 14]) (.cond (.t 14) (.reg r_s_l1Cur_anyGroup_6 [2, 3]) (.seq (.reg r_s_l1Cur_anyGroup_7 [0, 2, 3, 7, 20]) (.cond (.t 20) (.reg r_s_l1Cur_anyGroup_8 [2, 3]) (.seq (.reg r_s_l1Cur_anyGroup_9 [0, 2, 3, 7, 26]) (.cond (.t 26) (.reg r_s_l1Cur_anyGroup_10 [2, 3]) (.seq (.reg r_s_l1Cur_anyGroup_11 [2, 3, 32]) (.cond (.t 32) (.seq (.reg r_s_l1Cur_anyGroup_12 [2]) .ret) .skip)))))))))))) (.seq (.reg r_s_l1Cur_anyGroup_13 [2]) .ret))))
def k_s_l1Cur_anyGroup : Nat → List Nat
  | 0 => [0, 2]
  | 1 => [0, 2, 3]
  | 2 => [0, 2, 3, 7]
  | 3 => [0, 2, 3, 7, 8]
  | 4 => [2, 3]
  | 5 => [0, 2, 3, 7, 14]
  | 6 => [2, 3]
  | 7 => [0, 2, 3, 7, 20]
  | 8 => [2, 3]
  | 9 => [0, 2, 3, 7, 26]
  | 10 => [2, 3]
  | 11 => [2, 3, 32]
  | 12 => [2]
  | 13 => [2]
  | _ => []
theorem fn_s_l1Cur_anyGroup : FnC Try.prog n_s_l1Cur_anyGroup c_s_l1Cur_anyGroup [(.cell 2 true 4)] 36 :=
  ⟨Try.f118, _, k_s_l1Cur_anyGroup, Try.func118, rfl, by kernel_rfl, by kernel_rfl, by kernel_rfl, rfl⟩
def r_s_l1Cur_arms_0 : List CO := [⟨none, (some 2), (.box 15 (.k (.agg [(.v (.int .i64 (0))), (.v (.int .i64 (0))), (.v (.int .i64 (0))), (.v (.int .i64 (0))), (.v (.int .i64 (0))), (.v (.int .i64 (0))), (.v (.int .i64 (0))), (.v (.int .i64 (0))), (.v (.int .i64 (0))), (.v (.int .i64 (0))), (.v (.int .i64 (0))), (.v (.int .i64 (0))), (.v (.int .i64 (0))), (.v (.int .i64 (0))), (.v (.int .i64 (0)))])))⟩]
def r_s_l1Cur_arms_1 : List CO := [⟨none, (some 4), (.mv (.t 0))⟩, ⟨none, (some 5), (.call n_s_l1Cur_field [(.t 4)])⟩, ⟨none, (some 6), (.build (.agg [(.v (.int .i64 (0))), (.v (.int .i64 (0))), (.v (.int .i64 (0))), (.v (.int .i64 (0))), (.v (.int .i64 (0))), (.v (.int .i64 (0))), (.v (.int .i64 (0))), (.v (.int .i64 (0))), (.v (.int .i64 (0))), (.v (.int .i64 (0))), (.v (.int .i64 (0))), (.v (.int .i64 (0))), (.v (.int .i64 (0))), (.v (.int .i64 (0))), (.v (.int .i64 (0)))]) [(0, (4, (.t 5)))])⟩, ⟨none, (some 3), (.box 15 (.k (.agg [(.v (.int .i64 (0))), (.v (.int .i64 (0))), (.v (.int .i64 (0))), (.v (.int .i64 (0))), (.v (.int .i64 (0))), (.v (.int .i64 (0))), (.v (.int .i64 (0))), (.v (.int .i64 (0))), (.v (.int .i64 (0))), (.v (.int .i64 (0))), (.v (.int .i64 (0))), (.v (.int .i64 (0))), (.v (.int .i64 (0))), (.v (.int .i64 (0))), (.v (.int .i64 (0)))])))⟩, ⟨none, none, (.st 15 (.t 3) (.t 6))⟩]
def r_s_l1Cur_arms_2 : List CO := [⟨none, (some 7), (.mv (.t 0))⟩, ⟨none, (some 8), (.call n_s_l1Cur_one [(.t 7), (.k (.v (.int .i64 (3))))])⟩, ⟨none, (some 9), (.un .not (.t 8))⟩]
def r_s_l1Cur_arms_3 : List CO := [⟨none, (some 10), (.mv (.t 0))⟩, ⟨none, (some 11), (.call n_s_l1Cur_pick [(.t 10), (.k (.v (.int .i64 (7))))])⟩, ⟨none, (some 12), (.bin .add .none (.k (.v (.int .i64 (1)))) (.t 11))⟩, ⟨none, (some 13), (.faddr 4 (.t 3))⟩, ⟨none, none, (.st 1 (.t 13) (.t 12))⟩]
def r_s_l1Cur_arms_4 : List CO := [⟨none, (some 14), (.mv (.t 0))⟩, ⟨none, (some 15), (.bslice 1 (.v (.int .i64 (0))) 7 [(0, (.k (.v (.int .i64 (0))))), (1, (.k (.v (.int .i64 (0))))), (2, (.k (.v (.int .i64 (0))))), (3, (.k (.v (.int .i64 (1))))), (4, (.k (.v (.int .i64 (2))))), (5, (.k (.v (.int .i64 (3))))), (6, (.k (.v (.int .i64 (4)))))])⟩, ⟨none, (some 16), (.call n_s_l1Cur_among [(.t 14), (.t 15)])⟩, ⟨none, (some 17), (.faddr 5 (.t 3))⟩, ⟨none, none, (.st 1 (.t 17) (.t 16))⟩]
def r_s_l1Cur_arms_5 : List CO := [⟨none, (some 18), (.mv (.t 0))⟩, ⟨none, (some 19), (.call n_s_l1Cur_tincture [(.t 18)])⟩, ⟨none, (some 20), (.faddr 6 (.t 3))⟩, ⟨none, none, (.st 1 (.t 20) (.t 19))⟩]
def r_s_l1Cur_arms_6 : List CO := [⟨none, (some 21), (.mv (.t 0))⟩, ⟨none, (some 22), (.call n_s_l1Cur_one [(.t 21), (.k (.v (.int .i64 (3))))])⟩]
def r_s_l1Cur_arms_7 : List CO := [⟨none, (some 23), (.mv (.t 0))⟩, ⟨none, (some 24), (.call n_s_l1Cur_group [(.t 23)])⟩, ⟨none, (some 25), (.faddr 7 (.t 3))⟩, ⟨none, none, (.st 4 (.t 25) (.t 24))⟩]
def r_s_l1Cur_arms_8 : List CO := [⟨none, (some 26), (.mv (.t 0))⟩, ⟨none, (some 27), (.call n_s_l1Cur_one [(.t 26), (.k (.v (.int .i64 (3))))])⟩, ⟨none, (some 28), (.un .not (.t 27))⟩]
def r_s_l1Cur_arms_9 : List CO := [⟨none, (some 29), (.mv (.t 0))⟩, ⟨none, (some 30), (.call n_s_l1Cur_group [(.t 29)])⟩, ⟨none, (some 31), (.faddr 11 (.t 3))⟩, ⟨none, none, (.st 4 (.t 31) (.t 30))⟩]
def r_s_l1Cur_arms_10 : List CO := [⟨none, (some 32), (.ld true 15 (.t 3))⟩, ⟨none, none, (.st 15 (.t 2) (.t 32))⟩]
/-- (*loop.example/g00884/spec.l1Cur).arms -/
def c_s_l1Cur_arms : C := (.seq (.reg r_s_l1Cur_arms_0 [0, 2]) (.seq (.reg r_s_l1Cur_arms_1 [0, 2, 3]) (.seq (.seq (.reg r_s_l1Cur_arms_2 [0, 2, 3, 9]) (.cond (.t 9) (.seq (.reg r_s_l1Cur_arms_3 [0, 2, 3]) (.seq (.reg r_s_l1Cur_arms_4 [0, 2, 3]) (.seq (.reg r_s_l1Cur_arms_5 [0, 2, 3]) (.seq (.reg r_s_l1Cur_arms_6 [0, 2, 3, 22]) (.cond (.t 22) (.reg r_s_l1Cur_arms_7 [0, 2, 3]) .skip))))) .skip)) (.seq (.seq (.reg r_s_l1Cur_arms_8 [0, 2, 3, 28]) (.cond (.t 28) (.reg r_s_l1Cur_arms_9 [2, 3]) .skip)) (.seq (.reg r_s_l1Cur_arms_10 [2]) .ret)))))
def k_s_l1Cur_arms : Nat → List Nat
  | 0 => [0, 2]
  | 1 => [0, 2, 3]
  | 2 => [0, 2, 3, 9]
  | 3 => [0, 2, 3]
  | 4 => [0, 2, 3]
  | 5 => [0, 2, 3]
  | 6 => [0, 2, 3, 22]
  | 7 => [0, 2, 3]
  | 8 => [0, 2, 3, 28]
  | 9 => [2, 3]
  | 10 => [2]
  | _ => []
theorem fn_s_l1Cur_arms : FnC Try.prog n_s_l1Cur_arms c_s_l1Cur_arms [(.cell 2 true 15)] 33 :=
  ⟨Try.f116, _, k_s_l1Cur_arms, Try.func116, rfl, by kernel_rfl, by kernel_rfl, by kernel_rfl, rfl⟩
def r_s_l1Cur_anyArms_0 : List CO := [⟨none, (some 2), (.box 15 (.k (.agg [(.v (.int .i64 (0))), (.v (.int .i64 (0))), (.v (.int .i64 (0))), (.v (.int .i64 (0))), (.v (.int .i64 (0))), (.v (.int .i64 (0))), (.v (.int .i64 (0))), (.v (.int .i64 (0))), (.v (.int .i64 (0))), (.v (.int .i64 (0))), (.v (.int .i64 (0))), (.v (.int .i64 (0))), (.v (.int .i64 (0))), (.v (.int .i64 (0))), (.v (.int .i64 (0)))])))⟩]
def r_s_l1Cur_anyArms_1 : List CO := [⟨none, (some 4), (.mv (.t 0))⟩, ⟨none, (some 5), (.call n_s_l1Cur_arms [(.t 4)])⟩, ⟨none, (some 3), (.box 15 (.k (.agg [(.v (.int .i64 (0))), (.v (.int .i64 (0))), (.v (.int .i64 (0))), (.v (.int .i64 (0))), (.v (.int .i64 (0))), (.v (.int .i64 (0))), (.v (.int .i64 (0))), (.v (.int .i64 (0))), (.v (.int .i64 (0))), (.v (.int .i64 (0))), (.v (.int .i64 (0))), (.v (.int .i64 (0))), (.v (.int .i64 (0))), (.v (.int .i64 (0))), (.v (.int .i64 (0)))])))⟩, ⟨none, none, (.st 15 (.t 3) (.t 5))⟩]
def r_s_l1Cur_anyArms_2 : List CO := [⟨none, (some 6), (.mv (.t 0))⟩, ⟨none, (some 7), (.call n_s_l1Cur_pick [(.t 6), (.k (.v (.int .i64 (24))))])⟩]
def r_s_l1Cur_anyArms_3 : List CO := [⟨none, (some 9), (.bin .eql .none (.t 7) (.k (.v (.int .i64 (0)))))⟩, ⟨none, (some 8), (.mv (.t 9))⟩]
def r_s_l1Cur_anyArms_4 : List CO := [⟨none, (some 10), (.mv (.t 0))⟩, ⟨none, (some 11), (.call n_s_l1Cur_anyField [(.t 10)])⟩, ⟨none, (some 12), (.faddr 0 (.t 3))⟩, ⟨none, none, (.st 4 (.t 12) (.t 11))⟩]
def r_s_l1Cur_anyArms_5 : List CO := [⟨none, (some 14), (.bin .eql .none (.t 7) (.k (.v (.int .i64 (1)))))⟩, ⟨none, (some 13), (.mv (.t 14))⟩]
def r_s_l1Cur_anyArms_6 : List CO := [⟨none, (some 15), (.mv (.t 0))⟩, ⟨none, (some 16), (.bslice 1 (.v (.int .i64 (0))) 4 [(0, (.k (.v (.int .i64 (-1))))), (1, (.k (.v (.int .i64 (8))))), (2, (.k (.v (.int .i64 (0))))), (3, (.k (.v (.int .i64 (7)))))])⟩, ⟨none, (some 17), (.call n_s_l1Cur_among [(.t 15), (.t 16)])⟩, ⟨none, (some 18), (.faddr 4 (.t 3))⟩, ⟨none, none, (.st 1 (.t 18) (.t 17))⟩]
def r_s_l1Cur_anyArms_7 : List CO := [⟨none, (some 20), (.bin .eql .none (.t 7) (.k (.v (.int .i64 (2)))))⟩, ⟨none, (some 19), (.mv (.t 20))⟩]
def r_s_l1Cur_anyArms_8 : List CO := [⟨none, (some 21), (.mv (.t 0))⟩, ⟨none, (some 22), (.bslice 1 (.v (.int .i64 (0))) 3 [(0, (.k (.v (.int .i64 (-1))))), (1, (.k (.v (.int .i64 (5))))), (2, (.k (.v (.int .i64 (1)))))])⟩, ⟨none, (some 23), (.call n_s_l1Cur_among [(.t 21), (.t 22)])⟩, ⟨none, (some 24), (.faddr 5 (.t 3))⟩, ⟨none, none, (.st 1 (.t 24) (.t 23))⟩]
def r_s_l1Cur_anyArms_9 : List CO := [⟨none, (some 26), (.bin .eql .none (.t 7) (.k (.v (.int .i64 (3)))))⟩, ⟨none, (some 25), (.mv (.t 26))⟩]
def r_s_l1Cur_anyArms_10 : List CO := [⟨none, (some 27), (.mv (.t 0))⟩, ⟨none, (some 28), (.bslice 1 (.v (.int .i64 (0))) 3 [(0, (.k (.v (.int .i64 (0))))), (1, (.k (.v (.int .i64 (10))))), (2, (.k (.v (.int .i64 (3)))))])⟩, ⟨none, (some 29), (.call n_s_l1Cur_among [(.t 27), (.t 28)])⟩, ⟨none, (some 30), (.faddr 6 (.t 3))⟩, ⟨none, none, (.st 1 (.t 30) (.t 29))⟩]
def r_s_l1Cur_anyArms_11 : List CO := [⟨none, (some 32), (.bin .eql .none (.t 7) (.k (.v (.int .i64 (4)))))⟩, ⟨none, (some 31), (.mv (.t 32))⟩]
def r_s_l1Cur_anyArms_12 : List CO := [⟨none, (some 33), (.mv (.t 0))⟩, ⟨none, (some 34), (.call n_s_l1Cur_anyGroup [(.t 33)])⟩, ⟨none, (some 35), (.faddr 7 (.t 3))⟩, ⟨none, none, (.st 4 (.t 35) (.t 34))⟩]
def r_s_l1Cur_anyArms_13 : List CO := [⟨none, (some 37), (.bin .eql .none (.t 7) (.k (.v (.int .i64 (5)))))⟩, ⟨none, (some 36), (.mv (.t 37))⟩]
def r_s_l1Cur_anyArms_14 : List CO := [⟨none, (some 38), (.mv (.t 0))⟩, ⟨none, (some 39), (.call n_s_l1Cur_anyGroup [(.t 38)])⟩, ⟨none, (some 40), (.faddr 11 (.t 3))⟩, ⟨none, none, (.st 4 (.t 40) (.t 39))⟩]
def r_s_l1Cur_anyArms_15 : List CO := [⟨none, (some 41), (.ld true 15 (.t 3))⟩, ⟨none, none, (.st 15 (.t 2) (.t 41))⟩]
/-- (*loop.example/g00884/spec.l1Cur).anyArms -/
def c_s_l1Cur_anyArms : C := (.seq (.reg r_s_l1Cur_anyArms_0 [0, 2]) (.seq (.reg r_s_l1Cur_anyArms_1 [0, 2, 3]) (.seq (.seq (.reg r_s_l1Cur_anyArms_2 [0, 2, 3, 7]) (.block 0 (.seq (.reg r_s_l1Cur_anyArms_3 [0, 2, 3, 7, 8]) (.cond (.t 8) (.reg r_s_l1Cur_anyArms_4 [2, 3]) (.seq (.reg r_s_l1Cur_anyArms_5 [0, 2, 3, 7, 13]) (.cond (.t 13) (.reg r_s_l1Cur_anyArms_6 [2, 3]) (.seq (.reg r_s_l1Cur_anyArms_7 [0, 2, 3, 7, 19]) (.cond (.t 19) (.reg r_s_l1Cur_anyArms_8 [2, 3]) (.seq (.reg r_s_l1Cur_anyArms_9 [0, 2, 3, 7, 25]) (.cond (.t 25) (.reg r_s_l1Cur_anyArms_10 [2, 3]) (.seq (.reg r_s_l1Cur_anyArms_11 [0, 2, 3, 7, 31]) (.cond (.t 31) (.reg r_s_l1Cur_anyArms_12 [2, 3]) (.seq (.reg r_s_l1Cur_anyArms_13 [0, 2, 3, 36]) (.cond (.t 36) (.reg r_s_l1Cur_anyArms_14 [2, 3]) .skip)))))))))))))) (.seq (.reg r_s_l1Cur_anyArms_15 [2]) .ret))))
def k_s_l1Cur_anyArms : Nat → List Nat
  | 0 => [0, 2]
  | 1 => [0, 2, 3]
  | 2 => [0, 2, 3, 7]
  | 3 => [0, 2, 3, 7, 8]
  | 4 => [2, 3]
  | 5 => [0, 2, 3, 7, 13]
  | 6 => [2, 3]
  | 7 => [0, 2, 3, 7, 19]
  | 8 => [2, 3]
  | 9 => [0, 2, 3, 7, 25]
  | 10 => [2, 3]
  | 11 => [0, 2, 3, 7, 31]
  | 12 => [2, 3]
  | 13 => [0, 2, 3, 36]
  | 14 => [2, 3]
  | 15 => [2]
  | _ => []
theorem fn_s_l1Cur_anyArms : FnC Try.prog n_s_l1Cur_anyArms c_s_l1Cur_anyArms [(.cell 2 true 15)] 42 :=
  ⟨Try.f90, _, k_s_l1Cur_anyArms, Try.func90, rfl, by kernel_rfl, by kernel_rfl, by kernel_rfl, rfl⟩
end Go.Proofs.Ytgefdcllialhkaa
