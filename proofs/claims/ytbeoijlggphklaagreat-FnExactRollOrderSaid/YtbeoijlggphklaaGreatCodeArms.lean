/- The compact code of the functions, and that it is theirs: written by a program of this claim. -/
import Derived.Test.YtbeoijlggphklaaGreatNums
namespace Go.Proofs.YtbeoijlggphklaaGreat
open Go.Abs
set_option maxRecDepth 100000
def r_w_toField_0 : List CO := [⟨none, (some 1), (.box 4 (.t 0))⟩, ⟨none, (some 2), (.box 4 (.k (.agg [(.v (.int .i64 (0))), (.v (.int .i64 (0))), (.v (.int .i64 (0))), (.v (.int .i64 (0)))])))⟩]
def r_w_toField_1 : List CO := [⟨none, (some 3), (.box 4 (.k (.agg [(.v (.int .i64 (0))), (.v (.int .i64 (0))), (.v (.int .i64 (0))), (.v (.int .i64 (0)))])))⟩]
def r_w_toField_2 : List CO := [⟨none, (some 4), (.faddr 0 (.t 1))⟩, ⟨none, (some 5), (.ld false 1 (.t 4))⟩, ⟨none, (some 6), (.faddr 0 (.t 3))⟩, ⟨none, none, (.st 1 (.t 6) (.t 5))⟩]
def r_w_toField_3 : List CO := [⟨none, (some 7), (.faddr 1 (.t 1))⟩, ⟨none, (some 8), (.ld false 1 (.t 7))⟩, ⟨none, (some 9), (.faddr 1 (.t 3))⟩, ⟨none, none, (.st 1 (.t 9) (.t 8))⟩]
def r_w_toField_4 : List CO := [⟨none, (some 10), (.faddr 2 (.t 1))⟩, ⟨none, (some 11), (.ld false 1 (.t 10))⟩, ⟨none, (some 12), (.faddr 2 (.t 3))⟩, ⟨none, none, (.st 1 (.t 12) (.t 11))⟩]
def r_w_toField_5 : List CO := [⟨none, (some 13), (.faddr 3 (.t 1))⟩, ⟨none, (some 14), (.ld false 1 (.t 13))⟩, ⟨none, (some 15), (.faddr 3 (.t 3))⟩, ⟨none, none, (.st 1 (.t 15) (.t 14))⟩]
def r_w_toField_6 : List CO := [⟨none, (some 16), (.ld true 4 (.t 3))⟩, ⟨none, none, (.st 4 (.t 2) (.t 16))⟩]
/-- loop.example/g00884/laws.toField -/
def c_w_toField : C := (.seq (.reg r_w_toField_0 [1, 2]) (.seq (.reg r_w_toField_1 [1, 2, 3]) (.seq (.reg r_w_toField_2 [1, 2, 3]) (.seq (.reg r_w_toField_3 [1, 2, 3]) (.seq (.reg r_w_toField_4 [1, 2, 3]) (.seq (.reg r_w_toField_5 [2, 3]) (.seq (.reg r_w_toField_6 [2]) .ret)))))))
def k_w_toField : Nat → List Nat
  | 0 => [1, 2]
  | 1 => [1, 2, 3]
  | 2 => [1, 2, 3]
  | 3 => [1, 2, 3]
  | 4 => [1, 2, 3]
  | 5 => [2, 3]
  | 6 => [2]
  | _ => []
theorem fn_w_toField : FnC Tryz.prog n_w_toField c_w_toField [(.cell 2 true 4)] 17 :=
  ⟨Tryz.f68, _, k_w_toField, Tryz.func68, rfl, by kernel_rfl, by kernel_rfl, by kernel_rfl, rfl⟩
def r_w_toGroup_0 : List CO := [⟨none, (some 1), (.box 4 (.t 0))⟩, ⟨none, (some 2), (.box 4 (.k (.agg [(.v (.int .i64 (0))), (.v (.int .i64 (0))), (.v (.int .i64 (0))), (.v (.int .i64 (0)))])))⟩]
def r_w_toGroup_1 : List CO := [⟨none, (some 3), (.box 4 (.k (.agg [(.v (.int .i64 (0))), (.v (.int .i64 (0))), (.v (.int .i64 (0))), (.v (.int .i64 (0)))])))⟩]
def r_w_toGroup_2 : List CO := [⟨none, (some 4), (.faddr 0 (.t 1))⟩, ⟨none, (some 5), (.ld false 1 (.t 4))⟩, ⟨none, (some 6), (.faddr 0 (.t 3))⟩, ⟨none, none, (.st 1 (.t 6) (.t 5))⟩]
def r_w_toGroup_3 : List CO := [⟨none, (some 7), (.faddr 1 (.t 1))⟩, ⟨none, (some 8), (.ld false 1 (.t 7))⟩, ⟨none, (some 9), (.faddr 1 (.t 3))⟩, ⟨none, none, (.st 1 (.t 9) (.t 8))⟩]
def r_w_toGroup_4 : List CO := [⟨none, (some 10), (.faddr 2 (.t 1))⟩, ⟨none, (some 11), (.ld false 1 (.t 10))⟩, ⟨none, (some 12), (.faddr 2 (.t 3))⟩, ⟨none, none, (.st 1 (.t 12) (.t 11))⟩]
def r_w_toGroup_5 : List CO := [⟨none, (some 13), (.faddr 3 (.t 1))⟩, ⟨none, (some 14), (.ld false 1 (.t 13))⟩, ⟨none, (some 15), (.faddr 3 (.t 3))⟩, ⟨none, none, (.st 1 (.t 15) (.t 14))⟩]
def r_w_toGroup_6 : List CO := [⟨none, (some 16), (.ld true 4 (.t 3))⟩, ⟨none, none, (.st 4 (.t 2) (.t 16))⟩]
/-- loop.example/g00884/laws.toGroup -/
def c_w_toGroup : C := (.seq (.reg r_w_toGroup_0 [1, 2]) (.seq (.reg r_w_toGroup_1 [1, 2, 3]) (.seq (.reg r_w_toGroup_2 [1, 2, 3]) (.seq (.reg r_w_toGroup_3 [1, 2, 3]) (.seq (.reg r_w_toGroup_4 [1, 2, 3]) (.seq (.reg r_w_toGroup_5 [2, 3]) (.seq (.reg r_w_toGroup_6 [2]) .ret)))))))
def k_w_toGroup : Nat → List Nat
  | 0 => [1, 2]
  | 1 => [1, 2, 3]
  | 2 => [1, 2, 3]
  | 3 => [1, 2, 3]
  | 4 => [1, 2, 3]
  | 5 => [2, 3]
  | 6 => [2]
  | _ => []
theorem fn_w_toGroup : FnC Tryz.prog n_w_toGroup c_w_toGroup [(.cell 2 true 4)] 17 :=
  ⟨Tryz.f69, _, k_w_toGroup, Tryz.func69, rfl, by kernel_rfl, by kernel_rfl, by kernel_rfl, rfl⟩
def r_w_toArms_0 : List CO := [⟨none, (some 1), (.box 15 (.t 0))⟩, ⟨none, (some 2), (.box 15 (.k (.agg [(.v (.int .i64 (0))), (.v (.int .i64 (0))), (.v (.int .i64 (0))), (.v (.int .i64 (0))), (.v (.int .i64 (0))), (.v (.int .i64 (0))), (.v (.int .i64 (0))), (.v (.int .i64 (0))), (.v (.int .i64 (0))), (.v (.int .i64 (0))), (.v (.int .i64 (0))), (.v (.int .i64 (0))), (.v (.int .i64 (0))), (.v (.int .i64 (0))), (.v (.int .i64 (0)))])))⟩]
def r_w_toArms_1 : List CO := [⟨none, (some 3), (.box 15 (.k (.agg [(.v (.int .i64 (0))), (.v (.int .i64 (0))), (.v (.int .i64 (0))), (.v (.int .i64 (0))), (.v (.int .i64 (0))), (.v (.int .i64 (0))), (.v (.int .i64 (0))), (.v (.int .i64 (0))), (.v (.int .i64 (0))), (.v (.int .i64 (0))), (.v (.int .i64 (0))), (.v (.int .i64 (0))), (.v (.int .i64 (0))), (.v (.int .i64 (0))), (.v (.int .i64 (0)))])))⟩]
def r_w_toArms_2 : List CO := [⟨none, (some 4), (.faddr 0 (.t 1))⟩, ⟨none, (some 5), (.ld true 4 (.t 4))⟩, ⟨none, (some 6), (.call n_w_toField [(.t 5)])⟩, ⟨none, (some 7), (.faddr 0 (.t 3))⟩, ⟨none, none, (.st 4 (.t 7) (.t 6))⟩]
def r_w_toArms_3 : List CO := [⟨none, (some 8), (.faddr 4 (.t 1))⟩, ⟨none, (some 9), (.ld false 1 (.t 8))⟩, ⟨none, (some 10), (.faddr 4 (.t 3))⟩, ⟨none, none, (.st 1 (.t 10) (.t 9))⟩]
def r_w_toArms_4 : List CO := [⟨none, (some 11), (.faddr 5 (.t 1))⟩, ⟨none, (some 12), (.ld false 1 (.t 11))⟩, ⟨none, (some 13), (.faddr 5 (.t 3))⟩, ⟨none, none, (.st 1 (.t 13) (.t 12))⟩]
def r_w_toArms_5 : List CO := [⟨none, (some 14), (.faddr 6 (.t 1))⟩, ⟨none, (some 15), (.ld false 1 (.t 14))⟩, ⟨none, (some 16), (.faddr 6 (.t 3))⟩, ⟨none, none, (.st 1 (.t 16) (.t 15))⟩]
def r_w_toArms_6 : List CO := [⟨none, (some 17), (.faddr 7 (.t 1))⟩, ⟨none, (some 18), (.ld true 4 (.t 17))⟩, ⟨none, (some 19), (.call n_w_toGroup [(.t 18)])⟩, ⟨none, (some 20), (.faddr 7 (.t 3))⟩, ⟨none, none, (.st 4 (.t 20) (.t 19))⟩]
def r_w_toArms_7 : List CO := [⟨none, (some 21), (.faddr 11 (.t 1))⟩, ⟨none, (some 22), (.ld true 4 (.t 21))⟩, ⟨none, (some 23), (.call n_w_toGroup [(.t 22)])⟩, ⟨none, (some 24), (.faddr 11 (.t 3))⟩, ⟨none, none, (.st 4 (.t 24) (.t 23))⟩]
def r_w_toArms_8 : List CO := [⟨none, (some 25), (.ld true 15 (.t 3))⟩, ⟨none, none, (.st 15 (.t 2) (.t 25))⟩]
/-- loop.example/g00884/laws.toArms -/
def c_w_toArms : C := (.seq (.reg r_w_toArms_0 [1, 2]) (.seq (.reg r_w_toArms_1 [1, 2, 3]) (.seq (.reg r_w_toArms_2 [1, 2, 3]) (.seq (.reg r_w_toArms_3 [1, 2, 3]) (.seq (.reg r_w_toArms_4 [1, 2, 3]) (.seq (.reg r_w_toArms_5 [1, 2, 3]) (.seq (.reg r_w_toArms_6 [1, 2, 3]) (.seq (.reg r_w_toArms_7 [2, 3]) (.seq (.reg r_w_toArms_8 [2]) .ret)))))))))
def k_w_toArms : Nat → List Nat
  | 0 => [1, 2]
  | 1 => [1, 2, 3]
  | 2 => [1, 2, 3]
  | 3 => [1, 2, 3]
  | 4 => [1, 2, 3]
  | 5 => [1, 2, 3]
  | 6 => [1, 2, 3]
  | 7 => [2, 3]
  | 8 => [2]
  | _ => []
theorem fn_w_toArms : FnC Tryz.prog n_w_toArms c_w_toArms [(.cell 2 true 15)] 26 :=
  ⟨Tryz.f45, _, k_w_toArms, Tryz.func45, rfl, by kernel_rfl, by kernel_rfl, by kernel_rfl, rfl⟩
def r_i_isLine_0 : List CO := [⟨none, (some 2), (.mv (.k (.v (.bool false))))⟩]
def r_i_isLine_1 : List CO := [⟨none, (some 3), (.mv (.t 0))⟩, ⟨none, (some 4), (.call n_i_inside [(.t 3), (.k (.v (.int .i64 (0)))), (.k (.v (.int .i64 (4))))])⟩, ⟨none, (some 2), (.mv (.t 4))⟩]
/-- loop.example/g00884/impl.isLine -/
def c_i_isLine : C := (.seq (.reg r_i_isLine_0 [0]) (.seq (.reg r_i_isLine_1 [2]) .ret))
def k_i_isLine : Nat → List Nat
  | 0 => [0]
  | 1 => [2]
  | _ => []
theorem fn_i_isLine : FnC Tryz.prog n_i_isLine c_i_isLine [(.tmp 2)] 5 :=
  ⟨Tryz.f70, _, k_i_isLine, Tryz.func70, rfl, by kernel_rfl, by kernel_rfl, by kernel_rfl, rfl⟩
def r_i_isKind_0 : List CO := [⟨none, (some 2), (.mv (.k (.v (.bool false))))⟩]
def r_i_isKind_1 : List CO := [⟨none, (some 3), (.mv (.t 0))⟩, ⟨none, (some 4), (.call n_i_inside [(.t 3), (.k (.v (.int .i64 (1)))), (.k (.v (.int .i64 (8))))])⟩, ⟨none, (some 2), (.mv (.t 4))⟩]
/-- loop.example/g00884/impl.isKind -/
def c_i_isKind : C := (.seq (.reg r_i_isKind_0 [0]) (.seq (.reg r_i_isKind_1 [2]) .ret))
def k_i_isKind : Nat → List Nat
  | 0 => [0]
  | 1 => [2]
  | _ => []
theorem fn_i_isKind : FnC Tryz.prog n_i_isKind c_i_isKind [(.tmp 2)] 5 :=
  ⟨Tryz.f91, _, k_i_isKind, Tryz.func91, rfl, by kernel_rfl, by kernel_rfl, by kernel_rfl, rfl⟩
def r_s_l3Line_0 : List CO := [⟨none, (some 2), (.mv (.k (.v (.bool false))))⟩]
def r_s_l3Line_1 : List CO := [⟨none, (some 3), (.mv (.t 0))⟩, ⟨none, (some 4), (.call n_s_l1In [(.t 3), (.k (.v (.int .i64 (0)))), (.k (.v (.int .i64 (4))))])⟩, ⟨none, (some 2), (.mv (.t 4))⟩]
/-- loop.example/g00884/spec.l3Line -/
def c_s_l3Line : C := (.seq (.reg r_s_l3Line_0 [0]) (.seq (.reg r_s_l3Line_1 [2]) .ret))
def k_s_l3Line : Nat → List Nat
  | 0 => [0]
  | 1 => [2]
  | _ => []
theorem fn_s_l3Line : FnC Tryz.prog n_s_l3Line c_s_l3Line [(.tmp 2)] 5 :=
  ⟨Tryz.f59, _, k_s_l3Line, Tryz.func59, rfl, by kernel_rfl, by kernel_rfl, by kernel_rfl, rfl⟩
def r_s_l4Kind_0 : List CO := [⟨none, (some 2), (.mv (.k (.v (.bool false))))⟩]
def r_s_l4Kind_1 : List CO := [⟨none, (some 3), (.mv (.t 0))⟩, ⟨none, (some 4), (.call n_s_l1In [(.t 3), (.k (.v (.int .i64 (1)))), (.k (.v (.int .i64 (8))))])⟩, ⟨none, (some 2), (.mv (.t 4))⟩]
/-- loop.example/g00884/spec.l4Kind -/
def c_s_l4Kind : C := (.seq (.reg r_s_l4Kind_0 [0]) (.seq (.reg r_s_l4Kind_1 [2]) .ret))
def k_s_l4Kind : Nat → List Nat
  | 0 => [0]
  | 1 => [2]
  | _ => []
theorem fn_s_l4Kind : FnC Tryz.prog n_s_l4Kind c_s_l4Kind [(.tmp 2)] 5 :=
  ⟨Tryz.f85, _, k_s_l4Kind, Tryz.func85, rfl, by kernel_rfl, by kernel_rfl, by kernel_rfl, rfl⟩
def r_s_l4Beast_0 : List CO := [⟨none, (some 2), (.mv (.k (.v (.bool false))))⟩]
def r_s_l4Beast_1 : List CO := [⟨none, (some 3), (.mv (.t 0))⟩, ⟨none, (some 4), (.bin .leq .none (.t 3) (.k (.v (.int .i64 (3)))))⟩, ⟨none, (some 2), (.mv (.t 4))⟩]
/-- loop.example/g00884/spec.l4Beast -/
def c_s_l4Beast : C := (.seq (.reg r_s_l4Beast_0 [0]) (.seq (.reg r_s_l4Beast_1 [2]) .ret))
def k_s_l4Beast : Nat → List Nat
  | 0 => [0]
  | 1 => [2]
  | _ => []
theorem fn_s_l4Beast : FnC Tryz.prog n_s_l4Beast c_s_l4Beast [(.tmp 2)] 5 :=
  ⟨Tryz.f86, _, k_s_l4Beast, Tryz.func86, rfl, by kernel_rfl, by kernel_rfl, by kernel_rfl, rfl⟩
def r_s_l4None_0 : List CO := [⟨none, (some 1), (.box 4 (.t 0))⟩, ⟨none, (some 2), (.mv (.k (.v (.bool false))))⟩]
def r_s_l4None_1 : List CO := [⟨none, (some 3), (.ld true 4 (.t 1))⟩, ⟨none, (some 4), (.build (.agg [(.v (.int .i64 (0))), (.v (.int .i64 (0))), (.v (.int .i64 (0))), (.v (.int .i64 (0)))]) [])⟩, ⟨none, (some 5), (.bin .eql (.struct [EK.int, EK.int, EK.int, EK.int]) (.t 3) (.t 4))⟩, ⟨none, (some 2), (.mv (.t 5))⟩]
/-- loop.example/g00884/spec.l4None -/
def c_s_l4None : C := (.seq (.reg r_s_l4None_0 [1]) (.seq (.reg r_s_l4None_1 [2]) .ret))
def k_s_l4None : Nat → List Nat
  | 0 => [1]
  | 1 => [2]
  | _ => []
theorem fn_s_l4None : FnC Tryz.prog n_s_l4None c_s_l4None [(.tmp 2)] 6 :=
  ⟨Tryz.f57, _, k_s_l4None, Tryz.func57, rfl, by kernel_rfl, by kernel_rfl, by kernel_rfl, rfl⟩
def r_i_number_0 : List CO := [⟨none, (some 2), (.mv (.k (.v (.int .i64 (0)))))⟩]
def r_i_number_1 : List CO := [⟨none, (some 3), (.mv (.t 0))⟩]
def r_i_number_2 : List CO := [⟨none, (some 2), (.mv (.k (.v (.int .i64 (1)))))⟩]
def r_i_number_3 : List CO := [⟨none, (some 2), (.mv (.k (.v (.int .i64 (0)))))⟩]
/-- loop.example/g00884/impl.number -/
def c_i_number : C := (.seq (.reg r_i_number_0 [0]) (.seq (.seq (.reg r_i_number_1 [3]) (.cond (.t 3) (.seq (.reg r_i_number_2 [2]) .ret) .skip)) (.seq (.reg r_i_number_3 [2]) .ret)))
def k_i_number : Nat → List Nat
  | 0 => [0]
  | 1 => [3]
  | 2 => [2]
  | 3 => [2]
  | _ => []
theorem fn_i_number : FnC Tryz.prog n_i_number c_i_number [(.tmp 2)] 4 :=
  ⟨Tryz.f75, _, k_i_number, Tryz.func75, rfl, by kernel_rfl, by kernel_rfl, by kernel_rfl, rfl⟩
def r_i_attitudes_0 : List CO := [⟨none, (some 2), (.mv (.k (.v (.slice none 0 0))))⟩]
def r_i_attitudes_1 : List CO := [⟨none, (some 3), (.mv (.t 0))⟩]
def r_i_attitudes_2 : List CO := [⟨none, (some 5), (.bin .eql .none (.t 3) (.k (.v (.int .i64 (1)))))⟩, ⟨none, (some 4), (.mv (.t 5))⟩]
def r_i_attitudes_3 : List CO := [⟨none, (some 6), (.bslice 1 (.v (.string (bs []))) 2 [(0, (.k (.v (.string (bs [114, 97, 109, 112, 97, 110, 116]))))), (1, (.k (.v (.string (bs [112, 97, 115, 115, 97, 110, 116])))))])⟩, ⟨none, (some 2), (.mv (.t 6))⟩]
def r_i_attitudes_4 : List CO := [⟨none, (some 8), (.bin .eql .none (.t 3) (.k (.v (.int .i64 (2)))))⟩, ⟨none, (some 7), (.mv (.t 8))⟩]
def r_i_attitudes_5 : List CO := [⟨none, (some 9), (.bslice 1 (.v (.string (bs []))) 2 [(0, (.k (.v (.string (bs [100, 105, 115, 112, 108, 97, 121, 101, 100]))))), (1, (.k (.v (.string (bs [114, 105, 115, 105, 110, 103])))))])⟩, ⟨none, (some 2), (.mv (.t 9))⟩]
def r_i_attitudes_6 : List CO := [⟨none, (some 11), (.bin .eql .none (.t 3) (.k (.v (.int .i64 (3)))))⟩, ⟨none, (some 10), (.mv (.t 11))⟩]
def r_i_attitudes_7 : List CO := [⟨none, (some 12), (.bslice 1 (.v (.string (bs []))) 2 [(0, (.k (.v (.string (bs [115, 119, 105, 109, 109, 105, 110, 103]))))), (1, (.k (.v (.string (bs [117, 112, 114, 105, 103, 104, 116])))))])⟩, ⟨none, (some 2), (.mv (.t 12))⟩]
def r_i_attitudes_8 : List CO := [⟨none, (some 13), (.bslice 1 (.v (.string (bs []))) 0 [])⟩, ⟨none, (some 2), (.mv (.t 13))⟩]
/-- loop.example/g00884/impl.attitudes -/
def c_i_attitudes : C := (.seq (.reg r_i_attitudes_0 [0]) (.seq (.seq (.reg r_i_attitudes_1 [3]) (.block 0 (.seq (.reg r_i_attitudes_2 [3, 4]) (.cond (.t 4) (.seq (.reg r_i_attitudes_3 [2]) .ret) (.seq (.reg r_i_attitudes_4 [3, 7]) (.cond (.t 7) (.seq (.reg r_i_attitudes_5 [2]) .ret) (.seq (.reg r_i_attitudes_6 [10]) (.cond (.t 10) (.seq (.reg r_i_attitudes_7 [2]) .ret) .skip)))))))) (.seq (.reg r_i_attitudes_8 [2]) .ret)))
def k_i_attitudes : Nat → List Nat
  | 0 => [0]
  | 1 => [3]
  | 2 => [3, 4]
  | 3 => [2]
  | 4 => [3, 7]
  | 5 => [2]
  | 6 => [10]
  | 7 => [2]
  | 8 => [2]
  | _ => []
theorem fn_i_attitudes : FnC Tryz.prog n_i_attitudes c_i_attitudes [(.tmp 2)] 14 :=
  ⟨Tryz.f92, _, k_i_attitudes, Tryz.func92, rfl, by kernel_rfl, by kernel_rfl, by kernel_rfl, rfl⟩
def r_s_l3Good_0 : List CO := [⟨none, (some 1), (.box 4 (.t 0))⟩, ⟨none, (some 2), (.mv (.k (.v (.bool false))))⟩]
def r_s_l3Good_1 : List CO := [⟨none, (some 3), (.faddr 0 (.t 1))⟩, ⟨none, (some 4), (.ld false 1 (.t 3))⟩, ⟨none, (some 5), (.call n_s_l1In [(.t 4), (.k (.v (.int .i64 (0)))), (.k (.v (.int .i64 (7))))])⟩, ⟨none, (some 6), (.un .not (.t 5))⟩, ⟨none, (some 7), (.mv (.t 6))⟩, ⟨(some (7, false)), (some 8), (.faddr 1 (.t 1))⟩, ⟨(some (7, false)), (some 9), (.ld false 1 (.t 8))⟩, ⟨(some (7, false)), (some 10), (.call n_s_l3Line [(.t 9)])⟩, ⟨(some (7, false)), (some 11), (.un .not (.t 10))⟩, ⟨none, (some 12), (.pick (.t 7) (.k (.v (.bool true))) (.t 11))⟩, ⟨none, (some 13), (.mv (.t 12))⟩, ⟨(some (13, false)), (some 14), (.faddr 2 (.t 1))⟩, ⟨(some (13, false)), (some 15), (.ld false 1 (.t 14))⟩, ⟨(some (13, false)), (some 16), (.call n_s_l2Good [(.t 15)])⟩, ⟨(some (13, false)), (some 17), (.un .not (.t 16))⟩, ⟨none, (some 18), (.pick (.t 13) (.k (.v (.bool true))) (.t 17))⟩]
def r_s_l3Good_2 : List CO := [⟨none, (some 2), (.mv (.k (.v (.bool false))))⟩]
def r_s_l3Good_3 : List CO := [⟨none, (some 19), (.faddr 0 (.t 1))⟩, ⟨none, (some 20), (.ld false 1 (.t 19))⟩, ⟨none, (some 21), (.bin .eql .none (.t 20) (.k (.v (.int .i64 (0)))))⟩]
def r_s_l3Good_4 : List CO := [⟨none, (some 22), (.faddr 1 (.t 1))⟩, ⟨none, (some 23), (.ld false 1 (.t 22))⟩, ⟨none, (some 24), (.bin .eql .none (.t 23) (.k (.v (.int .i64 (0)))))⟩, ⟨none, (some 25), (.mv (.t 24))⟩, ⟨(some (25, true)), (some 26), (.faddr 3 (.t 1))⟩, ⟨(some (25, true)), (some 27), (.ld false 1 (.t 26))⟩, ⟨(some (25, true)), (some 28), (.bin .eql .none (.t 27) (.k (.v (.int .i64 (0)))))⟩, ⟨none, (some 29), (.pick (.t 25) (.t 28) (.k (.v (.bool false))))⟩, ⟨none, (some 2), (.mv (.t 29))⟩]
def r_s_l3Good_5 : List CO := [⟨none, (some 30), (.faddr 3 (.t 1))⟩, ⟨none, (some 31), (.ld false 1 (.t 30))⟩, ⟨none, (some 32), (.call n_s_l2Good [(.t 31)])⟩, ⟨none, (some 33), (.mv (.t 32))⟩, ⟨(some (33, true)), (some 34), (.faddr 3 (.t 1))⟩, ⟨(some (33, true)), (some 35), (.ld false 1 (.t 34))⟩, ⟨(some (33, true)), (some 36), (.faddr 2 (.t 1))⟩, ⟨(some (33, true)), (some 37), (.ld false 1 (.t 36))⟩, ⟨(some (33, true)), (some 38), (.bin .neq .none (.t 35) (.t 37))⟩, ⟨none, (some 39), (.pick (.t 33) (.t 38) (.k (.v (.bool false))))⟩, ⟨none, (some 2), (.mv (.t 39))⟩]
/-- loop.example/g00884/spec.l3Good -/
def c_s_l3Good : C := (.seq (.reg r_s_l3Good_0 [1]) (.seq (.seq (.reg r_s_l3Good_1 [1, 18]) (.cond (.t 18) (.seq (.reg r_s_l3Good_2 [2]) .ret) .skip)) (.seq (.seq (.reg r_s_l3Good_3 [1, 21]) (.cond (.t 21) (.seq (.reg r_s_l3Good_4 [2]) .ret) .skip)) (.seq (.reg r_s_l3Good_5 [2]) .ret))))
def k_s_l3Good : Nat → List Nat
  | 0 => [1]
  | 1 => [1, 18]
  | 2 => [2]
  | 3 => [1, 21]
  | 4 => [2]
  | 5 => [2]
  | _ => []
theorem fn_s_l3Good : FnC Tryz.prog n_s_l3Good c_s_l3Good [(.tmp 2)] 40 :=
  ⟨Tryz.f56, _, k_s_l3Good, Tryz.func56, rfl, by kernel_rfl, by kernel_rfl, by kernel_rfl, rfl⟩
def r_i_IsValidField_0 : List CO := [⟨none, (some 1), (.box 4 (.t 0))⟩, ⟨none, (some 2), (.mv (.k (.v (.bool false))))⟩]
def r_i_IsValidField_1 : List CO := [⟨none, (some 3), (.faddr 0 (.t 1))⟩, ⟨none, (some 4), (.ld false 1 (.t 3))⟩, ⟨none, (some 5), (.call n_i_inside [(.t 4), (.k (.v (.int .i64 (0)))), (.k (.v (.int .i64 (7))))])⟩, ⟨none, (some 6), (.un .not (.t 5))⟩, ⟨none, (some 7), (.mv (.t 6))⟩, ⟨(some (7, false)), (some 8), (.faddr 1 (.t 1))⟩, ⟨(some (7, false)), (some 9), (.ld false 1 (.t 8))⟩, ⟨(some (7, false)), (some 10), (.call n_i_isLine [(.t 9)])⟩, ⟨(some (7, false)), (some 11), (.un .not (.t 10))⟩, ⟨none, (some 12), (.pick (.t 7) (.k (.v (.bool true))) (.t 11))⟩, ⟨none, (some 13), (.mv (.t 12))⟩, ⟨(some (13, false)), (some 14), (.faddr 2 (.t 1))⟩, ⟨(some (13, false)), (some 15), (.ld false 1 (.t 14))⟩, ⟨(some (13, false)), (some 16), (.call n_i_IsTincture [(.t 15)])⟩, ⟨(some (13, false)), (some 17), (.un .not (.t 16))⟩, ⟨none, (some 18), (.pick (.t 13) (.k (.v (.bool true))) (.t 17))⟩]
def r_i_IsValidField_2 : List CO := [⟨none, (some 2), (.mv (.k (.v (.bool false))))⟩]
def r_i_IsValidField_3 : List CO := [⟨none, (some 19), (.faddr 0 (.t 1))⟩, ⟨none, (some 20), (.ld false 1 (.t 19))⟩, ⟨none, (some 21), (.bin .eql .none (.t 20) (.k (.v (.int .i64 (0)))))⟩]
def r_i_IsValidField_4 : List CO := [⟨none, (some 22), (.faddr 1 (.t 1))⟩, ⟨none, (some 23), (.ld false 1 (.t 22))⟩, ⟨none, (some 24), (.bin .eql .none (.t 23) (.k (.v (.int .i64 (0)))))⟩, ⟨none, (some 25), (.mv (.t 24))⟩, ⟨(some (25, true)), (some 26), (.faddr 3 (.t 1))⟩, ⟨(some (25, true)), (some 27), (.ld false 1 (.t 26))⟩, ⟨(some (25, true)), (some 28), (.bin .eql .none (.t 27) (.k (.v (.int .i64 (0)))))⟩, ⟨none, (some 29), (.pick (.t 25) (.t 28) (.k (.v (.bool false))))⟩, ⟨none, (some 2), (.mv (.t 29))⟩]
def r_i_IsValidField_5 : List CO := [⟨none, (some 30), (.faddr 3 (.t 1))⟩, ⟨none, (some 31), (.ld false 1 (.t 30))⟩, ⟨none, (some 32), (.call n_i_IsTincture [(.t 31)])⟩, ⟨none, (some 33), (.mv (.t 32))⟩, ⟨(some (33, true)), (some 34), (.faddr 3 (.t 1))⟩, ⟨(some (33, true)), (some 35), (.ld false 1 (.t 34))⟩, ⟨(some (33, true)), (some 36), (.faddr 2 (.t 1))⟩, ⟨(some (33, true)), (some 37), (.ld false 1 (.t 36))⟩, ⟨(some (33, true)), (some 38), (.bin .neq .none (.t 35) (.t 37))⟩, ⟨none, (some 39), (.pick (.t 33) (.t 38) (.k (.v (.bool false))))⟩, ⟨none, (some 2), (.mv (.t 39))⟩]
/-- loop.example/g00884/impl.IsValidField -/
def c_i_IsValidField : C := (.seq (.reg r_i_IsValidField_0 [1]) (.seq (.seq (.reg r_i_IsValidField_1 [1, 18]) (.cond (.t 18) (.seq (.reg r_i_IsValidField_2 [2]) .ret) .skip)) (.seq (.seq (.reg r_i_IsValidField_3 [1, 21]) (.cond (.t 21) (.seq (.reg r_i_IsValidField_4 [2]) .ret) .skip)) (.seq (.reg r_i_IsValidField_5 [2]) .ret))))
def k_i_IsValidField : Nat → List Nat
  | 0 => [1]
  | 1 => [1, 18]
  | 2 => [2]
  | 3 => [1, 21]
  | 4 => [2]
  | 5 => [2]
  | _ => []
theorem fn_i_IsValidField : FnC Tryz.prog n_i_IsValidField c_i_IsValidField [(.tmp 2)] 40 :=
  ⟨Tryz.f46, _, k_i_IsValidField, Tryz.func46, rfl, by kernel_rfl, by kernel_rfl, by kernel_rfl, rfl⟩
def r_s_l4Group_0 : List CO := [⟨none, (some 1), (.box 4 (.t 0))⟩, ⟨none, (some 2), (.mv (.k (.v (.bool false))))⟩]
def r_s_l4Group_1 : List CO := [⟨none, (some 3), (.faddr 0 (.t 1))⟩, ⟨none, (some 4), (.ld false 1 (.t 3))⟩, ⟨none, (some 5), (.call n_s_l1In [(.t 4), (.k (.v (.int .i64 (1)))), (.k (.v (.int .i64 (6))))])⟩, ⟨none, (some 6), (.un .not (.t 5))⟩, ⟨none, (some 7), (.mv (.t 6))⟩, ⟨(some (7, false)), (some 8), (.faddr 1 (.t 1))⟩, ⟨(some (7, false)), (some 9), (.ld false 1 (.t 8))⟩, ⟨(some (7, false)), (some 10), (.call n_s_l4Kind [(.t 9)])⟩, ⟨(some (7, false)), (some 11), (.un .not (.t 10))⟩, ⟨none, (some 12), (.pick (.t 7) (.k (.v (.bool true))) (.t 11))⟩, ⟨none, (some 13), (.mv (.t 12))⟩, ⟨(some (13, false)), (some 14), (.faddr 3 (.t 1))⟩, ⟨(some (13, false)), (some 15), (.ld false 1 (.t 14))⟩, ⟨(some (13, false)), (some 16), (.call n_s_l2Good [(.t 15)])⟩, ⟨(some (13, false)), (some 17), (.un .not (.t 16))⟩, ⟨none, (some 18), (.pick (.t 13) (.k (.v (.bool true))) (.t 17))⟩]
def r_s_l4Group_2 : List CO := [⟨none, (some 2), (.mv (.k (.v (.bool false))))⟩]
def r_s_l4Group_3 : List CO := [⟨none, (some 19), (.faddr 1 (.t 1))⟩, ⟨none, (some 20), (.ld false 1 (.t 19))⟩, ⟨none, (some 21), (.call n_s_l4Beast [(.t 20)])⟩]
def r_s_l4Group_4 : List CO := [⟨none, (some 22), (.faddr 2 (.t 1))⟩, ⟨none, (some 23), (.ld false 1 (.t 22))⟩, ⟨none, (some 24), (.call n_s_l1In [(.t 23), (.k (.v (.int .i64 (1)))), (.k (.v (.int .i64 (2))))])⟩, ⟨none, (some 2), (.mv (.t 24))⟩]
def r_s_l4Group_5 : List CO := [⟨none, (some 25), (.faddr 2 (.t 1))⟩, ⟨none, (some 26), (.ld false 1 (.t 25))⟩, ⟨none, (some 27), (.bin .eql .none (.t 26) (.k (.v (.int .i64 (0)))))⟩, ⟨none, (some 2), (.mv (.t 27))⟩]
/-- loop.example/g00884/spec.l4Group -/
def c_s_l4Group : C := (.seq (.reg r_s_l4Group_0 [1]) (.seq (.seq (.reg r_s_l4Group_1 [1, 18]) (.cond (.t 18) (.seq (.reg r_s_l4Group_2 [2]) .ret) .skip)) (.seq (.seq (.reg r_s_l4Group_3 [1, 21]) (.cond (.t 21) (.seq (.reg r_s_l4Group_4 [2]) .ret) .skip)) (.seq (.reg r_s_l4Group_5 [2]) .ret))))
def k_s_l4Group : Nat → List Nat
  | 0 => [1]
  | 1 => [1, 18]
  | 2 => [2]
  | 3 => [1, 21]
  | 4 => [2]
  | 5 => [2]
  | _ => []
theorem fn_s_l4Group : FnC Tryz.prog n_s_l4Group c_s_l4Group [(.tmp 2)] 28 :=
  ⟨Tryz.f58, _, k_s_l4Group, Tryz.func58, rfl, by kernel_rfl, by kernel_rfl, by kernel_rfl, rfl⟩
def r_i_IsValidGroup_0 : List CO := [⟨none, (some 1), (.box 4 (.t 0))⟩, ⟨none, (some 2), (.mv (.k (.v (.bool false))))⟩]
def r_i_IsValidGroup_1 : List CO := [⟨none, (some 4), (.faddr 0 (.t 1))⟩, ⟨none, (some 5), (.ld false 1 (.t 4))⟩, ⟨none, (some 6), (.call n_i_inside [(.t 5), (.k (.v (.int .i64 (1)))), (.k (.v (.int .i64 (6))))])⟩, ⟨none, (some 7), (.un .not (.t 6))⟩, ⟨none, (some 8), (.mv (.t 7))⟩, ⟨(some (8, false)), (some 9), (.faddr 1 (.t 1))⟩, ⟨(some (8, false)), (some 10), (.ld false 1 (.t 9))⟩, ⟨(some (8, false)), (some 11), (.call n_i_isKind [(.t 10)])⟩, ⟨(some (8, false)), (some 12), (.un .not (.t 11))⟩, ⟨none, (some 13), (.pick (.t 8) (.k (.v (.bool true))) (.t 12))⟩, ⟨none, (some 14), (.mv (.t 13))⟩, ⟨(some (14, false)), (some 15), (.faddr 3 (.t 1))⟩, ⟨(some (14, false)), (some 16), (.ld false 1 (.t 15))⟩, ⟨(some (14, false)), (some 17), (.call n_i_IsTincture [(.t 16)])⟩, ⟨(some (14, false)), (some 18), (.un .not (.t 17))⟩, ⟨none, (some 19), (.pick (.t 14) (.k (.v (.bool true))) (.t 18))⟩]
def r_i_IsValidGroup_2 : List CO := [⟨none, (some 2), (.mv (.k (.v (.bool false))))⟩]
def r_i_IsValidGroup_3 : List CO := [⟨none, (some 20), (.faddr 1 (.t 1))⟩, ⟨none, (some 21), (.ld false 1 (.t 20))⟩, ⟨none, (some 22), (.call n_i_attitudes [(.t 21)])⟩, ⟨none, (some 23), (.len false (.t 22))⟩, ⟨none, (some 3), (.mv (.t 23))⟩]
def r_i_IsValidGroup_4 : List CO := [⟨none, (some 24), (.mv (.t 3))⟩, ⟨none, (some 25), (.bin .gtr .none (.t 24) (.k (.v (.int .i64 (0)))))⟩]
def r_i_IsValidGroup_5 : List CO := [⟨none, (some 26), (.faddr 2 (.t 1))⟩, ⟨none, (some 27), (.ld false 1 (.t 26))⟩, ⟨none, (some 28), (.mv (.t 3))⟩, ⟨none, (some 29), (.call n_i_inside [(.t 27), (.k (.v (.int .i64 (1)))), (.t 28)])⟩, ⟨none, (some 2), (.mv (.t 29))⟩]
def r_i_IsValidGroup_6 : List CO := [⟨none, (some 30), (.faddr 2 (.t 1))⟩, ⟨none, (some 31), (.ld false 1 (.t 30))⟩, ⟨none, (some 32), (.bin .eql .none (.t 31) (.k (.v (.int .i64 (0)))))⟩, ⟨none, (some 2), (.mv (.t 32))⟩]
/-- loop.example/g00884/impl.IsValidGroup -/
def c_i_IsValidGroup : C := (.seq (.reg r_i_IsValidGroup_0 [1]) (.seq (.seq (.reg r_i_IsValidGroup_1 [1, 19]) (.cond (.t 19) (.seq (.reg r_i_IsValidGroup_2 [2]) .ret) .skip)) (.seq (.seq (.reg r_i_IsValidGroup_3 [1, 3]) (.seq (.reg r_i_IsValidGroup_4 [1, 3, 25]) (.cond (.t 25) (.seq (.reg r_i_IsValidGroup_5 [2]) .ret) .skip))) (.seq (.reg r_i_IsValidGroup_6 [2]) .ret))))
def k_i_IsValidGroup : Nat → List Nat
  | 0 => [1]
  | 1 => [1, 19]
  | 2 => [2]
  | 3 => [1, 3]
  | 4 => [1, 3, 25]
  | 5 => [2]
  | 6 => [2]
  | _ => []
theorem fn_i_IsValidGroup : FnC Tryz.prog n_i_IsValidGroup c_i_IsValidGroup [(.tmp 2)] 33 :=
  ⟨Tryz.f72, _, k_i_IsValidGroup, Tryz.func72, rfl, by kernel_rfl, by kernel_rfl, by kernel_rfl, rfl⟩
def r_i_isGroup_0 : List CO := [⟨none, (some 1), (.box 4 (.t 0))⟩, ⟨none, (some 2), (.mv (.k (.v (.bool false))))⟩]
def r_i_isGroup_1 : List CO := [⟨none, (some 3), (.ld true 4 (.t 1))⟩, ⟨none, (some 4), (.build (.agg [(.v (.int .i64 (0))), (.v (.int .i64 (0))), (.v (.int .i64 (0))), (.v (.int .i64 (0)))]) [])⟩, ⟨none, (some 5), (.bin .eql (.struct [EK.int, EK.int, EK.int, EK.int]) (.t 3) (.t 4))⟩, ⟨none, (some 6), (.mv (.t 5))⟩, ⟨(some (6, false)), (some 7), (.ld true 4 (.t 1))⟩, ⟨(some (6, false)), (some 8), (.call n_i_IsValidGroup [(.t 7)])⟩, ⟨none, (some 9), (.pick (.t 6) (.k (.v (.bool true))) (.t 8))⟩, ⟨none, (some 2), (.mv (.t 9))⟩]
/-- loop.example/g00884/impl.isGroup -/
def c_i_isGroup : C := (.seq (.reg r_i_isGroup_0 [1]) (.seq (.reg r_i_isGroup_1 [2]) .ret))
def k_i_isGroup : Nat → List Nat
  | 0 => [1]
  | 1 => [2]
  | _ => []
theorem fn_i_isGroup : FnC Tryz.prog n_i_isGroup c_i_isGroup [(.tmp 2)] 10 :=
  ⟨Tryz.f47, _, k_i_isGroup, Tryz.func47, rfl, by kernel_rfl, by kernel_rfl, by kernel_rfl, rfl⟩
def r_i_isOrdinary_0 : List CO := [⟨none, (some 6), (.mv (.k (.v (.bool false))))⟩]
def r_i_isOrdinary_1 : List CO := [⟨none, (some 7), (.mv (.t 0))⟩, ⟨none, (some 8), (.call n_i_inside [(.t 7), (.k (.v (.int .i64 (1)))), (.k (.v (.int .i64 (7))))])⟩, ⟨none, (some 9), (.mv (.t 8))⟩, ⟨(some (9, true)), (some 10), (.mv (.t 1))⟩, ⟨(some (9, true)), (some 11), (.call n_i_isLine [(.t 10)])⟩, ⟨none, (some 12), (.pick (.t 9) (.t 11) (.k (.v (.bool false))))⟩, ⟨none, (some 13), (.mv (.t 12))⟩, ⟨(some (13, true)), (some 14), (.mv (.t 2))⟩, ⟨(some (13, true)), (some 15), (.call n_i_IsTincture [(.t 14)])⟩, ⟨none, (some 16), (.pick (.t 13) (.t 15) (.k (.v (.bool false))))⟩, ⟨none, (some 6), (.mv (.t 16))⟩]
/-- loop.example/g00884/impl.isOrdinary -/
def c_i_isOrdinary : C := (.seq (.reg r_i_isOrdinary_0 [0, 1, 2]) (.seq (.reg r_i_isOrdinary_1 [6]) .ret))
def k_i_isOrdinary : Nat → List Nat
  | 0 => [0, 1, 2]
  | 1 => [6]
  | _ => []
theorem fn_i_isOrdinary : FnC Tryz.prog n_i_isOrdinary c_i_isOrdinary [(.tmp 6)] 17 :=
  ⟨Tryz.f48, _, k_i_isOrdinary, Tryz.func48, rfl, by kernel_rfl, by kernel_rfl, by kernel_rfl, rfl⟩
def r_i_IsValidArms_0 : List CO := [⟨none, (some 1), (.box 15 (.t 0))⟩, ⟨none, (some 2), (.mv (.k (.v (.bool false))))⟩]
def r_i_IsValidArms_1 : List CO := [⟨none, (some 3), (.faddr 0 (.t 1))⟩, ⟨none, (some 4), (.ld true 4 (.t 3))⟩, ⟨none, (some 5), (.call n_i_IsValidField [(.t 4)])⟩, ⟨none, (some 6), (.un .not (.t 5))⟩, ⟨none, (some 7), (.mv (.t 6))⟩, ⟨(some (7, false)), (some 8), (.faddr 11 (.t 1))⟩, ⟨(some (7, false)), (some 9), (.ld true 4 (.t 8))⟩, ⟨(some (7, false)), (some 10), (.call n_i_isGroup [(.t 9)])⟩, ⟨(some (7, false)), (some 11), (.un .not (.t 10))⟩, ⟨none, (some 12), (.pick (.t 7) (.k (.v (.bool true))) (.t 11))⟩]
def r_i_IsValidArms_2 : List CO := [⟨none, (some 2), (.mv (.k (.v (.bool false))))⟩]
def r_i_IsValidArms_3 : List CO := [⟨none, (some 13), (.faddr 4 (.t 1))⟩, ⟨none, (some 14), (.ld false 1 (.t 13))⟩, ⟨none, (some 15), (.bin .eql .none (.t 14) (.k (.v (.int .i64 (0)))))⟩]
def r_i_IsValidArms_4 : List CO := [⟨none, (some 16), (.faddr 5 (.t 1))⟩, ⟨none, (some 17), (.ld false 1 (.t 16))⟩, ⟨none, (some 18), (.bin .eql .none (.t 17) (.k (.v (.int .i64 (0)))))⟩, ⟨none, (some 19), (.mv (.t 18))⟩, ⟨(some (19, true)), (some 20), (.faddr 6 (.t 1))⟩, ⟨(some (19, true)), (some 21), (.ld false 1 (.t 20))⟩, ⟨(some (19, true)), (some 22), (.bin .eql .none (.t 21) (.k (.v (.int .i64 (0)))))⟩, ⟨none, (some 23), (.pick (.t 19) (.t 22) (.k (.v (.bool false))))⟩, ⟨none, (some 24), (.mv (.t 23))⟩, ⟨(some (24, true)), (some 25), (.faddr 7 (.t 1))⟩, ⟨(some (24, true)), (some 26), (.ld true 4 (.t 25))⟩, ⟨(some (24, true)), (some 27), (.build (.agg [(.v (.int .i64 (0))), (.v (.int .i64 (0))), (.v (.int .i64 (0))), (.v (.int .i64 (0)))]) [])⟩, ⟨(some (24, true)), (some 28), (.bin .eql (.struct [EK.int, EK.int, EK.int, EK.int]) (.t 26) (.t 27))⟩, ⟨none, (some 29), (.pick (.t 24) (.t 28) (.k (.v (.bool false))))⟩, ⟨none, (some 2), (.mv (.t 29))⟩]
def r_i_IsValidArms_5 : List CO := [⟨none, (some 30), (.faddr 4 (.t 1))⟩, ⟨none, (some 31), (.ld false 1 (.t 30))⟩, ⟨none, (some 32), (.faddr 5 (.t 1))⟩, ⟨none, (some 33), (.ld false 1 (.t 32))⟩, ⟨none, (some 34), (.faddr 6 (.t 1))⟩, ⟨none, (some 35), (.ld false 1 (.t 34))⟩, ⟨none, (some 36), (.call n_i_isOrdinary [(.t 31), (.t 33), (.t 35)])⟩, ⟨none, (some 37), (.mv (.t 36))⟩, ⟨(some (37, true)), (some 38), (.faddr 7 (.t 1))⟩, ⟨(some (37, true)), (some 39), (.ld true 4 (.t 38))⟩, ⟨(some (37, true)), (some 40), (.call n_i_isGroup [(.t 39)])⟩, ⟨none, (some 41), (.pick (.t 37) (.t 40) (.k (.v (.bool false))))⟩, ⟨none, (some 2), (.mv (.t 41))⟩]
/-- loop.example/g00884/impl.IsValidArms -/
def c_i_IsValidArms : C := (.seq (.reg r_i_IsValidArms_0 [1]) (.seq (.seq (.reg r_i_IsValidArms_1 [1, 12]) (.cond (.t 12) (.seq (.reg r_i_IsValidArms_2 [2]) .ret) .skip)) (.seq (.seq (.reg r_i_IsValidArms_3 [1, 15]) (.cond (.t 15) (.seq (.reg r_i_IsValidArms_4 [2]) .ret) .skip)) (.seq (.reg r_i_IsValidArms_5 [2]) .ret))))
def k_i_IsValidArms : Nat → List Nat
  | 0 => [1]
  | 1 => [1, 12]
  | 2 => [2]
  | 3 => [1, 15]
  | 4 => [2]
  | 5 => [2]
  | _ => []
theorem fn_i_IsValidArms : FnC Tryz.prog n_i_IsValidArms c_i_IsValidArms [(.tmp 2)] 42 :=
  ⟨Tryz.f30, _, k_i_IsValidArms, Tryz.func30, rfl, by kernel_rfl, by kernel_rfl, by kernel_rfl, rfl⟩
def r_s_l5Good_0 : List CO := [⟨none, (some 1), (.box 15 (.t 0))⟩, ⟨none, (some 2), (.mv (.k (.v (.bool false))))⟩]
def r_s_l5Good_1 : List CO := [⟨none, (some 3), (.faddr 0 (.t 1))⟩, ⟨none, (some 4), (.ld true 4 (.t 3))⟩, ⟨none, (some 5), (.call n_s_l3Good [(.t 4)])⟩, ⟨none, (some 6), (.un .not (.t 5))⟩, ⟨none, (some 7), (.mv (.t 6))⟩, ⟨(some (7, false)), (some 8), (.faddr 4 (.t 1))⟩, ⟨(some (7, false)), (some 9), (.ld false 1 (.t 8))⟩, ⟨(some (7, false)), (some 10), (.call n_s_l1In [(.t 9), (.k (.v (.int .i64 (0)))), (.k (.v (.int .i64 (7))))])⟩, ⟨(some (7, false)), (some 11), (.un .not (.t 10))⟩, ⟨none, (some 12), (.pick (.t 7) (.k (.v (.bool true))) (.t 11))⟩, ⟨none, (some 13), (.mv (.t 12))⟩, ⟨(some (13, false)), (some 14), (.faddr 11 (.t 1))⟩, ⟨(some (13, false)), (some 15), (.ld true 4 (.t 14))⟩, ⟨(some (13, false)), (some 16), (.call n_s_l4None [(.t 15)])⟩, ⟨(some (13, false)), (some 17), (.un .not (.t 16))⟩, ⟨(some (13, false)), (some 18), (.mv (.t 17))⟩, ⟨(some (18, true)), (some 19), (.faddr 11 (.t 1))⟩, ⟨(some (18, true)), (some 20), (.ld true 4 (.t 19))⟩, ⟨(some (18, true)), (some 21), (.call n_s_l4Group [(.t 20)])⟩, ⟨(some (18, true)), (some 22), (.un .not (.t 21))⟩, ⟨(some (13, false)), (some 23), (.pick (.t 18) (.t 22) (.k (.v (.bool false))))⟩, ⟨none, (some 24), (.pick (.t 13) (.k (.v (.bool true))) (.t 23))⟩]
def r_s_l5Good_2 : List CO := [⟨none, (some 2), (.mv (.k (.v (.bool false))))⟩]
def r_s_l5Good_3 : List CO := [⟨none, (some 25), (.faddr 4 (.t 1))⟩, ⟨none, (some 26), (.ld false 1 (.t 25))⟩, ⟨none, (some 27), (.bin .eql .none (.t 26) (.k (.v (.int .i64 (0)))))⟩]
def r_s_l5Good_4 : List CO := [⟨none, (some 28), (.faddr 5 (.t 1))⟩, ⟨none, (some 29), (.ld false 1 (.t 28))⟩, ⟨none, (some 30), (.bin .eql .none (.t 29) (.k (.v (.int .i64 (0)))))⟩, ⟨none, (some 31), (.mv (.t 30))⟩, ⟨(some (31, true)), (some 32), (.faddr 6 (.t 1))⟩, ⟨(some (31, true)), (some 33), (.ld false 1 (.t 32))⟩, ⟨(some (31, true)), (some 34), (.bin .eql .none (.t 33) (.k (.v (.int .i64 (0)))))⟩, ⟨none, (some 35), (.pick (.t 31) (.t 34) (.k (.v (.bool false))))⟩, ⟨none, (some 36), (.mv (.t 35))⟩, ⟨(some (36, true)), (some 37), (.faddr 7 (.t 1))⟩, ⟨(some (36, true)), (some 38), (.ld true 4 (.t 37))⟩, ⟨(some (36, true)), (some 39), (.call n_s_l4None [(.t 38)])⟩, ⟨none, (some 40), (.pick (.t 36) (.t 39) (.k (.v (.bool false))))⟩, ⟨none, (some 2), (.mv (.t 40))⟩]
def r_s_l5Good_5 : List CO := [⟨none, (some 41), (.faddr 5 (.t 1))⟩, ⟨none, (some 42), (.ld false 1 (.t 41))⟩, ⟨none, (some 43), (.call n_s_l3Line [(.t 42)])⟩, ⟨none, (some 44), (.mv (.t 43))⟩, ⟨(some (44, true)), (some 45), (.faddr 6 (.t 1))⟩, ⟨(some (44, true)), (some 46), (.ld false 1 (.t 45))⟩, ⟨(some (44, true)), (some 47), (.call n_s_l2Good [(.t 46)])⟩, ⟨none, (some 48), (.pick (.t 44) (.t 47) (.k (.v (.bool false))))⟩, ⟨none, (some 49), (.mv (.t 48))⟩, ⟨(some (49, true)), (some 50), (.faddr 7 (.t 1))⟩, ⟨(some (49, true)), (some 51), (.ld true 4 (.t 50))⟩, ⟨(some (49, true)), (some 52), (.call n_s_l4None [(.t 51)])⟩, ⟨(some (49, true)), (some 53), (.mv (.t 52))⟩, ⟨(some (53, false)), (some 54), (.faddr 7 (.t 1))⟩, ⟨(some (53, false)), (some 55), (.ld true 4 (.t 54))⟩, ⟨(some (53, false)), (some 56), (.call n_s_l4Group [(.t 55)])⟩, ⟨(some (49, true)), (some 57), (.pick (.t 53) (.k (.v (.bool true))) (.t 56))⟩, ⟨none, (some 58), (.pick (.t 49) (.t 57) (.k (.v (.bool false))))⟩, ⟨none, (some 2), (.mv (.t 58))⟩]
/-- loop.example/g00884/spec.l5Good -/
def c_s_l5Good : C := (.seq (.reg r_s_l5Good_0 [1]) (.seq (.seq (.reg r_s_l5Good_1 [1, 24]) (.cond (.t 24) (.seq (.reg r_s_l5Good_2 [2]) .ret) .skip)) (.seq (.seq (.reg r_s_l5Good_3 [1, 27]) (.cond (.t 27) (.seq (.reg r_s_l5Good_4 [2]) .ret) .skip)) (.seq (.reg r_s_l5Good_5 [2]) .ret))))
def k_s_l5Good : Nat → List Nat
  | 0 => [1]
  | 1 => [1, 24]
  | 2 => [2]
  | 3 => [1, 27]
  | 4 => [2]
  | 5 => [2]
  | _ => []
theorem fn_s_l5Good : FnC Tryz.prog n_s_l5Good c_s_l5Good [(.tmp 2)] 59 :=
  ⟨Tryz.f42, _, k_s_l5Good, Tryz.func42, rfl, by kernel_rfl, by kernel_rfl, by kernel_rfl, rfl⟩
end Go.Proofs.YtbeoijlggphklaaGreat
