/- The compact code of the functions, and that it is theirs: written by a program of this claim. -/
import Derived.Test.YtgefdcllialhkaaNums
namespace Go.Proofs.Ytgefdcllialhkaa
open Go.Abs
set_option maxRecDepth 100000
def r_slices_Clone_i_Petition_i_Petition_0 : List CO := [⟨none, (some 2), (.mv (.k (.v (.slice none 0 0))))⟩]
def r_slices_Clone_i_Petition_i_Petition_1 : List CO := [⟨none, (some 3), (.mv (.t 0))⟩, ⟨none, (some 4), (.bin .eql .nil (.t 3) (.k (.v (.slice none 0 0))))⟩]
def r_slices_Clone_i_Petition_i_Petition_2 : List CO := [⟨none, (some 2), (.mv (.k (.v (.slice none 0 0))))⟩]
def r_slices_Clone_i_Petition_i_Petition_3 : List CO := [⟨none, (some 5), (.bslice 5 (.agg [(.v (.int .i64 (0))), (.v (.int .i64 (0))), (.v (.int .i64 (0))), (.v (.int .i64 (0))), (.v (.int .i64 (0)))]) 0 [])⟩, ⟨none, (some 6), (.mv (.t 0))⟩, ⟨none, (some 7), (.app 5 40 (.t 5) (.t 6))⟩, ⟨none, (some 2), (.mv (.t 7))⟩]
/-- slices.Clone[[]loop.example/g00884/impl.Petition,loop.example/g00884/impl.Petition] -/
def c_slices_Clone_i_Petition_i_Petition : C := (.seq (.reg r_slices_Clone_i_Petition_i_Petition_0 [0]) (.seq (.seq (.reg r_slices_Clone_i_Petition_i_Petition_1 [0, 4]) (.cond (.t 4) (.seq (.reg r_slices_Clone_i_Petition_i_Petition_2 [2]) .ret) .skip)) (.seq (.reg r_slices_Clone_i_Petition_i_Petition_3 [2]) .ret)))
def k_slices_Clone_i_Petition_i_Petition : Nat → List Nat
  | 0 => [0]
  | 1 => [0, 4]
  | 2 => [2]
  | 3 => [2]
  | _ => []
theorem fn_slices_Clone_i_Petition_i_Petition : FnC Try.prog n_slices_Clone_i_Petition_i_Petition c_slices_Clone_i_Petition_i_Petition [(.tmp 2)] 8 :=
  ⟨Try.f80, _, k_slices_Clone_i_Petition_i_Petition, Try.func80, rfl, by kernel_rfl, by kernel_rfl, by kernel_rfl, rfl⟩
def r_s_OpenPetition_0 : List CO := [⟨none, (some 6), (.mv (.k (.v (.slice none 0 0))))⟩, ⟨none, (some 7), (.mv (.k (.v (.int .i64 (0)))))⟩, ⟨none, (some 8), (.mv (.k (.v (.bool false))))⟩]
def r_s_OpenPetition_1 : List CO := [⟨none, (some 11), (.mv (.t 0))⟩, ⟨none, (some 12), (.call n_s_l26Good [(.t 11)])⟩, ⟨none, (some 13), (.un .not (.t 12))⟩]
def r_s_OpenPetition_2 : List CO := [⟨none, (some 14), (.bslice 5 (.agg [(.v (.int .i64 (0))), (.v (.int .i64 (0))), (.v (.int .i64 (0))), (.v (.int .i64 (0))), (.v (.int .i64 (0)))]) 0 [])⟩, ⟨none, (some 6), (.mv (.t 14))⟩, ⟨none, (some 7), (.mv (.k (.v (.int .i64 (0)))))⟩, ⟨none, (some 8), (.mv (.k (.v (.bool false))))⟩]
def r_s_OpenPetition_3 : List CO := [⟨none, (some 9), (.mv (.k (.v (.int .i64 (1)))))⟩]
def r_s_OpenPetition_4 : List CO := [⟨none, (some 15), (.mv (.t 0))⟩, ⟨none, (some 16), (.len false (.t 15))⟩, ⟨none, (some 17), (.bin .gtr .none (.t 16) (.k (.v (.int .i64 (0)))))⟩]
def r_s_OpenPetition_5 : List CO := [⟨none, (some 18), (.mv (.t 0))⟩, ⟨none, (some 19), (.mv (.t 0))⟩, ⟨none, (some 20), (.len false (.t 19))⟩, ⟨none, (some 21), (.bin .sub .none (.t 20) (.k (.v (.int .i64 (1)))))⟩, ⟨none, (some 22), (.iaddr 5 (.t 18) (.t 21))⟩, ⟨none, (some 23), (.faddr 0 (.t 22))⟩, ⟨none, (some 24), (.ld false 1 (.t 23))⟩, ⟨none, (some 25), (.bin .add .none (.t 24) (.k (.v (.int .i64 (1)))))⟩, ⟨none, (some 9), (.mv (.t 25))⟩]
def r_s_OpenPetition_6 : List CO := [⟨none, (some 26), (.bslice 5 (.agg [(.v (.int .i64 (0))), (.v (.int .i64 (0))), (.v (.int .i64 (0))), (.v (.int .i64 (0))), (.v (.int .i64 (0)))]) 0 [])⟩, ⟨none, (some 27), (.mv (.t 0))⟩, ⟨none, (some 28), (.app 5 40 (.t 26) (.t 27))⟩, ⟨none, (some 29), (.mv (.t 9))⟩, ⟨none, (some 30), (.mv (.t 1))⟩, ⟨none, (some 31), (.mv (.t 2))⟩, ⟨none, (some 32), (.build (.agg [(.v (.int .i64 (0))), (.v (.int .i64 (0))), (.v (.int .i64 (0))), (.v (.int .i64 (0))), (.v (.int .i64 (0)))]) [(0, (1, (.t 29))), (1, (1, (.t 30))), (2, (1, (.t 31))), (3, (1, (.k (.v (.int .i64 (1))))))])⟩, ⟨none, (some 33), (.bslice 5 (.agg [(.v (.int .i64 (0))), (.v (.int .i64 (0))), (.v (.int .i64 (0))), (.v (.int .i64 (0))), (.v (.int .i64 (0)))]) 1 [(0, (.t 32))])⟩, ⟨none, (some 34), (.app 5 40 (.t 28) (.t 33))⟩, ⟨none, (some 10), (.mv (.t 34))⟩]
def r_s_OpenPetition_7 : List CO := [⟨none, (some 35), (.mv (.t 10))⟩, ⟨none, (some 36), (.call n_s_l26Good [(.t 35)])⟩, ⟨none, (some 37), (.un .not (.t 36))⟩]
def r_s_OpenPetition_8 : List CO := [⟨none, (some 38), (.bslice 5 (.agg [(.v (.int .i64 (0))), (.v (.int .i64 (0))), (.v (.int .i64 (0))), (.v (.int .i64 (0))), (.v (.int .i64 (0)))]) 0 [])⟩, ⟨none, (some 6), (.mv (.t 38))⟩, ⟨none, (some 7), (.mv (.k (.v (.int .i64 (0)))))⟩, ⟨none, (some 8), (.mv (.k (.v (.bool false))))⟩]
def r_s_OpenPetition_9 : List CO := [⟨none, (some 39), (.mv (.t 10))⟩, ⟨none, (some 40), (.mv (.t 9))⟩, ⟨none, (some 6), (.mv (.t 39))⟩, ⟨none, (some 7), (.mv (.t 40))⟩, ⟨none, (some 8), (.mv (.k (.v (.bool true))))⟩]
/-- loop.example/g00884/spec.OpenPetition -/
def c_s_OpenPetition : C := (.seq (.reg r_s_OpenPetition_0 [0, 1, 2]) (.seq (.seq (.reg r_s_OpenPetition_1 [0, 1, 2, 13]) (.cond (.t 13) (.seq (.reg r_s_OpenPetition_2 [6, 7, 8]) .ret) .skip)) (.seq (.reg r_s_OpenPetition_3 [0, 1, 2, 9]) (.seq (.seq (.reg r_s_OpenPetition_4 [0, 1, 2, 9, 17]) (.cond (.t 17) (.reg r_s_OpenPetition_5 [0, 1, 2, 9]) .skip)) (.seq (.wk (.reg r_s_OpenPetition_6 [9, 10])) (.seq (.seq (.reg r_s_OpenPetition_7 [9, 10, 37]) (.cond (.t 37) (.seq (.reg r_s_OpenPetition_8 [6, 7, 8]) .ret) .skip)) (.seq (.reg r_s_OpenPetition_9 [6, 7, 8]) .ret)))))))
def k_s_OpenPetition : Nat → List Nat
  | 0 => [0, 1, 2]
  | 1 => [0, 1, 2, 13]
  | 2 => [6, 7, 8]
  | 3 => [0, 1, 2, 9]
  | 4 => [0, 1, 2, 9, 17]
  | 5 => [0, 1, 2, 9]
  | 6 => [999999, 9, 10]
  | 7 => [9, 10, 37]
  | 8 => [6, 7, 8]
  | 9 => [6, 7, 8]
  | _ => []
theorem fn_s_OpenPetition : FnC Try.prog n_s_OpenPetition c_s_OpenPetition [(.tmp 6), (.tmp 7), (.tmp 8)] 41 :=
  ⟨Try.f32, _, k_s_OpenPetition, Try.func32, rfl, by kernel_rfl, by kernel_rfl, by kernel_rfl, rfl⟩
def r_i_OpenPetition_0 : List CO := [⟨none, (some 6), (.mv (.k (.v (.slice none 0 0))))⟩, ⟨none, (some 7), (.mv (.k (.v (.int .i64 (0)))))⟩, ⟨none, (some 8), (.mv (.k (.v (.bool false))))⟩]
def r_i_OpenPetition_1 : List CO := [⟨none, (some 12), (.mv (.t 0))⟩, ⟨none, (some 13), (.call n_i_IsValidPetitions [(.t 12)])⟩, ⟨none, (some 14), (.un .not (.t 13))⟩]
def r_i_OpenPetition_2 : List CO := [⟨none, (some 6), (.mv (.k (.v (.slice none 0 0))))⟩, ⟨none, (some 7), (.mv (.k (.v (.int .i64 (0)))))⟩, ⟨none, (some 8), (.mv (.k (.v (.bool false))))⟩]
def r_i_OpenPetition_3 : List CO := [⟨none, (some 9), (.mv (.k (.v (.int .i64 (1)))))⟩]
def r_i_OpenPetition_4 : List CO := [⟨none, (some 15), (.mv (.t 0))⟩, ⟨none, (some 16), (.len false (.t 15))⟩, ⟨none, (some 10), (.mv (.t 16))⟩]
def r_i_OpenPetition_5 : List CO := [⟨none, (some 17), (.mv (.t 10))⟩, ⟨none, (some 18), (.bin .gtr .none (.t 17) (.k (.v (.int .i64 (0)))))⟩]
def r_i_OpenPetition_6 : List CO := [⟨none, (some 19), (.mv (.t 0))⟩, ⟨none, (some 20), (.mv (.t 10))⟩, ⟨none, (some 21), (.bin .sub .none (.t 20) (.k (.v (.int .i64 (1)))))⟩, ⟨none, (some 22), (.iaddr 5 (.t 19) (.t 21))⟩, ⟨none, (some 23), (.faddr 0 (.t 22))⟩, ⟨none, (some 24), (.ld false 1 (.t 23))⟩, ⟨none, (some 25), (.bin .add .none (.t 24) (.k (.v (.int .i64 (1)))))⟩, ⟨none, (some 9), (.mv (.t 25))⟩]
def r_i_OpenPetition_7 : List CO := [⟨none, (some 26), (.mv (.t 0))⟩, ⟨none, (some 27), (.call n_slices_Clone_i_Petition_i_Petition [(.t 26)])⟩, ⟨none, (some 28), (.mv (.t 9))⟩, ⟨none, (some 29), (.mv (.t 1))⟩, ⟨none, (some 30), (.mv (.t 2))⟩, ⟨none, (some 31), (.build (.agg [(.v (.int .i64 (0))), (.v (.int .i64 (0))), (.v (.int .i64 (0))), (.v (.int .i64 (0))), (.v (.int .i64 (0)))]) [(0, (1, (.t 28))), (1, (1, (.t 29))), (2, (1, (.t 30))), (3, (1, (.k (.v (.int .i64 (1))))))])⟩, ⟨none, (some 32), (.bslice 5 (.agg [(.v (.int .i64 (0))), (.v (.int .i64 (0))), (.v (.int .i64 (0))), (.v (.int .i64 (0))), (.v (.int .i64 (0)))]) 1 [(0, (.t 31))])⟩, ⟨none, (some 33), (.app 5 40 (.t 27) (.t 32))⟩, ⟨none, (some 11), (.mv (.t 33))⟩]
def r_i_OpenPetition_8 : List CO := [⟨none, (some 34), (.mv (.t 11))⟩, ⟨none, (some 35), (.call n_i_IsValidPetitions [(.t 34)])⟩, ⟨none, (some 36), (.un .not (.t 35))⟩]
def r_i_OpenPetition_9 : List CO := [⟨none, (some 6), (.mv (.k (.v (.slice none 0 0))))⟩, ⟨none, (some 7), (.mv (.k (.v (.int .i64 (0)))))⟩, ⟨none, (some 8), (.mv (.k (.v (.bool false))))⟩]
def r_i_OpenPetition_10 : List CO := [⟨none, (some 37), (.mv (.t 11))⟩, ⟨none, (some 38), (.mv (.t 9))⟩, ⟨none, (some 6), (.mv (.t 37))⟩, ⟨none, (some 7), (.mv (.t 38))⟩, ⟨none, (some 8), (.mv (.k (.v (.bool true))))⟩]
/-- loop.example/g00884/impl.OpenPetition -/
def c_i_OpenPetition : C := (.seq (.reg r_i_OpenPetition_0 [0, 1, 2]) (.seq (.seq (.reg r_i_OpenPetition_1 [0, 1, 2, 14]) (.cond (.t 14) (.seq (.reg r_i_OpenPetition_2 [6, 7, 8]) .ret) .skip)) (.seq (.reg r_i_OpenPetition_3 [0, 1, 2, 9]) (.seq (.seq (.reg r_i_OpenPetition_4 [0, 1, 2, 9, 10]) (.seq (.reg r_i_OpenPetition_5 [0, 1, 2, 9, 10, 18]) (.cond (.t 18) (.reg r_i_OpenPetition_6 [0, 1, 2, 9]) .skip))) (.seq (.wk (.reg r_i_OpenPetition_7 [9, 11])) (.seq (.seq (.reg r_i_OpenPetition_8 [9, 11, 36]) (.cond (.t 36) (.seq (.reg r_i_OpenPetition_9 [6, 7, 8]) .ret) .skip)) (.seq (.reg r_i_OpenPetition_10 [6, 7, 8]) .ret)))))))
def k_i_OpenPetition : Nat → List Nat
  | 0 => [0, 1, 2]
  | 1 => [0, 1, 2, 14]
  | 2 => [6, 7, 8]
  | 3 => [0, 1, 2, 9]
  | 4 => [0, 1, 2, 9, 10]
  | 5 => [0, 1, 2, 9, 10, 18]
  | 6 => [0, 1, 2, 9]
  | 7 => [999999, 9, 11]
  | 8 => [9, 11, 36]
  | 9 => [6, 7, 8]
  | 10 => [6, 7, 8]
  | _ => []
theorem fn_i_OpenPetition : FnC Try.prog n_i_OpenPetition c_i_OpenPetition [(.tmp 6), (.tmp 7), (.tmp 8)] 39 :=
  ⟨Try.f31, _, k_i_OpenPetition, Try.func31, rfl, by kernel_rfl, by kernel_rfl, by kernel_rfl, rfl⟩
end Go.Proofs.Ytgefdcllialhkaa
