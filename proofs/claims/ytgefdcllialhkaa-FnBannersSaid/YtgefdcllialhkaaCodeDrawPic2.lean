/- The compact code of the functions, and that it is theirs: written by a program of this claim. -/
import Derived.Test.YtgefdcllialhkaaNums
namespace Go.Proofs.Ytgefdcllialhkaa
open Go.Abs
set_option maxRecDepth 100000
def r_s_OrdinaryCells_0 : List CO := [⟨none, (some 2), (.box 1 (.k (.agg [(.v (.slice none 0 0))])))⟩, ⟨none, (some 3), (.mv (.k (.v (.bool false))))⟩]
def r_s_OrdinaryCells_1 : List CO := [⟨none, (some 7), (.mv (.t 0))⟩, ⟨none, (some 8), (.call n_s_l1In [(.t 7), (.k (.v (.int .i64 (0)))), (.k (.v (.int .i64 (7))))])⟩, ⟨none, (some 9), (.un .not (.t 8))⟩]
def r_s_OrdinaryCells_2 : List CO := [⟨none, (some 10), (.build (.agg [(.v (.slice none 0 0))]) [])⟩, ⟨none, none, (.st 1 (.t 2) (.t 10))⟩, ⟨none, (some 3), (.mv (.k (.v (.bool false))))⟩]
def r_s_OrdinaryCells_3 : List CO := [⟨none, (some 11), (.call n_s_l9Empty [])⟩, ⟨none, (some 4), (.box 1 (.k (.agg [(.v (.slice none 0 0))])))⟩, ⟨none, none, (.st 1 (.t 4) (.t 11))⟩]
def r_s_OrdinaryCells_4 : List CO := [⟨none, (some 5), (.mv (.k (.v (.int .i64 (0)))))⟩]
def r_s_OrdinaryCells_5 : List CO := [⟨none, (some 12), (.mv (.t 5))⟩, ⟨none, (some 13), (.bin .lss .none (.t 12) (.k (.v (.int .i64 (24)))))⟩]
def r_s_OrdinaryCells_6 : List CO := [⟨none, (some 6), (.mv (.k (.v (.int .i64 (0)))))⟩]
def r_s_OrdinaryCells_7 : List CO := [⟨none, (some 16), (.mv (.t 6))⟩, ⟨none, (some 17), (.bin .lss .none (.t 16) (.k (.v (.int .i64 (20)))))⟩]
def r_s_OrdinaryCells_8 : List CO := [⟨none, (some 20), (.mv (.t 0))⟩, ⟨none, (some 21), (.mv (.t 6))⟩, ⟨none, (some 22), (.mv (.t 5))⟩, ⟨none, (some 23), (.call n_s_l9Ord [(.t 20), (.t 21), (.t 22)])⟩]
def r_s_OrdinaryCells_9 : List CO := [⟨none, (some 24), (.ld true 1 (.t 4))⟩, ⟨none, (some 25), (.mv (.t 6))⟩, ⟨none, (some 26), (.mv (.t 5))⟩, ⟨none, (some 27), (.call n_s_l9Add [(.t 24), (.t 25), (.t 26)])⟩]
def r_s_OrdinaryCells_10 : List CO := [⟨none, (some 18), (.mv (.t 6))⟩, ⟨none, (some 19), (.bin .add .none (.t 18) (.k (.v (.int .i64 (1)))))⟩, ⟨none, (some 6), (.mv (.t 19))⟩]
def l_s_OrdinaryCells_11 : C := (.seq (.seq (.reg r_s_OrdinaryCells_7 [0, 2, 4, 5, 6, 17]) (.cond (.t 17) .skip (.exit 2))) (.seq (.block 3 (.seq (.reg r_s_OrdinaryCells_8 [0, 2, 4, 5, 6, 23]) (.cond (.t 23) (.reg r_s_OrdinaryCells_9 [0, 2, 4, 5, 6]) .skip))) (.reg r_s_OrdinaryCells_10 [0, 2, 4, 5, 6])))
def r_s_OrdinaryCells_12 : List CO := [⟨none, (some 14), (.mv (.t 5))⟩, ⟨none, (some 15), (.bin .add .none (.t 14) (.k (.v (.int .i64 (1)))))⟩, ⟨none, (some 5), (.mv (.t 15))⟩]
def l_s_OrdinaryCells_13 : C := (.seq (.seq (.reg r_s_OrdinaryCells_5 [0, 2, 4, 5, 13]) (.cond (.t 13) .skip (.exit 0))) (.seq (.block 1 (.seq (.reg r_s_OrdinaryCells_6 [0, 2, 4, 5, 6]) (.block 2 (.loop l_s_OrdinaryCells_11)))) (.reg r_s_OrdinaryCells_12 [0, 2, 4, 5])))
def r_s_OrdinaryCells_14 : List CO := [⟨none, (some 28), (.ld true 1 (.t 4))⟩, ⟨none, none, (.st 1 (.t 2) (.t 28))⟩, ⟨none, (some 3), (.mv (.k (.v (.bool true))))⟩]
/-- loop.example/g00884/spec.OrdinaryCells -/
def c_s_OrdinaryCells : C := (.seq (.reg r_s_OrdinaryCells_0 [0, 2]) (.seq (.seq (.reg r_s_OrdinaryCells_1 [0, 2, 9]) (.cond (.t 9) (.seq (.reg r_s_OrdinaryCells_2 [2, 3]) .ret) .skip)) (.seq (.reg r_s_OrdinaryCells_3 [0, 2, 4]) (.seq (.seq (.reg r_s_OrdinaryCells_4 [0, 2, 4, 5]) (.block 0 (.loop l_s_OrdinaryCells_13))) (.seq (.reg r_s_OrdinaryCells_14 [2, 3]) .ret)))))
def k_s_OrdinaryCells : Nat → List Nat
  | 0 => [0, 2]
  | 1 => [0, 2, 9]
  | 2 => [2, 3]
  | 3 => [0, 2, 4]
  | 4 => [0, 2, 4, 5]
  | 5 => [0, 2, 4, 5, 13]
  | 7 => [0, 2, 4, 5, 6]
  | 8 => [0, 2, 4, 5, 6, 17]
  | 10 => [0, 2, 4, 5, 6, 23]
  | 11 => [0, 2, 4, 5, 6]
  | 9 => [0, 2, 4, 5, 6]
  | 6 => [0, 2, 4, 5]
  | 12 => [2, 3]
  | _ => []
theorem fn_s_OrdinaryCells : FnC Try.prog n_s_OrdinaryCells c_s_OrdinaryCells [(.cell 2 true 1), (.tmp 3)] 29 :=
  ⟨Try.f137, _, k_s_OrdinaryCells, Try.func137, rfl, by kernel_rfl, by kernel_rfl, by kernel_rfl, rfl⟩
def r_s_l14Picture_0 : List CO := [⟨none, (some 2), (.box 4 (.t 0))⟩, ⟨none, (some 3), (.box 1 (.t 1))⟩, ⟨none, (some 4), (.mv (.k (.v (.slice none 0 0))))⟩]
def r_s_l14Picture_1 : List CO := [⟨none, (some 11), (.bslice 1 (.v (.slice none 0 0)) 0 [])⟩, ⟨none, (some 5), (.mv (.t 11))⟩]
def r_s_l14Picture_2 : List CO := [⟨none, (some 6), (.mv (.k (.v (.int .i64 (0)))))⟩]
def r_s_l14Picture_3 : List CO := [⟨none, (some 12), (.mv (.t 6))⟩, ⟨none, (some 13), (.bin .lss .none (.t 12) (.k (.v (.int .i64 (24)))))⟩]
def r_s_l14Picture_4 : List CO := [⟨none, (some 16), (.bslice 1 (.v (.int .i64 (0))) 0 [])⟩, ⟨none, (some 7), (.mv (.t 16))⟩]
def r_s_l14Picture_5 : List CO := [⟨none, (some 8), (.mv (.k (.v (.int .i64 (0)))))⟩]
def r_s_l14Picture_6 : List CO := [⟨none, (some 17), (.mv (.t 8))⟩, ⟨none, (some 18), (.bin .lss .none (.t 17) (.k (.v (.int .i64 (20)))))⟩]
def r_s_l14Picture_7 : List CO := [⟨none, (some 22), (.ld true 4 (.t 2))⟩, ⟨none, (some 23), (.mv (.t 8))⟩, ⟨none, (some 24), (.mv (.t 6))⟩, ⟨none, (some 25), (.call n_s_FieldTincture [(.t 22), (.t 23), (.t 24)])⟩, ⟨none, (some 21), (.mv (.t 25))⟩, ⟨none, (some 26), (.ext (.t 21) 0)⟩, ⟨none, (some 27), (.ext (.t 21) 1)⟩, ⟨none, (some 9), (.mv (.t 26))⟩, ⟨none, (some 10), (.mv (.t 27))⟩]
def r_s_l14Picture_8 : List CO := [⟨none, (some 28), (.ld true 1 (.t 3))⟩, ⟨none, (some 29), (.mv (.t 8))⟩, ⟨none, (some 30), (.mv (.t 6))⟩, ⟨none, (some 31), (.call n_s_l9Has [(.t 28), (.t 29), (.t 30)])⟩]
def r_s_l14Picture_9 : List CO := [⟨none, (some 32), (.ld true 4 (.t 2))⟩, ⟨none, (some 33), (.mv (.t 9))⟩, ⟨none, (some 34), (.call n_s_l14Other [(.t 32), (.t 33)])⟩, ⟨none, (some 9), (.mv (.t 34))⟩]
def r_s_l14Picture_10 : List CO := [⟨none, (some 35), (.mv (.t 7))⟩, ⟨none, (some 36), (.mv (.t 9))⟩, ⟨none, (some 37), (.bslice 1 (.v (.int .i64 (0))) 1 [(0, (.t 36))])⟩, ⟨none, (some 38), (.app 1 8 (.t 35) (.t 37))⟩, ⟨none, (some 7), (.mv (.t 38))⟩]
def r_s_l14Picture_11 : List CO := [⟨none, (some 19), (.mv (.t 8))⟩, ⟨none, (some 20), (.bin .add .none (.t 19) (.k (.v (.int .i64 (1)))))⟩, ⟨none, (some 8), (.mv (.t 20))⟩]
def l_s_l14Picture_12 : C := (.seq (.seq (.reg r_s_l14Picture_6 [2, 3, 5, 6, 7, 8, 18]) (.cond (.t 18) .skip (.exit 2))) (.seq (.block 3 (.seq (.reg r_s_l14Picture_7 [2, 3, 5, 6, 7, 8, 9]) (.seq (.seq (.reg r_s_l14Picture_8 [2, 3, 5, 6, 7, 8, 9, 31]) (.cond (.t 31) (.reg r_s_l14Picture_9 [2, 3, 5, 6, 7, 8, 9]) .skip)) (.reg r_s_l14Picture_10 [2, 3, 5, 6, 7, 8])))) (.reg r_s_l14Picture_11 [2, 3, 5, 6, 7, 8])))
def r_s_l14Picture_13 : List CO := [⟨none, (some 39), (.mv (.t 5))⟩, ⟨none, (some 40), (.mv (.t 7))⟩, ⟨none, (some 41), (.bslice 1 (.v (.slice none 0 0)) 1 [(0, (.t 40))])⟩, ⟨none, (some 42), (.app 1 24 (.t 39) (.t 41))⟩, ⟨none, (some 5), (.mv (.t 42))⟩]
def r_s_l14Picture_14 : List CO := [⟨none, (some 14), (.mv (.t 6))⟩, ⟨none, (some 15), (.bin .add .none (.t 14) (.k (.v (.int .i64 (1)))))⟩, ⟨none, (some 6), (.mv (.t 15))⟩]
def l_s_l14Picture_15 : C := (.seq (.seq (.reg r_s_l14Picture_3 [2, 3, 5, 6, 13]) (.cond (.t 13) .skip (.exit 0))) (.seq (.block 1 (.seq (.reg r_s_l14Picture_4 [2, 3, 5, 6, 7]) (.seq (.seq (.reg r_s_l14Picture_5 [2, 3, 5, 6, 7, 8]) (.block 2 (.loop l_s_l14Picture_12))) (.reg r_s_l14Picture_13 [2, 3, 5, 6])))) (.reg r_s_l14Picture_14 [2, 3, 5, 6])))
def r_s_l14Picture_16 : List CO := [⟨none, (some 43), (.mv (.t 5))⟩, ⟨none, (some 4), (.mv (.t 43))⟩]
/-- loop.example/g00884/spec.l14Picture -/
def c_s_l14Picture : C := (.seq (.reg r_s_l14Picture_0 [2, 3]) (.seq (.reg r_s_l14Picture_1 [2, 3, 5]) (.seq (.seq (.reg r_s_l14Picture_2 [2, 3, 5, 6]) (.block 0 (.loop l_s_l14Picture_15))) (.seq (.reg r_s_l14Picture_16 [4]) .ret))))
def k_s_l14Picture : Nat → List Nat
  | 0 => [2, 3]
  | 1 => [2, 3, 5]
  | 2 => [2, 3, 5, 6]
  | 3 => [2, 3, 5, 6, 13]
  | 5 => [2, 3, 5, 6, 7]
  | 6 => [2, 3, 5, 6, 7, 8]
  | 7 => [2, 3, 5, 6, 7, 8, 18]
  | 9 => [2, 3, 5, 6, 7, 8, 9]
  | 10 => [2, 3, 5, 6, 7, 8, 9, 31]
  | 11 => [2, 3, 5, 6, 7, 8, 9]
  | 12 => [2, 3, 5, 6, 7, 8]
  | 8 => [2, 3, 5, 6, 7, 8]
  | 13 => [2, 3, 5, 6]
  | 4 => [2, 3, 5, 6]
  | 14 => [4]
  | _ => []
theorem fn_s_l14Picture : FnC Try.prog n_s_l14Picture c_s_l14Picture [(.tmp 4)] 44 :=
  ⟨Try.f141, _, k_s_l14Picture, Try.func141, rfl, by kernel_rfl, by kernel_rfl, by kernel_rfl, rfl⟩
def r_s_FieldPicture_0 : List CO := [⟨none, (some 1), (.box 4 (.t 0))⟩, ⟨none, (some 2), (.mv (.k (.v (.slice none 0 0))))⟩, ⟨none, (some 3), (.mv (.k (.v (.bool false))))⟩]
def r_s_FieldPicture_1 : List CO := [⟨none, (some 4), (.ld true 4 (.t 1))⟩, ⟨none, (some 5), (.call n_s_l3Good [(.t 4)])⟩, ⟨none, (some 6), (.un .not (.t 5))⟩]
def r_s_FieldPicture_2 : List CO := [⟨none, (some 7), (.bslice 1 (.v (.slice none 0 0)) 0 [])⟩, ⟨none, (some 2), (.mv (.t 7))⟩, ⟨none, (some 3), (.mv (.k (.v (.bool false))))⟩]
def r_s_FieldPicture_3 : List CO := [⟨none, (some 8), (.ld true 4 (.t 1))⟩, ⟨none, (some 9), (.call n_s_l9Empty [])⟩, ⟨none, (some 10), (.call n_s_l14Picture [(.t 8), (.t 9)])⟩, ⟨none, (some 2), (.mv (.t 10))⟩, ⟨none, (some 3), (.mv (.k (.v (.bool true))))⟩]
def p_s_FieldPicture_3 : List (List Nat) := [[], [], [0, 1], [0, 1, 2], [0, 1, 2, 3]]
/-- loop.example/g00884/spec.FieldPicture -/
def c_s_FieldPicture : C := (.seq (.reg r_s_FieldPicture_0 [1]) (.seq (.seq (.reg r_s_FieldPicture_1 [1, 6]) (.cond (.t 6) (.seq (.reg r_s_FieldPicture_2 [2, 3]) .ret) .skip)) (.seq (.regD r_s_FieldPicture_3 p_s_FieldPicture_3 [2, 3]) .ret)))
def k_s_FieldPicture : Nat → List Nat
  | 0 => [1]
  | 1 => [1, 6]
  | 2 => [2, 3]
  | 3 => [2, 3]
  | _ => []
theorem fn_s_FieldPicture : FnC Try.prog n_s_FieldPicture c_s_FieldPicture [(.tmp 2), (.tmp 3)] 11 :=
  ⟨Try.f136, _, k_s_FieldPicture, Try.func136, rfl, by kernel_rfl, by kernel_rfl, by kernel_rfl, rfl⟩
end Go.Proofs.Ytgefdcllialhkaa
