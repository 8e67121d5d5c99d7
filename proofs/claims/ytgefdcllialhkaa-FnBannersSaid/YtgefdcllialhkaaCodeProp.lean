/- The compact code of the functions, and that it is theirs: written by a program of this claim. -/
import Derived.Test.YtgefdcllialhkaaNums
namespace Go.Proofs.Ytgefdcllialhkaa
open Go.Abs
set_option maxRecDepth 100000
def r_s_l24Common_0 : List CO := [⟨none, (some 4), (.mv (.k (.v (.int .i64 (0)))))⟩]
def r_s_l24Common_1 : List CO := [⟨none, (some 6), (.mv (.t 1))⟩, ⟨none, (some 7), (.bin .neq .none (.t 6) (.k (.v (.int .i64 (0)))))⟩]
def r_s_l24Common_2 : List CO := [⟨none, (some 8), (.mv (.t 0))⟩, ⟨none, (some 9), (.mv (.t 1))⟩, ⟨none, (some 10), (.bin .rem .none (.t 8) (.t 9))⟩, ⟨none, (some 5), (.mv (.t 10))⟩]
def r_s_l24Common_3 : List CO := [⟨none, (some 11), (.mv (.t 1))⟩, ⟨none, (some 0), (.mv (.t 11))⟩]
def r_s_l24Common_4 : List CO := [⟨none, (some 12), (.mv (.t 5))⟩, ⟨none, (some 1), (.mv (.t 12))⟩]
def l_s_l24Common_5 : C := (.seq (.seq (.reg r_s_l24Common_1 [0, 1, 7]) (.cond (.t 7) .skip (.exit 0))) (.block 1 (.seq (.reg r_s_l24Common_2 [1, 5]) (.seq (.reg r_s_l24Common_3 [0, 5]) (.reg r_s_l24Common_4 [0, 1])))))
def r_s_l24Common_6 : List CO := [⟨none, (some 13), (.mv (.t 0))⟩, ⟨none, (some 4), (.mv (.t 13))⟩]
/-- loop.example/g00884/spec.l24Common -/
def c_s_l24Common : C := (.seq (.reg r_s_l24Common_0 [0, 1]) (.seq (.block 0 (.loop l_s_l24Common_5)) (.seq (.reg r_s_l24Common_6 [4]) .ret)))
def k_s_l24Common : Nat → List Nat
  | 0 => [0, 1]
  | 1 => [0, 1, 7]
  | 2 => [1, 5]
  | 3 => [0, 5]
  | 4 => [0, 1]
  | 5 => [4]
  | _ => []
theorem fn_s_l24Common : FnC Try.prog n_s_l24Common c_s_l24Common [(.tmp 4)] 14 :=
  ⟨Try.f76, _, k_s_l24Common, Try.func76, rfl, by kernel_rfl, by kernel_rfl, by kernel_rfl, rfl⟩
def r_i_absOf_0 : List CO := [⟨none, (some 2), (.mv (.k (.v (.int .i64 (0)))))⟩]
def r_i_absOf_1 : List CO := [⟨none, (some 3), (.mv (.t 0))⟩, ⟨none, (some 4), (.mv (.t 0))⟩, ⟨none, (some 5), (.un .neg (.t 4))⟩, ⟨none, (some 6), (.mm true [(.t 3), (.t 5)])⟩, ⟨none, (some 2), (.mv (.t 6))⟩]
/-- loop.example/g00884/impl.absOf -/
def c_i_absOf : C := (.seq (.reg r_i_absOf_0 [0]) (.seq (.reg r_i_absOf_1 [2]) .ret))
def k_i_absOf : Nat → List Nat
  | 0 => [0]
  | 1 => [2]
  | _ => []
theorem fn_i_absOf : FnC Try.prog n_i_absOf c_i_absOf [(.tmp 2)] 7 :=
  ⟨Try.f62, _, k_i_absOf, Try.func62, rfl, by kernel_rfl, by kernel_rfl, by kernel_rfl, rfl⟩
def r_i_gcdOf_0 : List CO := [⟨none, (some 4), (.mv (.k (.v (.int .i64 (0)))))⟩]
def r_i_gcdOf_1 : List CO := [⟨none, (some 5), (.mv (.t 0))⟩, ⟨none, (some 6), (.call n_i_absOf [(.t 5)])⟩, ⟨none, (some 7), (.mv (.t 1))⟩, ⟨none, (some 8), (.call n_i_absOf [(.t 7)])⟩, ⟨none, (some 0), (.mv (.t 6))⟩, ⟨none, (some 1), (.mv (.t 8))⟩]
def r_i_gcdOf_2 : List CO := [⟨none, (some 9), (.mv (.t 1))⟩, ⟨none, (some 10), (.bin .neq .none (.t 9) (.k (.v (.int .i64 (0)))))⟩]
def r_i_gcdOf_3 : List CO := [⟨none, (some 11), (.mv (.t 1))⟩, ⟨none, (some 12), (.mv (.t 0))⟩, ⟨none, (some 13), (.mv (.t 1))⟩, ⟨none, (some 14), (.bin .rem .none (.t 12) (.t 13))⟩, ⟨none, (some 0), (.mv (.t 11))⟩, ⟨none, (some 1), (.mv (.t 14))⟩]
def p_i_gcdOf_3 : List (List Nat) := [[], [], [], [1, 2], [0, 1], [0, 1, 2, 3, 4]]
def l_i_gcdOf_4 : C := (.seq (.seq (.reg r_i_gcdOf_2 [0, 1, 10]) (.cond (.t 10) .skip (.exit 0))) (.block 1 (.regD r_i_gcdOf_3 p_i_gcdOf_3 [0, 1])))
def r_i_gcdOf_5 : List CO := [⟨none, (some 15), (.mv (.t 0))⟩, ⟨none, (some 4), (.mv (.t 15))⟩]
/-- loop.example/g00884/impl.gcdOf -/
def c_i_gcdOf : C := (.seq (.reg r_i_gcdOf_0 [0, 1]) (.seq (.reg r_i_gcdOf_1 [0, 1]) (.seq (.block 0 (.loop l_i_gcdOf_4)) (.seq (.reg r_i_gcdOf_5 [4]) .ret))))
def k_i_gcdOf : Nat → List Nat
  | 0 => [0, 1]
  | 1 => [0, 1]
  | 2 => [0, 1, 10]
  | 3 => [0, 1]
  | 4 => [4]
  | _ => []
theorem fn_i_gcdOf : FnC Try.prog n_i_gcdOf c_i_gcdOf [(.tmp 4)] 16 :=
  ⟨Try.f75, _, k_i_gcdOf, Try.func75, rfl, by kernel_rfl, by kernel_rfl, by kernel_rfl, rfl⟩
def r_s_l24Proportion_0 : List CO := [⟨none, (some 1), (.box 2 (.t 0))⟩, ⟨none, (some 2), (.mv (.k (.v (.bool false))))⟩]
def r_s_l24Proportion_1 : List CO := [⟨none, (some 3), (.faddr 0 (.t 1))⟩, ⟨none, (some 4), (.ld false 1 (.t 3))⟩, ⟨none, (some 5), (.call n_s_l1In [(.t 4), (.k (.v (.int .i64 (1)))), (.k (.v (.int .i64 (10))))])⟩, ⟨none, (some 6), (.mv (.t 5))⟩, ⟨(some (6, true)), (some 7), (.faddr 1 (.t 1))⟩, ⟨(some (6, true)), (some 8), (.ld false 1 (.t 7))⟩, ⟨(some (6, true)), (some 9), (.call n_s_l1In [(.t 8), (.k (.v (.int .i64 (1)))), (.k (.v (.int .i64 (10))))])⟩, ⟨none, (some 10), (.pick (.t 6) (.t 9) (.k (.v (.bool false))))⟩, ⟨none, (some 11), (.mv (.t 10))⟩, ⟨(some (11, true)), (some 12), (.faddr 0 (.t 1))⟩, ⟨(some (11, true)), (some 13), (.ld false 1 (.t 12))⟩, ⟨(some (11, true)), (some 14), (.faddr 1 (.t 1))⟩, ⟨(some (11, true)), (some 15), (.ld false 1 (.t 14))⟩, ⟨(some (11, true)), (some 16), (.call n_s_l24Common [(.t 13), (.t 15)])⟩, ⟨(some (11, true)), (some 17), (.bin .eql .none (.t 16) (.k (.v (.int .i64 (1)))))⟩, ⟨none, (some 18), (.pick (.t 11) (.t 17) (.k (.v (.bool false))))⟩, ⟨none, (some 2), (.mv (.t 18))⟩]
/-- loop.example/g00884/spec.l24Proportion -/
def c_s_l24Proportion : C := (.seq (.reg r_s_l24Proportion_0 [1]) (.seq (.reg r_s_l24Proportion_1 [2]) .ret))
def k_s_l24Proportion : Nat → List Nat
  | 0 => [1]
  | 1 => [2]
  | _ => []
theorem fn_s_l24Proportion : FnC Try.prog n_s_l24Proportion c_s_l24Proportion [(.tmp 2)] 19 :=
  ⟨Try.f74, _, k_s_l24Proportion, Try.func74, rfl, by kernel_rfl, by kernel_rfl, by kernel_rfl, rfl⟩
def r_i_isProportion_0 : List CO := [⟨none, (some 1), (.box 2 (.t 0))⟩, ⟨none, (some 2), (.mv (.k (.v (.bool false))))⟩]
def r_i_isProportion_1 : List CO := [⟨none, (some 3), (.faddr 0 (.t 1))⟩, ⟨none, (some 4), (.ld false 1 (.t 3))⟩, ⟨none, (some 5), (.call n_i_inside [(.t 4), (.k (.v (.int .i64 (1)))), (.k (.v (.int .i64 (10))))])⟩, ⟨none, (some 6), (.mv (.t 5))⟩, ⟨(some (6, true)), (some 7), (.faddr 1 (.t 1))⟩, ⟨(some (6, true)), (some 8), (.ld false 1 (.t 7))⟩, ⟨(some (6, true)), (some 9), (.call n_i_inside [(.t 8), (.k (.v (.int .i64 (1)))), (.k (.v (.int .i64 (10))))])⟩, ⟨none, (some 10), (.pick (.t 6) (.t 9) (.k (.v (.bool false))))⟩, ⟨none, (some 11), (.mv (.t 10))⟩, ⟨(some (11, true)), (some 12), (.faddr 0 (.t 1))⟩, ⟨(some (11, true)), (some 13), (.ld false 1 (.t 12))⟩, ⟨(some (11, true)), (some 14), (.faddr 1 (.t 1))⟩, ⟨(some (11, true)), (some 15), (.ld false 1 (.t 14))⟩, ⟨(some (11, true)), (some 16), (.call n_i_gcdOf [(.t 13), (.t 15)])⟩, ⟨(some (11, true)), (some 17), (.bin .eql .none (.t 16) (.k (.v (.int .i64 (1)))))⟩, ⟨none, (some 18), (.pick (.t 11) (.t 17) (.k (.v (.bool false))))⟩, ⟨none, (some 2), (.mv (.t 18))⟩]
/-- loop.example/g00884/impl.isProportion -/
def c_i_isProportion : C := (.seq (.reg r_i_isProportion_0 [1]) (.seq (.reg r_i_isProportion_1 [2]) .ret))
def k_i_isProportion : Nat → List Nat
  | 0 => [1]
  | 1 => [2]
  | _ => []
theorem fn_i_isProportion : FnC Try.prog n_i_isProportion c_i_isProportion [(.tmp 2)] 19 :=
  ⟨Try.f73, _, k_i_isProportion, Try.func73, rfl, by kernel_rfl, by kernel_rfl, by kernel_rfl, rfl⟩
def r_s_ReduceProportion_0 : List CO := [⟨none, (some 4), (.box 2 (.k (.agg [(.v (.int .i64 (0))), (.v (.int .i64 (0)))])))⟩, ⟨none, (some 5), (.mv (.k (.v (.bool false))))⟩]
def r_s_ReduceProportion_1 : List CO := [⟨none, (some 8), (.mv (.t 0))⟩, ⟨none, (some 9), (.call n_s_l1In [(.t 8), (.k (.v (.int .i64 (1)))), (.k (.v (.int .i64 (1000))))])⟩, ⟨none, (some 10), (.un .not (.t 9))⟩, ⟨none, (some 11), (.mv (.t 10))⟩, ⟨(some (11, false)), (some 12), (.mv (.t 1))⟩, ⟨(some (11, false)), (some 13), (.call n_s_l1In [(.t 12), (.k (.v (.int .i64 (1)))), (.k (.v (.int .i64 (1000))))])⟩, ⟨(some (11, false)), (some 14), (.un .not (.t 13))⟩, ⟨none, (some 15), (.pick (.t 11) (.k (.v (.bool true))) (.t 14))⟩]
def r_s_ReduceProportion_2 : List CO := [⟨none, (some 16), (.build (.agg [(.v (.int .i64 (0))), (.v (.int .i64 (0)))]) [])⟩, ⟨none, none, (.st 2 (.t 4) (.t 16))⟩, ⟨none, (some 5), (.mv (.k (.v (.bool false))))⟩]
def r_s_ReduceProportion_3 : List CO := [⟨none, (some 17), (.mv (.t 0))⟩, ⟨none, (some 18), (.mv (.t 1))⟩, ⟨none, (some 19), (.call n_s_l24Common [(.t 17), (.t 18)])⟩, ⟨none, (some 6), (.mv (.t 19))⟩]
def r_s_ReduceProportion_4 : List CO := [⟨none, (some 20), (.mv (.t 0))⟩, ⟨none, (some 21), (.mv (.t 6))⟩, ⟨none, (some 22), (.bin .quo .none (.t 20) (.t 21))⟩, ⟨none, (some 23), (.mv (.t 1))⟩, ⟨none, (some 24), (.mv (.t 6))⟩, ⟨none, (some 25), (.bin .quo .none (.t 23) (.t 24))⟩, ⟨none, (some 26), (.build (.agg [(.v (.int .i64 (0))), (.v (.int .i64 (0)))]) [(0, (1, (.t 22))), (1, (1, (.t 25)))])⟩, ⟨none, (some 7), (.box 2 (.k (.agg [(.v (.int .i64 (0))), (.v (.int .i64 (0)))])))⟩, ⟨none, none, (.st 2 (.t 7) (.t 26))⟩]
def p_s_ReduceProportion_4 : List (List Nat) := [[], [], [0, 1], [], [], [3, 4], [0, 1, 2, 3, 4, 5], [], [0, 1, 2, 3, 4, 5, 6, 7]]
def r_s_ReduceProportion_5 : List CO := [⟨none, (some 27), (.ld true 2 (.t 7))⟩, ⟨none, (some 28), (.call n_s_l24Proportion [(.t 27)])⟩, ⟨none, (some 29), (.un .not (.t 28))⟩]
def r_s_ReduceProportion_6 : List CO := [⟨none, (some 30), (.build (.agg [(.v (.int .i64 (0))), (.v (.int .i64 (0)))]) [])⟩, ⟨none, none, (.st 2 (.t 4) (.t 30))⟩, ⟨none, (some 5), (.mv (.k (.v (.bool false))))⟩]
def r_s_ReduceProportion_7 : List CO := [⟨none, (some 31), (.ld true 2 (.t 7))⟩, ⟨none, none, (.st 2 (.t 4) (.t 31))⟩, ⟨none, (some 5), (.mv (.k (.v (.bool true))))⟩]
/-- loop.example/g00884/spec.ReduceProportion -/
def c_s_ReduceProportion : C := (.seq (.reg r_s_ReduceProportion_0 [0, 1, 4]) (.seq (.seq (.reg r_s_ReduceProportion_1 [0, 1, 4, 15]) (.cond (.t 15) (.seq (.reg r_s_ReduceProportion_2 [4, 5]) .ret) .skip)) (.seq (.reg r_s_ReduceProportion_3 [0, 1, 4, 6]) (.seq (.regD r_s_ReduceProportion_4 p_s_ReduceProportion_4 [4, 7]) (.seq (.seq (.reg r_s_ReduceProportion_5 [4, 7, 29]) (.cond (.t 29) (.seq (.reg r_s_ReduceProportion_6 [4, 5]) .ret) .skip)) (.seq (.reg r_s_ReduceProportion_7 [4, 5]) .ret))))))
def k_s_ReduceProportion : Nat → List Nat
  | 0 => [0, 1, 4]
  | 1 => [0, 1, 4, 15]
  | 2 => [4, 5]
  | 3 => [0, 1, 4, 6]
  | 4 => [4, 7]
  | 5 => [4, 7, 29]
  | 6 => [4, 5]
  | 7 => [4, 5]
  | _ => []
theorem fn_s_ReduceProportion : FnC Try.prog n_s_ReduceProportion c_s_ReduceProportion [(.cell 4 true 2), (.tmp 5)] 32 :=
  ⟨Try.f20, _, k_s_ReduceProportion, Try.func20, rfl, by kernel_rfl, by kernel_rfl, by kernel_rfl, rfl⟩
def r_i_ReduceProportion_0 : List CO := [⟨none, (some 4), (.box 2 (.k (.agg [(.v (.int .i64 (0))), (.v (.int .i64 (0)))])))⟩, ⟨none, (some 5), (.mv (.k (.v (.bool false))))⟩]
def r_i_ReduceProportion_1 : List CO := [⟨none, (some 8), (.mv (.t 0))⟩, ⟨none, (some 9), (.call n_i_inside [(.t 8), (.k (.v (.int .i64 (1)))), (.k (.v (.int .i64 (1000))))])⟩, ⟨none, (some 10), (.un .not (.t 9))⟩, ⟨none, (some 11), (.mv (.t 10))⟩, ⟨(some (11, false)), (some 12), (.mv (.t 1))⟩, ⟨(some (11, false)), (some 13), (.call n_i_inside [(.t 12), (.k (.v (.int .i64 (1)))), (.k (.v (.int .i64 (1000))))])⟩, ⟨(some (11, false)), (some 14), (.un .not (.t 13))⟩, ⟨none, (some 15), (.pick (.t 11) (.k (.v (.bool true))) (.t 14))⟩]
def r_i_ReduceProportion_2 : List CO := [⟨none, (some 16), (.build (.agg [(.v (.int .i64 (0))), (.v (.int .i64 (0)))]) [])⟩, ⟨none, none, (.st 2 (.t 4) (.t 16))⟩, ⟨none, (some 5), (.mv (.k (.v (.bool false))))⟩]
def r_i_ReduceProportion_3 : List CO := [⟨none, (some 17), (.mv (.t 0))⟩, ⟨none, (some 18), (.mv (.t 1))⟩, ⟨none, (some 19), (.call n_i_gcdOf [(.t 17), (.t 18)])⟩, ⟨none, (some 6), (.mv (.t 19))⟩]
def r_i_ReduceProportion_4 : List CO := [⟨none, (some 20), (.mv (.t 0))⟩, ⟨none, (some 21), (.mv (.t 6))⟩, ⟨none, (some 22), (.bin .quo .none (.t 20) (.t 21))⟩, ⟨none, (some 23), (.mv (.t 1))⟩, ⟨none, (some 24), (.mv (.t 6))⟩, ⟨none, (some 25), (.bin .quo .none (.t 23) (.t 24))⟩, ⟨none, (some 26), (.build (.agg [(.v (.int .i64 (0))), (.v (.int .i64 (0)))]) [(0, (1, (.t 22))), (1, (1, (.t 25)))])⟩, ⟨none, (some 7), (.box 2 (.k (.agg [(.v (.int .i64 (0))), (.v (.int .i64 (0)))])))⟩, ⟨none, none, (.st 2 (.t 7) (.t 26))⟩]
def p_i_ReduceProportion_4 : List (List Nat) := [[], [], [0, 1], [], [], [3, 4], [0, 1, 2, 3, 4, 5], [], [0, 1, 2, 3, 4, 5, 6, 7]]
def r_i_ReduceProportion_5 : List CO := [⟨none, (some 27), (.ld true 2 (.t 7))⟩, ⟨none, (some 28), (.call n_i_isProportion [(.t 27)])⟩, ⟨none, (some 29), (.un .not (.t 28))⟩]
def r_i_ReduceProportion_6 : List CO := [⟨none, (some 30), (.build (.agg [(.v (.int .i64 (0))), (.v (.int .i64 (0)))]) [])⟩, ⟨none, none, (.st 2 (.t 4) (.t 30))⟩, ⟨none, (some 5), (.mv (.k (.v (.bool false))))⟩]
def r_i_ReduceProportion_7 : List CO := [⟨none, (some 31), (.ld true 2 (.t 7))⟩, ⟨none, none, (.st 2 (.t 4) (.t 31))⟩, ⟨none, (some 5), (.mv (.k (.v (.bool true))))⟩]
/-- loop.example/g00884/impl.ReduceProportion -/
def c_i_ReduceProportion : C := (.seq (.reg r_i_ReduceProportion_0 [0, 1, 4]) (.seq (.seq (.reg r_i_ReduceProportion_1 [0, 1, 4, 15]) (.cond (.t 15) (.seq (.reg r_i_ReduceProportion_2 [4, 5]) .ret) .skip)) (.seq (.reg r_i_ReduceProportion_3 [0, 1, 4, 6]) (.seq (.regD r_i_ReduceProportion_4 p_i_ReduceProportion_4 [4, 7]) (.seq (.seq (.reg r_i_ReduceProportion_5 [4, 7, 29]) (.cond (.t 29) (.seq (.reg r_i_ReduceProportion_6 [4, 5]) .ret) .skip)) (.seq (.reg r_i_ReduceProportion_7 [4, 5]) .ret))))))
def k_i_ReduceProportion : Nat → List Nat
  | 0 => [0, 1, 4]
  | 1 => [0, 1, 4, 15]
  | 2 => [4, 5]
  | 3 => [0, 1, 4, 6]
  | 4 => [4, 7]
  | 5 => [4, 7, 29]
  | 6 => [4, 5]
  | 7 => [4, 5]
  | _ => []
theorem fn_i_ReduceProportion : FnC Try.prog n_i_ReduceProportion c_i_ReduceProportion [(.cell 4 true 2), (.tmp 5)] 32 :=
  ⟨Try.f18, _, k_i_ReduceProportion, Try.func18, rfl, by kernel_rfl, by kernel_rfl, by kernel_rfl, rfl⟩
end Go.Proofs.Ytgefdcllialhkaa
