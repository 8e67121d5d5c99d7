/- The compact code of the functions, and that it is theirs: written by a program of this claim. -/
import Derived.Test.YtgefdcllialhkaaNums
namespace Go.Proofs.Ytgefdcllialhkaa
open Go.Abs
set_option maxRecDepth 100000
def r_s_l2Good_0 : List CO := [⟨none, (some 2), (.mv (.k (.v (.bool false))))⟩]
def r_s_l2Good_1 : List CO := [⟨none, (some 3), (.mv (.t 0))⟩, ⟨none, (some 4), (.call n_s_l1In [(.t 3), (.k (.v (.int .i64 (1)))), (.k (.v (.int .i64 (9))))])⟩, ⟨none, (some 2), (.mv (.t 4))⟩]
/-- loop.example/g00884/spec.l2Good -/
def c_s_l2Good : C := (.seq (.reg r_s_l2Good_0 [0]) (.seq (.reg r_s_l2Good_1 [2]) .ret))
def k_s_l2Good : Nat → List Nat
  | 0 => [0]
  | 1 => [2]
  | _ => []
theorem fn_s_l2Good : FnC Try.prog n_s_l2Good c_s_l2Good [(.tmp 2)] 5 :=
  ⟨Try.f70, _, k_s_l2Good, Try.func70, rfl, by kernel_rfl, by kernel_rfl, by kernel_rfl, rfl⟩
def r_i_IsTincture_0 : List CO := [⟨none, (some 2), (.mv (.k (.v (.bool false))))⟩]
def r_i_IsTincture_1 : List CO := [⟨none, (some 3), (.mv (.t 0))⟩, ⟨none, (some 4), (.call n_i_inside [(.t 3), (.k (.v (.int .i64 (1)))), (.k (.v (.int .i64 (9))))])⟩, ⟨none, (some 2), (.mv (.t 4))⟩]
/-- loop.example/g00884/impl.IsTincture -/
def c_i_IsTincture : C := (.seq (.reg r_i_IsTincture_0 [0]) (.seq (.reg r_i_IsTincture_1 [2]) .ret))
def k_i_IsTincture : Nat → List Nat
  | 0 => [0]
  | 1 => [2]
  | _ => []
theorem fn_i_IsTincture : FnC Try.prog n_i_IsTincture c_i_IsTincture [(.tmp 2)] 5 :=
  ⟨Try.f66, _, k_i_IsTincture, Try.func66, rfl, by kernel_rfl, by kernel_rfl, by kernel_rfl, rfl⟩
def r_i_isSide_0 : List CO := [⟨none, (some 2), (.mv (.k (.v (.bool false))))⟩]
def r_i_isSide_1 : List CO := [⟨none, (some 3), (.mv (.t 0))⟩, ⟨none, (some 4), (.call n_i_inside [(.t 3), (.k (.v (.int .i64 (1)))), (.k (.v (.int .i64 (60))))])⟩, ⟨none, (some 2), (.mv (.t 4))⟩]
/-- loop.example/g00884/impl.isSide -/
def c_i_isSide : C := (.seq (.reg r_i_isSide_0 [0]) (.seq (.reg r_i_isSide_1 [2]) .ret))
def k_i_isSide : Nat → List Nat
  | 0 => [0]
  | 1 => [2]
  | _ => []
theorem fn_i_isSide : FnC Try.prog n_i_isSide c_i_isSide [(.tmp 2)] 5 :=
  ⟨Try.f102, _, k_i_isSide, Try.func102, rfl, by kernel_rfl, by kernel_rfl, by kernel_rfl, rfl⟩
def r_i_IsValidBanner_1_0 : List CO := [⟨none, (some 2), (.mv (.k (.v (.bool false))))⟩]
def r_i_IsValidBanner_1_1 : List CO := [⟨none, (some 3), (.mv (.t 0))⟩, ⟨none, (some 4), (.call n_i_IsTincture [(.t 3)])⟩, ⟨none, (some 5), (.un .not (.t 4))⟩, ⟨none, (some 2), (.mv (.t 5))⟩]
/-- loop.example/g00884/impl.IsValidBanner$1 -/
def c_i_IsValidBanner_1 : C := (.seq (.reg r_i_IsValidBanner_1_0 [0]) (.seq (.reg r_i_IsValidBanner_1_1 [2]) .ret))
def k_i_IsValidBanner_1 : Nat → List Nat
  | 0 => [0]
  | 1 => [2]
  | _ => []
theorem fn_i_IsValidBanner_1 : FnC Try.prog n_i_IsValidBanner_1 c_i_IsValidBanner_1 [(.tmp 2)] 6 :=
  ⟨Try.f106, _, k_i_IsValidBanner_1, Try.func106, rfl, by kernel_rfl, by kernel_rfl, by kernel_rfl, rfl⟩
def r_s_l24Good_0 : List CO := [⟨none, (some 2), (.mv (.k (.v (.bool false))))⟩]
def r_s_l24Good_1 : List CO := [⟨none, (some 5), (.mv (.t 0))⟩, ⟨none, (some 6), (.len false (.t 5))⟩, ⟨none, (some 7), (.call n_s_l1In [(.t 6), (.k (.v (.int .i64 (1)))), (.k (.v (.int .i64 (60))))])⟩, ⟨none, (some 8), (.un .not (.t 7))⟩]
def r_s_l24Good_2 : List CO := [⟨none, (some 2), (.mv (.k (.v (.bool false))))⟩]
def r_s_l24Good_3 : List CO := [⟨none, (some 3), (.mv (.k (.v (.int .i64 (0)))))⟩]
def r_s_l24Good_4 : List CO := [⟨none, (some 9), (.mv (.t 3))⟩, ⟨none, (some 10), (.mv (.t 0))⟩, ⟨none, (some 11), (.len false (.t 10))⟩, ⟨none, (some 12), (.bin .lss .none (.t 9) (.t 11))⟩]
def r_s_l24Good_5 : List CO := [⟨none, (some 15), (.mv (.t 0))⟩, ⟨none, (some 16), (.mv (.t 3))⟩, ⟨none, (some 17), (.iaddr 1 (.t 15) (.t 16))⟩, ⟨none, (some 18), (.ld false 1 (.t 17))⟩, ⟨none, (some 19), (.len false (.t 18))⟩, ⟨none, (some 20), (.call n_s_l1In [(.t 19), (.k (.v (.int .i64 (1)))), (.k (.v (.int .i64 (60))))])⟩, ⟨none, (some 21), (.un .not (.t 20))⟩, ⟨none, (some 22), (.mv (.t 21))⟩, ⟨(some (22, false)), (some 23), (.mv (.t 0))⟩, ⟨(some (22, false)), (some 24), (.mv (.t 3))⟩, ⟨(some (22, false)), (some 25), (.iaddr 1 (.t 23) (.t 24))⟩, ⟨(some (22, false)), (some 26), (.ld false 1 (.t 25))⟩, ⟨(some (22, false)), (some 27), (.len false (.t 26))⟩, ⟨(some (22, false)), (some 28), (.mv (.t 0))⟩, ⟨(some (22, false)), (some 29), (.iaddr 1 (.t 28) (.k (.v (.int .i64 (0)))))⟩, ⟨(some (22, false)), (some 30), (.ld false 1 (.t 29))⟩, ⟨(some (22, false)), (some 31), (.len false (.t 30))⟩, ⟨(some (22, false)), (some 32), (.bin .neq .none (.t 27) (.t 31))⟩, ⟨none, (some 33), (.pick (.t 22) (.k (.v (.bool true))) (.t 32))⟩]
def p_s_l24Good_5 : List (List Nat) := [[], [], [0, 1], [0, 1, 2], [0, 1, 2, 3], [0, 1, 2, 3, 4], [0, 1, 2, 3, 4, 5], [0, 1, 2, 3, 4, 5, 6], [0, 1, 2, 3, 4, 5, 6, 7], [0, 1, 2, 3, 4, 5, 6, 7], [0, 1, 2, 3, 4, 5, 6, 7, 8, 9], [0, 1, 2, 3, 4, 5, 6, 7, 8, 9, 10], [0, 1, 2, 3, 4, 5, 6, 7, 8, 9, 10, 11], [0, 1, 2, 3, 4, 5, 6, 7], [0, 1, 2, 3, 4, 5, 6, 7, 13], [0, 1, 2, 3, 4, 5, 6, 7, 13, 14], [0, 1, 2, 3, 4, 5, 6, 7, 13, 14, 15], [0, 1, 2, 3, 4, 5, 6, 7, 8, 9, 10, 11, 12, 13, 14, 15, 16], [0, 1, 2, 3, 4, 5, 6, 7, 8, 9, 10, 11, 12, 13, 14, 15, 16, 17]]
def r_s_l24Good_6 : List CO := [⟨none, (some 2), (.mv (.k (.v (.bool false))))⟩]
def r_s_l24Good_7 : List CO := [⟨none, (some 4), (.mv (.k (.v (.int .i64 (0)))))⟩]
def r_s_l24Good_8 : List CO := [⟨none, (some 34), (.mv (.t 4))⟩, ⟨none, (some 35), (.mv (.t 0))⟩, ⟨none, (some 36), (.mv (.t 3))⟩, ⟨none, (some 37), (.iaddr 1 (.t 35) (.t 36))⟩, ⟨none, (some 38), (.ld false 1 (.t 37))⟩, ⟨none, (some 39), (.len false (.t 38))⟩, ⟨none, (some 40), (.bin .lss .none (.t 34) (.t 39))⟩]
def r_s_l24Good_9 : List CO := [⟨none, (some 43), (.mv (.t 0))⟩, ⟨none, (some 44), (.mv (.t 3))⟩, ⟨none, (some 45), (.iaddr 1 (.t 43) (.t 44))⟩, ⟨none, (some 46), (.ld false 1 (.t 45))⟩, ⟨none, (some 47), (.mv (.t 4))⟩, ⟨none, (some 48), (.iaddr 1 (.t 46) (.t 47))⟩, ⟨none, (some 49), (.ld false 1 (.t 48))⟩, ⟨none, (some 50), (.call n_s_l2Good [(.t 49)])⟩, ⟨none, (some 51), (.un .not (.t 50))⟩]
def r_s_l24Good_10 : List CO := [⟨none, (some 2), (.mv (.k (.v (.bool false))))⟩]
def r_s_l24Good_11 : List CO := [⟨none, (some 41), (.mv (.t 4))⟩, ⟨none, (some 42), (.bin .add .none (.t 41) (.k (.v (.int .i64 (1)))))⟩, ⟨none, (some 4), (.mv (.t 42))⟩]
def l_s_l24Good_12 : C := (.seq (.seq (.reg r_s_l24Good_8 [0, 3, 4, 40]) (.cond (.t 40) .skip (.exit 2))) (.seq (.block 3 (.seq (.reg r_s_l24Good_9 [0, 3, 4, 51]) (.cond (.t 51) (.seq (.reg r_s_l24Good_10 [2]) .ret) .skip))) (.reg r_s_l24Good_11 [0, 3, 4])))
def r_s_l24Good_13 : List CO := [⟨none, (some 13), (.mv (.t 3))⟩, ⟨none, (some 14), (.bin .add .none (.t 13) (.k (.v (.int .i64 (1)))))⟩, ⟨none, (some 3), (.mv (.t 14))⟩]
def l_s_l24Good_14 : C := (.seq (.seq (.reg r_s_l24Good_4 [0, 3, 12]) (.cond (.t 12) .skip (.exit 0))) (.seq (.block 1 (.seq (.seq (.regD r_s_l24Good_5 p_s_l24Good_5 [0, 3, 33]) (.cond (.t 33) (.seq (.reg r_s_l24Good_6 [2]) .ret) .skip)) (.seq (.reg r_s_l24Good_7 [0, 3, 4]) (.block 2 (.loop l_s_l24Good_12))))) (.reg r_s_l24Good_13 [0, 3])))
def r_s_l24Good_15 : List CO := [⟨none, (some 2), (.mv (.k (.v (.bool true))))⟩]
/-- loop.example/g00884/spec.l24Good -/
def c_s_l24Good : C := (.seq (.reg r_s_l24Good_0 [0]) (.seq (.seq (.reg r_s_l24Good_1 [0, 8]) (.cond (.t 8) (.seq (.reg r_s_l24Good_2 [2]) .ret) .skip)) (.seq (.seq (.reg r_s_l24Good_3 [0, 3]) (.block 0 (.loop l_s_l24Good_14))) (.seq (.reg r_s_l24Good_15 [2]) .ret))))
def k_s_l24Good : Nat → List Nat
  | 0 => [0]
  | 1 => [0, 8]
  | 2 => [2]
  | 3 => [0, 3]
  | 4 => [0, 3, 12]
  | 6 => [0, 3, 33]
  | 7 => [2]
  | 8 => [0, 3, 4]
  | 9 => [0, 3, 4, 40]
  | 11 => [0, 3, 4, 51]
  | 12 => [2]
  | 10 => [0, 3, 4]
  | 5 => [0, 3]
  | 13 => [2]
  | _ => []
theorem fn_s_l24Good : FnC Try.prog n_s_l24Good c_s_l24Good [(.tmp 2)] 52 :=
  ⟨Try.f63, _, k_s_l24Good, Try.func63, rfl, by kernel_rfl, by kernel_rfl, by kernel_rfl, rfl⟩
def r_i_IsValidBanner_0 : List CO := [⟨none, (some 2), (.mv (.k (.v (.bool false))))⟩]
def r_i_IsValidBanner_1 : List CO := [⟨none, (some 5), (.mv (.t 0))⟩, ⟨none, (some 6), (.len false (.t 5))⟩, ⟨none, (some 7), (.call n_i_isSide [(.t 6)])⟩, ⟨none, (some 8), (.un .not (.t 7))⟩, ⟨none, (some 9), (.mv (.t 8))⟩, ⟨(some (9, false)), (some 10), (.mv (.t 0))⟩, ⟨(some (9, false)), (some 11), (.iaddr 1 (.t 10) (.k (.v (.int .i64 (0)))))⟩, ⟨(some (9, false)), (some 12), (.ld false 1 (.t 11))⟩, ⟨(some (9, false)), (some 13), (.len false (.t 12))⟩, ⟨(some (9, false)), (some 14), (.call n_i_isSide [(.t 13)])⟩, ⟨(some (9, false)), (some 15), (.un .not (.t 14))⟩, ⟨none, (some 16), (.pick (.t 9) (.k (.v (.bool true))) (.t 15))⟩]
def r_i_IsValidBanner_2 : List CO := [⟨none, (some 2), (.mv (.k (.v (.bool false))))⟩]
def r_i_IsValidBanner_3 : List CO := [⟨none, (some 17), (.mv (.t 0))⟩, ⟨none, (some 18), (.len false (.t 17))⟩, ⟨none, (some 19), (.mv (.k (.v (.int .i64 (0)))))⟩]
def r_i_IsValidBanner_4 : List CO := [⟨none, (some 20), (.bin .lss .none (.t 19) (.t 18))⟩]
def r_i_IsValidBanner_5 : List CO := [⟨none, (some 21), (.iaddr 1 (.t 17) (.t 19))⟩, ⟨none, (some 22), (.ld false 1 (.t 21))⟩, ⟨none, (some 4), (.mv (.t 22))⟩]
def r_i_IsValidBanner_6 : List CO := [⟨none, (some 23), (.mv (.t 4))⟩, ⟨none, (some 24), (.len false (.t 23))⟩, ⟨none, (some 25), (.mv (.t 0))⟩, ⟨none, (some 26), (.iaddr 1 (.t 25) (.k (.v (.int .i64 (0)))))⟩, ⟨none, (some 27), (.ld false 1 (.t 26))⟩, ⟨none, (some 28), (.len false (.t 27))⟩, ⟨none, (some 29), (.bin .neq .none (.t 24) (.t 28))⟩, ⟨none, (some 30), (.mv (.t 29))⟩, ⟨(some (30, false)), (some 31), (.mv (.t 4))⟩, ⟨(some (30, false)), (some 32), (.call n_slices_ContainsFunc_int_int [(.t 31), (.k (.clo n_i_IsValidBanner_1 []))])⟩, ⟨none, (some 33), (.pick (.t 30) (.k (.v (.bool true))) (.t 32))⟩]
def r_i_IsValidBanner_7 : List CO := [⟨none, (some 2), (.mv (.k (.v (.bool false))))⟩]
def r_i_IsValidBanner_8 : List CO := [⟨none, (some 34), (.bin .add .none (.t 19) (.k (.v (.int .i64 (1)))))⟩, ⟨none, (some 19), (.mv (.t 34))⟩]
def l_i_IsValidBanner_9 : C := (.seq (.reg r_i_IsValidBanner_4 [0, 17, 18, 19, 20]) (.seq (.cond (.t 20) .skip (.exit 0)) (.seq (.block 1 (.seq (.reg r_i_IsValidBanner_5 [0, 4, 17, 18, 19]) (.seq (.reg r_i_IsValidBanner_6 [0, 17, 18, 19, 33]) (.cond (.t 33) (.seq (.reg r_i_IsValidBanner_7 [2]) .ret) .skip)))) (.reg r_i_IsValidBanner_8 [0, 17, 18, 19]))))
def r_i_IsValidBanner_10 : List CO := [⟨none, (some 2), (.mv (.k (.v (.bool true))))⟩]
/-- loop.example/g00884/impl.IsValidBanner -/
def c_i_IsValidBanner : C := (.seq (.reg r_i_IsValidBanner_0 [0]) (.seq (.seq (.reg r_i_IsValidBanner_1 [0, 16]) (.cond (.t 16) (.seq (.reg r_i_IsValidBanner_2 [2]) .ret) .skip)) (.seq (.seq (.reg r_i_IsValidBanner_3 [0, 17, 18, 19]) (.block 0 (.loop l_i_IsValidBanner_9))) (.seq (.reg r_i_IsValidBanner_10 [2]) .ret))))
def k_i_IsValidBanner : Nat → List Nat
  | 0 => [0]
  | 1 => [0, 16]
  | 2 => [2]
  | 3 => [0, 17, 18, 19]
  | 4 => [0, 17, 18, 19, 20]
  | 5 => [0, 4, 17, 18, 19]
  | 6 => [0, 17, 18, 19, 33]
  | 7 => [2]
  | 8 => [0, 17, 18, 19]
  | 9 => [2]
  | _ => []
theorem fn_i_IsValidBanner : FnC Try.prog n_i_IsValidBanner c_i_IsValidBanner [(.tmp 2)] 35 :=
  ⟨Try.f50, _, k_i_IsValidBanner, Try.func50, rfl, by kernel_rfl, by kernel_rfl, by kernel_rfl, rfl⟩
end Go.Proofs.Ytgefdcllialhkaa
