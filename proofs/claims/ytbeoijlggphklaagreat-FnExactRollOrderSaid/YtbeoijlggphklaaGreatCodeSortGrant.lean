/- The compact code of the functions, and that it is theirs: written by a program of this claim. -/
import Derived.Test.YtbeoijlggphklaaGreatNums
namespace Go.Proofs.YtbeoijlggphklaaGreat
open Go.Abs
set_option maxRecDepth 100000
def r_slices_insertionSortCmpFunc_i_Grant_0 : List CO := [⟨none, (some 10), (.mv (.t 1))⟩, ⟨none, (some 11), (.bin .add .none (.t 10) (.k (.v (.int .i64 (1)))))⟩, ⟨none, (some 8), (.mv (.t 11))⟩]
def r_slices_insertionSortCmpFunc_i_Grant_1 : List CO := [⟨none, (some 12), (.mv (.t 8))⟩, ⟨none, (some 13), (.mv (.t 2))⟩, ⟨none, (some 14), (.bin .lss .none (.t 12) (.t 13))⟩]
def r_slices_insertionSortCmpFunc_i_Grant_2 : List CO := [⟨none, (some 17), (.mv (.t 8))⟩, ⟨none, (some 9), (.mv (.t 17))⟩]
def r_slices_insertionSortCmpFunc_i_Grant_3 : List CO := [⟨none, (some 18), (.mv (.t 9))⟩, ⟨none, (some 19), (.mv (.t 1))⟩, ⟨none, (some 20), (.bin .gtr .none (.t 18) (.t 19))⟩, ⟨none, (some 21), (.mv (.t 20))⟩, ⟨(some (21, true)), (some 22), (.mv (.t 3))⟩, ⟨(some (21, true)), (some 23), (.mv (.t 0))⟩, ⟨(some (21, true)), (some 24), (.mv (.t 9))⟩, ⟨(some (21, true)), (some 25), (.iaddr 18 (.t 23) (.t 24))⟩, ⟨(some (21, true)), (some 26), (.ld true 18 (.t 25))⟩, ⟨(some (21, true)), (some 27), (.mv (.t 0))⟩, ⟨(some (21, true)), (some 28), (.mv (.t 9))⟩, ⟨(some (21, true)), (some 29), (.bin .sub .none (.t 28) (.k (.v (.int .i64 (1)))))⟩, ⟨(some (21, true)), (some 30), (.iaddr 18 (.t 27) (.t 29))⟩, ⟨(some (21, true)), (some 31), (.ld true 18 (.t 30))⟩, ⟨(some (21, true)), (some 32), (.callv (.t 22) [(.t 26), (.t 31)])⟩, ⟨(some (21, true)), (some 33), (.bin .lss .none (.t 32) (.k (.v (.int .i64 (0)))))⟩, ⟨none, (some 34), (.pick (.t 21) (.t 33) (.k (.v (.bool false))))⟩]
def p_slices_insertionSortCmpFunc_i_Grant_3 : List (List Nat) := [[], [], [0, 1], [0, 1, 2], [0, 1, 2, 3], [0, 1, 2, 3], [0, 1, 2, 3], [0, 1, 2, 3, 5, 6], [0, 1, 2, 3, 5, 6, 7], [0, 1, 2, 3], [0, 1, 2, 3], [0, 1, 2, 3, 10], [0, 1, 2, 3, 9, 10, 11], [0, 1, 2, 3, 9, 10, 11, 12], [0, 1, 2, 3, 4, 5, 6, 7, 8, 9, 10, 11, 12, 13], [0, 1, 2, 3, 4, 5, 6, 7, 8, 9, 10, 11, 12, 13, 14], [0, 1, 2, 3, 4, 5, 6, 7, 8, 9, 10, 11, 12, 13, 14, 15]]
def r_slices_insertionSortCmpFunc_i_Grant_4 : List CO := [⟨none, (some 37), (.mv (.t 0))⟩, ⟨none, (some 38), (.mv (.t 9))⟩, ⟨none, (some 39), (.mv (.t 0))⟩, ⟨none, (some 40), (.mv (.t 9))⟩, ⟨none, (some 41), (.bin .sub .none (.t 40) (.k (.v (.int .i64 (1)))))⟩, ⟨none, (some 42), (.mv (.t 0))⟩, ⟨none, (some 43), (.mv (.t 9))⟩, ⟨none, (some 44), (.bin .sub .none (.t 43) (.k (.v (.int .i64 (1)))))⟩, ⟨none, (some 45), (.iaddr 18 (.t 42) (.t 44))⟩, ⟨none, (some 46), (.ld true 18 (.t 45))⟩, ⟨none, (some 47), (.mv (.t 0))⟩, ⟨none, (some 48), (.mv (.t 9))⟩, ⟨none, (some 49), (.iaddr 18 (.t 47) (.t 48))⟩, ⟨none, (some 50), (.ld true 18 (.t 49))⟩, ⟨none, (some 51), (.iaddr 18 (.t 37) (.t 38))⟩, ⟨none, none, (.st 18 (.t 51) (.t 46))⟩, ⟨none, (some 52), (.iaddr 18 (.t 39) (.t 41))⟩, ⟨none, none, (.st 18 (.t 52) (.t 50))⟩]
def p_slices_insertionSortCmpFunc_i_Grant_4 : List (List Nat) := [[], [], [], [], [3], [], [], [6], [5, 6, 7], [5, 6, 7, 8], [], [], [10, 11], [10, 11, 12], [0, 1, 5, 6, 7, 8, 9, 10, 11, 12, 13], [0, 1, 5, 6, 7, 8, 9, 10, 11, 12, 13, 14], [0, 1, 2, 3, 4, 5, 6, 7, 8, 9, 10, 11, 12, 13, 14, 15], [0, 1, 2, 3, 4, 5, 6, 7, 8, 9, 10, 11, 12, 13, 14, 15, 16]]
def r_slices_insertionSortCmpFunc_i_Grant_5 : List CO := [⟨none, (some 35), (.mv (.t 9))⟩, ⟨none, (some 36), (.bin .sub .none (.t 35) (.k (.v (.int .i64 (1)))))⟩, ⟨none, (some 9), (.mv (.t 36))⟩]
def l_slices_insertionSortCmpFunc_i_Grant_6 : C := (.seq (.seq (.regD r_slices_insertionSortCmpFunc_i_Grant_3 p_slices_insertionSortCmpFunc_i_Grant_3 [0, 1, 2, 3, 8, 9, 34]) (.cond (.t 34) .skip (.exit 2))) (.seq (.block 3 (.regD r_slices_insertionSortCmpFunc_i_Grant_4 p_slices_insertionSortCmpFunc_i_Grant_4 [0, 1, 2, 3, 8, 9])) (.reg r_slices_insertionSortCmpFunc_i_Grant_5 [0, 1, 2, 3, 8, 9])))
def r_slices_insertionSortCmpFunc_i_Grant_7 : List CO := [⟨none, (some 15), (.mv (.t 8))⟩, ⟨none, (some 16), (.bin .add .none (.t 15) (.k (.v (.int .i64 (1)))))⟩, ⟨none, (some 8), (.mv (.t 16))⟩]
def l_slices_insertionSortCmpFunc_i_Grant_8 : C := (.seq (.seq (.reg r_slices_insertionSortCmpFunc_i_Grant_1 [0, 1, 2, 3, 8, 14]) (.cond (.t 14) .skip (.exit 0))) (.seq (.block 1 (.seq (.reg r_slices_insertionSortCmpFunc_i_Grant_2 [0, 1, 2, 3, 8, 9]) (.block 2 (.loop l_slices_insertionSortCmpFunc_i_Grant_6)))) (.reg r_slices_insertionSortCmpFunc_i_Grant_7 [0, 1, 2, 3, 8])))
/-- slices.insertionSortCmpFunc[loop.example/g00884/impl.Grant] -/
def c_slices_insertionSortCmpFunc_i_Grant : C := (.seq (.reg r_slices_insertionSortCmpFunc_i_Grant_0 [0, 1, 2, 3, 8]) (.block 0 (.loop l_slices_insertionSortCmpFunc_i_Grant_8)))
def k_slices_insertionSortCmpFunc_i_Grant : Nat → List Nat
  | 0 => [0, 1, 2, 3, 8]
  | 1 => [0, 1, 2, 3, 8, 14]
  | 3 => [0, 1, 2, 3, 8, 9]
  | 4 => [0, 1, 2, 3, 8, 9, 34]
  | 6 => [0, 1, 2, 3, 8, 9]
  | 5 => [0, 1, 2, 3, 8, 9]
  | 2 => [0, 1, 2, 3, 8]
  | _ => []
theorem fn_slices_insertionSortCmpFunc_i_Grant : FnC Tryz.prog n_slices_insertionSortCmpFunc_i_Grant c_slices_insertionSortCmpFunc_i_Grant [] 53 :=
  ⟨Tryz.f76, _, k_slices_insertionSortCmpFunc_i_Grant, Tryz.func76, rfl, by kernel_rfl, by kernel_rfl, by kernel_rfl, rfl⟩
def r_slices_stableCmpFunc_i_Grant_0 : List CO := [⟨none, (some 6), (.mv (.k (.v (.int .i64 (20)))))⟩]
def r_slices_stableCmpFunc_i_Grant_1 : List CO := [⟨none, (some 10), (.mv (.t 6))⟩, ⟨none, (some 7), (.mv (.k (.v (.int .i64 (0)))))⟩, ⟨none, (some 8), (.mv (.t 10))⟩]
def r_slices_stableCmpFunc_i_Grant_2 : List CO := [⟨none, (some 11), (.mv (.t 8))⟩, ⟨none, (some 12), (.mv (.t 1))⟩, ⟨none, (some 13), (.bin .leq .none (.t 11) (.t 12))⟩]
def r_slices_stableCmpFunc_i_Grant_3 : List CO := [⟨none, (some 14), (.mv (.t 0))⟩, ⟨none, (some 15), (.mv (.t 7))⟩, ⟨none, (some 16), (.mv (.t 8))⟩, ⟨none, (some 17), (.mv (.t 2))⟩, ⟨none, (some 18), (.call n_slices_insertionSortCmpFunc_i_Grant [(.t 14), (.t 15), (.t 16), (.t 17)])⟩]
def r_slices_stableCmpFunc_i_Grant_4 : List CO := [⟨none, (some 19), (.mv (.t 8))⟩, ⟨none, (some 7), (.mv (.t 19))⟩]
def r_slices_stableCmpFunc_i_Grant_5 : List CO := [⟨none, (some 20), (.mv (.t 8))⟩, ⟨none, (some 21), (.mv (.t 6))⟩, ⟨none, (some 22), (.bin .add .none (.t 20) (.t 21))⟩, ⟨none, (some 8), (.mv (.t 22))⟩]
def l_slices_stableCmpFunc_i_Grant_6 : C := (.seq (.seq (.reg r_slices_stableCmpFunc_i_Grant_2 [0, 1, 2, 6, 7, 8, 13]) (.cond (.t 13) .skip (.exit 0))) (.block 1 (.seq (.reg r_slices_stableCmpFunc_i_Grant_3 [0, 1, 2, 6, 8]) (.seq (.reg r_slices_stableCmpFunc_i_Grant_4 [0, 1, 2, 6, 7, 8]) (.reg r_slices_stableCmpFunc_i_Grant_5 [0, 1, 2, 6, 7, 8])))))
def r_slices_stableCmpFunc_i_Grant_7 : List CO := [⟨none, (some 23), (.mv (.t 0))⟩, ⟨none, (some 24), (.mv (.t 7))⟩, ⟨none, (some 25), (.mv (.t 1))⟩, ⟨none, (some 26), (.mv (.t 2))⟩, ⟨none, (some 27), (.call n_slices_insertionSortCmpFunc_i_Grant [(.t 23), (.t 24), (.t 25), (.t 26)])⟩]
def r_slices_stableCmpFunc_i_Grant_8 : List CO := [⟨none, (some 28), (.mv (.t 6))⟩, ⟨none, (some 29), (.mv (.t 1))⟩, ⟨none, (some 30), (.bin .lss .none (.t 28) (.t 29))⟩]
def r_slices_stableCmpFunc_i_Grant_9 : List CO := [⟨none, (some 31), (.mv (.t 6))⟩, ⟨none, (some 32), (.bin .mul .none (.k (.v (.int .i64 (2)))) (.t 31))⟩, ⟨none, (some 7), (.mv (.k (.v (.int .i64 (0)))))⟩, ⟨none, (some 8), (.mv (.t 32))⟩]
def r_slices_stableCmpFunc_i_Grant_10 : List CO := [⟨none, (some 33), (.mv (.t 8))⟩, ⟨none, (some 34), (.mv (.t 1))⟩, ⟨none, (some 35), (.bin .leq .none (.t 33) (.t 34))⟩]
def r_slices_stableCmpFunc_i_Grant_11 : List CO := [⟨none, (some 36), (.mv (.t 0))⟩, ⟨none, (some 37), (.mv (.t 7))⟩, ⟨none, (some 38), (.mv (.t 7))⟩, ⟨none, (some 39), (.mv (.t 6))⟩, ⟨none, (some 40), (.bin .add .none (.t 38) (.t 39))⟩, ⟨none, (some 41), (.mv (.t 8))⟩, ⟨none, (some 42), (.mv (.t 2))⟩, ⟨none, (some 43), (.call n_slices_symMergeCmpFunc_i_Grant [(.t 36), (.t 37), (.t 40), (.t 41), (.t 42)])⟩]
def r_slices_stableCmpFunc_i_Grant_12 : List CO := [⟨none, (some 44), (.mv (.t 8))⟩, ⟨none, (some 7), (.mv (.t 44))⟩]
def r_slices_stableCmpFunc_i_Grant_13 : List CO := [⟨none, (some 45), (.mv (.t 8))⟩, ⟨none, (some 46), (.mv (.t 6))⟩, ⟨none, (some 47), (.bin .mul .none (.k (.v (.int .i64 (2)))) (.t 46))⟩, ⟨none, (some 48), (.bin .add .none (.t 45) (.t 47))⟩, ⟨none, (some 8), (.mv (.t 48))⟩]
def l_slices_stableCmpFunc_i_Grant_14 : C := (.seq (.seq (.reg r_slices_stableCmpFunc_i_Grant_10 [0, 1, 2, 6, 7, 8, 35]) (.cond (.t 35) .skip (.exit 4))) (.block 5 (.seq (.reg r_slices_stableCmpFunc_i_Grant_11 [0, 1, 2, 6, 8]) (.seq (.reg r_slices_stableCmpFunc_i_Grant_12 [0, 1, 2, 6, 7, 8]) (.reg r_slices_stableCmpFunc_i_Grant_13 [0, 1, 2, 6, 7, 8])))))
def r_slices_stableCmpFunc_i_Grant_15 : List CO := [⟨none, (some 49), (.mv (.t 7))⟩, ⟨none, (some 50), (.mv (.t 6))⟩, ⟨none, (some 51), (.bin .add .none (.t 49) (.t 50))⟩, ⟨none, (some 9), (.mv (.t 51))⟩]
def r_slices_stableCmpFunc_i_Grant_16 : List CO := [⟨none, (some 52), (.mv (.t 9))⟩, ⟨none, (some 53), (.mv (.t 1))⟩, ⟨none, (some 54), (.bin .lss .none (.t 52) (.t 53))⟩]
def r_slices_stableCmpFunc_i_Grant_17 : List CO := [⟨none, (some 55), (.mv (.t 0))⟩, ⟨none, (some 56), (.mv (.t 7))⟩, ⟨none, (some 57), (.mv (.t 9))⟩, ⟨none, (some 58), (.mv (.t 1))⟩, ⟨none, (some 59), (.mv (.t 2))⟩, ⟨none, (some 60), (.call n_slices_symMergeCmpFunc_i_Grant [(.t 55), (.t 56), (.t 57), (.t 58), (.t 59)])⟩]
def r_slices_stableCmpFunc_i_Grant_18 : List CO := [⟨none, (some 61), (.mv (.t 6))⟩, ⟨none, (some 62), (.bin .mul .none (.t 61) (.k (.v (.int .i64 (2)))))⟩, ⟨none, (some 6), (.mv (.t 62))⟩]
def l_slices_stableCmpFunc_i_Grant_19 : C := (.seq (.seq (.reg r_slices_stableCmpFunc_i_Grant_8 [0, 1, 2, 6, 30]) (.cond (.t 30) .skip (.exit 2))) (.block 3 (.seq (.reg r_slices_stableCmpFunc_i_Grant_9 [0, 1, 2, 6, 7, 8]) (.seq (.block 4 (.loop l_slices_stableCmpFunc_i_Grant_14)) (.seq (.seq (.reg r_slices_stableCmpFunc_i_Grant_15 [0, 1, 2, 6, 7, 9]) (.seq (.reg r_slices_stableCmpFunc_i_Grant_16 [0, 1, 2, 6, 7, 9, 54]) (.cond (.t 54) (.reg r_slices_stableCmpFunc_i_Grant_17 [0, 1, 2, 6]) .skip))) (.reg r_slices_stableCmpFunc_i_Grant_18 [0, 1, 2, 6]))))))
/-- slices.stableCmpFunc[loop.example/g00884/impl.Grant] -/
def c_slices_stableCmpFunc_i_Grant : C := (.seq (.reg r_slices_stableCmpFunc_i_Grant_0 [0, 1, 2, 6]) (.seq (.reg r_slices_stableCmpFunc_i_Grant_1 [0, 1, 2, 6, 7, 8]) (.seq (.block 0 (.loop l_slices_stableCmpFunc_i_Grant_6)) (.seq (.reg r_slices_stableCmpFunc_i_Grant_7 [0, 1, 2, 6]) (.block 2 (.loop l_slices_stableCmpFunc_i_Grant_19))))))
def k_slices_stableCmpFunc_i_Grant : Nat → List Nat
  | 0 => [0, 1, 2, 6]
  | 1 => [0, 1, 2, 6, 7, 8]
  | 2 => [0, 1, 2, 6, 7, 8, 13]
  | 3 => [0, 1, 2, 6, 8]
  | 4 => [0, 1, 2, 6, 7, 8]
  | 5 => [0, 1, 2, 6, 7, 8]
  | 6 => [0, 1, 2, 6]
  | 7 => [0, 1, 2, 6, 30]
  | 8 => [0, 1, 2, 6, 7, 8]
  | 9 => [0, 1, 2, 6, 7, 8, 35]
  | 10 => [0, 1, 2, 6, 8]
  | 11 => [0, 1, 2, 6, 7, 8]
  | 12 => [0, 1, 2, 6, 7, 8]
  | 13 => [0, 1, 2, 6, 7, 9]
  | 14 => [0, 1, 2, 6, 7, 9, 54]
  | 15 => [0, 1, 2, 6]
  | 16 => [0, 1, 2, 6]
  | _ => []
theorem fn_slices_stableCmpFunc_i_Grant : FnC Tryz.prog n_slices_stableCmpFunc_i_Grant c_slices_stableCmpFunc_i_Grant [] 63 :=
  ⟨Tryz.f51, _, k_slices_stableCmpFunc_i_Grant, Tryz.func51, rfl, by kernel_rfl, by kernel_rfl, by kernel_rfl, rfl⟩
def r_slices_SortStableFunc_i_Grant_i_Grant_0 : List CO := [⟨none, (some 4), (.mv (.t 0))⟩, ⟨none, (some 5), (.mv (.t 0))⟩, ⟨none, (some 6), (.len false (.t 5))⟩, ⟨none, (some 7), (.mv (.t 1))⟩, ⟨none, (some 8), (.call n_slices_stableCmpFunc_i_Grant [(.t 4), (.t 6), (.t 7)])⟩]
/-- slices.SortStableFunc[[]loop.example/g00884/impl.Grant,loop.example/g00884/impl.Grant] -/
def c_slices_SortStableFunc_i_Grant_i_Grant : C := (.reg r_slices_SortStableFunc_i_Grant_i_Grant_0 [])
def k_slices_SortStableFunc_i_Grant_i_Grant : Nat → List Nat
  | 0 => []
  | _ => []
theorem fn_slices_SortStableFunc_i_Grant_i_Grant : FnC Tryz.prog n_slices_SortStableFunc_i_Grant_i_Grant c_slices_SortStableFunc_i_Grant_i_Grant [] 9 :=
  ⟨Tryz.f34, _, k_slices_SortStableFunc_i_Grant_i_Grant, Tryz.func34, rfl, by kernel_rfl, by kernel_rfl, by kernel_rfl, rfl⟩
end Go.Proofs.YtbeoijlggphklaaGreat
