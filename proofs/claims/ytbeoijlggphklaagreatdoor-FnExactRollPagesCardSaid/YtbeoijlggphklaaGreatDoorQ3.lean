/- Parts of the proof, merged: CodeSortGrant, SortGrant, RollOrd, CodeTexts2, CodeMarkText, MarkText, Texts2, Paged, SPaged, CodeConsoleT, CodeGrantRow, GrantRow, CodeEqLog, LogT, EqLog, ConsoleT, WPages. -/
import Derived.Test.YtbeoijlggphklaaGreatDoorShelf
import Derived.Test.YtbeoijlggphklaaGreatDoorAbs4
import Derived.Test.YtbeoijlggphklaaGreatDoorQ2
/- The compact code of the functions, and that it is theirs: written by a program of this claim. -/
namespace Go.Proofs.YtbeoijlggphklaaGreatDoor
open Go.Abs
set_option maxRecDepth 100000
def r_slices_insertionSortCmpFunc_i_Grant_0 : List CO := [⟨none, (some 10), (.mv (.t 1))⟩, ⟨none, (some 11), (.bin .add .none (.t 10) (.k (.v (.int .i64 (1)))))⟩, ⟨none, (some 8), (.mv (.t 11))⟩]
def r_slices_insertionSortCmpFunc_i_Grant_1 : List CO := [⟨none, (some 12), (.mv (.t 8))⟩, ⟨none, (some 13), (.mv (.t 2))⟩, ⟨none, (some 14), (.bin .lss .none (.t 12) (.t 13))⟩]
def r_slices_insertionSortCmpFunc_i_Grant_2 : List CO := [⟨none, (some 17), (.mv (.t 8))⟩, ⟨none, (some 9), (.mv (.t 17))⟩]
def r_slices_insertionSortCmpFunc_i_Grant_3 : List CO := [⟨none, (some 18), (.mv (.t 9))⟩, ⟨none, (some 19), (.mv (.t 1))⟩, ⟨none, (some 20), (.bin .gtr .none (.t 18) (.t 19))⟩, ⟨none, (some 21), (.mv (.t 20))⟩, ⟨(some (21, true)), (some 22), (.mv (.t 3))⟩, ⟨(some (21, true)), (some 23), (.mv (.t 0))⟩, ⟨(some (21, true)), (some 24), (.mv (.t 9))⟩, ⟨(some (21, true)), (some 25), (.iaddr 18 (.t 23) (.t 24))⟩, ⟨(some (21, true)), (some 26), (.ld true 18 (.t 25))⟩, ⟨(some (21, true)), (some 27), (.mv (.t 0))⟩, ⟨(some (21, true)), (some 28), (.mv (.t 9))⟩, ⟨(some (21, true)), (some 29), (.bin .sub .none (.t 28) (.k (.v (.int .i64 (1)))))⟩, ⟨(some (21, true)), (some 30), (.iaddr 18 (.t 27) (.t 29))⟩, ⟨(some (21, true)), (some 31), (.ld true 18 (.t 30))⟩, ⟨(some (21, true)), (some 32), (.callv (.t 22) [(.t 26), (.t 31)])⟩, ⟨(some (21, true)), (some 33), (.bin .lss .none (.t 32) (.k (.v (.int .i64 (0)))))⟩, ⟨none, (some 34), (.pick (.t 21) (.t 33) (.k (.v (.bool false))))⟩]
def p_slices_insertionSortCmpFunc_i_Grant_3 : List (List Nat) := [[], [], [0, 1], [0, 1, 2], [0, 1, 2, 3], [0, 1, 2, 3], [0, 1, 2, 3], [0, 1, 2, 3, 5, 6], [0, 1, 2, 3, 5, 6, 7], [0, 1, 2, 3], [0, 1, 2, 3], [0, 1, 2, 3, 10], [0, 1, 2, 3, 9, 10, 11], [0, 1, 2, 3, 9, 10, 11, 12], [0, 1, 2, 3, 4, 5, 6, 7, 8, 9, 10, 11, 12, 13], [0, 1, 2, 3, 4, 5, 6, 7, 8, 9, 10, 11, 12, 13, 14], [0, 1, 2, 3, 4, 5, 6, 7, 8, 9, 10, 11, 12, 13, 14, 15]]
def r_slices_insertionSortCmpFunc_i_Grant_4 : List CO := [⟨none, (some 37), (.mv (.t 0))⟩, ⟨none, (some 38), (.mv (.t 9))⟩, ⟨none, (some 39), (.mv (.t 0))⟩, ⟨none, (some 40), (.mv (.t 9))⟩, ⟨none, (some 41), (.bin .sub .none (.t 40) (.k (.v (.int .i64 (1)))))⟩, ⟨none, (some 42), (.mv (.t 0))⟩, ⟨none, (some 43), (.mv (.t 9))⟩, ⟨none, (some 44), (.bin .sub .none (.t 43) (.k (.v (.int .i64 (1)))))⟩, ⟨none, (some 45), (.iaddr 18 (.t 42) (.t 44))⟩, ⟨none, (some 46), (.ld true 18 (.t 45))⟩, ⟨none, (some 47), (.mv (.t 0))⟩, ⟨none, (some 48), (.mv (.t 9))⟩, ⟨none, (some 49), (.iaddr 18 (.t 47) (.t 48))⟩, ⟨none, (some 50), (.ld true 18 (.t 49))⟩, ⟨none, (some 51), (.iaddr 18 (.t 37) (.t 38))⟩, ⟨none, none, (.st 18 (.t 51) (.t 46))⟩, ⟨none, (some 52), (.iaddr 18 (.t 39) (.t 41))⟩, ⟨none, none, (.st 18 (.t 52) (.t 50))⟩]
def p_slices_insertionSortCmpFunc_i_Grant_4 : List (List Nat) := [[], [], [], [], [3], [], [], [6], [5, 6, 7], [5, 6, 7, 8], [], [], [10, 11], [10, 11, 12], [0, 1, 5, 6, 7, 8, 9, 10, 11, 12, 13], [0, 1, 5, 6, 7, 8, 9, 10, 11, 12, 13, 14], [0, 1, 2, 3, 4, 5, 6, 7, 8, 9, 10, 11, 12, 13, 14, 15], [0, 1, 2, 3, 4, 5, 6, 7, 8, 9, 10, 11, 12, 13, 14, 15, 16]]
def r_slices_insertionSortCmpFunc_i_Grant_5 : List CO := [⟨none, (some 35), (.mv (.t 9))⟩, ⟨none, (some 36), (.bin .sub .none (.t 35) (.k (.v (.int .i64 (1)))))⟩, ⟨none, (some 9), (.mv (.t 36))⟩]
def l_slices_insertionSortCmpFunc_i_Grant_6 : C := (.seq (.seq (.regD r_slices_insertionSortCmpFunc_i_Grant_3 p_slices_insertionSortCmpFunc_i_Grant_3 [0, 1, 2, 3, 8, 9, 34]) (.cond (.t 34) .skip (.exit 2))) (.seq (.block 3 (.regD r_slices_insertionSortCmpFunc_i_Grant_4 p_slices_insertionSortCmpFunc_i_Grant_4 [0, 1, 2, 3, 8, 9])) (.reg r_slices_insertionSortCmpFunc_i_Grant_5 [0, 1, 2, 3, 8, 9])))
def r_slices_insertionSortCmpFunc_i_Grant_7 : List CO := [⟨none, (some 15), (.mv (.t 8))⟩, ⟨none, (some 16), (.bin .add .none (.t 15) (.k (.v (.int .i64 (1)))))⟩, ⟨none, (some 8), (.mv (.t 16))⟩]
def l_slices_insertionSortCmpFunc_i_Grant_8 : C := (.seq (.seq (.reg r_slices_insertionSortCmpFunc_i_Grant_1 [0, 1, 2, 3, 8, 14]) (.cond (.t 14) .skip (.exit 0))) (.seq (.block 1 (.seq (.reg r_slices_insertionSortCmpFunc_i_Grant_2 [0, 1, 2, 3, 8, 9]) (.block 2 (.loop l_slices_insertionSortCmpFunc_i_Grant_6)))) (.reg r_slices_insertionSortCmpFunc_i_Grant_7 [0, 1, 2, 3, 8])))
/-- slices.insertionSortCmpFunc[loop.example/g00884/impl.Grant] -/
def c_slices_insertionSortCmpFunc_i_Grant : C := (.seq (.reg r_slices_insertionSortCmpFunc_i_Grant_0 [0, 1, 2, 3, 8]) (.block 0 (.loop l_slices_insertionSortCmpFunc_i_Grant_8)))
def k_slices_insertionSortCmpFunc_i_Grant : Nat → List Nat
  | 0 => [0, 1, 2, 3, 8]
  | 1 => [0, 1, 2, 3, 8, 14]
  | 3 => [0, 1, 2, 3, 8, 9]
  | 4 => [0, 1, 2, 3, 8, 9, 34]
  | 6 => [0, 1, 2, 3, 8, 9]
  | 5 => [0, 1, 2, 3, 8, 9]
  | 2 => [0, 1, 2, 3, 8]
  | _ => []
theorem fn_slices_insertionSortCmpFunc_i_Grant : FnC Tryz.prog n_slices_insertionSortCmpFunc_i_Grant c_slices_insertionSortCmpFunc_i_Grant [] 53 :=
  ⟨Tryz.f200, _, k_slices_insertionSortCmpFunc_i_Grant, Tryz.func200, rfl, by kernel_rfl, by kernel_rfl, by kernel_rfl, rfl⟩
def r_slices_stableCmpFunc_i_Grant_0 : List CO := [⟨none, (some 6), (.mv (.k (.v (.int .i64 (20)))))⟩]
def r_slices_stableCmpFunc_i_Grant_1 : List CO := [⟨none, (some 10), (.mv (.t 6))⟩, ⟨none, (some 7), (.mv (.k (.v (.int .i64 (0)))))⟩, ⟨none, (some 8), (.mv (.t 10))⟩]
def r_slices_stableCmpFunc_i_Grant_2 : List CO := [⟨none, (some 11), (.mv (.t 8))⟩, ⟨none, (some 12), (.mv (.t 1))⟩, ⟨none, (some 13), (.bin .leq .none (.t 11) (.t 12))⟩]
def r_slices_stableCmpFunc_i_Grant_3 : List CO := [⟨none, (some 14), (.mv (.t 0))⟩, ⟨none, (some 15), (.mv (.t 7))⟩, ⟨none, (some 16), (.mv (.t 8))⟩, ⟨none, (some 17), (.mv (.t 2))⟩, ⟨none, (some 18), (.call n_slices_insertionSortCmpFunc_i_Grant [(.t 14), (.t 15), (.t 16), (.t 17)])⟩]
def r_slices_stableCmpFunc_i_Grant_4 : List CO := [⟨none, (some 19), (.mv (.t 8))⟩, ⟨none, (some 7), (.mv (.t 19))⟩]
def r_slices_stableCmpFunc_i_Grant_5 : List CO := [⟨none, (some 20), (.mv (.t 8))⟩, ⟨none, (some 21), (.mv (.t 6))⟩, ⟨none, (some 22), (.bin .add .none (.t 20) (.t 21))⟩, ⟨none, (some 8), (.mv (.t 22))⟩]
def l_slices_stableCmpFunc_i_Grant_6 : C := (.seq (.seq (.reg r_slices_stableCmpFunc_i_Grant_2 [0, 1, 2, 6, 7, 8, 13]) (.cond (.t 13) .skip (.exit 0))) (.block 1 (.seq (.reg r_slices_stableCmpFunc_i_Grant_3 [0, 1, 2, 6, 8]) (.seq (.reg r_slices_stableCmpFunc_i_Grant_4 [0, 1, 2, 6, 7, 8]) (.reg r_slices_stableCmpFunc_i_Grant_5 [0, 1, 2, 6, 7, 8])))))
def r_slices_stableCmpFunc_i_Grant_7 : List CO := [⟨none, (some 23), (.mv (.t 0))⟩, ⟨none, (some 24), (.mv (.t 7))⟩, ⟨none, (some 25), (.mv (.t 1))⟩, ⟨none, (some 26), (.mv (.t 2))⟩, ⟨none, (some 27), (.call n_slices_insertionSortCmpFunc_i_Grant [(.t 23), (.t 24), (.t 25), (.t 26)])⟩]
def r_slices_stableCmpFunc_i_Grant_8 : List CO := [⟨none, (some 28), (.mv (.t 6))⟩, ⟨none, (some 29), (.mv (.t 1))⟩, ⟨none, (some 30), (.bin .lss .none (.t 28) (.t 29))⟩]
def r_slices_stableCmpFunc_i_Grant_9 : List CO := [⟨none, (some 31), (.mv (.t 6))⟩, ⟨none, (some 32), (.bin .mul .none (.k (.v (.int .i64 (2)))) (.t 31))⟩, ⟨none, (some 7), (.mv (.k (.v (.int .i64 (0)))))⟩, ⟨none, (some 8), (.mv (.t 32))⟩]
def r_slices_stableCmpFunc_i_Grant_10 : List CO := [⟨none, (some 33), (.mv (.t 8))⟩, ⟨none, (some 34), (.mv (.t 1))⟩, ⟨none, (some 35), (.bin .leq .none (.t 33) (.t 34))⟩]
def r_slices_stableCmpFunc_i_Grant_11 : List CO := [⟨none, (some 36), (.mv (.t 0))⟩, ⟨none, (some 37), (.mv (.t 7))⟩, ⟨none, (some 38), (.mv (.t 7))⟩, ⟨none, (some 39), (.mv (.t 6))⟩, ⟨none, (some 40), (.bin .add .none (.t 38) (.t 39))⟩, ⟨none, (some 41), (.mv (.t 8))⟩, ⟨none, (some 42), (.mv (.t 2))⟩, ⟨none, (some 43), (.call n_slices_symMergeCmpFunc_i_Grant [(.t 36), (.t 37), (.t 40), (.t 41), (.t 42)])⟩]
def r_slices_stableCmpFunc_i_Grant_12 : List CO := [⟨none, (some 44), (.mv (.t 8))⟩, ⟨none, (some 7), (.mv (.t 44))⟩]
def r_slices_stableCmpFunc_i_Grant_13 : List CO := [⟨none, (some 45), (.mv (.t 8))⟩, ⟨none, (some 46), (.mv (.t 6))⟩, ⟨none, (some 47), (.bin .mul .none (.k (.v (.int .i64 (2)))) (.t 46))⟩, ⟨none, (some 48), (.bin .add .none (.t 45) (.t 47))⟩, ⟨none, (some 8), (.mv (.t 48))⟩]
def l_slices_stableCmpFunc_i_Grant_14 : C := (.seq (.seq (.reg r_slices_stableCmpFunc_i_Grant_10 [0, 1, 2, 6, 7, 8, 35]) (.cond (.t 35) .skip (.exit 4))) (.block 5 (.seq (.reg r_slices_stableCmpFunc_i_Grant_11 [0, 1, 2, 6, 8]) (.seq (.reg r_slices_stableCmpFunc_i_Grant_12 [0, 1, 2, 6, 7, 8]) (.reg r_slices_stableCmpFunc_i_Grant_13 [0, 1, 2, 6, 7, 8])))))
def r_slices_stableCmpFunc_i_Grant_15 : List CO := [⟨none, (some 49), (.mv (.t 7))⟩, ⟨none, (some 50), (.mv (.t 6))⟩, ⟨none, (some 51), (.bin .add .none (.t 49) (.t 50))⟩, ⟨none, (some 9), (.mv (.t 51))⟩]
def r_slices_stableCmpFunc_i_Grant_16 : List CO := [⟨none, (some 52), (.mv (.t 9))⟩, ⟨none, (some 53), (.mv (.t 1))⟩, ⟨none, (some 54), (.bin .lss .none (.t 52) (.t 53))⟩]
def r_slices_stableCmpFunc_i_Grant_17 : List CO := [⟨none, (some 55), (.mv (.t 0))⟩, ⟨none, (some 56), (.mv (.t 7))⟩, ⟨none, (some 57), (.mv (.t 9))⟩, ⟨none, (some 58), (.mv (.t 1))⟩, ⟨none, (some 59), (.mv (.t 2))⟩, ⟨none, (some 60), (.call n_slices_symMergeCmpFunc_i_Grant [(.t 55), (.t 56), (.t 57), (.t 58), (.t 59)])⟩]
def r_slices_stableCmpFunc_i_Grant_18 : List CO := [⟨none, (some 61), (.mv (.t 6))⟩, ⟨none, (some 62), (.bin .mul .none (.t 61) (.k (.v (.int .i64 (2)))))⟩, ⟨none, (some 6), (.mv (.t 62))⟩]
def l_slices_stableCmpFunc_i_Grant_19 : C := (.seq (.seq (.reg r_slices_stableCmpFunc_i_Grant_8 [0, 1, 2, 6, 30]) (.cond (.t 30) .skip (.exit 2))) (.block 3 (.seq (.reg r_slices_stableCmpFunc_i_Grant_9 [0, 1, 2, 6, 7, 8]) (.seq (.block 4 (.loop l_slices_stableCmpFunc_i_Grant_14)) (.seq (.seq (.reg r_slices_stableCmpFunc_i_Grant_15 [0, 1, 2, 6, 7, 9]) (.seq (.reg r_slices_stableCmpFunc_i_Grant_16 [0, 1, 2, 6, 7, 9, 54]) (.cond (.t 54) (.reg r_slices_stableCmpFunc_i_Grant_17 [0, 1, 2, 6]) .skip))) (.reg r_slices_stableCmpFunc_i_Grant_18 [0, 1, 2, 6]))))))
/-- slices.stableCmpFunc[loop.example/g00884/impl.Grant] -/
def c_slices_stableCmpFunc_i_Grant : C := (.seq (.reg r_slices_stableCmpFunc_i_Grant_0 [0, 1, 2, 6]) (.seq (.reg r_slices_stableCmpFunc_i_Grant_1 [0, 1, 2, 6, 7, 8]) (.seq (.block 0 (.loop l_slices_stableCmpFunc_i_Grant_6)) (.seq (.reg r_slices_stableCmpFunc_i_Grant_7 [0, 1, 2, 6]) (.block 2 (.loop l_slices_stableCmpFunc_i_Grant_19))))))
def k_slices_stableCmpFunc_i_Grant : Nat → List Nat
  | 0 => [0, 1, 2, 6]
  | 1 => [0, 1, 2, 6, 7, 8]
  | 2 => [0, 1, 2, 6, 7, 8, 13]
  | 3 => [0, 1, 2, 6, 8]
  | 4 => [0, 1, 2, 6, 7, 8]
  | 5 => [0, 1, 2, 6, 7, 8]
  | 6 => [0, 1, 2, 6]
  | 7 => [0, 1, 2, 6, 30]
  | 8 => [0, 1, 2, 6, 7, 8]
  | 9 => [0, 1, 2, 6, 7, 8, 35]
  | 10 => [0, 1, 2, 6, 8]
  | 11 => [0, 1, 2, 6, 7, 8]
  | 12 => [0, 1, 2, 6, 7, 8]
  | 13 => [0, 1, 2, 6, 7, 9]
  | 14 => [0, 1, 2, 6, 7, 9, 54]
  | 15 => [0, 1, 2, 6]
  | 16 => [0, 1, 2, 6]
  | _ => []
theorem fn_slices_stableCmpFunc_i_Grant : FnC Tryz.prog n_slices_stableCmpFunc_i_Grant c_slices_stableCmpFunc_i_Grant [] 63 :=
  ⟨Tryz.f151, _, k_slices_stableCmpFunc_i_Grant, Tryz.func151, rfl, by kernel_rfl, by kernel_rfl, by kernel_rfl, rfl⟩
def r_slices_SortStableFunc_i_Grant_i_Grant_0 : List CO := [⟨none, (some 4), (.mv (.t 0))⟩, ⟨none, (some 5), (.mv (.t 0))⟩, ⟨none, (some 6), (.len false (.t 5))⟩, ⟨none, (some 7), (.mv (.t 1))⟩, ⟨none, (some 8), (.call n_slices_stableCmpFunc_i_Grant [(.t 4), (.t 6), (.t 7)])⟩]
/-- slices.SortStableFunc[[]loop.example/g00884/impl.Grant,loop.example/g00884/impl.Grant] -/
def c_slices_SortStableFunc_i_Grant_i_Grant : C := (.reg r_slices_SortStableFunc_i_Grant_i_Grant_0 [])
def k_slices_SortStableFunc_i_Grant_i_Grant : Nat → List Nat
  | 0 => []
  | _ => []
theorem fn_slices_SortStableFunc_i_Grant_i_Grant : FnC Tryz.prog n_slices_SortStableFunc_i_Grant_i_Grant c_slices_SortStableFunc_i_Grant_i_Grant [] 9 :=
  ⟨Tryz.f109, _, k_slices_SortStableFunc_i_Grant_i_Grant, Tryz.func109, rfl, by kernel_rfl, by kernel_rfl, by kernel_rfl, rfl⟩
end Go.Proofs.YtbeoijlggphklaaGreatDoor

/- Library: a short row of grants that is sorted, stable. -/
set_option linter.unusedVariables false
set_option linter.unusedSimpArgs false
namespace Go.Proofs.YtbeoijlggphklaaGreatDoor
open Go.Abs

/-- The row while x is on its way to the left: at the place j. -/
def onWay (P R : List Grant) (x : Grant) (j : Nat) : List Grant := P.take j ++ x :: (P.drop j ++ R)
theorem onWay_len {P R : List Grant} {x : Grant} {j : Nat} (hj : j ≤ P.length) : (onWay P R x j).length = P.length + 1 + R.length := by
  simp [onWay]; omega
theorem onWay_at {P R : List Grant} {x : Grant} {j : Nat} (hj : j ≤ P.length) : (onWay P R x j)[j]? = some x := by
  unfold onWay
  rw [List.getElem?_append_right (by rw [List.length_take]; omega), List.length_take, Nat.min_eq_left hj, Nat.sub_self]; rfl
theorem onWay_before {P R : List Grant} {x : Grant} {j : Nat} (hj : j ≤ P.length) (h0 : 0 < j) : (onWay P R x j)[j - 1]? = some (P[j - 1]'(by omega)) := by
  unfold onWay
  rw [List.getElem?_append_left (by simp; omega), List.getElem?_take, if_pos (by omega), List.getElem?_eq_getElem (by omega)]
theorem onWay_swap {P R : List Grant} {x : Grant} {j : Nat} (hj : j ≤ P.length) (h0 : 0 < j) : ((onWay P R x j).set j (P[j - 1]'(by omega))).set (j - 1) x = onWay P R x (j - 1) := by
  obtain ⟨k, rfl⟩ : ∃ k, j = k + 1 := ⟨j - 1, by omega⟩
  simp only [Nat.add_sub_cancel]
  have hk : k < P.length := by omega
  have e1 : P.take (k + 1) = P.take k ++ [P[k]] := take_succ' hk
  have e2 : P.drop k = P[k] :: P.drop (k + 1) := List.drop_eq_getElem_cons hk
  have hl : (P.take k).length = k := by rw [List.length_take]; omega
  unfold onWay
  rw [e1, e2, List.append_assoc, List.singleton_append, List.set_append_right _ _ (by omega), hl, show k + 1 - k = 1 by omega]
  rw [List.set_append_right _ _ (by omega), hl, Nat.sub_self]
  rfl
theorem onWay_none {P R : List Grant} {x : Grant} : onWay P R x P.length = P ++ x :: R := by simp [onWay]
theorem onWay_ins {P R : List Grant} {x : Grant} {j : Nat} : onWay P R x j = (P.take j ++ x :: P.drop j) ++ R := by simp [onWay]
def rowI (lt : Grant → Grant → Bool) (l : List Grant) (i : Nat) : List Grant := sortR lt (l.take i) ++ l.drop i
theorem rowI_one (lt : Grant → Grant → Bool) (l : List Grant) : rowI lt l 1 = l := by
  cases l with
  | nil => rfl
  | cons x l => rfl
theorem rowI_len (lt : Grant → Grant → Bool) (l : List Grant) (i : Nat) : (rowI lt l i).length = l.length := by
  simp only [rowI, List.length_append, sortR_len, List.length_take, List.length_drop]; omega
theorem rowI_end (lt : Grant → Grant → Bool) (l : List Grant) {i : Nat} (h : l.length ≤ i) : rowI lt l i = sortR lt l := by
  rw [rowI, List.take_of_length_le h, List.drop_of_length_le h, List.append_nil]
set_option maxHeartbeats 1000000 in
theorem insertionSort_grants (l : List Grant) (lt : Grant → Grant → Bool) (c : Grant → Grant → Int) (g : Nat) (hl : l.length ≤ 20) (hg : ∀ x ∈ l, ∀ y ∈ l, PCall Tryz.prog g [eGrant x, eGrant y] (I (c x y))) (hc : ∀ x ∈ l, ∀ y ∈ l, (c x y < 0 ↔ lt x y = true)) :
    MCall Tryz.prog n_slices_insertionSortCmpFunc_i_Grant [⟨18, l.map eGrant⟩] [.sl (mid 0) 0 l.length, I 0, I l.length, .clo g []] (.tup []) [some ⟨18, (sortR lt l).map eGrant⟩] := by
  refine MCall.of fn_slices_insertionSortCmpFunc_i_Grant (by simp) rfl (by simp) ?_
  have h0 := rowI_one lt l
  simp [c_slices_insertionSortCmpFunc_i_Grant, r_slices_insertionSortCmpFunc_i_Grant_0]
  rw [wrap64 (n := 1) (by omega) (by omega)]
  refine loopK (fun i : Nat => ⟨[(0, .sl 1000000 0 l.length), (1, I 0), (2, I l.length), (3, .clo g []), (8, I i)], [(1000000, ⟨18, (rowI lt l i).map eGrant⟩)], [1000000]⟩) (fun i => l.length - i) (fun i => 1 ≤ i ∧ (i ≤ l.length ∨ i = 1)) 1 (Wk.list rfl (by simp) (by simp [h0])) (by simp) ?_
  rintro i ⟨hi0, hi⟩ K hN hR hE
  simp [l_slices_insertionSortCmpFunc_i_Grant_8, r_slices_insertionSortCmpFunc_i_Grant_1]
  refine ⟨fun hlt => ?_, fun hge => ?_⟩
  · obtain ⟨P, hP⟩ : ∃ P, sortR lt (l.take i) = P := ⟨_, rfl⟩
    obtain ⟨R, hR'⟩ : ∃ R, l.drop (i + 1) = R := ⟨_, rfl⟩
    obtain ⟨x, hx⟩ : ∃ x, l[i] = x := ⟨_, rfl⟩
    have hPl : P.length = i := by rw [← hP, sortR_len, List.length_take]; omega
    have hRl : R.length = l.length - (i + 1) := by rw [← hR', List.length_drop]
    have hrow : rowI lt l i = onWay P R x i := by
      have e := onWay_none (P := P) (R := R) (x := x)
      rw [hPl] at e
      rw [e, rowI, hP, ← hx, ← hR', List.drop_eq_getElem_cons hlt]
    have hxm : x ∈ l := hx ▸ List.getElem_mem _
    have hPm : ∀ y ∈ P, y ∈ l := fun y hy => List.mem_of_mem_take (sortR_mem.1 (by rw [hP]; exact hy))
    have hnext : ∀ j, insR (lt x) x P = P.take j ++ x :: P.drop j → rowI lt l (i + 1) = onWay P R x j := fun j e => by
      rw [onWay_ins, ← e, rowI, take_succ' hlt, sortR_snoc, hP, hx, hR']
    rw [hrow]
    simp [r_slices_insertionSortCmpFunc_i_Grant_2]
    refine loopK (fun j : Nat => ⟨[(0, .sl 1000000 0 l.length), (1, I 0), (2, I l.length), (3, .clo g []), (8, I i), (9, I j)], [(1000000, ⟨18, (onWay P R x j).map eGrant⟩)], [1000000]⟩) (fun j => j) (fun j => j ≤ i ∧ ∀ q (h : q < P.length), j ≤ q → lt x P[q] = true) i (Wk.list rfl (by simp) (by simp)) ⟨Nat.le_refl _, fun q h h' => by omega⟩ ?_
    rintro j ⟨hj, hpj⟩ K2 hN2 hR2 hE2
    have hlen : (onWay P R x j).length = l.length := by rw [onWay_len (by omega)]; omega
    have hat := onWay_at (P := P) (R := R) (x := x) (j := j) (by omega)
    simp [l_slices_insertionSortCmpFunc_i_Grant_6, r_slices_insertionSortCmpFunc_i_Grant_3, p_slices_insertionSortCmpFunc_i_Grant_3]
    refine ⟨fun h1 => ?_, fun h1 => ?_⟩
    · have hlj : j < l.length := by omega
      have hwr : IntKind.i64.wrap ((j : Int) - 1) = ((j - 1 : Nat) : Int) := by rw [wrap64 (by omega) (by omega)]; omega
      have hbf := onWay_before (R := R) (x := x) (show j ≤ P.length by omega) h1
      have hj1 : j - 1 < l.length := by omega
      have hjP : j - 1 < P.length := by omega
      have hcc := hc x hxm P[j - 1] (hPm _ (List.getElem_mem _))
      simp [hat, hlj, hwr, hbf, hj1]
      refine callD_v (PCall.arg (hg x hxm P[j - 1] (hPm _ (List.getElem_mem _))) (by simp)) ?_ ?_ ?_
      · simp
      · simp
      simp
      refine ⟨oEnd_of (by simp [p_slices_insertionSortCmpFunc_i_Grant_3]) (by simp), fun hneg => ?_, fun hpos => ?_⟩
      · have hatE : ∀ h, (onWay P R x j)[j]'h = x := fun h => by rw [List.getElem_eq_iff]; exact hat
        have hbfE : ∀ h, (onWay P R x j)[j - 1]'h = P[j - 1] := fun h => by rw [List.getElem_eq_iff]; exact hbf
        have hne : ¬ j = j - 1 := by omega
        simp [r_slices_insertionSortCmpFunc_i_Grant_4, p_slices_insertionSortCmpFunc_i_Grant_4, hlj, hwr, hj1, hlen, hatE, hbfE, List.getElem_set, hne]
        have hsw := onWay_swap (R := R) (x := x) (show j ≤ P.length by omega) h1
        refine ⟨oEnd_of (by simp [p_slices_insertionSortCmpFunc_i_Grant_4]) (by simp), ?_⟩
        simp [r_slices_insertionSortCmpFunc_i_Grant_5]
        rw [hwr]
        refine hN2 (j - 1) _ (by omega) ⟨by omega, fun q h h' => ?_⟩ (Wk.list rfl (by simp) (by simp [← hsw]))
        by_cases e : q = j - 1
        · subst e; exact hcc.1 hneg
        · exact hpj q h (by omega)
      · have hF : lt x P[j - 1] = false := Bool.eq_false_iff.2 fun e => by have := hcc.2 e; omega
        have hins : insR (lt x) x P = P.take j ++ x :: P.drop j := insR_at (by omega) (fun q h h' => hpj q h h') (fun _ => hF)
        refine hE2 _ _ ?_
        simp only [blockK_exit]
        simp [r_slices_insertionSortCmpFunc_i_Grant_7]
        rw [wrap64 (by omega) (by omega)]
        refine hN (i + 1) _ (by omega) ⟨by omega, .inl (by omega)⟩ (Wk.list rfl (by simp) (by simp [hnext j hins]))
    · subst h1
      have hins : insR (lt x) x P = P.take 0 ++ x :: P.drop 0 := insR_at (by omega) (fun q h h' => hpj q h h') (fun h => by omega)
      refine ⟨oEnd_of (by simp [p_slices_insertionSortCmpFunc_i_Grant_3]) (by simp), ?_⟩
      refine hE2 _ _ ?_
      simp only [blockK_exit]
      simp [r_slices_insertionSortCmpFunc_i_Grant_7]
      rw [wrap64 (by omega) (by omega)]
      refine hN (i + 1) _ (by omega) ⟨by omega, .inl (by omega)⟩ (Wk.list rfl (by simp) (by simp [hnext 0 hins]))
  · refine hE _ _ ?_
    simp only [blockK_exit]
    simp [rowI_end lt l hge]
theorem stableCmp_grants (l : List Grant) (lt : Grant → Grant → Bool) (c : Grant → Grant → Int) (g : Nat) (hl : l.length < 20) (hg : ∀ x ∈ l, ∀ y ∈ l, PCall Tryz.prog g [eGrant x, eGrant y] (I (c x y))) (hc : ∀ x ∈ l, ∀ y ∈ l, (c x y < 0 ↔ lt x y = true)) :
    MCall Tryz.prog n_slices_stableCmpFunc_i_Grant [⟨18, l.map eGrant⟩] [.sl (mid 0) 0 l.length, I l.length, .clo g []] (.tup []) [some ⟨18, (sortR lt l).map eGrant⟩] := by
  refine MCall.of fn_slices_stableCmpFunc_i_Grant (by simp) rfl (by simp) ?_
  have h1 : ¬ (20 : Int) ≤ l.length := by omega
  have h2 : ¬ (20 : Int) < l.length := by omega
  simp [c_slices_stableCmpFunc_i_Grant, r_slices_stableCmpFunc_i_Grant_0, r_slices_stableCmpFunc_i_Grant_1]
  refine loopK (fun _ : Unit => ⟨[(0, .sl 1000000 0 l.length), (1, I l.length), (2, .clo g []), (6, I 20), (7, I 0), (8, I 20)], [(1000000, ⟨18, l.map eGrant⟩)], [1000000]⟩) (fun _ => 0) (fun _ => True) () (Wk.list rfl (by simp) (by simp)) trivial ?_
  rintro _ _ K hN hR hE
  simp [l_slices_stableCmpFunc_i_Grant_6, r_slices_stableCmpFunc_i_Grant_2, h1]
  refine hE _ _ ?_
  simp only [blockK_exit]
  simp [r_slices_stableCmpFunc_i_Grant_7]
  refine callQ_M [1000000] (MCall.arg (insertionSort_grants l lt c g (by omega) hg hc) (by simp)) (by simp) (by simp) (by simp) (by simp) rfl rfl (by simp) ?_
  simp
  refine loopK (fun _ : Unit => ⟨[(0, .sl 1000000 0 l.length), (1, I l.length), (2, .clo g []), (6, I 20)], [(1000000, ⟨18, (sortR lt l).map eGrant⟩)], [1000000]⟩) (fun _ => 0) (fun _ => True) () (Wk.list rfl (by simp) (by simp)) trivial ?_
  rintro _ _ K hN hR hE
  simp [l_slices_stableCmpFunc_i_Grant_19, r_slices_stableCmpFunc_i_Grant_8, h2]
  refine hE _ _ ?_
  simp only [blockK_exit]
  simp
theorem sortStable_grants (l : List Grant) (lt : Grant → Grant → Bool) (c : Grant → Grant → Int) (g : Nat) (hl : l.length < 20) (hg : ∀ x ∈ l, ∀ y ∈ l, PCall Tryz.prog g [eGrant x, eGrant y] (I (c x y))) (hc : ∀ x ∈ l, ∀ y ∈ l, (c x y < 0 ↔ lt x y = true)) :
    MCall Tryz.prog n_slices_SortStableFunc_i_Grant_i_Grant [⟨18, l.map eGrant⟩] [.sl (mid 0) 0 l.length, .clo g []] (.tup []) [some ⟨18, (sortR lt l).map eGrant⟩] := by
  refine MCall.of fn_slices_SortStableFunc_i_Grant_i_Grant (by simp) rfl (by simp) ?_
  simp [c_slices_SortStableFunc_i_Grant_i_Grant, r_slices_SortStableFunc_i_Grant_i_Grant_0]
  refine callQ_M [1000000] (MCall.arg (stableCmp_grants l lt c g hl hg hc) (by simp)) (by simp) (by simp) (by simp) (by simp) rfl rfl (by simp) ?_
  simp
end Go.Proofs.YtbeoijlggphklaaGreatDoor

/- The order of a roll: program, reference. -/
set_option linter.unusedVariables false
set_option linter.unusedSimpArgs false
namespace Go.Proofs.YtbeoijlggphklaaGreatDoor
open Go.Abs

theorem compare_lt : ∀ (a b : List UInt8), Lib.compareBytes a b < 0 ↔ a < b
  | [], [] => by simp [Lib.compareBytes]
  | [], _ :: _ => by simp [Lib.compareBytes]
  | _ :: _, [] => by simp [Lib.compareBytes]
  | a :: xs, b :: ys => by
    have ih := compare_lt xs ys
    rw [Lib.compareBytes, List.cons_lt_cons_iff]
    by_cases h1 : a < b
    · simp [h1]
    · by_cases h2 : b < a
      · have : a ≠ b := by rintro rfl; exact h1 h2
        simp [h1, h2, this]
      · have : a = b := UInt8.le_antisymm (UInt8.not_lt.1 h2) (UInt8.not_lt.1 h1)
        subst this
        simp [h1, ih]
theorem less_iff : ∀ {x y : List UInt8}, Op.bytesLess x y = true ↔ x < y
  | [], [] => by simp [Op.bytesLess]
  | [], y :: ys => by simp [Op.bytesLess]
  | x :: xs, [] => by simp [Op.bytesLess]
  | x :: xs, y :: ys => by
    have ih := @less_iff xs ys
    rw [Op.bytesLess]
    rw [List.cons_lt_cons_iff]
    simp [ih]
theorem less_eq (x y : List UInt8) : Op.bytesLess x y = decide (x < y) := by rw [Bool.eq_iff_iff, less_iff, decide_eq_true_iff]
theorem strings_Compare (a b : List UInt8) : PCall Tryz.prog n_strings_Compare [S a, S b] (I (Lib.compareBytes a b)) :=
  PCall.same (vs := [.string (bs a), .string (bs b)]) (y := .int .i64 (Lib.compareBytes a b)) (by kernel_rfl) (fun _ _ => CV_mkv rfl) (fun w _ _ => Tryz.strings_Compare (bs a) (bs b) w)
theorem i_Register_ordered_1 (a b : Grant) : PCall Tryz.prog n_i_Register_ordered_1 [eGrant a, eGrant b] (I (Lib.compareBytes a.name b.name)) := by
  refine PCall.of fn_i_Register_ordered_1 (by simp) ?_
  simp [c_i_Register_ordered_1, r_i_Register_ordered_1_0, r_i_Register_ordered_1_1]
  refine callQ_v (PCall.arg (strings_Compare a.name b.name) (by simp)) ?_
  simp
theorem i_Register_ordered_2 (a b : Grant) (ha : arms a.arms = true) (hb : arms b.arms = true) : PCall Tryz.prog n_i_Register_ordered_2 [eGrant a, eGrant b] (I (Lib.compareBytes (armsT a.arms) (armsT b.arms))) := by
  refine PCall.of fn_i_Register_ordered_2 (by simp) ?_
  simp [c_i_Register_ordered_2, r_i_Register_ordered_2_0, r_i_Register_ordered_2_1, p_i_Register_ordered_2_1]
  refine callD_v (PCall.arg (i_Arms_text a.arms ha) (by simp)) ?_ ?_ ?_
  · simp
  · simp
  simp
  refine callD_v (PCall.arg (i_Arms_text b.arms hb) (by simp)) ?_ ?_ ?_
  · simp
  · simp
  simp
  refine callD_v (PCall.arg (strings_Compare (armsT a.arms) (armsT b.arms)) (by simp)) ?_ ?_ ?_
  · simp
  · simp
  simp
  exact oEnd_of (by simp [p_i_Register_ordered_2_1]) (by simp)
theorem i_Register_ordered (l : Register) (y : Int) (h : register l = true) : PCall Tryz.prog n_i_Register_ordered [eRegister l, I y] (.own 18 ((rollOrd y l).map eGrant)) := by
  have hl := register_len h
  have harm : ∀ g ∈ l, arms g.arms = true := fun g hg => (grantOk_iff (register_grant h g hg)).2.2.2
  refine PCall.of fn_i_Register_ordered (by simp) ?_
  simp [c_i_Register_ordered, r_i_Register_ordered_0, r_i_Register_ordered_1, r_i_Register_ordered_2]
  refine ⟨by unfold lenBound; omega, ?_⟩
  by_cases h2 : y = 2
  · have e : rollOrd y l = sortR (fun a b => decide (a.name < b.name)) l := by rw [rollOrd]; congr 1; funext a b; simp [ordLt, h2]
    rw [e]
    simp [r_i_Register_ordered_3, r_i_Register_ordered_4, h2]
    refine callQ_M [9] (MCall.arg (sortStable_grants l (fun a b => decide (a.name < b.name)) (fun a b => Lib.compareBytes a.name b.name) n_i_Register_ordered_1 (by omega) (fun x _ y _ => i_Register_ordered_1 x y) (fun x _ y _ => by simp [compare_lt])) (by simp)) (by simp) (by simp) (by simp) (by simp) rfl rfl (by simp) ?_
    simp [r_i_Register_ordered_7, sortR_len]
  · by_cases h3 : y = 3
    · have e : rollOrd y l = sortR (fun a b => decide (armsT a.arms < armsT b.arms)) l := by rw [rollOrd]; congr 1; funext a b; simp [ordLt, h3]
      rw [e]
      simp [r_i_Register_ordered_3, r_i_Register_ordered_5, r_i_Register_ordered_6, h3]
      refine callQ_M [9] (MCall.arg (sortStable_grants l (fun a b => decide (armsT a.arms < armsT b.arms)) (fun a b => Lib.compareBytes (armsT a.arms) (armsT b.arms)) n_i_Register_ordered_2 (by omega) (fun x hx y hy => i_Register_ordered_2 x y (harm x hx) (harm y hy)) (fun x _ y _ => by simp [compare_lt])) (by simp)) (by simp) (by simp) (by simp) (by simp) rfl rfl (by simp) ?_
      simp [r_i_Register_ordered_7, sortR_len]
    · have e : rollOrd y l = l := sortR_none (fun a b => by simp [ordLt, h2, h3]) l
      rw [e]
      simp [r_i_Register_ordered_3, r_i_Register_ordered_5, r_i_Register_ordered_7, h2, h3]
theorem s_l25By (y : Int) : PCall Tryz.prog n_s_l25By [I y] (B (inR y 1 3)) := by
  refine PCall.of fn_s_l25By (by simp) ?_
  simp [c_s_l25By, r_s_l25By_0, r_s_l25By_1]
  exact callQ_v (s_l1In ..) (by simp)
theorem s_l25Before (a b : Grant) (y : Int) (ha : arms a.arms = true) (hb : arms b.arms = true) : PCall Tryz.prog n_s_l25Before [eGrant a, eGrant b, I y] (B (beforeS y a b)) := by
  refine PCall.of fn_s_l25Before (by simp) ?_
  simp [c_s_l25Before, r_s_l25Before_0, r_s_l25Before_1]
  by_cases h2 : y = 2
  · simp [r_s_l25Before_2, r_s_l25Before_3, h2, less_eq, beforeS]
    refine ⟨fun hle => ⟨fun e => ?_, fun e => ⟨hle, fun h => absurd h e⟩⟩, fun h => .inl h⟩
    have hn : ¬ a.name < b.name := List.not_lt.2 hle
    rw [decide_eq_false hn, decide_eq_true e, Bool.false_or, Bool.true_and]
  · by_cases h3 : y = 3
    · simp [r_s_l25Before_2, r_s_l25Before_4, r_s_l25Before_5, p_s_l25Before_5, h3, beforeS]
      refine callD_v (PCall.arg (s_l6Text a.arms ha) (by simp)) ?_ ?_ ?_
      · simp
      · simp
      simp
      refine callD_v (PCall.arg (s_l6Text b.arms hb) (by simp)) ?_ ?_ ?_
      · simp
      · simp
      simp [less_eq]
      exact ⟨oEnd_of (by simp [p_s_l25Before_5]) (by simp), by simp [beforeS, h3]⟩
    · simp [r_s_l25Before_2, r_s_l25Before_4, r_s_l25Before_6, h2, h3, beforeS]
abbrev eIx (i : Nat) : V := I (i : Int)
def ixR (y : Int) (l : List Grant) (i : Nat) : List Nat := sortR (fun i j => beforeS y (l.getD i g00) (l.getD j g00)) (List.range i)
theorem ixR_len (y : Int) (l : List Grant) (i : Nat) : (ixR y l i).length = i := by rw [ixR, sortR_len, List.length_range]
theorem ixR_lt {y : Int} {l : List Grant} {i : Nat} : ∀ q ∈ ixR y l i, q < i := fun q hq => List.mem_range.1 (sortR_mem.1 hq)
theorem ixR_succ {y : Int} {l : List Grant} {i k : Nat} (hk : k ≤ i) (h1 : ∀ q (h : q < (ixR y l i).length), k ≤ q → beforeS y (l.getD i g00) (l.getD (ixR y l i)[q] g00) = true)
    (h2 : ∀ h : 0 < k, beforeS y (l.getD i g00) (l.getD ((ixR y l i)[k - 1]'(by rw [ixR_len]; omega)) g00) = false) : ixR y l (i + 1) = (ixR y l i).take k ++ i :: (ixR y l i).drop k := by
  have e : ixR y l (i + 1) = insR ((fun i j => beforeS y (l.getD i g00) (l.getD j g00)) i) i (ixR y l i) := by rw [ixR, List.range_succ, sortR_snoc]; rfl
  rw [e]
  exact insR_at (by rw [ixR_len]; exact hk) h1 h2
theorem ins_row {R : List Nat} {k i : Nat} (hk : k ≤ R.length) (hi : R.length = i) : List.take (k + 1) (List.take k (List.take k (List.map eIx R)) ++ [I i]) ++ List.take (i - k) (List.drop k (List.map eIx R)) = (R.take k ++ i :: R.drop k).map eIx := by
  have e1 : List.take (k + 1) (List.take k (List.map eIx R) ++ [I i]) = List.take k (List.map eIx R) ++ [I i] := List.take_of_length_le (by simp only [List.length_append, List.length_take, List.length_map, List.length_singleton]; omega)
  have e2 : List.take (i - k) (List.drop k (List.map eIx R)) = List.drop k (List.map eIx R) := List.take_of_length_le (by simp only [List.length_drop, List.length_map]; omega)
  rw [List.take_take, Nat.min_self, e1, e2, List.map_append, List.map_cons, List.map_take, List.map_drop, List.append_assoc]
  rfl
set_option maxHeartbeats 1000000 in
theorem s_l25Order (l : Register) (y : Int) (h : register l = true) : PCall Tryz.prog n_s_l25Order [eRegister l, I y] (.own 1 ((rollIx y l).map eIx)) := by
  have hl := register_len h
  have harm : ∀ g ∈ l, arms g.arms = true := fun g hg => (grantOk_iff (register_grant h g hg)).2.2.2
  refine PCall.of fn_s_l25Order (by simp) ?_
  simp [c_s_l25Order, r_s_l25Order_0, r_s_l25Order_1, r_s_l25Order_2]
  refine loopK (fun i : Nat => ⟨[(1, I y), (2, .ref 2 0 0), (5, .sl 8 0 i), (6, I i)], [(2, ⟨1, [eRegister l]⟩), (8, ⟨1, (ixR y l i).map eIx⟩)], []⟩) (fun i => l.length - i) (fun i => i ≤ l.length) 0 (Wk.list rfl (by simp) (by simp [ixR, sortR])) (by simp) ?_
  intro i hi K hN hR hE
  have hxl := ixR_len y l i
  simp [l_s_l25Order_10, r_s_l25Order_3]
  refine ⟨fun hlt => ?_, fun hge => ?_⟩
  · simp [r_s_l25Order_4]
    refine loopK (fun k : Nat => ⟨[(1, I y), (2, .ref 2 0 0), (5, .sl 8 0 i), (6, I i), (7, I k)], [(2, ⟨1, [eRegister l]⟩), (8, ⟨1, (ixR y l i).map eIx⟩)], []⟩) (fun k => k) (fun k => k ≤ i ∧ ∀ q (h : q < (ixR y l i).length), k ≤ q → beforeS y (l.getD i g00) (l.getD (ixR y l i)[q] g00) = true) i (Wk.list rfl (by simp) (by simp)) ⟨Nat.le_refl _, fun q h h' => by omega⟩ ?_
    rintro k ⟨hk, hq⟩ K2 hN2 hR2 hE2
    simp [l_s_l25Order_7, r_s_l25Order_5, p_s_l25Order_5]
    have fin : (ixR y l (i + 1) = (ixR y l i).take k ++ i :: (ixR y l i).drop k) → K2 (.exit 2) ⟨[(1, I y), (2, .ref 2 0 0), (5, .sl 8 0 i), (6, I i), (7, I k), (37, B false)], [(2, ⟨1, [eRegister l]⟩), (8, ⟨1, (ixR y l i).map eIx⟩)], []⟩ := fun e => by
      refine hE2 _ _ ?_
      simp only [blockK_exit]
      have hk' : k ≤ (ixR y l i).length := by omega
      simp [r_s_l25Order_8, p_s_l25Order_8, r_s_l25Order_9, hxl, hk]
      have hm : ∀ d, ments d (List.take k (List.take k (List.map eIx (ixR y l i)))) = false := fun d => ments_take (ments_take (by simp))
      refine ⟨by unfold lenBound; omega, by unfold lenBound; omega, noOwns_take (noOwns_drop (by simp)), by unfold lenBound; omega, oEnd_of (by simp [p_s_l25Order_8, hm]) (by simp), ?_⟩
      rw [wrap64 (by omega) (by omega), ins_row hk' hxl, ← e, show k + 1 + (i - k) = i + 1 by omega]
      have hT : ∀ s, Wk s ⟨[(1, I y), (2, .ref 2 0 0), (5, .sl 51 0 (i + 1)), (6, I ((i : Int) + 1))], [(51, ⟨1, (ixR y l (i + 1)).map eIx⟩), (2, ⟨1, [eRegister l]⟩)], []⟩ → Wk s ⟨[(1, I y), (2, .ref 2 0 0), (5, .sl 8 0 (i + 1)), (6, I ((i + 1 : Nat) : Int))], [(2, ⟨1, [eRegister l]⟩), (8, ⟨1, (ixR y l (i + 1)).map eIx⟩)], []⟩ :=
        fun s h => Wk.trans h <| Wk.trans (Wk.ren 51 8 (by decide) (by simp)) (Wk.list rfl (by simp [AS.ren, ren, reN]) (by simp [AS.ren, ren, reN, renB]))
      exact hN (i + 1) _ (by omega) (by omega) (hT _ (Wk.list rfl (by simp) (by simp)))
    refine ⟨fun h1 => ⟨hlt, ?_⟩, fun h1 => ?_⟩
    · have hwr : IntKind.i64.wrap ((k : Int) - 1) = ((k - 1 : Nat) : Int) := by rw [wrap64 (by omega) (by omega)]; omega
      have hqk : k - 1 < (ixR y l i).length := by omega
      obtain ⟨q, hqd⟩ : ∃ q, (ixR y l i)[k - 1] = q := ⟨_, rfl⟩
      have hqi : q < i := ixR_lt q (hqd ▸ List.getElem_mem _)
      have hql : q < List.length l := by omega
      have hgi : List.getD l i g00 = l[i] := by simp [hlt]
      have hgq : List.getD l q g00 = l[q] := by simp [hql]
      have hki : k - 1 < i := by omega
      have hqE : (ixR y l i)[k - 1]? = some q := by rw [List.getElem?_eq_getElem hqk, hqd]
      simp [hlt, hwr, hqE, hql, hki]
      refine callD_v (PCall.arg (s_l25Before l[i] l[q] y (harm _ (List.getElem_mem _)) (harm _ (List.getElem_mem _))) (by simp)) ?_ ?_ ?_
      · simp
      · simp
      cases hb : beforeS y l[i] l[q] with
      | true =>
        simp
        refine ⟨oEnd_of (by simp [p_s_l25Order_5]) (by simp), ?_⟩
        simp [r_s_l25Order_6]
        rw [hwr]
        refine hN2 (k - 1) _ (by omega) ⟨by omega, fun p hp h' => ?_⟩ (Wk.list rfl (by simp) (by simp))
        by_cases e : p = k - 1
        · subst e; rw [hqd, hgi, hgq]; exact hb
        · exact hq p hp (by omega)
      | false =>
        simp
        exact ⟨oEnd_of (by simp [p_s_l25Order_5]) (by simp), fin (ixR_succ hk hq fun _ => by rw [hqd, hgi, hgq]; exact hb)⟩
    · subst h1
      exact ⟨oEnd_of (by simp [p_s_l25Order_5]) (by simp), fin (ixR_succ hk hq fun h => by omega)⟩
  · obtain rfl : i = List.length l := by omega
    refine hE _ _ ?_
    simp only [blockK_exit]
    simp [r_s_l25Order_11, hxl]
    rfl
end Go.Proofs.YtbeoijlggphklaaGreatDoor

/- The compact code of the functions, and that it is theirs: written by a program of this claim. -/
namespace Go.Proofs.YtbeoijlggphklaaGreatDoor
open Go.Abs
set_option maxRecDepth 100000
def r_w_eqStringSS_0 : List CO := [⟨none, (some 4), (.mv (.k (.v (.bool false))))⟩]
def r_w_eqStringSS_1 : List CO := [⟨none, (some 6), (.mv (.t 0))⟩, ⟨none, (some 7), (.len false (.t 6))⟩, ⟨none, (some 8), (.mv (.t 1))⟩, ⟨none, (some 9), (.len false (.t 8))⟩, ⟨none, (some 10), (.bin .neq .none (.t 7) (.t 9))⟩]
def r_w_eqStringSS_2 : List CO := [⟨none, (some 4), (.mv (.k (.v (.bool false))))⟩]
def r_w_eqStringSS_3 : List CO := [⟨none, (some 5), (.mv (.k (.v (.int .i64 (0)))))⟩]
def r_w_eqStringSS_4 : List CO := [⟨none, (some 11), (.mv (.t 5))⟩, ⟨none, (some 12), (.mv (.t 0))⟩, ⟨none, (some 13), (.len false (.t 12))⟩, ⟨none, (some 14), (.bin .lss .none (.t 11) (.t 13))⟩]
def r_w_eqStringSS_5 : List CO := [⟨none, (some 17), (.mv (.t 0))⟩, ⟨none, (some 18), (.mv (.t 5))⟩, ⟨none, (some 19), (.iaddr 1 (.t 17) (.t 18))⟩, ⟨none, (some 20), (.ld false 1 (.t 19))⟩, ⟨none, (some 21), (.mv (.t 1))⟩, ⟨none, (some 22), (.mv (.t 5))⟩, ⟨none, (some 23), (.iaddr 1 (.t 21) (.t 22))⟩, ⟨none, (some 24), (.ld false 1 (.t 23))⟩, ⟨none, (some 25), (.call n_w_eqStringS [(.t 20), (.t 24)])⟩, ⟨none, (some 26), (.un .not (.t 25))⟩]
def p_w_eqStringSS_5 : List (List Nat) := [[], [], [0, 1], [0, 1, 2], [], [], [4, 5], [4, 5, 6], [0, 1, 2, 3, 4, 5, 6, 7], [0, 1, 2, 3, 4, 5, 6, 7, 8]]
def r_w_eqStringSS_6 : List CO := [⟨none, (some 4), (.mv (.k (.v (.bool false))))⟩]
def r_w_eqStringSS_7 : List CO := [⟨none, (some 15), (.mv (.t 5))⟩, ⟨none, (some 16), (.bin .add .none (.t 15) (.k (.v (.int .i64 (1)))))⟩, ⟨none, (some 5), (.mv (.t 16))⟩]
def l_w_eqStringSS_8 : C := (.seq (.seq (.reg r_w_eqStringSS_4 [0, 1, 5, 14]) (.cond (.t 14) .skip (.exit 0))) (.seq (.block 1 (.seq (.regD r_w_eqStringSS_5 p_w_eqStringSS_5 [0, 1, 5, 26]) (.cond (.t 26) (.seq (.reg r_w_eqStringSS_6 [4]) .ret) .skip))) (.reg r_w_eqStringSS_7 [0, 1, 5])))
def r_w_eqStringSS_9 : List CO := [⟨none, (some 4), (.mv (.k (.v (.bool true))))⟩]
/-- loop.example/g00884/laws.eqStringSS -/
def c_w_eqStringSS : C := (.seq (.reg r_w_eqStringSS_0 [0, 1]) (.seq (.seq (.reg r_w_eqStringSS_1 [0, 1, 10]) (.cond (.t 10) (.seq (.reg r_w_eqStringSS_2 [4]) .ret) .skip)) (.seq (.seq (.reg r_w_eqStringSS_3 [0, 1, 5]) (.block 0 (.loop l_w_eqStringSS_8))) (.seq (.reg r_w_eqStringSS_9 [4]) .ret))))
def k_w_eqStringSS : Nat → List Nat
  | 0 => [0, 1]
  | 1 => [0, 1, 10]
  | 2 => [4]
  | 3 => [0, 1, 5]
  | 4 => [0, 1, 5, 14]
  | 6 => [0, 1, 5, 26]
  | 7 => [4]
  | 5 => [0, 1, 5]
  | 8 => [4]
  | _ => []
theorem fn_w_eqStringSS : FnC Tryz.prog n_w_eqStringSS c_w_eqStringSS [(.tmp 4)] 27 :=
  ⟨Tryz.f34, _, k_w_eqStringSS, Tryz.func34, rfl, by kernel_rfl, by kernel_rfl, by kernel_rfl, rfl⟩
def r_w_markStringSS_0 : List CO := [⟨none, (some 4), (.mv (.k (.v (.int .i64 (0)))))⟩]
def r_w_markStringSS_1 : List CO := [⟨none, (some 5), (.mv (.k (.v (.int .i64 (0)))))⟩]
def r_w_markStringSS_2 : List CO := [⟨none, (some 6), (.mv (.t 5))⟩, ⟨none, (some 7), (.mv (.t 0))⟩, ⟨none, (some 8), (.len false (.t 7))⟩, ⟨none, (some 9), (.bin .lss .none (.t 6) (.t 8))⟩]
def r_w_markStringSS_3 : List CO := [⟨none, (some 12), (.mv (.t 0))⟩, ⟨none, (some 13), (.mv (.t 5))⟩, ⟨none, (some 14), (.iaddr 1 (.t 12) (.t 13))⟩, ⟨none, (some 15), (.ld false 1 (.t 14))⟩, ⟨none, (some 16), (.mv (.t 1))⟩, ⟨none, (some 17), (.call n_w_markStringS [(.t 15), (.t 16)])⟩, ⟨none, (some 1), (.mv (.t 17))⟩]
def r_w_markStringSS_4 : List CO := [⟨none, (some 10), (.mv (.t 5))⟩, ⟨none, (some 11), (.bin .add .none (.t 10) (.k (.v (.int .i64 (1)))))⟩, ⟨none, (some 5), (.mv (.t 11))⟩]
def l_w_markStringSS_5 : C := (.seq (.seq (.reg r_w_markStringSS_2 [0, 1, 5, 9]) (.cond (.t 9) .skip (.exit 0))) (.seq (.block 1 (.wk (.reg r_w_markStringSS_3 [0, 1, 5]))) (.reg r_w_markStringSS_4 [0, 1, 5])))
def r_w_markStringSS_6 : List CO := [⟨none, (some 18), (.mv (.t 1))⟩, ⟨none, (some 4), (.mv (.t 18))⟩]
/-- loop.example/g00884/laws.markStringSS -/
def c_w_markStringSS : C := (.seq (.reg r_w_markStringSS_0 [0, 1]) (.seq (.seq (.reg r_w_markStringSS_1 [0, 1, 5]) (.block 0 (.loop l_w_markStringSS_5))) (.seq (.reg r_w_markStringSS_6 [4]) .ret)))
def k_w_markStringSS : Nat → List Nat
  | 0 => [0, 1]
  | 1 => [0, 1, 5]
  | 2 => [0, 1, 5, 9]
  | 4 => [999999, 0, 1, 5]
  | 3 => [0, 1, 5]
  | 5 => [4]
  | _ => []
theorem fn_w_markStringSS : FnC Tryz.prog n_w_markStringSS c_w_markStringSS [(.tmp 4)] 19 :=
  ⟨Tryz.f36, _, k_w_markStringSS, Tryz.func36, rfl, by kernel_rfl, by kernel_rfl, by kernel_rfl, rfl⟩
def r_w_heldStringSS_0 : List CO := [⟨none, (some 4), (.mv (.k (.v (.int .i64 (0)))))⟩]
def r_w_heldStringSS_1 : List CO := [⟨none, (some 5), (.mv (.k (.v (.int .i64 (0)))))⟩]
def r_w_heldStringSS_2 : List CO := [⟨none, (some 6), (.mv (.t 5))⟩, ⟨none, (some 7), (.mv (.t 0))⟩, ⟨none, (some 8), (.len false (.t 7))⟩, ⟨none, (some 9), (.bin .lss .none (.t 6) (.t 8))⟩]
def r_w_heldStringSS_3 : List CO := [⟨none, (some 12), (.mv (.t 0))⟩, ⟨none, (some 13), (.mv (.t 5))⟩, ⟨none, (some 14), (.iaddr 1 (.t 12) (.t 13))⟩, ⟨none, (some 15), (.ld false 1 (.t 14))⟩, ⟨none, (some 16), (.mv (.t 1))⟩, ⟨none, (some 17), (.call n_w_heldStringS [(.t 15), (.t 16)])⟩, ⟨none, (some 1), (.mv (.t 17))⟩]
def r_w_heldStringSS_4 : List CO := [⟨none, (some 18), (.mv (.t 1))⟩, ⟨none, (some 19), (.bin .lss .none (.t 18) (.k (.v (.int .i64 (0)))))⟩]
def r_w_heldStringSS_5 : List CO := [⟨none, (some 4), (.mv (.k (.v (.int .i64 (-1)))))⟩]
def r_w_heldStringSS_6 : List CO := [⟨none, (some 10), (.mv (.t 5))⟩, ⟨none, (some 11), (.bin .add .none (.t 10) (.k (.v (.int .i64 (1)))))⟩, ⟨none, (some 5), (.mv (.t 11))⟩]
def l_w_heldStringSS_7 : C := (.seq (.seq (.reg r_w_heldStringSS_2 [0, 1, 5, 9]) (.cond (.t 9) .skip (.exit 0))) (.seq (.block 1 (.seq (.reg r_w_heldStringSS_3 [0, 1, 5]) (.seq (.reg r_w_heldStringSS_4 [0, 1, 5, 19]) (.cond (.t 19) (.seq (.reg r_w_heldStringSS_5 [4]) .ret) .skip)))) (.reg r_w_heldStringSS_6 [0, 1, 5])))
def r_w_heldStringSS_8 : List CO := [⟨none, (some 20), (.mv (.t 1))⟩, ⟨none, (some 4), (.mv (.t 20))⟩]
/-- loop.example/g00884/laws.heldStringSS -/
def c_w_heldStringSS : C := (.seq (.reg r_w_heldStringSS_0 [0, 1]) (.seq (.seq (.reg r_w_heldStringSS_1 [0, 1, 5]) (.block 0 (.loop l_w_heldStringSS_7))) (.seq (.reg r_w_heldStringSS_8 [4]) .ret)))
def k_w_heldStringSS : Nat → List Nat
  | 0 => [0, 1]
  | 1 => [0, 1, 5]
  | 2 => [0, 1, 5, 9]
  | 4 => [0, 1, 5]
  | 5 => [0, 1, 5, 19]
  | 6 => [4]
  | 3 => [0, 1, 5]
  | 7 => [4]
  | _ => []
theorem fn_w_heldStringSS : FnC Tryz.prog n_w_heldStringSS c_w_heldStringSS [(.tmp 4)] 21 :=
  ⟨Tryz.f37, _, k_w_heldStringSS, Tryz.func37, rfl, by kernel_rfl, by kernel_rfl, by kernel_rfl, rfl⟩
end Go.Proofs.YtbeoijlggphklaaGreatDoor

/- The compact code of the functions, and that it is theirs: written by a program of this claim. -/
namespace Go.Proofs.YtbeoijlggphklaaGreatDoor
open Go.Abs
set_option maxRecDepth 100000
def r_w_markText_0 : List CO := [⟨none, (some 2), (.mv (.k (.v (.string (bs [])))))⟩]
def r_w_markText_1 : List CO := [⟨none, (some 4), (.mv (.t 0))⟩, ⟨none, (some 5), (.bin .leq .none (.t 4) (.k (.v (.int .i64 (0)))))⟩]
def r_w_markText_2 : List CO := [⟨none, (some 2), (.mv (.k (.v (.string (bs [109, 48])))))⟩]
def r_w_markText_3 : List CO := [⟨none, (some 3), (.mv (.k (.v (.string (bs [])))))⟩]
def r_w_markText_4 : List CO := [⟨none, (some 6), (.mv (.t 0))⟩, ⟨none, (some 7), (.bin .gtr .none (.t 6) (.k (.v (.int .i64 (0)))))⟩]
def r_w_markText_5 : List CO := [⟨none, (some 8), (.mv (.t 0))⟩, ⟨none, (some 9), (.bin .rem .none (.t 8) (.k (.v (.int .i64 (10)))))⟩, ⟨none, (some 10), (.bin .add .none (.k (.v (.int .i64 (48)))) (.t 9))⟩, ⟨none, (some 11), (.conv (.int .u8) (.t 10))⟩, ⟨none, (some 12), (.bslice 1 (.v (.int .u8 (0))) 1 [(0, (.t 11))])⟩, ⟨none, (some 13), (.conv .bytesStr (.t 12))⟩, ⟨none, (some 14), (.mv (.t 3))⟩, ⟨none, (some 15), (.bin .add .none (.t 13) (.t 14))⟩, ⟨none, (some 3), (.mv (.t 15))⟩]
def r_w_markText_6 : List CO := [⟨none, (some 16), (.mv (.t 0))⟩, ⟨none, (some 17), (.bin .quo .none (.t 16) (.k (.v (.int .i64 (10)))))⟩, ⟨none, (some 0), (.mv (.t 17))⟩]
def l_w_markText_7 : C := (.seq (.seq (.reg r_w_markText_4 [0, 3, 7]) (.cond (.t 7) .skip (.exit 0))) (.block 1 (.seq (.reg r_w_markText_5 [0, 3]) (.reg r_w_markText_6 [0, 3]))))
def r_w_markText_8 : List CO := [⟨none, (some 18), (.mv (.t 3))⟩, ⟨none, (some 19), (.bin .add .none (.k (.v (.string (bs [109])))) (.t 18))⟩, ⟨none, (some 2), (.mv (.t 19))⟩]
/-- loop.example/g00884/laws.markText -/
def c_w_markText : C := (.seq (.reg r_w_markText_0 [0]) (.seq (.seq (.reg r_w_markText_1 [0, 5]) (.cond (.t 5) (.seq (.reg r_w_markText_2 [2]) .ret) .skip)) (.seq (.reg r_w_markText_3 [0, 3]) (.seq (.block 0 (.loop l_w_markText_7)) (.seq (.reg r_w_markText_8 [2]) .ret)))))
def k_w_markText : Nat → List Nat
  | 0 => [0]
  | 1 => [0, 5]
  | 2 => [2]
  | 3 => [0, 3]
  | 4 => [0, 3, 7]
  | 5 => [0, 3]
  | 6 => [0, 3]
  | 7 => [2]
  | _ => []
theorem fn_w_markText : FnC Tryz.prog n_w_markText c_w_markText [(.tmp 2)] 20 :=
  ⟨Tryz.f59, _, k_w_markText, Tryz.func59, rfl, by kernel_rfl, by kernel_rfl, by kernel_rfl, rfl⟩
def r_w_eqStringS_0 : List CO := [⟨none, (some 4), (.mv (.k (.v (.bool false))))⟩]
def r_w_eqStringS_1 : List CO := [⟨none, (some 6), (.mv (.t 0))⟩, ⟨none, (some 7), (.len false (.t 6))⟩, ⟨none, (some 8), (.mv (.t 1))⟩, ⟨none, (some 9), (.len false (.t 8))⟩, ⟨none, (some 10), (.bin .neq .none (.t 7) (.t 9))⟩]
def r_w_eqStringS_2 : List CO := [⟨none, (some 4), (.mv (.k (.v (.bool false))))⟩]
def r_w_eqStringS_3 : List CO := [⟨none, (some 5), (.mv (.k (.v (.int .i64 (0)))))⟩]
def r_w_eqStringS_4 : List CO := [⟨none, (some 11), (.mv (.t 5))⟩, ⟨none, (some 12), (.mv (.t 0))⟩, ⟨none, (some 13), (.len false (.t 12))⟩, ⟨none, (some 14), (.bin .lss .none (.t 11) (.t 13))⟩]
def r_w_eqStringS_5 : List CO := [⟨none, (some 17), (.mv (.t 0))⟩, ⟨none, (some 18), (.mv (.t 5))⟩, ⟨none, (some 19), (.iaddr 1 (.t 17) (.t 18))⟩, ⟨none, (some 20), (.ld false 1 (.t 19))⟩, ⟨none, (some 21), (.mv (.t 1))⟩, ⟨none, (some 22), (.mv (.t 5))⟩, ⟨none, (some 23), (.iaddr 1 (.t 21) (.t 22))⟩, ⟨none, (some 24), (.ld false 1 (.t 23))⟩, ⟨none, (some 25), (.bin .neq .none (.t 20) (.t 24))⟩]
def p_w_eqStringS_5 : List (List Nat) := [[], [], [0, 1], [0, 1, 2], [], [], [4, 5], [4, 5, 6], [0, 1, 2, 3, 4, 5, 6, 7]]
def r_w_eqStringS_6 : List CO := [⟨none, (some 4), (.mv (.k (.v (.bool false))))⟩]
def r_w_eqStringS_7 : List CO := [⟨none, (some 15), (.mv (.t 5))⟩, ⟨none, (some 16), (.bin .add .none (.t 15) (.k (.v (.int .i64 (1)))))⟩, ⟨none, (some 5), (.mv (.t 16))⟩]
def l_w_eqStringS_8 : C := (.seq (.seq (.reg r_w_eqStringS_4 [0, 1, 5, 14]) (.cond (.t 14) .skip (.exit 0))) (.seq (.block 1 (.seq (.regD r_w_eqStringS_5 p_w_eqStringS_5 [0, 1, 5, 25]) (.cond (.t 25) (.seq (.reg r_w_eqStringS_6 [4]) .ret) .skip))) (.reg r_w_eqStringS_7 [0, 1, 5])))
def r_w_eqStringS_9 : List CO := [⟨none, (some 4), (.mv (.k (.v (.bool true))))⟩]
/-- loop.example/g00884/laws.eqStringS -/
def c_w_eqStringS : C := (.seq (.reg r_w_eqStringS_0 [0, 1]) (.seq (.seq (.reg r_w_eqStringS_1 [0, 1, 10]) (.cond (.t 10) (.seq (.reg r_w_eqStringS_2 [4]) .ret) .skip)) (.seq (.seq (.reg r_w_eqStringS_3 [0, 1, 5]) (.block 0 (.loop l_w_eqStringS_8))) (.seq (.reg r_w_eqStringS_9 [4]) .ret))))
def k_w_eqStringS : Nat → List Nat
  | 0 => [0, 1]
  | 1 => [0, 1, 10]
  | 2 => [4]
  | 3 => [0, 1, 5]
  | 4 => [0, 1, 5, 14]
  | 6 => [0, 1, 5, 25]
  | 7 => [4]
  | 5 => [0, 1, 5]
  | 8 => [4]
  | _ => []
theorem fn_w_eqStringS : FnC Tryz.prog n_w_eqStringS c_w_eqStringS [(.tmp 4)] 26 :=
  ⟨Tryz.f16, _, k_w_eqStringS, Tryz.func16, rfl, by kernel_rfl, by kernel_rfl, by kernel_rfl, rfl⟩
def r_w_markStringS_0 : List CO := [⟨none, (some 4), (.mv (.k (.v (.int .i64 (0)))))⟩]
def r_w_markStringS_1 : List CO := [⟨none, (some 5), (.mv (.k (.v (.int .i64 (0)))))⟩]
def r_w_markStringS_2 : List CO := [⟨none, (some 6), (.mv (.t 5))⟩, ⟨none, (some 7), (.mv (.t 0))⟩, ⟨none, (some 8), (.len false (.t 7))⟩, ⟨none, (some 9), (.bin .lss .none (.t 6) (.t 8))⟩]
def r_w_markStringS_3 : List CO := [⟨none, (some 12), (.mv (.t 0))⟩, ⟨none, (some 13), (.mv (.t 5))⟩, ⟨none, (some 14), (.mv (.t 1))⟩, ⟨none, (some 15), (.call n_w_markText [(.t 14)])⟩, ⟨none, (some 16), (.iaddr 1 (.t 12) (.t 13))⟩, ⟨none, none, (.st 1 (.t 16) (.t 15))⟩]
def r_w_markStringS_4 : List CO := [⟨none, (some 17), (.mv (.t 1))⟩, ⟨none, (some 18), (.bin .add .none (.t 17) (.k (.v (.int .i64 (1)))))⟩, ⟨none, (some 1), (.mv (.t 18))⟩]
def r_w_markStringS_5 : List CO := [⟨none, (some 10), (.mv (.t 5))⟩, ⟨none, (some 11), (.bin .add .none (.t 10) (.k (.v (.int .i64 (1)))))⟩, ⟨none, (some 5), (.mv (.t 11))⟩]
def l_w_markStringS_6 : C := (.seq (.seq (.reg r_w_markStringS_2 [0, 1, 5, 9]) (.cond (.t 9) .skip (.exit 0))) (.seq (.block 1 (.seq (.reg r_w_markStringS_3 [0, 1, 5]) (.reg r_w_markStringS_4 [0, 1, 5]))) (.reg r_w_markStringS_5 [0, 1, 5])))
def r_w_markStringS_7 : List CO := [⟨none, (some 19), (.mv (.t 1))⟩, ⟨none, (some 4), (.mv (.t 19))⟩]
/-- loop.example/g00884/laws.markStringS -/
def c_w_markStringS : C := (.seq (.reg r_w_markStringS_0 [0, 1]) (.seq (.seq (.reg r_w_markStringS_1 [0, 1, 5]) (.block 0 (.loop l_w_markStringS_6))) (.seq (.reg r_w_markStringS_7 [4]) .ret)))
def k_w_markStringS : Nat → List Nat
  | 0 => [0, 1]
  | 1 => [0, 1, 5]
  | 2 => [0, 1, 5, 9]
  | 4 => [0, 1, 5]
  | 5 => [0, 1, 5]
  | 3 => [0, 1, 5]
  | 6 => [4]
  | _ => []
theorem fn_w_markStringS : FnC Tryz.prog n_w_markStringS c_w_markStringS [(.tmp 4)] 20 :=
  ⟨Tryz.f17, _, k_w_markStringS, Tryz.func17, rfl, by kernel_rfl, by kernel_rfl, by kernel_rfl, rfl⟩
def r_w_heldStringS_0 : List CO := [⟨none, (some 4), (.mv (.k (.v (.int .i64 (0)))))⟩]
def r_w_heldStringS_1 : List CO := [⟨none, (some 5), (.mv (.k (.v (.int .i64 (0)))))⟩]
def r_w_heldStringS_2 : List CO := [⟨none, (some 6), (.mv (.t 5))⟩, ⟨none, (some 7), (.mv (.t 0))⟩, ⟨none, (some 8), (.len false (.t 7))⟩, ⟨none, (some 9), (.bin .lss .none (.t 6) (.t 8))⟩]
def r_w_heldStringS_3 : List CO := [⟨none, (some 12), (.mv (.t 0))⟩, ⟨none, (some 13), (.mv (.t 5))⟩, ⟨none, (some 14), (.iaddr 1 (.t 12) (.t 13))⟩, ⟨none, (some 15), (.ld false 1 (.t 14))⟩, ⟨none, (some 16), (.mv (.t 1))⟩, ⟨none, (some 17), (.call n_w_markText [(.t 16)])⟩, ⟨none, (some 18), (.bin .neq .none (.t 15) (.t 17))⟩]
def p_w_heldStringS_3 : List (List Nat) := [[], [], [0, 1], [0, 1, 2], [], [4], [0, 1, 2, 3, 4, 5]]
def r_w_heldStringS_4 : List CO := [⟨none, (some 4), (.mv (.k (.v (.int .i64 (-1)))))⟩]
def r_w_heldStringS_5 : List CO := [⟨none, (some 19), (.mv (.t 1))⟩, ⟨none, (some 20), (.bin .add .none (.t 19) (.k (.v (.int .i64 (1)))))⟩, ⟨none, (some 1), (.mv (.t 20))⟩]
def r_w_heldStringS_6 : List CO := [⟨none, (some 10), (.mv (.t 5))⟩, ⟨none, (some 11), (.bin .add .none (.t 10) (.k (.v (.int .i64 (1)))))⟩, ⟨none, (some 5), (.mv (.t 11))⟩]
def l_w_heldStringS_7 : C := (.seq (.seq (.reg r_w_heldStringS_2 [0, 1, 5, 9]) (.cond (.t 9) .skip (.exit 0))) (.seq (.block 1 (.seq (.seq (.regD r_w_heldStringS_3 p_w_heldStringS_3 [0, 1, 5, 18]) (.cond (.t 18) (.seq (.reg r_w_heldStringS_4 [4]) .ret) .skip)) (.reg r_w_heldStringS_5 [0, 1, 5]))) (.reg r_w_heldStringS_6 [0, 1, 5])))
def r_w_heldStringS_8 : List CO := [⟨none, (some 21), (.mv (.t 1))⟩, ⟨none, (some 4), (.mv (.t 21))⟩]
/-- loop.example/g00884/laws.heldStringS -/
def c_w_heldStringS : C := (.seq (.reg r_w_heldStringS_0 [0, 1]) (.seq (.seq (.reg r_w_heldStringS_1 [0, 1, 5]) (.block 0 (.loop l_w_heldStringS_7))) (.seq (.reg r_w_heldStringS_8 [4]) .ret)))
def k_w_heldStringS : Nat → List Nat
  | 0 => [0, 1]
  | 1 => [0, 1, 5]
  | 2 => [0, 1, 5, 9]
  | 4 => [0, 1, 5, 18]
  | 5 => [4]
  | 6 => [0, 1, 5]
  | 3 => [0, 1, 5]
  | 7 => [4]
  | _ => []
theorem fn_w_heldStringS : FnC Tryz.prog n_w_heldStringS c_w_heldStringS [(.tmp 4)] 22 :=
  ⟨Tryz.f18, _, k_w_heldStringS, Tryz.func18, rfl, by kernel_rfl, by kernel_rfl, by kernel_rfl, rfl⟩
end Go.Proofs.YtbeoijlggphklaaGreatDoor

/- The texts by which the laws mark memory. -/
set_option linter.unusedVariables false
set_option linter.unusedSimpArgs false
namespace Go.Proofs.YtbeoijlggphklaaGreatDoor
open Go.Abs

def markT (k : Nat) : List UInt8 := 109 :: digits k
theorem wrap8 {n : Int} (h1 : 0 ≤ n) (h2 : n ≤ 255) : IntKind.u8.wrap n = n := by
  simp [IntKind.wrap, IntKind.signed, IntKind.bits]; omega
theorem w_markText (k : Nat) (hk : k ≤ 100000000) : PCall Tryz.prog n_w_markText [I k] (S (markT k)) := by
  refine PCall.of fn_w_markText (by simp) ?_
  simp [c_w_markText, r_w_markText_0, r_w_markText_1]
  refine ⟨fun h => ?_, fun h => ?_⟩
  · have : k = 0 := by omega
    subst this
    simp [r_w_markText_2, markT, digits_small]
  · simp [r_w_markText_3, l_w_markText_7]
    refine loopK (fun p : Nat × List UInt8 => ⟨[(0, I p.1), (3, S p.2)], [], []⟩) (fun p => p.1) (fun p => p.1 ≤ k ∧ p.2.length ≤ 2 * (k - p.1) ∧ (0 < p.1 → digits k = digits p.1 ++ p.2) ∧ (p.1 = 0 → digits k = p.2)) (k, []) (Wk.list rfl (by simp) (by simp)) ⟨by simp, by simp, by simp, fun h' => by dsimp only at h'; omega⟩ ?_
    rintro ⟨j, suf⟩ ⟨hj, hl, h1, h2⟩ K hN hR hE
    dsimp only at hj hl h1 h2
    simp [r_w_markText_4]
    refine ⟨fun hlt => ?_, fun hge => ?_⟩
    · obtain ⟨m, hm, hmj⟩ : ∃ m, m < 10 ∧ j % 10 = m := ⟨j % 10, by omega, rfl⟩
      have e2 : (j : Int).tmod 10 = (m : Int) := by rw [Int.tmod_eq_emod_of_nonneg (by omega)]; omega
      have hd := h1 (by omega)
      simp [r_w_markText_5]
      rw [e2, wrap64 (by omega) (by omega), wrap8 (by omega) (by omega)]
      rw [show (48 + (m : Int)).toNat = 48 + m by omega]
      refine ⟨by omega, ?_⟩
      simp [r_w_markText_6]
      rw [wrap64 (by omega) (by omega)]
      refine hN (j / 10, UInt8.ofNat (48 + m) :: suf) _ (by dsimp only; omega) ⟨by dsimp only; omega, by simp only [List.length_cons]; omega, fun h' => ?_, fun h' => ?_⟩ (Wk.list rfl (by simp) (by simp))
      · dsimp only at h' ⊢
        rw [hd, digits_big (n := j) (by omega), hmj]; simp
      · dsimp only at h' ⊢
        rw [hd, digits_small (n := j) (by omega), ← hmj, show j % 10 = j by omega]; simp
    · refine hE _ _ ?_
      have : j = 0 := by omega
      subst this
      have := h2 rfl
      simp only [blockK_exit]
      simp [r_w_markText_8, markT, ← this]
      have := digits_le k
      omega

theorem markT_len (k : Nat) : (markT k).length ≤ k + 2 := by
  have := digits_le k
  simp [markT]; omega

theorem w_eqStringS (a b : List (List UInt8)) : PCall Tryz.prog n_w_eqStringS [.ro 1 (a.map S), .ro 1 (b.map S)] (B (decide (a = b))) := by
  refine PCall.ofL fn_w_eqStringS (by simp) fun hl => ?_
  simp at hl
  by_cases hl : a.length = b.length
  · simp [c_w_eqStringS, r_w_eqStringS_0, r_w_eqStringS_1, r_w_eqStringS_2, r_w_eqStringS_3, r_w_eqStringS_9, hl]
    refine loopK (fun i : Nat => ⟨[(0, .ro 1 (a.map S)), (1, .ro 1 (b.map S)), (5, I i)], [], []⟩) (fun i => a.length - i) (fun i => i ≤ a.length ∧ ∀ j, j < i → a[j]? = b[j]?) 0 (Wk.list rfl (by simp) (by simp)) ⟨by simp, by simp⟩ ?_
    rintro i ⟨hi, hj⟩ K hN hR hE
    simp [l_w_eqStringS_8, r_w_eqStringS_4]
    refine ⟨fun hlt => ?_, fun hge => ?_⟩
    · have hlb : i < b.length := by omega
      simp [r_w_eqStringS_5, p_w_eqStringS_5, hlt, hlb]
      refine ⟨⟨rfl, rfl⟩, fun hne => ?_, fun he => ?_⟩
      · simp [r_w_eqStringS_6]
        refine hR _ ?_
        simp
        rintro rfl
        exact hne rfl
      · simp [r_w_eqStringS_7]
        rw [wrap64 (by omega) (by omega)]
        refine hN (i + 1) _ (by omega) ⟨by omega, fun j hj' => ?_⟩ (Wk.list rfl (by simp) (by simp))
        by_cases e : j = i
        · subst e; simp [hlt, hlb, he]
        · exact hj j (by omega)
    · refine hE _ _ ?_
      have : a = b := by
        apply List.ext_getElem?
        intro j
        by_cases h : j < i
        · exact hj j h
        · rw [List.getElem?_eq_none (by omega), List.getElem?_eq_none (by omega)]
      simp only [blockK_exit]
      simp [r_w_eqStringS_9, this]
  · simp [c_w_eqStringS, r_w_eqStringS_0, r_w_eqStringS_1, r_w_eqStringS_2, hl]
    exact ⟨fun _ e => hl (by rw [e]), fun e => absurd e (by omega)⟩

def marksT (k n : Nat) : List (List UInt8) := (List.range n).map fun i => markT (k + i)
theorem marksT_len (k n : Nat) : (marksT k n).length = n := by simp [marksT]
theorem marksT_succ (k : Nat) (n : Nat) : marksT k (n + 1) = marksT k n ++ [markT (k + n)] := by simp only [marksT, List.range_succ, List.map_append, List.map_cons, List.map_nil]
theorem marksT_get {k m i : Nat} (h : i < (marksT k m).length) : (marksT k m)[i] = markT (k + i) := by simp [marksT]

theorem w_markStringS (l : List (List UInt8)) (k : Nat) (hl : l.length ≤ 1000000) (hk : k ≤ 1000000) :
    MCall Tryz.prog n_w_markStringS [⟨1, l.map S⟩] [.sl (mid 0) 0 l.length, I k] (I ((k + l.length : Nat) : Int)) [some ⟨1, (marksT k l.length).map S⟩] := by
  refine MCall.of fn_w_markStringS (by simp) rfl (by simp) ?_
  simp [c_w_markStringS, r_w_markStringS_0, r_w_markStringS_1, l_w_markStringS_6]
  refine loopK (fun i : Nat => ⟨[(0, .sl 1000000 0 l.length), (1, I ((k + i : Nat) : Int)), (5, I i)], [(1000000, ⟨1, (marksT k i ++ l.drop i).map S⟩)], [1000000]⟩) (fun i => l.length - i)
    (fun i => i ≤ l.length) 0 (Wk.list rfl (by simp) (by simp [marksT])) (by simp) ?_
  intro i hi K hN hR hE
  simp [r_w_markStringS_2]
  have hml : (List.map S (marksT k i)).length = i := by rw [List.length_map, marksT_len]
  refine ⟨fun hlt => ?_, fun hge => ?_⟩
  · have hd : (l.map S).drop i = S l[i] :: (l.map S).drop (i + 1) := by rw [drop_cons (l := l.map S) (by simpa using hlt)]; simp
    simp only [hd]
    simp [r_w_markStringS_3]
    refine callQ_v (PCall.arg (w_markText (k + i) (by omega)) (by simp)) ?_
    simp [hlt, app_get hml, app_set hml]
    simp [r_w_markStringS_4]
    rw [wrap64 (by omega) (by omega)]
    simp [r_w_markStringS_5]
    rw [wrap64 (by omega) (by omega)]
    refine hN (i + 1) _ (by omega) (by omega) (Wk.list rfl ?_ ?_)
    · simp; omega
    · simp [marksT_succ, app_set hml]
  · refine hE _ _ ?_
    obtain rfl : i = l.length := by omega
    simp [r_w_markStringS_7, marksT_len]

theorem w_heldStringS_marks (k m : Nat) (hm : m ≤ 1000000) (hk : k ≤ 1000000) : PCall Tryz.prog n_w_heldStringS [.ro 1 ((marksT k m).map S), I k] (I ((k + m : Nat) : Int)) := by
  refine PCall.of fn_w_heldStringS (by simp) ?_
  simp [c_w_heldStringS, r_w_heldStringS_0, r_w_heldStringS_1, l_w_heldStringS_7]
  refine loopK (fun i : Nat => ⟨[(0, .ro 1 ((marksT k m).map S)), (1, I ((k + i : Nat) : Int)), (5, I i)], [], []⟩) (fun i => m - i) (fun i => i ≤ m) 0 (Wk.list rfl (by simp) (by simp)) (by simp) ?_
  intro i hi K hN hR hE
  simp [r_w_heldStringS_2, marksT_len]
  refine ⟨fun hlt => ?_, fun hge => ?_⟩
  · have hg : i < (marksT k m).length := by rw [marksT_len]; exact hlt
    have hx := marksT_get hg
    simp [r_w_heldStringS_3, p_w_heldStringS_3, hlt, hg, hx]
    refine callD_v (PCall.arg (w_markText (k + i) (by omega)) (by simp)) ?_ ?_ ?_
    · simp
    · simp
    simp
    refine ⟨oEnd_of (by first | kernel_rfl | simp) (by first | kernel_rfl | simp), ?_⟩
    simp [r_w_heldStringS_5]
    rw [wrap64 (by omega) (by omega)]
    simp [r_w_heldStringS_6]
    rw [wrap64 (by omega) (by omega)]
    refine hN (i + 1) _ (by omega) (by omega) (Wk.list rfl ?_ ?_)
    · simp; omega
    · simp
  · refine hE _ _ ?_
    obtain rfl : i = m := by omega
    simp [r_w_heldStringS_8]
end Go.Proofs.YtbeoijlggphklaaGreatDoor

/- Rows of rows of texts: equality, marks; helpers of the laws. -/
set_option linter.unusedVariables false
set_option linter.unusedSimpArgs false
namespace Go.Proofs.YtbeoijlggphklaaGreatDoor
open Go.Abs

abbrev ownS (p : List (List UInt8)) : V := .own 1 (p.map S)
abbrev roS (p : List (List UInt8)) : V := .ro 1 (p.map S)
@[simp] theorem map_borrow_ownS (hp : Nat → Option Blk) (k : Nat) (l : List (List (List UInt8))) : List.map (borrow hp (k + 2) ∘ ownS) l = l.map roS := by simp [Function.comp_def]
@[simp] theorem map_borrow_roS (hp : Nat → Option Blk) (k : Nat) (l : List (List (List UInt8))) : List.map (borrow hp (k + 1) ∘ roS) l = l.map roS := by simp [Function.comp_def]
theorem w_eqStringSS (a b : List (List (List UInt8))) : PCall Tryz.prog n_w_eqStringSS [.ro 1 (a.map roS), .ro 1 (b.map roS)] (B (decide (a = b))) := by
  refine PCall.ofL fn_w_eqStringSS (by simp) fun hl => ?_
  simp at hl
  by_cases hl : a.length = b.length
  · simp [c_w_eqStringSS, r_w_eqStringSS_0, r_w_eqStringSS_1, r_w_eqStringSS_2, r_w_eqStringSS_3, r_w_eqStringSS_9, hl]
    refine loopK (fun i : Nat => ⟨[(0, .ro 1 (a.map roS)), (1, .ro 1 (b.map roS)), (5, I i)], [], []⟩) (fun i => a.length - i) (fun i => i ≤ a.length ∧ a.take i = b.take i) 0 (Wk.list rfl (by simp) (by simp)) (by simp) ?_
    rintro i ⟨hi, hj⟩ K hN hR hE
    simp [l_w_eqStringSS_8, r_w_eqStringSS_4]
    refine ⟨fun hlt => ?_, fun hge => ?_⟩
    · have hlb : i < b.length := by omega
      simp [r_w_eqStringSS_5, p_w_eqStringSS_5, hlt, hlb]
      refine callD_v (PCall.arg (w_eqStringS a[i] b[i]) (by simp)) ?_ ?_ ?_
      · simp
      · simp
      simp
      refine ⟨oEnd_of (by simp [p_w_eqStringSS_5]) (by simp), fun hne => ?_, fun he => ?_⟩
      · simp [r_w_eqStringSS_6]
        refine hR _ ?_
        simp
        rintro rfl
        exact hne rfl
      · simp [r_w_eqStringSS_7]
        rw [wrap64 (by omega) (by omega)]
        refine hN (i + 1) _ (by omega) ⟨by omega, ?_⟩ (Wk.list rfl (by simp) (by simp))
        rw [take_succ' hlt, take_succ' hlb, hj, he]
    · refine hE _ _ ?_
      rw [List.take_of_length_le (by omega), List.take_of_length_le (by omega)] at hj
      simp [hj]
  · simp [c_w_eqStringSS, r_w_eqStringSS_0, r_w_eqStringSS_1, r_w_eqStringSS_2, hl]
    refine ⟨fun _ e => hl (by rw [e]), fun e => absurd (by omega) hl⟩

/-- The marks of rows. -/
def marksTT : List (List (List UInt8)) → Nat → List (List (List UInt8))
  | [], _ => []
  | r :: l, k => marksT k r.length :: marksTT l (k + r.length)
theorem marksTT_append (a b : List (List (List UInt8))) (k : Nat) : marksTT (a ++ b) k = marksTT a k ++ marksTT b (k + total a) := by
  induction a generalizing k with
  | nil => simp [marksTT]
  | cons r a ih => simp [marksTT, ih, Nat.add_assoc]
theorem marksTT_len (l : List (List (List UInt8))) (k : Nat) : (marksTT l k).length = l.length := by
  induction l generalizing k with
  | nil => rfl
  | cons r l ih => simp [marksTT, ih]
theorem marksTT_succ {l : List (List (List UInt8))} {i : Nat} (k : Nat) (h : i < l.length) : marksTT (l.take (i + 1)) k = marksTT (l.take i) k ++ [marksT (k + total (l.take i)) l[i].length] := by
  rw [take_succ' h, marksTT_append]; simp [marksTT]
theorem marksTT_get {l : List (List (List UInt8))} {i : Nat} (k : Nat) (h : i < l.length) : (marksTT l k)[i]? = some (marksT (k + total (l.take i)) l[i].length) := by
  conv => lhs; rw [← List.take_append_drop i l, marksTT_append, List.drop_eq_getElem_cons h]
  rw [List.getElem?_append_right (by rw [marksTT_len, List.length_take]; omega), marksTT_len, List.length_take, Nat.min_eq_left (by omega), Nat.sub_self]
  rfl
theorem w_markStringSS (l : List (List (List UInt8))) (k : Nat) (hl : l.length ≤ 100000) (ht : total l ≤ 100000) (hk : k ≤ 100000) :
    MCall Tryz.prog n_w_markStringSS [⟨1, l.map ownS⟩] [.sl (mid 0) 0 l.length, I k] (I ((k + total l : Nat) : Int)) [some ⟨1, (marksTT l k).map ownS⟩] := by
  refine MCall.of fn_w_markStringSS (by simp) rfl (by simp) ?_
  simp [c_w_markStringSS, r_w_markStringSS_0, r_w_markStringSS_1, r_w_markStringSS_6]
  refine loopK (fun i : Nat => ⟨[(0, .sl 1000000 0 l.length), (1, I ((k + total (l.take i) : Nat) : Int)), (5, I i)], [(1000000, ⟨1, (marksTT (l.take i) k ++ l.drop i).map ownS⟩)], [1000000]⟩) (fun i => l.length - i)
    (fun i => i ≤ l.length) 0 (Wk.list rfl (by simp) (by simp [marksTT])) (by simp) ?_
  intro i hi K hN hR hE
  simp [l_w_markStringSS_5, r_w_markStringSS_2]
  refine ⟨fun hlt => ?_, fun hge => ?_⟩
  · have hle := total_take_le l i
    have hm : l[i].length ≤ total l := total_mem (List.getElem_mem _)
    have hml : (List.map ownS (marksTT (l.take i) k)).length = i := by rw [List.length_map, marksTT_len, List.length_take]; omega
    have hd : List.drop i (List.map ownS l) = ownS l[i] :: List.drop (i + 1) (List.map ownS l) := by rw [drop_cons (l := List.map ownS l) (by simpa using hlt)]; simp
    simp only [hd]
    refine wk_of _ (Wk.unfold1 1000000 i 777 (sz := 1) (es := l[i].map S) (by rfl) (app_get hml) (by simp)) ?_
    simp [r_w_markStringSS_3, app_set hml, app_get hml, hlt]
    refine callQ_m [777] (MCall.arg (w_markStringS l[i] (k + total (l.take i)) (by omega) (by omega)) (by simp)) (by simp) (by simp) (by simp) (by simp) ?_
    simp [r_w_markStringSS_4]
    rw [wrap64 (by omega) (by omega)]
    refine hN (i + 1) _ (by omega) (by omega) (Wk.trans (Wk.fold1 1000000 i 777 (by rfl) (by rfl) (app_get hml) (by simp [marksT_len]) (by simp) (by simp)) (Wk.list rfl ?_ ?_))
    · simp only [take_succ' hlt, total_append, total_cons, total_nil]
      simp
      omega
    · rw [marksTT_succ k hlt]
      simp [rmbs, app_set hml]
  · refine hE _ _ ?_
    obtain rfl : i = l.length := by omega
    simp

theorem w_heldStringSS_marks (l : List (List (List UInt8))) (k : Nat) (hl : l.length ≤ 100000) (ht : total l ≤ 100000) (hk : k ≤ 100000) :
    PCall Tryz.prog n_w_heldStringSS [.ro 1 ((marksTT l k).map roS), I k] (I ((k + total l : Nat) : Int)) := by
  refine PCall.of fn_w_heldStringSS (by simp) ?_
  simp [c_w_heldStringSS, r_w_heldStringSS_0, r_w_heldStringSS_1, r_w_heldStringSS_8]
  refine loopK (fun i : Nat => ⟨[(0, .ro 1 ((marksTT l k).map roS)), (1, I ((k + total (l.take i) : Nat) : Int)), (5, I i)], [], []⟩) (fun i => l.length - i)
    (fun i => i ≤ l.length) 0 (Wk.list rfl (by simp) (by simp)) (by simp) ?_
  intro i hi K hN hR hE
  simp [l_w_heldStringSS_7, r_w_heldStringSS_2, marksTT_len]
  refine ⟨fun hlt => ?_, fun hge => ?_⟩
  · have hle := total_take_le l i
    have hmem : l[i].length ≤ total l := total_mem (List.getElem_mem _)
    have hg := marksTT_get k hlt
    have hgE : ∀ h, (marksTT l k)[i]'h = marksT (k + total (l.take i)) l[i].length := fun h => by rw [List.getElem_eq_iff]; exact hg
    have hsum : total (l.take (i + 1)) = total (l.take i) + l[i].length := by
      rw [take_succ' hlt, total_append, total_cons, total_nil]; omega
    simp [r_w_heldStringSS_3, hlt, marksTT_len, hg]
    refine callQ_v (PCall.arg (w_heldStringS_marks (k + total (l.take i)) l[i].length (by omega) (by omega)) (by simp [hgE])) ?_
    simp [r_w_heldStringSS_4]
    refine ⟨by omega, fun _ => ?_⟩
    simp [r_w_heldStringSS_6]
    rw [wrap64 (by omega) (by omega)]
    refine hN (i + 1) _ (by omega) (by omega) (Wk.list rfl ?_ (by simp))
    simp [hsum]; omega
  · refine hE _ _ ?_
    obtain rfl : i = l.length := by omega
    simp
end Go.Proofs.YtbeoijlggphklaaGreatDoor

/- The pages of a roll in the program. -/
set_option linter.unusedVariables false
set_option linter.unusedSimpArgs false
namespace Go.Proofs.YtbeoijlggphklaaGreatDoor
open Go.Abs

theorem i_IsValidRoll (x : Roll) : PCall Tryz.prog n_i_IsValidRoll [eRoll x] (B (rollOk x)) := by
  refine PCall.of fn_i_IsValidRoll (by simp) ?_
  simp [c_i_IsValidRoll, r_i_IsValidRoll_0, r_i_IsValidRoll_1]
  refine callQ_v (i_inside ..) ?_
  cases h1 : inR x.by_ 1 3 with
  | false => simp [rollOk, h1]
  | true =>
  simp
  refine callQ_v (i_inside ..) ?_
  cases h2 : inR x.width 20 60 with
  | false => simp [rollOk, h1, h2]
  | true =>
  simp
  refine callQ_v (i_inside ..) ?_
  simp [rollOk, h1, h2]
def ofI (P : List (List Grant)) : List Int := (ofGo 0 P).map fun k : Nat => (k : Int)
theorem ofI_len (P : List (List Grant)) : (ofI P).length = P.flatten.length := by rw [ofI, List.length_map, ofGo_len]
theorem ofI_snoc (D : List (List Grant)) (C : List Grant) (g : Grant) : ofI (D ++ [C ++ [g]]) = ofI (D ++ [C]) ++ [((D.length + 1 : Nat) : Int)] := by
  unfold ofI
  rw [ofGo_append, ofGo_append]
  simp [ofGo, List.replicate_succ']
theorem ofI_empty (D : List (List Grant)) : ofI (D ++ [[]]) = ofI D := by
  unfold ofI
  rw [ofGo_append]
  simp [ofGo]
def ofL (l : List Grant) (x : Roll) : List Int := ofI ((asked l x).getD [])
abbrev pageV (x : Roll) (p : List Grant) : V := ownS (linesP x p)
theorem linesP_snoc (x : Roll) (p : List Grant) (g : Grant) : linesP x (p ++ [g]) = linesP x p ++ entryL x.width g := by simp [linesP]
def szE (x : Roll) (g : Grant) : Nat := (entryL x.width g).length
theorem leVs_snoc {u v : V} (h : leV u v) : ∀ xs : List V, (∀ a ∈ xs, leV a a) → leVs (xs ++ [u]) (xs ++ [v])
  | [], _ => by simp [h]
  | a :: xs, ha => by
    have ih := leVs_snoc h xs fun b hb => ha b (by simp [hb])
    simp [ha a (by simp), ih]
/-- Where the page is that is being filled. -/
def pagedSt (x : Roll) (L : List Grant) (k : Nat) (D : List (List Grant)) (C E : List (List UInt8)) (F : List Int) : AS :=
  ⟨[(3, .ref 3 0 0), (7, .sl 22 0 (D.length + 1)), (8, .sl 23 0 k), (11, .sl 36 0 E.length), (27, .sl 27 0 L.length), (28, I L.length), (29, I k)], [(3, ⟨3, [eRoll x]⟩), (22, ⟨1, D.map (pageV x) ++ [.sl 500 0 C.length]⟩), (500, ⟨1, C.map S⟩), (23, ⟨1, ints F⟩), (36, ⟨1, E.map S⟩), (27, ⟨18, L.map eGrant⟩)], []⟩
theorem pagedSt_new {x : Roll} {L : List Grant} {k : Nat} {P : List (List Grant)} {E : List (List UInt8)} {F : List Int} {s : AS}
    (h : Wk s ⟨[(3, .ref 3 0 0), (7, .sl 62 0 (P.length + 1)), (8, .sl 23 0 k), (11, .sl 36 0 E.length), (27, .sl 27 0 L.length), (28, I L.length), (29, I k)], [(62, ⟨1, P.map (pageV x) ++ [.v (.slice none 0 0)]⟩), (3, ⟨3, [eRoll x]⟩), (23, ⟨1, ints F⟩), (36, ⟨1, E.map S⟩), (27, ⟨18, L.map eGrant⟩)], []⟩) :
    Wk s (pagedSt x L k P [] E F) := by
  have hl : (P.map (pageV x)).length = P.length := List.length_map ..
  refine Wk.trans h <| Wk.trans (Wk.le 62 (P.map (pageV x) ++ [.own 1 []]) (by rfl) (leVs_snoc (u := .v (.slice none 0 0)) (v := .own 1 []) (by simp) _ fun a ha => ?_)) <| Wk.trans (Wk.unfold1 62 P.length 500 (sz := 1) (es := []) (by rfl) (app_get hl) (by simp)) <| Wk.trans (Wk.ren 62 22 (by decide) ?_) (Wk.list rfl ?_ ?_)
  · obtain ⟨p, _, rfl⟩ := List.mem_map.1 ha
    simp
  · simp [app_set hl]
  · simp [pagedSt, AS.ren, ren, reN]
  · simp [pagedSt, AS.ren, ren, reN, renB, app_set hl]
structure Fill (x : Roll) (L : List Grant) (k : Nat) (g : Grant) (D : List (List Grant)) (C : List Grant) (F : List Int) : Prop where
  num : F = ofI (D ++ [C])
  at_ : PagedAt (szE x) x.height.toNat L (k + 1) (D ++ [C ++ [g]])
  flat : (D ++ [C ++ [g]]).flatten.length = k + 1
  few : D.length ≤ k
  low : ∀ q ∈ D ++ [C ++ [g]], (linesP x q).length ≤ x.height.toNat
set_option maxHeartbeats 4000000 in
theorem i_paged (l : Register) (x : Roll) : PCall Tryz.prog n_i_paged [eRegister l, eRoll x] (.tup [.own 1 ((pagesL l x).map ownS), .own 1 (ints (ofL l x)), B (textOk l x)]) := by
  refine PCall.ofN fn_i_paged (by simp) ?_
  simp [c_i_paged, r_i_paged_0, r_i_paged_1]
  refine callQ_v (PCall.arg (i_IsValidRegister l) (by simp)) ?_
  cases h1 : register l with
  | false => simp [r_i_paged_2, pagesL, ofL, ofI, ofGo, textOk, asked, askedOk, h1]
  | true =>
  simp
  refine callQ_v (PCall.arg (i_IsValidRoll x) (by simp)) ?_
  cases h2 : rollOk x with
  | false => simp [r_i_paged_2, pagesL, ofL, ofI, ofGo, textOk, asked, askedOk, h1, h2]
  | true =>
  obtain ⟨k1, k2, k3⟩ := rollOk_iff h2
  have hl := register_len h1
  have hL := rollOrd_len x.by_ l
  have hLg : ∀ g ∈ rollOrd x.by_ l, grantOk g = true := fun g hg => register_grant h1 g (rollOrd_mem.1 hg)
  have hask : asked l x = packs (szE x) x.height.toNat (rollOrd x.by_ l) := by simp only [asked, askedOk, h1, h2]; rfl
  have hpl : pagesL l x = ((packs (szE x) x.height.toNat (rollOrd x.by_ l)).getD []).map (linesP x) := by rw [pagesL, hask]
  have hol : ofL l x = ofI ((packs (szE x) x.height.toNat (rollOrd x.by_ l)).getD []) := by rw [ofL, hask]
  have htk : textOk l x = (packs (szE x) x.height.toNat (rollOrd x.by_ l)).isSome := by rw [textOk, hask]
  simp [r_i_paged_3, r_i_paged_4]
  refine callQ_of (PCall.arg (i_Register_ordered l x.by_ h1) (by simp)) rfl (.inl (by simp)) (by simp) ?_
  rw [hpl, hol, htk]
  generalize rollOrd x.by_ l = L at hL hLg ⊢
  simp
  refine loopK (fun p : List (List Grant) × Nat => ⟨[(3, .ref 3 0 0), (7, .sl 22 0 p.1.length), (8, .sl 23 0 p.2), (27, .sl 27 0 L.length), (28, I L.length), (29, I p.2)], [(3, ⟨3, [eRoll x]⟩), (22, ⟨1, p.1.map (pageV x)⟩), (23, ⟨1, ints (ofI p.1)⟩), (27, ⟨18, L.map eGrant⟩)], []⟩) (fun p => L.length - p.2)
    (fun p => p.2 ≤ L.length ∧ PagedAt (szE x) x.height.toNat L p.2 p.1 ∧ p.1.flatten.length = p.2 ∧ p.1.length ≤ p.2 ∧ ∀ q ∈ p.1, (linesP x q).length ≤ x.height.toNat) ([], 0) (Wk.list rfl (by simp) (by simp [ofI, ofGo])) (by simp [PagedAt]) ?_
  rintro ⟨P, k⟩ ⟨hk, hP, hfl, hPl, hPs⟩ K hN hR hE
  dsimp only at hk hP hfl hPl hPs ⊢
  have hof := ofI_len P
  simp [l_i_paged_17, r_i_paged_5]
  refine ⟨fun hlt => ?_, fun hge => ?_⟩
  · obtain ⟨g, hg⟩ : ∃ g, L[k] = g := ⟨_, rfl⟩
    have hgo : grantOk g = true := hLg g (hg ▸ List.getElem_mem _)
    have hEl := entryL_len x.width g
    simp [r_i_paged_6, hlt, hg]
    simp [r_i_paged_7]
    refine callQ_of (PCall.arg (i_entry g x.width hgo k2) (by simp)) rfl (.inl (by simp)) (by simp) ?_
    have hsz : szE x g = (entryL x.width g).length := rfl
    have hls := linesP_snoc x
    obtain ⟨E, hEe⟩ : ∃ E, entryL x.width g = E := ⟨_, rfl⟩
    rw [hEe] at hEl hsz ⊢
    simp [r_i_paged_8]
    refine ⟨fun hbig => ?_, fun hfit => ?_⟩
    · have hnone := hP.fail hlt (by rw [hg, hsz]; omega)
      simp [r_i_paged_9]
      refine hR _ ?_
      simp [hnone, ofI, ofGo]
    · simp [r_i_paged_10]
      have hcase : P = [] ∨ ∃ done cur, P = done ++ [cur] := by
        rcases hP with ⟨_, h⟩ | ⟨d, c, h, _⟩
        · exact .inl h
        · exact .inr ⟨d, c, h⟩
      have hfitL : ¬ x.height.toNat < szE x L[k] := by rw [hg, hsz]; omega
      rcases hcase with rfl | ⟨done, cur, rfl⟩
      case' inl =>
        refine wk_of _ (Wk.refl _) ?_
        simp [r_i_paged_11, p_i_paged_11]
        refine ⟨oEnd_of (by simp [p_i_paged_11]) (by simp), ?_⟩
        simp [r_i_paged_12]
        refine ⟨by unfold lenBound; omega, ?_⟩
        have hfill : Fill x L k g [] [] (ofI []) := ⟨rfl, by have := hP.new hlt hfitL (.inl rfl); rw [hg] at this; simpa using this, by simp at hfl; simp [← hfl], by simp, by
          intro q hq
          simp at hq
          subst hq
          rw [show ([g] : List Grant) = [] ++ [g] from rfl, hls, List.length_append, hEe, show linesP x [] = [] from rfl, List.length_nil]; omega⟩
        have hl0 : linesP x [] = [] := rfl
        refine wk_of (pagedSt x L k [] (linesP x []) E (ofI [])) (pagedSt_new (Wk.list rfl (by simp) (by simp))) ?_
        generalize ([] : List (List Grant)) = D at hfill ⊢
        generalize ofI _ = F at hfill ⊢
        generalize ([] : List Grant) = C at hfill ⊢
      case' inr =>
        have hdl : (done.map (pageV x)).length = done.length := List.length_map ..
        simp only [List.map_append, List.map_cons, List.map_nil]
        refine wk_of _ (Wk.unfold1 22 done.length 500 (sz := 1) (es := (linesP x cur).map S) (by rfl) (app_get hdl) (by simp)) ?_
        have hdb : done.length + 1 ≤ k := by simpa using hPl
        have hw : IntKind.i64.wrap (done.length : Int) = done.length := wrap64 (by omega) (by omega)
        have hnz : ¬ ((done.length : Int) + 1 = 0) := by omega
        have hcl := hPs cur (by simp)
        have hsc : sizeB (szE x) cur = (linesP x cur).length := (linesP_len x cur).symm
        simp [r_i_paged_11, p_i_paged_11, app_set hdl, app_get hdl, hw, hnz]
        rw [wrap64 (n := ((linesP x cur).length : Int) + E.length) (by omega) (by omega)]
        refine ⟨by omega, oEnd_of (by simp [p_i_paged_11]) (by simp), fun hover => ?over, fun hfits => ?fits⟩
        case' over =>
          simp [r_i_paged_12, app_get hdl]
          have hfill : Fill x L k g (done ++ [cur]) [] (ofI (done ++ [cur])) := ⟨(ofI_empty _).symm, by have := hP.new hlt hfitL (.inr ⟨done, cur, rfl, by rw [hsc, hg, hsz]; omega⟩); rw [hg] at this; simpa using this, by simp at hfl; simp; omega, by simpa using hPl, by
            intro q hq
            rcases List.mem_append.1 hq with hq | hq
            · exact hPs q hq
            simp at hq
            subst hq
            rw [show ([g] : List Grant) = [] ++ [g] from rfl, hls, List.length_append, hEe, show linesP x [] = [] from rfl, List.length_nil]; omega⟩
          have ht2 : List.take (done.length + 1) (List.map (pageV x) done ++ [V.sl 500 0 (linesP x cur).length]) = List.map (pageV x) done ++ [V.sl 500 0 (linesP x cur).length] := List.take_of_length_le (by simp)
          rw [ht2]
          refine ⟨by unfold lenBound; omega, ?_⟩
          have hl0 : linesP x [] = [] := rfl
          refine wk_of (pagedSt x L k (done ++ [cur]) (linesP x []) E (ofI (done ++ [cur]))) (pagedSt_new (Wk.trans (Wk.fold1 62 done.length 500 (n := (linesP x cur).length) (by rfl) (by rfl) (by rw [List.append_assoc]; exact app_get hdl) (by simp) (by simp) (by simp)) (Wk.list rfl (by simp) (by simp [app_set hdl])))) ?_
          generalize ofI _ = F at hfill ⊢
          generalize done ++ [cur] = D at hfill ⊢
          generalize ([] : List Grant) = C at hfill ⊢
        case' fits =>
          have hfill : Fill x L k g done cur (ofI (done ++ [cur])) := ⟨rfl, by have := hP.add hlt hfitL (by rw [hsc, hg, hsz]; omega); rw [hg] at this; exact this, by simp at hfl; simp; omega, by omega, by
            intro q hq
            rcases List.mem_append.1 hq with hq | hq
            · exact hPs q (by simp [hq])
            simp at hq
            subst hq
            rw [hls, List.length_append, hEe]; omega⟩
          refine wk_of (pagedSt x L k done (linesP x cur) E (ofI (done ++ [cur]))) (Wk.list rfl (by simp [pagedSt]) (by simp [pagedSt])) ?_
          generalize ofI _ = F at hfill ⊢
          generalize done = D at hfill ⊢
          generalize cur = C at hfill ⊢
      all_goals
        have hFl : F.length = k := by
          have h1 := hfill.flat
          rw [hfill.num, ofI_len]
          simp at h1 ⊢
          omega
        have hfew := hfill.few
        have hCl := hfill.low (C ++ [g]) (by simp)
        rw [hls, List.length_append, hEe] at hCl
        have hdl2 : (D.map (pageV x)).length = D.length := List.length_map ..
        have hw2 : IntKind.i64.wrap (D.length : Int) = D.length := wrap64 (by omega) (by omega)
        simp [pagedSt, r_i_paged_13]
        simp [r_i_paged_14, hw2, app_get hdl2]
        refine ⟨by omega, by unfold lenBound; omega, by omega, ?_⟩
        have htF : List.take k (ints F) = ints F := List.take_of_length_le (by rw [List.length_map]; omega)
        have hoi : ofI (D ++ [C ++ [g]]) = F ++ [((D.length + 1 : Nat) : Int)] := by rw [ofI_snoc, hfill.num]
        simp [r_i_paged_15, hFl, htF]
        refine ⟨by unfold lenBound; omega, ?_⟩
        simp [r_i_paged_16]
        rw [wrap64 (n := (D.length : Int) + 1) (by omega) (by omega), wrap64 (n := (k : Int) + 1) (by omega) (by omega)]
        have hT : ∀ s, Wk s ⟨[(3, .ref 3 0 0), (7, .sl 22 0 (D.length + 1)), (8, .sl 79 0 (k + 1)), (27, .sl 27 0 L.length), (28, I L.length), (29, I ((k : Int) + 1))], [(3, ⟨3, [eRoll x]⟩), (22, ⟨1, D.map (pageV x) ++ [.sl 73 0 ((linesP x C).length + E.length)]⟩), (73, ⟨1, (linesP x C).map S ++ E.map S⟩), (79, ⟨1, ints F ++ [I ((D.length : Int) + 1)]⟩), (27, ⟨18, L.map eGrant⟩)], []⟩ →
            Wk s ⟨[(3, .ref 3 0 0), (7, .sl 22 0 (D ++ [C ++ [g]]).length), (8, .sl 23 0 (k + 1)), (27, .sl 27 0 L.length), (28, I L.length), (29, I ((k + 1 : Nat) : Int))], [(3, ⟨3, [eRoll x]⟩), (22, ⟨1, (D ++ [C ++ [g]]).map (pageV x)⟩), (23, ⟨1, ints (ofI (D ++ [C ++ [g]]))⟩), (27, ⟨18, L.map eGrant⟩)], []⟩ := fun s h =>
          Wk.trans h <| Wk.trans (Wk.fold1 22 D.length 73 (n := (linesP x C).length + E.length) (by rfl) (by rfl) (app_get hdl2) (by simp) (by simp) (by simp)) <| Wk.trans (Wk.ren 79 23 (by decide) (by simp [app_set hdl2])) (Wk.list rfl (by simp [AS.ren, ren, reN]) (by simp [AS.ren, ren, reN, renB, app_set hdl2, hoi, hls, hEe]))
        exact hN (D ++ [C ++ [g]], k + 1) _ (by dsimp only; omega) ⟨by dsimp only; omega, hfill.at_, hfill.flat, by simp; omega, hfill.low⟩ (hT _ (Wk.list rfl (by simp) (by simp)))
  · obtain rfl : k = L.length := by omega
    refine hE _ _ ?_
    simp only [blockK_exit]
    simp [r_i_paged_18, hP.done, hof, hfl]
end Go.Proofs.YtbeoijlggphklaaGreatDoor

/- The pages of a roll in the reference. -/
set_option linter.unusedVariables false
set_option linter.unusedSimpArgs false
namespace Go.Proofs.YtbeoijlggphklaaGreatDoor
open Go.Abs

abbrev ownX (p : List Nat) : V := .own 1 (p.map eIx)
abbrev roX (p : List Nat) : V := .ro 1 (p.map eIx)
theorem s_l25Good (x : Roll) : PCall Tryz.prog n_s_l25Good [eRoll x] (B (rollOk x)) := by
  refine PCall.of fn_s_l25Good (by simp) ?_
  simp [c_s_l25Good, r_s_l25Good_0, r_s_l25Good_1]
  refine callQ_v (s_l25By ..) ?_
  cases h1 : inR x.by_ 1 3 with
  | false => simp [rollOk, h1]
  | true =>
  simp
  refine callQ_v (s_l1In ..) ?_
  cases h2 : inR x.width 20 60 with
  | false => simp [rollOk, h1, h2]
  | true =>
  simp
  refine callQ_v (s_l1In ..) ?_
  simp [rollOk, h1, h2]
def szX (x : Roll) (l : Register) (i : Nat) : Nat := (entryL x.width (List.getD l i g00)).length
def usedX (x : Roll) (l : Register) (P : List (List Nat)) : Nat := sizeB (szX x l) (P.getLast?.getD [])
theorem usedX_snoc (x : Roll) (l : Register) (D : List (List Nat)) (C : List Nat) : usedX x l (D ++ [C]) = sizeB (szX x l) C := by simp [usedX]
theorem pagesIx_def (x : Roll) (l : Register) : pagesIx x l = packs (szX x l) x.height.toNat (rollIx x.by_ l) := rfl
theorem getLast_snoc (D : List (List Nat)) (C : List Nat) : (D ++ [C]).getLast? = some C := by simp
/-- Where the page is that is being filled. -/
def spagedSt (x : Roll) (l : Register) (L : List Nat) (k : Nat) (D : List (List Nat)) (C : List Nat) (u m : Int) : AS :=
  ⟨[(2, .ref 2 0 0), (3, .ref 3 0 0), (6, .sl 12 0 (D.length + 1)), (7, I u), (8, .sl 16 0 L.length), (9, I k), (10, I m)], [(2, ⟨1, [eRegister l]⟩), (3, ⟨3, [eRoll x]⟩), (12, ⟨1, D.map ownX ++ [.sl 500 0 C.length]⟩), (500, ⟨1, C.map eIx⟩), (16, ⟨1, L.map eIx⟩)], []⟩
theorem spagedSt_new {x : Roll} {l : Register} {L : List Nat} {k : Nat} {P : List (List Nat)} {m : Int} {s : AS}
    (h : Wk s ⟨[(2, .ref 2 0 0), (3, .ref 3 0 0), (6, .sl 54 0 (P.length + 1)), (7, I 0), (8, .sl 16 0 L.length), (9, I k), (10, I m)], [(54, ⟨1, P.map ownX ++ [.sl 52 0 0]⟩), (52, ⟨1, []⟩), (2, ⟨1, [eRegister l]⟩), (3, ⟨3, [eRoll x]⟩), (16, ⟨1, L.map eIx⟩)], []⟩) : Wk s (spagedSt x l L k P [] 0 m) := by
  refine Wk.trans h <| Wk.trans (Wk.ren 54 12 (by decide) ?_) <| Wk.trans (Wk.ren 52 500 (by decide) ?_) (Wk.list rfl ?_ ?_)
  · simp
  · simp [AS.ren, ren, reN, renB]
  · simp [spagedSt, AS.ren, ren, reN]
  · simp [spagedSt, AS.ren, ren, reN, renB]
structure FillX (x : Roll) (l : Register) (L : List Nat) (k q : Nat) (D : List (List Nat)) (C : List Nat) (u : Nat) : Prop where
  num : u = sizeB (szX x l) C
  at_ : PagedAt (szX x l) x.height.toNat L (k + 1) (D ++ [C ++ [q]])
  flat : (D ++ [C ++ [q]]).flatten.length = k + 1
  few : D.length ≤ k
  low : u + szX x l q ≤ x.height.toNat
set_option maxHeartbeats 4000000 in
theorem s_l25Pages (l : Register) (x : Roll) (h1 : register l = true) (h2 : rollOk x = true) : PCall Tryz.prog n_s_l25Pages [eRegister l, eRoll x] (.tup [.own 1 (((pagesIx x l).getD []).map ownX), B (pagesIx x l).isSome]) := by
  obtain ⟨k1, k2, k3⟩ := rollOk_iff h2
  have hl := register_len h1
  have hL := rollIx_len x.by_ l
  have hLm : ∀ q ∈ rollIx x.by_ l, q < List.length l := rollIx_lt
  refine PCall.of fn_s_l25Pages (by simp) ?_
  simp [c_s_l25Pages, r_s_l25Pages_0, r_s_l25Pages_1, r_s_l25Pages_2, r_s_l25Pages_3]
  refine callQ_of (PCall.arg (s_l25Order l x.by_ h1) (by simp)) rfl (.inl (by simp)) (by simp) ?_
  rw [pagesIx_def]
  generalize rollIx x.by_ l = L at hL hLm ⊢
  simp [r_s_l25Pages_4]
  refine loopK (fun p : List (List Nat) × Nat => ⟨[(2, .ref 2 0 0), (3, .ref 3 0 0), (6, .sl 12 0 p.1.length), (7, I (usedX x l p.1)), (8, .sl 16 0 L.length), (9, I p.2)], [(2, ⟨1, [eRegister l]⟩), (3, ⟨3, [eRoll x]⟩), (12, ⟨1, p.1.map ownX⟩), (16, ⟨1, L.map eIx⟩)], []⟩) (fun p => L.length - p.2)
    (fun p => p.2 ≤ L.length ∧ PagedAt (szX x l) x.height.toNat L p.2 p.1 ∧ p.1.flatten.length = p.2 ∧ p.1.length ≤ p.2 ∧ usedX x l p.1 ≤ x.height.toNat) ([], 0) (Wk.list rfl (by simp [usedX, sizeB]) (by simp)) (by simp [PagedAt, usedX, sizeB]) ?_
  rintro ⟨P, k⟩ ⟨hk, hP, hfl, hPl, hu⟩ K hN hR hE
  dsimp only at hk hP hfl hPl hu ⊢
  simp [l_s_l25Pages_16, r_s_l25Pages_5]
  refine ⟨fun hlt => ?_, fun hge => ?_⟩
  · obtain ⟨q, hq⟩ : ∃ q, L[k] = q := ⟨_, rfl⟩
    have hql : q < List.length l := hLm q (hq ▸ List.getElem_mem _)
    have hqd : List.getD l q g00 = l[q] := by simp [hql]
    have hgo : grantOk l[q] = true := register_grant h1 _ (List.getElem_mem _)
    have hEl := entryL_len x.width l[q]
    have hsz : szX x l q = (entryL x.width l[q]).length := by rw [szX, hqd]
    simp [r_s_l25Pages_6, p_s_l25Pages_6, hlt, hq, hql]
    refine callD_of (PCall.arg (s_l25Lines l[q] x.width hgo k2) (by simp)) rfl (.inl (by simp)) ?_ ?_ ?_
    · simp
    · simp
    simp
    refine ⟨oEnd_of (by simp [p_s_l25Pages_6]) (by simp), ?_⟩
    generalize (entryL x.width l[q]).length = m at hEl hsz ⊢
    simp [r_s_l25Pages_7]
    refine ⟨fun hbig => ?_, fun hfit => ?_⟩
    · have hnone := hP.fail hlt (by rw [hq, hsz]; omega)
      simp [r_s_l25Pages_8]
      refine hR _ ?_
      simp [hnone]
    · have hcase : P = [] ∨ ∃ done cur, P = done ++ [cur] := by
        rcases hP with ⟨_, h⟩ | ⟨d, c, h, _⟩
        · exact .inl h
        · exact .inr ⟨d, c, h⟩
      have hfitL : ¬ x.height.toNat < szX x l L[k] := by rw [hq, hsz]; omega
      rcases hcase with rfl | ⟨done, cur, rfl⟩
      case' inl =>
        have hu0 : usedX x l [] = 0 := rfl
        obtain ⟨C, hC0⟩ : ∃ C : List Nat, C = [] := ⟨_, rfl⟩
        obtain ⟨u, hu1⟩ : ∃ u : Nat, u = 0 := ⟨_, rfl⟩
        have hfill : FillX x l L k q [] C u := by subst hC0 hu1; exact ⟨rfl, by have := hP.new hlt hfitL (.inl rfl); rw [hq] at this; simpa using this, by simp at hfl; simp [← hfl], by simp, by rw [hsz]; omega⟩
        simp [r_s_l25Pages_9]
        simp [r_s_l25Pages_10, r_s_l25Pages_11]
        refine ⟨by unfold lenBound; omega, ?_⟩
        refine wk_of (spagedSt x l L k [] C u m) (by subst hC0 hu1; exact spagedSt_new (Wk.list rfl (by simp) (by simp))) ?_
        generalize ([] : List (List Nat)) = D at hfill ⊢
      case' inr =>
        have hdl : (done.map ownX).length = done.length := List.length_map ..
        have hdb : done.length + 1 ≤ k := by simpa using hPl
        have hus := usedX_snoc x l done cur
        have hub : sizeB (szX x l) cur ≤ x.height.toNat := by rw [← hus]; exact hu
        have hnz : ¬ ((done.length : Int) + 1 = 0) := by omega
        simp [r_s_l25Pages_9, hus, hnz]
        rw [wrap64 (n := (sizeB (szX x l) cur : Int) + m) (by omega) (by omega)]
        refine ⟨fun hover => ?over, fun hfits => ?fits⟩
        case' over =>
          obtain ⟨C, hC0⟩ : ∃ C : List Nat, C = [] := ⟨_, rfl⟩
          obtain ⟨u, hu1⟩ : ∃ u : Nat, u = 0 := ⟨_, rfl⟩
          have hfill : FillX x l L k q (done ++ [cur]) C u := by subst hC0 hu1; exact ⟨rfl, by have := hP.new hlt hfitL (.inr ⟨done, cur, rfl, by rw [hq, hsz]; omega⟩); rw [hq] at this; simpa using this, by simp at hfl; simp; omega, by simpa using hPl, by rw [hsz]; omega⟩
          simp [r_s_l25Pages_10, r_s_l25Pages_11]
          have ht2 : List.take (done.length + 1) (List.map ownX done ++ [ownX cur]) = List.map ownX done ++ [ownX cur] := List.take_of_length_le (by simp)
          rw [ht2]
          refine ⟨by unfold lenBound; omega, ?_⟩
          refine wk_of (spagedSt x l L k (done ++ [cur]) C u m) (by subst hC0 hu1; exact spagedSt_new (Wk.list rfl (by simp) (by simp))) ?_
          generalize done ++ [cur] = D at hfill ⊢
        case' fits =>
          have hfill : FillX x l L k q done cur (sizeB (szX x l) cur) := ⟨rfl, by have := hP.add hlt hfitL (by rw [hq, hsz]; omega); rw [hq] at this; exact this, by simp at hfl; simp; omega, by omega, by rw [hsz]; omega⟩
          refine wk_of (spagedSt x l L k done cur (sizeB (szX x l) cur) m) (Wk.trans (Wk.unfold1 12 done.length 500 (sz := 1) (es := cur.map eIx) (by rfl) (app_get hdl) (by simp)) (Wk.list rfl (by simp [spagedSt]) (by simp [spagedSt, app_set hdl]))) ?_
          generalize sizeB (szX x l) cur = u at hfill ⊢
          generalize done = D at hfill ⊢
          generalize cur = C at hfill ⊢
      all_goals
        have hfew := hfill.few
        have hlow := hfill.low
        have hCk : C.length ≤ k := by
          have h1 := hfill.flat
          simp at h1
          omega
        have hdl2 : (D.map ownX).length = D.length := List.length_map ..
        have hw2 : IntKind.i64.wrap (D.length : Int) = D.length := wrap64 (by omega) (by omega)
        simp [spagedSt, r_s_l25Pages_12]
        simp [r_s_l25Pages_13, p_s_l25Pages_13, hw2, app_get hdl2, app_set hdl2, hlt, hq]
        refine ⟨by omega, by unfold lenBound; omega, by omega, oEnd_of (by simp [p_s_l25Pages_13, app_set hdl2, app_get hdl2]) (by simp [app_set hdl2, app_get hdl2]), ?_⟩
        have hus2 : usedX x l (D ++ [C ++ [q]]) = u + m := by rw [usedX_snoc, sizeB_snoc, ← hfill.num, hsz]
        simp [r_s_l25Pages_14, r_s_l25Pages_15]
        rw [wrap64 (n := (u : Int) + m) (by omega) (by omega), wrap64 (n := (k : Int) + 1) (by omega) (by omega)]
        have hT : ∀ s, Wk s ⟨[(2, .ref 2 0 0), (3, .ref 3 0 0), (6, .sl 12 0 (D.length + 1)), (7, I ((u : Int) + m)), (8, .sl 16 0 L.length), (9, I ((k : Int) + 1))], [(2, ⟨1, [eRegister l]⟩), (3, ⟨3, [eRoll x]⟩), (12, ⟨1, D.map ownX ++ [.sl 69 0 (C.length + 1)]⟩), (69, ⟨1, C.map eIx ++ [eIx q]⟩), (16, ⟨1, L.map eIx⟩)], []⟩ →
            Wk s ⟨[(2, .ref 2 0 0), (3, .ref 3 0 0), (6, .sl 12 0 (D ++ [C ++ [q]]).length), (7, I (usedX x l (D ++ [C ++ [q]]))), (8, .sl 16 0 L.length), (9, I ((k + 1 : Nat) : Int))], [(2, ⟨1, [eRegister l]⟩), (3, ⟨3, [eRoll x]⟩), (12, ⟨1, (D ++ [C ++ [q]]).map ownX⟩), (16, ⟨1, L.map eIx⟩)], []⟩ := fun s h =>
          Wk.trans h <| Wk.trans (Wk.fold1 12 D.length 69 (n := C.length + 1) (by rfl) (by rfl) (app_get hdl2) (by simp) (by simp) (by simp)) (Wk.list rfl (by simp [hus2]) (by simp [app_set hdl2]))
        exact hN (D ++ [C ++ [q]], k + 1) _ (by dsimp only; omega) ⟨by dsimp only; omega, hfill.at_, hfill.flat, by simp; omega, by dsimp only; omega⟩ (hT _ (Wk.list rfl (by simp) (by simp)))
  · obtain rfl : k = L.length := by omega
    refine hE _ _ ?_
    simp only [blockK_exit]
    simp [r_s_l25Pages_17, hP.done]
theorem s_l25Asked (l : Register) (x : Roll) : PCall Tryz.prog n_s_l25Asked [eRegister l, eRoll x] (.tup [.own 1 (((askedIx l x).getD []).map ownX), B (askedIx l x).isSome]) := by
  refine PCall.of fn_s_l25Asked (by simp) ?_
  simp [c_s_l25Asked, r_s_l25Asked_0, r_s_l25Asked_1]
  refine callQ_v (PCall.arg (s_l16Good l) (by simp)) ?_
  cases h1 : register l with
  | false => simp [r_s_l25Asked_2, askedIx, askedOk, h1]
  | true =>
  simp
  refine callQ_v (PCall.arg (s_l25Good x) (by simp)) ?_
  cases h2 : rollOk x with
  | false => simp [r_s_l25Asked_2, askedIx, askedOk, h1, h2]
  | true =>
  simp [r_s_l25Asked_3]
  refine callQ_of (PCall.arg (s_l25Pages l x h1 h2) (by simp)) rfl (.inl (by simp)) (by simp) ?_
  simp [askedIx, askedOk, h1, h2]
end Go.Proofs.YtbeoijlggphklaaGreatDoor

/- The compact code of the functions, and that it is theirs: written by a program of this claim. -/
namespace Go.Proofs.YtbeoijlggphklaaGreatDoor
open Go.Abs
set_option maxRecDepth 100000
def r_w_eqConsole_0 : List CO := [⟨none, (some 2), (.box 4 (.t 0))⟩, ⟨none, (some 3), (.box 4 (.t 1))⟩, ⟨none, (some 4), (.mv (.k (.v (.bool false))))⟩]
def r_w_eqConsole_1 : List CO := [⟨none, (some 5), (.faddr 0 (.t 2))⟩, ⟨none, (some 6), (.ld true 1 (.t 5))⟩, ⟨none, (some 7), (.faddr 0 (.t 3))⟩, ⟨none, (some 8), (.ld true 1 (.t 7))⟩, ⟨none, (some 9), (.call n_w_eqRegister [(.t 6), (.t 8)])⟩, ⟨none, (some 10), (.un .not (.t 9))⟩]
def r_w_eqConsole_2 : List CO := [⟨none, (some 4), (.mv (.k (.v (.bool false))))⟩]
def r_w_eqConsole_3 : List CO := [⟨none, (some 11), (.faddr 1 (.t 2))⟩, ⟨none, (some 12), (.ld true 3 (.t 11))⟩, ⟨none, (some 13), (.faddr 1 (.t 3))⟩, ⟨none, (some 14), (.ld true 3 (.t 13))⟩, ⟨none, (some 15), (.call n_w_eqLog [(.t 12), (.t 14)])⟩, ⟨none, (some 16), (.un .not (.t 15))⟩]
def r_w_eqConsole_4 : List CO := [⟨none, (some 4), (.mv (.k (.v (.bool false))))⟩]
def r_w_eqConsole_5 : List CO := [⟨none, (some 4), (.mv (.k (.v (.bool true))))⟩]
/-- loop.example/g00884/laws.eqConsole -/
def c_w_eqConsole : C := (.seq (.reg r_w_eqConsole_0 [2, 3]) (.seq (.seq (.reg r_w_eqConsole_1 [2, 3, 10]) (.cond (.t 10) (.seq (.reg r_w_eqConsole_2 [4]) .ret) .skip)) (.seq (.seq (.reg r_w_eqConsole_3 [16]) (.cond (.t 16) (.seq (.reg r_w_eqConsole_4 [4]) .ret) .skip)) (.seq (.reg r_w_eqConsole_5 [4]) .ret))))
def k_w_eqConsole : Nat → List Nat
  | 0 => [2, 3]
  | 1 => [2, 3, 10]
  | 2 => [4]
  | 3 => [16]
  | 4 => [4]
  | 5 => [4]
  | _ => []
theorem fn_w_eqConsole : FnC Tryz.prog n_w_eqConsole c_w_eqConsole [(.tmp 4)] 17 :=
  ⟨Tryz.f23, _, k_w_eqConsole, Tryz.func23, rfl, by kernel_rfl, by kernel_rfl, by kernel_rfl, rfl⟩
def r_w_markRegister_0 : List CO := [⟨none, (some 2), (.box 1 (.t 0))⟩, ⟨none, (some 4), (.mv (.k (.v (.int .i64 (0)))))⟩]
def r_w_markRegister_1 : List CO := [⟨none, (some 5), (.faddr 0 (.t 2))⟩, ⟨none, (some 6), (.ld false 1 (.t 5))⟩, ⟨none, (some 7), (.mv (.t 1))⟩, ⟨none, (some 8), (.call n_w_markGrantS [(.t 6), (.t 7)])⟩, ⟨none, (some 1), (.mv (.t 8))⟩]
def r_w_markRegister_2 : List CO := [⟨none, (some 9), (.mv (.t 1))⟩, ⟨none, (some 4), (.mv (.t 9))⟩]
/-- loop.example/g00884/laws.markRegister -/
def c_w_markRegister : C := (.seq (.reg r_w_markRegister_0 [1, 2]) (.seq (.reg r_w_markRegister_1 [1]) (.seq (.reg r_w_markRegister_2 [4]) .ret)))
def k_w_markRegister : Nat → List Nat
  | 0 => [1, 2]
  | 1 => [1]
  | 2 => [4]
  | _ => []
theorem fn_w_markRegister : FnC Tryz.prog n_w_markRegister c_w_markRegister [(.tmp 4)] 10 :=
  ⟨Tryz.f35, _, k_w_markRegister, Tryz.func35, rfl, by kernel_rfl, by kernel_rfl, by kernel_rfl, rfl⟩
end Go.Proofs.YtbeoijlggphklaaGreatDoor

/- The compact code of the functions, and that it is theirs: written by a program of this claim. -/
namespace Go.Proofs.YtbeoijlggphklaaGreatDoor
open Go.Abs
set_option maxRecDepth 100000
def r_w_markGrantS_0 : List CO := [⟨none, (some 4), (.mv (.k (.v (.int .i64 (0)))))⟩]
def r_w_markGrantS_1 : List CO := [⟨none, (some 5), (.mv (.k (.v (.int .i64 (0)))))⟩]
def r_w_markGrantS_2 : List CO := [⟨none, (some 6), (.mv (.t 5))⟩, ⟨none, (some 7), (.mv (.t 0))⟩, ⟨none, (some 8), (.len false (.t 7))⟩, ⟨none, (some 9), (.bin .lss .none (.t 6) (.t 8))⟩]
def r_w_markGrantS_3 : List CO := [⟨none, (some 12), (.mv (.t 0))⟩, ⟨none, (some 13), (.mv (.t 5))⟩, ⟨none, (some 14), (.mv (.t 1))⟩, ⟨none, (some 15), (.iaddr 18 (.t 12) (.t 13))⟩, ⟨none, (some 16), (.faddr 0 (.t 15))⟩, ⟨none, none, (.st 1 (.t 16) (.t 14))⟩]
def r_w_markGrantS_4 : List CO := [⟨none, (some 17), (.mv (.t 1))⟩, ⟨none, (some 18), (.bin .add .none (.t 17) (.k (.v (.int .i64 (1)))))⟩, ⟨none, (some 1), (.mv (.t 18))⟩]
def r_w_markGrantS_5 : List CO := [⟨none, (some 19), (.mv (.t 0))⟩, ⟨none, (some 20), (.mv (.t 5))⟩, ⟨none, (some 21), (.mv (.t 1))⟩, ⟨none, (some 22), (.call n_w_markText [(.t 21)])⟩, ⟨none, (some 23), (.iaddr 18 (.t 19) (.t 20))⟩, ⟨none, (some 24), (.faddr 1 (.t 23))⟩, ⟨none, none, (.st 1 (.t 24) (.t 22))⟩]
def r_w_markGrantS_6 : List CO := [⟨none, (some 25), (.mv (.t 1))⟩, ⟨none, (some 26), (.bin .add .none (.t 25) (.k (.v (.int .i64 (1)))))⟩, ⟨none, (some 1), (.mv (.t 26))⟩]
def r_w_markGrantS_7 : List CO := [⟨none, (some 27), (.mv (.t 0))⟩, ⟨none, (some 28), (.mv (.t 5))⟩, ⟨none, (some 29), (.mv (.t 1))⟩, ⟨none, (some 30), (.iaddr 18 (.t 27) (.t 28))⟩, ⟨none, (some 31), (.faddr 2 (.t 30))⟩, ⟨none, none, (.st 1 (.t 31) (.t 29))⟩]
def r_w_markGrantS_8 : List CO := [⟨none, (some 32), (.mv (.t 1))⟩, ⟨none, (some 33), (.bin .add .none (.t 32) (.k (.v (.int .i64 (1)))))⟩, ⟨none, (some 1), (.mv (.t 33))⟩]
def r_w_markGrantS_9 : List CO := [⟨none, (some 34), (.mv (.t 0))⟩, ⟨none, (some 35), (.mv (.t 5))⟩, ⟨none, (some 36), (.mv (.t 1))⟩, ⟨none, (some 37), (.iaddr 18 (.t 34) (.t 35))⟩, ⟨none, (some 38), (.faddr 3 (.t 37))⟩, ⟨none, (some 39), (.faddr 0 (.t 38))⟩, ⟨none, (some 40), (.faddr 0 (.t 39))⟩, ⟨none, none, (.st 1 (.t 40) (.t 36))⟩]
def r_w_markGrantS_10 : List CO := [⟨none, (some 41), (.mv (.t 1))⟩, ⟨none, (some 42), (.bin .add .none (.t 41) (.k (.v (.int .i64 (1)))))⟩, ⟨none, (some 1), (.mv (.t 42))⟩]
def r_w_markGrantS_11 : List CO := [⟨none, (some 43), (.mv (.t 0))⟩, ⟨none, (some 44), (.mv (.t 5))⟩, ⟨none, (some 45), (.mv (.t 1))⟩, ⟨none, (some 46), (.iaddr 18 (.t 43) (.t 44))⟩, ⟨none, (some 47), (.faddr 3 (.t 46))⟩, ⟨none, (some 48), (.faddr 0 (.t 47))⟩, ⟨none, (some 49), (.faddr 1 (.t 48))⟩, ⟨none, none, (.st 1 (.t 49) (.t 45))⟩]
def r_w_markGrantS_12 : List CO := [⟨none, (some 50), (.mv (.t 1))⟩, ⟨none, (some 51), (.bin .add .none (.t 50) (.k (.v (.int .i64 (1)))))⟩, ⟨none, (some 1), (.mv (.t 51))⟩]
def r_w_markGrantS_13 : List CO := [⟨none, (some 52), (.mv (.t 0))⟩, ⟨none, (some 53), (.mv (.t 5))⟩, ⟨none, (some 54), (.mv (.t 1))⟩, ⟨none, (some 55), (.iaddr 18 (.t 52) (.t 53))⟩, ⟨none, (some 56), (.faddr 3 (.t 55))⟩, ⟨none, (some 57), (.faddr 0 (.t 56))⟩, ⟨none, (some 58), (.faddr 2 (.t 57))⟩, ⟨none, none, (.st 1 (.t 58) (.t 54))⟩]
def r_w_markGrantS_14 : List CO := [⟨none, (some 59), (.mv (.t 1))⟩, ⟨none, (some 60), (.bin .add .none (.t 59) (.k (.v (.int .i64 (1)))))⟩, ⟨none, (some 1), (.mv (.t 60))⟩]
def r_w_markGrantS_15 : List CO := [⟨none, (some 61), (.mv (.t 0))⟩, ⟨none, (some 62), (.mv (.t 5))⟩, ⟨none, (some 63), (.mv (.t 1))⟩, ⟨none, (some 64), (.iaddr 18 (.t 61) (.t 62))⟩, ⟨none, (some 65), (.faddr 3 (.t 64))⟩, ⟨none, (some 66), (.faddr 0 (.t 65))⟩, ⟨none, (some 67), (.faddr 3 (.t 66))⟩, ⟨none, none, (.st 1 (.t 67) (.t 63))⟩]
def r_w_markGrantS_16 : List CO := [⟨none, (some 68), (.mv (.t 1))⟩, ⟨none, (some 69), (.bin .add .none (.t 68) (.k (.v (.int .i64 (1)))))⟩, ⟨none, (some 1), (.mv (.t 69))⟩]
def r_w_markGrantS_17 : List CO := [⟨none, (some 70), (.mv (.t 0))⟩, ⟨none, (some 71), (.mv (.t 5))⟩, ⟨none, (some 72), (.mv (.t 1))⟩, ⟨none, (some 73), (.iaddr 18 (.t 70) (.t 71))⟩, ⟨none, (some 74), (.faddr 3 (.t 73))⟩, ⟨none, (some 75), (.faddr 4 (.t 74))⟩, ⟨none, none, (.st 1 (.t 75) (.t 72))⟩]
def r_w_markGrantS_18 : List CO := [⟨none, (some 76), (.mv (.t 1))⟩, ⟨none, (some 77), (.bin .add .none (.t 76) (.k (.v (.int .i64 (1)))))⟩, ⟨none, (some 1), (.mv (.t 77))⟩]
def r_w_markGrantS_19 : List CO := [⟨none, (some 78), (.mv (.t 0))⟩, ⟨none, (some 79), (.mv (.t 5))⟩, ⟨none, (some 80), (.mv (.t 1))⟩, ⟨none, (some 81), (.iaddr 18 (.t 78) (.t 79))⟩, ⟨none, (some 82), (.faddr 3 (.t 81))⟩, ⟨none, (some 83), (.faddr 5 (.t 82))⟩, ⟨none, none, (.st 1 (.t 83) (.t 80))⟩]
def r_w_markGrantS_20 : List CO := [⟨none, (some 84), (.mv (.t 1))⟩, ⟨none, (some 85), (.bin .add .none (.t 84) (.k (.v (.int .i64 (1)))))⟩, ⟨none, (some 1), (.mv (.t 85))⟩]
def r_w_markGrantS_21 : List CO := [⟨none, (some 86), (.mv (.t 0))⟩, ⟨none, (some 87), (.mv (.t 5))⟩, ⟨none, (some 88), (.mv (.t 1))⟩, ⟨none, (some 89), (.iaddr 18 (.t 86) (.t 87))⟩, ⟨none, (some 90), (.faddr 3 (.t 89))⟩, ⟨none, (some 91), (.faddr 6 (.t 90))⟩, ⟨none, none, (.st 1 (.t 91) (.t 88))⟩]
def r_w_markGrantS_22 : List CO := [⟨none, (some 92), (.mv (.t 1))⟩, ⟨none, (some 93), (.bin .add .none (.t 92) (.k (.v (.int .i64 (1)))))⟩, ⟨none, (some 1), (.mv (.t 93))⟩]
def r_w_markGrantS_23 : List CO := [⟨none, (some 94), (.mv (.t 0))⟩, ⟨none, (some 95), (.mv (.t 5))⟩, ⟨none, (some 96), (.mv (.t 1))⟩, ⟨none, (some 97), (.iaddr 18 (.t 94) (.t 95))⟩, ⟨none, (some 98), (.faddr 3 (.t 97))⟩, ⟨none, (some 99), (.faddr 7 (.t 98))⟩, ⟨none, (some 100), (.faddr 0 (.t 99))⟩, ⟨none, none, (.st 1 (.t 100) (.t 96))⟩]
def r_w_markGrantS_24 : List CO := [⟨none, (some 101), (.mv (.t 1))⟩, ⟨none, (some 102), (.bin .add .none (.t 101) (.k (.v (.int .i64 (1)))))⟩, ⟨none, (some 1), (.mv (.t 102))⟩]
def r_w_markGrantS_25 : List CO := [⟨none, (some 103), (.mv (.t 0))⟩, ⟨none, (some 104), (.mv (.t 5))⟩, ⟨none, (some 105), (.mv (.t 1))⟩, ⟨none, (some 106), (.iaddr 18 (.t 103) (.t 104))⟩, ⟨none, (some 107), (.faddr 3 (.t 106))⟩, ⟨none, (some 108), (.faddr 7 (.t 107))⟩, ⟨none, (some 109), (.faddr 1 (.t 108))⟩, ⟨none, none, (.st 1 (.t 109) (.t 105))⟩]
def r_w_markGrantS_26 : List CO := [⟨none, (some 110), (.mv (.t 1))⟩, ⟨none, (some 111), (.bin .add .none (.t 110) (.k (.v (.int .i64 (1)))))⟩, ⟨none, (some 1), (.mv (.t 111))⟩]
def r_w_markGrantS_27 : List CO := [⟨none, (some 112), (.mv (.t 0))⟩, ⟨none, (some 113), (.mv (.t 5))⟩, ⟨none, (some 114), (.mv (.t 1))⟩, ⟨none, (some 115), (.iaddr 18 (.t 112) (.t 113))⟩, ⟨none, (some 116), (.faddr 3 (.t 115))⟩, ⟨none, (some 117), (.faddr 7 (.t 116))⟩, ⟨none, (some 118), (.faddr 2 (.t 117))⟩, ⟨none, none, (.st 1 (.t 118) (.t 114))⟩]
def r_w_markGrantS_28 : List CO := [⟨none, (some 119), (.mv (.t 1))⟩, ⟨none, (some 120), (.bin .add .none (.t 119) (.k (.v (.int .i64 (1)))))⟩, ⟨none, (some 1), (.mv (.t 120))⟩]
def r_w_markGrantS_29 : List CO := [⟨none, (some 121), (.mv (.t 0))⟩, ⟨none, (some 122), (.mv (.t 5))⟩, ⟨none, (some 123), (.mv (.t 1))⟩, ⟨none, (some 124), (.iaddr 18 (.t 121) (.t 122))⟩, ⟨none, (some 125), (.faddr 3 (.t 124))⟩, ⟨none, (some 126), (.faddr 7 (.t 125))⟩, ⟨none, (some 127), (.faddr 3 (.t 126))⟩, ⟨none, none, (.st 1 (.t 127) (.t 123))⟩]
def r_w_markGrantS_30 : List CO := [⟨none, (some 128), (.mv (.t 1))⟩, ⟨none, (some 129), (.bin .add .none (.t 128) (.k (.v (.int .i64 (1)))))⟩, ⟨none, (some 1), (.mv (.t 129))⟩]
def r_w_markGrantS_31 : List CO := [⟨none, (some 130), (.mv (.t 0))⟩, ⟨none, (some 131), (.mv (.t 5))⟩, ⟨none, (some 132), (.mv (.t 1))⟩, ⟨none, (some 133), (.iaddr 18 (.t 130) (.t 131))⟩, ⟨none, (some 134), (.faddr 3 (.t 133))⟩, ⟨none, (some 135), (.faddr 11 (.t 134))⟩, ⟨none, (some 136), (.faddr 0 (.t 135))⟩, ⟨none, none, (.st 1 (.t 136) (.t 132))⟩]
def r_w_markGrantS_32 : List CO := [⟨none, (some 137), (.mv (.t 1))⟩, ⟨none, (some 138), (.bin .add .none (.t 137) (.k (.v (.int .i64 (1)))))⟩, ⟨none, (some 1), (.mv (.t 138))⟩]
def r_w_markGrantS_33 : List CO := [⟨none, (some 139), (.mv (.t 0))⟩, ⟨none, (some 140), (.mv (.t 5))⟩, ⟨none, (some 141), (.mv (.t 1))⟩, ⟨none, (some 142), (.iaddr 18 (.t 139) (.t 140))⟩, ⟨none, (some 143), (.faddr 3 (.t 142))⟩, ⟨none, (some 144), (.faddr 11 (.t 143))⟩, ⟨none, (some 145), (.faddr 1 (.t 144))⟩, ⟨none, none, (.st 1 (.t 145) (.t 141))⟩]
def r_w_markGrantS_34 : List CO := [⟨none, (some 146), (.mv (.t 1))⟩, ⟨none, (some 147), (.bin .add .none (.t 146) (.k (.v (.int .i64 (1)))))⟩, ⟨none, (some 1), (.mv (.t 147))⟩]
def r_w_markGrantS_35 : List CO := [⟨none, (some 148), (.mv (.t 0))⟩, ⟨none, (some 149), (.mv (.t 5))⟩, ⟨none, (some 150), (.mv (.t 1))⟩, ⟨none, (some 151), (.iaddr 18 (.t 148) (.t 149))⟩, ⟨none, (some 152), (.faddr 3 (.t 151))⟩, ⟨none, (some 153), (.faddr 11 (.t 152))⟩, ⟨none, (some 154), (.faddr 2 (.t 153))⟩, ⟨none, none, (.st 1 (.t 154) (.t 150))⟩]
def r_w_markGrantS_36 : List CO := [⟨none, (some 155), (.mv (.t 1))⟩, ⟨none, (some 156), (.bin .add .none (.t 155) (.k (.v (.int .i64 (1)))))⟩, ⟨none, (some 1), (.mv (.t 156))⟩]
def r_w_markGrantS_37 : List CO := [⟨none, (some 157), (.mv (.t 0))⟩, ⟨none, (some 158), (.mv (.t 5))⟩, ⟨none, (some 159), (.mv (.t 1))⟩, ⟨none, (some 160), (.iaddr 18 (.t 157) (.t 158))⟩, ⟨none, (some 161), (.faddr 3 (.t 160))⟩, ⟨none, (some 162), (.faddr 11 (.t 161))⟩, ⟨none, (some 163), (.faddr 3 (.t 162))⟩, ⟨none, none, (.st 1 (.t 163) (.t 159))⟩]
def r_w_markGrantS_38 : List CO := [⟨none, (some 164), (.mv (.t 1))⟩, ⟨none, (some 165), (.bin .add .none (.t 164) (.k (.v (.int .i64 (1)))))⟩, ⟨none, (some 1), (.mv (.t 165))⟩]
def r_w_markGrantS_39 : List CO := [⟨none, (some 10), (.mv (.t 5))⟩, ⟨none, (some 11), (.bin .add .none (.t 10) (.k (.v (.int .i64 (1)))))⟩, ⟨none, (some 5), (.mv (.t 11))⟩]
def l_w_markGrantS_40 : C := (.seq (.seq (.reg r_w_markGrantS_2 [0, 1, 5, 9]) (.cond (.t 9) .skip (.exit 0))) (.seq (.block 1 (.seq (.reg r_w_markGrantS_3 [0, 1, 5]) (.seq (.reg r_w_markGrantS_4 [0, 1, 5]) (.seq (.reg r_w_markGrantS_5 [0, 1, 5]) (.seq (.reg r_w_markGrantS_6 [0, 1, 5]) (.seq (.reg r_w_markGrantS_7 [0, 1, 5]) (.seq (.reg r_w_markGrantS_8 [0, 1, 5]) (.seq (.reg r_w_markGrantS_9 [0, 1, 5]) (.seq (.reg r_w_markGrantS_10 [0, 1, 5]) (.seq (.reg r_w_markGrantS_11 [0, 1, 5]) (.seq (.reg r_w_markGrantS_12 [0, 1, 5]) (.seq (.reg r_w_markGrantS_13 [0, 1, 5]) (.seq (.reg r_w_markGrantS_14 [0, 1, 5]) (.seq (.reg r_w_markGrantS_15 [0, 1, 5]) (.seq (.reg r_w_markGrantS_16 [0, 1, 5]) (.seq (.reg r_w_markGrantS_17 [0, 1, 5]) (.seq (.reg r_w_markGrantS_18 [0, 1, 5]) (.seq (.reg r_w_markGrantS_19 [0, 1, 5]) (.seq (.reg r_w_markGrantS_20 [0, 1, 5]) (.seq (.reg r_w_markGrantS_21 [0, 1, 5]) (.seq (.reg r_w_markGrantS_22 [0, 1, 5]) (.seq (.reg r_w_markGrantS_23 [0, 1, 5]) (.seq (.reg r_w_markGrantS_24 [0, 1, 5]) (.seq (.reg r_w_markGrantS_25 [0, 1, 5]) (.seq (.reg r_w_markGrantS_26 [0, 1, 5]) (.seq (.reg r_w_markGrantS_27 [0, 1, 5]) (.seq (.reg r_w_markGrantS_28 [0, 1, 5]) (.seq (.reg r_w_markGrantS_29 [0, 1, 5]) (.seq (.reg r_w_markGrantS_30 [0, 1, 5]) (.seq (.reg r_w_markGrantS_31 [0, 1, 5]) (.seq (.reg r_w_markGrantS_32 [0, 1, 5]) (.seq (.reg r_w_markGrantS_33 [0, 1, 5]) (.seq (.reg r_w_markGrantS_34 [0, 1, 5]) (.seq (.reg r_w_markGrantS_35 [0, 1, 5]) (.seq (.reg r_w_markGrantS_36 [0, 1, 5]) (.seq (.reg r_w_markGrantS_37 [0, 1, 5]) (.reg r_w_markGrantS_38 [0, 1, 5]))))))))))))))))))))))))))))))))))))) (.reg r_w_markGrantS_39 [0, 1, 5])))
def r_w_markGrantS_41 : List CO := [⟨none, (some 166), (.mv (.t 1))⟩, ⟨none, (some 4), (.mv (.t 166))⟩]
/-- loop.example/g00884/laws.markGrantS -/
def c_w_markGrantS : C := (.seq (.reg r_w_markGrantS_0 [0, 1]) (.seq (.seq (.reg r_w_markGrantS_1 [0, 1, 5]) (.block 0 (.loop l_w_markGrantS_40))) (.seq (.reg r_w_markGrantS_41 [4]) .ret)))
def k_w_markGrantS : Nat → List Nat
  | 0 => [0, 1]
  | 1 => [0, 1, 5]
  | 2 => [0, 1, 5, 9]
  | 4 => [0, 1, 5]
  | 5 => [0, 1, 5]
  | 6 => [0, 1, 5]
  | 7 => [0, 1, 5]
  | 8 => [0, 1, 5]
  | 9 => [0, 1, 5]
  | 10 => [0, 1, 5]
  | 11 => [0, 1, 5]
  | 12 => [0, 1, 5]
  | 13 => [0, 1, 5]
  | 14 => [0, 1, 5]
  | 15 => [0, 1, 5]
  | 16 => [0, 1, 5]
  | 17 => [0, 1, 5]
  | 18 => [0, 1, 5]
  | 19 => [0, 1, 5]
  | 20 => [0, 1, 5]
  | 21 => [0, 1, 5]
  | 22 => [0, 1, 5]
  | 23 => [0, 1, 5]
  | 24 => [0, 1, 5]
  | 25 => [0, 1, 5]
  | 26 => [0, 1, 5]
  | 27 => [0, 1, 5]
  | 28 => [0, 1, 5]
  | 29 => [0, 1, 5]
  | 30 => [0, 1, 5]
  | 31 => [0, 1, 5]
  | 32 => [0, 1, 5]
  | 33 => [0, 1, 5]
  | 34 => [0, 1, 5]
  | 35 => [0, 1, 5]
  | 36 => [0, 1, 5]
  | 37 => [0, 1, 5]
  | 38 => [0, 1, 5]
  | 39 => [0, 1, 5]
  | 3 => [0, 1, 5]
  | 40 => [4]
  | _ => []
theorem fn_w_markGrantS : FnC Tryz.prog n_w_markGrantS c_w_markGrantS [(.tmp 4)] 167 :=
  ⟨Tryz.f75, _, k_w_markGrantS, Tryz.func75, rfl, by kernel_rfl, by kernel_rfl, by kernel_rfl, rfl⟩
end Go.Proofs.YtbeoijlggphklaaGreatDoor

/- Rows of grants: the laws' marks (written by wip/tools/grantgen.py). -/
set_option linter.unusedVariables false
set_option linter.unusedSimpArgs false
namespace Go.Proofs.YtbeoijlggphklaaGreatDoor
open Go.Abs

/-- The marks of one. -/
def mkGrant (k : Nat) : Grant := ⟨((k : Nat) : Int), markT (k + 1), ((k + 2 : Nat) : Int), ⟨⟨((k + 3 : Nat) : Int), ((k + 4 : Nat) : Int), ((k + 5 : Nat) : Int), ((k + 6 : Nat) : Int)⟩, ((k + 7 : Nat) : Int), ((k + 8 : Nat) : Int), ((k + 9 : Nat) : Int), ⟨((k + 10 : Nat) : Int), ((k + 11 : Nat) : Int), ((k + 12 : Nat) : Int), ((k + 13 : Nat) : Int)⟩, ⟨((k + 14 : Nat) : Int), ((k + 15 : Nat) : Int), ((k + 16 : Nat) : Int), ((k + 17 : Nat) : Int)⟩⟩⟩
def marksGrant (k : Nat) (n : Nat) : List Grant := (List.range n).map fun i : Nat => mkGrant (k + 18 * i)
theorem marksGrant_len (k n : Nat) : (marksGrant k n).length = n := by simp [marksGrant]
theorem marksGrant_succ (k : Nat) (n : Nat) : marksGrant k (n + 1) = marksGrant k n ++ [mkGrant (k + 18 * n)] := by simp only [marksGrant, List.range_succ, List.map_append, List.map_cons, List.map_nil]
theorem marksGrant_get {k m i : Nat} (h : i < (marksGrant k m).length) : (marksGrant k m)[i] = mkGrant (k + 18 * i) := by simp [marksGrant]

set_option maxHeartbeats 4000000 in
theorem w_markGrantS (l : List Grant) (k : Nat) (hl : l.length ≤ 1048576) (hk : k ≤ 1000000) :
    MCall Tryz.prog n_w_markGrantS [⟨18, l.map eGrant⟩] [.sl (mid 0) 0 l.length, I k] (I ((k + 18 * l.length : Nat) : Int)) [some ⟨18, (marksGrant k l.length).map eGrant⟩] := by
  refine MCall.of fn_w_markGrantS (by simp) rfl (by simp) ?_
  simp [c_w_markGrantS, r_w_markGrantS_0, r_w_markGrantS_1, l_w_markGrantS_40]
  refine loopK (fun i : Nat => ⟨[(0, .sl 1000000 0 l.length), (1, I ((k + 18 * i : Nat) : Int)), (5, I i)], [(1000000, ⟨18, (marksGrant k i ++ l.drop i).map eGrant⟩)], [1000000]⟩) (fun i => l.length - i)
    (fun i => i ≤ l.length) 0 (Wk.list rfl (by simp) (by simp [marksGrant])) (by simp) ?_
  intro i hi K hN hR hE
  simp [r_w_markGrantS_2]
  have hml : (List.map eGrant (marksGrant k i)).length = i := by rw [List.length_map, marksGrant_len]
  refine ⟨fun hlt => ?_, fun hge => ?_⟩
  · have hd : (l.map eGrant).drop i = eGrant l[i] :: (l.map eGrant).drop (i + 1) := by rw [drop_cons (l := l.map eGrant) (by simpa using hlt)]; simp
    simp only [hd]
    simp [r_w_markGrantS_3, r_w_markGrantS_4, hlt, app_get hml, app_set hml]
    rw [wrap64 (by omega) (by omega)]
    simp [r_w_markGrantS_5]
    refine callQ_v (PCall.arg (w_markText (k + 18 * i + 1) (by omega)) (by simp)) ?_
    simp [r_w_markGrantS_6, hlt, app_get hml, app_set hml]
    rw [wrap64 (by omega) (by omega)]
    simp [r_w_markGrantS_7, r_w_markGrantS_8, hlt, app_get hml, app_set hml]
    rw [wrap64 (by omega) (by omega)]
    simp [r_w_markGrantS_9, r_w_markGrantS_10, hlt, app_get hml, app_set hml]
    rw [wrap64 (by omega) (by omega)]
    simp [r_w_markGrantS_11, r_w_markGrantS_12, hlt, app_get hml, app_set hml]
    rw [wrap64 (by omega) (by omega)]
    simp [r_w_markGrantS_13, r_w_markGrantS_14, hlt, app_get hml, app_set hml]
    rw [wrap64 (by omega) (by omega)]
    simp [r_w_markGrantS_15, r_w_markGrantS_16, hlt, app_get hml, app_set hml]
    rw [wrap64 (by omega) (by omega)]
    simp [r_w_markGrantS_17, r_w_markGrantS_18, hlt, app_get hml, app_set hml]
    rw [wrap64 (by omega) (by omega)]
    simp [r_w_markGrantS_19, r_w_markGrantS_20, hlt, app_get hml, app_set hml]
    rw [wrap64 (by omega) (by omega)]
    simp [r_w_markGrantS_21, r_w_markGrantS_22, hlt, app_get hml, app_set hml]
    rw [wrap64 (by omega) (by omega)]
    simp [r_w_markGrantS_23, r_w_markGrantS_24, hlt, app_get hml, app_set hml]
    rw [wrap64 (by omega) (by omega)]
    simp [r_w_markGrantS_25, r_w_markGrantS_26, hlt, app_get hml, app_set hml]
    rw [wrap64 (by omega) (by omega)]
    simp [r_w_markGrantS_27, r_w_markGrantS_28, hlt, app_get hml, app_set hml]
    rw [wrap64 (by omega) (by omega)]
    simp [r_w_markGrantS_29, r_w_markGrantS_30, hlt, app_get hml, app_set hml]
    rw [wrap64 (by omega) (by omega)]
    simp [r_w_markGrantS_31, r_w_markGrantS_32, hlt, app_get hml, app_set hml]
    rw [wrap64 (by omega) (by omega)]
    simp [r_w_markGrantS_33, r_w_markGrantS_34, hlt, app_get hml, app_set hml]
    rw [wrap64 (by omega) (by omega)]
    simp [r_w_markGrantS_35, r_w_markGrantS_36, hlt, app_get hml, app_set hml]
    rw [wrap64 (by omega) (by omega)]
    simp [r_w_markGrantS_37, r_w_markGrantS_38, hlt, app_get hml, app_set hml]
    rw [wrap64 (by omega) (by omega)]
    simp [r_w_markGrantS_39]
    rw [wrap64 (by omega) (by omega)]
    refine hN (i + 1) _ (by omega) (by omega) (Wk.list rfl ?_ ?_)
    · simp; omega
    · simp [marksGrant_succ, mkGrant, app_set hml]
      omega
  · refine hE _ _ ?_
    obtain rfl : i = l.length := by omega
    simp [r_w_markGrantS_41, marksGrant_len]

end Go.Proofs.YtbeoijlggphklaaGreatDoor

/- The compact code of the functions, and that it is theirs: written by a program of this claim. -/
namespace Go.Proofs.YtbeoijlggphklaaGreatDoor
open Go.Abs
set_option maxRecDepth 100000
def r_w_eqLog_0 : List CO := [⟨none, (some 2), (.box 3 (.t 0))⟩, ⟨none, (some 3), (.box 3 (.t 1))⟩, ⟨none, (some 4), (.mv (.k (.v (.bool false))))⟩]
def r_w_eqLog_1 : List CO := [⟨none, (some 5), (.faddr 0 (.t 2))⟩, ⟨none, (some 6), (.ld false 1 (.t 5))⟩, ⟨none, (some 7), (.faddr 0 (.t 3))⟩, ⟨none, (some 8), (.ld false 1 (.t 7))⟩, ⟨none, (some 9), (.bin .neq .none (.t 6) (.t 8))⟩]
def r_w_eqLog_2 : List CO := [⟨none, (some 4), (.mv (.k (.v (.bool false))))⟩]
def r_w_eqLog_3 : List CO := [⟨none, (some 10), (.faddr 1 (.t 2))⟩, ⟨none, (some 11), (.ld false 1 (.t 10))⟩, ⟨none, (some 12), (.faddr 1 (.t 3))⟩, ⟨none, (some 13), (.ld false 1 (.t 12))⟩, ⟨none, (some 14), (.bin .neq .none (.t 11) (.t 13))⟩]
def r_w_eqLog_4 : List CO := [⟨none, (some 4), (.mv (.k (.v (.bool false))))⟩]
def r_w_eqLog_5 : List CO := [⟨none, (some 15), (.faddr 2 (.t 2))⟩, ⟨none, (some 16), (.ld false 1 (.t 15))⟩, ⟨none, (some 17), (.faddr 2 (.t 3))⟩, ⟨none, (some 18), (.ld false 1 (.t 17))⟩, ⟨none, (some 19), (.bin .neq .none (.t 16) (.t 18))⟩]
def r_w_eqLog_6 : List CO := [⟨none, (some 4), (.mv (.k (.v (.bool false))))⟩]
def r_w_eqLog_7 : List CO := [⟨none, (some 4), (.mv (.k (.v (.bool true))))⟩]
/-- loop.example/g00884/laws.eqLog -/
def c_w_eqLog : C := (.seq (.reg r_w_eqLog_0 [2, 3]) (.seq (.seq (.reg r_w_eqLog_1 [2, 3, 9]) (.cond (.t 9) (.seq (.reg r_w_eqLog_2 [4]) .ret) .skip)) (.seq (.seq (.reg r_w_eqLog_3 [2, 3, 14]) (.cond (.t 14) (.seq (.reg r_w_eqLog_4 [4]) .ret) .skip)) (.seq (.seq (.reg r_w_eqLog_5 [19]) (.cond (.t 19) (.seq (.reg r_w_eqLog_6 [4]) .ret) .skip)) (.seq (.reg r_w_eqLog_7 [4]) .ret)))))
def k_w_eqLog : Nat → List Nat
  | 0 => [2, 3]
  | 1 => [2, 3, 9]
  | 2 => [4]
  | 3 => [2, 3, 14]
  | 4 => [4]
  | 5 => [19]
  | 6 => [4]
  | 7 => [4]
  | _ => []
theorem fn_w_eqLog : FnC Tryz.prog n_w_eqLog c_w_eqLog [(.tmp 4)] 20 :=
  ⟨Tryz.f68, _, k_w_eqLog, Tryz.func68, rfl, by kernel_rfl, by kernel_rfl, by kernel_rfl, rfl⟩
end Go.Proofs.YtbeoijlggphklaaGreatDoor

/- What a log is. No program in sight. -/
set_option linter.unusedVariables false
set_option linter.unusedSimpArgs false
namespace Go.Proofs.YtbeoijlggphklaaGreatDoor

structure Log where
  durable : List UInt8
  pending : List UInt8
  count : Int
  deriving DecidableEq
end Go.Proofs.YtbeoijlggphklaaGreatDoor

/- Two equal logs. -/
set_option linter.unusedVariables false
set_option linter.unusedSimpArgs false
namespace Go.Proofs.YtbeoijlggphklaaGreatDoor
open Go.Abs

theorem w_eqLog (p : Log) : PCall Tryz.prog n_w_eqLog [.agg [S p.durable, S p.pending, I p.count], .agg [S p.durable, S p.pending, I p.count]] (B true) := by
  refine PCall.of fn_w_eqLog (by simp) ?_
  simp [c_w_eqLog, r_w_eqLog_0, r_w_eqLog_1, r_w_eqLog_3, r_w_eqLog_5, r_w_eqLog_7]
end Go.Proofs.YtbeoijlggphklaaGreatDoor

/- Consoles: how they lie, the laws' helpers. -/
set_option linter.unusedVariables false
set_option linter.unusedSimpArgs false
namespace Go.Proofs.YtbeoijlggphklaaGreatDoor
open Go.Abs

structure Console where
  grants : List Grant
  log : Log
  deriving DecidableEq
abbrev eConsole (c : Console) : V := .agg [.ro 18 (c.grants.map eGrant), S c.log.durable, S c.log.pending, I c.log.count]
abbrev oConsole (c : Console) : V := .agg [.own 18 (c.grants.map eGrant), S c.log.durable, S c.log.pending, I c.log.count]
theorem w_eqConsole (c : Console) : PCall Tryz.prog n_w_eqConsole [eConsole c, eConsole c] (B true) := by
  refine PCall.of fn_w_eqConsole (by simp) ?_
  simp [c_w_eqConsole, r_w_eqConsole_0, r_w_eqConsole_1]
  refine callQ_v (PCall.arg (w_eqRegister c.grants c.grants) (by simp)) ?_
  simp [r_w_eqConsole_3]
  refine callQ_v (PCall.arg (w_eqLog c.log) (by simp)) ?_
  simp [r_w_eqConsole_5]
theorem w_markRegister (l : Register) (k : Nat) (hl : l.length ≤ 1048576) (hk : k ≤ 1000000) :
    MCall Tryz.prog n_w_markRegister [⟨18, l.map eGrant⟩] [.agg [.sl (mid 0) 0 l.length], I k] (I ((k + 18 * l.length : Nat) : Int)) [some ⟨18, (marksGrant k l.length).map eGrant⟩] := by
  refine MCall.of fn_w_markRegister (by simp) rfl (by simp) ?_
  simp [c_w_markRegister, r_w_markRegister_0, r_w_markRegister_1]
  refine callQ_m [1000000] (MCall.arg (w_markGrantS l k hl hk) (by simp)) (by simp) (by simp) (by simp) (by simp) ?_
  simp [r_w_markRegister_2]
end Go.Proofs.YtbeoijlggphklaaGreatDoor

/- RollPages: program, reference. -/
set_option linter.unusedVariables false
set_option linter.unusedSimpArgs false
namespace Go.Proofs.YtbeoijlggphklaaGreatDoor
open Go.Abs

def firstL (x : Roll) (l : Register) (ps : List (List Nat)) (i : Nat) : List (List (List UInt8)) := (ps.take i).map (linesX x l)
theorem firstL_len (x : Roll) (l : Register) {ps : List (List Nat)} {i : Nat} (h : i ≤ ps.length) : (firstL x l ps i).length = i := by rw [firstL, List.length_map, List.length_take]; omega
theorem firstL_succ (x : Roll) (l : Register) {ps : List (List Nat)} {i : Nat} (h : i < ps.length) : firstL x l ps (i + 1) = firstL x l ps i ++ [linesX x l ps[i]] := by rw [firstL, take_succ' h, List.map_append]; rfl
theorem linesX_many (x : Roll) (l : Register) : ∀ p : List Nat, p.length ≤ (linesX x l p).length
  | [] => by simp
  | q :: p => by
    have ih := linesX_many x l p
    have := entryL_pos x.width (List.getD l q g00)
    simp only [linesX, List.flatMap_cons, List.length_append, List.length_cons] at ih ⊢
    omega
theorem i_RollPages (l : Register) (x : Roll) : PCall Tryz.prog n_i_RollPages [eRegister l, eRoll x] (.tup [.own 1 ((pagesL l x).map ownS), B (textOk l x)]) := by
  refine PCall.of fn_i_RollPages (by simp) ?_
  simp [c_i_RollPages, r_i_RollPages_0, r_i_RollPages_1]
  refine callQ_of (PCall.arg (i_paged l x) (by simp)) rfl (.inl (by simp)) (by simp) ?_
  simp [r_i_RollPages_2]
set_option maxHeartbeats 4000000 in
theorem s_RollPages (l : Register) (x : Roll) : PCall Tryz.prog n_s_RollPages [eRegister l, eRoll x] (.tup [.own 1 ((pagesL l x).map ownS), B (textOk l x)]) := by
  refine PCall.of fn_s_RollPages (by simp) ?_
  simp [c_s_RollPages, r_s_RollPages_0, r_s_RollPages_1, r_s_RollPages_2]
  refine callQ_of (PCall.arg (s_l25Asked l x) (by simp)) rfl (.inl (by simp)) (by simp) ?_
  rw [textOk_ix]
  cases hx : askedIx l x with
  | none => simp [r_s_RollPages_3, r_s_RollPages_4, pagesL_none hx]
  | some ps =>
  obtain ⟨h1, h2, hq, hn, hls, _⟩ := askedIx_iff hx
  obtain ⟨k1, k2, k3⟩ := rollOk_iff h2
  have hl := register_len h1
  rw [pagesL_ix hx]
  simp [r_s_RollPages_3, r_s_RollPages_5]
  refine loopK (fun i : Nat => ⟨[(2, .ref 2 0 0), (3, .ref 3 0 0), (6, .sl 12 0 i), (7, .sl 16 0 ps.length), (9, I i)], [(2, ⟨1, [eRegister l]⟩), (3, ⟨3, [eRoll x]⟩), (12, ⟨1, (firstL x l ps i).map ownS⟩), (16, ⟨1, ps.map roX⟩)], []⟩) (fun i => ps.length - i) (fun i => i ≤ ps.length) 0
    (Wk.trans (Wk.roes 16 3 (by rfl) (by simp)) (Wk.list rfl (by simp) (by simp [firstL]))) (by simp) ?_
  intro i hi K hN hR hE
  have hfl := firstL_len x l hi
  simp [l_s_RollPages_15, r_s_RollPages_6]
  refine ⟨fun hlt => ?_, fun hge => ?_⟩
  · obtain ⟨p, hp⟩ : ∃ p, ps[i] = p := ⟨_, rfl⟩
    have hpm : p ∈ ps := hp ▸ List.getElem_mem _
    have hpl := hls p hpm
    have hpq := hq p hpm
    have hpm2 := linesX_many x l p
    have hfs := firstL_succ x l hlt
    rw [hp] at hfs
    simp [r_s_RollPages_7, r_s_RollPages_8]
    refine loopK (fun k : Nat => ⟨[(2, .ref 2 0 0), (3, .ref 3 0 0), (6, .sl 12 0 i), (7, .sl 16 0 ps.length), (9, I i), (10, .sl 28 0 (linesX x l (p.take k)).length), (11, I k)], [(2, ⟨1, [eRegister l]⟩), (3, ⟨3, [eRoll x]⟩), (12, ⟨1, (firstL x l ps i).map ownS⟩), (16, ⟨1, ps.map roX⟩), (28, ⟨1, (linesX x l (p.take k)).map S⟩)], []⟩) (fun k => p.length - k) (fun k => k ≤ p.length) 0
      (Wk.list rfl (by simp [linesX]) (by simp [linesX])) (by simp) ?_
    intro k hk K2 hN2 hR2 hE2
    simp [l_s_RollPages_12, r_s_RollPages_9, hlt, hp]
    refine ⟨fun hklt => ?_, fun hkge => ?_⟩
    · obtain ⟨q, hqd⟩ : ∃ q, p[k] = q := ⟨_, rfl⟩
      have hql : q < List.length l := hpq q (hqd ▸ List.getElem_mem _)
      have hgo : grantOk l[q] = true := register_grant h1 _ (List.getElem_mem _)
      have hgd : List.getD l q g00 = l[q] := by simp [hql]
      have hlt2 := linesX_take (x := x) (l := l) hklt
      have hle := linesX_le x l p (k + 1)
      have hle0 := linesX_le x l p k
      rw [hqd, hgd] at hlt2
      simp [r_s_RollPages_10, p_s_RollPages_10, hlt, hp, hklt, hqd, hql]
      refine callD_of (PCall.arg (s_l25Lines l[q] x.width hgo k2) (by simp)) rfl (.inl (by simp)) ?_ ?_ ?_
      · simp
      · simp
      rw [hlt2, List.length_append] at hle
      simp
      refine ⟨by unfold lenBound; omega, oEnd_of (by simp [p_s_RollPages_10]) (by simp), ?_⟩
      simp [r_s_RollPages_11]
      rw [wrap64 (by omega) (by omega)]
      refine hN2 (k + 1) _ (by omega) (by omega) (Wk.trans (Wk.ren 53 28 (by decide) (by simp)) (Wk.list rfl ?_ ?_))
      · simp [AS.ren, ren, reN, hlt2]
      · simp [AS.ren, ren, reN, renB, hlt2]
    · obtain rfl : k = p.length := by omega
      refine hE2 _ _ ?_
      simp only [blockK_exit]
      rw [List.take_length]
      have hml : ((firstL x l ps i).map ownS).length = i := by rw [List.length_map, hfl]
      have ht1 : List.take i ((firstL x l ps i).map ownS) = (firstL x l ps i).map ownS := List.take_of_length_le (by omega)
      simp [r_s_RollPages_13, r_s_RollPages_14, hfl, ht1]
      refine ⟨by unfold lenBound; omega, ?_⟩
      rw [wrap64 (by omega) (by omega)]
      refine hN (i + 1) _ (by omega) (by omega) (Wk.trans (Wk.fold1 57 i 28 (n := (linesX x l p).length) (by rfl) (by rfl) (app_get hml) (by simp) (by simp) (by simp)) (Wk.trans (Wk.ren 57 12 (by decide) ?_) (Wk.list rfl ?_ ?_)))
      · simp [app_set hml]
      · simp [AS.ren, ren, reN]
      · simp [AS.ren, ren, reN, renB, app_set hml, hfs]
  · obtain rfl : i = ps.length := by omega
    refine hE _ _ ?_
    simp only [blockK_exit]
    simp [r_s_RollPages_16, firstL, List.take_length]
theorem w_toRoll (x : Roll) : PCall Tryz.prog n_w_toRoll [eRoll x] (eRoll x) := by
  refine PCall.of fn_w_toRoll (by simp) ?_
  simp [c_w_toRoll, r_w_toRoll_0, r_w_toRoll_1, r_w_toRoll_2, r_w_toRoll_3, r_w_toRoll_4, r_w_toRoll_5]
set_option maxHeartbeats 1000000 in
theorem w_FnExactRollPages (l : Register) (x : Roll) : PCall Tryz.prog n_w_FnExactRollPages [eRegister l, eRoll x] (B true) := by
  obtain ⟨hn, hp⟩ := pagesL_ok (l := l) (x := x)
  have htot : total (pagesL l x) ≤ 20 * (pagesL l x).length := by
    have : ∀ L : List (List (List UInt8)), (∀ p ∈ L, p.length ≤ 20) → total L ≤ 20 * L.length := fun L => by
      induction L with
      | nil => simp
      | cons p L ih =>
        intro h
        have h1 := h p (by simp)
        have h2 := ih fun q hq => h q (by simp [hq])
        rw [total_cons, List.length_cons]; omega
    exact this _ fun p h => (hp p h).2.1
  have hS := s_RollPages l x
  have hI := i_RollPages l x
  generalize pagesL l x = N at hn htot hS hI
  generalize textOk l x = b at hS hI
  refine PCall.of fn_w_FnExactRollPages (by simp) ?_
  simp [c_w_FnExactRollPages, r_w_FnExactRollPages_0, r_w_FnExactRollPages_1, r_w_FnExactRollPages_2]
  refine callQ_v (PCall.arg (w_szRegister l 1048576 (by omega) (by omega)) (by simp)) ?_
  simp [r_w_FnExactRollPages_3]
  refine ⟨fun _ => by simp [r_w_FnExactRollPages_4], fun hge => ?_⟩
  have hs := rest_nonneg (left := 1048576) (n := szG l) (by omega)
  have hl : List.length l ≤ 1048576 := by unfold szG at hs; omega
  have hto := w_toRegister l hl
  have htr := w_toRoll x
  simp [r_w_FnExactRollPages_5, p_w_FnExactRollPages_5]
  refine callD_of (PCall.arg hto (by simp)) rfl (.inl (by simp)) ?_ ?_ ?_
  · simp
  · simp
  simp
  refine callD_of (PCall.arg htr (by simp)) rfl (.inl (by simp)) ?_ ?_ ?_
  · simp
  · simp
  simp
  refine callD_of (PCall.arg hS (by simp)) rfl (.inl (by simp)) ?_ ?_ ?_
  · simp
  · simp
  simp
  refine ⟨oEnd_of (by simp [p_w_FnExactRollPages_5]) (by simp), ?_⟩
  simp [r_w_FnExactRollPages_6]
  refine callQ_of (PCall.arg hto (by simp)) rfl (.inl (by simp)) (by simp) ?_
  simp [r_w_FnExactRollPages_7, p_w_FnExactRollPages_7]
  refine callD_of (PCall.arg htr (by simp)) rfl (.inl (by simp)) ?_ ?_ ?_
  · simp
  · simp
  simp
  refine callD_of (PCall.arg hI (by simp)) rfl (.inl (by simp)) ?_ ?_ ?_
  · simp
  · simp
  simp
  refine ⟨oEnd_of (by simp [p_w_FnExactRollPages_7]) (by simp), ?_⟩
  simp [r_w_FnExactRollPages_8]
  refine callQ_v (PCall.arg (w_eqStringSS N N) (by simp)) ?_
  simp [r_w_FnExactRollPages_10, p_w_FnExactRollPages_10]
  refine callD_of (PCall.arg hto (by simp)) rfl (.inl (by simp)) ?_ ?_ ?_
  · simp
  · simp
  simp
  refine callD_v (PCall.arg (w_eqRegister l l) (by simp [List.take_of_length_le])) ?_ ?_ ?_
  · simp
  · simp
  simp
  refine ⟨oEnd_of (by simp [p_w_FnExactRollPages_10]) (by simp), ?_⟩
  simp [r_w_FnExactRollPages_12, r_w_FnExactRollPages_13]
  refine callQ_m [30] (MCall.arg (w_markRegister l 1 (by omega) (by omega)) (by simp)) (by simp) (by simp) (by simp) (by simp) ?_
  have hk1 : ¬ (1 + 18 * (List.length l : Int) < 0) := by omega
  simp [r_w_FnExactRollPages_14, hk1]
  refine callQ_v (PCall.arg (w_eqStringSS N N) (by simp)) ?_
  simp
  simp [r_w_FnExactRollPages_16, r_w_FnExactRollPages_17]
  refine callQ_m [35] (MCall.arg (w_markStringSS N 1 (by omega) (by omega) (by omega)) (by simp)) (by simp) (by simp) (by simp) (by simp) ?_
  have hk2 : ¬ (1 + (total N : Int) < 0) := by omega
  have hml := marksTT_len N 1
  have hheld := w_heldStringSS_marks N 1 (by omega) (by omega) (by omega)
  simp [r_w_FnExactRollPages_18, r_w_FnExactRollPages_19, hk2]
  refine callQ_v (PCall.arg hheld (by simp [hml, List.take_of_length_le])) ?_
  simp [r_w_FnExactRollPages_20, r_w_FnExactRollPages_22, hk2]
  simp [r_w_FnExactRollPages_24, p_w_FnExactRollPages_24]
  refine callD_of (PCall.arg hto (by simp)) rfl (.inl (by simp)) ?_ ?_ ?_
  · simp
  · simp
  simp
  refine callD_of (PCall.arg htr (by simp)) rfl (.inl (by simp)) ?_ ?_ ?_
  · simp
  · simp
  simp
  refine callD_of (PCall.arg hI (by simp)) rfl (.inl (by simp)) ?_ ?_ ?_
  · simp
  · simp
  simp
  refine ⟨oEnd_of (by simp [p_w_FnExactRollPages_24]) (by simp), ?_⟩
  simp [r_w_FnExactRollPages_25]
  refine callQ_v (PCall.arg (w_eqStringSS N N) (by simp)) ?_
  simp
  simp [r_w_FnExactRollPages_27, r_w_FnExactRollPages_28]
  refine callQ_v (PCall.arg hheld (by simp [hml, List.take_of_length_le])) ?_
  simp [r_w_FnExactRollPages_29, r_w_FnExactRollPages_31, r_w_FnExactRollPages_33, hk2]
end Go.Proofs.YtbeoijlggphklaaGreatDoor
