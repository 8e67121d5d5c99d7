/- The compact code of the functions, and that it is theirs: written by a program of this claim. -/
import Derived.Test.YtgefdcllialhkaaNums
namespace Go.Proofs.Ytgefdcllialhkaa
open Go.Abs
set_option maxRecDepth 100000
def r_i_counted_0 : List CO := [⟨none, (some 4), (.mv (.k (.v (.slice none 0 0))))⟩]
def r_i_counted_1 : List CO := [⟨none, (some 10), (.mv (.t 1))⟩, ⟨none, (some 11), (.mks 1 (.v (.int .i64 (0))) 8 (.t 10) (.t 10))⟩, ⟨none, (some 5), (.mv (.t 11))⟩]
def r_i_counted_2 : List CO := [⟨none, (some 12), (.mv (.t 0))⟩, ⟨none, (some 13), (.len false (.t 12))⟩, ⟨none, (some 14), (.mv (.k (.v (.int .i64 (0)))))⟩]
def r_i_counted_3 : List CO := [⟨none, (some 15), (.bin .lss .none (.t 14) (.t 13))⟩]
def r_i_counted_4 : List CO := [⟨none, (some 16), (.iaddr 1 (.t 12) (.t 14))⟩, ⟨none, (some 17), (.ld false 1 (.t 16))⟩, ⟨none, (some 7), (.mv (.t 17))⟩]
def r_i_counted_5 : List CO := [⟨none, (some 18), (.mv (.t 7))⟩, ⟨none, (some 19), (.len false (.t 18))⟩, ⟨none, (some 20), (.mv (.k (.v (.int .i64 (0)))))⟩]
def r_i_counted_6 : List CO := [⟨none, (some 21), (.bin .lss .none (.t 20) (.t 19))⟩]
def r_i_counted_7 : List CO := [⟨none, (some 22), (.iaddr 1 (.t 18) (.t 20))⟩, ⟨none, (some 23), (.ld false 1 (.t 22))⟩, ⟨none, (some 9), (.mv (.t 23))⟩]
def r_i_counted_8 : List CO := [⟨none, (some 24), (.mv (.t 9))⟩, ⟨none, (some 25), (.bin .gtr .none (.t 24) (.k (.v (.int .i64 (0)))))⟩]
def r_i_counted_9 : List CO := [⟨none, (some 26), (.mv (.t 5))⟩, ⟨none, (some 27), (.mv (.t 9))⟩, ⟨none, (some 28), (.bin .sub .none (.t 27) (.k (.v (.int .i64 (1)))))⟩, ⟨none, (some 29), (.iaddr 1 (.t 26) (.t 28))⟩, ⟨none, (some 30), (.ld false 1 (.t 29))⟩, ⟨none, (some 31), (.bin .add .none (.t 30) (.k (.v (.int .i64 (1)))))⟩, ⟨none, (some 32), (.iaddr 1 (.t 26) (.t 28))⟩, ⟨none, none, (.st 1 (.t 32) (.t 31))⟩]
def r_i_counted_10 : List CO := [⟨none, (some 33), (.bin .add .none (.t 20) (.k (.v (.int .i64 (1)))))⟩, ⟨none, (some 20), (.mv (.t 33))⟩]
def l_i_counted_11 : C := (.seq (.reg r_i_counted_6 [5, 12, 13, 14, 18, 19, 20, 21]) (.seq (.cond (.t 21) .skip (.exit 2)) (.seq (.block 3 (.seq (.reg r_i_counted_7 [5, 9, 12, 13, 14, 18, 19, 20]) (.seq (.reg r_i_counted_8 [5, 9, 12, 13, 14, 18, 19, 20, 25]) (.cond (.t 25) (.reg r_i_counted_9 [5, 12, 13, 14, 18, 19, 20]) .skip)))) (.reg r_i_counted_10 [5, 12, 13, 14, 18, 19, 20]))))
def r_i_counted_12 : List CO := [⟨none, (some 34), (.bin .add .none (.t 14) (.k (.v (.int .i64 (1)))))⟩, ⟨none, (some 14), (.mv (.t 34))⟩]
def l_i_counted_13 : C := (.seq (.reg r_i_counted_3 [5, 12, 13, 14, 15]) (.seq (.cond (.t 15) .skip (.exit 0)) (.seq (.block 1 (.seq (.reg r_i_counted_4 [5, 7, 12, 13, 14]) (.seq (.reg r_i_counted_5 [5, 12, 13, 14, 18, 19, 20]) (.block 2 (.loop l_i_counted_11))))) (.reg r_i_counted_12 [5, 12, 13, 14]))))
def r_i_counted_14 : List CO := [⟨none, (some 35), (.mv (.t 5))⟩, ⟨none, (some 4), (.mv (.t 35))⟩]
/-- loop.example/g00884/impl.counted -/
def c_i_counted : C := (.seq (.reg r_i_counted_0 [0, 1]) (.seq (.reg r_i_counted_1 [0, 5]) (.seq (.seq (.reg r_i_counted_2 [5, 12, 13, 14]) (.block 0 (.loop l_i_counted_13))) (.seq (.reg r_i_counted_14 [4]) .ret))))
def k_i_counted : Nat → List Nat
  | 0 => [0, 1]
  | 1 => [0, 5]
  | 2 => [5, 12, 13, 14]
  | 3 => [5, 12, 13, 14, 15]
  | 4 => [5, 7, 12, 13, 14]
  | 5 => [5, 12, 13, 14, 18, 19, 20]
  | 6 => [5, 12, 13, 14, 18, 19, 20, 21]
  | 7 => [5, 9, 12, 13, 14, 18, 19, 20]
  | 8 => [5, 9, 12, 13, 14, 18, 19, 20, 25]
  | 9 => [5, 12, 13, 14, 18, 19, 20]
  | 10 => [5, 12, 13, 14, 18, 19, 20]
  | 11 => [5, 12, 13, 14]
  | 12 => [4]
  | _ => []
theorem fn_i_counted : FnC Try.prog n_i_counted c_i_counted [(.tmp 4)] 36 :=
  ⟨Try.f109, _, k_i_counted, Try.func109, rfl, by kernel_rfl, by kernel_rfl, by kernel_rfl, rfl⟩
def r_i_TinctureAreas_0 : List CO := [⟨none, (some 2), (.mv (.k (.v (.slice none 0 0))))⟩, ⟨none, (some 3), (.mv (.k (.v (.bool false))))⟩]
def r_i_TinctureAreas_1 : List CO := [⟨none, (some 4), (.mv (.t 0))⟩, ⟨none, (some 5), (.call n_i_IsValidBanner [(.t 4)])⟩, ⟨none, (some 6), (.un .not (.t 5))⟩]
def r_i_TinctureAreas_2 : List CO := [⟨none, (some 2), (.mv (.k (.v (.slice none 0 0))))⟩, ⟨none, (some 3), (.mv (.k (.v (.bool false))))⟩]
def r_i_TinctureAreas_3 : List CO := [⟨none, (some 7), (.mv (.t 0))⟩, ⟨none, (some 8), (.call n_i_counted [(.t 7), (.k (.v (.int .i64 (9))))])⟩, ⟨none, (some 2), (.mv (.t 8))⟩, ⟨none, (some 3), (.mv (.k (.v (.bool true))))⟩]
/-- loop.example/g00884/impl.TinctureAreas -/
def c_i_TinctureAreas : C := (.seq (.reg r_i_TinctureAreas_0 [0]) (.seq (.seq (.reg r_i_TinctureAreas_1 [0, 6]) (.cond (.t 6) (.seq (.reg r_i_TinctureAreas_2 [2, 3]) .ret) .skip)) (.seq (.reg r_i_TinctureAreas_3 [2, 3]) .ret)))
def k_i_TinctureAreas : Nat → List Nat
  | 0 => [0]
  | 1 => [0, 6]
  | 2 => [2, 3]
  | 3 => [2, 3]
  | _ => []
theorem fn_i_TinctureAreas : FnC Try.prog n_i_TinctureAreas c_i_TinctureAreas [(.tmp 2), (.tmp 3)] 9 :=
  ⟨Try.f54, _, k_i_TinctureAreas, Try.func54, rfl, by kernel_rfl, by kernel_rfl, by kernel_rfl, rfl⟩
end Go.Proofs.Ytgefdcllialhkaa
