/- The compact code of the functions, and that it is theirs: written by a program of this claim. -/
import Derived.Test.YtgefdcllialhkaaNums
namespace Go.Proofs.Ytgefdcllialhkaa
open Go.Abs
set_option maxRecDepth 100000
def r_i_MirrorBanner_1_0 : List CO := [⟨none, (some 6), (.mv (.k (.v (.int .i64 (0)))))⟩]
def r_i_MirrorBanner_1_1 : List CO := [⟨none, (some 7), (.ld false 1 (.t 2))⟩, ⟨none, (some 8), (.mv (.t 1))⟩, ⟨none, (some 9), (.iaddr 1 (.t 7) (.t 8))⟩, ⟨none, (some 10), (.ld false 1 (.t 9))⟩, ⟨none, (some 11), (.ld false 1 (.t 3))⟩, ⟨none, (some 12), (.bin .sub .none (.t 11) (.k (.v (.int .i64 (1)))))⟩, ⟨none, (some 13), (.mv (.t 0))⟩, ⟨none, (some 14), (.bin .sub .none (.t 12) (.t 13))⟩, ⟨none, (some 15), (.iaddr 1 (.t 10) (.t 14))⟩, ⟨none, (some 16), (.ld false 1 (.t 15))⟩, ⟨none, (some 6), (.mv (.t 16))⟩]
def p_i_MirrorBanner_1_1 : List (List Nat) := [[], [], [0, 1], [0, 1, 2], [], [4], [], [4, 5, 6], [0, 1, 2, 3, 4, 5, 6, 7], [0, 1, 2, 3, 4, 5, 6, 7, 8], [0, 1, 2, 3, 4, 5, 6, 7, 8, 9]]
/-- loop.example/g00884/impl.MirrorBanner$1 -/
def c_i_MirrorBanner_1 : C := (.seq (.reg r_i_MirrorBanner_1_0 [0, 1, 2, 3]) (.seq (.regD r_i_MirrorBanner_1_1 p_i_MirrorBanner_1_1 [6]) .ret))
def k_i_MirrorBanner_1 : Nat → List Nat
  | 0 => [0, 1, 2, 3]
  | 1 => [6]
  | _ => []
theorem fn_i_MirrorBanner_1 : FnC Try.prog n_i_MirrorBanner_1 c_i_MirrorBanner_1 [(.tmp 6)] 17 :=
  ⟨Try.f108, _, k_i_MirrorBanner_1, Try.func108, rfl, by kernel_rfl, by kernel_rfl, by kernel_rfl, rfl⟩
def r_i_MirrorBanner_0 : List CO := [⟨none, (some 1), (.box 1 (.t 0))⟩, ⟨none, (some 2), (.mv (.k (.v (.slice none 0 0))))⟩, ⟨none, (some 3), (.mv (.k (.v (.bool false))))⟩]
def r_i_MirrorBanner_1 : List CO := [⟨none, (some 5), (.ld false 1 (.t 1))⟩, ⟨none, (some 6), (.call n_i_IsValidBanner [(.t 5)])⟩, ⟨none, (some 7), (.un .not (.t 6))⟩]
def r_i_MirrorBanner_2 : List CO := [⟨none, (some 2), (.mv (.k (.v (.slice none 0 0))))⟩, ⟨none, (some 3), (.mv (.k (.v (.bool false))))⟩]
def r_i_MirrorBanner_3 : List CO := [⟨none, (some 8), (.ld false 1 (.t 1))⟩, ⟨none, (some 9), (.iaddr 1 (.t 8) (.k (.v (.int .i64 (0)))))⟩, ⟨none, (some 10), (.ld false 1 (.t 9))⟩, ⟨none, (some 11), (.len false (.t 10))⟩, ⟨none, (some 4), (.box 1 (.k (.v (.int .i64 (0)))))⟩, ⟨none, none, (.st 1 (.t 4) (.t 11))⟩]
def r_i_MirrorBanner_4 : List CO := [⟨none, (some 12), (.ld false 1 (.t 1))⟩, ⟨none, (some 13), (.len false (.t 12))⟩, ⟨none, (some 14), (.ld false 1 (.t 4))⟩, ⟨none, (some 15), (.clo n_i_MirrorBanner_1 [(.t 1), (.t 4)])⟩, ⟨none, (some 16), (.call n_i_table [(.t 13), (.t 14), (.t 15)])⟩, ⟨none, (some 2), (.mv (.t 16))⟩, ⟨none, (some 3), (.mv (.k (.v (.bool true))))⟩]
/-- loop.example/g00884/impl.MirrorBanner -/
def c_i_MirrorBanner : C := (.seq (.reg r_i_MirrorBanner_0 [1]) (.seq (.seq (.reg r_i_MirrorBanner_1 [1, 7]) (.cond (.t 7) (.seq (.reg r_i_MirrorBanner_2 [2, 3]) .ret) .skip)) (.seq (.reg r_i_MirrorBanner_3 [1, 4]) (.seq (.reg r_i_MirrorBanner_4 [2, 3]) .ret))))
def k_i_MirrorBanner : Nat → List Nat
  | 0 => [1]
  | 1 => [1, 7]
  | 2 => [2, 3]
  | 3 => [1, 4]
  | 4 => [2, 3]
  | _ => []
theorem fn_i_MirrorBanner : FnC Try.prog n_i_MirrorBanner c_i_MirrorBanner [(.tmp 2), (.tmp 3)] 17 :=
  ⟨Try.f52, _, k_i_MirrorBanner, Try.func52, rfl, by kernel_rfl, by kernel_rfl, by kernel_rfl, rfl⟩
def r_s_MirrorBanner_0 : List CO := [⟨none, (some 2), (.mv (.k (.v (.slice none 0 0))))⟩, ⟨none, (some 3), (.mv (.k (.v (.bool false))))⟩]
def r_s_MirrorBanner_1 : List CO := [⟨none, (some 8), (.bslice 1 (.v (.slice none 0 0)) 0 [])⟩, ⟨none, (some 4), (.mv (.t 8))⟩]
def r_s_MirrorBanner_2 : List CO := [⟨none, (some 9), (.mv (.t 0))⟩, ⟨none, (some 10), (.call n_s_l24Good [(.t 9)])⟩, ⟨none, (some 11), (.un .not (.t 10))⟩]
def r_s_MirrorBanner_3 : List CO := [⟨none, (some 12), (.mv (.t 4))⟩, ⟨none, (some 2), (.mv (.t 12))⟩, ⟨none, (some 3), (.mv (.k (.v (.bool false))))⟩]
def r_s_MirrorBanner_4 : List CO := [⟨none, (some 5), (.mv (.k (.v (.int .i64 (0)))))⟩]
def r_s_MirrorBanner_5 : List CO := [⟨none, (some 13), (.mv (.t 5))⟩, ⟨none, (some 14), (.mv (.t 0))⟩, ⟨none, (some 15), (.len false (.t 14))⟩, ⟨none, (some 16), (.bin .lss .none (.t 13) (.t 15))⟩]
def r_s_MirrorBanner_6 : List CO := [⟨none, (some 19), (.bslice 1 (.v (.int .i64 (0))) 0 [])⟩, ⟨none, (some 6), (.mv (.t 19))⟩]
def r_s_MirrorBanner_7 : List CO := [⟨none, (some 20), (.mv (.t 0))⟩, ⟨none, (some 21), (.mv (.t 5))⟩, ⟨none, (some 22), (.iaddr 1 (.t 20) (.t 21))⟩, ⟨none, (some 23), (.ld false 1 (.t 22))⟩, ⟨none, (some 24), (.len false (.t 23))⟩, ⟨none, (some 25), (.bin .sub .none (.t 24) (.k (.v (.int .i64 (1)))))⟩, ⟨none, (some 7), (.mv (.t 25))⟩]
def r_s_MirrorBanner_8 : List CO := [⟨none, (some 26), (.mv (.t 7))⟩, ⟨none, (some 27), (.bin .geq .none (.t 26) (.k (.v (.int .i64 (0)))))⟩]
def r_s_MirrorBanner_9 : List CO := [⟨none, (some 30), (.mv (.t 6))⟩, ⟨none, (some 31), (.mv (.t 0))⟩, ⟨none, (some 32), (.mv (.t 5))⟩, ⟨none, (some 33), (.iaddr 1 (.t 31) (.t 32))⟩, ⟨none, (some 34), (.ld false 1 (.t 33))⟩, ⟨none, (some 35), (.mv (.t 7))⟩, ⟨none, (some 36), (.iaddr 1 (.t 34) (.t 35))⟩, ⟨none, (some 37), (.ld false 1 (.t 36))⟩, ⟨none, (some 38), (.bslice 1 (.v (.int .i64 (0))) 1 [(0, (.t 37))])⟩, ⟨none, (some 39), (.app 1 8 (.t 30) (.t 38))⟩, ⟨none, (some 6), (.mv (.t 39))⟩]
def r_s_MirrorBanner_10 : List CO := [⟨none, (some 28), (.mv (.t 7))⟩, ⟨none, (some 29), (.bin .sub .none (.t 28) (.k (.v (.int .i64 (1)))))⟩, ⟨none, (some 7), (.mv (.t 29))⟩]
def l_s_MirrorBanner_11 : C := (.seq (.seq (.reg r_s_MirrorBanner_8 [0, 4, 5, 6, 7, 27]) (.cond (.t 27) .skip (.exit 2))) (.seq (.block 3 (.reg r_s_MirrorBanner_9 [0, 4, 5, 6, 7])) (.reg r_s_MirrorBanner_10 [0, 4, 5, 6, 7])))
def r_s_MirrorBanner_12 : List CO := [⟨none, (some 40), (.mv (.t 4))⟩, ⟨none, (some 41), (.mv (.t 6))⟩, ⟨none, (some 42), (.bslice 1 (.v (.slice none 0 0)) 1 [(0, (.t 41))])⟩, ⟨none, (some 43), (.app 1 24 (.t 40) (.t 42))⟩, ⟨none, (some 4), (.mv (.t 43))⟩]
def r_s_MirrorBanner_13 : List CO := [⟨none, (some 17), (.mv (.t 5))⟩, ⟨none, (some 18), (.bin .add .none (.t 17) (.k (.v (.int .i64 (1)))))⟩, ⟨none, (some 5), (.mv (.t 18))⟩]
def l_s_MirrorBanner_14 : C := (.seq (.seq (.reg r_s_MirrorBanner_5 [0, 4, 5, 16]) (.cond (.t 16) .skip (.exit 0))) (.seq (.block 1 (.seq (.reg r_s_MirrorBanner_6 [0, 4, 5, 6]) (.seq (.seq (.reg r_s_MirrorBanner_7 [0, 4, 5, 6, 7]) (.block 2 (.loop l_s_MirrorBanner_11))) (.reg r_s_MirrorBanner_12 [0, 4, 5])))) (.reg r_s_MirrorBanner_13 [0, 4, 5])))
def r_s_MirrorBanner_15 : List CO := [⟨none, (some 44), (.mv (.t 4))⟩, ⟨none, (some 2), (.mv (.t 44))⟩, ⟨none, (some 3), (.mv (.k (.v (.bool true))))⟩]
/-- loop.example/g00884/spec.MirrorBanner -/
def c_s_MirrorBanner : C := (.seq (.reg r_s_MirrorBanner_0 [0]) (.seq (.reg r_s_MirrorBanner_1 [0, 4]) (.seq (.seq (.reg r_s_MirrorBanner_2 [0, 4, 11]) (.cond (.t 11) (.seq (.reg r_s_MirrorBanner_3 [2, 3]) .ret) .skip)) (.seq (.seq (.reg r_s_MirrorBanner_4 [0, 4, 5]) (.block 0 (.loop l_s_MirrorBanner_14))) (.seq (.reg r_s_MirrorBanner_15 [2, 3]) .ret)))))
def k_s_MirrorBanner : Nat → List Nat
  | 0 => [0]
  | 1 => [0, 4]
  | 2 => [0, 4, 11]
  | 3 => [2, 3]
  | 4 => [0, 4, 5]
  | 5 => [0, 4, 5, 16]
  | 7 => [0, 4, 5, 6]
  | 8 => [0, 4, 5, 6, 7]
  | 9 => [0, 4, 5, 6, 7, 27]
  | 11 => [0, 4, 5, 6, 7]
  | 10 => [0, 4, 5, 6, 7]
  | 12 => [0, 4, 5]
  | 6 => [0, 4, 5]
  | 13 => [2, 3]
  | _ => []
theorem fn_s_MirrorBanner : FnC Try.prog n_s_MirrorBanner c_s_MirrorBanner [(.tmp 2), (.tmp 3)] 45 :=
  ⟨Try.f53, _, k_s_MirrorBanner, Try.func53, rfl, by kernel_rfl, by kernel_rfl, by kernel_rfl, rfl⟩
end Go.Proofs.Ytgefdcllialhkaa
