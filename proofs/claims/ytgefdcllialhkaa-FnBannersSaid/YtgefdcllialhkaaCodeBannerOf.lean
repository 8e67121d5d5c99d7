/- The compact code of the functions, and that it is theirs: written by a program of this claim. -/
import Derived.Test.YtgefdcllialhkaaNums
namespace Go.Proofs.Ytgefdcllialhkaa
open Go.Abs
set_option maxRecDepth 100000
def r_i_BannerOf_1_0 : List CO := [⟨none, (some 7), (.mv (.k (.v (.int .i64 (0)))))⟩]
def r_i_BannerOf_1_1 : List CO := [⟨none, (some 8), (.ld false 1 (.t 2))⟩, ⟨none, (some 9), (.mv (.t 1))⟩, ⟨none, (some 10), (.bin .mul .none (.k (.v (.int .i64 (12)))) (.t 9))⟩, ⟨none, (some 11), (.ld false 1 (.t 3))⟩, ⟨none, (some 12), (.bin .quo .none (.t 10) (.t 11))⟩, ⟨none, (some 13), (.iaddr 1 (.t 8) (.t 12))⟩, ⟨none, (some 14), (.ld false 1 (.t 13))⟩, ⟨none, (some 15), (.mv (.t 0))⟩, ⟨none, (some 16), (.bin .mul .none (.k (.v (.int .i64 (20)))) (.t 15))⟩, ⟨none, (some 17), (.ld false 1 (.t 4))⟩, ⟨none, (some 18), (.bin .quo .none (.t 16) (.t 17))⟩, ⟨none, (some 19), (.iaddr 1 (.t 14) (.t 18))⟩, ⟨none, (some 20), (.ld false 1 (.t 19))⟩, ⟨none, (some 7), (.mv (.t 20))⟩]
def p_i_BannerOf_1_1 : List (List Nat) := [[], [], [1], [], [1, 2, 3], [0, 1, 2, 3, 4], [0, 1, 2, 3, 4, 5], [], [7], [], [7, 8, 9], [0, 1, 2, 3, 4, 5, 6, 7, 8, 9, 10], [0, 1, 2, 3, 4, 5, 6, 7, 8, 9, 10, 11], [0, 1, 2, 3, 4, 5, 6, 7, 8, 9, 10, 11, 12]]
/-- loop.example/g00884/impl.BannerOf$1 -/
def c_i_BannerOf_1 : C := (.seq (.reg r_i_BannerOf_1_0 [0, 1, 2, 3, 4]) (.seq (.regD r_i_BannerOf_1_1 p_i_BannerOf_1_1 [7]) .ret))
def k_i_BannerOf_1 : Nat → List Nat
  | 0 => [0, 1, 2, 3, 4]
  | 1 => [7]
  | _ => []
theorem fn_i_BannerOf_1 : FnC Try.prog n_i_BannerOf_1 c_i_BannerOf_1 [(.tmp 7)] 21 :=
  ⟨Try.f103, _, k_i_BannerOf_1, Try.func103, rfl, by kernel_rfl, by kernel_rfl, by kernel_rfl, rfl⟩
def r_i_BannerOf_0 : List CO := [⟨none, (some 3), (.box 1 (.t 0))⟩, ⟨none, (some 4), (.box 1 (.t 1))⟩, ⟨none, (some 5), (.box 1 (.t 2))⟩, ⟨none, (some 6), (.mv (.k (.v (.slice none 0 0))))⟩, ⟨none, (some 7), (.mv (.k (.v (.bool false))))⟩]
def r_i_BannerOf_1 : List CO := [⟨none, (some 8), (.ld false 1 (.t 3))⟩, ⟨none, (some 9), (.call n_i_IsValidPicture [(.t 8)])⟩, ⟨none, (some 10), (.un .not (.t 9))⟩, ⟨none, (some 11), (.mv (.t 10))⟩, ⟨(some (11, false)), (some 12), (.ld false 1 (.t 4))⟩, ⟨(some (11, false)), (some 13), (.call n_i_isSide [(.t 12)])⟩, ⟨(some (11, false)), (some 14), (.un .not (.t 13))⟩, ⟨none, (some 15), (.pick (.t 11) (.k (.v (.bool true))) (.t 14))⟩, ⟨none, (some 16), (.mv (.t 15))⟩, ⟨(some (16, false)), (some 17), (.ld false 1 (.t 5))⟩, ⟨(some (16, false)), (some 18), (.call n_i_isSide [(.t 17)])⟩, ⟨(some (16, false)), (some 19), (.un .not (.t 18))⟩, ⟨none, (some 20), (.pick (.t 16) (.k (.v (.bool true))) (.t 19))⟩]
def r_i_BannerOf_2 : List CO := [⟨none, (some 6), (.mv (.k (.v (.slice none 0 0))))⟩, ⟨none, (some 7), (.mv (.k (.v (.bool false))))⟩]
def r_i_BannerOf_3 : List CO := [⟨none, (some 21), (.ld false 1 (.t 4))⟩, ⟨none, (some 22), (.ld false 1 (.t 5))⟩, ⟨none, (some 23), (.clo n_i_BannerOf_1 [(.t 3), (.t 4), (.t 5)])⟩, ⟨none, (some 24), (.call n_i_table [(.t 21), (.t 22), (.t 23)])⟩, ⟨none, (some 6), (.mv (.t 24))⟩, ⟨none, (some 7), (.mv (.k (.v (.bool true))))⟩]
/-- loop.example/g00884/impl.BannerOf -/
def c_i_BannerOf : C := (.seq (.reg r_i_BannerOf_0 [3, 4, 5]) (.seq (.seq (.reg r_i_BannerOf_1 [3, 4, 5, 20]) (.cond (.t 20) (.seq (.reg r_i_BannerOf_2 [6, 7]) .ret) .skip)) (.seq (.reg r_i_BannerOf_3 [6, 7]) .ret)))
def k_i_BannerOf : Nat → List Nat
  | 0 => [3, 4, 5]
  | 1 => [3, 4, 5, 20]
  | 2 => [6, 7]
  | 3 => [6, 7]
  | _ => []
theorem fn_i_BannerOf : FnC Try.prog n_i_BannerOf c_i_BannerOf [(.tmp 6), (.tmp 7)] 25 :=
  ⟨Try.f47, _, k_i_BannerOf, Try.func47, rfl, by kernel_rfl, by kernel_rfl, by kernel_rfl, rfl⟩
def r_s_BannerOf_0 : List CO := [⟨none, (some 6), (.mv (.k (.v (.slice none 0 0))))⟩, ⟨none, (some 7), (.mv (.k (.v (.bool false))))⟩]
def r_s_BannerOf_1 : List CO := [⟨none, (some 12), (.bslice 1 (.v (.slice none 0 0)) 0 [])⟩, ⟨none, (some 8), (.mv (.t 12))⟩]
def r_s_BannerOf_2 : List CO := [⟨none, (some 13), (.mv (.t 0))⟩, ⟨none, (some 14), (.call n_s_l13Good [(.t 13)])⟩, ⟨none, (some 15), (.un .not (.t 14))⟩, ⟨none, (some 16), (.mv (.t 15))⟩, ⟨(some (16, false)), (some 17), (.mv (.t 1))⟩, ⟨(some (16, false)), (some 18), (.call n_s_l1In [(.t 17), (.k (.v (.int .i64 (1)))), (.k (.v (.int .i64 (60))))])⟩, ⟨(some (16, false)), (some 19), (.un .not (.t 18))⟩, ⟨none, (some 20), (.pick (.t 16) (.k (.v (.bool true))) (.t 19))⟩, ⟨none, (some 21), (.mv (.t 20))⟩, ⟨(some (21, false)), (some 22), (.mv (.t 2))⟩, ⟨(some (21, false)), (some 23), (.call n_s_l1In [(.t 22), (.k (.v (.int .i64 (1)))), (.k (.v (.int .i64 (60))))])⟩, ⟨(some (21, false)), (some 24), (.un .not (.t 23))⟩, ⟨none, (some 25), (.pick (.t 21) (.k (.v (.bool true))) (.t 24))⟩]
def r_s_BannerOf_3 : List CO := [⟨none, (some 26), (.mv (.t 8))⟩, ⟨none, (some 6), (.mv (.t 26))⟩, ⟨none, (some 7), (.mv (.k (.v (.bool false))))⟩]
def r_s_BannerOf_4 : List CO := [⟨none, (some 9), (.mv (.k (.v (.int .i64 (0)))))⟩]
def r_s_BannerOf_5 : List CO := [⟨none, (some 27), (.mv (.t 9))⟩, ⟨none, (some 28), (.mv (.t 1))⟩, ⟨none, (some 29), (.bin .lss .none (.t 27) (.t 28))⟩]
def r_s_BannerOf_6 : List CO := [⟨none, (some 32), (.bslice 1 (.v (.int .i64 (0))) 0 [])⟩, ⟨none, (some 10), (.mv (.t 32))⟩]
def r_s_BannerOf_7 : List CO := [⟨none, (some 11), (.mv (.k (.v (.int .i64 (0)))))⟩]
def r_s_BannerOf_8 : List CO := [⟨none, (some 33), (.mv (.t 11))⟩, ⟨none, (some 34), (.mv (.t 2))⟩, ⟨none, (some 35), (.bin .lss .none (.t 33) (.t 34))⟩]
def r_s_BannerOf_9 : List CO := [⟨none, (some 38), (.mv (.t 10))⟩, ⟨none, (some 39), (.mv (.t 0))⟩, ⟨none, (some 40), (.mv (.t 9))⟩, ⟨none, (some 41), (.bin .mul .none (.k (.v (.int .i64 (12)))) (.t 40))⟩, ⟨none, (some 42), (.mv (.t 1))⟩, ⟨none, (some 43), (.bin .quo .none (.t 41) (.t 42))⟩, ⟨none, (some 44), (.iaddr 1 (.t 39) (.t 43))⟩, ⟨none, (some 45), (.ld false 1 (.t 44))⟩, ⟨none, (some 46), (.mv (.t 11))⟩, ⟨none, (some 47), (.bin .mul .none (.k (.v (.int .i64 (20)))) (.t 46))⟩, ⟨none, (some 48), (.mv (.t 2))⟩, ⟨none, (some 49), (.bin .quo .none (.t 47) (.t 48))⟩, ⟨none, (some 50), (.iaddr 1 (.t 45) (.t 49))⟩, ⟨none, (some 51), (.ld false 1 (.t 50))⟩, ⟨none, (some 52), (.bslice 1 (.v (.int .i64 (0))) 1 [(0, (.t 51))])⟩, ⟨none, (some 53), (.app 1 8 (.t 38) (.t 52))⟩, ⟨none, (some 10), (.mv (.t 53))⟩]
def p_s_BannerOf_9 : List (List Nat) := [[], [], [], [2], [], [2, 3, 4], [1, 2, 3, 4, 5], [1, 2, 3, 4, 5, 6], [], [8], [], [8, 9, 10], [1, 2, 3, 4, 5, 6, 7, 8, 9, 10, 11], [1, 2, 3, 4, 5, 6, 7, 8, 9, 10, 11, 12], [1, 2, 3, 4, 5, 6, 7, 8, 9, 10, 11, 12, 13], [0, 1, 2, 3, 4, 5, 6, 7, 8, 9, 10, 11, 12, 13, 14], [0, 1, 2, 3, 4, 5, 6, 7, 8, 9, 10, 11, 12, 13, 14, 15]]
def r_s_BannerOf_10 : List CO := [⟨none, (some 36), (.mv (.t 11))⟩, ⟨none, (some 37), (.bin .add .none (.t 36) (.k (.v (.int .i64 (1)))))⟩, ⟨none, (some 11), (.mv (.t 37))⟩]
def l_s_BannerOf_11 : C := (.seq (.seq (.reg r_s_BannerOf_8 [0, 1, 2, 8, 9, 10, 11, 35]) (.cond (.t 35) .skip (.exit 2))) (.seq (.block 3 (.regD r_s_BannerOf_9 p_s_BannerOf_9 [0, 1, 2, 8, 9, 10, 11])) (.reg r_s_BannerOf_10 [0, 1, 2, 8, 9, 10, 11])))
def r_s_BannerOf_12 : List CO := [⟨none, (some 54), (.mv (.t 8))⟩, ⟨none, (some 55), (.mv (.t 10))⟩, ⟨none, (some 56), (.bslice 1 (.v (.slice none 0 0)) 1 [(0, (.t 55))])⟩, ⟨none, (some 57), (.app 1 24 (.t 54) (.t 56))⟩, ⟨none, (some 8), (.mv (.t 57))⟩]
def r_s_BannerOf_13 : List CO := [⟨none, (some 30), (.mv (.t 9))⟩, ⟨none, (some 31), (.bin .add .none (.t 30) (.k (.v (.int .i64 (1)))))⟩, ⟨none, (some 9), (.mv (.t 31))⟩]
def l_s_BannerOf_14 : C := (.seq (.seq (.reg r_s_BannerOf_5 [0, 1, 2, 8, 9, 29]) (.cond (.t 29) .skip (.exit 0))) (.seq (.block 1 (.seq (.reg r_s_BannerOf_6 [0, 1, 2, 8, 9, 10]) (.seq (.seq (.reg r_s_BannerOf_7 [0, 1, 2, 8, 9, 10, 11]) (.block 2 (.loop l_s_BannerOf_11))) (.reg r_s_BannerOf_12 [0, 1, 2, 8, 9])))) (.reg r_s_BannerOf_13 [0, 1, 2, 8, 9])))
def r_s_BannerOf_15 : List CO := [⟨none, (some 58), (.mv (.t 8))⟩, ⟨none, (some 6), (.mv (.t 58))⟩, ⟨none, (some 7), (.mv (.k (.v (.bool true))))⟩]
/-- loop.example/g00884/spec.BannerOf -/
def c_s_BannerOf : C := (.seq (.reg r_s_BannerOf_0 [0, 1, 2]) (.seq (.reg r_s_BannerOf_1 [0, 1, 2, 8]) (.seq (.seq (.reg r_s_BannerOf_2 [0, 1, 2, 8, 25]) (.cond (.t 25) (.seq (.reg r_s_BannerOf_3 [6, 7]) .ret) .skip)) (.seq (.seq (.reg r_s_BannerOf_4 [0, 1, 2, 8, 9]) (.block 0 (.loop l_s_BannerOf_14))) (.seq (.reg r_s_BannerOf_15 [6, 7]) .ret)))))
def k_s_BannerOf : Nat → List Nat
  | 0 => [0, 1, 2]
  | 1 => [0, 1, 2, 8]
  | 2 => [0, 1, 2, 8, 25]
  | 3 => [6, 7]
  | 4 => [0, 1, 2, 8, 9]
  | 5 => [0, 1, 2, 8, 9, 29]
  | 7 => [0, 1, 2, 8, 9, 10]
  | 8 => [0, 1, 2, 8, 9, 10, 11]
  | 9 => [0, 1, 2, 8, 9, 10, 11, 35]
  | 11 => [0, 1, 2, 8, 9, 10, 11]
  | 10 => [0, 1, 2, 8, 9, 10, 11]
  | 12 => [0, 1, 2, 8, 9]
  | 6 => [0, 1, 2, 8, 9]
  | 13 => [6, 7]
  | _ => []
theorem fn_s_BannerOf : FnC Try.prog n_s_BannerOf c_s_BannerOf [(.tmp 6), (.tmp 7)] 59 :=
  ⟨Try.f48, _, k_s_BannerOf, Try.func48, rfl, by kernel_rfl, by kernel_rfl, by kernel_rfl, rfl⟩
end Go.Proofs.Ytgefdcllialhkaa
