/- The compact code of the functions, and that it is theirs: written by a program of this claim. -/
import Derived.Test.YtgefdcllialhkaaNums
namespace Go.Proofs.Ytgefdcllialhkaa
open Go.Abs
set_option maxRecDepth 100000
def r_s_BannerSizes_0 : List CO := [⟨none, (some 1), (.box 2 (.t 0))⟩, ⟨none, (some 2), (.mv (.k (.v (.slice none 0 0))))⟩, ⟨none, (some 3), (.mv (.k (.v (.bool false))))⟩]
def r_s_BannerSizes_1 : List CO := [⟨none, (some 6), (.bslice 1 (.v (.slice none 0 0)) 0 [])⟩, ⟨none, (some 4), (.mv (.t 6))⟩]
def r_s_BannerSizes_2 : List CO := [⟨none, (some 7), (.ld true 2 (.t 1))⟩, ⟨none, (some 8), (.call n_s_l24Proportion [(.t 7)])⟩, ⟨none, (some 9), (.un .not (.t 8))⟩]
def r_s_BannerSizes_3 : List CO := [⟨none, (some 10), (.mv (.t 4))⟩, ⟨none, (some 2), (.mv (.t 10))⟩, ⟨none, (some 3), (.mv (.k (.v (.bool false))))⟩]
def r_s_BannerSizes_4 : List CO := [⟨none, (some 5), (.mv (.k (.v (.int .i64 (1)))))⟩]
def r_s_BannerSizes_5 : List CO := [⟨none, (some 11), (.mv (.t 5))⟩, ⟨none, (some 12), (.faddr 0 (.t 1))⟩, ⟨none, (some 13), (.ld false 1 (.t 12))⟩, ⟨none, (some 14), (.bin .mul .none (.t 11) (.t 13))⟩, ⟨none, (some 15), (.bin .leq .none (.t 14) (.k (.v (.int .i64 (60)))))⟩, ⟨none, (some 16), (.mv (.t 15))⟩, ⟨(some (16, true)), (some 17), (.mv (.t 5))⟩, ⟨(some (16, true)), (some 18), (.faddr 1 (.t 1))⟩, ⟨(some (16, true)), (some 19), (.ld false 1 (.t 18))⟩, ⟨(some (16, true)), (some 20), (.bin .mul .none (.t 17) (.t 19))⟩, ⟨(some (16, true)), (some 21), (.bin .leq .none (.t 20) (.k (.v (.int .i64 (60)))))⟩, ⟨none, (some 22), (.pick (.t 16) (.t 21) (.k (.v (.bool false))))⟩]
def r_s_BannerSizes_6 : List CO := [⟨none, (some 25), (.mv (.t 4))⟩, ⟨none, (some 26), (.mv (.t 5))⟩, ⟨none, (some 27), (.faddr 0 (.t 1))⟩, ⟨none, (some 28), (.ld false 1 (.t 27))⟩, ⟨none, (some 29), (.bin .mul .none (.t 26) (.t 28))⟩, ⟨none, (some 30), (.mv (.t 5))⟩, ⟨none, (some 31), (.faddr 1 (.t 1))⟩, ⟨none, (some 32), (.ld false 1 (.t 31))⟩, ⟨none, (some 33), (.bin .mul .none (.t 30) (.t 32))⟩, ⟨none, (some 34), (.bslice 1 (.v (.int .i64 (0))) 2 [(0, (.t 29)), (1, (.t 33))])⟩, ⟨none, (some 35), (.bslice 1 (.v (.slice none 0 0)) 1 [(0, (.t 34))])⟩, ⟨none, (some 36), (.app 1 24 (.t 25) (.t 35))⟩, ⟨none, (some 4), (.mv (.t 36))⟩]
def r_s_BannerSizes_7 : List CO := [⟨none, (some 23), (.mv (.t 5))⟩, ⟨none, (some 24), (.bin .add .none (.t 23) (.k (.v (.int .i64 (1)))))⟩, ⟨none, (some 5), (.mv (.t 24))⟩]
def l_s_BannerSizes_8 : C := (.seq (.seq (.reg r_s_BannerSizes_5 [1, 4, 5, 22]) (.cond (.t 22) .skip (.exit 0))) (.seq (.block 1 (.reg r_s_BannerSizes_6 [1, 4, 5])) (.reg r_s_BannerSizes_7 [1, 4, 5])))
def r_s_BannerSizes_9 : List CO := [⟨none, (some 37), (.mv (.t 4))⟩, ⟨none, (some 2), (.mv (.t 37))⟩, ⟨none, (some 3), (.mv (.k (.v (.bool true))))⟩]
/-- loop.example/g00884/spec.BannerSizes -/
def c_s_BannerSizes : C := (.seq (.reg r_s_BannerSizes_0 [1]) (.seq (.reg r_s_BannerSizes_1 [1, 4]) (.seq (.seq (.reg r_s_BannerSizes_2 [1, 4, 9]) (.cond (.t 9) (.seq (.reg r_s_BannerSizes_3 [2, 3]) .ret) .skip)) (.seq (.seq (.reg r_s_BannerSizes_4 [1, 4, 5]) (.block 0 (.loop l_s_BannerSizes_8))) (.seq (.reg r_s_BannerSizes_9 [2, 3]) .ret)))))
def k_s_BannerSizes : Nat → List Nat
  | 0 => [1]
  | 1 => [1, 4]
  | 2 => [1, 4, 9]
  | 3 => [2, 3]
  | 4 => [1, 4, 5]
  | 5 => [1, 4, 5, 22]
  | 7 => [1, 4, 5]
  | 6 => [1, 4, 5]
  | 8 => [2, 3]
  | _ => []
theorem fn_s_BannerSizes : FnC Try.prog n_s_BannerSizes c_s_BannerSizes [(.tmp 2), (.tmp 3)] 38 :=
  ⟨Try.f17, _, k_s_BannerSizes, Try.func17, rfl, by kernel_rfl, by kernel_rfl, by kernel_rfl, rfl⟩
def r_i_BannerSizes_0 : List CO := [⟨none, (some 1), (.box 2 (.t 0))⟩, ⟨none, (some 2), (.mv (.k (.v (.slice none 0 0))))⟩, ⟨none, (some 3), (.mv (.k (.v (.bool false))))⟩]
def r_i_BannerSizes_1 : List CO := [⟨none, (some 6), (.ld true 2 (.t 1))⟩, ⟨none, (some 7), (.call n_i_isProportion [(.t 6)])⟩, ⟨none, (some 8), (.un .not (.t 7))⟩]
def r_i_BannerSizes_2 : List CO := [⟨none, (some 2), (.mv (.k (.v (.slice none 0 0))))⟩, ⟨none, (some 3), (.mv (.k (.v (.bool false))))⟩]
def r_i_BannerSizes_3 : List CO := [⟨none, (some 9), (.bslice 1 (.v (.slice none 0 0)) 0 [])⟩, ⟨none, (some 4), (.mv (.t 9))⟩]
def r_i_BannerSizes_4 : List CO := [⟨none, (some 5), (.mv (.k (.v (.int .i64 (1)))))⟩]
def r_i_BannerSizes_5 : List CO := [⟨none, (some 10), (.mv (.t 5))⟩, ⟨none, (some 11), (.faddr 0 (.t 1))⟩, ⟨none, (some 12), (.ld false 1 (.t 11))⟩, ⟨none, (some 13), (.bin .mul .none (.t 10) (.t 12))⟩, ⟨none, (some 14), (.bin .leq .none (.t 13) (.k (.v (.int .i64 (60)))))⟩, ⟨none, (some 15), (.mv (.t 14))⟩, ⟨(some (15, true)), (some 16), (.mv (.t 5))⟩, ⟨(some (15, true)), (some 17), (.faddr 1 (.t 1))⟩, ⟨(some (15, true)), (some 18), (.ld false 1 (.t 17))⟩, ⟨(some (15, true)), (some 19), (.bin .mul .none (.t 16) (.t 18))⟩, ⟨(some (15, true)), (some 20), (.bin .leq .none (.t 19) (.k (.v (.int .i64 (60)))))⟩, ⟨none, (some 21), (.pick (.t 15) (.t 20) (.k (.v (.bool false))))⟩]
def r_i_BannerSizes_6 : List CO := [⟨none, (some 24), (.mv (.t 4))⟩, ⟨none, (some 25), (.mv (.t 5))⟩, ⟨none, (some 26), (.faddr 0 (.t 1))⟩, ⟨none, (some 27), (.ld false 1 (.t 26))⟩, ⟨none, (some 28), (.bin .mul .none (.t 25) (.t 27))⟩, ⟨none, (some 29), (.mv (.t 5))⟩, ⟨none, (some 30), (.faddr 1 (.t 1))⟩, ⟨none, (some 31), (.ld false 1 (.t 30))⟩, ⟨none, (some 32), (.bin .mul .none (.t 29) (.t 31))⟩, ⟨none, (some 33), (.bslice 1 (.v (.int .i64 (0))) 2 [(0, (.t 28)), (1, (.t 32))])⟩, ⟨none, (some 34), (.bslice 1 (.v (.slice none 0 0)) 1 [(0, (.t 33))])⟩, ⟨none, (some 35), (.app 1 24 (.t 24) (.t 34))⟩, ⟨none, (some 4), (.mv (.t 35))⟩]
def r_i_BannerSizes_7 : List CO := [⟨none, (some 22), (.mv (.t 5))⟩, ⟨none, (some 23), (.bin .add .none (.t 22) (.k (.v (.int .i64 (1)))))⟩, ⟨none, (some 5), (.mv (.t 23))⟩]
def l_i_BannerSizes_8 : C := (.seq (.seq (.reg r_i_BannerSizes_5 [1, 4, 5, 21]) (.cond (.t 21) .skip (.exit 0))) (.seq (.block 1 (.reg r_i_BannerSizes_6 [1, 4, 5])) (.reg r_i_BannerSizes_7 [1, 4, 5])))
def r_i_BannerSizes_9 : List CO := [⟨none, (some 36), (.mv (.t 4))⟩, ⟨none, (some 2), (.mv (.t 36))⟩, ⟨none, (some 3), (.mv (.k (.v (.bool true))))⟩]
/-- loop.example/g00884/impl.BannerSizes -/
def c_i_BannerSizes : C := (.seq (.reg r_i_BannerSizes_0 [1]) (.seq (.seq (.reg r_i_BannerSizes_1 [1, 8]) (.cond (.t 8) (.seq (.reg r_i_BannerSizes_2 [2, 3]) .ret) .skip)) (.seq (.reg r_i_BannerSizes_3 [1, 4]) (.seq (.seq (.reg r_i_BannerSizes_4 [1, 4, 5]) (.block 0 (.loop l_i_BannerSizes_8))) (.seq (.reg r_i_BannerSizes_9 [2, 3]) .ret)))))
def k_i_BannerSizes : Nat → List Nat
  | 0 => [1]
  | 1 => [1, 8]
  | 2 => [2, 3]
  | 3 => [1, 4]
  | 4 => [1, 4, 5]
  | 5 => [1, 4, 5, 21]
  | 7 => [1, 4, 5]
  | 6 => [1, 4, 5]
  | 8 => [2, 3]
  | _ => []
theorem fn_i_BannerSizes : FnC Try.prog n_i_BannerSizes c_i_BannerSizes [(.tmp 2), (.tmp 3)] 37 :=
  ⟨Try.f16, _, k_i_BannerSizes, Try.func16, rfl, by kernel_rfl, by kernel_rfl, by kernel_rfl, rfl⟩
end Go.Proofs.Ytgefdcllialhkaa
