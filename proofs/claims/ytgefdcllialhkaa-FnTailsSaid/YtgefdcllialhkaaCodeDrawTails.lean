/- The compact code of the functions, and that it is theirs: written by a program of this claim. -/
import Derived.Test.YtgefdcllialhkaaNums
namespace Go.Proofs.Ytgefdcllialhkaa
open Go.Abs
set_option maxRecDepth 100000
def r_s_DrawBannerSizes_0 : List CO := [⟨none, (some 2), (.box 2 (.k (.agg [(.v (.int .i64 (0))), (.v (.int .i64 (0)))])))⟩]
def r_s_DrawBannerSizes_1 : List CO := [⟨none, (some 4), (.mv (.t 0))⟩, ⟨none, (some 5), (.build (.agg [(.v (.slice none 0 0)), (.v (.int .i64 (0))), (.v (.int .u64 (0)))]) [(0, (1, (.t 4)))])⟩, ⟨none, (some 6), (.box 3 (.t 5))⟩, ⟨none, (some 3), (.mv (.t 6))⟩]
def r_s_DrawBannerSizes_2 : List CO := [⟨none, (some 7), (.mv (.t 3))⟩, ⟨none, (some 8), (.call n_s_l1Cur_proportion [(.t 7)])⟩, ⟨none, none, (.st 2 (.t 2) (.t 8))⟩]
/-- loop.example/g00884/spec.DrawBannerSizes -/
def c_s_DrawBannerSizes : C := (.seq (.reg r_s_DrawBannerSizes_0 [0, 2]) (.seq (.reg r_s_DrawBannerSizes_1 [2, 3]) (.seq (.reg r_s_DrawBannerSizes_2 [2]) .ret)))
def k_s_DrawBannerSizes : Nat → List Nat
  | 0 => [0, 2]
  | 1 => [2, 3]
  | 2 => [2]
  | _ => []
theorem fn_s_DrawBannerSizes : FnC Try.prog n_s_DrawBannerSizes c_s_DrawBannerSizes [(.cell 2 true 2)] 9 :=
  ⟨Try.f15, _, k_s_DrawBannerSizes, Try.func15, rfl, by kernel_rfl, by kernel_rfl, by kernel_rfl, rfl⟩
def r_s_DrawReduceProportion_0 : List CO := [⟨none, (some 2), (.mv (.k (.v (.int .i64 (0)))))⟩, ⟨none, (some 3), (.mv (.k (.v (.int .i64 (0)))))⟩]
def r_s_DrawReduceProportion_1 : List CO := [⟨none, (some 5), (.mv (.t 0))⟩, ⟨none, (some 6), (.build (.agg [(.v (.slice none 0 0)), (.v (.int .i64 (0))), (.v (.int .u64 (0)))]) [(0, (1, (.t 5)))])⟩, ⟨none, (some 7), (.box 3 (.t 6))⟩, ⟨none, (some 4), (.mv (.t 7))⟩]
def r_s_DrawReduceProportion_2 : List CO := [⟨none, (some 8), (.mv (.t 4))⟩, ⟨none, (some 9), (.bslice 1 (.v (.int .i64 (0))) 9 [(0, (.k (.v (.int .i64 (1))))), (1, (.k (.v (.int .i64 (2))))), (2, (.k (.v (.int .i64 (6))))), (3, (.k (.v (.int .i64 (10))))), (4, (.k (.v (.int .i64 (12))))), (5, (.k (.v (.int .i64 (1000))))), (6, (.k (.v (.int .i64 (100))))), (7, (.k (.v (.int .i64 (0))))), (8, (.k (.v (.int .i64 (1001)))))])⟩, ⟨none, (some 10), (.mv (.t 4))⟩, ⟨none, (some 11), (.call n_s_l1Cur_pick [(.t 10), (.k (.v (.int .i64 (24))))])⟩, ⟨none, (some 12), (.bin .quo .none (.t 11) (.k (.v (.int .i64 (11)))))⟩, ⟨none, (some 13), (.bin .add .none (.k (.v (.int .i64 (7)))) (.t 12))⟩, ⟨none, (some 14), (.slc (some 1) (.t 9) none (some (.t 13)))⟩, ⟨none, (some 15), (.call n_s_l1Cur_among [(.t 8), (.t 14)])⟩, ⟨none, (some 16), (.mv (.t 4))⟩, ⟨none, (some 17), (.bslice 1 (.v (.int .i64 (0))) 7 [(0, (.k (.v (.int .i64 (1))))), (1, (.k (.v (.int .i64 (3))))), (2, (.k (.v (.int .i64 (4))))), (3, (.k (.v (.int .i64 (9))))), (4, (.k (.v (.int .i64 (15))))), (5, (.k (.v (.int .i64 (1000))))), (6, (.k (.v (.int .i64 (200)))))])⟩, ⟨none, (some 18), (.call n_s_l1Cur_among [(.t 16), (.t 17)])⟩, ⟨none, (some 2), (.mv (.t 15))⟩, ⟨none, (some 3), (.mv (.t 18))⟩]
/-- loop.example/g00884/spec.DrawReduceProportion -/
def c_s_DrawReduceProportion : C := (.seq (.reg r_s_DrawReduceProportion_0 [0]) (.seq (.reg r_s_DrawReduceProportion_1 [4]) (.seq (.reg r_s_DrawReduceProportion_2 [2, 3]) .ret)))
def k_s_DrawReduceProportion : Nat → List Nat
  | 0 => [0]
  | 1 => [4]
  | 2 => [2, 3]
  | _ => []
theorem fn_s_DrawReduceProportion : FnC Try.prog n_s_DrawReduceProportion c_s_DrawReduceProportion [(.tmp 2), (.tmp 3)] 19 :=
  ⟨Try.f19, _, k_s_DrawReduceProportion, Try.func19, rfl, by kernel_rfl, by kernel_rfl, by kernel_rfl, rfl⟩
def r_s_DrawBorderBanner_0 : List CO := [⟨none, (some 2), (.mv (.k (.v (.slice none 0 0))))⟩, ⟨none, (some 3), (.mv (.k (.v (.int .i64 (0)))))⟩, ⟨none, (some 4), (.mv (.k (.v (.int .i64 (0)))))⟩]
def r_s_DrawBorderBanner_1 : List CO := [⟨none, (some 7), (.mv (.t 0))⟩, ⟨none, (some 8), (.build (.agg [(.v (.slice none 0 0)), (.v (.int .i64 (0))), (.v (.int .u64 (0)))]) [(0, (1, (.t 7)))])⟩, ⟨none, (some 9), (.box 3 (.t 8))⟩, ⟨none, (some 5), (.mv (.t 9))⟩]
def r_s_DrawBorderBanner_2 : List CO := [⟨none, (some 10), (.mv (.t 5))⟩, ⟨none, (some 11), (.call n_s_l1Cur_banner [(.t 10)])⟩, ⟨none, (some 6), (.mv (.t 11))⟩]
def r_s_DrawBorderBanner_3 : List CO := [⟨none, (some 12), (.mv (.t 6))⟩, ⟨none, (some 13), (.mv (.t 5))⟩, ⟨none, (some 14), (.call n_s_l1Cur_anyTincture [(.t 13)])⟩, ⟨none, (some 15), (.mv (.t 5))⟩, ⟨none, (some 16), (.bslice 1 (.v (.int .i64 (0))) 7 [(0, (.k (.v (.int .i64 (0))))), (1, (.k (.v (.int .i64 (1))))), (2, (.k (.v (.int .i64 (2))))), (3, (.k (.v (.int .i64 (3))))), (4, (.k (.v (.int .i64 (60))))), (5, (.k (.v (.int .i64 (-1))))), (6, (.k (.v (.int .i64 (61)))))])⟩, ⟨none, (some 17), (.mv (.t 5))⟩, ⟨none, (some 18), (.call n_s_l1Cur_pick [(.t 17), (.k (.v (.int .i64 (24))))])⟩, ⟨none, (some 19), (.bin .quo .none (.t 18) (.k (.v (.int .i64 (11)))))⟩, ⟨none, (some 20), (.bin .add .none (.k (.v (.int .i64 (5)))) (.t 19))⟩, ⟨none, (some 21), (.slc (some 1) (.t 16) none (some (.t 20)))⟩, ⟨none, (some 22), (.call n_s_l1Cur_among [(.t 15), (.t 21)])⟩, ⟨none, (some 2), (.mv (.t 12))⟩, ⟨none, (some 3), (.mv (.t 14))⟩, ⟨none, (some 4), (.mv (.t 22))⟩]
/-- loop.example/g00884/spec.DrawBorderBanner -/
def c_s_DrawBorderBanner : C := (.seq (.reg r_s_DrawBorderBanner_0 [0]) (.seq (.reg r_s_DrawBorderBanner_1 [5]) (.seq (.reg r_s_DrawBorderBanner_2 [5, 6]) (.seq (.reg r_s_DrawBorderBanner_3 [2, 3, 4]) .ret))))
def k_s_DrawBorderBanner : Nat → List Nat
  | 0 => [0]
  | 1 => [5]
  | 2 => [5, 6]
  | 3 => [2, 3, 4]
  | _ => []
theorem fn_s_DrawBorderBanner : FnC Try.prog n_s_DrawBorderBanner c_s_DrawBorderBanner [(.tmp 2), (.tmp 3), (.tmp 4)] 23 :=
  ⟨Try.f13, _, k_s_DrawBorderBanner, Try.func13, rfl, by kernel_rfl, by kernel_rfl, by kernel_rfl, rfl⟩
def r_s_DrawTailBanner_0 : List CO := [⟨none, (some 2), (.mv (.k (.v (.slice none 0 0))))⟩, ⟨none, (some 3), (.mv (.k (.v (.int .i64 (0)))))⟩]
def r_s_DrawTailBanner_1 : List CO := [⟨none, (some 6), (.mv (.t 0))⟩, ⟨none, (some 7), (.build (.agg [(.v (.slice none 0 0)), (.v (.int .i64 (0))), (.v (.int .u64 (0)))]) [(0, (1, (.t 6)))])⟩, ⟨none, (some 8), (.box 3 (.t 7))⟩, ⟨none, (some 4), (.mv (.t 8))⟩]
def r_s_DrawTailBanner_2 : List CO := [⟨none, (some 9), (.mv (.t 4))⟩, ⟨none, (some 10), (.call n_s_l1Cur_banner [(.t 9)])⟩, ⟨none, (some 5), (.mv (.t 10))⟩]
def r_s_DrawTailBanner_3 : List CO := [⟨none, (some 11), (.mv (.t 5))⟩, ⟨none, (some 12), (.len false (.t 11))⟩, ⟨none, (some 13), (.bin .eql .none (.t 12) (.k (.v (.int .i64 (0)))))⟩]
def r_s_DrawTailBanner_4 : List CO := [⟨none, (some 14), (.mv (.t 5))⟩, ⟨none, (some 2), (.mv (.t 14))⟩, ⟨none, (some 3), (.mv (.k (.v (.int .i64 (0)))))⟩]
def r_s_DrawTailBanner_5 : List CO := [⟨none, (some 15), (.mv (.t 5))⟩, ⟨none, (some 16), (.mv (.t 4))⟩, ⟨none, (some 17), (.mv (.t 5))⟩, ⟨none, (some 18), (.iaddr 1 (.t 17) (.k (.v (.int .i64 (0)))))⟩, ⟨none, (some 19), (.ld false 1 (.t 18))⟩, ⟨none, (some 20), (.len false (.t 19))⟩, ⟨none, (some 21), (.bin .quo .none (.t 20) (.k (.v (.int .i64 (2)))))⟩, ⟨none, (some 22), (.mv (.t 5))⟩, ⟨none, (some 23), (.iaddr 1 (.t 22) (.k (.v (.int .i64 (0)))))⟩, ⟨none, (some 24), (.ld false 1 (.t 23))⟩, ⟨none, (some 25), (.len false (.t 24))⟩, ⟨none, (some 26), (.mv (.t 5))⟩, ⟨none, (some 27), (.iaddr 1 (.t 26) (.k (.v (.int .i64 (0)))))⟩, ⟨none, (some 28), (.ld false 1 (.t 27))⟩, ⟨none, (some 29), (.len false (.t 28))⟩, ⟨none, (some 30), (.bin .add .none (.t 29) (.k (.v (.int .i64 (1)))))⟩, ⟨none, (some 31), (.bslice 1 (.v (.int .i64 (0))) 7 [(0, (.k (.v (.int .i64 (0))))), (1, (.k (.v (.int .i64 (1))))), (2, (.k (.v (.int .i64 (2))))), (3, (.t 21)), (4, (.t 25)), (5, (.t 30)), (6, (.k (.v (.int .i64 (-1)))))])⟩, ⟨none, (some 32), (.call n_s_l1Cur_among [(.t 16), (.t 31)])⟩, ⟨none, (some 2), (.mv (.t 15))⟩, ⟨none, (some 3), (.mv (.t 32))⟩]
def p_s_DrawTailBanner_5 : List (List Nat) := [[], [], [], [2], [2, 3], [2, 3, 4], [2, 3, 4, 5], [], [7], [7, 8], [7, 8, 9], [], [11], [11, 12], [11, 12, 13], [11, 12, 13, 14], [2, 3, 4, 5, 6, 7, 8, 9, 10, 11, 12, 13, 14, 15], [1, 2, 3, 4, 5, 6, 7, 8, 9, 10, 11, 12, 13, 14, 15, 16], [0, 1, 2, 3, 4, 5, 6, 7, 8, 9, 10, 11, 12, 13, 14, 15, 16, 17], [0, 1, 2, 3, 4, 5, 6, 7, 8, 9, 10, 11, 12, 13, 14, 15, 16, 17, 18]]
/-- loop.example/g00884/spec.DrawTailBanner -/
def c_s_DrawTailBanner : C := (.seq (.reg r_s_DrawTailBanner_0 [0]) (.seq (.reg r_s_DrawTailBanner_1 [4]) (.seq (.reg r_s_DrawTailBanner_2 [4, 5]) (.seq (.seq (.reg r_s_DrawTailBanner_3 [4, 5, 13]) (.cond (.t 13) (.seq (.reg r_s_DrawTailBanner_4 [2, 3]) .ret) .skip)) (.seq (.regD r_s_DrawTailBanner_5 p_s_DrawTailBanner_5 [2, 3]) .ret)))))
def k_s_DrawTailBanner : Nat → List Nat
  | 0 => [0]
  | 1 => [4]
  | 2 => [4, 5]
  | 3 => [4, 5, 13]
  | 4 => [2, 3]
  | 5 => [2, 3]
  | _ => []
theorem fn_s_DrawTailBanner : FnC Try.prog n_s_DrawTailBanner c_s_DrawTailBanner [(.tmp 2), (.tmp 3)] 33 :=
  ⟨Try.f8, _, k_s_DrawTailBanner, Try.func8, rfl, by kernel_rfl, by kernel_rfl, by kernel_rfl, rfl⟩
end Go.Proofs.Ytgefdcllialhkaa
