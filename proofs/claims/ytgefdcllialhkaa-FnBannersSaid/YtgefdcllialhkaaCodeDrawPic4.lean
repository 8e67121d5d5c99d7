/- The compact code of the functions, and that it is theirs: written by a program of this claim. -/
import Derived.Test.YtgefdcllialhkaaNums
namespace Go.Proofs.Ytgefdcllialhkaa
open Go.Abs
set_option maxRecDepth 100000
def r_s_l1Cur_anyPicture_0 : List CO := [⟨none, (some 2), (.mv (.k (.v (.slice none 0 0))))⟩]
def r_s_l1Cur_anyPicture_1 : List CO := [⟨none, (some 4), (.mv (.t 0))⟩, ⟨none, (some 5), (.call n_s_l1Cur_picture [(.t 4)])⟩, ⟨none, (some 3), (.mv (.t 5))⟩]
def r_s_l1Cur_anyPicture_2 : List CO := [⟨none, (some 6), (.mv (.t 0))⟩, ⟨none, (some 7), (.call n_s_l1Cur_pick [(.t 6), (.k (.v (.int .i64 (30))))])⟩]
def r_s_l1Cur_anyPicture_3 : List CO := [⟨none, (some 9), (.bin .eql .none (.t 7) (.k (.v (.int .i64 (0)))))⟩, ⟨none, (some 8), (.mv (.t 9))⟩]
def r_s_l1Cur_anyPicture_4 : List CO := [⟨none, (some 10), (.mv (.t 3))⟩, ⟨none, (some 11), (.iaddr 1 (.t 10) (.k (.v (.int .i64 (23)))))⟩, ⟨none, (some 12), (.ld false 1 (.t 11))⟩, ⟨none, (some 13), (.mv (.t 0))⟩, ⟨none, (some 14), (.call n_s_l1Cur_pick [(.t 13), (.k (.v (.int .i64 (20))))])⟩, ⟨none, (some 15), (.mv (.t 0))⟩, ⟨none, (some 16), (.bslice 1 (.v (.int .i64 (0))) 2 [(0, (.k (.v (.int .i64 (0))))), (1, (.k (.v (.int .i64 (1)))))])⟩, ⟨none, (some 17), (.call n_s_l1Cur_among [(.t 15), (.t 16)])⟩, ⟨none, (some 18), (.iaddr 1 (.t 12) (.t 14))⟩, ⟨none, none, (.st 1 (.t 18) (.t 17))⟩]
def p_s_l1Cur_anyPicture_4 : List (List Nat) := [[], [0], [0, 1], [], [3], [], [], [3, 4, 5, 6], [0, 1, 2, 3, 4, 5, 6, 7], [0, 1, 2, 3, 4, 5, 6, 7, 8]]
def r_s_l1Cur_anyPicture_5 : List CO := [⟨none, (some 20), (.bin .eql .none (.t 7) (.k (.v (.int .i64 (1)))))⟩, ⟨none, (some 19), (.mv (.t 20))⟩]
def r_s_l1Cur_anyPicture_6 : List CO := [⟨none, (some 21), (.mv (.t 3))⟩, ⟨none, (some 22), (.mv (.t 0))⟩, ⟨none, (some 23), (.call n_s_l1Cur_pick [(.t 22), (.k (.v (.int .i64 (12))))])⟩, ⟨none, (some 24), (.iaddr 1 (.t 21) (.t 23))⟩, ⟨none, (some 25), (.ld false 1 (.t 24))⟩, ⟨none, (some 26), (.mv (.t 0))⟩, ⟨none, (some 27), (.bslice 1 (.v (.int .i64 (0))) 3 [(0, (.k (.v (.int .i64 (0))))), (1, (.k (.v (.int .i64 (10))))), (2, (.k (.v (.int .i64 (-1)))))])⟩, ⟨none, (some 28), (.call n_s_l1Cur_among [(.t 26), (.t 27)])⟩, ⟨none, (some 29), (.iaddr 1 (.t 25) (.k (.v (.int .i64 (3)))))⟩, ⟨none, none, (.st 1 (.t 29) (.t 28))⟩]
def p_s_l1Cur_anyPicture_6 : List (List Nat) := [[], [], [1], [0, 1, 2], [0, 1, 2, 3], [], [], [1, 2, 5, 6], [0, 1, 2, 3, 4, 5, 6, 7], [0, 1, 2, 3, 4, 5, 6, 7, 8]]
def r_s_l1Cur_anyPicture_7 : List CO := [⟨none, (some 31), (.bin .eql .none (.t 7) (.k (.v (.int .i64 (2)))))⟩, ⟨none, (some 30), (.mv (.t 31))⟩]
def r_s_l1Cur_anyPicture_8 : List CO := [⟨none, (some 32), (.mv (.t 3))⟩, ⟨none, (some 33), (.slc (some 1) (.t 32) (some (.k (.v (.int .i64 (1))))) none)⟩, ⟨none, (some 3), (.mv (.t 33))⟩]
def r_s_l1Cur_anyPicture_9 : List CO := [⟨none, (some 35), (.bin .eql .none (.t 7) (.k (.v (.int .i64 (3)))))⟩, ⟨none, (some 34), (.mv (.t 35))⟩]
def r_s_l1Cur_anyPicture_10 : List CO := [⟨none, (some 36), (.mv (.t 3))⟩, ⟨none, (some 37), (.mv (.t 3))⟩, ⟨none, (some 38), (.iaddr 1 (.t 37) (.k (.v (.int .i64 (2)))))⟩, ⟨none, (some 39), (.ld false 1 (.t 38))⟩, ⟨none, (some 40), (.bslice 1 (.v (.int .i64 (0))) 1 [(0, (.k (.v (.int .i64 (1)))))])⟩, ⟨none, (some 41), (.app 1 8 (.t 39) (.t 40))⟩, ⟨none, (some 42), (.iaddr 1 (.t 36) (.k (.v (.int .i64 (2)))))⟩, ⟨none, none, (.st 1 (.t 42) (.t 41))⟩]
def r_s_l1Cur_anyPicture_11 : List CO := [⟨none, (some 43), (.mv (.t 3))⟩, ⟨none, (some 2), (.mv (.t 43))⟩]
/-- (*loop.example/g00884/spec.l1Cur).anyPicture -/
def c_s_l1Cur_anyPicture : C := (.seq (.reg r_s_l1Cur_anyPicture_0 [0]) (.seq (.reg r_s_l1Cur_anyPicture_1 [0, 3]) (.seq (.seq (.reg r_s_l1Cur_anyPicture_2 [0, 3, 7]) (.block 0 (.seq (.reg r_s_l1Cur_anyPicture_3 [0, 3, 7, 8]) (.cond (.t 8) (.wk (.regD r_s_l1Cur_anyPicture_4 p_s_l1Cur_anyPicture_4 [3])) (.seq (.reg r_s_l1Cur_anyPicture_5 [0, 3, 7, 19]) (.cond (.t 19) (.wk (.regD r_s_l1Cur_anyPicture_6 p_s_l1Cur_anyPicture_6 [3])) (.seq (.reg r_s_l1Cur_anyPicture_7 [3, 7, 30]) (.cond (.t 30) (.wk (.reg r_s_l1Cur_anyPicture_8 [3])) (.seq (.reg r_s_l1Cur_anyPicture_9 [3, 34]) (.cond (.t 34) (.wk (.reg r_s_l1Cur_anyPicture_10 [3])) .skip)))))))))) (.seq (.wk (.reg r_s_l1Cur_anyPicture_11 [2])) .ret))))
def k_s_l1Cur_anyPicture : Nat → List Nat
  | 0 => [0]
  | 1 => [0, 3]
  | 2 => [0, 3, 7]
  | 3 => [0, 3, 7, 8]
  | 4 => [999999, 3]
  | 5 => [0, 3, 7, 19]
  | 6 => [999999, 3]
  | 7 => [3, 7, 30]
  | 8 => [999999, 3]
  | 9 => [3, 34]
  | 10 => [999999, 3]
  | 11 => [999999, 2]
  | _ => []
theorem fn_s_l1Cur_anyPicture : FnC Try.prog n_s_l1Cur_anyPicture c_s_l1Cur_anyPicture [(.tmp 2)] 44 :=
  ⟨Try.f100, _, k_s_l1Cur_anyPicture, Try.func100, rfl, by kernel_rfl, by kernel_rfl, by kernel_rfl, rfl⟩
def r_s_DrawIsValidBanner_0 : List CO := [⟨none, (some 2), (.mv (.k (.v (.slice none 0 0))))⟩]
def r_s_DrawIsValidBanner_1 : List CO := [⟨none, (some 4), (.mv (.t 0))⟩, ⟨none, (some 5), (.build (.agg [(.v (.slice none 0 0)), (.v (.int .i64 (0))), (.v (.int .u64 (0)))]) [(0, (1, (.t 4)))])⟩, ⟨none, (some 6), (.box 3 (.t 5))⟩, ⟨none, (some 3), (.mv (.t 6))⟩]
def r_s_DrawIsValidBanner_2 : List CO := [⟨none, (some 7), (.mv (.t 3))⟩, ⟨none, (some 8), (.call n_s_l1Cur_banner [(.t 7)])⟩, ⟨none, (some 2), (.mv (.t 8))⟩]
/-- loop.example/g00884/spec.DrawIsValidBanner -/
def c_s_DrawIsValidBanner : C := (.seq (.reg r_s_DrawIsValidBanner_0 [0]) (.seq (.reg r_s_DrawIsValidBanner_1 [3]) (.seq (.reg r_s_DrawIsValidBanner_2 [2]) .ret)))
def k_s_DrawIsValidBanner : Nat → List Nat
  | 0 => [0]
  | 1 => [3]
  | 2 => [2]
  | _ => []
theorem fn_s_DrawIsValidBanner : FnC Try.prog n_s_DrawIsValidBanner c_s_DrawIsValidBanner [(.tmp 2)] 9 :=
  ⟨Try.f107, _, k_s_DrawIsValidBanner, Try.func107, rfl, by kernel_rfl, by kernel_rfl, by kernel_rfl, rfl⟩
def r_s_DrawMirrorBanner_0 : List CO := [⟨none, (some 2), (.mv (.k (.v (.slice none 0 0))))⟩]
def r_s_DrawMirrorBanner_1 : List CO := [⟨none, (some 3), (.mv (.t 0))⟩, ⟨none, (some 4), (.call n_s_DrawIsValidBanner [(.t 3)])⟩, ⟨none, (some 2), (.mv (.t 4))⟩]
/-- loop.example/g00884/spec.DrawMirrorBanner -/
def c_s_DrawMirrorBanner : C := (.seq (.reg r_s_DrawMirrorBanner_0 [0]) (.seq (.reg r_s_DrawMirrorBanner_1 [2]) .ret))
def k_s_DrawMirrorBanner : Nat → List Nat
  | 0 => [0]
  | 1 => [2]
  | _ => []
theorem fn_s_DrawMirrorBanner : FnC Try.prog n_s_DrawMirrorBanner c_s_DrawMirrorBanner [(.tmp 2)] 5 :=
  ⟨Try.f51, _, k_s_DrawMirrorBanner, Try.func51, rfl, by kernel_rfl, by kernel_rfl, by kernel_rfl, rfl⟩
def r_s_DrawKeepsProportion_0 : List CO := [⟨none, (some 2), (.mv (.k (.v (.slice none 0 0))))⟩, ⟨none, (some 3), (.box 2 (.k (.agg [(.v (.int .i64 (0))), (.v (.int .i64 (0)))])))⟩]
def r_s_DrawKeepsProportion_1 : List CO := [⟨none, (some 8), (.mv (.t 0))⟩, ⟨none, (some 9), (.build (.agg [(.v (.slice none 0 0)), (.v (.int .i64 (0))), (.v (.int .u64 (0)))]) [(0, (1, (.t 8)))])⟩, ⟨none, (some 10), (.box 3 (.t 9))⟩, ⟨none, (some 4), (.mv (.t 10))⟩]
def r_s_DrawKeepsProportion_2 : List CO := [⟨none, (some 11), (.mv (.t 4))⟩, ⟨none, (some 12), (.call n_s_l1Cur_banner [(.t 11)])⟩, ⟨none, (some 5), (.mv (.t 12))⟩]
def r_s_DrawKeepsProportion_3 : List CO := [⟨none, (some 14), (.mv (.t 5))⟩, ⟨none, (some 15), (.len false (.t 14))⟩, ⟨none, (some 16), (.call n_s_l1Most [(.t 15), (.k (.v (.int .i64 (1))))])⟩, ⟨none, (some 17), (.mv (.t 4))⟩, ⟨none, (some 18), (.call n_s_l1Cur_pick [(.t 17), (.k (.v (.int .i64 (12))))])⟩, ⟨none, (some 19), (.bin .add .none (.k (.v (.int .i64 (1)))) (.t 18))⟩, ⟨none, (some 20), (.call n_s_ReduceProportion [(.t 16), (.t 19)])⟩, ⟨none, (some 13), (.mv (.t 20))⟩, ⟨none, (some 21), (.ext (.t 13) 0)⟩, ⟨none, (some 22), (.ext (.t 13) 1)⟩, ⟨none, (some 6), (.box 2 (.k (.agg [(.v (.int .i64 (0))), (.v (.int .i64 (0)))])))⟩, ⟨none, none, (.st 2 (.t 6) (.t 21))⟩, ⟨none, (some 7), (.mv (.t 22))⟩]
def r_s_DrawKeepsProportion_4 : List CO := [⟨none, (some 23), (.mv (.t 7))⟩, ⟨none, (some 24), (.mv (.t 23))⟩, ⟨(some (24, true)), (some 25), (.mv (.t 4))⟩, ⟨(some (24, true)), (some 26), (.call n_s_l1Cur_one [(.t 25), (.k (.v (.int .i64 (2))))])⟩, ⟨none, (some 27), (.pick (.t 24) (.t 26) (.k (.v (.bool false))))⟩]
def r_s_DrawKeepsProportion_5 : List CO := [⟨none, (some 28), (.mv (.t 5))⟩, ⟨none, (some 29), (.ld true 2 (.t 6))⟩, ⟨none, (some 2), (.mv (.t 28))⟩, ⟨none, none, (.st 2 (.t 3) (.t 29))⟩]
def p_s_DrawKeepsProportion_5 : List (List Nat) := [[], [], [0], [0, 1, 2]]
def r_s_DrawKeepsProportion_6 : List CO := [⟨none, (some 30), (.mv (.t 5))⟩, ⟨none, (some 31), (.mv (.t 4))⟩, ⟨none, (some 32), (.call n_s_l1Cur_proportion [(.t 31)])⟩, ⟨none, (some 2), (.mv (.t 30))⟩, ⟨none, none, (.st 2 (.t 3) (.t 32))⟩]
/-- loop.example/g00884/spec.DrawKeepsProportion -/
def c_s_DrawKeepsProportion : C := (.seq (.reg r_s_DrawKeepsProportion_0 [0, 3]) (.seq (.reg r_s_DrawKeepsProportion_1 [3, 4]) (.seq (.reg r_s_DrawKeepsProportion_2 [3, 4, 5]) (.seq (.seq (.reg r_s_DrawKeepsProportion_3 [3, 4, 5, 6, 7]) (.seq (.reg r_s_DrawKeepsProportion_4 [3, 4, 5, 6, 27]) (.cond (.t 27) (.seq (.regD r_s_DrawKeepsProportion_5 p_s_DrawKeepsProportion_5 [2, 3]) .ret) .skip))) (.seq (.reg r_s_DrawKeepsProportion_6 [2, 3]) .ret)))))
def k_s_DrawKeepsProportion : Nat → List Nat
  | 0 => [0, 3]
  | 1 => [3, 4]
  | 2 => [3, 4, 5]
  | 3 => [3, 4, 5, 6, 7]
  | 4 => [3, 4, 5, 6, 27]
  | 5 => [2, 3]
  | 6 => [2, 3]
  | _ => []
theorem fn_s_DrawKeepsProportion : FnC Try.prog n_s_DrawKeepsProportion c_s_DrawKeepsProportion [(.tmp 2), (.cell 3 true 2)] 33 :=
  ⟨Try.f55, _, k_s_DrawKeepsProportion, Try.func55, rfl, by kernel_rfl, by kernel_rfl, by kernel_rfl, rfl⟩
def r_s_DrawBannerOf_0 : List CO := [⟨none, (some 2), (.mv (.k (.v (.slice none 0 0))))⟩, ⟨none, (some 3), (.mv (.k (.v (.int .i64 (0)))))⟩, ⟨none, (some 4), (.mv (.k (.v (.int .i64 (0)))))⟩]
def r_s_DrawBannerOf_1 : List CO := [⟨none, (some 7), (.mv (.t 0))⟩, ⟨none, (some 8), (.build (.agg [(.v (.slice none 0 0)), (.v (.int .i64 (0))), (.v (.int .u64 (0)))]) [(0, (1, (.t 7)))])⟩, ⟨none, (some 9), (.box 3 (.t 8))⟩, ⟨none, (some 5), (.mv (.t 9))⟩]
def r_s_DrawBannerOf_2 : List CO := [⟨none, (some 10), (.mv (.t 5))⟩, ⟨none, (some 11), (.call n_s_l1Cur_anyPicture [(.t 10)])⟩, ⟨none, (some 6), (.mv (.t 11))⟩]
def r_s_DrawBannerOf_3 : List CO := [⟨none, (some 12), (.mv (.t 6))⟩, ⟨none, (some 13), (.mv (.t 5))⟩, ⟨none, (some 14), (.bslice 1 (.v (.int .i64 (0))) 8 [(0, (.k (.v (.int .i64 (1))))), (1, (.k (.v (.int .i64 (2))))), (2, (.k (.v (.int .i64 (5))))), (3, (.k (.v (.int .i64 (12))))), (4, (.k (.v (.int .i64 (13))))), (5, (.k (.v (.int .i64 (60))))), (6, (.k (.v (.int .i64 (0))))), (7, (.k (.v (.int .i64 (61)))))])⟩, ⟨none, (some 15), (.mv (.t 5))⟩, ⟨none, (some 16), (.call n_s_l1Cur_pick [(.t 15), (.k (.v (.int .i64 (24))))])⟩, ⟨none, (some 17), (.bin .quo .none (.t 16) (.k (.v (.int .i64 (11)))))⟩, ⟨none, (some 18), (.bin .add .none (.k (.v (.int .i64 (6)))) (.t 17))⟩, ⟨none, (some 19), (.slc (some 1) (.t 14) none (some (.t 18)))⟩, ⟨none, (some 20), (.call n_s_l1Cur_among [(.t 13), (.t 19)])⟩, ⟨none, (some 21), (.mv (.t 5))⟩, ⟨none, (some 22), (.bslice 1 (.v (.int .i64 (0))) 6 [(0, (.k (.v (.int .i64 (1))))), (1, (.k (.v (.int .i64 (3))))), (2, (.k (.v (.int .i64 (7))))), (3, (.k (.v (.int .i64 (20))))), (4, (.k (.v (.int .i64 (21))))), (5, (.k (.v (.int .i64 (60)))))])⟩, ⟨none, (some 23), (.call n_s_l1Cur_among [(.t 21), (.t 22)])⟩, ⟨none, (some 2), (.mv (.t 12))⟩, ⟨none, (some 3), (.mv (.t 20))⟩, ⟨none, (some 4), (.mv (.t 23))⟩]
/-- loop.example/g00884/spec.DrawBannerOf -/
def c_s_DrawBannerOf : C := (.seq (.reg r_s_DrawBannerOf_0 [0]) (.seq (.reg r_s_DrawBannerOf_1 [5]) (.seq (.reg r_s_DrawBannerOf_2 [5, 6]) (.seq (.reg r_s_DrawBannerOf_3 [2, 3, 4]) .ret))))
def k_s_DrawBannerOf : Nat → List Nat
  | 0 => [0]
  | 1 => [5]
  | 2 => [5, 6]
  | 3 => [2, 3, 4]
  | _ => []
theorem fn_s_DrawBannerOf : FnC Try.prog n_s_DrawBannerOf c_s_DrawBannerOf [(.tmp 2), (.tmp 3), (.tmp 4)] 24 :=
  ⟨Try.f46, _, k_s_DrawBannerOf, Try.func46, rfl, by kernel_rfl, by kernel_rfl, by kernel_rfl, rfl⟩
end Go.Proofs.Ytgefdcllialhkaa
