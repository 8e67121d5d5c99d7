/- The compact code of the functions, and that it is theirs: written by a program of this claim. -/
import Derived.Test.YtgefdcllialhkaaNums
namespace Go.Proofs.Ytgefdcllialhkaa
open Go.Abs
set_option maxRecDepth 100000
def r_s_l1Cur_proportion_0 : List CO := [⟨none, (some 2), (.box 2 (.k (.agg [(.v (.int .i64 (0))), (.v (.int .i64 (0)))])))⟩]
def r_s_l1Cur_proportion_1 : List CO := [⟨none, (some 3), (.mv (.t 0))⟩, ⟨none, (some 4), (.bslice 1 (.v (.int .i64 (0))) 8 [(0, (.k (.v (.int .i64 (1))))), (1, (.k (.v (.int .i64 (2))))), (2, (.k (.v (.int .i64 (3))))), (3, (.k (.v (.int .i64 (5))))), (4, (.k (.v (.int .i64 (10))))), (5, (.k (.v (.int .i64 (4))))), (6, (.k (.v (.int .i64 (0))))), (7, (.k (.v (.int .i64 (11)))))])⟩, ⟨none, (some 5), (.mv (.t 0))⟩, ⟨none, (some 6), (.call n_s_l1Cur_pick [(.t 5), (.k (.v (.int .i64 (24))))])⟩, ⟨none, (some 7), (.bin .quo .none (.t 6) (.k (.v (.int .i64 (11)))))⟩, ⟨none, (some 8), (.bin .add .none (.k (.v (.int .i64 (6)))) (.t 7))⟩, ⟨none, (some 9), (.slc (some 1) (.t 4) none (some (.t 8)))⟩, ⟨none, (some 10), (.call n_s_l1Cur_among [(.t 3), (.t 9)])⟩, ⟨none, (some 11), (.mv (.t 0))⟩, ⟨none, (some 12), (.bslice 1 (.v (.int .i64 (0))) 6 [(0, (.k (.v (.int .i64 (1))))), (1, (.k (.v (.int .i64 (2))))), (2, (.k (.v (.int .i64 (3))))), (3, (.k (.v (.int .i64 (5))))), (4, (.k (.v (.int .i64 (7))))), (5, (.k (.v (.int .i64 (9)))))])⟩, ⟨none, (some 13), (.call n_s_l1Cur_among [(.t 11), (.t 12)])⟩, ⟨none, (some 14), (.build (.agg [(.v (.int .i64 (0))), (.v (.int .i64 (0)))]) [(0, (1, (.t 10))), (1, (1, (.t 13)))])⟩, ⟨none, none, (.st 2 (.t 2) (.t 14))⟩]
/-- (*loop.example/g00884/spec.l1Cur).proportion -/
def c_s_l1Cur_proportion : C := (.seq (.reg r_s_l1Cur_proportion_0 [0, 2]) (.seq (.reg r_s_l1Cur_proportion_1 [2]) .ret))
def k_s_l1Cur_proportion : Nat → List Nat
  | 0 => [0, 2]
  | 1 => [2]
  | _ => []
theorem fn_s_l1Cur_proportion : FnC Try.prog n_s_l1Cur_proportion c_s_l1Cur_proportion [(.cell 2 true 2)] 15 :=
  ⟨Try.f72, _, k_s_l1Cur_proportion, Try.func72, rfl, by kernel_rfl, by kernel_rfl, by kernel_rfl, rfl⟩
def r_s_l1Cur_banner_0 : List CO := [⟨none, (some 2), (.mv (.k (.v (.slice none 0 0))))⟩]
def r_s_l1Cur_banner_1 : List CO := [⟨none, (some 11), (.mv (.t 0))⟩, ⟨none, (some 12), (.call n_s_l1Cur_pick [(.t 11), (.k (.v (.int .i64 (8))))])⟩, ⟨none, (some 13), (.bin .add .none (.k (.v (.int .i64 (1)))) (.t 12))⟩, ⟨none, (some 14), (.mv (.t 0))⟩, ⟨none, (some 15), (.call n_s_l1Cur_pick [(.t 14), (.k (.v (.int .i64 (12))))])⟩, ⟨none, (some 16), (.bin .add .none (.k (.v (.int .i64 (1)))) (.t 15))⟩, ⟨none, (some 3), (.mv (.t 13))⟩, ⟨none, (some 4), (.mv (.t 16))⟩]
def r_s_l1Cur_banner_2 : List CO := [⟨none, (some 17), (.bslice 1 (.v (.slice none 0 0)) 0 [])⟩, ⟨none, (some 5), (.mv (.t 17))⟩]
def r_s_l1Cur_banner_3 : List CO := [⟨none, (some 18), (.mv (.t 0))⟩, ⟨none, (some 19), (.call n_s_l1Cur_tincture [(.t 18)])⟩, ⟨none, (some 20), (.mv (.t 0))⟩, ⟨none, (some 21), (.call n_s_l1Cur_tincture [(.t 20)])⟩, ⟨none, (some 6), (.mv (.t 19))⟩, ⟨none, (some 7), (.mv (.t 21))⟩]
def r_s_l1Cur_banner_4 : List CO := [⟨none, (some 8), (.mv (.k (.v (.int .i64 (0)))))⟩]
def r_s_l1Cur_banner_5 : List CO := [⟨none, (some 22), (.mv (.t 8))⟩, ⟨none, (some 23), (.mv (.t 3))⟩, ⟨none, (some 24), (.bin .lss .none (.t 22) (.t 23))⟩]
def r_s_l1Cur_banner_6 : List CO := [⟨none, (some 27), (.bslice 1 (.v (.int .i64 (0))) 0 [])⟩, ⟨none, (some 9), (.mv (.t 27))⟩]
def r_s_l1Cur_banner_7 : List CO := [⟨none, (some 10), (.mv (.k (.v (.int .i64 (0)))))⟩]
def r_s_l1Cur_banner_8 : List CO := [⟨none, (some 28), (.mv (.t 10))⟩, ⟨none, (some 29), (.mv (.t 4))⟩, ⟨none, (some 30), (.bin .lss .none (.t 28) (.t 29))⟩]
def r_s_l1Cur_banner_9 : List CO := [⟨none, (some 33), (.mv (.t 9))⟩, ⟨none, (some 34), (.mv (.t 0))⟩, ⟨none, (some 35), (.mv (.t 6))⟩, ⟨none, (some 36), (.mv (.t 6))⟩, ⟨none, (some 37), (.mv (.t 7))⟩, ⟨none, (some 38), (.bslice 1 (.v (.int .i64 (0))) 3 [(0, (.t 35)), (1, (.t 36)), (2, (.t 37))])⟩, ⟨none, (some 39), (.call n_s_l1Cur_among [(.t 34), (.t 38)])⟩, ⟨none, (some 40), (.bslice 1 (.v (.int .i64 (0))) 1 [(0, (.t 39))])⟩, ⟨none, (some 41), (.app 1 8 (.t 33) (.t 40))⟩, ⟨none, (some 9), (.mv (.t 41))⟩]
def r_s_l1Cur_banner_10 : List CO := [⟨none, (some 31), (.mv (.t 10))⟩, ⟨none, (some 32), (.bin .add .none (.t 31) (.k (.v (.int .i64 (1)))))⟩, ⟨none, (some 10), (.mv (.t 32))⟩]
def l_s_l1Cur_banner_11 : C := (.seq (.seq (.reg r_s_l1Cur_banner_8 [0, 3, 4, 5, 6, 7, 8, 9, 10, 30]) (.cond (.t 30) .skip (.exit 2))) (.seq (.block 3 (.reg r_s_l1Cur_banner_9 [0, 3, 4, 5, 6, 7, 8, 9, 10])) (.reg r_s_l1Cur_banner_10 [0, 3, 4, 5, 6, 7, 8, 9, 10])))
def r_s_l1Cur_banner_12 : List CO := [⟨none, (some 42), (.mv (.t 5))⟩, ⟨none, (some 43), (.mv (.t 9))⟩, ⟨none, (some 44), (.bslice 1 (.v (.slice none 0 0)) 1 [(0, (.t 43))])⟩, ⟨none, (some 45), (.app 1 24 (.t 42) (.t 44))⟩, ⟨none, (some 5), (.mv (.t 45))⟩]
def r_s_l1Cur_banner_13 : List CO := [⟨none, (some 25), (.mv (.t 8))⟩, ⟨none, (some 26), (.bin .add .none (.t 25) (.k (.v (.int .i64 (1)))))⟩, ⟨none, (some 8), (.mv (.t 26))⟩]
def l_s_l1Cur_banner_14 : C := (.seq (.seq (.reg r_s_l1Cur_banner_5 [0, 3, 4, 5, 6, 7, 8, 24]) (.cond (.t 24) .skip (.exit 0))) (.seq (.block 1 (.seq (.reg r_s_l1Cur_banner_6 [0, 3, 4, 5, 6, 7, 8, 9]) (.seq (.seq (.reg r_s_l1Cur_banner_7 [0, 3, 4, 5, 6, 7, 8, 9, 10]) (.block 2 (.loop l_s_l1Cur_banner_11))) (.reg r_s_l1Cur_banner_12 [0, 3, 4, 5, 6, 7, 8])))) (.reg r_s_l1Cur_banner_13 [0, 3, 4, 5, 6, 7, 8])))
def r_s_l1Cur_banner_15 : List CO := [⟨none, (some 46), (.mv (.t 0))⟩, ⟨none, (some 47), (.call n_s_l1Cur_pick [(.t 46), (.k (.v (.int .i64 (40))))])⟩]
def r_s_l1Cur_banner_16 : List CO := [⟨none, (some 49), (.bin .eql .none (.t 47) (.k (.v (.int .i64 (0)))))⟩, ⟨none, (some 48), (.mv (.t 49))⟩]
def r_s_l1Cur_banner_17 : List CO := [⟨none, (some 50), (.mv (.t 5))⟩, ⟨none, (some 51), (.mv (.t 3))⟩, ⟨none, (some 52), (.bin .sub .none (.t 51) (.k (.v (.int .i64 (1)))))⟩, ⟨none, (some 53), (.mv (.t 5))⟩, ⟨none, (some 54), (.mv (.t 3))⟩, ⟨none, (some 55), (.bin .sub .none (.t 54) (.k (.v (.int .i64 (1)))))⟩, ⟨none, (some 56), (.iaddr 1 (.t 53) (.t 55))⟩, ⟨none, (some 57), (.ld false 1 (.t 56))⟩, ⟨none, (some 58), (.bslice 1 (.v (.int .i64 (0))) 1 [(0, (.k (.v (.int .i64 (1)))))])⟩, ⟨none, (some 59), (.app 1 8 (.t 57) (.t 58))⟩, ⟨none, (some 60), (.iaddr 1 (.t 50) (.t 52))⟩, ⟨none, none, (.st 1 (.t 60) (.t 59))⟩]
def r_s_l1Cur_banner_18 : List CO := [⟨none, (some 62), (.bin .eql .none (.t 47) (.k (.v (.int .i64 (1)))))⟩, ⟨none, (some 61), (.mv (.t 62))⟩]
def r_s_l1Cur_banner_19 : List CO := [⟨none, (some 63), (.mv (.t 5))⟩, ⟨none, (some 64), (.iaddr 1 (.t 63) (.k (.v (.int .i64 (0)))))⟩, ⟨none, (some 65), (.ld false 1 (.t 64))⟩, ⟨none, (some 66), (.mv (.t 4))⟩, ⟨none, (some 67), (.bin .sub .none (.t 66) (.k (.v (.int .i64 (1)))))⟩, ⟨none, (some 68), (.mv (.t 0))⟩, ⟨none, (some 69), (.bslice 1 (.v (.int .i64 (0))) 2 [(0, (.k (.v (.int .i64 (0))))), (1, (.k (.v (.int .i64 (10)))))])⟩, ⟨none, (some 70), (.call n_s_l1Cur_among [(.t 68), (.t 69)])⟩, ⟨none, (some 71), (.iaddr 1 (.t 65) (.t 67))⟩, ⟨none, none, (.st 1 (.t 71) (.t 70))⟩]
def p_s_l1Cur_banner_19 : List (List Nat) := [[], [0], [0, 1], [], [3], [], [], [5, 6], [0, 1, 2, 3, 4, 5, 6, 7], [0, 1, 2, 3, 4, 5, 6, 7, 8]]
def r_s_l1Cur_banner_20 : List CO := [⟨none, (some 73), (.bin .eql .none (.t 47) (.k (.v (.int .i64 (2)))))⟩, ⟨none, (some 72), (.mv (.t 73))⟩]
def r_s_l1Cur_banner_21 : List CO := [⟨none, (some 74), (.mv (.t 5))⟩, ⟨none, (some 75), (.slc (some 1) (.t 74) none (some (.k (.v (.int .i64 (0))))))⟩, ⟨none, (some 5), (.mv (.t 75))⟩]
def r_s_l1Cur_banner_22 : List CO := [⟨none, (some 77), (.bin .eql .none (.t 47) (.k (.v (.int .i64 (3)))))⟩, ⟨none, (some 76), (.mv (.t 77))⟩]
def r_s_l1Cur_banner_23 : List CO := [⟨none, (some 78), (.mv (.t 5))⟩, ⟨none, (some 79), (.len false (.t 78))⟩, ⟨none, (some 80), (.mv (.t 0))⟩, ⟨none, (some 81), (.call n_s_l1Cur_pick [(.t 80), (.k (.v (.int .i64 (2))))])⟩, ⟨none, (some 82), (.bin .add .none (.k (.v (.int .i64 (60)))) (.t 81))⟩, ⟨none, (some 83), (.bin .lss .none (.t 79) (.t 82))⟩]
def r_s_l1Cur_banner_24 : List CO := [⟨none, (some 84), (.mv (.t 5))⟩, ⟨none, (some 85), (.mv (.t 5))⟩, ⟨none, (some 86), (.iaddr 1 (.t 85) (.k (.v (.int .i64 (0)))))⟩, ⟨none, (some 87), (.ld false 1 (.t 86))⟩, ⟨none, (some 88), (.bslice 1 (.v (.slice none 0 0)) 1 [(0, (.t 87))])⟩, ⟨none, (some 89), (.app 1 24 (.t 84) (.t 88))⟩, ⟨none, (some 5), (.mv (.t 89))⟩]
def l_s_l1Cur_banner_25 : C := (.seq (.seq (.reg r_s_l1Cur_banner_23 [0, 5, 83]) (.cond (.t 83) .skip (.exit 5))) (.block 6 (.reg r_s_l1Cur_banner_24 [0, 5])))
def r_s_l1Cur_banner_26 : List CO := [⟨none, (some 90), (.mv (.t 5))⟩, ⟨none, (some 2), (.mv (.t 90))⟩]
/-- (*loop.example/g00884/spec.l1Cur).banner -/
def c_s_l1Cur_banner : C := (.seq (.reg r_s_l1Cur_banner_0 [0]) (.seq (.reg r_s_l1Cur_banner_1 [0, 3, 4]) (.seq (.reg r_s_l1Cur_banner_2 [0, 3, 4, 5]) (.seq (.reg r_s_l1Cur_banner_3 [0, 3, 4, 5, 6, 7]) (.seq (.seq (.reg r_s_l1Cur_banner_4 [0, 3, 4, 5, 6, 7, 8]) (.block 0 (.loop l_s_l1Cur_banner_14))) (.seq (.seq (.reg r_s_l1Cur_banner_15 [0, 3, 4, 5, 47]) (.block 4 (.seq (.reg r_s_l1Cur_banner_16 [0, 3, 4, 5, 47, 48]) (.cond (.t 48) (.wk (.reg r_s_l1Cur_banner_17 [5])) (.seq (.reg r_s_l1Cur_banner_18 [0, 4, 5, 47, 61]) (.cond (.t 61) (.wk (.regD r_s_l1Cur_banner_19 p_s_l1Cur_banner_19 [5])) (.seq (.reg r_s_l1Cur_banner_20 [0, 5, 47, 72]) (.cond (.t 72) (.reg r_s_l1Cur_banner_21 [5]) (.seq (.wk (.reg r_s_l1Cur_banner_22 [0, 5, 76])) (.cond (.t 76) (.block 5 (.loop l_s_l1Cur_banner_25)) .skip)))))))))) (.seq (.wk (.reg r_s_l1Cur_banner_26 [2])) .ret)))))))
def k_s_l1Cur_banner : Nat → List Nat
  | 0 => [0]
  | 1 => [0, 3, 4]
  | 2 => [0, 3, 4, 5]
  | 3 => [0, 3, 4, 5, 6, 7]
  | 4 => [0, 3, 4, 5, 6, 7, 8]
  | 5 => [0, 3, 4, 5, 6, 7, 8, 24]
  | 7 => [0, 3, 4, 5, 6, 7, 8, 9]
  | 8 => [0, 3, 4, 5, 6, 7, 8, 9, 10]
  | 9 => [0, 3, 4, 5, 6, 7, 8, 9, 10, 30]
  | 11 => [0, 3, 4, 5, 6, 7, 8, 9, 10]
  | 10 => [0, 3, 4, 5, 6, 7, 8, 9, 10]
  | 12 => [0, 3, 4, 5, 6, 7, 8]
  | 6 => [0, 3, 4, 5, 6, 7, 8]
  | 13 => [0, 3, 4, 5, 47]
  | 14 => [0, 3, 4, 5, 47, 48]
  | 15 => [999999, 5]
  | 16 => [0, 4, 5, 47, 61]
  | 17 => [999999, 5]
  | 18 => [0, 5, 47, 72]
  | 19 => [5]
  | 20 => [999999, 0, 5, 76]
  | 21 => [0, 5, 83]
  | 22 => [0, 5]
  | 23 => [999999, 2]
  | _ => []
theorem fn_s_l1Cur_banner : FnC Try.prog n_s_l1Cur_banner c_s_l1Cur_banner [(.tmp 2)] 91 :=
  ⟨Try.f57, _, k_s_l1Cur_banner, Try.func57, rfl, by kernel_rfl, by kernel_rfl, by kernel_rfl, rfl⟩
end Go.Proofs.Ytgefdcllialhkaa
