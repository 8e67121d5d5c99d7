/- The compact code of the functions, and that it is theirs: written by a program of this claim. -/
import Derived.Test.YtgefdcllialhkaaNums
namespace Go.Proofs.Ytgefdcllialhkaa
open Go.Abs
set_option maxRecDepth 100000
def r_s_l1Cur_picture_0 : List CO := [⟨none, (some 2), (.mv (.k (.v (.slice none 0 0))))⟩]
def r_s_l1Cur_picture_1 : List CO := [⟨none, (some 12), (.mv (.t 0))⟩, ⟨none, (some 13), (.call n_s_l1Cur_field [(.t 12)])⟩, ⟨none, (some 14), (.call n_s_FieldPicture [(.t 13)])⟩, ⟨none, (some 11), (.mv (.t 14))⟩, ⟨none, (some 15), (.ext (.t 11) 0)⟩, ⟨none, (some 16), (.ext (.t 11) 1)⟩, ⟨none, (some 3), (.mv (.t 15))⟩, ⟨none, (some 4), (.mv (.t 16))⟩]
def r_s_l1Cur_picture_2 : List CO := [⟨none, (some 17), (.mv (.t 0))⟩, ⟨none, (some 18), (.call n_s_l1Cur_pick [(.t 17), (.k (.v (.int .i64 (4))))])⟩, ⟨none, (some 5), (.mv (.t 18))⟩]
def r_s_l1Cur_picture_3 : List CO := [⟨none, (some 19), (.mv (.t 5))⟩, ⟨none, (some 20), (.bin .gtr .none (.t 19) (.k (.v (.int .i64 (0)))))⟩]
def r_s_l1Cur_picture_4 : List CO := [⟨none, (some 24), (.mv (.t 0))⟩, ⟨none, (some 25), (.call n_s_l1Cur_pick [(.t 24), (.k (.v (.int .i64 (7))))])⟩, ⟨none, (some 26), (.bin .add .none (.k (.v (.int .i64 (1)))) (.t 25))⟩, ⟨none, (some 27), (.call n_s_OrdinaryCells [(.t 26)])⟩, ⟨none, (some 23), (.mv (.t 27))⟩, ⟨none, (some 28), (.ext (.t 23) 0)⟩, ⟨none, (some 29), (.ext (.t 23) 1)⟩, ⟨none, (some 6), (.box 1 (.k (.agg [(.v (.slice none 0 0))])))⟩, ⟨none, none, (.st 1 (.t 6) (.t 28))⟩, ⟨none, (some 7), (.mv (.t 29))⟩]
def r_s_l1Cur_picture_5 : List CO := [⟨none, (some 30), (.mv (.t 0))⟩, ⟨none, (some 31), (.call n_s_l1Cur_tincture [(.t 30)])⟩, ⟨none, (some 8), (.mv (.t 31))⟩]
def r_s_l1Cur_picture_6 : List CO := [⟨none, (some 9), (.mv (.k (.v (.int .i64 (0)))))⟩]
def r_s_l1Cur_picture_7 : List CO := [⟨none, (some 32), (.mv (.t 9))⟩, ⟨none, (some 33), (.bin .lss .none (.t 32) (.k (.v (.int .i64 (24)))))⟩]
def r_s_l1Cur_picture_8 : List CO := [⟨none, (some 10), (.mv (.k (.v (.int .i64 (0)))))⟩]
def r_s_l1Cur_picture_9 : List CO := [⟨none, (some 36), (.mv (.t 10))⟩, ⟨none, (some 37), (.bin .lss .none (.t 36) (.k (.v (.int .i64 (20)))))⟩]
def r_s_l1Cur_picture_10 : List CO := [⟨none, (some 40), (.ld true 1 (.t 6))⟩, ⟨none, (some 41), (.mv (.t 10))⟩, ⟨none, (some 42), (.mv (.t 9))⟩, ⟨none, (some 43), (.call n_s_l9Has [(.t 40), (.t 41), (.t 42)])⟩]
def r_s_l1Cur_picture_11 : List CO := [⟨none, (some 44), (.mv (.t 3))⟩, ⟨none, (some 45), (.mv (.t 9))⟩, ⟨none, (some 46), (.iaddr 1 (.t 44) (.t 45))⟩, ⟨none, (some 47), (.ld false 1 (.t 46))⟩, ⟨none, (some 48), (.mv (.t 10))⟩, ⟨none, (some 49), (.mv (.t 8))⟩, ⟨none, (some 50), (.iaddr 1 (.t 47) (.t 48))⟩, ⟨none, none, (.st 1 (.t 50) (.t 49))⟩]
def r_s_l1Cur_picture_12 : List CO := [⟨none, (some 38), (.mv (.t 10))⟩, ⟨none, (some 39), (.bin .add .none (.t 38) (.k (.v (.int .i64 (1)))))⟩, ⟨none, (some 10), (.mv (.t 39))⟩]
def l_s_l1Cur_picture_13 : C := (.seq (.seq (.reg r_s_l1Cur_picture_9 [0, 3, 5, 6, 8, 9, 10, 37]) (.cond (.t 37) .skip (.exit 4))) (.seq (.block 5 (.seq (.reg r_s_l1Cur_picture_10 [0, 3, 5, 6, 8, 9, 10, 43]) (.cond (.t 43) (.wk (.reg r_s_l1Cur_picture_11 [0, 3, 5, 6, 8, 9, 10])) .skip))) (.wk (.reg r_s_l1Cur_picture_12 [0, 3, 5, 6, 8, 9, 10]))))
def r_s_l1Cur_picture_14 : List CO := [⟨none, (some 34), (.mv (.t 9))⟩, ⟨none, (some 35), (.bin .add .none (.t 34) (.k (.v (.int .i64 (1)))))⟩, ⟨none, (some 9), (.mv (.t 35))⟩]
def l_s_l1Cur_picture_15 : C := (.seq (.seq (.reg r_s_l1Cur_picture_7 [0, 3, 5, 6, 8, 9, 33]) (.cond (.t 33) .skip (.exit 2))) (.seq (.block 3 (.seq (.reg r_s_l1Cur_picture_8 [0, 3, 5, 6, 8, 9, 10]) (.block 4 (.loop l_s_l1Cur_picture_13)))) (.reg r_s_l1Cur_picture_14 [0, 3, 5, 6, 8, 9])))
def r_s_l1Cur_picture_16 : List CO := [⟨none, (some 21), (.mv (.t 5))⟩, ⟨none, (some 22), (.bin .sub .none (.t 21) (.k (.v (.int .i64 (1)))))⟩, ⟨none, (some 5), (.mv (.t 22))⟩]
def l_s_l1Cur_picture_17 : C := (.seq (.seq (.reg r_s_l1Cur_picture_3 [0, 3, 5, 20]) (.cond (.t 20) .skip (.exit 0))) (.seq (.block 1 (.seq (.reg r_s_l1Cur_picture_4 [0, 3, 5, 6]) (.seq (.reg r_s_l1Cur_picture_5 [0, 3, 5, 6, 8]) (.seq (.reg r_s_l1Cur_picture_6 [0, 3, 5, 6, 8, 9]) (.block 2 (.loop l_s_l1Cur_picture_15)))))) (.reg r_s_l1Cur_picture_16 [0, 3, 5])))
def r_s_l1Cur_picture_18 : List CO := [⟨none, (some 51), (.mv (.t 3))⟩, ⟨none, (some 2), (.mv (.t 51))⟩]
/-- (*loop.example/g00884/spec.l1Cur).picture -/
def c_s_l1Cur_picture : C := (.seq (.reg r_s_l1Cur_picture_0 [0]) (.seq (.reg r_s_l1Cur_picture_1 [0, 3]) (.seq (.seq (.reg r_s_l1Cur_picture_2 [0, 3, 5]) (.block 0 (.loop l_s_l1Cur_picture_17))) (.seq (.reg r_s_l1Cur_picture_18 [2]) .ret))))
def k_s_l1Cur_picture : Nat → List Nat
  | 0 => [0]
  | 1 => [0, 3]
  | 2 => [0, 3, 5]
  | 3 => [0, 3, 5, 20]
  | 5 => [0, 3, 5, 6]
  | 6 => [0, 3, 5, 6, 8]
  | 7 => [0, 3, 5, 6, 8, 9]
  | 8 => [0, 3, 5, 6, 8, 9, 33]
  | 10 => [0, 3, 5, 6, 8, 9, 10]
  | 11 => [0, 3, 5, 6, 8, 9, 10, 37]
  | 13 => [0, 3, 5, 6, 8, 9, 10, 43]
  | 14 => [999999, 0, 3, 5, 6, 8, 9, 10]
  | 12 => [999999, 0, 3, 5, 6, 8, 9, 10]
  | 9 => [0, 3, 5, 6, 8, 9]
  | 4 => [0, 3, 5]
  | 15 => [2]
  | _ => []
theorem fn_s_l1Cur_picture : FnC Try.prog n_s_l1Cur_picture c_s_l1Cur_picture [(.tmp 2)] 52 :=
  ⟨Try.f126, _, k_s_l1Cur_picture, Try.func126, rfl, by kernel_rfl, by kernel_rfl, by kernel_rfl, rfl⟩
end Go.Proofs.Ytgefdcllialhkaa
