/- The compact code of the functions, and that it is theirs: written by a program of this claim. -/
import Derived.Test.YtopcfaffljjnbaaDoorNums
namespace Go.Proofs.YtopcfaffljjnbaaDoor
open Go.Abs
set_option maxRecDepth 100000
def r_s_l1Cur_motto_0 : List CO := [⟨none, (some 2), (.mv (.k (.v (.string (bs [])))))⟩]
def r_s_l1Cur_motto_1 : List CO := [⟨none, (some 6), (.bslice 1 (.v (.string (bs []))) 0 [])⟩, ⟨none, (some 3), (.mv (.t 6))⟩]
def r_s_l1Cur_motto_2 : List CO := [⟨none, (some 7), (.mv (.t 0))⟩, ⟨none, (some 8), (.call n_s_l1Cur_pick [(.t 7), (.k (.v (.int .i64 (8))))])⟩, ⟨none, (some 9), (.bin .add .none (.k (.v (.int .i64 (1)))) (.t 8))⟩, ⟨none, (some 4), (.mv (.t 9))⟩]
def r_s_l1Cur_motto_3 : List CO := [⟨none, (some 10), (.mv (.t 4))⟩, ⟨none, (some 11), (.bin .gtr .none (.t 10) (.k (.v (.int .i64 (0)))))⟩]
def r_s_l1Cur_motto_4 : List CO := [⟨none, (some 14), (.mv (.t 3))⟩, ⟨none, (some 15), (.mv (.t 0))⟩, ⟨none, (some 16), (.bslice 1 (.v (.string (bs []))) 9 [(0, (.k (.v (.string (bs [83, 69, 77, 80, 69, 82]))))), (1, (.k (.v (.string (bs [70, 73, 68, 69, 76, 73, 83]))))), (2, (.k (.v (.string (bs [69, 84]))))), (3, (.k (.v (.string (bs [73, 78]))))), (4, (.k (.v (.string (bs [86, 69, 82, 73, 84, 65, 83]))))), (5, (.k (.v (.string (bs [65]))))), (6, (.k (.v (.string (bs [80, 69, 82]))))), (7, (.k (.v (.string (bs [65, 82, 68, 85, 65]))))), (8, (.k (.v (.string (bs [76, 85, 88])))))])⟩, ⟨none, (some 17), (.call n_s_l1Cur_of [(.t 15), (.t 16)])⟩, ⟨none, (some 18), (.bslice 1 (.v (.string (bs []))) 1 [(0, (.t 17))])⟩, ⟨none, (some 19), (.app 1 16 (.t 14) (.t 18))⟩, ⟨none, (some 3), (.mv (.t 19))⟩]
def r_s_l1Cur_motto_5 : List CO := [⟨none, (some 12), (.mv (.t 4))⟩, ⟨none, (some 13), (.bin .sub .none (.t 12) (.k (.v (.int .i64 (1)))))⟩, ⟨none, (some 4), (.mv (.t 13))⟩]
def l_s_l1Cur_motto_6 : C := (.seq (.seq (.reg r_s_l1Cur_motto_3 [0, 3, 4, 11]) (.cond (.t 11) .skip (.exit 0))) (.seq (.block 1 (.reg r_s_l1Cur_motto_4 [0, 3, 4])) (.reg r_s_l1Cur_motto_5 [0, 3, 4])))
def r_s_l1Cur_motto_7 : List CO := [⟨none, (some 20), (.mv (.t 3))⟩, ⟨none, (some 21), (.mv (.t 3))⟩, ⟨none, (some 22), (.len false (.t 21))⟩, ⟨none, (some 23), (.call n_s_l23Line [(.t 20), (.k (.v (.int .i64 (0)))), (.t 22)])⟩, ⟨none, (some 5), (.mv (.t 23))⟩]
def r_s_l1Cur_motto_8 : List CO := [⟨none, (some 24), (.mv (.t 0))⟩, ⟨none, (some 25), (.call n_s_l1Cur_pick [(.t 24), (.k (.v (.int .i64 (30))))])⟩]
def r_s_l1Cur_motto_9 : List CO := [⟨none, (some 27), (.bin .eql .none (.t 25) (.k (.v (.int .i64 (0)))))⟩, ⟨none, (some 26), (.mv (.t 27))⟩]
def r_s_l1Cur_motto_10 : List CO := [⟨none, (some 28), (.mv (.t 0))⟩, ⟨none, (some 29), (.mv (.t 5))⟩, ⟨none, (some 30), (.call n_s_l1Cur_spoilt [(.t 28), (.t 29), (.k (.v (.string (bs [32, 65, 97]))))])⟩, ⟨none, (some 5), (.mv (.t 30))⟩]
def r_s_l1Cur_motto_11 : List CO := [⟨none, (some 32), (.bin .eql .none (.t 25) (.k (.v (.int .i64 (1)))))⟩, ⟨none, (some 31), (.mv (.t 32))⟩]
def r_s_l1Cur_motto_12 : List CO := [⟨none, (some 5), (.mv (.k (.v (.string (bs [])))))⟩]
def r_s_l1Cur_motto_13 : List CO := [⟨none, (some 34), (.bin .eql .none (.t 25) (.k (.v (.int .i64 (2)))))⟩, ⟨none, (some 33), (.mv (.t 34))⟩]
def r_s_l1Cur_motto_14 : List CO := [⟨none, (some 35), (.mv (.t 5))⟩, ⟨none, (some 36), (.len true (.t 35))⟩, ⟨none, (some 37), (.mv (.t 0))⟩, ⟨none, (some 38), (.call n_s_l1Cur_pick [(.t 37), (.k (.v (.int .i64 (2))))])⟩, ⟨none, (some 39), (.bin .add .none (.k (.v (.int .i64 (60)))) (.t 38))⟩, ⟨none, (some 40), (.bin .lss .none (.t 36) (.t 39))⟩]
def r_s_l1Cur_motto_15 : List CO := [⟨none, (some 41), (.mv (.t 5))⟩, ⟨none, (some 42), (.bin .add .none (.t 41) (.k (.v (.string (bs [88])))))⟩, ⟨none, (some 5), (.mv (.t 42))⟩]
def l_s_l1Cur_motto_16 : C := (.seq (.seq (.reg r_s_l1Cur_motto_14 [0, 5, 40]) (.cond (.t 40) .skip (.exit 3))) (.block 4 (.reg r_s_l1Cur_motto_15 [0, 5])))
def r_s_l1Cur_motto_17 : List CO := [⟨none, (some 43), (.mv (.t 5))⟩, ⟨none, (some 2), (.mv (.t 43))⟩]
/-- (*loop.example/g00884/spec.l1Cur).motto -/
def c_s_l1Cur_motto : C := (.seq (.reg r_s_l1Cur_motto_0 [0]) (.seq (.reg r_s_l1Cur_motto_1 [0, 3]) (.seq (.seq (.reg r_s_l1Cur_motto_2 [0, 3, 4]) (.block 0 (.loop l_s_l1Cur_motto_6))) (.seq (.reg r_s_l1Cur_motto_7 [0, 5]) (.seq (.seq (.reg r_s_l1Cur_motto_8 [0, 5, 25]) (.block 2 (.seq (.reg r_s_l1Cur_motto_9 [0, 5, 25, 26]) (.cond (.t 26) (.reg r_s_l1Cur_motto_10 [5]) (.seq (.reg r_s_l1Cur_motto_11 [0, 5, 25, 31]) (.cond (.t 31) (.reg r_s_l1Cur_motto_12 [5]) (.seq (.reg r_s_l1Cur_motto_13 [0, 5, 33]) (.cond (.t 33) (.block 3 (.loop l_s_l1Cur_motto_16)) .skip)))))))) (.seq (.reg r_s_l1Cur_motto_17 [2]) .ret))))))
def k_s_l1Cur_motto : Nat → List Nat
  | 0 => [0]
  | 1 => [0, 3]
  | 2 => [0, 3, 4]
  | 3 => [0, 3, 4, 11]
  | 5 => [0, 3, 4]
  | 4 => [0, 3, 4]
  | 6 => [0, 5]
  | 7 => [0, 5, 25]
  | 8 => [0, 5, 25, 26]
  | 9 => [5]
  | 10 => [0, 5, 25, 31]
  | 11 => [5]
  | 12 => [0, 5, 33]
  | 13 => [0, 5, 40]
  | 14 => [0, 5]
  | 15 => [2]
  | _ => []
theorem fn_s_l1Cur_motto : FnC Tryd.prog n_s_l1Cur_motto c_s_l1Cur_motto [(.tmp 2)] 44 :=
  ⟨Tryd.f30, _, k_s_l1Cur_motto, Tryd.func30, rfl, by kernel_rfl, by kernel_rfl, by kernel_rfl, rfl⟩
def r_s_l1Cur_scroll_0 : List CO := [⟨none, (some 2), (.mv (.k (.v (.int .i64 (0)))))⟩]
def r_s_l1Cur_scroll_1 : List CO := [⟨none, (some 3), (.mv (.t 0))⟩, ⟨none, (some 4), (.bslice 1 (.v (.int .i64 (0))) 10 [(0, (.k (.v (.int .i64 (7))))), (1, (.k (.v (.int .i64 (8))))), (2, (.k (.v (.int .i64 (10))))), (3, (.k (.v (.int .i64 (12))))), (4, (.k (.v (.int .i64 (15))))), (5, (.k (.v (.int .i64 (20))))), (6, (.k (.v (.int .i64 (40))))), (7, (.k (.v (.int .i64 (6))))), (8, (.k (.v (.int .i64 (0))))), (9, (.k (.v (.int .i64 (41)))))])⟩, ⟨none, (some 5), (.mv (.t 0))⟩, ⟨none, (some 6), (.call n_s_l1Cur_pick [(.t 5), (.k (.v (.int .i64 (24))))])⟩, ⟨none, (some 7), (.bin .quo .none (.t 6) (.k (.v (.int .i64 (11)))))⟩, ⟨none, (some 8), (.bin .add .none (.k (.v (.int .i64 (8)))) (.t 7))⟩, ⟨none, (some 9), (.slc (some 1) (.t 4) none (some (.t 8)))⟩, ⟨none, (some 10), (.call n_s_l1Cur_among [(.t 3), (.t 9)])⟩, ⟨none, (some 2), (.mv (.t 10))⟩]
/-- (*loop.example/g00884/spec.l1Cur).scroll -/
def c_s_l1Cur_scroll : C := (.seq (.reg r_s_l1Cur_scroll_0 [0]) (.seq (.reg r_s_l1Cur_scroll_1 [2]) .ret))
def k_s_l1Cur_scroll : Nat → List Nat
  | 0 => [0]
  | 1 => [2]
  | _ => []
theorem fn_s_l1Cur_scroll : FnC Tryd.prog n_s_l1Cur_scroll c_s_l1Cur_scroll [(.tmp 2)] 11 :=
  ⟨Tryd.f31, _, k_s_l1Cur_scroll, Tryd.func31, rfl, by kernel_rfl, by kernel_rfl, by kernel_rfl, rfl⟩
def r_s_DrawFillLines_0 : List CO := [⟨none, (some 2), (.mv (.k (.v (.string (bs [])))))⟩, ⟨none, (some 3), (.mv (.k (.v (.int .i64 (0)))))⟩]
def r_s_DrawFillLines_1 : List CO := [⟨none, (some 6), (.mv (.t 0))⟩, ⟨none, (some 7), (.build (.agg [(.v (.slice none 0 0)), (.v (.int .i64 (0))), (.v (.int .u64 (0)))]) [(0, (1, (.t 6)))])⟩, ⟨none, (some 8), (.box 3 (.t 7))⟩, ⟨none, (some 4), (.mv (.t 8))⟩]
def r_s_DrawFillLines_2 : List CO := [⟨none, (some 9), (.mv (.t 4))⟩, ⟨none, (some 10), (.call n_s_l1Cur_motto [(.t 9)])⟩, ⟨none, (some 5), (.mv (.t 10))⟩]
def r_s_DrawFillLines_3 : List CO := [⟨none, (some 11), (.mv (.t 5))⟩, ⟨none, (some 12), (.mv (.t 4))⟩, ⟨none, (some 13), (.call n_s_l1Cur_scroll [(.t 12)])⟩, ⟨none, (some 2), (.mv (.t 11))⟩, ⟨none, (some 3), (.mv (.t 13))⟩]
/-- loop.example/g00884/spec.DrawFillLines -/
def c_s_DrawFillLines : C := (.seq (.reg r_s_DrawFillLines_0 [0]) (.seq (.reg r_s_DrawFillLines_1 [4]) (.seq (.reg r_s_DrawFillLines_2 [4, 5]) (.seq (.reg r_s_DrawFillLines_3 [2, 3]) .ret))))
def k_s_DrawFillLines : Nat → List Nat
  | 0 => [0]
  | 1 => [4]
  | 2 => [4, 5]
  | 3 => [2, 3]
  | _ => []
theorem fn_s_DrawFillLines : FnC Tryd.prog n_s_DrawFillLines c_s_DrawFillLines [(.tmp 2), (.tmp 3)] 14 :=
  ⟨Tryd.f15, _, k_s_DrawFillLines, Tryd.func15, rfl, by kernel_rfl, by kernel_rfl, by kernel_rfl, rfl⟩
def r_s_DrawEvenLines_0 : List CO := [⟨none, (some 2), (.mv (.k (.v (.string (bs [])))))⟩, ⟨none, (some 3), (.mv (.k (.v (.int .i64 (0)))))⟩]
def r_s_DrawEvenLines_1 : List CO := [⟨none, (some 4), (.mv (.t 0))⟩, ⟨none, (some 5), (.call n_s_DrawFillLines [(.t 4)])⟩, ⟨none, (some 6), (.ext (.t 5) 0)⟩, ⟨none, (some 7), (.ext (.t 5) 1)⟩, ⟨none, (some 2), (.mv (.t 6))⟩, ⟨none, (some 3), (.mv (.t 7))⟩]
/-- loop.example/g00884/spec.DrawEvenLines -/
def c_s_DrawEvenLines : C := (.seq (.reg r_s_DrawEvenLines_0 [0]) (.seq (.reg r_s_DrawEvenLines_1 [2, 3]) .ret))
def k_s_DrawEvenLines : Nat → List Nat
  | 0 => [0]
  | 1 => [2, 3]
  | _ => []
theorem fn_s_DrawEvenLines : FnC Tryd.prog n_s_DrawEvenLines c_s_DrawEvenLines [(.tmp 2), (.tmp 3)] 8 :=
  ⟨Tryd.f5, _, k_s_DrawEvenLines, Tryd.func5, rfl, by kernel_rfl, by kernel_rfl, by kernel_rfl, rfl⟩
end Go.Proofs.YtopcfaffljjnbaaDoor
