/- The compact code of the functions, and that it is theirs: written by a program of this claim. -/
import Derived.Test.YtopcfaffljjnbaaDoorNums
namespace Go.Proofs.YtopcfaffljjnbaaDoor
open Go.Abs
set_option maxRecDepth 100000
def r_i_ReadScroll_0 : List CO := [⟨none, (some 2), (.mv (.k (.v (.string (bs [])))))⟩, ⟨none, (some 3), (.mv (.k (.v (.int .i64 (0)))))⟩, ⟨none, (some 4), (.mv (.k (.v (.bool false))))⟩]
def r_i_ReadScroll_1 : List CO := [⟨none, (some 15), (.mv (.t 0))⟩, ⟨none, (some 16), (.len true (.t 15))⟩, ⟨none, (some 17), (.bin .gtr .none (.t 16) (.k (.v (.int .i64 (4000)))))⟩]
def r_i_ReadScroll_2 : List CO := [⟨none, (some 2), (.mv (.k (.v (.string (bs [])))))⟩, ⟨none, (some 3), (.mv (.k (.v (.int .i64 (0)))))⟩, ⟨none, (some 4), (.mv (.k (.v (.bool false))))⟩]
def r_i_ReadScroll_3 : List CO := [⟨none, (some 18), (.mv (.t 0))⟩, ⟨none, (some 19), (.call n_strings_Split [(.t 18), (.k (.v (.string (bs [10]))))])⟩, ⟨none, (some 5), (.mv (.t 19))⟩]
def r_i_ReadScroll_4 : List CO := [⟨none, (some 20), (.bslice 1 (.v (.string (bs []))) 0 [])⟩, ⟨none, (some 21), (.mv (.t 5))⟩, ⟨none, (some 22), (.iaddr 1 (.t 21) (.k (.v (.int .i64 (0)))))⟩, ⟨none, (some 23), (.ld false 1 (.t 22))⟩, ⟨none, (some 24), (.len true (.t 23))⟩, ⟨none, (some 25), (.bin .sub .none (.t 24) (.k (.v (.int .i64 (4)))))⟩, ⟨none, (some 6), (.mv (.t 20))⟩, ⟨none, (some 7), (.mv (.t 25))⟩]
def p_i_ReadScroll_4 : List (List Nat) := [[], [], [1], [1, 2], [1, 2, 3], [1, 2, 3, 4], [0], [0, 1, 2, 3, 4, 5, 6]]
def r_i_ReadScroll_5 : List CO := [⟨none, (some 26), (.mv (.t 5))⟩, ⟨none, (some 27), (.slc (some 1) (.t 26) (some (.k (.v (.int .i64 (1))))) none)⟩, ⟨none, (some 28), (.len false (.t 27))⟩, ⟨none, (some 29), (.mv (.k (.v (.int .i64 (0)))))⟩]
def r_i_ReadScroll_6 : List CO := [⟨none, (some 30), (.bin .lss .none (.t 29) (.t 28))⟩]
def r_i_ReadScroll_7 : List CO := [⟨none, (some 31), (.iaddr 1 (.t 27) (.t 29))⟩, ⟨none, (some 32), (.ld false 1 (.t 31))⟩, ⟨none, (some 9), (.mv (.t 32))⟩]
def r_i_ReadScroll_8 : List CO := [⟨none, (some 34), (.mv (.t 9))⟩, ⟨none, (some 35), (.call n_strings_CutPrefix [(.t 34), (.k (.v (.string (bs [40, 32]))))])⟩, ⟨none, (some 33), (.mv (.t 35))⟩, ⟨none, (some 36), (.ext (.t 33) 0)⟩, ⟨none, (some 37), (.ext (.t 33) 1)⟩, ⟨none, (some 10), (.mv (.t 36))⟩, ⟨none, (some 11), (.mv (.t 37))⟩]
def r_i_ReadScroll_9 : List CO := [⟨none, (some 38), (.mv (.t 11))⟩]
def r_i_ReadScroll_10 : List CO := [⟨none, (some 39), (.mv (.t 6))⟩, ⟨none, (some 40), (.mv (.t 10))⟩, ⟨none, (some 41), (.call n_strings_TrimSuffix [(.t 40), (.k (.v (.string (bs [32, 41]))))])⟩, ⟨none, (some 42), (.call n_strings_Trim [(.t 41), (.k (.v (.string (bs [32]))))])⟩, ⟨none, (some 43), (.bslice 1 (.v (.string (bs []))) 1 [(0, (.t 42))])⟩, ⟨none, (some 44), (.app 1 16 (.t 39) (.t 43))⟩, ⟨none, (some 6), (.mv (.t 44))⟩]
def r_i_ReadScroll_11 : List CO := [⟨none, (some 45), (.bin .add .none (.t 29) (.k (.v (.int .i64 (1)))))⟩, ⟨none, (some 29), (.mv (.t 45))⟩]
def l_i_ReadScroll_12 : C := (.seq (.reg r_i_ReadScroll_6 [0, 6, 7, 27, 28, 29, 30]) (.seq (.cond (.t 30) .skip (.exit 0)) (.seq (.block 1 (.seq (.reg r_i_ReadScroll_7 [0, 6, 7, 9, 27, 28, 29]) (.seq (.reg r_i_ReadScroll_8 [0, 6, 7, 10, 11, 27, 28, 29]) (.seq (.reg r_i_ReadScroll_9 [0, 6, 7, 10, 27, 28, 29, 38]) (.cond (.t 38) (.reg r_i_ReadScroll_10 [0, 6, 7, 27, 28, 29]) .skip))))) (.reg r_i_ReadScroll_11 [0, 6, 7, 27, 28, 29]))))
def r_i_ReadScroll_13 : List CO := [⟨none, (some 46), (.mv (.t 6))⟩, ⟨none, (some 47), (.call n_strings_Join [(.t 46), (.k (.v (.string (bs [32]))))])⟩, ⟨none, (some 12), (.mv (.t 47))⟩]
def r_i_ReadScroll_14 : List CO := [⟨none, (some 49), (.mv (.t 12))⟩, ⟨none, (some 50), (.mv (.t 7))⟩, ⟨none, (some 51), (.call n_i_ScrollPicture [(.t 49), (.t 50)])⟩, ⟨none, (some 48), (.mv (.t 51))⟩, ⟨none, (some 52), (.ext (.t 48) 0)⟩, ⟨none, (some 53), (.ext (.t 48) 1)⟩, ⟨none, (some 13), (.mv (.t 52))⟩, ⟨none, (some 14), (.mv (.t 53))⟩]
def r_i_ReadScroll_15 : List CO := [⟨none, (some 54), (.mv (.t 14))⟩, ⟨none, (some 55), (.un .not (.t 54))⟩, ⟨none, (some 56), (.mv (.t 55))⟩, ⟨(some (56, false)), (some 57), (.mv (.t 13))⟩, ⟨(some (56, false)), (some 58), (.mv (.t 0))⟩, ⟨(some (56, false)), (some 59), (.bin .neq .none (.t 57) (.t 58))⟩, ⟨none, (some 60), (.pick (.t 56) (.k (.v (.bool true))) (.t 59))⟩]
def r_i_ReadScroll_16 : List CO := [⟨none, (some 2), (.mv (.k (.v (.string (bs [])))))⟩, ⟨none, (some 3), (.mv (.k (.v (.int .i64 (0)))))⟩, ⟨none, (some 4), (.mv (.k (.v (.bool false))))⟩]
def r_i_ReadScroll_17 : List CO := [⟨none, (some 61), (.mv (.t 12))⟩, ⟨none, (some 62), (.mv (.t 7))⟩, ⟨none, (some 2), (.mv (.t 61))⟩, ⟨none, (some 3), (.mv (.t 62))⟩, ⟨none, (some 4), (.mv (.k (.v (.bool true))))⟩]
/-- loop.example/g00884/impl.ReadScroll -/
def c_i_ReadScroll : C := (.seq (.reg r_i_ReadScroll_0 [0]) (.seq (.seq (.reg r_i_ReadScroll_1 [0, 17]) (.cond (.t 17) (.seq (.reg r_i_ReadScroll_2 [2, 3, 4]) .ret) .skip)) (.seq (.reg r_i_ReadScroll_3 [0, 5]) (.seq (.regD r_i_ReadScroll_4 p_i_ReadScroll_4 [0, 5, 6, 7]) (.seq (.seq (.reg r_i_ReadScroll_5 [0, 6, 7, 27, 28, 29]) (.block 0 (.loop l_i_ReadScroll_12))) (.seq (.reg r_i_ReadScroll_13 [0, 7, 12]) (.seq (.seq (.reg r_i_ReadScroll_14 [0, 7, 12, 13, 14]) (.seq (.reg r_i_ReadScroll_15 [7, 12, 60]) (.cond (.t 60) (.seq (.reg r_i_ReadScroll_16 [2, 3, 4]) .ret) .skip))) (.seq (.reg r_i_ReadScroll_17 [2, 3, 4]) .ret))))))))
def k_i_ReadScroll : Nat → List Nat
  | 0 => [0]
  | 1 => [0, 17]
  | 2 => [2, 3, 4]
  | 3 => [0, 5]
  | 4 => [0, 5, 6, 7]
  | 5 => [0, 6, 7, 27, 28, 29]
  | 6 => [0, 6, 7, 27, 28, 29, 30]
  | 7 => [0, 6, 7, 9, 27, 28, 29]
  | 8 => [0, 6, 7, 10, 11, 27, 28, 29]
  | 9 => [0, 6, 7, 10, 27, 28, 29, 38]
  | 10 => [0, 6, 7, 27, 28, 29]
  | 11 => [0, 6, 7, 27, 28, 29]
  | 12 => [0, 7, 12]
  | 13 => [0, 7, 12, 13, 14]
  | 14 => [7, 12, 60]
  | 15 => [2, 3, 4]
  | 16 => [2, 3, 4]
  | _ => []
theorem fn_i_ReadScroll : FnC Tryd.prog n_i_ReadScroll c_i_ReadScroll [(.tmp 2), (.tmp 3), (.tmp 4)] 63 :=
  ⟨Tryd.f14, _, k_i_ReadScroll, Tryd.func14, rfl, by kernel_rfl, by kernel_rfl, by kernel_rfl, rfl⟩
end Go.Proofs.YtopcfaffljjnbaaDoor
