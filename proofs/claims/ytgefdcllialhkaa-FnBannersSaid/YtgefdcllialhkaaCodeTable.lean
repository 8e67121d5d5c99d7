/- The compact code of the functions, and that it is theirs: written by a program of this claim. -/
import Derived.Test.YtgefdcllialhkaaNums
namespace Go.Proofs.Ytgefdcllialhkaa
open Go.Abs
set_option maxRecDepth 100000
def r_i_table_0 : List CO := [⟨none, (some 6), (.mv (.k (.v (.slice none 0 0))))⟩]
def r_i_table_1 : List CO := [⟨none, (some 10), (.mv (.t 0))⟩, ⟨none, (some 11), (.mks 1 (.v (.slice none 0 0)) 24 (.t 10) (.t 10))⟩, ⟨none, (some 7), (.mv (.t 11))⟩]
def r_i_table_2 : List CO := [⟨none, (some 12), (.mv (.t 7))⟩, ⟨none, (some 13), (.len false (.t 12))⟩, ⟨none, (some 14), (.mv (.k (.v (.int .i64 (0)))))⟩]
def r_i_table_3 : List CO := [⟨none, (some 15), (.bin .lss .none (.t 14) (.t 13))⟩]
def r_i_table_4 : List CO := [⟨none, (some 16), (.mv (.t 14))⟩, ⟨none, (some 8), (.mv (.t 16))⟩]
def r_i_table_5 : List CO := [⟨none, (some 17), (.mv (.t 1))⟩, ⟨none, (some 18), (.mv (.k (.v (.int .i64 (0)))))⟩]
def r_i_table_6 : List CO := [⟨none, (some 19), (.bin .lss .none (.t 18) (.t 17))⟩]
def r_i_table_7 : List CO := [⟨none, (some 20), (.mv (.t 18))⟩, ⟨none, (some 9), (.mv (.t 20))⟩]
def r_i_table_8 : List CO := [⟨none, (some 21), (.mv (.t 7))⟩, ⟨none, (some 22), (.mv (.t 8))⟩, ⟨none, (some 23), (.mv (.t 7))⟩, ⟨none, (some 24), (.mv (.t 8))⟩, ⟨none, (some 25), (.iaddr 1 (.t 23) (.t 24))⟩, ⟨none, (some 26), (.ld false 1 (.t 25))⟩, ⟨none, (some 27), (.mv (.t 2))⟩, ⟨none, (some 28), (.mv (.t 9))⟩, ⟨none, (some 29), (.mv (.t 8))⟩, ⟨none, (some 30), (.callv (.t 27) [(.t 28), (.t 29)])⟩, ⟨none, (some 31), (.bslice 1 (.v (.int .i64 (0))) 1 [(0, (.t 30))])⟩, ⟨none, (some 32), (.app 1 8 (.t 26) (.t 31))⟩, ⟨none, (some 33), (.iaddr 1 (.t 21) (.t 22))⟩, ⟨none, none, (.st 1 (.t 33) (.t 32))⟩]
def p_i_table_8 : List (List Nat) := [[], [], [], [], [2, 3], [2, 3, 4], [], [], [], [6, 7, 8], [6, 7, 8, 9], [2, 3, 4, 5, 6, 7, 8, 9, 10], [0, 1, 2, 3, 4, 5, 6, 7, 8, 9, 10, 11], [0, 1, 2, 3, 4, 5, 6, 7, 8, 9, 10, 11, 12]]
def r_i_table_9 : List CO := [⟨none, (some 34), (.bin .add .none (.t 18) (.k (.v (.int .i64 (1)))))⟩, ⟨none, (some 18), (.mv (.t 34))⟩]
def l_i_table_10 : C := (.seq (.reg r_i_table_6 [1, 2, 7, 8, 13, 14, 17, 18, 19]) (.seq (.cond (.t 19) .skip (.exit 2)) (.seq (.block 3 (.seq (.reg r_i_table_7 [1, 2, 7, 8, 9, 13, 14, 17, 18]) (.wk (.regD r_i_table_8 p_i_table_8 [1, 2, 7, 8, 13, 14, 17, 18])))) (.reg r_i_table_9 [1, 2, 7, 8, 13, 14, 17, 18]))))
def r_i_table_11 : List CO := [⟨none, (some 35), (.bin .add .none (.t 14) (.k (.v (.int .i64 (1)))))⟩, ⟨none, (some 14), (.mv (.t 35))⟩]
def l_i_table_12 : C := (.seq (.reg r_i_table_3 [1, 2, 7, 13, 14, 15]) (.seq (.cond (.t 15) .skip (.exit 0)) (.seq (.block 1 (.seq (.reg r_i_table_4 [1, 2, 7, 8, 13, 14]) (.seq (.reg r_i_table_5 [1, 2, 7, 8, 13, 14, 17, 18]) (.block 2 (.loop l_i_table_10))))) (.reg r_i_table_11 [1, 2, 7, 13, 14]))))
def r_i_table_13 : List CO := [⟨none, (some 36), (.mv (.t 7))⟩, ⟨none, (some 6), (.mv (.t 36))⟩]
/-- loop.example/g00884/impl.table -/
def c_i_table : C := (.seq (.reg r_i_table_0 [0, 1, 2]) (.seq (.reg r_i_table_1 [1, 2, 7]) (.seq (.seq (.reg r_i_table_2 [1, 2, 7, 13, 14]) (.block 0 (.loop l_i_table_12))) (.seq (.reg r_i_table_13 [6]) .ret))))
def k_i_table : Nat → List Nat
  | 0 => [0, 1, 2]
  | 1 => [1, 2, 7]
  | 2 => [1, 2, 7, 13, 14]
  | 3 => [1, 2, 7, 13, 14, 15]
  | 4 => [1, 2, 7, 8, 13, 14]
  | 5 => [1, 2, 7, 8, 13, 14, 17, 18]
  | 6 => [1, 2, 7, 8, 13, 14, 17, 18, 19]
  | 7 => [1, 2, 7, 8, 9, 13, 14, 17, 18]
  | 8 => [999999, 1, 2, 7, 8, 13, 14, 17, 18]
  | 9 => [1, 2, 7, 8, 13, 14, 17, 18]
  | 10 => [1, 2, 7, 13, 14]
  | 11 => [6]
  | _ => []
theorem fn_i_table : FnC Try.prog n_i_table c_i_table [(.tmp 6)] 37 :=
  ⟨Try.f60, _, k_i_table, Try.func60, rfl, by kernel_rfl, by kernel_rfl, by kernel_rfl, rfl⟩
end Go.Proofs.Ytgefdcllialhkaa
