/- The compact code of the functions, and that it is theirs: written by a program of this claim. -/
import Derived.Test.YtgefdcllialhkaaNums
namespace Go.Proofs.Ytgefdcllialhkaa
open Go.Abs
set_option maxRecDepth 100000
def r_s_l1Cur_tariff_0 : List CO := [⟨none, (some 2), (.box 4 (.k (.agg [(.v (.slice none 0 0)), (.v (.int .i64 (0))), (.v (.int .i64 (0))), (.v (.int .i64 (0)))])))⟩]
def r_s_l1Cur_tariff_1 : List CO := [⟨none, (some 4), (.bslice 1 (.v (.int .i64 (0))) 5 [(0, (.k (.v (.int .i64 (100))))), (1, (.k (.v (.int .i64 (200))))), (2, (.k (.v (.int .i64 (300))))), (3, (.k (.v (.int .i64 (400))))), (4, (.k (.v (.int .i64 (500)))))])⟩, ⟨none, (some 5), (.mv (.t 0))⟩, ⟨none, (some 6), (.bslice 1 (.v (.int .i64 (0))) 3 [(0, (.k (.v (.int .i64 (0))))), (1, (.k (.v (.int .i64 (10))))), (2, (.k (.v (.int .i64 (50)))))])⟩, ⟨none, (some 7), (.call n_s_l1Cur_among [(.t 5), (.t 6)])⟩, ⟨none, (some 8), (.mv (.t 0))⟩, ⟨none, (some 9), (.bslice 1 (.v (.int .i64 (0))) 5 [(0, (.k (.v (.int .i64 (0))))), (1, (.k (.v (.int .i64 (10))))), (2, (.k (.v (.int .i64 (33))))), (3, (.k (.v (.int .i64 (100))))), (4, (.k (.v (.int .i64 (500)))))])⟩, ⟨none, (some 10), (.call n_s_l1Cur_among [(.t 8), (.t 9)])⟩, ⟨none, (some 11), (.mv (.t 0))⟩, ⟨none, (some 12), (.bslice 1 (.v (.int .i64 (0))) 4 [(0, (.k (.v (.int .i64 (0))))), (1, (.k (.v (.int .i64 (50))))), (2, (.k (.v (.int .i64 (33))))), (3, (.k (.v (.int .i64 (100)))))])⟩, ⟨none, (some 13), (.call n_s_l1Cur_among [(.t 11), (.t 12)])⟩, ⟨none, (some 14), (.build (.agg [(.v (.slice none 0 0)), (.v (.int .i64 (0))), (.v (.int .i64 (0))), (.v (.int .i64 (0)))]) [(0, (1, (.t 4))), (1, (1, (.t 7))), (2, (1, (.t 10))), (3, (1, (.t 13)))])⟩, ⟨none, (some 3), (.box 4 (.k (.agg [(.v (.slice none 0 0)), (.v (.int .i64 (0))), (.v (.int .i64 (0))), (.v (.int .i64 (0)))])))⟩, ⟨none, none, (.st 4 (.t 3) (.t 14))⟩]
def r_s_l1Cur_tariff_2 : List CO := [⟨none, (some 15), (.mv (.t 0))⟩, ⟨none, (some 16), (.call n_s_l1Cur_one [(.t 15), (.k (.v (.int .i64 (2))))])⟩]
def r_s_l1Cur_tariff_3 : List CO := [⟨none, (some 17), (.faddr 0 (.t 3))⟩, ⟨none, (some 18), (.ld false 1 (.t 17))⟩, ⟨none, (some 19), (.mv (.t 0))⟩, ⟨none, (some 20), (.call n_s_l1Cur_pick [(.t 19), (.k (.v (.int .i64 (5))))])⟩, ⟨none, (some 21), (.mv (.t 0))⟩, ⟨none, (some 22), (.bslice 1 (.v (.int .i64 (0))) 4 [(0, (.k (.v (.int .i64 (0))))), (1, (.k (.v (.int .i64 (7))))), (2, (.k (.v (.int .i64 (100))))), (3, (.k (.v (.int .i64 (100000)))))])⟩, ⟨none, (some 23), (.call n_s_l1Cur_among [(.t 21), (.t 22)])⟩, ⟨none, (some 24), (.iaddr 1 (.t 18) (.t 20))⟩, ⟨none, none, (.st 1 (.t 24) (.t 23))⟩]
def p_s_l1Cur_tariff_3 : List (List Nat) := [[], [0], [], [2], [], [], [2, 3, 4, 5], [0, 1, 2, 3, 4, 5, 6], [0, 1, 2, 3, 4, 5, 6, 7]]
def r_s_l1Cur_tariff_4 : List CO := [⟨none, (some 25), (.mv (.t 0))⟩, ⟨none, (some 26), (.call n_s_l1Cur_pick [(.t 25), (.k (.v (.int .i64 (40))))])⟩]
def r_s_l1Cur_tariff_5 : List CO := [⟨none, (some 28), (.bin .eql .none (.t 26) (.k (.v (.int .i64 (0)))))⟩, ⟨none, (some 27), (.mv (.t 28))⟩]
def r_s_l1Cur_tariff_6 : List CO := [⟨none, (some 29), (.faddr 0 (.t 3))⟩, ⟨none, (some 30), (.ld false 1 (.t 29))⟩, ⟨none, (some 31), (.slc (some 1) (.t 30) (some (.k (.v (.int .i64 (1))))) none)⟩, ⟨none, (some 32), (.faddr 0 (.t 3))⟩, ⟨none, none, (.st 1 (.t 32) (.t 31))⟩]
def r_s_l1Cur_tariff_7 : List CO := [⟨none, (some 34), (.bin .eql .none (.t 26) (.k (.v (.int .i64 (1)))))⟩, ⟨none, (some 33), (.mv (.t 34))⟩]
def r_s_l1Cur_tariff_8 : List CO := [⟨none, (some 35), (.mv (.t 0))⟩, ⟨none, (some 36), (.bslice 1 (.v (.int .i64 (0))) 2 [(0, (.k (.v (.int .i64 (-1))))), (1, (.k (.v (.int .i64 (501)))))])⟩, ⟨none, (some 37), (.call n_s_l1Cur_among [(.t 35), (.t 36)])⟩, ⟨none, (some 38), (.faddr 2 (.t 3))⟩, ⟨none, none, (.st 1 (.t 38) (.t 37))⟩]
def r_s_l1Cur_tariff_9 : List CO := [⟨none, (some 40), (.bin .eql .none (.t 26) (.k (.v (.int .i64 (2)))))⟩, ⟨none, (some 39), (.mv (.t 40))⟩]
def r_s_l1Cur_tariff_10 : List CO := [⟨none, (some 41), (.mv (.t 0))⟩, ⟨none, (some 42), (.bslice 1 (.v (.int .i64 (0))) 2 [(0, (.k (.v (.int .i64 (-1))))), (1, (.k (.v (.int .i64 (101)))))])⟩, ⟨none, (some 43), (.call n_s_l1Cur_among [(.t 41), (.t 42)])⟩, ⟨none, (some 44), (.faddr 3 (.t 3))⟩, ⟨none, none, (.st 1 (.t 44) (.t 43))⟩]
def r_s_l1Cur_tariff_11 : List CO := [⟨none, (some 46), (.bin .eql .none (.t 26) (.k (.v (.int .i64 (3)))))⟩, ⟨none, (some 45), (.mv (.t 46))⟩]
def r_s_l1Cur_tariff_12 : List CO := [⟨none, (some 47), (.faddr 0 (.t 3))⟩, ⟨none, (some 48), (.ld false 1 (.t 47))⟩, ⟨none, (some 49), (.mv (.t 0))⟩, ⟨none, (some 50), (.bslice 1 (.v (.int .i64 (0))) 2 [(0, (.k (.v (.int .i64 (-1))))), (1, (.k (.v (.int .i64 (100001)))))])⟩, ⟨none, (some 51), (.call n_s_l1Cur_among [(.t 49), (.t 50)])⟩, ⟨none, (some 52), (.iaddr 1 (.t 48) (.k (.v (.int .i64 (0)))))⟩, ⟨none, none, (.st 1 (.t 52) (.t 51))⟩]
def p_s_l1Cur_tariff_12 : List (List Nat) := [[], [0], [], [], [2, 3], [0, 1, 2, 3, 4], [0, 1, 2, 3, 4, 5]]
def r_s_l1Cur_tariff_13 : List CO := [⟨none, (some 53), (.ld true 4 (.t 3))⟩, ⟨none, none, (.st 4 (.t 2) (.t 53))⟩]
/-- (*loop.example/g00884/spec.l1Cur).tariff -/
def c_s_l1Cur_tariff : C := (.seq (.reg r_s_l1Cur_tariff_0 [0, 2]) (.seq (.reg r_s_l1Cur_tariff_1 [0, 2, 3]) (.seq (.seq (.reg r_s_l1Cur_tariff_2 [0, 2, 3, 16]) (.cond (.t 16) (.regD r_s_l1Cur_tariff_3 p_s_l1Cur_tariff_3 [0, 2, 3]) .skip)) (.seq (.seq (.wk (.reg r_s_l1Cur_tariff_4 [0, 2, 3, 26])) (.block 0 (.seq (.reg r_s_l1Cur_tariff_5 [0, 2, 3, 26, 27]) (.cond (.t 27) (.wk (.reg r_s_l1Cur_tariff_6 [2, 3])) (.seq (.reg r_s_l1Cur_tariff_7 [0, 2, 3, 26, 33]) (.cond (.t 33) (.reg r_s_l1Cur_tariff_8 [2, 3]) (.seq (.reg r_s_l1Cur_tariff_9 [0, 2, 3, 26, 39]) (.cond (.t 39) (.reg r_s_l1Cur_tariff_10 [2, 3]) (.seq (.reg r_s_l1Cur_tariff_11 [0, 2, 3, 45]) (.cond (.t 45) (.regD r_s_l1Cur_tariff_12 p_s_l1Cur_tariff_12 [2, 3]) .skip)))))))))) (.seq (.wk (.reg r_s_l1Cur_tariff_13 [2])) .ret)))))
def k_s_l1Cur_tariff : Nat → List Nat
  | 0 => [0, 2]
  | 1 => [0, 2, 3]
  | 2 => [0, 2, 3, 16]
  | 3 => [0, 2, 3]
  | 4 => [999999, 0, 2, 3, 26]
  | 5 => [0, 2, 3, 26, 27]
  | 6 => [999999, 2, 3]
  | 7 => [0, 2, 3, 26, 33]
  | 8 => [2, 3]
  | 9 => [0, 2, 3, 26, 39]
  | 10 => [2, 3]
  | 11 => [0, 2, 3, 45]
  | 12 => [2, 3]
  | 13 => [999999, 2]
  | _ => []
theorem fn_s_l1Cur_tariff : FnC Try.prog n_s_l1Cur_tariff c_s_l1Cur_tariff [(.cell 2 true 4)] 54 :=
  ⟨Try.f86, _, k_s_l1Cur_tariff, Try.func86, rfl, by kernel_rfl, by kernel_rfl, by kernel_rfl, rfl⟩
end Go.Proofs.Ytgefdcllialhkaa
