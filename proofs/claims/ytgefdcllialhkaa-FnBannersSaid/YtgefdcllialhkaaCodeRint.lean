/- The compact code of the functions, and that it is theirs: written by a program of this claim. -/
import Derived.Test.YtgefdcllialhkaaNums
namespace Go.Proofs.Ytgefdcllialhkaa
open Go.Abs
set_option maxRecDepth 100000
def r_w_rInts_0 : List CO := [⟨none, (some 4), (.mv (.k (.v (.bool false))))⟩]
def r_w_rInts_1 : List CO := [⟨none, (some 6), (.mv (.t 0))⟩, ⟨none, (some 7), (.len false (.t 6))⟩, ⟨none, (some 8), (.mv (.t 1))⟩, ⟨none, (some 9), (.len false (.t 8))⟩, ⟨none, (some 10), (.bin .neq .none (.t 7) (.t 9))⟩]
def r_w_rInts_2 : List CO := [⟨none, (some 4), (.mv (.k (.v (.bool false))))⟩]
def r_w_rInts_3 : List CO := [⟨none, (some 5), (.mv (.k (.v (.int .i64 (0)))))⟩]
def r_w_rInts_4 : List CO := [⟨none, (some 11), (.mv (.t 5))⟩, ⟨none, (some 12), (.mv (.t 0))⟩, ⟨none, (some 13), (.len false (.t 12))⟩, ⟨none, (some 14), (.bin .lss .none (.t 11) (.t 13))⟩]
def r_w_rInts_5 : List CO := [⟨none, (some 17), (.mv (.t 0))⟩, ⟨none, (some 18), (.mv (.t 5))⟩, ⟨none, (some 19), (.iaddr 1 (.t 17) (.t 18))⟩, ⟨none, (some 20), (.ld false 1 (.t 19))⟩, ⟨none, (some 21), (.mv (.t 1))⟩, ⟨none, (some 22), (.mv (.t 5))⟩, ⟨none, (some 23), (.iaddr 1 (.t 21) (.t 22))⟩, ⟨none, (some 24), (.ld false 1 (.t 23))⟩, ⟨none, (some 25), (.bin .neq .none (.t 20) (.t 24))⟩]
def p_w_rInts_5 : List (List Nat) := [[], [], [0, 1], [0, 1, 2], [], [], [4, 5], [4, 5, 6], [0, 1, 2, 3, 4, 5, 6, 7]]
def r_w_rInts_6 : List CO := [⟨none, (some 4), (.mv (.k (.v (.bool false))))⟩]
def r_w_rInts_7 : List CO := [⟨none, (some 15), (.mv (.t 5))⟩, ⟨none, (some 16), (.bin .add .none (.t 15) (.k (.v (.int .i64 (1)))))⟩, ⟨none, (some 5), (.mv (.t 16))⟩]
def l_w_rInts_8 : C := (.seq (.seq (.reg r_w_rInts_4 [0, 1, 5, 14]) (.cond (.t 14) .skip (.exit 0))) (.seq (.block 1 (.seq (.regD r_w_rInts_5 p_w_rInts_5 [0, 1, 5, 25]) (.cond (.t 25) (.seq (.reg r_w_rInts_6 [4]) .ret) .skip))) (.reg r_w_rInts_7 [0, 1, 5])))
def r_w_rInts_9 : List CO := [⟨none, (some 4), (.mv (.k (.v (.bool true))))⟩]
/-- loop.example/g00884/laws.rInts -/
def c_w_rInts : C := (.seq (.reg r_w_rInts_0 [0, 1]) (.seq (.seq (.reg r_w_rInts_1 [0, 1, 10]) (.cond (.t 10) (.seq (.reg r_w_rInts_2 [4]) .ret) .skip)) (.seq (.seq (.reg r_w_rInts_3 [0, 1, 5]) (.block 0 (.loop l_w_rInts_8))) (.seq (.reg r_w_rInts_9 [4]) .ret))))
def k_w_rInts : Nat → List Nat
  | 0 => [0, 1]
  | 1 => [0, 1, 10]
  | 2 => [4]
  | 3 => [0, 1, 5]
  | 4 => [0, 1, 5, 14]
  | 6 => [0, 1, 5, 25]
  | 7 => [4]
  | 5 => [0, 1, 5]
  | 8 => [4]
  | _ => []
theorem fn_w_rInts : FnC Try.prog n_w_rInts c_w_rInts [(.tmp 4)] 26 :=
  ⟨Try.f42, _, k_w_rInts, Try.func42, rfl, by kernel_rfl, by kernel_rfl, by kernel_rfl, rfl⟩
def r_w_rTable_0 : List CO := [⟨none, (some 4), (.mv (.k (.v (.bool false))))⟩]
def r_w_rTable_1 : List CO := [⟨none, (some 6), (.mv (.t 0))⟩, ⟨none, (some 7), (.len false (.t 6))⟩, ⟨none, (some 8), (.mv (.t 1))⟩, ⟨none, (some 9), (.len false (.t 8))⟩, ⟨none, (some 10), (.bin .neq .none (.t 7) (.t 9))⟩]
def r_w_rTable_2 : List CO := [⟨none, (some 4), (.mv (.k (.v (.bool false))))⟩]
def r_w_rTable_3 : List CO := [⟨none, (some 5), (.mv (.k (.v (.int .i64 (0)))))⟩]
def r_w_rTable_4 : List CO := [⟨none, (some 11), (.mv (.t 5))⟩, ⟨none, (some 12), (.mv (.t 0))⟩, ⟨none, (some 13), (.len false (.t 12))⟩, ⟨none, (some 14), (.bin .lss .none (.t 11) (.t 13))⟩]
def r_w_rTable_5 : List CO := [⟨none, (some 17), (.mv (.t 0))⟩, ⟨none, (some 18), (.mv (.t 5))⟩, ⟨none, (some 19), (.iaddr 1 (.t 17) (.t 18))⟩, ⟨none, (some 20), (.ld false 1 (.t 19))⟩, ⟨none, (some 21), (.mv (.t 1))⟩, ⟨none, (some 22), (.mv (.t 5))⟩, ⟨none, (some 23), (.iaddr 1 (.t 21) (.t 22))⟩, ⟨none, (some 24), (.ld false 1 (.t 23))⟩, ⟨none, (some 25), (.call n_w_rInts [(.t 20), (.t 24)])⟩, ⟨none, (some 26), (.un .not (.t 25))⟩]
def p_w_rTable_5 : List (List Nat) := [[], [], [0, 1], [0, 1, 2], [], [], [4, 5], [4, 5, 6], [0, 1, 2, 3, 4, 5, 6, 7], [0, 1, 2, 3, 4, 5, 6, 7, 8]]
def r_w_rTable_6 : List CO := [⟨none, (some 4), (.mv (.k (.v (.bool false))))⟩]
def r_w_rTable_7 : List CO := [⟨none, (some 15), (.mv (.t 5))⟩, ⟨none, (some 16), (.bin .add .none (.t 15) (.k (.v (.int .i64 (1)))))⟩, ⟨none, (some 5), (.mv (.t 16))⟩]
def l_w_rTable_8 : C := (.seq (.seq (.reg r_w_rTable_4 [0, 1, 5, 14]) (.cond (.t 14) .skip (.exit 0))) (.seq (.block 1 (.seq (.regD r_w_rTable_5 p_w_rTable_5 [0, 1, 5, 26]) (.cond (.t 26) (.seq (.reg r_w_rTable_6 [4]) .ret) .skip))) (.reg r_w_rTable_7 [0, 1, 5])))
def r_w_rTable_9 : List CO := [⟨none, (some 4), (.mv (.k (.v (.bool true))))⟩]
/-- loop.example/g00884/laws.rTable -/
def c_w_rTable : C := (.seq (.reg r_w_rTable_0 [0, 1]) (.seq (.seq (.reg r_w_rTable_1 [0, 1, 10]) (.cond (.t 10) (.seq (.reg r_w_rTable_2 [4]) .ret) .skip)) (.seq (.seq (.reg r_w_rTable_3 [0, 1, 5]) (.block 0 (.loop l_w_rTable_8))) (.seq (.reg r_w_rTable_9 [4]) .ret))))
def k_w_rTable : Nat → List Nat
  | 0 => [0, 1]
  | 1 => [0, 1, 10]
  | 2 => [4]
  | 3 => [0, 1, 5]
  | 4 => [0, 1, 5, 14]
  | 6 => [0, 1, 5, 26]
  | 7 => [4]
  | 5 => [0, 1, 5]
  | 8 => [4]
  | _ => []
theorem fn_w_rTable : FnC Try.prog n_w_rTable c_w_rTable [(.tmp 4)] 27 :=
  ⟨Try.f11, _, k_w_rTable, Try.func11, rfl, by kernel_rfl, by kernel_rfl, by kernel_rfl, rfl⟩
def r_w_rBig_0 : List CO := [⟨none, (some 2), (.mv (.k (.v (.bool false))))⟩]
def r_w_rBig_1 : List CO := [⟨none, (some 3), (.mv (.t 0))⟩, ⟨none, (some 4), (.len false (.t 3))⟩, ⟨none, (some 5), (.bin .gtr .none (.t 4) (.k (.v (.int .i64 (65536)))))⟩, ⟨none, (some 2), (.mv (.t 5))⟩]
/-- loop.example/g00884/laws.rBig -/
def c_w_rBig : C := (.seq (.reg r_w_rBig_0 [0]) (.seq (.reg r_w_rBig_1 [2]) .ret))
def k_w_rBig : Nat → List Nat
  | 0 => [0]
  | 1 => [2]
  | _ => []
theorem fn_w_rBig : FnC Try.prog n_w_rBig c_w_rBig [(.tmp 2)] 6 :=
  ⟨Try.f7, _, k_w_rBig, Try.func7, rfl, by kernel_rfl, by kernel_rfl, by kernel_rfl, rfl⟩
end Go.Proofs.Ytgefdcllialhkaa
