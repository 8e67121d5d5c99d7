/- The compact code of the functions, and that it is theirs: written by a program of this claim. -/
import Derived.Test.YtaieoaahmmcnmaaProg
import Derived.Test.YtaieoaahmmcnmaaAbsFn
import Derived.KernelRfl
namespace Go.Proofs.Ytaieoaahmmcnmaa
open Go.Abs
set_option maxRecDepth 100000
def r3_0 : List CO := [⟨none, (some 1), (.box 3 (.t 0))⟩, ⟨none, (some 2), (.mv (.k (.v (.bool false))))⟩]
def r3_1 : List CO := [⟨none, (some 5), (.ld true 3 (.t 1))⟩, ⟨none, (some 6), (.call 16 [(.t 5)])⟩, ⟨none, (some 7), (.call 15 [(.t 6)])⟩, ⟨none, (some 3), (.mv (.t 7))⟩]
def r3_2 : List CO := [⟨none, (some 8), (.ld true 3 (.t 1))⟩, ⟨none, (some 9), (.call 16 [(.t 8)])⟩, ⟨none, (some 10), (.call 17 [(.t 9)])⟩, ⟨none, (some 4), (.mv (.t 10))⟩]
def r3_3 : List CO := [⟨none, (some 11), (.mv (.t 4))⟩, ⟨none, (some 12), (.mv (.t 3))⟩, ⟨none, (some 13), (.bin .neq .bool (.t 11) (.t 12))⟩]
def r3_4 : List CO := [⟨none, (some 2), (.mv (.k (.v (.bool false))))⟩]
def r3_5 : List CO := [⟨none, (some 2), (.mv (.k (.v (.bool true))))⟩]
/-- loop.example/g00884/laws.FnExactIsValidRoll -/
def c3 : C := (.seq (.reg r3_0 [1]) (.seq (.reg r3_1 [1, 3]) (.seq (.reg r3_2 [3, 4]) (.seq (.seq (.reg r3_3 [13]) (.cond (.t 13) (.seq (.reg r3_4 [2]) .ret) .skip)) (.seq (.reg r3_5 [2]) .ret)))))
def k3 : Nat → List Nat
  | 0 => [1]
  | 1 => [1, 3]
  | 2 => [3, 4]
  | 3 => [13]
  | 4 => [2]
  | 5 => [2]
  | _ => []
theorem fn3 : FnC Try.prog 3 c3 [(.tmp 2)] 14 :=
  ⟨Try.f3, _, k3, Try.func3, rfl, by kernel_rfl, by kernel_rfl, by kernel_rfl, rfl⟩
def r4_0 : List CO := [⟨none, (some 4), (.mv (.k (.v (.bool false))))⟩]
def r4_1 : List CO := [⟨none, (some 10), (.mv (.t 0))⟩, ⟨none, (some 11), (.mv (.t 1))⟩, ⟨none, (some 12), (.call 18 [(.t 10), (.t 11)])⟩, ⟨none, (some 9), (.mv (.t 12))⟩, ⟨none, (some 13), (.ext (.t 9) 0)⟩, ⟨none, (some 14), (.ext (.t 9) 1)⟩, ⟨none, (some 5), (.box 2 (.k (.agg [(.v (.int .i64 (0))), (.v (.int .i64 (0)))])))⟩, ⟨none, none, (.st 2 (.t 5) (.t 13))⟩, ⟨none, (some 6), (.mv (.t 14))⟩]
def r4_2 : List CO := [⟨none, (some 16), (.mv (.t 0))⟩, ⟨none, (some 17), (.mv (.t 1))⟩, ⟨none, (some 18), (.call 19 [(.t 16), (.t 17)])⟩, ⟨none, (some 15), (.mv (.t 18))⟩, ⟨none, (some 19), (.ext (.t 15) 0)⟩, ⟨none, (some 20), (.ext (.t 15) 1)⟩, ⟨none, (some 7), (.box 2 (.k (.agg [(.v (.int .i64 (0))), (.v (.int .i64 (0)))])))⟩, ⟨none, none, (.st 2 (.t 7) (.t 19))⟩, ⟨none, (some 8), (.mv (.t 20))⟩]
def r4_3 : List CO := [⟨none, (some 21), (.ld true 2 (.t 7))⟩, ⟨none, (some 22), (.ld true 2 (.t 5))⟩, ⟨none, (some 23), (.call 20 [(.t 21), (.t 22)])⟩, ⟨none, (some 24), (.un .not (.t 23))⟩, ⟨none, (some 25), (.mv (.t 24))⟩, ⟨(some (25, false)), (some 26), (.mv (.t 8))⟩, ⟨(some (25, false)), (some 27), (.mv (.t 6))⟩, ⟨(some (25, false)), (some 28), (.bin .neq .bool (.t 26) (.t 27))⟩, ⟨none, (some 29), (.pick (.t 25) (.k (.v (.bool true))) (.t 28))⟩]
def r4_4 : List CO := [⟨none, (some 4), (.mv (.k (.v (.bool false))))⟩]
def r4_5 : List CO := [⟨none, (some 4), (.mv (.k (.v (.bool true))))⟩]
/-- loop.example/g00884/laws.FnExactReduceProportion -/
def c4 : C := (.seq (.reg r4_0 [0, 1]) (.seq (.reg r4_1 [0, 1, 5, 6]) (.seq (.reg r4_2 [5, 6, 7, 8]) (.seq (.seq (.reg r4_3 [29]) (.cond (.t 29) (.seq (.reg r4_4 [4]) .ret) .skip)) (.seq (.reg r4_5 [4]) .ret)))))
def k4 : Nat → List Nat
  | 0 => [0, 1]
  | 1 => [0, 1, 5, 6]
  | 2 => [5, 6, 7, 8]
  | 3 => [29]
  | 4 => [4]
  | 5 => [4]
  | _ => []
theorem fn4 : FnC Try.prog 4 c4 [(.tmp 4)] 30 :=
  ⟨Try.f4, _, k4, Try.func4, rfl, by kernel_rfl, by kernel_rfl, by kernel_rfl, rfl⟩
def r5_0 : List CO := [⟨none, (some 4), (.mv (.k (.v (.bool false))))⟩]
def r5_1 : List CO := [⟨none, (some 14), (.mv (.t 0))⟩, ⟨none, (some 15), (.mv (.t 1))⟩, ⟨none, (some 16), (.call 21 [(.t 14), (.t 15)])⟩, ⟨none, (some 13), (.mv (.t 16))⟩, ⟨none, (some 17), (.ext (.t 13) 0)⟩, ⟨none, (some 18), (.ext (.t 13) 1)⟩, ⟨none, (some 5), (.mv (.t 17))⟩, ⟨none, (some 6), (.mv (.t 18))⟩]
def r5_2 : List CO := [⟨none, (some 20), (.mv (.t 0))⟩, ⟨none, (some 21), (.mv (.t 1))⟩, ⟨none, (some 22), (.call 22 [(.t 20), (.t 21)])⟩, ⟨none, (some 19), (.mv (.t 22))⟩, ⟨none, (some 23), (.ext (.t 19) 0)⟩, ⟨none, (some 24), (.ext (.t 19) 1)⟩, ⟨none, (some 7), (.mv (.t 23))⟩, ⟨none, (some 8), (.mv (.t 24))⟩]
def r5_3 : List CO := [⟨none, (some 25), (.mv (.t 7))⟩, ⟨none, (some 26), (.mv (.t 5))⟩, ⟨none, (some 27), (.call 23 [(.t 25), (.t 26)])⟩, ⟨none, (some 28), (.un .not (.t 27))⟩, ⟨none, (some 29), (.mv (.t 28))⟩, ⟨(some (29, false)), (some 30), (.mv (.t 8))⟩, ⟨(some (29, false)), (some 31), (.mv (.t 6))⟩, ⟨(some (29, false)), (some 32), (.bin .neq .bool (.t 30) (.t 31))⟩, ⟨none, (some 33), (.pick (.t 29) (.k (.v (.bool true))) (.t 32))⟩]
def r5_4 : List CO := [⟨none, (some 4), (.mv (.k (.v (.bool false))))⟩]
def r5_5 : List CO := [⟨none, (some 9), (.mv (.k (.v (.int .i64 (1)))))⟩]
def r5_6 : List CO := [⟨none, (some 34), (.mv (.t 7))⟩, ⟨none, (some 35), (.mv (.t 9))⟩, ⟨none, (some 36), (.call 24 [(.t 34), (.t 35)])⟩, ⟨none, (some 9), (.mv (.t 36))⟩]
def r5_7 : List CO := [⟨none, (some 10), (.mv (.k (.v (.int .i64 (1)))))⟩]
def r5_8 : List CO := [⟨none, (some 37), (.mv (.t 7))⟩, ⟨none, (some 38), (.mv (.t 10))⟩, ⟨none, (some 39), (.call 25 [(.t 37), (.t 38)])⟩, ⟨none, (some 10), (.mv (.t 39))⟩]
def r5_9 : List CO := [⟨none, (some 40), (.mv (.t 10))⟩, ⟨none, (some 41), (.bin .lss .none (.t 40) (.k (.v (.int .i64 (0)))))⟩]
def r5_10 : List CO := [⟨none, (some 4), (.mv (.k (.v (.bool false))))⟩]
def r5_11 : List CO := [⟨none, (some 42), (.mv (.t 10))⟩, ⟨none, (some 43), (.mv (.t 9))⟩, ⟨none, (some 44), (.bin .neq .none (.t 42) (.t 43))⟩]
def r5_12 : List CO := [⟨none, (some 4), (.mv (.k (.v (.bool false))))⟩]
def r5_13 : List CO := [⟨none, (some 46), (.mv (.t 0))⟩, ⟨none, (some 47), (.mv (.t 1))⟩, ⟨none, (some 48), (.call 22 [(.t 46), (.t 47)])⟩, ⟨none, (some 45), (.mv (.t 48))⟩, ⟨none, (some 49), (.ext (.t 45) 0)⟩, ⟨none, (some 50), (.ext (.t 45) 1)⟩, ⟨none, (some 11), (.mv (.t 49))⟩, ⟨none, (some 12), (.mv (.t 50))⟩]
def r5_14 : List CO := [⟨none, (some 51), (.mv (.t 11))⟩, ⟨none, (some 52), (.mv (.t 5))⟩, ⟨none, (some 53), (.call 23 [(.t 51), (.t 52)])⟩, ⟨none, (some 54), (.un .not (.t 53))⟩, ⟨none, (some 55), (.mv (.t 54))⟩, ⟨(some (55, false)), (some 56), (.mv (.t 12))⟩, ⟨(some (55, false)), (some 57), (.mv (.t 6))⟩, ⟨(some (55, false)), (some 58), (.bin .neq .bool (.t 56) (.t 57))⟩, ⟨none, (some 59), (.pick (.t 55) (.k (.v (.bool true))) (.t 58))⟩]
def r5_15 : List CO := [⟨none, (some 4), (.mv (.k (.v (.bool false))))⟩]
def r5_16 : List CO := [⟨none, (some 10), (.mv (.k (.v (.int .i64 (1)))))⟩]
def r5_17 : List CO := [⟨none, (some 60), (.mv (.t 7))⟩, ⟨none, (some 61), (.mv (.t 10))⟩, ⟨none, (some 62), (.call 25 [(.t 60), (.t 61)])⟩, ⟨none, (some 10), (.mv (.t 62))⟩]
def r5_18 : List CO := [⟨none, (some 63), (.mv (.t 10))⟩, ⟨none, (some 64), (.bin .lss .none (.t 63) (.k (.v (.int .i64 (0)))))⟩]
def r5_19 : List CO := [⟨none, (some 4), (.mv (.k (.v (.bool false))))⟩]
def r5_20 : List CO := [⟨none, (some 65), (.mv (.t 10))⟩, ⟨none, (some 66), (.mv (.t 9))⟩, ⟨none, (some 67), (.bin .neq .none (.t 65) (.t 66))⟩]
def r5_21 : List CO := [⟨none, (some 4), (.mv (.k (.v (.bool false))))⟩]
def r5_22 : List CO := [⟨none, (some 4), (.mv (.k (.v (.bool true))))⟩]
/-- loop.example/g00884/laws.FnExactSplitFee -/
def c5 : C := (.seq (.reg r5_0 [0, 1]) (.seq (.reg r5_1 [0, 1, 5, 6]) (.seq (.reg r5_2 [0, 1, 5, 6, 7, 8]) (.seq (.seq (.reg r5_3 [0, 1, 5, 6, 7, 33]) (.cond (.t 33) (.seq (.reg r5_4 [4]) .ret) .skip)) (.seq (.reg r5_5 [0, 1, 5, 6, 7, 9]) (.seq (.reg r5_6 [0, 1, 5, 6, 7, 9]) (.seq (.reg r5_7 [0, 1, 5, 6, 7, 9, 10]) (.seq (.reg r5_8 [0, 1, 5, 6, 7, 9, 10]) (.seq (.seq (.reg r5_9 [0, 1, 5, 6, 7, 9, 10, 41]) (.cond (.t 41) (.seq (.reg r5_10 [4]) .ret) .skip)) (.seq (.seq (.reg r5_11 [0, 1, 5, 6, 7, 9, 44]) (.cond (.t 44) (.seq (.reg r5_12 [4]) .ret) .skip)) (.seq (.reg r5_13 [5, 6, 7, 9, 11, 12]) (.seq (.seq (.reg r5_14 [7, 9, 59]) (.cond (.t 59) (.seq (.reg r5_15 [4]) .ret) .skip)) (.seq (.reg r5_16 [7, 9, 10]) (.seq (.reg r5_17 [9, 10]) (.seq (.seq (.reg r5_18 [9, 10, 64]) (.cond (.t 64) (.seq (.reg r5_19 [4]) .ret) .skip)) (.seq (.seq (.reg r5_20 [67]) (.cond (.t 67) (.seq (.reg r5_21 [4]) .ret) .skip)) (.seq (.reg r5_22 [4]) .ret)))))))))))))))))
def k5 : Nat → List Nat
  | 0 => [0, 1]
  | 1 => [0, 1, 5, 6]
  | 2 => [0, 1, 5, 6, 7, 8]
  | 3 => [0, 1, 5, 6, 7, 33]
  | 4 => [4]
  | 5 => [0, 1, 5, 6, 7, 9]
  | 6 => [0, 1, 5, 6, 7, 9]
  | 7 => [0, 1, 5, 6, 7, 9, 10]
  | 8 => [0, 1, 5, 6, 7, 9, 10]
  | 9 => [0, 1, 5, 6, 7, 9, 10, 41]
  | 10 => [4]
  | 11 => [0, 1, 5, 6, 7, 9, 44]
  | 12 => [4]
  | 13 => [5, 6, 7, 9, 11, 12]
  | 14 => [7, 9, 59]
  | 15 => [4]
  | 16 => [7, 9, 10]
  | 17 => [9, 10]
  | 18 => [9, 10, 64]
  | 19 => [4]
  | 20 => [67]
  | 21 => [4]
  | 22 => [4]
  | _ => []
theorem fn5 : FnC Try.prog 5 c5 [(.tmp 4)] 68 :=
  ⟨Try.f5, _, k5, Try.func5, rfl, by kernel_rfl, by kernel_rfl, by kernel_rfl, rfl⟩
def r6_0 : List CO := [⟨none, (some 2), (.mv (.k (.v (.bool false))))⟩]
def r6_1 : List CO := [⟨none, (some 3), (.mv (.k (.v (.int .i64 (1048576)))))⟩]
def r6_2 : List CO := [⟨none, (some 7), (.mv (.t 0))⟩, ⟨none, (some 8), (.mv (.t 3))⟩, ⟨none, (some 9), (.call 26 [(.t 7), (.t 8)])⟩, ⟨none, (some 3), (.mv (.t 9))⟩]
def r6_3 : List CO := [⟨none, (some 10), (.mv (.t 3))⟩, ⟨none, (some 11), (.bin .lss .none (.t 10) (.k (.v (.int .i64 (0)))))⟩]
def r6_4 : List CO := [⟨none, (some 2), (.mv (.k (.v (.bool true))))⟩]
def r6_5 : List CO := [⟨none, (some 12), (.mv (.t 0))⟩, ⟨none, (some 13), (.call 28 [(.t 12)])⟩, ⟨none, (some 14), (.call 27 [(.t 13)])⟩, ⟨none, (some 4), (.mv (.t 14))⟩]
def r6_6 : List CO := [⟨none, (some 15), (.mv (.t 0))⟩, ⟨none, (some 16), (.call 28 [(.t 15)])⟩, ⟨none, (some 5), (.mv (.t 16))⟩]
def r6_7 : List CO := [⟨none, (some 17), (.mv (.t 5))⟩, ⟨none, (some 18), (.call 29 [(.t 17)])⟩, ⟨none, (some 6), (.mv (.t 18))⟩]
def r6_8 : List CO := [⟨none, (some 19), (.mv (.t 6))⟩, ⟨none, (some 20), (.mv (.t 4))⟩, ⟨none, (some 21), (.bin .neq .bool (.t 19) (.t 20))⟩]
def r6_9 : List CO := [⟨none, (some 2), (.mv (.k (.v (.bool false))))⟩]
def r6_10 : List CO := [⟨none, (some 22), (.mv (.t 5))⟩, ⟨none, (some 23), (.mv (.t 0))⟩, ⟨none, (some 24), (.call 28 [(.t 23)])⟩, ⟨none, (some 25), (.call 30 [(.t 22), (.t 24)])⟩, ⟨none, (some 26), (.un .not (.t 25))⟩]
def r6_11 : List CO := [⟨none, (some 2), (.mv (.k (.v (.bool false))))⟩]
def r6_12 : List CO := [⟨none, (some 2), (.mv (.k (.v (.bool true))))⟩]
/-- loop.example/g00884/laws.FnExactIsValidPetitions -/
def c6 : C := (.seq (.reg r6_0 [0]) (.seq (.reg r6_1 [0, 3]) (.seq (.reg r6_2 [0, 3]) (.seq (.seq (.reg r6_3 [0, 11]) (.cond (.t 11) (.seq (.reg r6_4 [2]) .ret) .skip)) (.seq (.reg r6_5 [0, 4]) (.seq (.reg r6_6 [0, 4, 5]) (.seq (.reg r6_7 [0, 4, 5, 6]) (.seq (.seq (.reg r6_8 [0, 5, 21]) (.cond (.t 21) (.seq (.reg r6_9 [2]) .ret) .skip)) (.seq (.seq (.reg r6_10 [26]) (.cond (.t 26) (.seq (.reg r6_11 [2]) .ret) .skip)) (.seq (.reg r6_12 [2]) .ret))))))))))
def k6 : Nat → List Nat
  | 0 => [0]
  | 1 => [0, 3]
  | 2 => [0, 3]
  | 3 => [0, 11]
  | 4 => [2]
  | 5 => [0, 4]
  | 6 => [0, 4, 5]
  | 7 => [0, 4, 5, 6]
  | 8 => [0, 5, 21]
  | 9 => [2]
  | 10 => [26]
  | 11 => [2]
  | 12 => [2]
  | _ => []
theorem fn6 : FnC Try.prog 6 c6 [(.tmp 2)] 27 :=
  ⟨Try.f6, _, k6, Try.func6, rfl, by kernel_rfl, by kernel_rfl, by kernel_rfl, rfl⟩
def r7_0 : List CO := [⟨none, (some 2), (.mv (.k (.v (.bool false))))⟩]
def r7_1 : List CO := [⟨none, (some 3), (.mv (.k (.v (.int .i64 (1048576)))))⟩]
def r7_2 : List CO := [⟨none, (some 7), (.mv (.t 0))⟩, ⟨none, (some 8), (.mv (.t 3))⟩, ⟨none, (some 9), (.call 31 [(.t 7), (.t 8)])⟩, ⟨none, (some 3), (.mv (.t 9))⟩]
def r7_3 : List CO := [⟨none, (some 10), (.mv (.t 3))⟩, ⟨none, (some 11), (.bin .lss .none (.t 10) (.k (.v (.int .i64 (0)))))⟩]
def r7_4 : List CO := [⟨none, (some 2), (.mv (.k (.v (.bool true))))⟩]
def r7_5 : List CO := [⟨none, (some 12), (.mv (.t 0))⟩, ⟨none, (some 13), (.call 33 [(.t 12)])⟩, ⟨none, (some 14), (.call 32 [(.t 13)])⟩, ⟨none, (some 4), (.mv (.t 14))⟩]
def r7_6 : List CO := [⟨none, (some 15), (.mv (.t 0))⟩, ⟨none, (some 16), (.call 33 [(.t 15)])⟩, ⟨none, (some 5), (.mv (.t 16))⟩]
def r7_7 : List CO := [⟨none, (some 17), (.mv (.t 5))⟩, ⟨none, (some 18), (.call 34 [(.t 17)])⟩, ⟨none, (some 6), (.mv (.t 18))⟩]
def r7_8 : List CO := [⟨none, (some 19), (.mv (.t 6))⟩, ⟨none, (some 20), (.mv (.t 4))⟩, ⟨none, (some 21), (.bin .neq .bool (.t 19) (.t 20))⟩]
def r7_9 : List CO := [⟨none, (some 2), (.mv (.k (.v (.bool false))))⟩]
def r7_10 : List CO := [⟨none, (some 22), (.mv (.t 5))⟩, ⟨none, (some 23), (.mv (.t 0))⟩, ⟨none, (some 24), (.call 33 [(.t 23)])⟩, ⟨none, (some 25), (.call 35 [(.t 22), (.t 24)])⟩, ⟨none, (some 26), (.un .not (.t 25))⟩]
def r7_11 : List CO := [⟨none, (some 2), (.mv (.k (.v (.bool false))))⟩]
def r7_12 : List CO := [⟨none, (some 2), (.mv (.k (.v (.bool true))))⟩]
/-- loop.example/g00884/laws.FnExactIsValidBanner -/
def c7 : C := (.seq (.reg r7_0 [0]) (.seq (.reg r7_1 [0, 3]) (.seq (.reg r7_2 [0, 3]) (.seq (.seq (.reg r7_3 [0, 11]) (.cond (.t 11) (.seq (.reg r7_4 [2]) .ret) .skip)) (.seq (.reg r7_5 [0, 4]) (.seq (.reg r7_6 [0, 4, 5]) (.seq (.reg r7_7 [0, 4, 5, 6]) (.seq (.seq (.reg r7_8 [0, 5, 21]) (.cond (.t 21) (.seq (.reg r7_9 [2]) .ret) .skip)) (.seq (.seq (.reg r7_10 [26]) (.cond (.t 26) (.seq (.reg r7_11 [2]) .ret) .skip)) (.seq (.reg r7_12 [2]) .ret))))))))))
def k7 : Nat → List Nat
  | 0 => [0]
  | 1 => [0, 3]
  | 2 => [0, 3]
  | 3 => [0, 11]
  | 4 => [2]
  | 5 => [0, 4]
  | 6 => [0, 4, 5]
  | 7 => [0, 4, 5, 6]
  | 8 => [0, 5, 21]
  | 9 => [2]
  | 10 => [26]
  | 11 => [2]
  | 12 => [2]
  | _ => []
theorem fn7 : FnC Try.prog 7 c7 [(.tmp 2)] 27 :=
  ⟨Try.f7, _, k7, Try.func7, rfl, by kernel_rfl, by kernel_rfl, by kernel_rfl, rfl⟩
def r8_0 : List CO := [⟨none, (some 1), (.box 2 (.t 0))⟩, ⟨none, (some 2), (.mv (.k (.v (.bool false))))⟩]
def r8_1 : List CO := [⟨none, (some 12), (.ld true 2 (.t 1))⟩, ⟨none, (some 13), (.call 37 [(.t 12)])⟩, ⟨none, (some 14), (.call 36 [(.t 13)])⟩, ⟨none, (some 11), (.mv (.t 14))⟩, ⟨none, (some 15), (.ext (.t 11) 0)⟩, ⟨none, (some 16), (.ext (.t 11) 1)⟩, ⟨none, (some 3), (.mv (.t 15))⟩, ⟨none, (some 4), (.mv (.t 16))⟩]
def r8_2 : List CO := [⟨none, (some 18), (.ld true 2 (.t 1))⟩, ⟨none, (some 19), (.call 37 [(.t 18)])⟩, ⟨none, (some 20), (.call 38 [(.t 19)])⟩, ⟨none, (some 17), (.mv (.t 20))⟩, ⟨none, (some 21), (.ext (.t 17) 0)⟩, ⟨none, (some 22), (.ext (.t 17) 1)⟩, ⟨none, (some 5), (.mv (.t 21))⟩, ⟨none, (some 6), (.mv (.t 22))⟩]
def r8_3 : List CO := [⟨none, (some 23), (.mv (.t 5))⟩, ⟨none, (some 24), (.mv (.t 3))⟩, ⟨none, (some 25), (.call 35 [(.t 23), (.t 24)])⟩, ⟨none, (some 26), (.un .not (.t 25))⟩, ⟨none, (some 27), (.mv (.t 26))⟩, ⟨(some (27, false)), (some 28), (.mv (.t 6))⟩, ⟨(some (27, false)), (some 29), (.mv (.t 4))⟩, ⟨(some (27, false)), (some 30), (.bin .neq .bool (.t 28) (.t 29))⟩, ⟨none, (some 31), (.pick (.t 27) (.k (.v (.bool true))) (.t 30))⟩]
def r8_4 : List CO := [⟨none, (some 2), (.mv (.k (.v (.bool false))))⟩]
def r8_5 : List CO := [⟨none, (some 7), (.mv (.k (.v (.int .i64 (1)))))⟩]
def r8_6 : List CO := [⟨none, (some 32), (.mv (.t 5))⟩, ⟨none, (some 33), (.mv (.t 7))⟩, ⟨none, (some 34), (.call 39 [(.t 32), (.t 33)])⟩, ⟨none, (some 7), (.mv (.t 34))⟩]
def r8_7 : List CO := [⟨none, (some 8), (.mv (.k (.v (.int .i64 (1)))))⟩]
def r8_8 : List CO := [⟨none, (some 35), (.mv (.t 5))⟩, ⟨none, (some 36), (.mv (.t 8))⟩, ⟨none, (some 37), (.call 40 [(.t 35), (.t 36)])⟩, ⟨none, (some 8), (.mv (.t 37))⟩]
def r8_9 : List CO := [⟨none, (some 38), (.mv (.t 8))⟩, ⟨none, (some 39), (.bin .lss .none (.t 38) (.k (.v (.int .i64 (0)))))⟩]
def r8_10 : List CO := [⟨none, (some 2), (.mv (.k (.v (.bool false))))⟩]
def r8_11 : List CO := [⟨none, (some 40), (.mv (.t 8))⟩, ⟨none, (some 41), (.mv (.t 7))⟩, ⟨none, (some 42), (.bin .neq .none (.t 40) (.t 41))⟩]
def r8_12 : List CO := [⟨none, (some 2), (.mv (.k (.v (.bool false))))⟩]
def r8_13 : List CO := [⟨none, (some 44), (.ld true 2 (.t 1))⟩, ⟨none, (some 45), (.call 37 [(.t 44)])⟩, ⟨none, (some 46), (.call 38 [(.t 45)])⟩, ⟨none, (some 43), (.mv (.t 46))⟩, ⟨none, (some 47), (.ext (.t 43) 0)⟩, ⟨none, (some 48), (.ext (.t 43) 1)⟩, ⟨none, (some 9), (.mv (.t 47))⟩, ⟨none, (some 10), (.mv (.t 48))⟩]
def r8_14 : List CO := [⟨none, (some 49), (.mv (.t 9))⟩, ⟨none, (some 50), (.mv (.t 3))⟩, ⟨none, (some 51), (.call 35 [(.t 49), (.t 50)])⟩, ⟨none, (some 52), (.un .not (.t 51))⟩, ⟨none, (some 53), (.mv (.t 52))⟩, ⟨(some (53, false)), (some 54), (.mv (.t 10))⟩, ⟨(some (53, false)), (some 55), (.mv (.t 4))⟩, ⟨(some (53, false)), (some 56), (.bin .neq .bool (.t 54) (.t 55))⟩, ⟨none, (some 57), (.pick (.t 53) (.k (.v (.bool true))) (.t 56))⟩]
def r8_15 : List CO := [⟨none, (some 2), (.mv (.k (.v (.bool false))))⟩]
def r8_16 : List CO := [⟨none, (some 8), (.mv (.k (.v (.int .i64 (1)))))⟩]
def r8_17 : List CO := [⟨none, (some 58), (.mv (.t 5))⟩, ⟨none, (some 59), (.mv (.t 8))⟩, ⟨none, (some 60), (.call 40 [(.t 58), (.t 59)])⟩, ⟨none, (some 8), (.mv (.t 60))⟩]
def r8_18 : List CO := [⟨none, (some 61), (.mv (.t 8))⟩, ⟨none, (some 62), (.bin .lss .none (.t 61) (.k (.v (.int .i64 (0)))))⟩]
def r8_19 : List CO := [⟨none, (some 2), (.mv (.k (.v (.bool false))))⟩]
def r8_20 : List CO := [⟨none, (some 63), (.mv (.t 8))⟩, ⟨none, (some 64), (.mv (.t 7))⟩, ⟨none, (some 65), (.bin .neq .none (.t 63) (.t 64))⟩]
def r8_21 : List CO := [⟨none, (some 2), (.mv (.k (.v (.bool false))))⟩]
def r8_22 : List CO := [⟨none, (some 2), (.mv (.k (.v (.bool true))))⟩]
/-- loop.example/g00884/laws.FnExactBannerSizes -/
def c8 : C := (.seq (.reg r8_0 [1]) (.seq (.reg r8_1 [1, 3, 4]) (.seq (.reg r8_2 [1, 3, 4, 5, 6]) (.seq (.seq (.reg r8_3 [1, 3, 4, 5, 31]) (.cond (.t 31) (.seq (.reg r8_4 [2]) .ret) .skip)) (.seq (.reg r8_5 [1, 3, 4, 5, 7]) (.seq (.reg r8_6 [1, 3, 4, 5, 7]) (.seq (.reg r8_7 [1, 3, 4, 5, 7, 8]) (.seq (.reg r8_8 [1, 3, 4, 5, 7, 8]) (.seq (.seq (.reg r8_9 [1, 3, 4, 5, 7, 8, 39]) (.cond (.t 39) (.seq (.reg r8_10 [2]) .ret) .skip)) (.seq (.seq (.reg r8_11 [1, 3, 4, 5, 7, 42]) (.cond (.t 42) (.seq (.reg r8_12 [2]) .ret) .skip)) (.seq (.reg r8_13 [3, 4, 5, 7, 9, 10]) (.seq (.seq (.reg r8_14 [5, 7, 57]) (.cond (.t 57) (.seq (.reg r8_15 [2]) .ret) .skip)) (.seq (.reg r8_16 [5, 7, 8]) (.seq (.reg r8_17 [7, 8]) (.seq (.seq (.reg r8_18 [7, 8, 62]) (.cond (.t 62) (.seq (.reg r8_19 [2]) .ret) .skip)) (.seq (.seq (.reg r8_20 [65]) (.cond (.t 65) (.seq (.reg r8_21 [2]) .ret) .skip)) (.seq (.reg r8_22 [2]) .ret)))))))))))))))))
def k8 : Nat → List Nat
  | 0 => [1]
  | 1 => [1, 3, 4]
  | 2 => [1, 3, 4, 5, 6]
  | 3 => [1, 3, 4, 5, 31]
  | 4 => [2]
  | 5 => [1, 3, 4, 5, 7]
  | 6 => [1, 3, 4, 5, 7]
  | 7 => [1, 3, 4, 5, 7, 8]
  | 8 => [1, 3, 4, 5, 7, 8]
  | 9 => [1, 3, 4, 5, 7, 8, 39]
  | 10 => [2]
  | 11 => [1, 3, 4, 5, 7, 42]
  | 12 => [2]
  | 13 => [3, 4, 5, 7, 9, 10]
  | 14 => [5, 7, 57]
  | 15 => [2]
  | 16 => [5, 7, 8]
  | 17 => [7, 8]
  | 18 => [7, 8, 62]
  | 19 => [2]
  | 20 => [65]
  | 21 => [2]
  | 22 => [2]
  | _ => []
theorem fn8 : FnC Try.prog 8 c8 [(.tmp 2)] 66 :=
  ⟨Try.f8, _, k8, Try.func8, rfl, by kernel_rfl, by kernel_rfl, by kernel_rfl, rfl⟩
def r9_0 : List CO := [⟨none, (some 1), (.box 4 (.t 0))⟩, ⟨none, (some 2), (.mv (.k (.v (.bool false))))⟩]
def r9_1 : List CO := [⟨none, (some 3), (.mv (.k (.v (.int .i64 (1048576)))))⟩]
def r9_2 : List CO := [⟨none, (some 9), (.ld true 4 (.t 1))⟩, ⟨none, (some 10), (.mv (.t 3))⟩, ⟨none, (some 11), (.call 41 [(.t 9), (.t 10)])⟩, ⟨none, (some 3), (.mv (.t 11))⟩]
def r9_3 : List CO := [⟨none, (some 12), (.mv (.t 3))⟩, ⟨none, (some 13), (.bin .lss .none (.t 12) (.k (.v (.int .i64 (0)))))⟩]
def r9_4 : List CO := [⟨none, (some 2), (.mv (.k (.v (.bool true))))⟩]
def r9_5 : List CO := [⟨none, (some 15), (.ld true 4 (.t 1))⟩, ⟨none, (some 16), (.call 43 [(.t 15)])⟩, ⟨none, (some 17), (.call 42 [(.t 16)])⟩, ⟨none, (some 14), (.mv (.t 17))⟩, ⟨none, (some 18), (.ext (.t 14) 0)⟩, ⟨none, (some 19), (.ext (.t 14) 1)⟩, ⟨none, (some 4), (.mv (.t 18))⟩, ⟨none, (some 5), (.mv (.t 19))⟩]
def r9_6 : List CO := [⟨none, (some 20), (.ld true 4 (.t 1))⟩, ⟨none, (some 21), (.call 43 [(.t 20)])⟩, ⟨none, (some 6), (.box 4 (.k (.agg [(.v (.slice none 0 0)), (.v (.int .i64 (0))), (.v (.int .i64 (0))), (.v (.int .i64 (0)))])))⟩, ⟨none, none, (.st 4 (.t 6) (.t 21))⟩]
def r9_7 : List CO := [⟨none, (some 23), (.ld true 4 (.t 6))⟩, ⟨none, (some 24), (.call 44 [(.t 23)])⟩, ⟨none, (some 22), (.mv (.t 24))⟩, ⟨none, (some 25), (.ext (.t 22) 0)⟩, ⟨none, (some 26), (.ext (.t 22) 1)⟩, ⟨none, (some 7), (.mv (.t 25))⟩, ⟨none, (some 8), (.mv (.t 26))⟩]
def r9_8 : List CO := [⟨none, (some 27), (.mv (.t 7))⟩, ⟨none, (some 28), (.mv (.t 4))⟩, ⟨none, (some 29), (.bin .neq .none (.t 27) (.t 28))⟩, ⟨none, (some 30), (.mv (.t 29))⟩, ⟨(some (30, false)), (some 31), (.mv (.t 8))⟩, ⟨(some (30, false)), (some 32), (.mv (.t 5))⟩, ⟨(some (30, false)), (some 33), (.bin .neq .bool (.t 31) (.t 32))⟩, ⟨none, (some 34), (.pick (.t 30) (.k (.v (.bool true))) (.t 33))⟩]
def r9_9 : List CO := [⟨none, (some 2), (.mv (.k (.v (.bool false))))⟩]
def r9_10 : List CO := [⟨none, (some 35), (.ld true 4 (.t 6))⟩, ⟨none, (some 36), (.ld true 4 (.t 1))⟩, ⟨none, (some 37), (.call 43 [(.t 36)])⟩, ⟨none, (some 38), (.call 45 [(.t 35), (.t 37)])⟩, ⟨none, (some 39), (.un .not (.t 38))⟩]
def p9_10 : List (List Nat) := [[], [], [1], [0, 1, 2], [0, 1, 2, 3]]
def r9_11 : List CO := [⟨none, (some 2), (.mv (.k (.v (.bool false))))⟩]
def r9_12 : List CO := [⟨none, (some 2), (.mv (.k (.v (.bool true))))⟩]
/-- loop.example/g00884/laws.FnExactCheapestRank -/
def c9 : C := (.seq (.reg r9_0 [1]) (.seq (.reg r9_1 [1, 3]) (.seq (.reg r9_2 [1, 3]) (.seq (.seq (.reg r9_3 [1, 13]) (.cond (.t 13) (.seq (.reg r9_4 [2]) .ret) .skip)) (.seq (.reg r9_5 [1, 4, 5]) (.seq (.reg r9_6 [1, 4, 5, 6]) (.seq (.reg r9_7 [1, 4, 5, 6, 7, 8]) (.seq (.seq (.reg r9_8 [1, 6, 34]) (.cond (.t 34) (.seq (.reg r9_9 [2]) .ret) .skip)) (.seq (.seq (.regD r9_10 p9_10 [39]) (.cond (.t 39) (.seq (.reg r9_11 [2]) .ret) .skip)) (.seq (.reg r9_12 [2]) .ret))))))))))
def k9 : Nat → List Nat
  | 0 => [1]
  | 1 => [1, 3]
  | 2 => [1, 3]
  | 3 => [1, 13]
  | 4 => [2]
  | 5 => [1, 4, 5]
  | 6 => [1, 4, 5, 6]
  | 7 => [1, 4, 5, 6, 7, 8]
  | 8 => [1, 6, 34]
  | 9 => [2]
  | 10 => [39]
  | 11 => [2]
  | 12 => [2]
  | _ => []
theorem fn9 : FnC Try.prog 9 c9 [(.tmp 2)] 40 :=
  ⟨Try.f9, _, k9, Try.func9, rfl, by kernel_rfl, by kernel_rfl, by kernel_rfl, rfl⟩
def r10_0 : List CO := [⟨none, (some 3), (.box 2 (.t 1))⟩, ⟨none, (some 4), (.mv (.k (.v (.bool false))))⟩]
def r10_1 : List CO := [⟨none, (some 5), (.mv (.k (.v (.int .i64 (1048576)))))⟩]
def r10_2 : List CO := [⟨none, (some 11), (.mv (.t 0))⟩, ⟨none, (some 12), (.mv (.t 5))⟩, ⟨none, (some 13), (.call 31 [(.t 11), (.t 12)])⟩, ⟨none, (some 5), (.mv (.t 13))⟩]
def r10_3 : List CO := [⟨none, (some 14), (.mv (.t 5))⟩, ⟨none, (some 15), (.bin .lss .none (.t 14) (.k (.v (.int .i64 (0)))))⟩]
def r10_4 : List CO := [⟨none, (some 4), (.mv (.k (.v (.bool true))))⟩]
def r10_5 : List CO := [⟨none, (some 17), (.mv (.t 0))⟩, ⟨none, (some 18), (.call 33 [(.t 17)])⟩, ⟨none, (some 19), (.ld true 2 (.t 3))⟩, ⟨none, (some 20), (.call 37 [(.t 19)])⟩, ⟨none, (some 21), (.call 46 [(.t 18), (.t 20)])⟩, ⟨none, (some 16), (.mv (.t 21))⟩, ⟨none, (some 22), (.ext (.t 16) 0)⟩, ⟨none, (some 23), (.ext (.t 16) 1)⟩, ⟨none, (some 6), (.mv (.t 22))⟩, ⟨none, (some 7), (.mv (.t 23))⟩]
def p10_5 : List (List Nat) := [[], [0], [], [0, 1, 2], [0, 1, 2, 3], [0, 1, 2, 3, 4], [0, 1, 2, 3, 4, 5], [0, 1, 2, 3, 4, 5], [0, 1, 2, 3, 4, 5, 6], [0, 1, 2, 3, 4, 5, 6, 7, 8]]
def r10_6 : List CO := [⟨none, (some 24), (.mv (.t 0))⟩, ⟨none, (some 25), (.call 33 [(.t 24)])⟩, ⟨none, (some 8), (.mv (.t 25))⟩]
def r10_7 : List CO := [⟨none, (some 27), (.mv (.t 8))⟩, ⟨none, (some 28), (.ld true 2 (.t 3))⟩, ⟨none, (some 29), (.call 37 [(.t 28)])⟩, ⟨none, (some 30), (.call 47 [(.t 27), (.t 29)])⟩, ⟨none, (some 26), (.mv (.t 30))⟩, ⟨none, (some 31), (.ext (.t 26) 0)⟩, ⟨none, (some 32), (.ext (.t 26) 1)⟩, ⟨none, (some 9), (.mv (.t 31))⟩, ⟨none, (some 10), (.mv (.t 32))⟩]
def r10_8 : List CO := [⟨none, (some 33), (.mv (.t 9))⟩, ⟨none, (some 34), (.mv (.t 6))⟩, ⟨none, (some 35), (.bin .neq .bool (.t 33) (.t 34))⟩, ⟨none, (some 36), (.mv (.t 35))⟩, ⟨(some (36, false)), (some 37), (.mv (.t 10))⟩, ⟨(some (36, false)), (some 38), (.mv (.t 7))⟩, ⟨(some (36, false)), (some 39), (.bin .neq .bool (.t 37) (.t 38))⟩, ⟨none, (some 40), (.pick (.t 36) (.k (.v (.bool true))) (.t 39))⟩]
def r10_9 : List CO := [⟨none, (some 4), (.mv (.k (.v (.bool false))))⟩]
def r10_10 : List CO := [⟨none, (some 41), (.mv (.t 8))⟩, ⟨none, (some 42), (.mv (.t 0))⟩, ⟨none, (some 43), (.call 33 [(.t 42)])⟩, ⟨none, (some 44), (.call 35 [(.t 41), (.t 43)])⟩, ⟨none, (some 45), (.un .not (.t 44))⟩]
def r10_11 : List CO := [⟨none, (some 4), (.mv (.k (.v (.bool false))))⟩]
def r10_12 : List CO := [⟨none, (some 4), (.mv (.k (.v (.bool true))))⟩]
/-- loop.example/g00884/laws.FnExactKeepsProportion -/
def c10 : C := (.seq (.reg r10_0 [0, 3]) (.seq (.reg r10_1 [0, 3, 5]) (.seq (.reg r10_2 [0, 3, 5]) (.seq (.seq (.reg r10_3 [0, 3, 15]) (.cond (.t 15) (.seq (.reg r10_4 [4]) .ret) .skip)) (.seq (.regD r10_5 p10_5 [0, 3, 6, 7]) (.seq (.reg r10_6 [0, 3, 6, 7, 8]) (.seq (.reg r10_7 [0, 6, 7, 8, 9, 10]) (.seq (.seq (.reg r10_8 [0, 8, 40]) (.cond (.t 40) (.seq (.reg r10_9 [4]) .ret) .skip)) (.seq (.seq (.reg r10_10 [45]) (.cond (.t 45) (.seq (.reg r10_11 [4]) .ret) .skip)) (.seq (.reg r10_12 [4]) .ret))))))))))
def k10 : Nat → List Nat
  | 0 => [0, 3]
  | 1 => [0, 3, 5]
  | 2 => [0, 3, 5]
  | 3 => [0, 3, 15]
  | 4 => [4]
  | 5 => [0, 3, 6, 7]
  | 6 => [0, 3, 6, 7, 8]
  | 7 => [0, 6, 7, 8, 9, 10]
  | 8 => [0, 8, 40]
  | 9 => [4]
  | 10 => [45]
  | 11 => [4]
  | 12 => [4]
  | _ => []
theorem fn10 : FnC Try.prog 10 c10 [(.tmp 4)] 46 :=
  ⟨Try.f10, _, k10, Try.func10, rfl, by kernel_rfl, by kernel_rfl, by kernel_rfl, rfl⟩
def r11_0 : List CO := [⟨none, (some 2), (.mv (.k (.v (.bool false))))⟩]
def r11_1 : List CO := [⟨none, (some 3), (.mv (.k (.v (.int .i64 (1048576)))))⟩]
def r11_2 : List CO := [⟨none, (some 14), (.mv (.t 0))⟩, ⟨none, (some 15), (.mv (.t 3))⟩, ⟨none, (some 16), (.call 26 [(.t 14), (.t 15)])⟩, ⟨none, (some 3), (.mv (.t 16))⟩]
def r11_3 : List CO := [⟨none, (some 17), (.mv (.t 3))⟩, ⟨none, (some 18), (.bin .lss .none (.t 17) (.k (.v (.int .i64 (0)))))⟩]
def r11_4 : List CO := [⟨none, (some 2), (.mv (.k (.v (.bool true))))⟩]
def r11_5 : List CO := [⟨none, (some 20), (.mv (.t 0))⟩, ⟨none, (some 21), (.call 28 [(.t 20)])⟩, ⟨none, (some 22), (.call 48 [(.t 21)])⟩, ⟨none, (some 19), (.mv (.t 22))⟩, ⟨none, (some 23), (.ext (.t 19) 0)⟩, ⟨none, (some 24), (.ext (.t 19) 1)⟩, ⟨none, (some 4), (.mv (.t 23))⟩, ⟨none, (some 5), (.mv (.t 24))⟩]
def r11_6 : List CO := [⟨none, (some 25), (.mv (.t 0))⟩, ⟨none, (some 26), (.call 28 [(.t 25)])⟩, ⟨none, (some 6), (.mv (.t 26))⟩]
def r11_7 : List CO := [⟨none, (some 28), (.mv (.t 6))⟩, ⟨none, (some 29), (.call 49 [(.t 28)])⟩, ⟨none, (some 27), (.mv (.t 29))⟩, ⟨none, (some 30), (.ext (.t 27) 0)⟩, ⟨none, (some 31), (.ext (.t 27) 1)⟩, ⟨none, (some 7), (.mv (.t 30))⟩, ⟨none, (some 8), (.mv (.t 31))⟩]
def r11_8 : List CO := [⟨none, (some 32), (.mv (.t 7))⟩, ⟨none, (some 33), (.mv (.t 4))⟩, ⟨none, (some 34), (.call 23 [(.t 32), (.t 33)])⟩, ⟨none, (some 35), (.un .not (.t 34))⟩, ⟨none, (some 36), (.mv (.t 35))⟩, ⟨(some (36, false)), (some 37), (.mv (.t 8))⟩, ⟨(some (36, false)), (some 38), (.mv (.t 5))⟩, ⟨(some (36, false)), (some 39), (.bin .neq .bool (.t 37) (.t 38))⟩, ⟨none, (some 40), (.pick (.t 36) (.k (.v (.bool true))) (.t 39))⟩]
def r11_9 : List CO := [⟨none, (some 2), (.mv (.k (.v (.bool false))))⟩]
def r11_10 : List CO := [⟨none, (some 41), (.mv (.t 6))⟩, ⟨none, (some 42), (.mv (.t 0))⟩, ⟨none, (some 43), (.call 28 [(.t 42)])⟩, ⟨none, (some 44), (.call 30 [(.t 41), (.t 43)])⟩, ⟨none, (some 45), (.un .not (.t 44))⟩]
def r11_11 : List CO := [⟨none, (some 2), (.mv (.k (.v (.bool false))))⟩]
def r11_12 : List CO := [⟨none, (some 9), (.mv (.k (.v (.int .i64 (1)))))⟩]
def r11_13 : List CO := [⟨none, (some 46), (.mv (.t 6))⟩, ⟨none, (some 47), (.mv (.t 9))⟩, ⟨none, (some 48), (.call 50 [(.t 46), (.t 47)])⟩, ⟨none, (some 9), (.mv (.t 48))⟩]
def r11_14 : List CO := [⟨none, (some 49), (.mv (.t 9))⟩, ⟨none, (some 50), (.bin .lss .none (.t 49) (.k (.v (.int .i64 (0)))))⟩, ⟨none, (some 51), (.mv (.t 50))⟩, ⟨(some (51, false)), (some 52), (.mv (.t 7))⟩, ⟨(some (51, false)), (some 53), (.mv (.t 4))⟩, ⟨(some (51, false)), (some 54), (.call 23 [(.t 52), (.t 53)])⟩, ⟨(some (51, false)), (some 55), (.un .not (.t 54))⟩, ⟨none, (some 56), (.pick (.t 51) (.k (.v (.bool true))) (.t 55))⟩, ⟨none, (some 57), (.mv (.t 56))⟩, ⟨(some (57, false)), (some 58), (.mv (.t 8))⟩, ⟨(some (57, false)), (some 59), (.mv (.t 5))⟩, ⟨(some (57, false)), (some 60), (.bin .neq .bool (.t 58) (.t 59))⟩, ⟨none, (some 61), (.pick (.t 57) (.k (.v (.bool true))) (.t 60))⟩]
def r11_15 : List CO := [⟨none, (some 2), (.mv (.k (.v (.bool false))))⟩]
def r11_16 : List CO := [⟨none, (some 10), (.mv (.k (.v (.int .i64 (1)))))⟩]
def r11_17 : List CO := [⟨none, (some 62), (.mv (.t 7))⟩, ⟨none, (some 63), (.mv (.t 10))⟩, ⟨none, (some 64), (.call 24 [(.t 62), (.t 63)])⟩, ⟨none, (some 10), (.mv (.t 64))⟩]
def r11_18 : List CO := [⟨none, (some 11), (.mv (.k (.v (.int .i64 (1)))))⟩]
def r11_19 : List CO := [⟨none, (some 65), (.mv (.t 7))⟩, ⟨none, (some 66), (.mv (.t 11))⟩, ⟨none, (some 67), (.call 25 [(.t 65), (.t 66)])⟩, ⟨none, (some 11), (.mv (.t 67))⟩]
def r11_20 : List CO := [⟨none, (some 68), (.mv (.t 11))⟩, ⟨none, (some 69), (.bin .lss .none (.t 68) (.k (.v (.int .i64 (0)))))⟩]
def r11_21 : List CO := [⟨none, (some 2), (.mv (.k (.v (.bool false))))⟩]
def r11_22 : List CO := [⟨none, (some 70), (.mv (.t 11))⟩, ⟨none, (some 71), (.mv (.t 10))⟩, ⟨none, (some 72), (.bin .neq .none (.t 70) (.t 71))⟩]
def r11_23 : List CO := [⟨none, (some 2), (.mv (.k (.v (.bool false))))⟩]
def r11_24 : List CO := [⟨none, (some 74), (.mv (.t 0))⟩, ⟨none, (some 75), (.call 28 [(.t 74)])⟩, ⟨none, (some 76), (.call 49 [(.t 75)])⟩, ⟨none, (some 73), (.mv (.t 76))⟩, ⟨none, (some 77), (.ext (.t 73) 0)⟩, ⟨none, (some 78), (.ext (.t 73) 1)⟩, ⟨none, (some 12), (.mv (.t 77))⟩, ⟨none, (some 13), (.mv (.t 78))⟩]
def r11_25 : List CO := [⟨none, (some 79), (.mv (.t 12))⟩, ⟨none, (some 80), (.mv (.t 4))⟩, ⟨none, (some 81), (.call 23 [(.t 79), (.t 80)])⟩, ⟨none, (some 82), (.un .not (.t 81))⟩, ⟨none, (some 83), (.mv (.t 82))⟩, ⟨(some (83, false)), (some 84), (.mv (.t 13))⟩, ⟨(some (83, false)), (some 85), (.mv (.t 5))⟩, ⟨(some (83, false)), (some 86), (.bin .neq .bool (.t 84) (.t 85))⟩, ⟨none, (some 87), (.pick (.t 83) (.k (.v (.bool true))) (.t 86))⟩]
def r11_26 : List CO := [⟨none, (some 2), (.mv (.k (.v (.bool false))))⟩]
def r11_27 : List CO := [⟨none, (some 11), (.mv (.k (.v (.int .i64 (1)))))⟩]
def r11_28 : List CO := [⟨none, (some 88), (.mv (.t 7))⟩, ⟨none, (some 89), (.mv (.t 11))⟩, ⟨none, (some 90), (.call 25 [(.t 88), (.t 89)])⟩, ⟨none, (some 11), (.mv (.t 90))⟩]
def r11_29 : List CO := [⟨none, (some 91), (.mv (.t 11))⟩, ⟨none, (some 92), (.bin .lss .none (.t 91) (.k (.v (.int .i64 (0)))))⟩]
def r11_30 : List CO := [⟨none, (some 2), (.mv (.k (.v (.bool false))))⟩]
def r11_31 : List CO := [⟨none, (some 93), (.mv (.t 11))⟩, ⟨none, (some 94), (.mv (.t 10))⟩, ⟨none, (some 95), (.bin .neq .none (.t 93) (.t 94))⟩]
def r11_32 : List CO := [⟨none, (some 2), (.mv (.k (.v (.bool false))))⟩]
def r11_33 : List CO := [⟨none, (some 2), (.mv (.k (.v (.bool true))))⟩]
/-- loop.example/g00884/laws.FnExactIncomeOf -/
def c11 : C := (.seq (.reg r11_0 [0]) (.seq (.reg r11_1 [0, 3]) (.seq (.reg r11_2 [0, 3]) (.seq (.seq (.reg r11_3 [0, 18]) (.cond (.t 18) (.seq (.reg r11_4 [2]) .ret) .skip)) (.seq (.reg r11_5 [0, 4, 5]) (.seq (.reg r11_6 [0, 4, 5, 6]) (.seq (.reg r11_7 [0, 4, 5, 6, 7, 8]) (.seq (.seq (.reg r11_8 [0, 4, 5, 6, 7, 8, 40]) (.cond (.t 40) (.seq (.reg r11_9 [2]) .ret) .skip)) (.seq (.seq (.reg r11_10 [0, 4, 5, 6, 7, 8, 45]) (.cond (.t 45) (.seq (.reg r11_11 [2]) .ret) .skip)) (.seq (.reg r11_12 [0, 4, 5, 6, 7, 8, 9]) (.seq (.reg r11_13 [0, 4, 5, 7, 8, 9]) (.seq (.seq (.reg r11_14 [0, 4, 5, 7, 61]) (.cond (.t 61) (.seq (.reg r11_15 [2]) .ret) .skip)) (.seq (.reg r11_16 [0, 4, 5, 7, 10]) (.seq (.reg r11_17 [0, 4, 5, 7, 10]) (.seq (.reg r11_18 [0, 4, 5, 7, 10, 11]) (.seq (.reg r11_19 [0, 4, 5, 7, 10, 11]) (.seq (.seq (.reg r11_20 [0, 4, 5, 7, 10, 11, 69]) (.cond (.t 69) (.seq (.reg r11_21 [2]) .ret) .skip)) (.seq (.seq (.reg r11_22 [0, 4, 5, 7, 10, 72]) (.cond (.t 72) (.seq (.reg r11_23 [2]) .ret) .skip)) (.seq (.reg r11_24 [4, 5, 7, 10, 12, 13]) (.seq (.seq (.reg r11_25 [7, 10, 87]) (.cond (.t 87) (.seq (.reg r11_26 [2]) .ret) .skip)) (.seq (.reg r11_27 [7, 10, 11]) (.seq (.reg r11_28 [10, 11]) (.seq (.seq (.reg r11_29 [10, 11, 92]) (.cond (.t 92) (.seq (.reg r11_30 [2]) .ret) .skip)) (.seq (.seq (.reg r11_31 [95]) (.cond (.t 95) (.seq (.reg r11_32 [2]) .ret) .skip)) (.seq (.reg r11_33 [2]) .ret)))))))))))))))))))))))))
def k11 : Nat → List Nat
  | 0 => [0]
  | 1 => [0, 3]
  | 2 => [0, 3]
  | 3 => [0, 18]
  | 4 => [2]
  | 5 => [0, 4, 5]
  | 6 => [0, 4, 5, 6]
  | 7 => [0, 4, 5, 6, 7, 8]
  | 8 => [0, 4, 5, 6, 7, 8, 40]
  | 9 => [2]
  | 10 => [0, 4, 5, 6, 7, 8, 45]
  | 11 => [2]
  | 12 => [0, 4, 5, 6, 7, 8, 9]
  | 13 => [0, 4, 5, 7, 8, 9]
  | 14 => [0, 4, 5, 7, 61]
  | 15 => [2]
  | 16 => [0, 4, 5, 7, 10]
  | 17 => [0, 4, 5, 7, 10]
  | 18 => [0, 4, 5, 7, 10, 11]
  | 19 => [0, 4, 5, 7, 10, 11]
  | 20 => [0, 4, 5, 7, 10, 11, 69]
  | 21 => [2]
  | 22 => [0, 4, 5, 7, 10, 72]
  | 23 => [2]
  | 24 => [4, 5, 7, 10, 12, 13]
  | 25 => [7, 10, 87]
  | 26 => [2]
  | 27 => [7, 10, 11]
  | 28 => [10, 11]
  | 29 => [10, 11, 92]
  | 30 => [2]
  | 31 => [95]
  | 32 => [2]
  | 33 => [2]
  | _ => []
theorem fn11 : FnC Try.prog 11 c11 [(.tmp 2)] 96 :=
  ⟨Try.f11, _, k11, Try.func11, rfl, by kernel_rfl, by kernel_rfl, by kernel_rfl, rfl⟩
def r12_0 : List CO := [⟨none, (some 6), (.mv (.k (.v (.bool false))))⟩]
def r12_1 : List CO := [⟨none, (some 7), (.mv (.k (.v (.int .i64 (1048576)))))⟩]
def r12_2 : List CO := [⟨none, (some 18), (.mv (.t 0))⟩, ⟨none, (some 19), (.mv (.t 7))⟩, ⟨none, (some 20), (.call 26 [(.t 18), (.t 19)])⟩, ⟨none, (some 7), (.mv (.t 20))⟩]
def r12_3 : List CO := [⟨none, (some 21), (.mv (.t 7))⟩, ⟨none, (some 22), (.bin .lss .none (.t 21) (.k (.v (.int .i64 (0)))))⟩]
def r12_4 : List CO := [⟨none, (some 6), (.mv (.k (.v (.bool true))))⟩]
def r12_5 : List CO := [⟨none, (some 24), (.mv (.t 0))⟩, ⟨none, (some 25), (.call 28 [(.t 24)])⟩, ⟨none, (some 26), (.mv (.t 1))⟩, ⟨none, (some 27), (.mv (.t 2))⟩, ⟨none, (some 28), (.call 51 [(.t 25), (.t 26), (.t 27)])⟩, ⟨none, (some 23), (.mv (.t 28))⟩, ⟨none, (some 29), (.ext (.t 23) 0)⟩, ⟨none, (some 30), (.ext (.t 23) 1)⟩, ⟨none, (some 8), (.mv (.t 29))⟩, ⟨none, (some 9), (.mv (.t 30))⟩]
def r12_6 : List CO := [⟨none, (some 31), (.mv (.t 0))⟩, ⟨none, (some 32), (.call 28 [(.t 31)])⟩, ⟨none, (some 10), (.mv (.t 32))⟩]
def r12_7 : List CO := [⟨none, (some 34), (.mv (.t 10))⟩, ⟨none, (some 35), (.mv (.t 1))⟩, ⟨none, (some 36), (.mv (.t 2))⟩, ⟨none, (some 37), (.call 52 [(.t 34), (.t 35), (.t 36)])⟩, ⟨none, (some 33), (.mv (.t 37))⟩, ⟨none, (some 38), (.ext (.t 33) 0)⟩, ⟨none, (some 39), (.ext (.t 33) 1)⟩, ⟨none, (some 11), (.mv (.t 38))⟩, ⟨none, (some 12), (.mv (.t 39))⟩]
def r12_8 : List CO := [⟨none, (some 40), (.mv (.t 11))⟩, ⟨none, (some 41), (.mv (.t 8))⟩, ⟨none, (some 42), (.call 23 [(.t 40), (.t 41)])⟩, ⟨none, (some 43), (.un .not (.t 42))⟩, ⟨none, (some 44), (.mv (.t 43))⟩, ⟨(some (44, false)), (some 45), (.mv (.t 12))⟩, ⟨(some (44, false)), (some 46), (.mv (.t 9))⟩, ⟨(some (44, false)), (some 47), (.bin .neq .bool (.t 45) (.t 46))⟩, ⟨none, (some 48), (.pick (.t 44) (.k (.v (.bool true))) (.t 47))⟩]
def r12_9 : List CO := [⟨none, (some 6), (.mv (.k (.v (.bool false))))⟩]
def r12_10 : List CO := [⟨none, (some 49), (.mv (.t 10))⟩, ⟨none, (some 50), (.mv (.t 0))⟩, ⟨none, (some 51), (.call 28 [(.t 50)])⟩, ⟨none, (some 52), (.call 30 [(.t 49), (.t 51)])⟩, ⟨none, (some 53), (.un .not (.t 52))⟩]
def r12_11 : List CO := [⟨none, (some 6), (.mv (.k (.v (.bool false))))⟩]
def r12_12 : List CO := [⟨none, (some 13), (.mv (.k (.v (.int .i64 (1)))))⟩]
def r12_13 : List CO := [⟨none, (some 54), (.mv (.t 10))⟩, ⟨none, (some 55), (.mv (.t 13))⟩, ⟨none, (some 56), (.call 50 [(.t 54), (.t 55)])⟩, ⟨none, (some 13), (.mv (.t 56))⟩]
def r12_14 : List CO := [⟨none, (some 57), (.mv (.t 13))⟩, ⟨none, (some 58), (.bin .lss .none (.t 57) (.k (.v (.int .i64 (0)))))⟩, ⟨none, (some 59), (.mv (.t 58))⟩, ⟨(some (59, false)), (some 60), (.mv (.t 11))⟩, ⟨(some (59, false)), (some 61), (.mv (.t 8))⟩, ⟨(some (59, false)), (some 62), (.call 23 [(.t 60), (.t 61)])⟩, ⟨(some (59, false)), (some 63), (.un .not (.t 62))⟩, ⟨none, (some 64), (.pick (.t 59) (.k (.v (.bool true))) (.t 63))⟩, ⟨none, (some 65), (.mv (.t 64))⟩, ⟨(some (65, false)), (some 66), (.mv (.t 12))⟩, ⟨(some (65, false)), (some 67), (.mv (.t 9))⟩, ⟨(some (65, false)), (some 68), (.bin .neq .bool (.t 66) (.t 67))⟩, ⟨none, (some 69), (.pick (.t 65) (.k (.v (.bool true))) (.t 68))⟩]
def r12_15 : List CO := [⟨none, (some 6), (.mv (.k (.v (.bool false))))⟩]
def r12_16 : List CO := [⟨none, (some 14), (.mv (.k (.v (.int .i64 (1)))))⟩]
def r12_17 : List CO := [⟨none, (some 70), (.mv (.t 11))⟩, ⟨none, (some 71), (.mv (.t 14))⟩, ⟨none, (some 72), (.call 24 [(.t 70), (.t 71)])⟩, ⟨none, (some 14), (.mv (.t 72))⟩]
def r12_18 : List CO := [⟨none, (some 15), (.mv (.k (.v (.int .i64 (1)))))⟩]
def r12_19 : List CO := [⟨none, (some 73), (.mv (.t 11))⟩, ⟨none, (some 74), (.mv (.t 15))⟩, ⟨none, (some 75), (.call 25 [(.t 73), (.t 74)])⟩, ⟨none, (some 15), (.mv (.t 75))⟩]
def r12_20 : List CO := [⟨none, (some 76), (.mv (.t 15))⟩, ⟨none, (some 77), (.bin .lss .none (.t 76) (.k (.v (.int .i64 (0)))))⟩]
def r12_21 : List CO := [⟨none, (some 6), (.mv (.k (.v (.bool false))))⟩]
def r12_22 : List CO := [⟨none, (some 78), (.mv (.t 15))⟩, ⟨none, (some 79), (.mv (.t 14))⟩, ⟨none, (some 80), (.bin .neq .none (.t 78) (.t 79))⟩]
def r12_23 : List CO := [⟨none, (some 6), (.mv (.k (.v (.bool false))))⟩]
def r12_24 : List CO := [⟨none, (some 82), (.mv (.t 0))⟩, ⟨none, (some 83), (.call 28 [(.t 82)])⟩, ⟨none, (some 84), (.mv (.t 1))⟩, ⟨none, (some 85), (.mv (.t 2))⟩, ⟨none, (some 86), (.call 52 [(.t 83), (.t 84), (.t 85)])⟩, ⟨none, (some 81), (.mv (.t 86))⟩, ⟨none, (some 87), (.ext (.t 81) 0)⟩, ⟨none, (some 88), (.ext (.t 81) 1)⟩, ⟨none, (some 16), (.mv (.t 87))⟩, ⟨none, (some 17), (.mv (.t 88))⟩]
def r12_25 : List CO := [⟨none, (some 89), (.mv (.t 16))⟩, ⟨none, (some 90), (.mv (.t 8))⟩, ⟨none, (some 91), (.call 23 [(.t 89), (.t 90)])⟩, ⟨none, (some 92), (.un .not (.t 91))⟩, ⟨none, (some 93), (.mv (.t 92))⟩, ⟨(some (93, false)), (some 94), (.mv (.t 17))⟩, ⟨(some (93, false)), (some 95), (.mv (.t 9))⟩, ⟨(some (93, false)), (some 96), (.bin .neq .bool (.t 94) (.t 95))⟩, ⟨none, (some 97), (.pick (.t 93) (.k (.v (.bool true))) (.t 96))⟩]
def r12_26 : List CO := [⟨none, (some 6), (.mv (.k (.v (.bool false))))⟩]
def r12_27 : List CO := [⟨none, (some 15), (.mv (.k (.v (.int .i64 (1)))))⟩]
def r12_28 : List CO := [⟨none, (some 98), (.mv (.t 11))⟩, ⟨none, (some 99), (.mv (.t 15))⟩, ⟨none, (some 100), (.call 25 [(.t 98), (.t 99)])⟩, ⟨none, (some 15), (.mv (.t 100))⟩]
def r12_29 : List CO := [⟨none, (some 101), (.mv (.t 15))⟩, ⟨none, (some 102), (.bin .lss .none (.t 101) (.k (.v (.int .i64 (0)))))⟩]
def r12_30 : List CO := [⟨none, (some 6), (.mv (.k (.v (.bool false))))⟩]
def r12_31 : List CO := [⟨none, (some 103), (.mv (.t 15))⟩, ⟨none, (some 104), (.mv (.t 14))⟩, ⟨none, (some 105), (.bin .neq .none (.t 103) (.t 104))⟩]
def r12_32 : List CO := [⟨none, (some 6), (.mv (.k (.v (.bool false))))⟩]
def r12_33 : List CO := [⟨none, (some 6), (.mv (.k (.v (.bool true))))⟩]
/-- loop.example/g00884/laws.FnExactOverduePetitions -/
def c12 : C := (.seq (.reg r12_0 [0, 1, 2]) (.seq (.reg r12_1 [0, 1, 2, 7]) (.seq (.reg r12_2 [0, 1, 2, 7]) (.seq (.seq (.reg r12_3 [0, 1, 2, 22]) (.cond (.t 22) (.seq (.reg r12_4 [6]) .ret) .skip)) (.seq (.reg r12_5 [0, 1, 2, 8, 9]) (.seq (.reg r12_6 [0, 1, 2, 8, 9, 10]) (.seq (.reg r12_7 [0, 1, 2, 8, 9, 10, 11, 12]) (.seq (.seq (.reg r12_8 [0, 1, 2, 8, 9, 10, 11, 12, 48]) (.cond (.t 48) (.seq (.reg r12_9 [6]) .ret) .skip)) (.seq (.seq (.reg r12_10 [0, 1, 2, 8, 9, 10, 11, 12, 53]) (.cond (.t 53) (.seq (.reg r12_11 [6]) .ret) .skip)) (.seq (.reg r12_12 [0, 1, 2, 8, 9, 10, 11, 12, 13]) (.seq (.reg r12_13 [0, 1, 2, 8, 9, 11, 12, 13]) (.seq (.seq (.reg r12_14 [0, 1, 2, 8, 9, 11, 69]) (.cond (.t 69) (.seq (.reg r12_15 [6]) .ret) .skip)) (.seq (.reg r12_16 [0, 1, 2, 8, 9, 11, 14]) (.seq (.reg r12_17 [0, 1, 2, 8, 9, 11, 14]) (.seq (.reg r12_18 [0, 1, 2, 8, 9, 11, 14, 15]) (.seq (.reg r12_19 [0, 1, 2, 8, 9, 11, 14, 15]) (.seq (.seq (.reg r12_20 [0, 1, 2, 8, 9, 11, 14, 15, 77]) (.cond (.t 77) (.seq (.reg r12_21 [6]) .ret) .skip)) (.seq (.seq (.reg r12_22 [0, 1, 2, 8, 9, 11, 14, 80]) (.cond (.t 80) (.seq (.reg r12_23 [6]) .ret) .skip)) (.seq (.reg r12_24 [8, 9, 11, 14, 16, 17]) (.seq (.seq (.reg r12_25 [11, 14, 97]) (.cond (.t 97) (.seq (.reg r12_26 [6]) .ret) .skip)) (.seq (.reg r12_27 [11, 14, 15]) (.seq (.reg r12_28 [14, 15]) (.seq (.seq (.reg r12_29 [14, 15, 102]) (.cond (.t 102) (.seq (.reg r12_30 [6]) .ret) .skip)) (.seq (.seq (.reg r12_31 [105]) (.cond (.t 105) (.seq (.reg r12_32 [6]) .ret) .skip)) (.seq (.reg r12_33 [6]) .ret)))))))))))))))))))))))))
def k12 : Nat → List Nat
  | 0 => [0, 1, 2]
  | 1 => [0, 1, 2, 7]
  | 2 => [0, 1, 2, 7]
  | 3 => [0, 1, 2, 22]
  | 4 => [6]
  | 5 => [0, 1, 2, 8, 9]
  | 6 => [0, 1, 2, 8, 9, 10]
  | 7 => [0, 1, 2, 8, 9, 10, 11, 12]
  | 8 => [0, 1, 2, 8, 9, 10, 11, 12, 48]
  | 9 => [6]
  | 10 => [0, 1, 2, 8, 9, 10, 11, 12, 53]
  | 11 => [6]
  | 12 => [0, 1, 2, 8, 9, 10, 11, 12, 13]
  | 13 => [0, 1, 2, 8, 9, 11, 12, 13]
  | 14 => [0, 1, 2, 8, 9, 11, 69]
  | 15 => [6]
  | 16 => [0, 1, 2, 8, 9, 11, 14]
  | 17 => [0, 1, 2, 8, 9, 11, 14]
  | 18 => [0, 1, 2, 8, 9, 11, 14, 15]
  | 19 => [0, 1, 2, 8, 9, 11, 14, 15]
  | 20 => [0, 1, 2, 8, 9, 11, 14, 15, 77]
  | 21 => [6]
  | 22 => [0, 1, 2, 8, 9, 11, 14, 80]
  | 23 => [6]
  | 24 => [8, 9, 11, 14, 16, 17]
  | 25 => [11, 14, 97]
  | 26 => [6]
  | 27 => [11, 14, 15]
  | 28 => [14, 15]
  | 29 => [14, 15, 102]
  | 30 => [6]
  | 31 => [105]
  | 32 => [6]
  | 33 => [6]
  | _ => []
theorem fn12 : FnC Try.prog 12 c12 [(.tmp 6)] 106 :=
  ⟨Try.f12, _, k12, Try.func12, rfl, by kernel_rfl, by kernel_rfl, by kernel_rfl, rfl⟩
def r13_0 : List CO := [⟨none, (some 1), (.box 2 (.t 0))⟩, ⟨none, (some 2), (.mv (.k (.v (.bool false))))⟩]
def r13_1 : List CO := [⟨none, (some 3), (.mv (.k (.v (.int .i64 (1048576)))))⟩]
def r13_2 : List CO := [⟨none, (some 6), (.ld true 2 (.t 1))⟩, ⟨none, (some 7), (.mv (.t 3))⟩, ⟨none, (some 8), (.call 53 [(.t 6), (.t 7)])⟩, ⟨none, (some 3), (.mv (.t 8))⟩]
def r13_3 : List CO := [⟨none, (some 9), (.mv (.t 3))⟩, ⟨none, (some 10), (.bin .lss .none (.t 9) (.k (.v (.int .i64 (0)))))⟩]
def r13_4 : List CO := [⟨none, (some 2), (.mv (.k (.v (.bool true))))⟩]
def r13_5 : List CO := [⟨none, (some 11), (.ld true 2 (.t 1))⟩, ⟨none, (some 12), (.call 55 [(.t 11)])⟩, ⟨none, (some 13), (.call 54 [(.t 12)])⟩, ⟨none, (some 4), (.mv (.t 13))⟩]
def r13_6 : List CO := [⟨none, (some 14), (.ld true 2 (.t 1))⟩, ⟨none, (some 15), (.call 55 [(.t 14)])⟩, ⟨none, (some 16), (.call 56 [(.t 15)])⟩, ⟨none, (some 5), (.mv (.t 16))⟩]
def r13_7 : List CO := [⟨none, (some 17), (.mv (.t 5))⟩, ⟨none, (some 18), (.mv (.t 4))⟩, ⟨none, (some 19), (.bin .neq .bool (.t 17) (.t 18))⟩]
def r13_8 : List CO := [⟨none, (some 2), (.mv (.k (.v (.bool false))))⟩]
def r13_9 : List CO := [⟨none, (some 2), (.mv (.k (.v (.bool true))))⟩]
/-- loop.example/g00884/laws.FnExactIsValidRecord -/
def c13 : C := (.seq (.reg r13_0 [1]) (.seq (.reg r13_1 [1, 3]) (.seq (.reg r13_2 [1, 3]) (.seq (.seq (.reg r13_3 [1, 10]) (.cond (.t 10) (.seq (.reg r13_4 [2]) .ret) .skip)) (.seq (.reg r13_5 [1, 4]) (.seq (.reg r13_6 [4, 5]) (.seq (.seq (.reg r13_7 [19]) (.cond (.t 19) (.seq (.reg r13_8 [2]) .ret) .skip)) (.seq (.reg r13_9 [2]) .ret))))))))
def k13 : Nat → List Nat
  | 0 => [1]
  | 1 => [1, 3]
  | 2 => [1, 3]
  | 3 => [1, 10]
  | 4 => [2]
  | 5 => [1, 4]
  | 6 => [4, 5]
  | 7 => [19]
  | 8 => [2]
  | 9 => [2]
  | _ => []
theorem fn13 : FnC Try.prog 13 c13 [(.tmp 2)] 20 :=
  ⟨Try.f13, _, k13, Try.func13, rfl, by kernel_rfl, by kernel_rfl, by kernel_rfl, rfl⟩
def r14_0 : List CO := [⟨none, (some 2), (.mv (.k (.v (.bool false))))⟩]
def r14_1 : List CO := [⟨none, (some 3), (.mv (.k (.v (.int .i64 (1048576)))))⟩]
def r14_2 : List CO := [⟨none, (some 14), (.mv (.t 0))⟩, ⟨none, (some 15), (.mv (.t 3))⟩, ⟨none, (some 16), (.call 31 [(.t 14), (.t 15)])⟩, ⟨none, (some 3), (.mv (.t 16))⟩]
def r14_3 : List CO := [⟨none, (some 17), (.mv (.t 3))⟩, ⟨none, (some 18), (.bin .lss .none (.t 17) (.k (.v (.int .i64 (0)))))⟩]
def r14_4 : List CO := [⟨none, (some 2), (.mv (.k (.v (.bool true))))⟩]
def r14_5 : List CO := [⟨none, (some 20), (.mv (.t 0))⟩, ⟨none, (some 21), (.call 33 [(.t 20)])⟩, ⟨none, (some 22), (.call 57 [(.t 21)])⟩, ⟨none, (some 19), (.mv (.t 22))⟩, ⟨none, (some 23), (.ext (.t 19) 0)⟩, ⟨none, (some 24), (.ext (.t 19) 1)⟩, ⟨none, (some 4), (.mv (.t 23))⟩, ⟨none, (some 5), (.mv (.t 24))⟩]
def r14_6 : List CO := [⟨none, (some 25), (.mv (.t 0))⟩, ⟨none, (some 26), (.call 33 [(.t 25)])⟩, ⟨none, (some 6), (.mv (.t 26))⟩]
def r14_7 : List CO := [⟨none, (some 28), (.mv (.t 6))⟩, ⟨none, (some 29), (.call 58 [(.t 28)])⟩, ⟨none, (some 27), (.mv (.t 29))⟩, ⟨none, (some 30), (.ext (.t 27) 0)⟩, ⟨none, (some 31), (.ext (.t 27) 1)⟩, ⟨none, (some 7), (.mv (.t 30))⟩, ⟨none, (some 8), (.mv (.t 31))⟩]
def r14_8 : List CO := [⟨none, (some 32), (.mv (.t 7))⟩, ⟨none, (some 33), (.mv (.t 4))⟩, ⟨none, (some 34), (.call 23 [(.t 32), (.t 33)])⟩, ⟨none, (some 35), (.un .not (.t 34))⟩, ⟨none, (some 36), (.mv (.t 35))⟩, ⟨(some (36, false)), (some 37), (.mv (.t 8))⟩, ⟨(some (36, false)), (some 38), (.mv (.t 5))⟩, ⟨(some (36, false)), (some 39), (.bin .neq .bool (.t 37) (.t 38))⟩, ⟨none, (some 40), (.pick (.t 36) (.k (.v (.bool true))) (.t 39))⟩]
def r14_9 : List CO := [⟨none, (some 2), (.mv (.k (.v (.bool false))))⟩]
def r14_10 : List CO := [⟨none, (some 41), (.mv (.t 6))⟩, ⟨none, (some 42), (.mv (.t 0))⟩, ⟨none, (some 43), (.call 33 [(.t 42)])⟩, ⟨none, (some 44), (.call 35 [(.t 41), (.t 43)])⟩, ⟨none, (some 45), (.un .not (.t 44))⟩]
def r14_11 : List CO := [⟨none, (some 2), (.mv (.k (.v (.bool false))))⟩]
def r14_12 : List CO := [⟨none, (some 9), (.mv (.k (.v (.int .i64 (1)))))⟩]
def r14_13 : List CO := [⟨none, (some 46), (.mv (.t 6))⟩, ⟨none, (some 47), (.mv (.t 9))⟩, ⟨none, (some 48), (.call 39 [(.t 46), (.t 47)])⟩, ⟨none, (some 9), (.mv (.t 48))⟩]
def r14_14 : List CO := [⟨none, (some 49), (.mv (.t 9))⟩, ⟨none, (some 50), (.bin .lss .none (.t 49) (.k (.v (.int .i64 (0)))))⟩, ⟨none, (some 51), (.mv (.t 50))⟩, ⟨(some (51, false)), (some 52), (.mv (.t 7))⟩, ⟨(some (51, false)), (some 53), (.mv (.t 4))⟩, ⟨(some (51, false)), (some 54), (.call 23 [(.t 52), (.t 53)])⟩, ⟨(some (51, false)), (some 55), (.un .not (.t 54))⟩, ⟨none, (some 56), (.pick (.t 51) (.k (.v (.bool true))) (.t 55))⟩, ⟨none, (some 57), (.mv (.t 56))⟩, ⟨(some (57, false)), (some 58), (.mv (.t 8))⟩, ⟨(some (57, false)), (some 59), (.mv (.t 5))⟩, ⟨(some (57, false)), (some 60), (.bin .neq .bool (.t 58) (.t 59))⟩, ⟨none, (some 61), (.pick (.t 57) (.k (.v (.bool true))) (.t 60))⟩]
def r14_15 : List CO := [⟨none, (some 2), (.mv (.k (.v (.bool false))))⟩]
def r14_16 : List CO := [⟨none, (some 10), (.mv (.k (.v (.int .i64 (1)))))⟩]
def r14_17 : List CO := [⟨none, (some 62), (.mv (.t 7))⟩, ⟨none, (some 63), (.mv (.t 10))⟩, ⟨none, (some 64), (.call 24 [(.t 62), (.t 63)])⟩, ⟨none, (some 10), (.mv (.t 64))⟩]
def r14_18 : List CO := [⟨none, (some 11), (.mv (.k (.v (.int .i64 (1)))))⟩]
def r14_19 : List CO := [⟨none, (some 65), (.mv (.t 7))⟩, ⟨none, (some 66), (.mv (.t 11))⟩, ⟨none, (some 67), (.call 25 [(.t 65), (.t 66)])⟩, ⟨none, (some 11), (.mv (.t 67))⟩]
def r14_20 : List CO := [⟨none, (some 68), (.mv (.t 11))⟩, ⟨none, (some 69), (.bin .lss .none (.t 68) (.k (.v (.int .i64 (0)))))⟩]
def r14_21 : List CO := [⟨none, (some 2), (.mv (.k (.v (.bool false))))⟩]
def r14_22 : List CO := [⟨none, (some 70), (.mv (.t 11))⟩, ⟨none, (some 71), (.mv (.t 10))⟩, ⟨none, (some 72), (.bin .neq .none (.t 70) (.t 71))⟩]
def r14_23 : List CO := [⟨none, (some 2), (.mv (.k (.v (.bool false))))⟩]
def r14_24 : List CO := [⟨none, (some 74), (.mv (.t 0))⟩, ⟨none, (some 75), (.call 33 [(.t 74)])⟩, ⟨none, (some 76), (.call 58 [(.t 75)])⟩, ⟨none, (some 73), (.mv (.t 76))⟩, ⟨none, (some 77), (.ext (.t 73) 0)⟩, ⟨none, (some 78), (.ext (.t 73) 1)⟩, ⟨none, (some 12), (.mv (.t 77))⟩, ⟨none, (some 13), (.mv (.t 78))⟩]
def r14_25 : List CO := [⟨none, (some 79), (.mv (.t 12))⟩, ⟨none, (some 80), (.mv (.t 4))⟩, ⟨none, (some 81), (.call 23 [(.t 79), (.t 80)])⟩, ⟨none, (some 82), (.un .not (.t 81))⟩, ⟨none, (some 83), (.mv (.t 82))⟩, ⟨(some (83, false)), (some 84), (.mv (.t 13))⟩, ⟨(some (83, false)), (some 85), (.mv (.t 5))⟩, ⟨(some (83, false)), (some 86), (.bin .neq .bool (.t 84) (.t 85))⟩, ⟨none, (some 87), (.pick (.t 83) (.k (.v (.bool true))) (.t 86))⟩]
def r14_26 : List CO := [⟨none, (some 2), (.mv (.k (.v (.bool false))))⟩]
def r14_27 : List CO := [⟨none, (some 11), (.mv (.k (.v (.int .i64 (1)))))⟩]
def r14_28 : List CO := [⟨none, (some 88), (.mv (.t 7))⟩, ⟨none, (some 89), (.mv (.t 11))⟩, ⟨none, (some 90), (.call 25 [(.t 88), (.t 89)])⟩, ⟨none, (some 11), (.mv (.t 90))⟩]
def r14_29 : List CO := [⟨none, (some 91), (.mv (.t 11))⟩, ⟨none, (some 92), (.bin .lss .none (.t 91) (.k (.v (.int .i64 (0)))))⟩]
def r14_30 : List CO := [⟨none, (some 2), (.mv (.k (.v (.bool false))))⟩]
def r14_31 : List CO := [⟨none, (some 93), (.mv (.t 11))⟩, ⟨none, (some 94), (.mv (.t 10))⟩, ⟨none, (some 95), (.bin .neq .none (.t 93) (.t 94))⟩]
def r14_32 : List CO := [⟨none, (some 2), (.mv (.k (.v (.bool false))))⟩]
def r14_33 : List CO := [⟨none, (some 2), (.mv (.k (.v (.bool true))))⟩]
/-- loop.example/g00884/laws.FnExactTinctureAreas -/
def c14 : C := (.seq (.reg r14_0 [0]) (.seq (.reg r14_1 [0, 3]) (.seq (.reg r14_2 [0, 3]) (.seq (.seq (.reg r14_3 [0, 18]) (.cond (.t 18) (.seq (.reg r14_4 [2]) .ret) .skip)) (.seq (.reg r14_5 [0, 4, 5]) (.seq (.reg r14_6 [0, 4, 5, 6]) (.seq (.reg r14_7 [0, 4, 5, 6, 7, 8]) (.seq (.seq (.reg r14_8 [0, 4, 5, 6, 7, 8, 40]) (.cond (.t 40) (.seq (.reg r14_9 [2]) .ret) .skip)) (.seq (.seq (.reg r14_10 [0, 4, 5, 6, 7, 8, 45]) (.cond (.t 45) (.seq (.reg r14_11 [2]) .ret) .skip)) (.seq (.reg r14_12 [0, 4, 5, 6, 7, 8, 9]) (.seq (.reg r14_13 [0, 4, 5, 7, 8, 9]) (.seq (.seq (.reg r14_14 [0, 4, 5, 7, 61]) (.cond (.t 61) (.seq (.reg r14_15 [2]) .ret) .skip)) (.seq (.reg r14_16 [0, 4, 5, 7, 10]) (.seq (.reg r14_17 [0, 4, 5, 7, 10]) (.seq (.reg r14_18 [0, 4, 5, 7, 10, 11]) (.seq (.reg r14_19 [0, 4, 5, 7, 10, 11]) (.seq (.seq (.reg r14_20 [0, 4, 5, 7, 10, 11, 69]) (.cond (.t 69) (.seq (.reg r14_21 [2]) .ret) .skip)) (.seq (.seq (.reg r14_22 [0, 4, 5, 7, 10, 72]) (.cond (.t 72) (.seq (.reg r14_23 [2]) .ret) .skip)) (.seq (.reg r14_24 [4, 5, 7, 10, 12, 13]) (.seq (.seq (.reg r14_25 [7, 10, 87]) (.cond (.t 87) (.seq (.reg r14_26 [2]) .ret) .skip)) (.seq (.reg r14_27 [7, 10, 11]) (.seq (.reg r14_28 [10, 11]) (.seq (.seq (.reg r14_29 [10, 11, 92]) (.cond (.t 92) (.seq (.reg r14_30 [2]) .ret) .skip)) (.seq (.seq (.reg r14_31 [95]) (.cond (.t 95) (.seq (.reg r14_32 [2]) .ret) .skip)) (.seq (.reg r14_33 [2]) .ret)))))))))))))))))))))))))
def k14 : Nat → List Nat
  | 0 => [0]
  | 1 => [0, 3]
  | 2 => [0, 3]
  | 3 => [0, 18]
  | 4 => [2]
  | 5 => [0, 4, 5]
  | 6 => [0, 4, 5, 6]
  | 7 => [0, 4, 5, 6, 7, 8]
  | 8 => [0, 4, 5, 6, 7, 8, 40]
  | 9 => [2]
  | 10 => [0, 4, 5, 6, 7, 8, 45]
  | 11 => [2]
  | 12 => [0, 4, 5, 6, 7, 8, 9]
  | 13 => [0, 4, 5, 7, 8, 9]
  | 14 => [0, 4, 5, 7, 61]
  | 15 => [2]
  | 16 => [0, 4, 5, 7, 10]
  | 17 => [0, 4, 5, 7, 10]
  | 18 => [0, 4, 5, 7, 10, 11]
  | 19 => [0, 4, 5, 7, 10, 11]
  | 20 => [0, 4, 5, 7, 10, 11, 69]
  | 21 => [2]
  | 22 => [0, 4, 5, 7, 10, 72]
  | 23 => [2]
  | 24 => [4, 5, 7, 10, 12, 13]
  | 25 => [7, 10, 87]
  | 26 => [2]
  | 27 => [7, 10, 11]
  | 28 => [10, 11]
  | 29 => [10, 11, 92]
  | 30 => [2]
  | 31 => [95]
  | 32 => [2]
  | 33 => [2]
  | _ => []
theorem fn14 : FnC Try.prog 14 c14 [(.tmp 2)] 96 :=
  ⟨Try.f14, _, k14, Try.func14, rfl, by kernel_rfl, by kernel_rfl, by kernel_rfl, rfl⟩
def r15_0 : List CO := [⟨none, (some 1), (.box 3 (.t 0))⟩, ⟨none, (some 2), (.mv (.k (.v (.bool false))))⟩]
def r15_1 : List CO := [⟨none, (some 3), (.ld true 3 (.t 1))⟩, ⟨none, (some 4), (.call 59 [(.t 3)])⟩, ⟨none, (some 2), (.mv (.t 4))⟩]
/-- loop.example/g00884/spec.IsValidRoll -/
def c15 : C := (.seq (.reg r15_0 [1]) (.seq (.reg r15_1 [2]) .ret))
def k15 : Nat → List Nat
  | 0 => [1]
  | 1 => [2]
  | _ => []
theorem fn15 : FnC Try.prog 15 c15 [(.tmp 2)] 5 :=
  ⟨Try.f15, _, k15, Try.func15, rfl, by kernel_rfl, by kernel_rfl, by kernel_rfl, rfl⟩
def r16_0 : List CO := [⟨none, (some 1), (.box 3 (.t 0))⟩, ⟨none, (some 2), (.box 3 (.k (.agg [(.v (.int .i64 (0))), (.v (.int .i64 (0))), (.v (.int .i64 (0)))])))⟩]
def r16_1 : List CO := [⟨none, (some 3), (.box 3 (.k (.agg [(.v (.int .i64 (0))), (.v (.int .i64 (0))), (.v (.int .i64 (0)))])))⟩]
def r16_2 : List CO := [⟨none, (some 4), (.faddr 0 (.t 1))⟩, ⟨none, (some 5), (.ld false 1 (.t 4))⟩, ⟨none, (some 6), (.faddr 0 (.t 3))⟩, ⟨none, none, (.st 1 (.t 6) (.t 5))⟩]
def r16_3 : List CO := [⟨none, (some 7), (.faddr 1 (.t 1))⟩, ⟨none, (some 8), (.ld false 1 (.t 7))⟩, ⟨none, (some 9), (.faddr 1 (.t 3))⟩, ⟨none, none, (.st 1 (.t 9) (.t 8))⟩]
def r16_4 : List CO := [⟨none, (some 10), (.faddr 2 (.t 1))⟩, ⟨none, (some 11), (.ld false 1 (.t 10))⟩, ⟨none, (some 12), (.faddr 2 (.t 3))⟩, ⟨none, none, (.st 1 (.t 12) (.t 11))⟩]
def r16_5 : List CO := [⟨none, (some 13), (.ld true 3 (.t 3))⟩, ⟨none, none, (.st 3 (.t 2) (.t 13))⟩]
/-- loop.example/g00884/laws.toRoll -/
def c16 : C := (.seq (.reg r16_0 [1, 2]) (.seq (.reg r16_1 [1, 2, 3]) (.seq (.reg r16_2 [1, 2, 3]) (.seq (.reg r16_3 [1, 2, 3]) (.seq (.reg r16_4 [2, 3]) (.seq (.reg r16_5 [2]) .ret))))))
def k16 : Nat → List Nat
  | 0 => [1, 2]
  | 1 => [1, 2, 3]
  | 2 => [1, 2, 3]
  | 3 => [1, 2, 3]
  | 4 => [2, 3]
  | 5 => [2]
  | _ => []
theorem fn16 : FnC Try.prog 16 c16 [(.cell 2 true 3)] 14 :=
  ⟨Try.f16, _, k16, Try.func16, rfl, by kernel_rfl, by kernel_rfl, by kernel_rfl, rfl⟩
def r17_0 : List CO := [⟨none, (some 1), (.box 3 (.t 0))⟩, ⟨none, (some 2), (.mv (.k (.v (.bool false))))⟩]
def r17_1 : List CO := [⟨none, (some 3), (.faddr 0 (.t 1))⟩, ⟨none, (some 4), (.ld false 1 (.t 3))⟩, ⟨none, (some 5), (.call 60 [(.t 4), (.k (.v (.int .i64 (1)))), (.k (.v (.int .i64 (3))))])⟩, ⟨none, (some 6), (.mv (.t 5))⟩, ⟨(some (6, true)), (some 7), (.faddr 1 (.t 1))⟩, ⟨(some (6, true)), (some 8), (.ld false 1 (.t 7))⟩, ⟨(some (6, true)), (some 9), (.call 60 [(.t 8), (.k (.v (.int .i64 (20)))), (.k (.v (.int .i64 (60))))])⟩, ⟨none, (some 10), (.pick (.t 6) (.t 9) (.k (.v (.bool false))))⟩, ⟨none, (some 11), (.mv (.t 10))⟩, ⟨(some (11, true)), (some 12), (.faddr 2 (.t 1))⟩, ⟨(some (11, true)), (some 13), (.ld false 1 (.t 12))⟩, ⟨(some (11, true)), (some 14), (.call 60 [(.t 13), (.k (.v (.int .i64 (4)))), (.k (.v (.int .i64 (20))))])⟩, ⟨none, (some 15), (.pick (.t 11) (.t 14) (.k (.v (.bool false))))⟩, ⟨none, (some 2), (.mv (.t 15))⟩]
/-- loop.example/g00884/impl.IsValidRoll -/
def c17 : C := (.seq (.reg r17_0 [1]) (.seq (.reg r17_1 [2]) .ret))
def k17 : Nat → List Nat
  | 0 => [1]
  | 1 => [2]
  | _ => []
theorem fn17 : FnC Try.prog 17 c17 [(.tmp 2)] 16 :=
  ⟨Try.f17, _, k17, Try.func17, rfl, by kernel_rfl, by kernel_rfl, by kernel_rfl, rfl⟩
def r18_0 : List CO := [⟨none, (some 4), (.box 2 (.k (.agg [(.v (.int .i64 (0))), (.v (.int .i64 (0)))])))⟩, ⟨none, (some 5), (.mv (.k (.v (.bool false))))⟩]
def r18_1 : List CO := [⟨none, (some 8), (.mv (.t 0))⟩, ⟨none, (some 9), (.call 61 [(.t 8), (.k (.v (.int .i64 (1)))), (.k (.v (.int .i64 (1000))))])⟩, ⟨none, (some 10), (.un .not (.t 9))⟩, ⟨none, (some 11), (.mv (.t 10))⟩, ⟨(some (11, false)), (some 12), (.mv (.t 1))⟩, ⟨(some (11, false)), (some 13), (.call 61 [(.t 12), (.k (.v (.int .i64 (1)))), (.k (.v (.int .i64 (1000))))])⟩, ⟨(some (11, false)), (some 14), (.un .not (.t 13))⟩, ⟨none, (some 15), (.pick (.t 11) (.k (.v (.bool true))) (.t 14))⟩]
def r18_2 : List CO := [⟨none, (some 16), (.build (.agg [(.v (.int .i64 (0))), (.v (.int .i64 (0)))]) [])⟩, ⟨none, none, (.st 2 (.t 4) (.t 16))⟩, ⟨none, (some 5), (.mv (.k (.v (.bool false))))⟩]
def r18_3 : List CO := [⟨none, (some 17), (.mv (.t 0))⟩, ⟨none, (some 18), (.mv (.t 1))⟩, ⟨none, (some 19), (.call 62 [(.t 17), (.t 18)])⟩, ⟨none, (some 6), (.mv (.t 19))⟩]
def r18_4 : List CO := [⟨none, (some 20), (.mv (.t 0))⟩, ⟨none, (some 21), (.mv (.t 6))⟩, ⟨none, (some 22), (.bin .quo .none (.t 20) (.t 21))⟩, ⟨none, (some 23), (.mv (.t 1))⟩, ⟨none, (some 24), (.mv (.t 6))⟩, ⟨none, (some 25), (.bin .quo .none (.t 23) (.t 24))⟩, ⟨none, (some 26), (.build (.agg [(.v (.int .i64 (0))), (.v (.int .i64 (0)))]) [(0, (1, (.t 22))), (1, (1, (.t 25)))])⟩, ⟨none, (some 7), (.box 2 (.k (.agg [(.v (.int .i64 (0))), (.v (.int .i64 (0)))])))⟩, ⟨none, none, (.st 2 (.t 7) (.t 26))⟩]
def p18_4 : List (List Nat) := [[], [], [0, 1], [], [], [3, 4], [0, 1, 2, 3, 4, 5], [], [0, 1, 2, 3, 4, 5, 6, 7]]
def r18_5 : List CO := [⟨none, (some 27), (.ld true 2 (.t 7))⟩, ⟨none, (some 28), (.call 63 [(.t 27)])⟩, ⟨none, (some 29), (.un .not (.t 28))⟩]
def r18_6 : List CO := [⟨none, (some 30), (.build (.agg [(.v (.int .i64 (0))), (.v (.int .i64 (0)))]) [])⟩, ⟨none, none, (.st 2 (.t 4) (.t 30))⟩, ⟨none, (some 5), (.mv (.k (.v (.bool false))))⟩]
def r18_7 : List CO := [⟨none, (some 31), (.ld true 2 (.t 7))⟩, ⟨none, none, (.st 2 (.t 4) (.t 31))⟩, ⟨none, (some 5), (.mv (.k (.v (.bool true))))⟩]
/-- loop.example/g00884/spec.ReduceProportion -/
def c18 : C := (.seq (.reg r18_0 [0, 1, 4]) (.seq (.seq (.reg r18_1 [0, 1, 4, 15]) (.cond (.t 15) (.seq (.reg r18_2 [4, 5]) .ret) .skip)) (.seq (.reg r18_3 [0, 1, 4, 6]) (.seq (.regD r18_4 p18_4 [4, 7]) (.seq (.seq (.reg r18_5 [4, 7, 29]) (.cond (.t 29) (.seq (.reg r18_6 [4, 5]) .ret) .skip)) (.seq (.reg r18_7 [4, 5]) .ret))))))
def k18 : Nat → List Nat
  | 0 => [0, 1, 4]
  | 1 => [0, 1, 4, 15]
  | 2 => [4, 5]
  | 3 => [0, 1, 4, 6]
  | 4 => [4, 7]
  | 5 => [4, 7, 29]
  | 6 => [4, 5]
  | 7 => [4, 5]
  | _ => []
theorem fn18 : FnC Try.prog 18 c18 [(.cell 4 true 2), (.tmp 5)] 32 :=
  ⟨Try.f18, _, k18, Try.func18, rfl, by kernel_rfl, by kernel_rfl, by kernel_rfl, rfl⟩
def r19_0 : List CO := [⟨none, (some 4), (.box 2 (.k (.agg [(.v (.int .i64 (0))), (.v (.int .i64 (0)))])))⟩, ⟨none, (some 5), (.mv (.k (.v (.bool false))))⟩]
def r19_1 : List CO := [⟨none, (some 8), (.mv (.t 0))⟩, ⟨none, (some 9), (.call 60 [(.t 8), (.k (.v (.int .i64 (1)))), (.k (.v (.int .i64 (1000))))])⟩, ⟨none, (some 10), (.un .not (.t 9))⟩, ⟨none, (some 11), (.mv (.t 10))⟩, ⟨(some (11, false)), (some 12), (.mv (.t 1))⟩, ⟨(some (11, false)), (some 13), (.call 60 [(.t 12), (.k (.v (.int .i64 (1)))), (.k (.v (.int .i64 (1000))))])⟩, ⟨(some (11, false)), (some 14), (.un .not (.t 13))⟩, ⟨none, (some 15), (.pick (.t 11) (.k (.v (.bool true))) (.t 14))⟩]
def r19_2 : List CO := [⟨none, (some 16), (.build (.agg [(.v (.int .i64 (0))), (.v (.int .i64 (0)))]) [])⟩, ⟨none, none, (.st 2 (.t 4) (.t 16))⟩, ⟨none, (some 5), (.mv (.k (.v (.bool false))))⟩]
def r19_3 : List CO := [⟨none, (some 17), (.mv (.t 0))⟩, ⟨none, (some 18), (.mv (.t 1))⟩, ⟨none, (some 19), (.call 64 [(.t 17), (.t 18)])⟩, ⟨none, (some 6), (.mv (.t 19))⟩]
def r19_4 : List CO := [⟨none, (some 20), (.mv (.t 0))⟩, ⟨none, (some 21), (.mv (.t 6))⟩, ⟨none, (some 22), (.bin .quo .none (.t 20) (.t 21))⟩, ⟨none, (some 23), (.mv (.t 1))⟩, ⟨none, (some 24), (.mv (.t 6))⟩, ⟨none, (some 25), (.bin .quo .none (.t 23) (.t 24))⟩, ⟨none, (some 26), (.build (.agg [(.v (.int .i64 (0))), (.v (.int .i64 (0)))]) [(0, (1, (.t 22))), (1, (1, (.t 25)))])⟩, ⟨none, (some 7), (.box 2 (.k (.agg [(.v (.int .i64 (0))), (.v (.int .i64 (0)))])))⟩, ⟨none, none, (.st 2 (.t 7) (.t 26))⟩]
def p19_4 : List (List Nat) := [[], [], [0, 1], [], [], [3, 4], [0, 1, 2, 3, 4, 5], [], [0, 1, 2, 3, 4, 5, 6, 7]]
def r19_5 : List CO := [⟨none, (some 27), (.ld true 2 (.t 7))⟩, ⟨none, (some 28), (.call 65 [(.t 27)])⟩, ⟨none, (some 29), (.un .not (.t 28))⟩]
def r19_6 : List CO := [⟨none, (some 30), (.build (.agg [(.v (.int .i64 (0))), (.v (.int .i64 (0)))]) [])⟩, ⟨none, none, (.st 2 (.t 4) (.t 30))⟩, ⟨none, (some 5), (.mv (.k (.v (.bool false))))⟩]
def r19_7 : List CO := [⟨none, (some 31), (.ld true 2 (.t 7))⟩, ⟨none, none, (.st 2 (.t 4) (.t 31))⟩, ⟨none, (some 5), (.mv (.k (.v (.bool true))))⟩]
/-- loop.example/g00884/impl.ReduceProportion -/
def c19 : C := (.seq (.reg r19_0 [0, 1, 4]) (.seq (.seq (.reg r19_1 [0, 1, 4, 15]) (.cond (.t 15) (.seq (.reg r19_2 [4, 5]) .ret) .skip)) (.seq (.reg r19_3 [0, 1, 4, 6]) (.seq (.regD r19_4 p19_4 [4, 7]) (.seq (.seq (.reg r19_5 [4, 7, 29]) (.cond (.t 29) (.seq (.reg r19_6 [4, 5]) .ret) .skip)) (.seq (.reg r19_7 [4, 5]) .ret))))))
def k19 : Nat → List Nat
  | 0 => [0, 1, 4]
  | 1 => [0, 1, 4, 15]
  | 2 => [4, 5]
  | 3 => [0, 1, 4, 6]
  | 4 => [4, 7]
  | 5 => [4, 7, 29]
  | 6 => [4, 5]
  | 7 => [4, 5]
  | _ => []
theorem fn19 : FnC Try.prog 19 c19 [(.cell 4 true 2), (.tmp 5)] 32 :=
  ⟨Try.f19, _, k19, Try.func19, rfl, by kernel_rfl, by kernel_rfl, by kernel_rfl, rfl⟩
def r20_0 : List CO := [⟨none, (some 2), (.box 2 (.t 0))⟩, ⟨none, (some 3), (.box 2 (.t 1))⟩, ⟨none, (some 4), (.mv (.k (.v (.bool false))))⟩]
def r20_1 : List CO := [⟨none, (some 5), (.faddr 0 (.t 2))⟩, ⟨none, (some 6), (.ld false 1 (.t 5))⟩, ⟨none, (some 7), (.faddr 0 (.t 3))⟩, ⟨none, (some 8), (.ld false 1 (.t 7))⟩, ⟨none, (some 9), (.bin .neq .none (.t 6) (.t 8))⟩]
def r20_2 : List CO := [⟨none, (some 4), (.mv (.k (.v (.bool false))))⟩]
def r20_3 : List CO := [⟨none, (some 10), (.faddr 1 (.t 2))⟩, ⟨none, (some 11), (.ld false 1 (.t 10))⟩, ⟨none, (some 12), (.faddr 1 (.t 3))⟩, ⟨none, (some 13), (.ld false 1 (.t 12))⟩, ⟨none, (some 14), (.bin .neq .none (.t 11) (.t 13))⟩]
def r20_4 : List CO := [⟨none, (some 4), (.mv (.k (.v (.bool false))))⟩]
def r20_5 : List CO := [⟨none, (some 4), (.mv (.k (.v (.bool true))))⟩]
/-- loop.example/g00884/laws.eqProportion -/
def c20 : C := (.seq (.reg r20_0 [2, 3]) (.seq (.seq (.reg r20_1 [2, 3, 9]) (.cond (.t 9) (.seq (.reg r20_2 [4]) .ret) .skip)) (.seq (.seq (.reg r20_3 [14]) (.cond (.t 14) (.seq (.reg r20_4 [4]) .ret) .skip)) (.seq (.reg r20_5 [4]) .ret))))
def k20 : Nat → List Nat
  | 0 => [2, 3]
  | 1 => [2, 3, 9]
  | 2 => [4]
  | 3 => [14]
  | 4 => [4]
  | 5 => [4]
  | _ => []
theorem fn20 : FnC Try.prog 20 c20 [(.tmp 4)] 15 :=
  ⟨Try.f20, _, k20, Try.func20, rfl, by kernel_rfl, by kernel_rfl, by kernel_rfl, rfl⟩
def r21_0 : List CO := [⟨none, (some 4), (.mv (.k (.v (.slice none 0 0))))⟩, ⟨none, (some 5), (.mv (.k (.v (.bool false))))⟩]
def r21_1 : List CO := [⟨none, (some 9), (.bslice 1 (.v (.int .i64 (0))) 0 [])⟩, ⟨none, (some 6), (.mv (.t 9))⟩]
def r21_2 : List CO := [⟨none, (some 10), (.mv (.t 0))⟩, ⟨none, (some 11), (.call 61 [(.t 10), (.k (.v (.int .i64 (0)))), (.k (.v (.int .i64 (1000000))))])⟩, ⟨none, (some 12), (.un .not (.t 11))⟩, ⟨none, (some 13), (.mv (.t 12))⟩, ⟨(some (13, false)), (some 14), (.mv (.t 1))⟩, ⟨(some (13, false)), (some 15), (.call 61 [(.t 14), (.k (.v (.int .i64 (1)))), (.k (.v (.int .i64 (12))))])⟩, ⟨(some (13, false)), (some 16), (.un .not (.t 15))⟩, ⟨none, (some 17), (.pick (.t 13) (.k (.v (.bool true))) (.t 16))⟩]
def r21_3 : List CO := [⟨none, (some 18), (.mv (.t 6))⟩, ⟨none, (some 4), (.mv (.t 18))⟩, ⟨none, (some 5), (.mv (.k (.v (.bool false))))⟩]
def r21_4 : List CO := [⟨none, (some 7), (.mv (.k (.v (.int .i64 (0)))))⟩]
def r21_5 : List CO := [⟨none, (some 19), (.mv (.t 7))⟩, ⟨none, (some 20), (.mv (.t 1))⟩, ⟨none, (some 21), (.bin .lss .none (.t 19) (.t 20))⟩]
def r21_6 : List CO := [⟨none, (some 24), (.mv (.t 0))⟩, ⟨none, (some 25), (.mv (.t 1))⟩, ⟨none, (some 26), (.bin .quo .none (.t 24) (.t 25))⟩, ⟨none, (some 8), (.mv (.t 26))⟩]
def r21_7 : List CO := [⟨none, (some 27), (.mv (.t 7))⟩, ⟨none, (some 28), (.mv (.t 0))⟩, ⟨none, (some 29), (.mv (.t 1))⟩, ⟨none, (some 30), (.bin .rem .none (.t 28) (.t 29))⟩, ⟨none, (some 31), (.bin .lss .none (.t 27) (.t 30))⟩]
def r21_8 : List CO := [⟨none, (some 32), (.mv (.t 8))⟩, ⟨none, (some 33), (.bin .add .none (.t 32) (.k (.v (.int .i64 (1)))))⟩, ⟨none, (some 8), (.mv (.t 33))⟩]
def r21_9 : List CO := [⟨none, (some 34), (.mv (.t 6))⟩, ⟨none, (some 35), (.mv (.t 8))⟩, ⟨none, (some 36), (.bslice 1 (.v (.int .i64 (0))) 1 [(0, (.t 35))])⟩, ⟨none, (some 37), (.app 1 8 (.t 34) (.t 36))⟩, ⟨none, (some 6), (.mv (.t 37))⟩]
def r21_10 : List CO := [⟨none, (some 22), (.mv (.t 7))⟩, ⟨none, (some 23), (.bin .add .none (.t 22) (.k (.v (.int .i64 (1)))))⟩, ⟨none, (some 7), (.mv (.t 23))⟩]
def l21_11 : C := (.seq (.seq (.reg r21_5 [0, 1, 6, 7, 21]) (.cond (.t 21) .skip (.exit 0))) (.seq (.block 1 (.seq (.reg r21_6 [0, 1, 6, 7, 8]) (.seq (.seq (.reg r21_7 [0, 1, 6, 7, 8, 31]) (.cond (.t 31) (.reg r21_8 [0, 1, 6, 7, 8]) .skip)) (.reg r21_9 [0, 1, 6, 7])))) (.reg r21_10 [0, 1, 6, 7])))
def r21_12 : List CO := [⟨none, (some 38), (.mv (.t 6))⟩, ⟨none, (some 4), (.mv (.t 38))⟩, ⟨none, (some 5), (.mv (.k (.v (.bool true))))⟩]
/-- loop.example/g00884/spec.SplitFee -/
def c21 : C := (.seq (.reg r21_0 [0, 1]) (.seq (.reg r21_1 [0, 1, 6]) (.seq (.seq (.reg r21_2 [0, 1, 6, 17]) (.cond (.t 17) (.seq (.reg r21_3 [4, 5]) .ret) .skip)) (.seq (.seq (.reg r21_4 [0, 1, 6, 7]) (.block 0 (.loop l21_11))) (.seq (.reg r21_12 [4, 5]) .ret)))))
def k21 : Nat → List Nat
  | 0 => [0, 1]
  | 1 => [0, 1, 6]
  | 2 => [0, 1, 6, 17]
  | 3 => [4, 5]
  | 4 => [0, 1, 6, 7]
  | 5 => [0, 1, 6, 7, 21]
  | 7 => [0, 1, 6, 7, 8]
  | 8 => [0, 1, 6, 7, 8, 31]
  | 9 => [0, 1, 6, 7, 8]
  | 10 => [0, 1, 6, 7]
  | 6 => [0, 1, 6, 7]
  | 11 => [4, 5]
  | _ => []
theorem fn21 : FnC Try.prog 21 c21 [(.tmp 4), (.tmp 5)] 39 :=
  ⟨Try.f21, _, k21, Try.func21, rfl, by kernel_rfl, by kernel_rfl, by kernel_rfl, rfl⟩
def r22_0 : List CO := [⟨none, (some 4), (.mv (.k (.v (.slice none 0 0))))⟩, ⟨none, (some 5), (.mv (.k (.v (.bool false))))⟩]
def r22_1 : List CO := [⟨none, (some 8), (.mv (.t 0))⟩, ⟨none, (some 9), (.call 60 [(.t 8), (.k (.v (.int .i64 (0)))), (.k (.v (.int .i64 (1000000))))])⟩, ⟨none, (some 10), (.un .not (.t 9))⟩, ⟨none, (some 11), (.mv (.t 10))⟩, ⟨(some (11, false)), (some 12), (.mv (.t 1))⟩, ⟨(some (11, false)), (some 13), (.call 60 [(.t 12), (.k (.v (.int .i64 (1)))), (.k (.v (.int .i64 (12))))])⟩, ⟨(some (11, false)), (some 14), (.un .not (.t 13))⟩, ⟨none, (some 15), (.pick (.t 11) (.k (.v (.bool true))) (.t 14))⟩]
def r22_2 : List CO := [⟨none, (some 4), (.mv (.k (.v (.slice none 0 0))))⟩, ⟨none, (some 5), (.mv (.k (.v (.bool false))))⟩]
def r22_3 : List CO := [⟨none, (some 16), (.bslice 1 (.v (.int .i64 (0))) 0 [])⟩, ⟨none, (some 6), (.mv (.t 16))⟩]
def r22_4 : List CO := [⟨none, (some 17), (.mv (.t 1))⟩, ⟨none, (some 18), (.mv (.k (.v (.int .i64 (0)))))⟩]
def r22_5 : List CO := [⟨none, (some 19), (.bin .lss .none (.t 18) (.t 17))⟩]
def r22_6 : List CO := [⟨none, (some 20), (.mv (.t 18))⟩, ⟨none, (some 7), (.mv (.t 20))⟩]
def r22_7 : List CO := [⟨none, (some 21), (.mv (.t 6))⟩, ⟨none, (some 22), (.mv (.t 0))⟩, ⟨none, (some 23), (.mv (.t 1))⟩, ⟨none, (some 24), (.bin .quo .none (.t 22) (.t 23))⟩, ⟨none, (some 25), (.mv (.t 7))⟩, ⟨none, (some 26), (.mv (.t 0))⟩, ⟨none, (some 27), (.mv (.t 1))⟩, ⟨none, (some 28), (.bin .rem .none (.t 26) (.t 27))⟩, ⟨none, (some 29), (.bin .lss .none (.t 25) (.t 28))⟩, ⟨none, (some 30), (.call 66 [(.t 29)])⟩, ⟨none, (some 31), (.bin .add .none (.t 24) (.t 30))⟩, ⟨none, (some 32), (.bslice 1 (.v (.int .i64 (0))) 1 [(0, (.t 31))])⟩, ⟨none, (some 33), (.app 1 8 (.t 21) (.t 32))⟩, ⟨none, (some 6), (.mv (.t 33))⟩]
def p22_7 : List (List Nat) := [[], [], [], [1, 2], [], [], [], [5, 6], [4, 5, 6, 7], [4, 5, 6, 7, 8], [1, 2, 3, 4, 5, 6, 7, 8, 9], [1, 2, 3, 4, 5, 6, 7, 8, 9, 10], [0, 1, 2, 3, 4, 5, 6, 7, 8, 9, 10, 11], [0, 1, 2, 3, 4, 5, 6, 7, 8, 9, 10, 11, 12]]
def r22_8 : List CO := [⟨none, (some 34), (.bin .add .none (.t 18) (.k (.v (.int .i64 (1)))))⟩, ⟨none, (some 18), (.mv (.t 34))⟩]
def l22_9 : C := (.seq (.reg r22_5 [0, 1, 6, 17, 18, 19]) (.seq (.cond (.t 19) .skip (.exit 0)) (.seq (.block 1 (.seq (.reg r22_6 [0, 1, 6, 7, 17, 18]) (.regD r22_7 p22_7 [0, 1, 6, 17, 18]))) (.reg r22_8 [0, 1, 6, 17, 18]))))
def r22_10 : List CO := [⟨none, (some 35), (.mv (.t 6))⟩, ⟨none, (some 4), (.mv (.t 35))⟩, ⟨none, (some 5), (.mv (.k (.v (.bool true))))⟩]
/-- loop.example/g00884/impl.SplitFee -/
def c22 : C := (.seq (.reg r22_0 [0, 1]) (.seq (.seq (.reg r22_1 [0, 1, 15]) (.cond (.t 15) (.seq (.reg r22_2 [4, 5]) .ret) .skip)) (.seq (.reg r22_3 [0, 1, 6]) (.seq (.seq (.reg r22_4 [0, 1, 6, 17, 18]) (.block 0 (.loop l22_9))) (.seq (.reg r22_10 [4, 5]) .ret)))))
def k22 : Nat → List Nat
  | 0 => [0, 1]
  | 1 => [0, 1, 15]
  | 2 => [4, 5]
  | 3 => [0, 1, 6]
  | 4 => [0, 1, 6, 17, 18]
  | 5 => [0, 1, 6, 17, 18, 19]
  | 6 => [0, 1, 6, 7, 17, 18]
  | 7 => [0, 1, 6, 17, 18]
  | 8 => [0, 1, 6, 17, 18]
  | 9 => [4, 5]
  | _ => []
theorem fn22 : FnC Try.prog 22 c22 [(.tmp 4), (.tmp 5)] 36 :=
  ⟨Try.f22, _, k22, Try.func22, rfl, by kernel_rfl, by kernel_rfl, by kernel_rfl, rfl⟩
def r23_0 : List CO := [⟨none, (some 4), (.mv (.k (.v (.bool false))))⟩]
def r23_1 : List CO := [⟨none, (some 6), (.mv (.t 0))⟩, ⟨none, (some 7), (.len false (.t 6))⟩, ⟨none, (some 8), (.mv (.t 1))⟩, ⟨none, (some 9), (.len false (.t 8))⟩, ⟨none, (some 10), (.bin .neq .none (.t 7) (.t 9))⟩]
def r23_2 : List CO := [⟨none, (some 4), (.mv (.k (.v (.bool false))))⟩]
def r23_3 : List CO := [⟨none, (some 5), (.mv (.k (.v (.int .i64 (0)))))⟩]
def r23_4 : List CO := [⟨none, (some 11), (.mv (.t 5))⟩, ⟨none, (some 12), (.mv (.t 0))⟩, ⟨none, (some 13), (.len false (.t 12))⟩, ⟨none, (some 14), (.bin .lss .none (.t 11) (.t 13))⟩]
def r23_5 : List CO := [⟨none, (some 17), (.mv (.t 0))⟩, ⟨none, (some 18), (.mv (.t 5))⟩, ⟨none, (some 19), (.iaddr 1 (.t 17) (.t 18))⟩, ⟨none, (some 20), (.ld false 1 (.t 19))⟩, ⟨none, (some 21), (.mv (.t 1))⟩, ⟨none, (some 22), (.mv (.t 5))⟩, ⟨none, (some 23), (.iaddr 1 (.t 21) (.t 22))⟩, ⟨none, (some 24), (.ld false 1 (.t 23))⟩, ⟨none, (some 25), (.bin .neq .none (.t 20) (.t 24))⟩]
def p23_5 : List (List Nat) := [[], [], [0, 1], [0, 1, 2], [], [], [4, 5], [4, 5, 6], [0, 1, 2, 3, 4, 5, 6, 7]]
def r23_6 : List CO := [⟨none, (some 4), (.mv (.k (.v (.bool false))))⟩]
def r23_7 : List CO := [⟨none, (some 15), (.mv (.t 5))⟩, ⟨none, (some 16), (.bin .add .none (.t 15) (.k (.v (.int .i64 (1)))))⟩, ⟨none, (some 5), (.mv (.t 16))⟩]
def l23_8 : C := (.seq (.seq (.reg r23_4 [0, 1, 5, 14]) (.cond (.t 14) .skip (.exit 0))) (.seq (.block 1 (.seq (.regD r23_5 p23_5 [0, 1, 5, 25]) (.cond (.t 25) (.seq (.reg r23_6 [4]) .ret) .skip))) (.reg r23_7 [0, 1, 5])))
def r23_9 : List CO := [⟨none, (some 4), (.mv (.k (.v (.bool true))))⟩]
/-- loop.example/g00884/laws.eqIntS -/
def c23 : C := (.seq (.reg r23_0 [0, 1]) (.seq (.seq (.reg r23_1 [0, 1, 10]) (.cond (.t 10) (.seq (.reg r23_2 [4]) .ret) .skip)) (.seq (.seq (.reg r23_3 [0, 1, 5]) (.block 0 (.loop l23_8))) (.seq (.reg r23_9 [4]) .ret))))
def k23 : Nat → List Nat
  | 0 => [0, 1]
  | 1 => [0, 1, 10]
  | 2 => [4]
  | 3 => [0, 1, 5]
  | 4 => [0, 1, 5, 14]
  | 6 => [0, 1, 5, 25]
  | 7 => [4]
  | 5 => [0, 1, 5]
  | 8 => [4]
  | _ => []
theorem fn23 : FnC Try.prog 23 c23 [(.tmp 4)] 26 :=
  ⟨Try.f23, _, k23, Try.func23, rfl, by kernel_rfl, by kernel_rfl, by kernel_rfl, rfl⟩
def r24_0 : List CO := [⟨none, (some 4), (.mv (.k (.v (.int .i64 (0)))))⟩]
def r24_1 : List CO := [⟨none, (some 5), (.mv (.k (.v (.int .i64 (0)))))⟩]
def r24_2 : List CO := [⟨none, (some 6), (.mv (.t 5))⟩, ⟨none, (some 7), (.mv (.t 0))⟩, ⟨none, (some 8), (.len false (.t 7))⟩, ⟨none, (some 9), (.bin .lss .none (.t 6) (.t 8))⟩]
def r24_3 : List CO := [⟨none, (some 12), (.mv (.t 0))⟩, ⟨none, (some 13), (.mv (.t 5))⟩, ⟨none, (some 14), (.mv (.t 1))⟩, ⟨none, (some 15), (.iaddr 1 (.t 12) (.t 13))⟩, ⟨none, none, (.st 1 (.t 15) (.t 14))⟩]
def r24_4 : List CO := [⟨none, (some 16), (.mv (.t 1))⟩, ⟨none, (some 17), (.bin .add .none (.t 16) (.k (.v (.int .i64 (1)))))⟩, ⟨none, (some 1), (.mv (.t 17))⟩]
def r24_5 : List CO := [⟨none, (some 10), (.mv (.t 5))⟩, ⟨none, (some 11), (.bin .add .none (.t 10) (.k (.v (.int .i64 (1)))))⟩, ⟨none, (some 5), (.mv (.t 11))⟩]
def l24_6 : C := (.seq (.seq (.reg r24_2 [0, 1, 5, 9]) (.cond (.t 9) .skip (.exit 0))) (.seq (.block 1 (.seq (.reg r24_3 [0, 1, 5]) (.reg r24_4 [0, 1, 5]))) (.reg r24_5 [0, 1, 5])))
def r24_7 : List CO := [⟨none, (some 18), (.mv (.t 1))⟩, ⟨none, (some 4), (.mv (.t 18))⟩]
/-- loop.example/g00884/laws.markIntS -/
def c24 : C := (.seq (.reg r24_0 [0, 1]) (.seq (.seq (.reg r24_1 [0, 1, 5]) (.block 0 (.loop l24_6))) (.seq (.reg r24_7 [4]) .ret)))
def k24 : Nat → List Nat
  | 0 => [0, 1]
  | 1 => [0, 1, 5]
  | 2 => [0, 1, 5, 9]
  | 4 => [0, 1, 5]
  | 5 => [0, 1, 5]
  | 3 => [0, 1, 5]
  | 6 => [4]
  | _ => []
theorem fn24 : FnC Try.prog 24 c24 [(.tmp 4)] 19 :=
  ⟨Try.f24, _, k24, Try.func24, rfl, by kernel_rfl, by kernel_rfl, by kernel_rfl, rfl⟩
def r25_0 : List CO := [⟨none, (some 4), (.mv (.k (.v (.int .i64 (0)))))⟩]
def r25_1 : List CO := [⟨none, (some 5), (.mv (.k (.v (.int .i64 (0)))))⟩]
def r25_2 : List CO := [⟨none, (some 6), (.mv (.t 5))⟩, ⟨none, (some 7), (.mv (.t 0))⟩, ⟨none, (some 8), (.len false (.t 7))⟩, ⟨none, (some 9), (.bin .lss .none (.t 6) (.t 8))⟩]
def r25_3 : List CO := [⟨none, (some 12), (.mv (.t 0))⟩, ⟨none, (some 13), (.mv (.t 5))⟩, ⟨none, (some 14), (.iaddr 1 (.t 12) (.t 13))⟩, ⟨none, (some 15), (.ld false 1 (.t 14))⟩, ⟨none, (some 16), (.mv (.t 1))⟩, ⟨none, (some 17), (.bin .neq .none (.t 15) (.t 16))⟩]
def r25_4 : List CO := [⟨none, (some 4), (.mv (.k (.v (.int .i64 (-1)))))⟩]
def r25_5 : List CO := [⟨none, (some 18), (.mv (.t 1))⟩, ⟨none, (some 19), (.bin .add .none (.t 18) (.k (.v (.int .i64 (1)))))⟩, ⟨none, (some 1), (.mv (.t 19))⟩]
def r25_6 : List CO := [⟨none, (some 10), (.mv (.t 5))⟩, ⟨none, (some 11), (.bin .add .none (.t 10) (.k (.v (.int .i64 (1)))))⟩, ⟨none, (some 5), (.mv (.t 11))⟩]
def l25_7 : C := (.seq (.seq (.reg r25_2 [0, 1, 5, 9]) (.cond (.t 9) .skip (.exit 0))) (.seq (.block 1 (.seq (.seq (.reg r25_3 [0, 1, 5, 17]) (.cond (.t 17) (.seq (.reg r25_4 [4]) .ret) .skip)) (.reg r25_5 [0, 1, 5]))) (.reg r25_6 [0, 1, 5])))
def r25_8 : List CO := [⟨none, (some 20), (.mv (.t 1))⟩, ⟨none, (some 4), (.mv (.t 20))⟩]
/-- loop.example/g00884/laws.heldIntS -/
def c25 : C := (.seq (.reg r25_0 [0, 1]) (.seq (.seq (.reg r25_1 [0, 1, 5]) (.block 0 (.loop l25_7))) (.seq (.reg r25_8 [4]) .ret)))
def k25 : Nat → List Nat
  | 0 => [0, 1]
  | 1 => [0, 1, 5]
  | 2 => [0, 1, 5, 9]
  | 4 => [0, 1, 5, 17]
  | 5 => [4]
  | 6 => [0, 1, 5]
  | 3 => [0, 1, 5]
  | 7 => [4]
  | _ => []
theorem fn25 : FnC Try.prog 25 c25 [(.tmp 4)] 21 :=
  ⟨Try.f25, _, k25, Try.func25, rfl, by kernel_rfl, by kernel_rfl, by kernel_rfl, rfl⟩
def r26_0 : List CO := [⟨none, (some 4), (.mv (.k (.v (.int .i64 (0)))))⟩]
def r26_1 : List CO := [⟨none, (some 5), (.mv (.t 1))⟩, ⟨none, (some 6), (.mv (.t 0))⟩, ⟨none, (some 7), (.len false (.t 6))⟩, ⟨none, (some 8), (.bin .sub .none (.t 5) (.t 7))⟩, ⟨none, (some 1), (.mv (.t 8))⟩]
def r26_2 : List CO := [⟨none, (some 9), (.mv (.t 1))⟩, ⟨none, (some 10), (.bin .lss .none (.t 9) (.k (.v (.int .i64 (0)))))⟩]
def r26_3 : List CO := [⟨none, (some 4), (.mv (.k (.v (.int .i64 (-1)))))⟩]
def r26_4 : List CO := [⟨none, (some 11), (.mv (.t 1))⟩, ⟨none, (some 4), (.mv (.t 11))⟩]
/-- loop.example/g00884/laws.szPetitionS -/
def c26 : C := (.seq (.reg r26_0 [0, 1]) (.seq (.reg r26_1 [1]) (.seq (.seq (.reg r26_2 [1, 10]) (.cond (.t 10) (.seq (.reg r26_3 [4]) .ret) .skip)) (.seq (.reg r26_4 [4]) .ret))))
def k26 : Nat → List Nat
  | 0 => [0, 1]
  | 1 => [1]
  | 2 => [1, 10]
  | 3 => [4]
  | 4 => [4]
  | _ => []
theorem fn26 : FnC Try.prog 26 c26 [(.tmp 4)] 12 :=
  ⟨Try.f26, _, k26, Try.func26, rfl, by kernel_rfl, by kernel_rfl, by kernel_rfl, rfl⟩
def r27_0 : List CO := [⟨none, (some 2), (.mv (.k (.v (.bool false))))⟩]
def r27_1 : List CO := [⟨none, (some 3), (.mv (.t 0))⟩, ⟨none, (some 4), (.call 67 [(.t 3)])⟩, ⟨none, (some 2), (.mv (.t 4))⟩]
/-- loop.example/g00884/spec.IsValidPetitions -/
def c27 : C := (.seq (.reg r27_0 [0]) (.seq (.reg r27_1 [2]) .ret))
def k27 : Nat → List Nat
  | 0 => [0]
  | 1 => [2]
  | _ => []
theorem fn27 : FnC Try.prog 27 c27 [(.tmp 2)] 5 :=
  ⟨Try.f27, _, k27, Try.func27, rfl, by kernel_rfl, by kernel_rfl, by kernel_rfl, rfl⟩
def r28_0 : List CO := [⟨none, (some 2), (.mv (.k (.v (.slice none 0 0))))⟩]
def r28_1 : List CO := [⟨none, (some 5), (.mv (.t 0))⟩, ⟨none, (some 6), (.len false (.t 5))⟩, ⟨none, (some 7), (.mks 5 (.agg [(.v (.int .i64 (0))), (.v (.int .i64 (0))), (.v (.int .i64 (0))), (.v (.int .i64 (0))), (.v (.int .i64 (0)))]) 40 (.t 6) (.t 6))⟩, ⟨none, (some 3), (.mv (.t 7))⟩]
def r28_2 : List CO := [⟨none, (some 4), (.mv (.k (.v (.int .i64 (0)))))⟩]
def r28_3 : List CO := [⟨none, (some 8), (.mv (.t 4))⟩, ⟨none, (some 9), (.mv (.t 0))⟩, ⟨none, (some 10), (.len false (.t 9))⟩, ⟨none, (some 11), (.bin .lss .none (.t 8) (.t 10))⟩]
def r28_4 : List CO := [⟨none, (some 14), (.mv (.t 3))⟩, ⟨none, (some 15), (.mv (.t 4))⟩, ⟨none, (some 16), (.mv (.t 0))⟩, ⟨none, (some 17), (.mv (.t 4))⟩, ⟨none, (some 18), (.iaddr 5 (.t 16) (.t 17))⟩, ⟨none, (some 19), (.ld true 5 (.t 18))⟩, ⟨none, (some 20), (.call 68 [(.t 19)])⟩, ⟨none, (some 21), (.iaddr 5 (.t 14) (.t 15))⟩, ⟨none, none, (.st 5 (.t 21) (.t 20))⟩]
def r28_5 : List CO := [⟨none, (some 12), (.mv (.t 4))⟩, ⟨none, (some 13), (.bin .add .none (.t 12) (.k (.v (.int .i64 (1)))))⟩, ⟨none, (some 4), (.mv (.t 13))⟩]
def l28_6 : C := (.seq (.seq (.reg r28_3 [0, 3, 4, 11]) (.cond (.t 11) .skip (.exit 0))) (.seq (.block 1 (.reg r28_4 [0, 3, 4])) (.reg r28_5 [0, 3, 4])))
def r28_7 : List CO := [⟨none, (some 22), (.mv (.t 3))⟩, ⟨none, (some 2), (.mv (.t 22))⟩]
/-- loop.example/g00884/laws.toPetitionS -/
def c28 : C := (.seq (.reg r28_0 [0]) (.seq (.reg r28_1 [0, 3]) (.seq (.seq (.reg r28_2 [0, 3, 4]) (.block 0 (.loop l28_6))) (.seq (.reg r28_7 [2]) .ret))))
def k28 : Nat → List Nat
  | 0 => [0]
  | 1 => [0, 3]
  | 2 => [0, 3, 4]
  | 3 => [0, 3, 4, 11]
  | 5 => [0, 3, 4]
  | 4 => [0, 3, 4]
  | 6 => [2]
  | _ => []
theorem fn28 : FnC Try.prog 28 c28 [(.tmp 2)] 23 :=
  ⟨Try.f28, _, k28, Try.func28, rfl, by kernel_rfl, by kernel_rfl, by kernel_rfl, rfl⟩
def r29_0 : List CO := [⟨none, (some 2), (.mv (.k (.v (.bool false))))⟩]
def r29_1 : List CO := [⟨none, (some 5), (.mv (.t 0))⟩, ⟨none, (some 6), (.len false (.t 5))⟩, ⟨none, (some 7), (.mv (.k (.v (.int .i64 (0)))))⟩]
def r29_2 : List CO := [⟨none, (some 8), (.bin .lss .none (.t 7) (.t 6))⟩]
def r29_3 : List CO := [⟨none, (some 9), (.mv (.t 7))⟩, ⟨none, (some 10), (.iaddr 5 (.t 5) (.t 7))⟩, ⟨none, (some 11), (.ld true 5 (.t 10))⟩, ⟨none, (some 4), (.box 5 (.k (.agg [(.v (.int .i64 (0))), (.v (.int .i64 (0))), (.v (.int .i64 (0))), (.v (.int .i64 (0))), (.v (.int .i64 (0)))])))⟩, ⟨none, (some 3), (.mv (.t 9))⟩, ⟨none, none, (.st 5 (.t 4) (.t 11))⟩]
def r29_4 : List CO := [⟨none, (some 12), (.faddr 0 (.t 4))⟩, ⟨none, (some 13), (.ld false 1 (.t 12))⟩, ⟨none, (some 14), (.call 60 [(.t 13), (.k (.v (.int .i64 (1)))), (.k (.v (.int .i64 (999))))])⟩, ⟨none, (some 15), (.un .not (.t 14))⟩, ⟨none, (some 16), (.mv (.t 15))⟩, ⟨(some (16, false)), (some 17), (.faddr 1 (.t 4))⟩, ⟨(some (16, false)), (some 18), (.ld false 1 (.t 17))⟩, ⟨(some (16, false)), (some 19), (.call 69 [(.t 18)])⟩, ⟨(some (16, false)), (some 20), (.un .not (.t 19))⟩, ⟨none, (some 21), (.pick (.t 16) (.k (.v (.bool true))) (.t 20))⟩, ⟨none, (some 22), (.mv (.t 21))⟩, ⟨(some (22, false)), (some 23), (.faddr 2 (.t 4))⟩, ⟨(some (22, false)), (some 24), (.ld false 1 (.t 23))⟩, ⟨(some (22, false)), (some 25), (.call 70 [(.t 24)])⟩, ⟨(some (22, false)), (some 26), (.un .not (.t 25))⟩, ⟨none, (some 27), (.pick (.t 22) (.k (.v (.bool true))) (.t 26))⟩, ⟨none, (some 28), (.mv (.t 27))⟩, ⟨(some (28, false)), (some 29), (.faddr 3 (.t 4))⟩, ⟨(some (28, false)), (some 30), (.ld false 1 (.t 29))⟩, ⟨(some (28, false)), (some 31), (.call 60 [(.t 30), (.k (.v (.int .i64 (1)))), (.k (.v (.int .i64 (4))))])⟩, ⟨(some (28, false)), (some 32), (.un .not (.t 31))⟩, ⟨none, (some 33), (.pick (.t 28) (.k (.v (.bool true))) (.t 32))⟩, ⟨none, (some 34), (.mv (.t 33))⟩, ⟨(some (34, false)), (some 35), (.faddr 4 (.t 4))⟩, ⟨(some (34, false)), (some 36), (.ld false 1 (.t 35))⟩, ⟨(some (34, false)), (some 37), (.call 60 [(.t 36), (.k (.v (.int .i64 (0)))), (.k (.v (.int .i64 (1000000))))])⟩, ⟨(some (34, false)), (some 38), (.un .not (.t 37))⟩, ⟨none, (some 39), (.pick (.t 34) (.k (.v (.bool true))) (.t 38))⟩, ⟨none, (some 40), (.mv (.t 39))⟩, ⟨(some (40, false)), (some 41), (.mv (.t 3))⟩, ⟨(some (40, false)), (some 42), (.bin .gtr .none (.t 41) (.k (.v (.int .i64 (0)))))⟩, ⟨(some (40, false)), (some 43), (.mv (.t 42))⟩, ⟨(some (43, true)), (some 44), (.mv (.t 0))⟩, ⟨(some (43, true)), (some 45), (.mv (.t 3))⟩, ⟨(some (43, true)), (some 46), (.bin .sub .none (.t 45) (.k (.v (.int .i64 (1)))))⟩, ⟨(some (43, true)), (some 47), (.iaddr 5 (.t 44) (.t 46))⟩, ⟨(some (43, true)), (some 48), (.faddr 0 (.t 47))⟩, ⟨(some (43, true)), (some 49), (.ld false 1 (.t 48))⟩, ⟨(some (43, true)), (some 50), (.faddr 0 (.t 4))⟩, ⟨(some (43, true)), (some 51), (.ld false 1 (.t 50))⟩, ⟨(some (43, true)), (some 52), (.bin .geq .none (.t 49) (.t 51))⟩, ⟨(some (40, false)), (some 53), (.pick (.t 43) (.t 52) (.k (.v (.bool false))))⟩, ⟨none, (some 54), (.pick (.t 40) (.k (.v (.bool true))) (.t 53))⟩]
def p29_4 : List (List Nat) := [[], [0], [0, 1], [0, 1, 2], [0, 1, 2, 3], [0, 1, 2, 3, 4], [0, 1, 2, 3, 4, 5], [0, 1, 2, 3, 4, 5, 6], [0, 1, 2, 3, 4, 5, 6, 7], [0, 1, 2, 3, 4, 5, 6, 7, 8], [0, 1, 2, 3, 4, 5, 6, 7, 8, 9], [0, 1, 2, 3, 4, 5, 6, 7, 8, 9, 10], [0, 1, 2, 3, 4, 5, 6, 7, 8, 9, 10, 11], [0, 1, 2, 3, 4, 5, 6, 7, 8, 9, 10, 11, 12], [0, 1, 2, 3, 4, 5, 6, 7, 8, 9, 10, 11, 12, 13], [0, 1, 2, 3, 4, 5, 6, 7, 8, 9, 10, 11, 12, 13, 14], [0, 1, 2, 3, 4, 5, 6, 7, 8, 9, 10, 11, 12, 13, 14, 15], [0, 1, 2, 3, 4, 5, 6, 7, 8, 9, 10, 11, 12, 13, 14, 15, 16], [0, 1, 2, 3, 4, 5, 6, 7, 8, 9, 10, 11, 12, 13, 14, 15, 16, 17], [0, 1, 2, 3, 4, 5, 6, 7, 8, 9, 10, 11, 12, 13, 14, 15, 16, 17, 18], [0, 1, 2, 3, 4, 5, 6, 7, 8, 9, 10, 11, 12, 13, 14, 15, 16, 17, 18, 19], [0, 1, 2, 3, 4, 5, 6, 7, 8, 9, 10, 11, 12, 13, 14, 15, 16, 17, 18, 19, 20], [0, 1, 2, 3, 4, 5, 6, 7, 8, 9, 10, 11, 12, 13, 14, 15, 16, 17, 18, 19, 20, 21], [0, 1, 2, 3, 4, 5, 6, 7, 8, 9, 10, 11, 12, 13, 14, 15, 16, 17, 18, 19, 20, 21, 22], [0, 1, 2, 3, 4, 5, 6, 7, 8, 9, 10, 11, 12, 13, 14, 15, 16, 17, 18, 19, 20, 21, 22, 23], [0, 1, 2, 3, 4, 5, 6, 7, 8, 9, 10, 11, 12, 13, 14, 15, 16, 17, 18, 19, 20, 21, 22, 23, 24], [0, 1, 2, 3, 4, 5, 6, 7, 8, 9, 10, 11, 12, 13, 14, 15, 16, 17, 18, 19, 20, 21, 22, 23, 24, 25], [0, 1, 2, 3, 4, 5, 6, 7, 8, 9, 10, 11, 12, 13, 14, 15, 16, 17, 18, 19, 20, 21, 22, 23, 24, 25, 26], [0, 1, 2, 3, 4, 5, 6, 7, 8, 9, 10, 11, 12, 13, 14, 15, 16, 17, 18, 19, 20, 21, 22, 23, 24, 25, 26, 27], [0, 1, 2, 3, 4, 5, 6, 7, 8, 9, 10, 11, 12, 13, 14, 15, 16, 17, 18, 19, 20, 21, 22, 23, 24, 25, 26, 27, 28], [0, 1, 2, 3, 4, 5, 6, 7, 8, 9, 10, 11, 12, 13, 14, 15, 16, 17, 18, 19, 20, 21, 22, 23, 24, 25, 26, 27, 28, 29], [0, 1, 2, 3, 4, 5, 6, 7, 8, 9, 10, 11, 12, 13, 14, 15, 16, 17, 18, 19, 20, 21, 22, 23, 24, 25, 26, 27, 28, 29, 30], [0, 1, 2, 3, 4, 5, 6, 7, 8, 9, 10, 11, 12, 13, 14, 15, 16, 17, 18, 19, 20, 21, 22, 23, 24, 25, 26, 27, 28, 29, 30, 31], [0, 1, 2, 3, 4, 5, 6, 7, 8, 9, 10, 11, 12, 13, 14, 15, 16, 17, 18, 19, 20, 21, 22, 23, 24, 25, 26, 27, 28, 29, 30, 31], [0, 1, 2, 3, 4, 5, 6, 7, 8, 9, 10, 11, 12, 13, 14, 15, 16, 17, 18, 19, 20, 21, 22, 23, 24, 25, 26, 27, 28, 29, 30, 31, 33], [0, 1, 2, 3, 4, 5, 6, 7, 8, 9, 10, 11, 12, 13, 14, 15, 16, 17, 18, 19, 20, 21, 22, 23, 24, 25, 26, 27, 28, 29, 30, 31, 32, 33, 34], [0, 1, 2, 3, 4, 5, 6, 7, 8, 9, 10, 11, 12, 13, 14, 15, 16, 17, 18, 19, 20, 21, 22, 23, 24, 25, 26, 27, 28, 29, 30, 31, 32, 33, 34, 35], [0, 1, 2, 3, 4, 5, 6, 7, 8, 9, 10, 11, 12, 13, 14, 15, 16, 17, 18, 19, 20, 21, 22, 23, 24, 25, 26, 27, 28, 29, 30, 31, 32, 33, 34, 35, 36], [0, 1, 2, 3, 4, 5, 6, 7, 8, 9, 10, 11, 12, 13, 14, 15, 16, 17, 18, 19, 20, 21, 22, 23, 24, 25, 26, 27, 28, 29, 30, 31], [0, 1, 2, 3, 4, 5, 6, 7, 8, 9, 10, 11, 12, 13, 14, 15, 16, 17, 18, 19, 20, 21, 22, 23, 24, 25, 26, 27, 28, 29, 30, 31, 38], [0, 1, 2, 3, 4, 5, 6, 7, 8, 9, 10, 11, 12, 13, 14, 15, 16, 17, 18, 19, 20, 21, 22, 23, 24, 25, 26, 27, 28, 29, 30, 31, 32, 33, 34, 35, 36, 37, 38, 39], [0, 1, 2, 3, 4, 5, 6, 7, 8, 9, 10, 11, 12, 13, 14, 15, 16, 17, 18, 19, 20, 21, 22, 23, 24, 25, 26, 27, 28, 29, 30, 31, 32, 33, 34, 35, 36, 37, 38, 39, 40], [0, 1, 2, 3, 4, 5, 6, 7, 8, 9, 10, 11, 12, 13, 14, 15, 16, 17, 18, 19, 20, 21, 22, 23, 24, 25, 26, 27, 28, 29, 30, 31, 32, 33, 34, 35, 36, 37, 38, 39, 40, 41]]
def r29_5 : List CO := [⟨none, (some 2), (.mv (.k (.v (.bool false))))⟩]
def r29_6 : List CO := [⟨none, (some 55), (.bin .add .none (.t 7) (.k (.v (.int .i64 (1)))))⟩, ⟨none, (some 7), (.mv (.t 55))⟩]
def l29_7 : C := (.seq (.reg r29_2 [0, 5, 6, 7, 8]) (.seq (.cond (.t 8) .skip (.exit 0)) (.seq (.block 1 (.seq (.reg r29_3 [0, 3, 4, 5, 6, 7]) (.seq (.regD r29_4 p29_4 [0, 5, 6, 7, 54]) (.cond (.t 54) (.seq (.reg r29_5 [2]) .ret) .skip)))) (.reg r29_6 [0, 5, 6, 7]))))
def r29_8 : List CO := [⟨none, (some 56), (.mv (.t 0))⟩, ⟨none, (some 57), (.len false (.t 56))⟩, ⟨none, (some 58), (.bin .leq .none (.t 57) (.k (.v (.int .i64 (12)))))⟩, ⟨none, (some 2), (.mv (.t 58))⟩]
/-- loop.example/g00884/impl.IsValidPetitions -/
def c29 : C := (.seq (.reg r29_0 [0]) (.seq (.seq (.reg r29_1 [0, 5, 6, 7]) (.block 0 (.loop l29_7))) (.seq (.reg r29_8 [2]) .ret)))
def k29 : Nat → List Nat
  | 0 => [0]
  | 1 => [0, 5, 6, 7]
  | 2 => [0, 5, 6, 7, 8]
  | 3 => [0, 3, 4, 5, 6, 7]
  | 4 => [0, 5, 6, 7, 54]
  | 5 => [2]
  | 6 => [0, 5, 6, 7]
  | 7 => [2]
  | _ => []
theorem fn29 : FnC Try.prog 29 c29 [(.tmp 2)] 59 :=
  ⟨Try.f29, _, k29, Try.func29, rfl, by kernel_rfl, by kernel_rfl, by kernel_rfl, rfl⟩
def r30_0 : List CO := [⟨none, (some 4), (.mv (.k (.v (.bool false))))⟩]
def r30_1 : List CO := [⟨none, (some 6), (.mv (.t 0))⟩, ⟨none, (some 7), (.len false (.t 6))⟩, ⟨none, (some 8), (.mv (.t 1))⟩, ⟨none, (some 9), (.len false (.t 8))⟩, ⟨none, (some 10), (.bin .neq .none (.t 7) (.t 9))⟩]
def r30_2 : List CO := [⟨none, (some 4), (.mv (.k (.v (.bool false))))⟩]
def r30_3 : List CO := [⟨none, (some 5), (.mv (.k (.v (.int .i64 (0)))))⟩]
def r30_4 : List CO := [⟨none, (some 11), (.mv (.t 5))⟩, ⟨none, (some 12), (.mv (.t 0))⟩, ⟨none, (some 13), (.len false (.t 12))⟩, ⟨none, (some 14), (.bin .lss .none (.t 11) (.t 13))⟩]
def r30_5 : List CO := [⟨none, (some 17), (.mv (.t 0))⟩, ⟨none, (some 18), (.mv (.t 5))⟩, ⟨none, (some 19), (.iaddr 5 (.t 17) (.t 18))⟩, ⟨none, (some 20), (.ld true 5 (.t 19))⟩, ⟨none, (some 21), (.mv (.t 1))⟩, ⟨none, (some 22), (.mv (.t 5))⟩, ⟨none, (some 23), (.iaddr 5 (.t 21) (.t 22))⟩, ⟨none, (some 24), (.ld true 5 (.t 23))⟩, ⟨none, (some 25), (.call 71 [(.t 20), (.t 24)])⟩, ⟨none, (some 26), (.un .not (.t 25))⟩]
def p30_5 : List (List Nat) := [[], [], [0, 1], [0, 1, 2], [], [], [4, 5], [4, 5, 6], [0, 1, 2, 3, 4, 5, 6, 7], [0, 1, 2, 3, 4, 5, 6, 7, 8]]
def r30_6 : List CO := [⟨none, (some 4), (.mv (.k (.v (.bool false))))⟩]
def r30_7 : List CO := [⟨none, (some 15), (.mv (.t 5))⟩, ⟨none, (some 16), (.bin .add .none (.t 15) (.k (.v (.int .i64 (1)))))⟩, ⟨none, (some 5), (.mv (.t 16))⟩]
def l30_8 : C := (.seq (.seq (.reg r30_4 [0, 1, 5, 14]) (.cond (.t 14) .skip (.exit 0))) (.seq (.block 1 (.seq (.regD r30_5 p30_5 [0, 1, 5, 26]) (.cond (.t 26) (.seq (.reg r30_6 [4]) .ret) .skip))) (.reg r30_7 [0, 1, 5])))
def r30_9 : List CO := [⟨none, (some 4), (.mv (.k (.v (.bool true))))⟩]
/-- loop.example/g00884/laws.eqPetitionS -/
def c30 : C := (.seq (.reg r30_0 [0, 1]) (.seq (.seq (.reg r30_1 [0, 1, 10]) (.cond (.t 10) (.seq (.reg r30_2 [4]) .ret) .skip)) (.seq (.seq (.reg r30_3 [0, 1, 5]) (.block 0 (.loop l30_8))) (.seq (.reg r30_9 [4]) .ret))))
def k30 : Nat → List Nat
  | 0 => [0, 1]
  | 1 => [0, 1, 10]
  | 2 => [4]
  | 3 => [0, 1, 5]
  | 4 => [0, 1, 5, 14]
  | 6 => [0, 1, 5, 26]
  | 7 => [4]
  | 5 => [0, 1, 5]
  | 8 => [4]
  | _ => []
theorem fn30 : FnC Try.prog 30 c30 [(.tmp 4)] 27 :=
  ⟨Try.f30, _, k30, Try.func30, rfl, by kernel_rfl, by kernel_rfl, by kernel_rfl, rfl⟩
def r31_0 : List CO := [⟨none, (some 4), (.mv (.k (.v (.int .i64 (0)))))⟩]
def r31_1 : List CO := [⟨none, (some 6), (.mv (.t 1))⟩, ⟨none, (some 7), (.mv (.t 0))⟩, ⟨none, (some 8), (.len false (.t 7))⟩, ⟨none, (some 9), (.bin .sub .none (.t 6) (.t 8))⟩, ⟨none, (some 1), (.mv (.t 9))⟩]
def r31_2 : List CO := [⟨none, (some 10), (.mv (.t 1))⟩, ⟨none, (some 11), (.bin .lss .none (.t 10) (.k (.v (.int .i64 (0)))))⟩]
def r31_3 : List CO := [⟨none, (some 4), (.mv (.k (.v (.int .i64 (-1)))))⟩]
def r31_4 : List CO := [⟨none, (some 5), (.mv (.k (.v (.int .i64 (0)))))⟩]
def r31_5 : List CO := [⟨none, (some 12), (.mv (.t 5))⟩, ⟨none, (some 13), (.mv (.t 0))⟩, ⟨none, (some 14), (.len false (.t 13))⟩, ⟨none, (some 15), (.bin .lss .none (.t 12) (.t 14))⟩]
def r31_6 : List CO := [⟨none, (some 18), (.mv (.t 0))⟩, ⟨none, (some 19), (.mv (.t 5))⟩, ⟨none, (some 20), (.iaddr 1 (.t 18) (.t 19))⟩, ⟨none, (some 21), (.ld false 1 (.t 20))⟩, ⟨none, (some 22), (.mv (.t 1))⟩, ⟨none, (some 23), (.call 72 [(.t 21), (.t 22)])⟩, ⟨none, (some 1), (.mv (.t 23))⟩]
def r31_7 : List CO := [⟨none, (some 24), (.mv (.t 1))⟩, ⟨none, (some 25), (.bin .lss .none (.t 24) (.k (.v (.int .i64 (0)))))⟩]
def r31_8 : List CO := [⟨none, (some 4), (.mv (.k (.v (.int .i64 (-1)))))⟩]
def r31_9 : List CO := [⟨none, (some 16), (.mv (.t 5))⟩, ⟨none, (some 17), (.bin .add .none (.t 16) (.k (.v (.int .i64 (1)))))⟩, ⟨none, (some 5), (.mv (.t 17))⟩]
def l31_10 : C := (.seq (.seq (.reg r31_5 [0, 1, 5, 15]) (.cond (.t 15) .skip (.exit 0))) (.seq (.block 1 (.seq (.reg r31_6 [0, 1, 5]) (.seq (.reg r31_7 [0, 1, 5, 25]) (.cond (.t 25) (.seq (.reg r31_8 [4]) .ret) .skip)))) (.reg r31_9 [0, 1, 5])))
def r31_11 : List CO := [⟨none, (some 26), (.mv (.t 1))⟩, ⟨none, (some 4), (.mv (.t 26))⟩]
/-- loop.example/g00884/laws.szIntSS -/
def c31 : C := (.seq (.reg r31_0 [0, 1]) (.seq (.reg r31_1 [0, 1]) (.seq (.seq (.reg r31_2 [0, 1, 11]) (.cond (.t 11) (.seq (.reg r31_3 [4]) .ret) .skip)) (.seq (.seq (.reg r31_4 [0, 1, 5]) (.block 0 (.loop l31_10))) (.seq (.reg r31_11 [4]) .ret)))))
def k31 : Nat → List Nat
  | 0 => [0, 1]
  | 1 => [0, 1]
  | 2 => [0, 1, 11]
  | 3 => [4]
  | 4 => [0, 1, 5]
  | 5 => [0, 1, 5, 15]
  | 7 => [0, 1, 5]
  | 8 => [0, 1, 5, 25]
  | 9 => [4]
  | 6 => [0, 1, 5]
  | 10 => [4]
  | _ => []
theorem fn31 : FnC Try.prog 31 c31 [(.tmp 4)] 27 :=
  ⟨Try.f31, _, k31, Try.func31, rfl, by kernel_rfl, by kernel_rfl, by kernel_rfl, rfl⟩
def r32_0 : List CO := [⟨none, (some 2), (.mv (.k (.v (.bool false))))⟩]
def r32_1 : List CO := [⟨none, (some 3), (.mv (.t 0))⟩, ⟨none, (some 4), (.call 73 [(.t 3)])⟩, ⟨none, (some 2), (.mv (.t 4))⟩]
/-- loop.example/g00884/spec.IsValidBanner -/
def c32 : C := (.seq (.reg r32_0 [0]) (.seq (.reg r32_1 [2]) .ret))
def k32 : Nat → List Nat
  | 0 => [0]
  | 1 => [2]
  | _ => []
theorem fn32 : FnC Try.prog 32 c32 [(.tmp 2)] 5 :=
  ⟨Try.f32, _, k32, Try.func32, rfl, by kernel_rfl, by kernel_rfl, by kernel_rfl, rfl⟩
def r33_0 : List CO := [⟨none, (some 2), (.mv (.k (.v (.slice none 0 0))))⟩]
def r33_1 : List CO := [⟨none, (some 5), (.mv (.t 0))⟩, ⟨none, (some 6), (.len false (.t 5))⟩, ⟨none, (some 7), (.mks 1 (.v (.slice none 0 0)) 24 (.t 6) (.t 6))⟩, ⟨none, (some 3), (.mv (.t 7))⟩]
def r33_2 : List CO := [⟨none, (some 4), (.mv (.k (.v (.int .i64 (0)))))⟩]
def r33_3 : List CO := [⟨none, (some 8), (.mv (.t 4))⟩, ⟨none, (some 9), (.mv (.t 0))⟩, ⟨none, (some 10), (.len false (.t 9))⟩, ⟨none, (some 11), (.bin .lss .none (.t 8) (.t 10))⟩]
def r33_4 : List CO := [⟨none, (some 14), (.mv (.t 3))⟩, ⟨none, (some 15), (.mv (.t 4))⟩, ⟨none, (some 16), (.mv (.t 0))⟩, ⟨none, (some 17), (.mv (.t 4))⟩, ⟨none, (some 18), (.iaddr 1 (.t 16) (.t 17))⟩, ⟨none, (some 19), (.ld false 1 (.t 18))⟩, ⟨none, (some 20), (.call 74 [(.t 19)])⟩, ⟨none, (some 21), (.iaddr 1 (.t 14) (.t 15))⟩, ⟨none, none, (.st 1 (.t 21) (.t 20))⟩]
def r33_5 : List CO := [⟨none, (some 12), (.mv (.t 4))⟩, ⟨none, (some 13), (.bin .add .none (.t 12) (.k (.v (.int .i64 (1)))))⟩, ⟨none, (some 4), (.mv (.t 13))⟩]
def l33_6 : C := (.seq (.seq (.reg r33_3 [0, 3, 4, 11]) (.cond (.t 11) .skip (.exit 0))) (.seq (.block 1 (.reg r33_4 [0, 3, 4])) (.reg r33_5 [0, 3, 4])))
def r33_7 : List CO := [⟨none, (some 22), (.mv (.t 3))⟩, ⟨none, (some 2), (.mv (.t 22))⟩]
/-- loop.example/g00884/laws.toIntSS -/
def c33 : C := (.seq (.reg r33_0 [0]) (.seq (.reg r33_1 [0, 3]) (.seq (.seq (.reg r33_2 [0, 3, 4]) (.block 0 (.loop l33_6))) (.seq (.reg r33_7 [2]) .ret))))
def k33 : Nat → List Nat
  | 0 => [0]
  | 1 => [0, 3]
  | 2 => [0, 3, 4]
  | 3 => [0, 3, 4, 11]
  | 5 => [0, 3, 4]
  | 4 => [0, 3, 4]
  | 6 => [2]
  | _ => []
theorem fn33 : FnC Try.prog 33 c33 [(.tmp 2)] 23 :=
  ⟨Try.f33, _, k33, Try.func33, rfl, by kernel_rfl, by kernel_rfl, by kernel_rfl, rfl⟩
def r34_0 : List CO := [⟨none, (some 2), (.mv (.k (.v (.bool false))))⟩]
def r34_1 : List CO := [⟨none, (some 5), (.mv (.t 0))⟩, ⟨none, (some 6), (.len false (.t 5))⟩, ⟨none, (some 7), (.call 75 [(.t 6)])⟩, ⟨none, (some 8), (.un .not (.t 7))⟩, ⟨none, (some 9), (.mv (.t 8))⟩, ⟨(some (9, false)), (some 10), (.mv (.t 0))⟩, ⟨(some (9, false)), (some 11), (.iaddr 1 (.t 10) (.k (.v (.int .i64 (0)))))⟩, ⟨(some (9, false)), (some 12), (.ld false 1 (.t 11))⟩, ⟨(some (9, false)), (some 13), (.len false (.t 12))⟩, ⟨(some (9, false)), (some 14), (.call 75 [(.t 13)])⟩, ⟨(some (9, false)), (some 15), (.un .not (.t 14))⟩, ⟨none, (some 16), (.pick (.t 9) (.k (.v (.bool true))) (.t 15))⟩]
def r34_2 : List CO := [⟨none, (some 2), (.mv (.k (.v (.bool false))))⟩]
def r34_3 : List CO := [⟨none, (some 17), (.mv (.t 0))⟩, ⟨none, (some 18), (.len false (.t 17))⟩, ⟨none, (some 19), (.mv (.k (.v (.int .i64 (0)))))⟩]
def r34_4 : List CO := [⟨none, (some 20), (.bin .lss .none (.t 19) (.t 18))⟩]
def r34_5 : List CO := [⟨none, (some 21), (.iaddr 1 (.t 17) (.t 19))⟩, ⟨none, (some 22), (.ld false 1 (.t 21))⟩, ⟨none, (some 4), (.mv (.t 22))⟩]
def r34_6 : List CO := [⟨none, (some 23), (.mv (.t 4))⟩, ⟨none, (some 24), (.len false (.t 23))⟩, ⟨none, (some 25), (.mv (.t 0))⟩, ⟨none, (some 26), (.iaddr 1 (.t 25) (.k (.v (.int .i64 (0)))))⟩, ⟨none, (some 27), (.ld false 1 (.t 26))⟩, ⟨none, (some 28), (.len false (.t 27))⟩, ⟨none, (some 29), (.bin .neq .none (.t 24) (.t 28))⟩, ⟨none, (some 30), (.mv (.t 29))⟩, ⟨(some (30, false)), (some 31), (.mv (.t 4))⟩, ⟨(some (30, false)), (some 32), (.call 76 [(.t 31), (.k (.clo 77 []))])⟩, ⟨none, (some 33), (.pick (.t 30) (.k (.v (.bool true))) (.t 32))⟩]
def r34_7 : List CO := [⟨none, (some 2), (.mv (.k (.v (.bool false))))⟩]
def r34_8 : List CO := [⟨none, (some 34), (.bin .add .none (.t 19) (.k (.v (.int .i64 (1)))))⟩, ⟨none, (some 19), (.mv (.t 34))⟩]
def l34_9 : C := (.seq (.reg r34_4 [0, 17, 18, 19, 20]) (.seq (.cond (.t 20) .skip (.exit 0)) (.seq (.block 1 (.seq (.reg r34_5 [0, 4, 17, 18, 19]) (.seq (.reg r34_6 [0, 17, 18, 19, 33]) (.cond (.t 33) (.seq (.reg r34_7 [2]) .ret) .skip)))) (.reg r34_8 [0, 17, 18, 19]))))
def r34_10 : List CO := [⟨none, (some 2), (.mv (.k (.v (.bool true))))⟩]
/-- loop.example/g00884/impl.IsValidBanner -/
def c34 : C := (.seq (.reg r34_0 [0]) (.seq (.seq (.reg r34_1 [0, 16]) (.cond (.t 16) (.seq (.reg r34_2 [2]) .ret) .skip)) (.seq (.seq (.reg r34_3 [0, 17, 18, 19]) (.block 0 (.loop l34_9))) (.seq (.reg r34_10 [2]) .ret))))
def k34 : Nat → List Nat
  | 0 => [0]
  | 1 => [0, 16]
  | 2 => [2]
  | 3 => [0, 17, 18, 19]
  | 4 => [0, 17, 18, 19, 20]
  | 5 => [0, 4, 17, 18, 19]
  | 6 => [0, 17, 18, 19, 33]
  | 7 => [2]
  | 8 => [0, 17, 18, 19]
  | 9 => [2]
  | _ => []
theorem fn34 : FnC Try.prog 34 c34 [(.tmp 2)] 35 :=
  ⟨Try.f34, _, k34, Try.func34, rfl, by kernel_rfl, by kernel_rfl, by kernel_rfl, rfl⟩
def r35_0 : List CO := [⟨none, (some 4), (.mv (.k (.v (.bool false))))⟩]
def r35_1 : List CO := [⟨none, (some 6), (.mv (.t 0))⟩, ⟨none, (some 7), (.len false (.t 6))⟩, ⟨none, (some 8), (.mv (.t 1))⟩, ⟨none, (some 9), (.len false (.t 8))⟩, ⟨none, (some 10), (.bin .neq .none (.t 7) (.t 9))⟩]
def r35_2 : List CO := [⟨none, (some 4), (.mv (.k (.v (.bool false))))⟩]
def r35_3 : List CO := [⟨none, (some 5), (.mv (.k (.v (.int .i64 (0)))))⟩]
def r35_4 : List CO := [⟨none, (some 11), (.mv (.t 5))⟩, ⟨none, (some 12), (.mv (.t 0))⟩, ⟨none, (some 13), (.len false (.t 12))⟩, ⟨none, (some 14), (.bin .lss .none (.t 11) (.t 13))⟩]
def r35_5 : List CO := [⟨none, (some 17), (.mv (.t 0))⟩, ⟨none, (some 18), (.mv (.t 5))⟩, ⟨none, (some 19), (.iaddr 1 (.t 17) (.t 18))⟩, ⟨none, (some 20), (.ld false 1 (.t 19))⟩, ⟨none, (some 21), (.mv (.t 1))⟩, ⟨none, (some 22), (.mv (.t 5))⟩, ⟨none, (some 23), (.iaddr 1 (.t 21) (.t 22))⟩, ⟨none, (some 24), (.ld false 1 (.t 23))⟩, ⟨none, (some 25), (.call 23 [(.t 20), (.t 24)])⟩, ⟨none, (some 26), (.un .not (.t 25))⟩]
def p35_5 : List (List Nat) := [[], [], [0, 1], [0, 1, 2], [], [], [4, 5], [4, 5, 6], [0, 1, 2, 3, 4, 5, 6, 7], [0, 1, 2, 3, 4, 5, 6, 7, 8]]
def r35_6 : List CO := [⟨none, (some 4), (.mv (.k (.v (.bool false))))⟩]
def r35_7 : List CO := [⟨none, (some 15), (.mv (.t 5))⟩, ⟨none, (some 16), (.bin .add .none (.t 15) (.k (.v (.int .i64 (1)))))⟩, ⟨none, (some 5), (.mv (.t 16))⟩]
def l35_8 : C := (.seq (.seq (.reg r35_4 [0, 1, 5, 14]) (.cond (.t 14) .skip (.exit 0))) (.seq (.block 1 (.seq (.regD r35_5 p35_5 [0, 1, 5, 26]) (.cond (.t 26) (.seq (.reg r35_6 [4]) .ret) .skip))) (.reg r35_7 [0, 1, 5])))
def r35_9 : List CO := [⟨none, (some 4), (.mv (.k (.v (.bool true))))⟩]
/-- loop.example/g00884/laws.eqIntSS -/
def c35 : C := (.seq (.reg r35_0 [0, 1]) (.seq (.seq (.reg r35_1 [0, 1, 10]) (.cond (.t 10) (.seq (.reg r35_2 [4]) .ret) .skip)) (.seq (.seq (.reg r35_3 [0, 1, 5]) (.block 0 (.loop l35_8))) (.seq (.reg r35_9 [4]) .ret))))
def k35 : Nat → List Nat
  | 0 => [0, 1]
  | 1 => [0, 1, 10]
  | 2 => [4]
  | 3 => [0, 1, 5]
  | 4 => [0, 1, 5, 14]
  | 6 => [0, 1, 5, 26]
  | 7 => [4]
  | 5 => [0, 1, 5]
  | 8 => [4]
  | _ => []
theorem fn35 : FnC Try.prog 35 c35 [(.tmp 4)] 27 :=
  ⟨Try.f35, _, k35, Try.func35, rfl, by kernel_rfl, by kernel_rfl, by kernel_rfl, rfl⟩
def r36_0 : List CO := [⟨none, (some 1), (.box 2 (.t 0))⟩, ⟨none, (some 2), (.mv (.k (.v (.slice none 0 0))))⟩, ⟨none, (some 3), (.mv (.k (.v (.bool false))))⟩]
def r36_1 : List CO := [⟨none, (some 6), (.bslice 1 (.v (.slice none 0 0)) 0 [])⟩, ⟨none, (some 4), (.mv (.t 6))⟩]
def r36_2 : List CO := [⟨none, (some 7), (.ld true 2 (.t 1))⟩, ⟨none, (some 8), (.call 63 [(.t 7)])⟩, ⟨none, (some 9), (.un .not (.t 8))⟩]
def r36_3 : List CO := [⟨none, (some 10), (.mv (.t 4))⟩, ⟨none, (some 2), (.mv (.t 10))⟩, ⟨none, (some 3), (.mv (.k (.v (.bool false))))⟩]
def r36_4 : List CO := [⟨none, (some 5), (.mv (.k (.v (.int .i64 (1)))))⟩]
def r36_5 : List CO := [⟨none, (some 11), (.mv (.t 5))⟩, ⟨none, (some 12), (.faddr 0 (.t 1))⟩, ⟨none, (some 13), (.ld false 1 (.t 12))⟩, ⟨none, (some 14), (.bin .mul .none (.t 11) (.t 13))⟩, ⟨none, (some 15), (.bin .leq .none (.t 14) (.k (.v (.int .i64 (60)))))⟩, ⟨none, (some 16), (.mv (.t 15))⟩, ⟨(some (16, true)), (some 17), (.mv (.t 5))⟩, ⟨(some (16, true)), (some 18), (.faddr 1 (.t 1))⟩, ⟨(some (16, true)), (some 19), (.ld false 1 (.t 18))⟩, ⟨(some (16, true)), (some 20), (.bin .mul .none (.t 17) (.t 19))⟩, ⟨(some (16, true)), (some 21), (.bin .leq .none (.t 20) (.k (.v (.int .i64 (60)))))⟩, ⟨none, (some 22), (.pick (.t 16) (.t 21) (.k (.v (.bool false))))⟩]
def r36_6 : List CO := [⟨none, (some 25), (.mv (.t 4))⟩, ⟨none, (some 26), (.mv (.t 5))⟩, ⟨none, (some 27), (.faddr 0 (.t 1))⟩, ⟨none, (some 28), (.ld false 1 (.t 27))⟩, ⟨none, (some 29), (.bin .mul .none (.t 26) (.t 28))⟩, ⟨none, (some 30), (.mv (.t 5))⟩, ⟨none, (some 31), (.faddr 1 (.t 1))⟩, ⟨none, (some 32), (.ld false 1 (.t 31))⟩, ⟨none, (some 33), (.bin .mul .none (.t 30) (.t 32))⟩, ⟨none, (some 34), (.bslice 1 (.v (.int .i64 (0))) 2 [(0, (.t 29)), (1, (.t 33))])⟩, ⟨none, (some 35), (.bslice 1 (.v (.slice none 0 0)) 1 [(0, (.t 34))])⟩, ⟨none, (some 36), (.app 1 24 (.t 25) (.t 35))⟩, ⟨none, (some 4), (.mv (.t 36))⟩]
def r36_7 : List CO := [⟨none, (some 23), (.mv (.t 5))⟩, ⟨none, (some 24), (.bin .add .none (.t 23) (.k (.v (.int .i64 (1)))))⟩, ⟨none, (some 5), (.mv (.t 24))⟩]
def l36_8 : C := (.seq (.seq (.reg r36_5 [1, 4, 5, 22]) (.cond (.t 22) .skip (.exit 0))) (.seq (.block 1 (.reg r36_6 [1, 4, 5])) (.reg r36_7 [1, 4, 5])))
def r36_9 : List CO := [⟨none, (some 37), (.mv (.t 4))⟩, ⟨none, (some 2), (.mv (.t 37))⟩, ⟨none, (some 3), (.mv (.k (.v (.bool true))))⟩]
/-- loop.example/g00884/spec.BannerSizes -/
def c36 : C := (.seq (.reg r36_0 [1]) (.seq (.reg r36_1 [1, 4]) (.seq (.seq (.reg r36_2 [1, 4, 9]) (.cond (.t 9) (.seq (.reg r36_3 [2, 3]) .ret) .skip)) (.seq (.seq (.reg r36_4 [1, 4, 5]) (.block 0 (.loop l36_8))) (.seq (.reg r36_9 [2, 3]) .ret)))))
def k36 : Nat → List Nat
  | 0 => [1]
  | 1 => [1, 4]
  | 2 => [1, 4, 9]
  | 3 => [2, 3]
  | 4 => [1, 4, 5]
  | 5 => [1, 4, 5, 22]
  | 7 => [1, 4, 5]
  | 6 => [1, 4, 5]
  | 8 => [2, 3]
  | _ => []
theorem fn36 : FnC Try.prog 36 c36 [(.tmp 2), (.tmp 3)] 38 :=
  ⟨Try.f36, _, k36, Try.func36, rfl, by kernel_rfl, by kernel_rfl, by kernel_rfl, rfl⟩
def r37_0 : List CO := [⟨none, (some 1), (.box 2 (.t 0))⟩, ⟨none, (some 2), (.box 2 (.k (.agg [(.v (.int .i64 (0))), (.v (.int .i64 (0)))])))⟩]
def r37_1 : List CO := [⟨none, (some 3), (.box 2 (.k (.agg [(.v (.int .i64 (0))), (.v (.int .i64 (0)))])))⟩]
def r37_2 : List CO := [⟨none, (some 4), (.faddr 0 (.t 1))⟩, ⟨none, (some 5), (.ld false 1 (.t 4))⟩, ⟨none, (some 6), (.faddr 0 (.t 3))⟩, ⟨none, none, (.st 1 (.t 6) (.t 5))⟩]
def r37_3 : List CO := [⟨none, (some 7), (.faddr 1 (.t 1))⟩, ⟨none, (some 8), (.ld false 1 (.t 7))⟩, ⟨none, (some 9), (.faddr 1 (.t 3))⟩, ⟨none, none, (.st 1 (.t 9) (.t 8))⟩]
def r37_4 : List CO := [⟨none, (some 10), (.ld true 2 (.t 3))⟩, ⟨none, none, (.st 2 (.t 2) (.t 10))⟩]
/-- loop.example/g00884/laws.toProportion -/
def c37 : C := (.seq (.reg r37_0 [1, 2]) (.seq (.reg r37_1 [1, 2, 3]) (.seq (.reg r37_2 [1, 2, 3]) (.seq (.reg r37_3 [2, 3]) (.seq (.reg r37_4 [2]) .ret)))))
def k37 : Nat → List Nat
  | 0 => [1, 2]
  | 1 => [1, 2, 3]
  | 2 => [1, 2, 3]
  | 3 => [2, 3]
  | 4 => [2]
  | _ => []
theorem fn37 : FnC Try.prog 37 c37 [(.cell 2 true 2)] 11 :=
  ⟨Try.f37, _, k37, Try.func37, rfl, by kernel_rfl, by kernel_rfl, by kernel_rfl, rfl⟩
def r38_0 : List CO := [⟨none, (some 1), (.box 2 (.t 0))⟩, ⟨none, (some 2), (.mv (.k (.v (.slice none 0 0))))⟩, ⟨none, (some 3), (.mv (.k (.v (.bool false))))⟩]
def r38_1 : List CO := [⟨none, (some 6), (.ld true 2 (.t 1))⟩, ⟨none, (some 7), (.call 65 [(.t 6)])⟩, ⟨none, (some 8), (.un .not (.t 7))⟩]
def r38_2 : List CO := [⟨none, (some 2), (.mv (.k (.v (.slice none 0 0))))⟩, ⟨none, (some 3), (.mv (.k (.v (.bool false))))⟩]
def r38_3 : List CO := [⟨none, (some 9), (.bslice 1 (.v (.slice none 0 0)) 0 [])⟩, ⟨none, (some 4), (.mv (.t 9))⟩]
def r38_4 : List CO := [⟨none, (some 5), (.mv (.k (.v (.int .i64 (1)))))⟩]
def r38_5 : List CO := [⟨none, (some 10), (.mv (.t 5))⟩, ⟨none, (some 11), (.faddr 0 (.t 1))⟩, ⟨none, (some 12), (.ld false 1 (.t 11))⟩, ⟨none, (some 13), (.bin .mul .none (.t 10) (.t 12))⟩, ⟨none, (some 14), (.bin .leq .none (.t 13) (.k (.v (.int .i64 (60)))))⟩, ⟨none, (some 15), (.mv (.t 14))⟩, ⟨(some (15, true)), (some 16), (.mv (.t 5))⟩, ⟨(some (15, true)), (some 17), (.faddr 1 (.t 1))⟩, ⟨(some (15, true)), (some 18), (.ld false 1 (.t 17))⟩, ⟨(some (15, true)), (some 19), (.bin .mul .none (.t 16) (.t 18))⟩, ⟨(some (15, true)), (some 20), (.bin .leq .none (.t 19) (.k (.v (.int .i64 (60)))))⟩, ⟨none, (some 21), (.pick (.t 15) (.t 20) (.k (.v (.bool false))))⟩]
def r38_6 : List CO := [⟨none, (some 24), (.mv (.t 4))⟩, ⟨none, (some 25), (.mv (.t 5))⟩, ⟨none, (some 26), (.faddr 0 (.t 1))⟩, ⟨none, (some 27), (.ld false 1 (.t 26))⟩, ⟨none, (some 28), (.bin .mul .none (.t 25) (.t 27))⟩, ⟨none, (some 29), (.mv (.t 5))⟩, ⟨none, (some 30), (.faddr 1 (.t 1))⟩, ⟨none, (some 31), (.ld false 1 (.t 30))⟩, ⟨none, (some 32), (.bin .mul .none (.t 29) (.t 31))⟩, ⟨none, (some 33), (.bslice 1 (.v (.int .i64 (0))) 2 [(0, (.t 28)), (1, (.t 32))])⟩, ⟨none, (some 34), (.bslice 1 (.v (.slice none 0 0)) 1 [(0, (.t 33))])⟩, ⟨none, (some 35), (.app 1 24 (.t 24) (.t 34))⟩, ⟨none, (some 4), (.mv (.t 35))⟩]
def r38_7 : List CO := [⟨none, (some 22), (.mv (.t 5))⟩, ⟨none, (some 23), (.bin .add .none (.t 22) (.k (.v (.int .i64 (1)))))⟩, ⟨none, (some 5), (.mv (.t 23))⟩]
def l38_8 : C := (.seq (.seq (.reg r38_5 [1, 4, 5, 21]) (.cond (.t 21) .skip (.exit 0))) (.seq (.block 1 (.reg r38_6 [1, 4, 5])) (.reg r38_7 [1, 4, 5])))
def r38_9 : List CO := [⟨none, (some 36), (.mv (.t 4))⟩, ⟨none, (some 2), (.mv (.t 36))⟩, ⟨none, (some 3), (.mv (.k (.v (.bool true))))⟩]
/-- loop.example/g00884/impl.BannerSizes -/
def c38 : C := (.seq (.reg r38_0 [1]) (.seq (.seq (.reg r38_1 [1, 8]) (.cond (.t 8) (.seq (.reg r38_2 [2, 3]) .ret) .skip)) (.seq (.reg r38_3 [1, 4]) (.seq (.seq (.reg r38_4 [1, 4, 5]) (.block 0 (.loop l38_8))) (.seq (.reg r38_9 [2, 3]) .ret)))))
def k38 : Nat → List Nat
  | 0 => [1]
  | 1 => [1, 8]
  | 2 => [2, 3]
  | 3 => [1, 4]
  | 4 => [1, 4, 5]
  | 5 => [1, 4, 5, 21]
  | 7 => [1, 4, 5]
  | 6 => [1, 4, 5]
  | 8 => [2, 3]
  | _ => []
theorem fn38 : FnC Try.prog 38 c38 [(.tmp 2), (.tmp 3)] 37 :=
  ⟨Try.f38, _, k38, Try.func38, rfl, by kernel_rfl, by kernel_rfl, by kernel_rfl, rfl⟩
def r39_0 : List CO := [⟨none, (some 4), (.mv (.k (.v (.int .i64 (0)))))⟩]
def r39_1 : List CO := [⟨none, (some 5), (.mv (.k (.v (.int .i64 (0)))))⟩]
def r39_2 : List CO := [⟨none, (some 6), (.mv (.t 5))⟩, ⟨none, (some 7), (.mv (.t 0))⟩, ⟨none, (some 8), (.len false (.t 7))⟩, ⟨none, (some 9), (.bin .lss .none (.t 6) (.t 8))⟩]
def r39_3 : List CO := [⟨none, (some 12), (.mv (.t 0))⟩, ⟨none, (some 13), (.mv (.t 5))⟩, ⟨none, (some 14), (.iaddr 1 (.t 12) (.t 13))⟩, ⟨none, (some 15), (.ld false 1 (.t 14))⟩, ⟨none, (some 16), (.mv (.t 1))⟩, ⟨none, (some 17), (.call 24 [(.t 15), (.t 16)])⟩, ⟨none, (some 1), (.mv (.t 17))⟩]
def r39_4 : List CO := [⟨none, (some 10), (.mv (.t 5))⟩, ⟨none, (some 11), (.bin .add .none (.t 10) (.k (.v (.int .i64 (1)))))⟩, ⟨none, (some 5), (.mv (.t 11))⟩]
def l39_5 : C := (.seq (.seq (.reg r39_2 [0, 1, 5, 9]) (.cond (.t 9) .skip (.exit 0))) (.seq (.block 1 (.reg r39_3 [0, 1, 5])) (.reg r39_4 [0, 1, 5])))
def r39_6 : List CO := [⟨none, (some 18), (.mv (.t 1))⟩, ⟨none, (some 4), (.mv (.t 18))⟩]
/-- loop.example/g00884/laws.markIntSS -/
def c39 : C := (.seq (.reg r39_0 [0, 1]) (.seq (.seq (.reg r39_1 [0, 1, 5]) (.block 0 (.loop l39_5))) (.seq (.reg r39_6 [4]) .ret)))
def k39 : Nat → List Nat
  | 0 => [0, 1]
  | 1 => [0, 1, 5]
  | 2 => [0, 1, 5, 9]
  | 4 => [0, 1, 5]
  | 3 => [0, 1, 5]
  | 5 => [4]
  | _ => []
theorem fn39 : FnC Try.prog 39 c39 [(.tmp 4)] 19 :=
  ⟨Try.f39, _, k39, Try.func39, rfl, by kernel_rfl, by kernel_rfl, by kernel_rfl, rfl⟩
def r40_0 : List CO := [⟨none, (some 4), (.mv (.k (.v (.int .i64 (0)))))⟩]
def r40_1 : List CO := [⟨none, (some 5), (.mv (.k (.v (.int .i64 (0)))))⟩]
def r40_2 : List CO := [⟨none, (some 6), (.mv (.t 5))⟩, ⟨none, (some 7), (.mv (.t 0))⟩, ⟨none, (some 8), (.len false (.t 7))⟩, ⟨none, (some 9), (.bin .lss .none (.t 6) (.t 8))⟩]
def r40_3 : List CO := [⟨none, (some 12), (.mv (.t 0))⟩, ⟨none, (some 13), (.mv (.t 5))⟩, ⟨none, (some 14), (.iaddr 1 (.t 12) (.t 13))⟩, ⟨none, (some 15), (.ld false 1 (.t 14))⟩, ⟨none, (some 16), (.mv (.t 1))⟩, ⟨none, (some 17), (.call 25 [(.t 15), (.t 16)])⟩, ⟨none, (some 1), (.mv (.t 17))⟩]
def r40_4 : List CO := [⟨none, (some 18), (.mv (.t 1))⟩, ⟨none, (some 19), (.bin .lss .none (.t 18) (.k (.v (.int .i64 (0)))))⟩]
def r40_5 : List CO := [⟨none, (some 4), (.mv (.k (.v (.int .i64 (-1)))))⟩]
def r40_6 : List CO := [⟨none, (some 10), (.mv (.t 5))⟩, ⟨none, (some 11), (.bin .add .none (.t 10) (.k (.v (.int .i64 (1)))))⟩, ⟨none, (some 5), (.mv (.t 11))⟩]
def l40_7 : C := (.seq (.seq (.reg r40_2 [0, 1, 5, 9]) (.cond (.t 9) .skip (.exit 0))) (.seq (.block 1 (.seq (.reg r40_3 [0, 1, 5]) (.seq (.reg r40_4 [0, 1, 5, 19]) (.cond (.t 19) (.seq (.reg r40_5 [4]) .ret) .skip)))) (.reg r40_6 [0, 1, 5])))
def r40_8 : List CO := [⟨none, (some 20), (.mv (.t 1))⟩, ⟨none, (some 4), (.mv (.t 20))⟩]
/-- loop.example/g00884/laws.heldIntSS -/
def c40 : C := (.seq (.reg r40_0 [0, 1]) (.seq (.seq (.reg r40_1 [0, 1, 5]) (.block 0 (.loop l40_7))) (.seq (.reg r40_8 [4]) .ret)))
def k40 : Nat → List Nat
  | 0 => [0, 1]
  | 1 => [0, 1, 5]
  | 2 => [0, 1, 5, 9]
  | 4 => [0, 1, 5]
  | 5 => [0, 1, 5, 19]
  | 6 => [4]
  | 3 => [0, 1, 5]
  | 7 => [4]
  | _ => []
theorem fn40 : FnC Try.prog 40 c40 [(.tmp 4)] 21 :=
  ⟨Try.f40, _, k40, Try.func40, rfl, by kernel_rfl, by kernel_rfl, by kernel_rfl, rfl⟩
def r41_0 : List CO := [⟨none, (some 2), (.box 4 (.t 0))⟩, ⟨none, (some 4), (.mv (.k (.v (.int .i64 (0)))))⟩]
def r41_1 : List CO := [⟨none, (some 5), (.faddr 0 (.t 2))⟩, ⟨none, (some 6), (.ld false 1 (.t 5))⟩, ⟨none, (some 7), (.mv (.t 1))⟩, ⟨none, (some 8), (.call 72 [(.t 6), (.t 7)])⟩, ⟨none, (some 1), (.mv (.t 8))⟩]
def r41_2 : List CO := [⟨none, (some 9), (.mv (.t 1))⟩, ⟨none, (some 10), (.bin .lss .none (.t 9) (.k (.v (.int .i64 (0)))))⟩]
def r41_3 : List CO := [⟨none, (some 4), (.mv (.k (.v (.int .i64 (-1)))))⟩]
def r41_4 : List CO := [⟨none, (some 11), (.mv (.t 1))⟩, ⟨none, (some 4), (.mv (.t 11))⟩]
/-- loop.example/g00884/laws.szTariff -/
def c41 : C := (.seq (.reg r41_0 [1, 2]) (.seq (.reg r41_1 [1]) (.seq (.seq (.reg r41_2 [1, 10]) (.cond (.t 10) (.seq (.reg r41_3 [4]) .ret) .skip)) (.seq (.reg r41_4 [4]) .ret))))
def k41 : Nat → List Nat
  | 0 => [1, 2]
  | 1 => [1]
  | 2 => [1, 10]
  | 3 => [4]
  | 4 => [4]
  | _ => []
theorem fn41 : FnC Try.prog 41 c41 [(.tmp 4)] 12 :=
  ⟨Try.f41, _, k41, Try.func41, rfl, by kernel_rfl, by kernel_rfl, by kernel_rfl, rfl⟩
def r42_0 : List CO := [⟨none, (some 1), (.box 4 (.t 0))⟩, ⟨none, (some 2), (.mv (.k (.v (.int .i64 (0)))))⟩, ⟨none, (some 3), (.mv (.k (.v (.bool false))))⟩]
def r42_1 : List CO := [⟨none, (some 6), (.ld true 4 (.t 1))⟩, ⟨none, (some 7), (.call 79 [(.t 6)])⟩, ⟨none, (some 8), (.un .not (.t 7))⟩]
def r42_2 : List CO := [⟨none, (some 2), (.mv (.k (.v (.int .i64 (0)))))⟩, ⟨none, (some 3), (.mv (.k (.v (.bool false))))⟩]
def r42_3 : List CO := [⟨none, (some 4), (.mv (.k (.v (.int .i64 (0)))))⟩]
def r42_4 : List CO := [⟨none, (some 5), (.mv (.k (.v (.int .i64 (1)))))⟩]
def r42_5 : List CO := [⟨none, (some 9), (.mv (.t 5))⟩, ⟨none, (some 10), (.bin .lss .none (.t 9) (.k (.v (.int .i64 (5)))))⟩]
def r42_6 : List CO := [⟨none, (some 13), (.faddr 0 (.t 1))⟩, ⟨none, (some 14), (.ld false 1 (.t 13))⟩, ⟨none, (some 15), (.mv (.t 5))⟩, ⟨none, (some 16), (.iaddr 1 (.t 14) (.t 15))⟩, ⟨none, (some 17), (.ld false 1 (.t 16))⟩, ⟨none, (some 18), (.faddr 0 (.t 1))⟩, ⟨none, (some 19), (.ld false 1 (.t 18))⟩, ⟨none, (some 20), (.mv (.t 4))⟩, ⟨none, (some 21), (.iaddr 1 (.t 19) (.t 20))⟩, ⟨none, (some 22), (.ld false 1 (.t 21))⟩, ⟨none, (some 23), (.bin .lss .none (.t 17) (.t 22))⟩]
def p42_6 : List (List Nat) := [[], [0], [], [0, 1, 2], [0, 1, 2, 3], [], [5], [], [5, 6, 7], [5, 6, 7, 8], [0, 1, 2, 3, 4, 5, 6, 7, 8, 9]]
def r42_7 : List CO := [⟨none, (some 24), (.mv (.t 5))⟩, ⟨none, (some 4), (.mv (.t 24))⟩]
def r42_8 : List CO := [⟨none, (some 11), (.mv (.t 5))⟩, ⟨none, (some 12), (.bin .add .none (.t 11) (.k (.v (.int .i64 (1)))))⟩, ⟨none, (some 5), (.mv (.t 12))⟩]
def l42_9 : C := (.seq (.seq (.reg r42_5 [1, 4, 5, 10]) (.cond (.t 10) .skip (.exit 0))) (.seq (.block 1 (.seq (.regD r42_6 p42_6 [1, 4, 5, 23]) (.cond (.t 23) (.reg r42_7 [1, 4, 5]) .skip))) (.reg r42_8 [1, 4, 5])))
def r42_10 : List CO := [⟨none, (some 25), (.mv (.t 4))⟩, ⟨none, (some 26), (.bin .add .none (.t 25) (.k (.v (.int .i64 (1)))))⟩, ⟨none, (some 2), (.mv (.t 26))⟩, ⟨none, (some 3), (.mv (.k (.v (.bool true))))⟩]
/-- loop.example/g00884/spec.CheapestRank -/
def c42 : C := (.seq (.reg r42_0 [1]) (.seq (.seq (.reg r42_1 [1, 8]) (.cond (.t 8) (.seq (.reg r42_2 [2, 3]) .ret) .skip)) (.seq (.reg r42_3 [1, 4]) (.seq (.seq (.reg r42_4 [1, 4, 5]) (.block 0 (.loop l42_9))) (.seq (.reg r42_10 [2, 3]) .ret)))))
def k42 : Nat → List Nat
  | 0 => [1]
  | 1 => [1, 8]
  | 2 => [2, 3]
  | 3 => [1, 4]
  | 4 => [1, 4, 5]
  | 5 => [1, 4, 5, 10]
  | 7 => [1, 4, 5, 23]
  | 8 => [1, 4, 5]
  | 6 => [1, 4, 5]
  | 9 => [2, 3]
  | _ => []
theorem fn42 : FnC Try.prog 42 c42 [(.tmp 2), (.tmp 3)] 27 :=
  ⟨Try.f42, _, k42, Try.func42, rfl, by kernel_rfl, by kernel_rfl, by kernel_rfl, rfl⟩
def r43_0 : List CO := [⟨none, (some 1), (.box 4 (.t 0))⟩, ⟨none, (some 2), (.box 4 (.k (.agg [(.v (.slice none 0 0)), (.v (.int .i64 (0))), (.v (.int .i64 (0))), (.v (.int .i64 (0)))])))⟩]
def r43_1 : List CO := [⟨none, (some 3), (.box 4 (.k (.agg [(.v (.slice none 0 0)), (.v (.int .i64 (0))), (.v (.int .i64 (0))), (.v (.int .i64 (0)))])))⟩]
def r43_2 : List CO := [⟨none, (some 4), (.faddr 0 (.t 1))⟩, ⟨none, (some 5), (.ld false 1 (.t 4))⟩, ⟨none, (some 6), (.call 74 [(.t 5)])⟩, ⟨none, (some 7), (.faddr 0 (.t 3))⟩, ⟨none, none, (.st 1 (.t 7) (.t 6))⟩]
def r43_3 : List CO := [⟨none, (some 8), (.faddr 1 (.t 1))⟩, ⟨none, (some 9), (.ld false 1 (.t 8))⟩, ⟨none, (some 10), (.faddr 1 (.t 3))⟩, ⟨none, none, (.st 1 (.t 10) (.t 9))⟩]
def r43_4 : List CO := [⟨none, (some 11), (.faddr 2 (.t 1))⟩, ⟨none, (some 12), (.ld false 1 (.t 11))⟩, ⟨none, (some 13), (.faddr 2 (.t 3))⟩, ⟨none, none, (.st 1 (.t 13) (.t 12))⟩]
def r43_5 : List CO := [⟨none, (some 14), (.faddr 3 (.t 1))⟩, ⟨none, (some 15), (.ld false 1 (.t 14))⟩, ⟨none, (some 16), (.faddr 3 (.t 3))⟩, ⟨none, none, (.st 1 (.t 16) (.t 15))⟩]
def r43_6 : List CO := [⟨none, (some 17), (.ld true 4 (.t 3))⟩, ⟨none, none, (.st 4 (.t 2) (.t 17))⟩]
/-- loop.example/g00884/laws.toTariff -/
def c43 : C := (.seq (.reg r43_0 [1, 2]) (.seq (.reg r43_1 [1, 2, 3]) (.seq (.reg r43_2 [1, 2, 3]) (.seq (.reg r43_3 [1, 2, 3]) (.seq (.reg r43_4 [1, 2, 3]) (.seq (.reg r43_5 [2, 3]) (.seq (.reg r43_6 [2]) .ret)))))))
def k43 : Nat → List Nat
  | 0 => [1, 2]
  | 1 => [1, 2, 3]
  | 2 => [1, 2, 3]
  | 3 => [1, 2, 3]
  | 4 => [1, 2, 3]
  | 5 => [2, 3]
  | 6 => [2]
  | _ => []
theorem fn43 : FnC Try.prog 43 c43 [(.cell 2 true 4)] 18 :=
  ⟨Try.f43, _, k43, Try.func43, rfl, by kernel_rfl, by kernel_rfl, by kernel_rfl, rfl⟩
def r44_0 : List CO := [⟨none, (some 1), (.box 4 (.t 0))⟩, ⟨none, (some 2), (.mv (.k (.v (.int .i64 (0)))))⟩, ⟨none, (some 3), (.mv (.k (.v (.bool false))))⟩]
def r44_1 : List CO := [⟨none, (some 4), (.ld true 4 (.t 1))⟩, ⟨none, (some 5), (.call 80 [(.t 4)])⟩, ⟨none, (some 6), (.un .not (.t 5))⟩]
def r44_2 : List CO := [⟨none, (some 2), (.mv (.k (.v (.int .i64 (0)))))⟩, ⟨none, (some 3), (.mv (.k (.v (.bool false))))⟩]
def r44_3 : List CO := [⟨none, (some 7), (.faddr 0 (.t 1))⟩, ⟨none, (some 8), (.ld false 1 (.t 7))⟩, ⟨none, (some 9), (.faddr 0 (.t 1))⟩, ⟨none, (some 10), (.ld false 1 (.t 9))⟩, ⟨none, (some 11), (.call 82 [(.t 10)])⟩, ⟨none, (some 12), (.call 81 [(.t 8), (.t 11)])⟩, ⟨none, (some 13), (.bin .add .none (.t 12) (.k (.v (.int .i64 (1)))))⟩, ⟨none, (some 2), (.mv (.t 13))⟩, ⟨none, (some 3), (.mv (.k (.v (.bool true))))⟩]
def p44_3 : List (List Nat) := [[], [0], [], [2], [2, 3], [0, 1, 2, 3, 4], [0, 1, 2, 3, 4, 5], [0, 1, 2, 3, 4, 5, 6], [0, 1, 2, 3, 4, 5, 6, 7]]
/-- loop.example/g00884/impl.CheapestRank -/
def c44 : C := (.seq (.reg r44_0 [1]) (.seq (.seq (.reg r44_1 [1, 6]) (.cond (.t 6) (.seq (.reg r44_2 [2, 3]) .ret) .skip)) (.seq (.regD r44_3 p44_3 [2, 3]) .ret)))
def k44 : Nat → List Nat
  | 0 => [1]
  | 1 => [1, 6]
  | 2 => [2, 3]
  | 3 => [2, 3]
  | _ => []
theorem fn44 : FnC Try.prog 44 c44 [(.tmp 2), (.tmp 3)] 14 :=
  ⟨Try.f44, _, k44, Try.func44, rfl, by kernel_rfl, by kernel_rfl, by kernel_rfl, rfl⟩
def r45_0 : List CO := [⟨none, (some 2), (.box 4 (.t 0))⟩, ⟨none, (some 3), (.box 4 (.t 1))⟩, ⟨none, (some 4), (.mv (.k (.v (.bool false))))⟩]
def r45_1 : List CO := [⟨none, (some 5), (.faddr 0 (.t 2))⟩, ⟨none, (some 6), (.ld false 1 (.t 5))⟩, ⟨none, (some 7), (.faddr 0 (.t 3))⟩, ⟨none, (some 8), (.ld false 1 (.t 7))⟩, ⟨none, (some 9), (.call 23 [(.t 6), (.t 8)])⟩, ⟨none, (some 10), (.un .not (.t 9))⟩]
def r45_2 : List CO := [⟨none, (some 4), (.mv (.k (.v (.bool false))))⟩]
def r45_3 : List CO := [⟨none, (some 11), (.faddr 1 (.t 2))⟩, ⟨none, (some 12), (.ld false 1 (.t 11))⟩, ⟨none, (some 13), (.faddr 1 (.t 3))⟩, ⟨none, (some 14), (.ld false 1 (.t 13))⟩, ⟨none, (some 15), (.bin .neq .none (.t 12) (.t 14))⟩]
def r45_4 : List CO := [⟨none, (some 4), (.mv (.k (.v (.bool false))))⟩]
def r45_5 : List CO := [⟨none, (some 16), (.faddr 2 (.t 2))⟩, ⟨none, (some 17), (.ld false 1 (.t 16))⟩, ⟨none, (some 18), (.faddr 2 (.t 3))⟩, ⟨none, (some 19), (.ld false 1 (.t 18))⟩, ⟨none, (some 20), (.bin .neq .none (.t 17) (.t 19))⟩]
def r45_6 : List CO := [⟨none, (some 4), (.mv (.k (.v (.bool false))))⟩]
def r45_7 : List CO := [⟨none, (some 21), (.faddr 3 (.t 2))⟩, ⟨none, (some 22), (.ld false 1 (.t 21))⟩, ⟨none, (some 23), (.faddr 3 (.t 3))⟩, ⟨none, (some 24), (.ld false 1 (.t 23))⟩, ⟨none, (some 25), (.bin .neq .none (.t 22) (.t 24))⟩]
def r45_8 : List CO := [⟨none, (some 4), (.mv (.k (.v (.bool false))))⟩]
def r45_9 : List CO := [⟨none, (some 4), (.mv (.k (.v (.bool true))))⟩]
/-- loop.example/g00884/laws.eqTariff -/
def c45 : C := (.seq (.reg r45_0 [2, 3]) (.seq (.seq (.reg r45_1 [2, 3, 10]) (.cond (.t 10) (.seq (.reg r45_2 [4]) .ret) .skip)) (.seq (.seq (.reg r45_3 [2, 3, 15]) (.cond (.t 15) (.seq (.reg r45_4 [4]) .ret) .skip)) (.seq (.seq (.reg r45_5 [2, 3, 20]) (.cond (.t 20) (.seq (.reg r45_6 [4]) .ret) .skip)) (.seq (.seq (.reg r45_7 [25]) (.cond (.t 25) (.seq (.reg r45_8 [4]) .ret) .skip)) (.seq (.reg r45_9 [4]) .ret))))))
def k45 : Nat → List Nat
  | 0 => [2, 3]
  | 1 => [2, 3, 10]
  | 2 => [4]
  | 3 => [2, 3, 15]
  | 4 => [4]
  | 5 => [2, 3, 20]
  | 6 => [4]
  | 7 => [25]
  | 8 => [4]
  | 9 => [4]
  | _ => []
theorem fn45 : FnC Try.prog 45 c45 [(.tmp 4)] 26 :=
  ⟨Try.f45, _, k45, Try.func45, rfl, by kernel_rfl, by kernel_rfl, by kernel_rfl, rfl⟩
def r46_0 : List CO := [⟨none, (some 3), (.box 2 (.t 1))⟩, ⟨none, (some 4), (.mv (.k (.v (.bool false))))⟩, ⟨none, (some 5), (.mv (.k (.v (.bool false))))⟩]
def r46_1 : List CO := [⟨none, (some 6), (.mv (.t 0))⟩, ⟨none, (some 7), (.call 73 [(.t 6)])⟩, ⟨none, (some 8), (.un .not (.t 7))⟩, ⟨none, (some 9), (.mv (.t 8))⟩, ⟨(some (9, false)), (some 10), (.ld true 2 (.t 3))⟩, ⟨(some (9, false)), (some 11), (.call 63 [(.t 10)])⟩, ⟨(some (9, false)), (some 12), (.un .not (.t 11))⟩, ⟨none, (some 13), (.pick (.t 9) (.k (.v (.bool true))) (.t 12))⟩]
def r46_2 : List CO := [⟨none, (some 4), (.mv (.k (.v (.bool false))))⟩, ⟨none, (some 5), (.mv (.k (.v (.bool false))))⟩]
def r46_3 : List CO := [⟨none, (some 14), (.mv (.t 0))⟩, ⟨none, (some 15), (.len false (.t 14))⟩, ⟨none, (some 16), (.faddr 1 (.t 3))⟩, ⟨none, (some 17), (.ld false 1 (.t 16))⟩, ⟨none, (some 18), (.bin .mul .none (.t 15) (.t 17))⟩, ⟨none, (some 19), (.mv (.t 0))⟩, ⟨none, (some 20), (.iaddr 1 (.t 19) (.k (.v (.int .i64 (0)))))⟩, ⟨none, (some 21), (.ld false 1 (.t 20))⟩, ⟨none, (some 22), (.len false (.t 21))⟩, ⟨none, (some 23), (.faddr 0 (.t 3))⟩, ⟨none, (some 24), (.ld false 1 (.t 23))⟩, ⟨none, (some 25), (.bin .mul .none (.t 22) (.t 24))⟩, ⟨none, (some 26), (.bin .eql .none (.t 18) (.t 25))⟩, ⟨none, (some 4), (.mv (.t 26))⟩, ⟨none, (some 5), (.mv (.k (.v (.bool true))))⟩]
def p46_3 : List (List Nat) := [[], [0], [], [2], [0, 1, 2, 3], [], [5], [5, 6], [5, 6, 7], [], [9], [5, 6, 7, 8, 9, 10], [0, 1, 2, 3, 4, 5, 6, 7, 8, 9, 10, 11], [0, 1, 2, 3, 4, 5, 6, 7, 8, 9, 10, 11, 12], [0, 1, 2, 3, 4, 5, 6, 7, 8, 9, 10, 11, 12, 13]]
/-- loop.example/g00884/spec.KeepsProportion -/
def c46 : C := (.seq (.reg r46_0 [0, 3]) (.seq (.seq (.reg r46_1 [0, 3, 13]) (.cond (.t 13) (.seq (.reg r46_2 [4, 5]) .ret) .skip)) (.seq (.regD r46_3 p46_3 [4, 5]) .ret)))
def k46 : Nat → List Nat
  | 0 => [0, 3]
  | 1 => [0, 3, 13]
  | 2 => [4, 5]
  | 3 => [4, 5]
  | _ => []
theorem fn46 : FnC Try.prog 46 c46 [(.tmp 4), (.tmp 5)] 27 :=
  ⟨Try.f46, _, k46, Try.func46, rfl, by kernel_rfl, by kernel_rfl, by kernel_rfl, rfl⟩
def r47_0 : List CO := [⟨none, (some 3), (.box 2 (.t 1))⟩, ⟨none, (some 4), (.mv (.k (.v (.bool false))))⟩, ⟨none, (some 5), (.mv (.k (.v (.bool false))))⟩]
def r47_1 : List CO := [⟨none, (some 6), (.mv (.t 0))⟩, ⟨none, (some 7), (.call 34 [(.t 6)])⟩, ⟨none, (some 8), (.un .not (.t 7))⟩, ⟨none, (some 9), (.mv (.t 8))⟩, ⟨(some (9, false)), (some 10), (.ld true 2 (.t 3))⟩, ⟨(some (9, false)), (some 11), (.call 65 [(.t 10)])⟩, ⟨(some (9, false)), (some 12), (.un .not (.t 11))⟩, ⟨none, (some 13), (.pick (.t 9) (.k (.v (.bool true))) (.t 12))⟩]
def r47_2 : List CO := [⟨none, (some 4), (.mv (.k (.v (.bool false))))⟩, ⟨none, (some 5), (.mv (.k (.v (.bool false))))⟩]
def r47_3 : List CO := [⟨none, (some 14), (.mv (.t 0))⟩, ⟨none, (some 15), (.len false (.t 14))⟩, ⟨none, (some 16), (.faddr 1 (.t 3))⟩, ⟨none, (some 17), (.ld false 1 (.t 16))⟩, ⟨none, (some 18), (.bin .mul .none (.t 15) (.t 17))⟩, ⟨none, (some 19), (.mv (.t 0))⟩, ⟨none, (some 20), (.iaddr 1 (.t 19) (.k (.v (.int .i64 (0)))))⟩, ⟨none, (some 21), (.ld false 1 (.t 20))⟩, ⟨none, (some 22), (.len false (.t 21))⟩, ⟨none, (some 23), (.faddr 0 (.t 3))⟩, ⟨none, (some 24), (.ld false 1 (.t 23))⟩, ⟨none, (some 25), (.bin .mul .none (.t 22) (.t 24))⟩, ⟨none, (some 26), (.bin .eql .none (.t 18) (.t 25))⟩, ⟨none, (some 4), (.mv (.t 26))⟩, ⟨none, (some 5), (.mv (.k (.v (.bool true))))⟩]
def p47_3 : List (List Nat) := [[], [0], [], [2], [0, 1, 2, 3], [], [5], [5, 6], [5, 6, 7], [], [9], [5, 6, 7, 8, 9, 10], [0, 1, 2, 3, 4, 5, 6, 7, 8, 9, 10, 11], [0, 1, 2, 3, 4, 5, 6, 7, 8, 9, 10, 11, 12], [0, 1, 2, 3, 4, 5, 6, 7, 8, 9, 10, 11, 12, 13]]
/-- loop.example/g00884/impl.KeepsProportion -/
def c47 : C := (.seq (.reg r47_0 [0, 3]) (.seq (.seq (.reg r47_1 [0, 3, 13]) (.cond (.t 13) (.seq (.reg r47_2 [4, 5]) .ret) .skip)) (.seq (.regD r47_3 p47_3 [4, 5]) .ret)))
def k47 : Nat → List Nat
  | 0 => [0, 3]
  | 1 => [0, 3, 13]
  | 2 => [4, 5]
  | 3 => [4, 5]
  | _ => []
theorem fn47 : FnC Try.prog 47 c47 [(.tmp 4), (.tmp 5)] 27 :=
  ⟨Try.f47, _, k47, Try.func47, rfl, by kernel_rfl, by kernel_rfl, by kernel_rfl, rfl⟩
def r48_0 : List CO := [⟨none, (some 2), (.mv (.k (.v (.slice none 0 0))))⟩, ⟨none, (some 3), (.mv (.k (.v (.bool false))))⟩]
def r48_1 : List CO := [⟨none, (some 7), (.mv (.t 0))⟩, ⟨none, (some 8), (.call 67 [(.t 7)])⟩, ⟨none, (some 9), (.un .not (.t 8))⟩]
def r48_2 : List CO := [⟨none, (some 10), (.bslice 1 (.v (.int .i64 (0))) 0 [])⟩, ⟨none, (some 2), (.mv (.t 10))⟩, ⟨none, (some 3), (.mv (.k (.v (.bool false))))⟩]
def r48_3 : List CO := [⟨none, (some 11), (.mks 1 (.v (.int .i64 (0))) 8 (.k (.v (.int .i64 (4)))) (.k (.v (.int .i64 (4)))))⟩, ⟨none, (some 4), (.mv (.t 11))⟩]
def r48_4 : List CO := [⟨none, (some 5), (.mv (.k (.v (.int .i64 (0)))))⟩]
def r48_5 : List CO := [⟨none, (some 12), (.mv (.t 5))⟩, ⟨none, (some 13), (.mv (.t 0))⟩, ⟨none, (some 14), (.len false (.t 13))⟩, ⟨none, (some 15), (.bin .lss .none (.t 12) (.t 14))⟩]
def r48_6 : List CO := [⟨none, (some 18), (.mv (.t 0))⟩, ⟨none, (some 19), (.mv (.t 5))⟩, ⟨none, (some 20), (.iaddr 5 (.t 18) (.t 19))⟩, ⟨none, (some 21), (.faddr 3 (.t 20))⟩, ⟨none, (some 22), (.ld false 1 (.t 21))⟩, ⟨none, (some 6), (.mv (.t 22))⟩]
def r48_7 : List CO := [⟨none, (some 23), (.mv (.t 4))⟩, ⟨none, (some 24), (.mv (.t 6))⟩, ⟨none, (some 25), (.bin .sub .none (.t 24) (.k (.v (.int .i64 (1)))))⟩, ⟨none, (some 26), (.mv (.t 4))⟩, ⟨none, (some 27), (.mv (.t 6))⟩, ⟨none, (some 28), (.bin .sub .none (.t 27) (.k (.v (.int .i64 (1)))))⟩, ⟨none, (some 29), (.iaddr 1 (.t 26) (.t 28))⟩, ⟨none, (some 30), (.ld false 1 (.t 29))⟩, ⟨none, (some 31), (.mv (.t 0))⟩, ⟨none, (some 32), (.mv (.t 5))⟩, ⟨none, (some 33), (.iaddr 5 (.t 31) (.t 32))⟩, ⟨none, (some 34), (.faddr 4 (.t 33))⟩, ⟨none, (some 35), (.ld false 1 (.t 34))⟩, ⟨none, (some 36), (.bin .add .none (.t 30) (.t 35))⟩, ⟨none, (some 37), (.iaddr 1 (.t 23) (.t 25))⟩, ⟨none, none, (.st 1 (.t 37) (.t 36))⟩]
def p48_7 : List (List Nat) := [[], [], [1], [], [], [4], [3, 4, 5], [3, 4, 5, 6], [], [], [8, 9], [8, 9, 10], [8, 9, 10, 11], [3, 4, 5, 6, 7, 8, 9, 10, 11, 12], [0, 1, 2, 3, 4, 5, 6, 7, 8, 9, 10, 11, 12, 13], [0, 1, 2, 3, 4, 5, 6, 7, 8, 9, 10, 11, 12, 13, 14]]
def r48_8 : List CO := [⟨none, (some 16), (.mv (.t 5))⟩, ⟨none, (some 17), (.bin .add .none (.t 16) (.k (.v (.int .i64 (1)))))⟩, ⟨none, (some 5), (.mv (.t 17))⟩]
def l48_9 : C := (.seq (.seq (.reg r48_5 [0, 4, 5, 15]) (.cond (.t 15) .skip (.exit 0))) (.seq (.block 1 (.seq (.reg r48_6 [0, 4, 5, 6]) (.regD r48_7 p48_7 [0, 4, 5]))) (.reg r48_8 [0, 4, 5])))
def r48_10 : List CO := [⟨none, (some 38), (.mv (.t 4))⟩, ⟨none, (some 2), (.mv (.t 38))⟩, ⟨none, (some 3), (.mv (.k (.v (.bool true))))⟩]
/-- loop.example/g00884/spec.IncomeOf -/
def c48 : C := (.seq (.reg r48_0 [0]) (.seq (.seq (.reg r48_1 [0, 9]) (.cond (.t 9) (.seq (.reg r48_2 [2, 3]) .ret) .skip)) (.seq (.reg r48_3 [0, 4]) (.seq (.seq (.reg r48_4 [0, 4, 5]) (.block 0 (.loop l48_9))) (.seq (.reg r48_10 [2, 3]) .ret)))))
def k48 : Nat → List Nat
  | 0 => [0]
  | 1 => [0, 9]
  | 2 => [2, 3]
  | 3 => [0, 4]
  | 4 => [0, 4, 5]
  | 5 => [0, 4, 5, 15]
  | 7 => [0, 4, 5, 6]
  | 8 => [0, 4, 5]
  | 6 => [0, 4, 5]
  | 9 => [2, 3]
  | _ => []
theorem fn48 : FnC Try.prog 48 c48 [(.tmp 2), (.tmp 3)] 39 :=
  ⟨Try.f48, _, k48, Try.func48, rfl, by kernel_rfl, by kernel_rfl, by kernel_rfl, rfl⟩
def r49_0 : List CO := [⟨none, (some 2), (.mv (.k (.v (.slice none 0 0))))⟩, ⟨none, (some 3), (.mv (.k (.v (.bool false))))⟩]
def r49_1 : List CO := [⟨none, (some 7), (.mv (.t 0))⟩, ⟨none, (some 8), (.call 29 [(.t 7)])⟩, ⟨none, (some 9), (.un .not (.t 8))⟩]
def r49_2 : List CO := [⟨none, (some 2), (.mv (.k (.v (.slice none 0 0))))⟩, ⟨none, (some 3), (.mv (.k (.v (.bool false))))⟩]
def r49_3 : List CO := [⟨none, (some 10), (.mks 1 (.v (.int .i64 (0))) 8 (.k (.v (.int .i64 (4)))) (.k (.v (.int .i64 (4)))))⟩, ⟨none, (some 4), (.mv (.t 10))⟩]
def r49_4 : List CO := [⟨none, (some 11), (.mv (.t 0))⟩, ⟨none, (some 12), (.len false (.t 11))⟩, ⟨none, (some 13), (.mv (.k (.v (.int .i64 (0)))))⟩]
def r49_5 : List CO := [⟨none, (some 14), (.bin .lss .none (.t 13) (.t 12))⟩]
def r49_6 : List CO := [⟨none, (some 15), (.iaddr 5 (.t 11) (.t 13))⟩, ⟨none, (some 16), (.ld true 5 (.t 15))⟩, ⟨none, (some 6), (.box 5 (.k (.agg [(.v (.int .i64 (0))), (.v (.int .i64 (0))), (.v (.int .i64 (0))), (.v (.int .i64 (0))), (.v (.int .i64 (0)))])))⟩, ⟨none, none, (.st 5 (.t 6) (.t 16))⟩]
def r49_7 : List CO := [⟨none, (some 17), (.mv (.t 4))⟩, ⟨none, (some 18), (.faddr 3 (.t 6))⟩, ⟨none, (some 19), (.ld false 1 (.t 18))⟩, ⟨none, (some 20), (.bin .sub .none (.t 19) (.k (.v (.int .i64 (1)))))⟩, ⟨none, (some 21), (.iaddr 1 (.t 17) (.t 20))⟩, ⟨none, (some 22), (.ld false 1 (.t 21))⟩, ⟨none, (some 23), (.faddr 4 (.t 6))⟩, ⟨none, (some 24), (.ld false 1 (.t 23))⟩, ⟨none, (some 25), (.bin .add .none (.t 22) (.t 24))⟩, ⟨none, (some 26), (.iaddr 1 (.t 17) (.t 20))⟩, ⟨none, none, (.st 1 (.t 26) (.t 25))⟩]
def p49_7 : List (List Nat) := [[], [], [1], [1, 2], [0, 1, 2, 3], [0, 1, 2, 3, 4], [], [6], [0, 1, 2, 3, 4, 5, 6, 7], [0, 1, 2, 3, 4, 5, 6, 7, 8], [0, 1, 2, 3, 4, 5, 6, 7, 8, 9]]
def r49_8 : List CO := [⟨none, (some 27), (.bin .add .none (.t 13) (.k (.v (.int .i64 (1)))))⟩, ⟨none, (some 13), (.mv (.t 27))⟩]
def l49_9 : C := (.seq (.reg r49_5 [4, 11, 12, 13, 14]) (.seq (.cond (.t 14) .skip (.exit 0)) (.seq (.block 1 (.seq (.reg r49_6 [4, 6, 11, 12, 13]) (.regD r49_7 p49_7 [4, 11, 12, 13]))) (.reg r49_8 [4, 11, 12, 13]))))
def r49_10 : List CO := [⟨none, (some 28), (.mv (.t 4))⟩, ⟨none, (some 2), (.mv (.t 28))⟩, ⟨none, (some 3), (.mv (.k (.v (.bool true))))⟩]
/-- loop.example/g00884/impl.IncomeOf -/
def c49 : C := (.seq (.reg r49_0 [0]) (.seq (.seq (.reg r49_1 [0, 9]) (.cond (.t 9) (.seq (.reg r49_2 [2, 3]) .ret) .skip)) (.seq (.reg r49_3 [0, 4]) (.seq (.seq (.reg r49_4 [4, 11, 12, 13]) (.block 0 (.loop l49_9))) (.seq (.reg r49_10 [2, 3]) .ret)))))
def k49 : Nat → List Nat
  | 0 => [0]
  | 1 => [0, 9]
  | 2 => [2, 3]
  | 3 => [0, 4]
  | 4 => [4, 11, 12, 13]
  | 5 => [4, 11, 12, 13, 14]
  | 6 => [4, 6, 11, 12, 13]
  | 7 => [4, 11, 12, 13]
  | 8 => [4, 11, 12, 13]
  | 9 => [2, 3]
  | _ => []
theorem fn49 : FnC Try.prog 49 c49 [(.tmp 2), (.tmp 3)] 29 :=
  ⟨Try.f49, _, k49, Try.func49, rfl, by kernel_rfl, by kernel_rfl, by kernel_rfl, rfl⟩
def r50_0 : List CO := [⟨none, (some 4), (.mv (.k (.v (.int .i64 (0)))))⟩]
def r50_1 : List CO := [⟨none, (some 5), (.mv (.k (.v (.int .i64 (0)))))⟩]
def r50_2 : List CO := [⟨none, (some 6), (.mv (.t 5))⟩, ⟨none, (some 7), (.mv (.t 0))⟩, ⟨none, (some 8), (.len false (.t 7))⟩, ⟨none, (some 9), (.bin .lss .none (.t 6) (.t 8))⟩]
def r50_3 : List CO := [⟨none, (some 12), (.mv (.t 0))⟩, ⟨none, (some 13), (.mv (.t 5))⟩, ⟨none, (some 14), (.mv (.t 1))⟩, ⟨none, (some 15), (.iaddr 5 (.t 12) (.t 13))⟩, ⟨none, (some 16), (.faddr 0 (.t 15))⟩, ⟨none, none, (.st 1 (.t 16) (.t 14))⟩]
def r50_4 : List CO := [⟨none, (some 17), (.mv (.t 1))⟩, ⟨none, (some 18), (.bin .add .none (.t 17) (.k (.v (.int .i64 (1)))))⟩, ⟨none, (some 1), (.mv (.t 18))⟩]
def r50_5 : List CO := [⟨none, (some 19), (.mv (.t 0))⟩, ⟨none, (some 20), (.mv (.t 5))⟩, ⟨none, (some 21), (.mv (.t 1))⟩, ⟨none, (some 22), (.iaddr 5 (.t 19) (.t 20))⟩, ⟨none, (some 23), (.faddr 1 (.t 22))⟩, ⟨none, none, (.st 1 (.t 23) (.t 21))⟩]
def r50_6 : List CO := [⟨none, (some 24), (.mv (.t 1))⟩, ⟨none, (some 25), (.bin .add .none (.t 24) (.k (.v (.int .i64 (1)))))⟩, ⟨none, (some 1), (.mv (.t 25))⟩]
def r50_7 : List CO := [⟨none, (some 26), (.mv (.t 0))⟩, ⟨none, (some 27), (.mv (.t 5))⟩, ⟨none, (some 28), (.mv (.t 1))⟩, ⟨none, (some 29), (.iaddr 5 (.t 26) (.t 27))⟩, ⟨none, (some 30), (.faddr 2 (.t 29))⟩, ⟨none, none, (.st 1 (.t 30) (.t 28))⟩]
def r50_8 : List CO := [⟨none, (some 31), (.mv (.t 1))⟩, ⟨none, (some 32), (.bin .add .none (.t 31) (.k (.v (.int .i64 (1)))))⟩, ⟨none, (some 1), (.mv (.t 32))⟩]
def r50_9 : List CO := [⟨none, (some 33), (.mv (.t 0))⟩, ⟨none, (some 34), (.mv (.t 5))⟩, ⟨none, (some 35), (.mv (.t 1))⟩, ⟨none, (some 36), (.iaddr 5 (.t 33) (.t 34))⟩, ⟨none, (some 37), (.faddr 3 (.t 36))⟩, ⟨none, none, (.st 1 (.t 37) (.t 35))⟩]
def r50_10 : List CO := [⟨none, (some 38), (.mv (.t 1))⟩, ⟨none, (some 39), (.bin .add .none (.t 38) (.k (.v (.int .i64 (1)))))⟩, ⟨none, (some 1), (.mv (.t 39))⟩]
def r50_11 : List CO := [⟨none, (some 40), (.mv (.t 0))⟩, ⟨none, (some 41), (.mv (.t 5))⟩, ⟨none, (some 42), (.mv (.t 1))⟩, ⟨none, (some 43), (.iaddr 5 (.t 40) (.t 41))⟩, ⟨none, (some 44), (.faddr 4 (.t 43))⟩, ⟨none, none, (.st 1 (.t 44) (.t 42))⟩]
def r50_12 : List CO := [⟨none, (some 45), (.mv (.t 1))⟩, ⟨none, (some 46), (.bin .add .none (.t 45) (.k (.v (.int .i64 (1)))))⟩, ⟨none, (some 1), (.mv (.t 46))⟩]
def r50_13 : List CO := [⟨none, (some 10), (.mv (.t 5))⟩, ⟨none, (some 11), (.bin .add .none (.t 10) (.k (.v (.int .i64 (1)))))⟩, ⟨none, (some 5), (.mv (.t 11))⟩]
def l50_14 : C := (.seq (.seq (.reg r50_2 [0, 1, 5, 9]) (.cond (.t 9) .skip (.exit 0))) (.seq (.block 1 (.seq (.reg r50_3 [0, 1, 5]) (.seq (.reg r50_4 [0, 1, 5]) (.seq (.reg r50_5 [0, 1, 5]) (.seq (.reg r50_6 [0, 1, 5]) (.seq (.reg r50_7 [0, 1, 5]) (.seq (.reg r50_8 [0, 1, 5]) (.seq (.reg r50_9 [0, 1, 5]) (.seq (.reg r50_10 [0, 1, 5]) (.seq (.reg r50_11 [0, 1, 5]) (.reg r50_12 [0, 1, 5]))))))))))) (.reg r50_13 [0, 1, 5])))
def r50_15 : List CO := [⟨none, (some 47), (.mv (.t 1))⟩, ⟨none, (some 4), (.mv (.t 47))⟩]
/-- loop.example/g00884/laws.markPetitionS -/
def c50 : C := (.seq (.reg r50_0 [0, 1]) (.seq (.seq (.reg r50_1 [0, 1, 5]) (.block 0 (.loop l50_14))) (.seq (.reg r50_15 [4]) .ret)))
def k50 : Nat → List Nat
  | 0 => [0, 1]
  | 1 => [0, 1, 5]
  | 2 => [0, 1, 5, 9]
  | 4 => [0, 1, 5]
  | 5 => [0, 1, 5]
  | 6 => [0, 1, 5]
  | 7 => [0, 1, 5]
  | 8 => [0, 1, 5]
  | 9 => [0, 1, 5]
  | 10 => [0, 1, 5]
  | 11 => [0, 1, 5]
  | 12 => [0, 1, 5]
  | 13 => [0, 1, 5]
  | 3 => [0, 1, 5]
  | 14 => [4]
  | _ => []
theorem fn50 : FnC Try.prog 50 c50 [(.tmp 4)] 48 :=
  ⟨Try.f50, _, k50, Try.func50, rfl, by kernel_rfl, by kernel_rfl, by kernel_rfl, rfl⟩
def r51_0 : List CO := [⟨none, (some 6), (.mv (.k (.v (.slice none 0 0))))⟩, ⟨none, (some 7), (.mv (.k (.v (.bool false))))⟩]
def r51_1 : List CO := [⟨none, (some 10), (.bslice 1 (.v (.int .i64 (0))) 0 [])⟩, ⟨none, (some 8), (.mv (.t 10))⟩]
def r51_2 : List CO := [⟨none, (some 11), (.mv (.t 0))⟩, ⟨none, (some 12), (.call 67 [(.t 11)])⟩, ⟨none, (some 13), (.un .not (.t 12))⟩, ⟨none, (some 14), (.mv (.t 13))⟩, ⟨(some (14, false)), (some 15), (.mv (.t 1))⟩, ⟨(some (14, false)), (some 16), (.call 83 [(.t 15)])⟩, ⟨(some (14, false)), (some 17), (.un .not (.t 16))⟩, ⟨none, (some 18), (.pick (.t 14) (.k (.v (.bool true))) (.t 17))⟩, ⟨none, (some 19), (.mv (.t 18))⟩, ⟨(some (19, false)), (some 20), (.mv (.t 2))⟩, ⟨(some (19, false)), (some 21), (.call 83 [(.t 20)])⟩, ⟨(some (19, false)), (some 22), (.un .not (.t 21))⟩, ⟨none, (some 23), (.pick (.t 19) (.k (.v (.bool true))) (.t 22))⟩]
def r51_3 : List CO := [⟨none, (some 24), (.mv (.t 8))⟩, ⟨none, (some 6), (.mv (.t 24))⟩, ⟨none, (some 7), (.mv (.k (.v (.bool false))))⟩]
def r51_4 : List CO := [⟨none, (some 9), (.mv (.k (.v (.int .i64 (0)))))⟩]
def r51_5 : List CO := [⟨none, (some 25), (.mv (.t 9))⟩, ⟨none, (some 26), (.mv (.t 0))⟩, ⟨none, (some 27), (.len false (.t 26))⟩, ⟨none, (some 28), (.bin .lss .none (.t 25) (.t 27))⟩]
def r51_6 : List CO := [⟨none, (some 31), (.mv (.t 0))⟩, ⟨none, (some 32), (.mv (.t 9))⟩, ⟨none, (some 33), (.iaddr 5 (.t 31) (.t 32))⟩, ⟨none, (some 34), (.faddr 3 (.t 33))⟩, ⟨none, (some 35), (.ld false 1 (.t 34))⟩, ⟨none, (some 36), (.bin .eql .none (.t 35) (.k (.v (.int .i64 (1)))))⟩, ⟨none, (some 37), (.mv (.t 36))⟩, ⟨(some (37, true)), (some 38), (.mv (.t 1))⟩, ⟨(some (37, true)), (some 39), (.mv (.t 0))⟩, ⟨(some (37, true)), (some 40), (.mv (.t 9))⟩, ⟨(some (37, true)), (some 41), (.iaddr 5 (.t 39) (.t 40))⟩, ⟨(some (37, true)), (some 42), (.faddr 2 (.t 41))⟩, ⟨(some (37, true)), (some 43), (.ld false 1 (.t 42))⟩, ⟨(some (37, true)), (some 44), (.bin .sub .none (.t 38) (.t 43))⟩, ⟨(some (37, true)), (some 45), (.mv (.t 2))⟩, ⟨(some (37, true)), (some 46), (.bin .gtr .none (.t 44) (.t 45))⟩, ⟨none, (some 47), (.pick (.t 37) (.t 46) (.k (.v (.bool false))))⟩]
def r51_7 : List CO := [⟨none, (some 48), (.mv (.t 8))⟩, ⟨none, (some 49), (.mv (.t 0))⟩, ⟨none, (some 50), (.mv (.t 9))⟩, ⟨none, (some 51), (.iaddr 5 (.t 49) (.t 50))⟩, ⟨none, (some 52), (.faddr 0 (.t 51))⟩, ⟨none, (some 53), (.ld false 1 (.t 52))⟩, ⟨none, (some 54), (.bslice 1 (.v (.int .i64 (0))) 1 [(0, (.t 53))])⟩, ⟨none, (some 55), (.app 1 8 (.t 48) (.t 54))⟩, ⟨none, (some 8), (.mv (.t 55))⟩]
def r51_8 : List CO := [⟨none, (some 29), (.mv (.t 9))⟩, ⟨none, (some 30), (.bin .add .none (.t 29) (.k (.v (.int .i64 (1)))))⟩, ⟨none, (some 9), (.mv (.t 30))⟩]
def l51_9 : C := (.seq (.seq (.reg r51_5 [0, 1, 2, 8, 9, 28]) (.cond (.t 28) .skip (.exit 0))) (.seq (.block 1 (.seq (.reg r51_6 [0, 1, 2, 8, 9, 47]) (.cond (.t 47) (.reg r51_7 [0, 1, 2, 8, 9]) .skip))) (.reg r51_8 [0, 1, 2, 8, 9])))
def r51_10 : List CO := [⟨none, (some 56), (.mv (.t 8))⟩, ⟨none, (some 6), (.mv (.t 56))⟩, ⟨none, (some 7), (.mv (.k (.v (.bool true))))⟩]
/-- loop.example/g00884/spec.OverduePetitions -/
def c51 : C := (.seq (.reg r51_0 [0, 1, 2]) (.seq (.reg r51_1 [0, 1, 2, 8]) (.seq (.seq (.reg r51_2 [0, 1, 2, 8, 23]) (.cond (.t 23) (.seq (.reg r51_3 [6, 7]) .ret) .skip)) (.seq (.seq (.reg r51_4 [0, 1, 2, 8, 9]) (.block 0 (.loop l51_9))) (.seq (.reg r51_10 [6, 7]) .ret)))))
def k51 : Nat → List Nat
  | 0 => [0, 1, 2]
  | 1 => [0, 1, 2, 8]
  | 2 => [0, 1, 2, 8, 23]
  | 3 => [6, 7]
  | 4 => [0, 1, 2, 8, 9]
  | 5 => [0, 1, 2, 8, 9, 28]
  | 7 => [0, 1, 2, 8, 9, 47]
  | 8 => [0, 1, 2, 8, 9]
  | 6 => [0, 1, 2, 8, 9]
  | 9 => [6, 7]
  | _ => []
theorem fn51 : FnC Try.prog 51 c51 [(.tmp 6), (.tmp 7)] 57 :=
  ⟨Try.f51, _, k51, Try.func51, rfl, by kernel_rfl, by kernel_rfl, by kernel_rfl, rfl⟩
def r52_0 : List CO := [⟨none, (some 6), (.mv (.k (.v (.slice none 0 0))))⟩, ⟨none, (some 7), (.mv (.k (.v (.bool false))))⟩]
def r52_1 : List CO := [⟨none, (some 11), (.mv (.t 0))⟩, ⟨none, (some 12), (.call 29 [(.t 11)])⟩, ⟨none, (some 13), (.un .not (.t 12))⟩, ⟨none, (some 14), (.mv (.t 13))⟩, ⟨(some (14, false)), (some 15), (.mv (.t 1))⟩, ⟨(some (14, false)), (some 16), (.call 70 [(.t 15)])⟩, ⟨(some (14, false)), (some 17), (.un .not (.t 16))⟩, ⟨none, (some 18), (.pick (.t 14) (.k (.v (.bool true))) (.t 17))⟩, ⟨none, (some 19), (.mv (.t 18))⟩, ⟨(some (19, false)), (some 20), (.mv (.t 2))⟩, ⟨(some (19, false)), (some 21), (.call 70 [(.t 20)])⟩, ⟨(some (19, false)), (some 22), (.un .not (.t 21))⟩, ⟨none, (some 23), (.pick (.t 19) (.k (.v (.bool true))) (.t 22))⟩]
def r52_2 : List CO := [⟨none, (some 6), (.mv (.k (.v (.slice none 0 0))))⟩, ⟨none, (some 7), (.mv (.k (.v (.bool false))))⟩]
def r52_3 : List CO := [⟨none, (some 24), (.bslice 1 (.v (.int .i64 (0))) 0 [])⟩, ⟨none, (some 8), (.mv (.t 24))⟩]
def r52_4 : List CO := [⟨none, (some 25), (.mv (.t 0))⟩, ⟨none, (some 26), (.len false (.t 25))⟩, ⟨none, (some 27), (.mv (.k (.v (.int .i64 (0)))))⟩]
def r52_5 : List CO := [⟨none, (some 28), (.bin .lss .none (.t 27) (.t 26))⟩]
def r52_6 : List CO := [⟨none, (some 29), (.iaddr 5 (.t 25) (.t 27))⟩, ⟨none, (some 30), (.ld true 5 (.t 29))⟩, ⟨none, (some 10), (.box 5 (.k (.agg [(.v (.int .i64 (0))), (.v (.int .i64 (0))), (.v (.int .i64 (0))), (.v (.int .i64 (0))), (.v (.int .i64 (0)))])))⟩, ⟨none, none, (.st 5 (.t 10) (.t 30))⟩]
def r52_7 : List CO := [⟨none, (some 31), (.faddr 3 (.t 10))⟩, ⟨none, (some 32), (.ld false 1 (.t 31))⟩, ⟨none, (some 33), (.bin .eql .none (.t 32) (.k (.v (.int .i64 (1)))))⟩, ⟨none, (some 34), (.mv (.t 33))⟩, ⟨(some (34, true)), (some 35), (.mv (.t 1))⟩, ⟨(some (34, true)), (some 36), (.faddr 2 (.t 10))⟩, ⟨(some (34, true)), (some 37), (.ld false 1 (.t 36))⟩, ⟨(some (34, true)), (some 38), (.bin .sub .none (.t 35) (.t 37))⟩, ⟨(some (34, true)), (some 39), (.mv (.t 2))⟩, ⟨(some (34, true)), (some 40), (.bin .gtr .none (.t 38) (.t 39))⟩, ⟨none, (some 41), (.pick (.t 34) (.t 40) (.k (.v (.bool false))))⟩]
def r52_8 : List CO := [⟨none, (some 42), (.mv (.t 8))⟩, ⟨none, (some 43), (.faddr 0 (.t 10))⟩, ⟨none, (some 44), (.ld false 1 (.t 43))⟩, ⟨none, (some 45), (.bslice 1 (.v (.int .i64 (0))) 1 [(0, (.t 44))])⟩, ⟨none, (some 46), (.app 1 8 (.t 42) (.t 45))⟩, ⟨none, (some 8), (.mv (.t 46))⟩]
def r52_9 : List CO := [⟨none, (some 47), (.bin .add .none (.t 27) (.k (.v (.int .i64 (1)))))⟩, ⟨none, (some 27), (.mv (.t 47))⟩]
def l52_10 : C := (.seq (.reg r52_5 [1, 2, 8, 25, 26, 27, 28]) (.seq (.cond (.t 28) .skip (.exit 0)) (.seq (.block 1 (.seq (.reg r52_6 [1, 2, 8, 10, 25, 26, 27]) (.seq (.reg r52_7 [1, 2, 8, 10, 25, 26, 27, 41]) (.cond (.t 41) (.reg r52_8 [1, 2, 8, 25, 26, 27]) .skip)))) (.reg r52_9 [1, 2, 8, 25, 26, 27]))))
def r52_11 : List CO := [⟨none, (some 48), (.mv (.t 8))⟩, ⟨none, (some 6), (.mv (.t 48))⟩, ⟨none, (some 7), (.mv (.k (.v (.bool true))))⟩]
/-- loop.example/g00884/impl.OverduePetitions -/
def c52 : C := (.seq (.reg r52_0 [0, 1, 2]) (.seq (.seq (.reg r52_1 [0, 1, 2, 23]) (.cond (.t 23) (.seq (.reg r52_2 [6, 7]) .ret) .skip)) (.seq (.reg r52_3 [0, 1, 2, 8]) (.seq (.seq (.reg r52_4 [1, 2, 8, 25, 26, 27]) (.block 0 (.loop l52_10))) (.seq (.reg r52_11 [6, 7]) .ret)))))
def k52 : Nat → List Nat
  | 0 => [0, 1, 2]
  | 1 => [0, 1, 2, 23]
  | 2 => [6, 7]
  | 3 => [0, 1, 2, 8]
  | 4 => [1, 2, 8, 25, 26, 27]
  | 5 => [1, 2, 8, 25, 26, 27, 28]
  | 6 => [1, 2, 8, 10, 25, 26, 27]
  | 7 => [1, 2, 8, 10, 25, 26, 27, 41]
  | 8 => [1, 2, 8, 25, 26, 27]
  | 9 => [1, 2, 8, 25, 26, 27]
  | 10 => [6, 7]
  | _ => []
theorem fn52 : FnC Try.prog 52 c52 [(.tmp 6), (.tmp 7)] 49 :=
  ⟨Try.f52, _, k52, Try.func52, rfl, by kernel_rfl, by kernel_rfl, by kernel_rfl, rfl⟩
def r53_0 : List CO := [⟨none, (some 2), (.box 2 (.t 0))⟩, ⟨none, (some 4), (.mv (.k (.v (.int .i64 (0)))))⟩]
def r53_1 : List CO := [⟨none, (some 5), (.mv (.t 1))⟩, ⟨none, (some 6), (.faddr 0 (.t 2))⟩, ⟨none, (some 7), (.ld false 1 (.t 6))⟩, ⟨none, (some 8), (.len true (.t 7))⟩, ⟨none, (some 9), (.bin .sub .none (.t 5) (.t 8))⟩, ⟨none, (some 1), (.mv (.t 9))⟩]
def r53_2 : List CO := [⟨none, (some 10), (.mv (.t 1))⟩, ⟨none, (some 11), (.bin .lss .none (.t 10) (.k (.v (.int .i64 (0)))))⟩]
def r53_3 : List CO := [⟨none, (some 4), (.mv (.k (.v (.int .i64 (-1)))))⟩]
def r53_4 : List CO := [⟨none, (some 12), (.mv (.t 1))⟩, ⟨none, (some 13), (.faddr 1 (.t 2))⟩, ⟨none, (some 14), (.ld false 1 (.t 13))⟩, ⟨none, (some 15), (.len true (.t 14))⟩, ⟨none, (some 16), (.bin .sub .none (.t 12) (.t 15))⟩, ⟨none, (some 1), (.mv (.t 16))⟩]
def r53_5 : List CO := [⟨none, (some 17), (.mv (.t 1))⟩, ⟨none, (some 18), (.bin .lss .none (.t 17) (.k (.v (.int .i64 (0)))))⟩]
def r53_6 : List CO := [⟨none, (some 4), (.mv (.k (.v (.int .i64 (-1)))))⟩]
def r53_7 : List CO := [⟨none, (some 19), (.mv (.t 1))⟩, ⟨none, (some 4), (.mv (.t 19))⟩]
/-- loop.example/g00884/laws.szLogRecord -/
def c53 : C := (.seq (.reg r53_0 [1, 2]) (.seq (.reg r53_1 [1, 2]) (.seq (.seq (.reg r53_2 [1, 2, 11]) (.cond (.t 11) (.seq (.reg r53_3 [4]) .ret) .skip)) (.seq (.reg r53_4 [1]) (.seq (.seq (.reg r53_5 [1, 18]) (.cond (.t 18) (.seq (.reg r53_6 [4]) .ret) .skip)) (.seq (.reg r53_7 [4]) .ret))))))
def k53 : Nat → List Nat
  | 0 => [1, 2]
  | 1 => [1, 2]
  | 2 => [1, 2, 11]
  | 3 => [4]
  | 4 => [1]
  | 5 => [1, 18]
  | 6 => [4]
  | 7 => [4]
  | _ => []
theorem fn53 : FnC Try.prog 53 c53 [(.tmp 4)] 20 :=
  ⟨Try.f53, _, k53, Try.func53, rfl, by kernel_rfl, by kernel_rfl, by kernel_rfl, rfl⟩
def r54_0 : List CO := [⟨none, (some 1), (.box 2 (.t 0))⟩, ⟨none, (some 2), (.mv (.k (.v (.bool false))))⟩]
def r54_1 : List CO := [⟨none, (some 3), (.ld true 2 (.t 1))⟩, ⟨none, (some 4), (.call 84 [(.t 3)])⟩, ⟨none, (some 2), (.mv (.t 4))⟩]
/-- loop.example/g00884/spec.IsValidRecord -/
def c54 : C := (.seq (.reg r54_0 [1]) (.seq (.reg r54_1 [2]) .ret))
def k54 : Nat → List Nat
  | 0 => [1]
  | 1 => [2]
  | _ => []
theorem fn54 : FnC Try.prog 54 c54 [(.tmp 2)] 5 :=
  ⟨Try.f54, _, k54, Try.func54, rfl, by kernel_rfl, by kernel_rfl, by kernel_rfl, rfl⟩
def r55_0 : List CO := [⟨none, (some 1), (.box 2 (.t 0))⟩, ⟨none, (some 2), (.box 2 (.k (.agg [(.v (.string (bs []))), (.v (.string (bs [])))])))⟩]
def r55_1 : List CO := [⟨none, (some 3), (.box 2 (.k (.agg [(.v (.string (bs []))), (.v (.string (bs [])))])))⟩]
def r55_2 : List CO := [⟨none, (some 4), (.faddr 0 (.t 1))⟩, ⟨none, (some 5), (.ld false 1 (.t 4))⟩, ⟨none, (some 6), (.faddr 0 (.t 3))⟩, ⟨none, none, (.st 1 (.t 6) (.t 5))⟩]
def r55_3 : List CO := [⟨none, (some 7), (.faddr 1 (.t 1))⟩, ⟨none, (some 8), (.ld false 1 (.t 7))⟩, ⟨none, (some 9), (.faddr 1 (.t 3))⟩, ⟨none, none, (.st 1 (.t 9) (.t 8))⟩]
def r55_4 : List CO := [⟨none, (some 10), (.ld true 2 (.t 3))⟩, ⟨none, none, (.st 2 (.t 2) (.t 10))⟩]
/-- loop.example/g00884/laws.toLogRecord -/
def c55 : C := (.seq (.reg r55_0 [1, 2]) (.seq (.reg r55_1 [1, 2, 3]) (.seq (.reg r55_2 [1, 2, 3]) (.seq (.reg r55_3 [2, 3]) (.seq (.reg r55_4 [2]) .ret)))))
def k55 : Nat → List Nat
  | 0 => [1, 2]
  | 1 => [1, 2, 3]
  | 2 => [1, 2, 3]
  | 3 => [2, 3]
  | 4 => [2]
  | _ => []
theorem fn55 : FnC Try.prog 55 c55 [(.cell 2 true 2)] 11 :=
  ⟨Try.f55, _, k55, Try.func55, rfl, by kernel_rfl, by kernel_rfl, by kernel_rfl, rfl⟩
def r56_0 : List CO := [⟨none, (some 1), (.box 2 (.t 0))⟩, ⟨none, (some 2), (.mv (.k (.v (.bool false))))⟩]
def r56_1 : List CO := [⟨none, (some 3), (.faddr 0 (.t 1))⟩, ⟨none, (some 4), (.ld false 1 (.t 3))⟩, ⟨none, (some 5), (.len true (.t 4))⟩, ⟨none, (some 6), (.call 60 [(.t 5), (.k (.v (.int .i64 (1)))), (.k (.v (.int .i64 (160))))])⟩, ⟨none, (some 7), (.mv (.t 6))⟩, ⟨(some (7, true)), (some 8), (.faddr 1 (.t 1))⟩, ⟨(some (7, true)), (some 9), (.ld false 1 (.t 8))⟩, ⟨(some (7, true)), (some 10), (.len true (.t 9))⟩, ⟨(some (7, true)), (some 11), (.bin .leq .none (.t 10) (.k (.v (.int .i64 (200)))))⟩, ⟨none, (some 12), (.pick (.t 7) (.t 11) (.k (.v (.bool false))))⟩, ⟨none, (some 13), (.mv (.t 12))⟩, ⟨(some (13, true)), (some 14), (.faddr 0 (.t 1))⟩, ⟨(some (13, true)), (some 15), (.ld false 1 (.t 14))⟩, ⟨(some (13, true)), (some 16), (.call 85 [(.t 15)])⟩, ⟨none, (some 17), (.pick (.t 13) (.t 16) (.k (.v (.bool false))))⟩, ⟨none, (some 18), (.mv (.t 17))⟩, ⟨(some (18, true)), (some 19), (.faddr 1 (.t 1))⟩, ⟨(some (18, true)), (some 20), (.ld false 1 (.t 19))⟩, ⟨(some (18, true)), (some 21), (.call 85 [(.t 20)])⟩, ⟨none, (some 22), (.pick (.t 18) (.t 21) (.k (.v (.bool false))))⟩, ⟨none, (some 23), (.mv (.t 22))⟩, ⟨(some (23, true)), (some 24), (.faddr 0 (.t 1))⟩, ⟨(some (23, true)), (some 25), (.ld false 1 (.t 24))⟩, ⟨(some (23, true)), (some 26), (.call 86 [(.t 25), (.k (.v (.string (bs [64]))))])⟩, ⟨(some (23, true)), (some 27), (.un .not (.t 26))⟩, ⟨none, (some 28), (.pick (.t 23) (.t 27) (.k (.v (.bool false))))⟩, ⟨none, (some 2), (.mv (.t 28))⟩]
/-- loop.example/g00884/impl.IsValidRecord -/
def c56 : C := (.seq (.reg r56_0 [1]) (.seq (.reg r56_1 [2]) .ret))
def k56 : Nat → List Nat
  | 0 => [1]
  | 1 => [2]
  | _ => []
theorem fn56 : FnC Try.prog 56 c56 [(.tmp 2)] 29 :=
  ⟨Try.f56, _, k56, Try.func56, rfl, by kernel_rfl, by kernel_rfl, by kernel_rfl, rfl⟩
def r57_0 : List CO := [⟨none, (some 2), (.mv (.k (.v (.slice none 0 0))))⟩, ⟨none, (some 3), (.mv (.k (.v (.bool false))))⟩]
def r57_1 : List CO := [⟨none, (some 8), (.mv (.t 0))⟩, ⟨none, (some 9), (.call 73 [(.t 8)])⟩, ⟨none, (some 10), (.un .not (.t 9))⟩]
def r57_2 : List CO := [⟨none, (some 11), (.bslice 1 (.v (.int .i64 (0))) 0 [])⟩, ⟨none, (some 2), (.mv (.t 11))⟩, ⟨none, (some 3), (.mv (.k (.v (.bool false))))⟩]
def r57_3 : List CO := [⟨none, (some 12), (.mks 1 (.v (.int .i64 (0))) 8 (.k (.v (.int .i64 (9)))) (.k (.v (.int .i64 (9)))))⟩, ⟨none, (some 4), (.mv (.t 12))⟩]
def r57_4 : List CO := [⟨none, (some 5), (.mv (.k (.v (.int .i64 (0)))))⟩]
def r57_5 : List CO := [⟨none, (some 13), (.mv (.t 5))⟩, ⟨none, (some 14), (.mv (.t 0))⟩, ⟨none, (some 15), (.len false (.t 14))⟩, ⟨none, (some 16), (.bin .lss .none (.t 13) (.t 15))⟩]
def r57_6 : List CO := [⟨none, (some 6), (.mv (.k (.v (.int .i64 (0)))))⟩]
def r57_7 : List CO := [⟨none, (some 19), (.mv (.t 6))⟩, ⟨none, (some 20), (.mv (.t 0))⟩, ⟨none, (some 21), (.mv (.t 5))⟩, ⟨none, (some 22), (.iaddr 1 (.t 20) (.t 21))⟩, ⟨none, (some 23), (.ld false 1 (.t 22))⟩, ⟨none, (some 24), (.len false (.t 23))⟩, ⟨none, (some 25), (.bin .lss .none (.t 19) (.t 24))⟩]
def r57_8 : List CO := [⟨none, (some 28), (.mv (.t 0))⟩, ⟨none, (some 29), (.mv (.t 5))⟩, ⟨none, (some 30), (.iaddr 1 (.t 28) (.t 29))⟩, ⟨none, (some 31), (.ld false 1 (.t 30))⟩, ⟨none, (some 32), (.mv (.t 6))⟩, ⟨none, (some 33), (.iaddr 1 (.t 31) (.t 32))⟩, ⟨none, (some 34), (.ld false 1 (.t 33))⟩, ⟨none, (some 7), (.mv (.t 34))⟩]
def r57_9 : List CO := [⟨none, (some 35), (.mv (.t 4))⟩, ⟨none, (some 36), (.mv (.t 7))⟩, ⟨none, (some 37), (.bin .sub .none (.t 36) (.k (.v (.int .i64 (1)))))⟩, ⟨none, (some 38), (.mv (.t 4))⟩, ⟨none, (some 39), (.mv (.t 7))⟩, ⟨none, (some 40), (.bin .sub .none (.t 39) (.k (.v (.int .i64 (1)))))⟩, ⟨none, (some 41), (.iaddr 1 (.t 38) (.t 40))⟩, ⟨none, (some 42), (.ld false 1 (.t 41))⟩, ⟨none, (some 43), (.bin .add .none (.t 42) (.k (.v (.int .i64 (1)))))⟩, ⟨none, (some 44), (.iaddr 1 (.t 35) (.t 37))⟩, ⟨none, none, (.st 1 (.t 44) (.t 43))⟩]
def r57_10 : List CO := [⟨none, (some 26), (.mv (.t 6))⟩, ⟨none, (some 27), (.bin .add .none (.t 26) (.k (.v (.int .i64 (1)))))⟩, ⟨none, (some 6), (.mv (.t 27))⟩]
def l57_11 : C := (.seq (.seq (.reg r57_7 [0, 4, 5, 6, 25]) (.cond (.t 25) .skip (.exit 2))) (.seq (.block 3 (.seq (.reg r57_8 [0, 4, 5, 6, 7]) (.reg r57_9 [0, 4, 5, 6]))) (.reg r57_10 [0, 4, 5, 6])))
def r57_12 : List CO := [⟨none, (some 17), (.mv (.t 5))⟩, ⟨none, (some 18), (.bin .add .none (.t 17) (.k (.v (.int .i64 (1)))))⟩, ⟨none, (some 5), (.mv (.t 18))⟩]
def l57_13 : C := (.seq (.seq (.reg r57_5 [0, 4, 5, 16]) (.cond (.t 16) .skip (.exit 0))) (.seq (.block 1 (.seq (.reg r57_6 [0, 4, 5, 6]) (.block 2 (.loop l57_11)))) (.reg r57_12 [0, 4, 5])))
def r57_14 : List CO := [⟨none, (some 45), (.mv (.t 4))⟩, ⟨none, (some 2), (.mv (.t 45))⟩, ⟨none, (some 3), (.mv (.k (.v (.bool true))))⟩]
/-- loop.example/g00884/spec.TinctureAreas -/
def c57 : C := (.seq (.reg r57_0 [0]) (.seq (.seq (.reg r57_1 [0, 10]) (.cond (.t 10) (.seq (.reg r57_2 [2, 3]) .ret) .skip)) (.seq (.reg r57_3 [0, 4]) (.seq (.seq (.reg r57_4 [0, 4, 5]) (.block 0 (.loop l57_13))) (.seq (.reg r57_14 [2, 3]) .ret)))))
def k57 : Nat → List Nat
  | 0 => [0]
  | 1 => [0, 10]
  | 2 => [2, 3]
  | 3 => [0, 4]
  | 4 => [0, 4, 5]
  | 5 => [0, 4, 5, 16]
  | 7 => [0, 4, 5, 6]
  | 8 => [0, 4, 5, 6, 25]
  | 10 => [0, 4, 5, 6, 7]
  | 11 => [0, 4, 5, 6]
  | 9 => [0, 4, 5, 6]
  | 6 => [0, 4, 5]
  | 12 => [2, 3]
  | _ => []
theorem fn57 : FnC Try.prog 57 c57 [(.tmp 2), (.tmp 3)] 46 :=
  ⟨Try.f57, _, k57, Try.func57, rfl, by kernel_rfl, by kernel_rfl, by kernel_rfl, rfl⟩
def r58_0 : List CO := [⟨none, (some 2), (.mv (.k (.v (.slice none 0 0))))⟩, ⟨none, (some 3), (.mv (.k (.v (.bool false))))⟩]
def r58_1 : List CO := [⟨none, (some 4), (.mv (.t 0))⟩, ⟨none, (some 5), (.call 34 [(.t 4)])⟩, ⟨none, (some 6), (.un .not (.t 5))⟩]
def r58_2 : List CO := [⟨none, (some 2), (.mv (.k (.v (.slice none 0 0))))⟩, ⟨none, (some 3), (.mv (.k (.v (.bool false))))⟩]
def r58_3 : List CO := [⟨none, (some 7), (.mv (.t 0))⟩, ⟨none, (some 8), (.call 87 [(.t 7), (.k (.v (.int .i64 (9))))])⟩, ⟨none, (some 2), (.mv (.t 8))⟩, ⟨none, (some 3), (.mv (.k (.v (.bool true))))⟩]
/-- loop.example/g00884/impl.TinctureAreas -/
def c58 : C := (.seq (.reg r58_0 [0]) (.seq (.seq (.reg r58_1 [0, 6]) (.cond (.t 6) (.seq (.reg r58_2 [2, 3]) .ret) .skip)) (.seq (.reg r58_3 [2, 3]) .ret)))
def k58 : Nat → List Nat
  | 0 => [0]
  | 1 => [0, 6]
  | 2 => [2, 3]
  | 3 => [2, 3]
  | _ => []
theorem fn58 : FnC Try.prog 58 c58 [(.tmp 2), (.tmp 3)] 9 :=
  ⟨Try.f58, _, k58, Try.func58, rfl, by kernel_rfl, by kernel_rfl, by kernel_rfl, rfl⟩
def r59_0 : List CO := [⟨none, (some 1), (.box 3 (.t 0))⟩, ⟨none, (some 2), (.mv (.k (.v (.bool false))))⟩]
def r59_1 : List CO := [⟨none, (some 3), (.faddr 0 (.t 1))⟩, ⟨none, (some 4), (.ld false 1 (.t 3))⟩, ⟨none, (some 5), (.call 88 [(.t 4)])⟩, ⟨none, (some 6), (.mv (.t 5))⟩, ⟨(some (6, true)), (some 7), (.faddr 1 (.t 1))⟩, ⟨(some (6, true)), (some 8), (.ld false 1 (.t 7))⟩, ⟨(some (6, true)), (some 9), (.call 61 [(.t 8), (.k (.v (.int .i64 (20)))), (.k (.v (.int .i64 (60))))])⟩, ⟨none, (some 10), (.pick (.t 6) (.t 9) (.k (.v (.bool false))))⟩, ⟨none, (some 11), (.mv (.t 10))⟩, ⟨(some (11, true)), (some 12), (.faddr 2 (.t 1))⟩, ⟨(some (11, true)), (some 13), (.ld false 1 (.t 12))⟩, ⟨(some (11, true)), (some 14), (.call 61 [(.t 13), (.k (.v (.int .i64 (4)))), (.k (.v (.int .i64 (20))))])⟩, ⟨none, (some 15), (.pick (.t 11) (.t 14) (.k (.v (.bool false))))⟩, ⟨none, (some 2), (.mv (.t 15))⟩]
/-- loop.example/g00884/spec.l25Good -/
def c59 : C := (.seq (.reg r59_0 [1]) (.seq (.reg r59_1 [2]) .ret))
def k59 : Nat → List Nat
  | 0 => [1]
  | 1 => [2]
  | _ => []
theorem fn59 : FnC Try.prog 59 c59 [(.tmp 2)] 16 :=
  ⟨Try.f59, _, k59, Try.func59, rfl, by kernel_rfl, by kernel_rfl, by kernel_rfl, rfl⟩
def r60_0 : List CO := [⟨none, (some 6), (.mv (.k (.v (.bool false))))⟩]
def r60_1 : List CO := [⟨none, (some 7), (.mv (.t 0))⟩, ⟨none, (some 8), (.mv (.t 1))⟩, ⟨none, (some 9), (.bin .geq .none (.t 7) (.t 8))⟩, ⟨none, (some 10), (.mv (.t 9))⟩, ⟨(some (10, true)), (some 11), (.mv (.t 0))⟩, ⟨(some (10, true)), (some 12), (.mv (.t 2))⟩, ⟨(some (10, true)), (some 13), (.bin .leq .none (.t 11) (.t 12))⟩, ⟨none, (some 14), (.pick (.t 10) (.t 13) (.k (.v (.bool false))))⟩, ⟨none, (some 6), (.mv (.t 14))⟩]
/-- loop.example/g00884/impl.inside -/
def c60 : C := (.seq (.reg r60_0 [0, 1, 2]) (.seq (.reg r60_1 [6]) .ret))
def k60 : Nat → List Nat
  | 0 => [0, 1, 2]
  | 1 => [6]
  | _ => []
theorem fn60 : FnC Try.prog 60 c60 [(.tmp 6)] 15 :=
  ⟨Try.f60, _, k60, Try.func60, rfl, by kernel_rfl, by kernel_rfl, by kernel_rfl, rfl⟩
def r61_0 : List CO := [⟨none, (some 6), (.mv (.k (.v (.bool false))))⟩]
def r61_1 : List CO := [⟨none, (some 7), (.mv (.t 0))⟩, ⟨none, (some 8), (.mv (.t 1))⟩, ⟨none, (some 9), (.bin .geq .none (.t 7) (.t 8))⟩, ⟨none, (some 10), (.mv (.t 9))⟩, ⟨(some (10, true)), (some 11), (.mv (.t 0))⟩, ⟨(some (10, true)), (some 12), (.mv (.t 2))⟩, ⟨(some (10, true)), (some 13), (.bin .leq .none (.t 11) (.t 12))⟩, ⟨none, (some 14), (.pick (.t 10) (.t 13) (.k (.v (.bool false))))⟩, ⟨none, (some 6), (.mv (.t 14))⟩]
/-- loop.example/g00884/spec.l1In -/
def c61 : C := (.seq (.reg r61_0 [0, 1, 2]) (.seq (.reg r61_1 [6]) .ret))
def k61 : Nat → List Nat
  | 0 => [0, 1, 2]
  | 1 => [6]
  | _ => []
theorem fn61 : FnC Try.prog 61 c61 [(.tmp 6)] 15 :=
  ⟨Try.f61, _, k61, Try.func61, rfl, by kernel_rfl, by kernel_rfl, by kernel_rfl, rfl⟩
def r62_0 : List CO := [⟨none, (some 4), (.mv (.k (.v (.int .i64 (0)))))⟩]
def r62_1 : List CO := [⟨none, (some 6), (.mv (.t 1))⟩, ⟨none, (some 7), (.bin .neq .none (.t 6) (.k (.v (.int .i64 (0)))))⟩]
def r62_2 : List CO := [⟨none, (some 8), (.mv (.t 0))⟩, ⟨none, (some 9), (.mv (.t 1))⟩, ⟨none, (some 10), (.bin .rem .none (.t 8) (.t 9))⟩, ⟨none, (some 5), (.mv (.t 10))⟩]
def r62_3 : List CO := [⟨none, (some 11), (.mv (.t 1))⟩, ⟨none, (some 0), (.mv (.t 11))⟩]
def r62_4 : List CO := [⟨none, (some 12), (.mv (.t 5))⟩, ⟨none, (some 1), (.mv (.t 12))⟩]
def l62_5 : C := (.seq (.seq (.reg r62_1 [0, 1, 7]) (.cond (.t 7) .skip (.exit 0))) (.block 1 (.seq (.reg r62_2 [1, 5]) (.seq (.reg r62_3 [0, 5]) (.reg r62_4 [0, 1])))))
def r62_6 : List CO := [⟨none, (some 13), (.mv (.t 0))⟩, ⟨none, (some 4), (.mv (.t 13))⟩]
/-- loop.example/g00884/spec.l24Common -/
def c62 : C := (.seq (.reg r62_0 [0, 1]) (.seq (.block 0 (.loop l62_5)) (.seq (.reg r62_6 [4]) .ret)))
def k62 : Nat → List Nat
  | 0 => [0, 1]
  | 1 => [0, 1, 7]
  | 2 => [1, 5]
  | 3 => [0, 5]
  | 4 => [0, 1]
  | 5 => [4]
  | _ => []
theorem fn62 : FnC Try.prog 62 c62 [(.tmp 4)] 14 :=
  ⟨Try.f62, _, k62, Try.func62, rfl, by kernel_rfl, by kernel_rfl, by kernel_rfl, rfl⟩
def r63_0 : List CO := [⟨none, (some 1), (.box 2 (.t 0))⟩, ⟨none, (some 2), (.mv (.k (.v (.bool false))))⟩]
def r63_1 : List CO := [⟨none, (some 3), (.faddr 0 (.t 1))⟩, ⟨none, (some 4), (.ld false 1 (.t 3))⟩, ⟨none, (some 5), (.call 61 [(.t 4), (.k (.v (.int .i64 (1)))), (.k (.v (.int .i64 (10))))])⟩, ⟨none, (some 6), (.mv (.t 5))⟩, ⟨(some (6, true)), (some 7), (.faddr 1 (.t 1))⟩, ⟨(some (6, true)), (some 8), (.ld false 1 (.t 7))⟩, ⟨(some (6, true)), (some 9), (.call 61 [(.t 8), (.k (.v (.int .i64 (1)))), (.k (.v (.int .i64 (10))))])⟩, ⟨none, (some 10), (.pick (.t 6) (.t 9) (.k (.v (.bool false))))⟩, ⟨none, (some 11), (.mv (.t 10))⟩, ⟨(some (11, true)), (some 12), (.faddr 0 (.t 1))⟩, ⟨(some (11, true)), (some 13), (.ld false 1 (.t 12))⟩, ⟨(some (11, true)), (some 14), (.faddr 1 (.t 1))⟩, ⟨(some (11, true)), (some 15), (.ld false 1 (.t 14))⟩, ⟨(some (11, true)), (some 16), (.call 62 [(.t 13), (.t 15)])⟩, ⟨(some (11, true)), (some 17), (.bin .eql .none (.t 16) (.k (.v (.int .i64 (1)))))⟩, ⟨none, (some 18), (.pick (.t 11) (.t 17) (.k (.v (.bool false))))⟩, ⟨none, (some 2), (.mv (.t 18))⟩]
/-- loop.example/g00884/spec.l24Proportion -/
def c63 : C := (.seq (.reg r63_0 [1]) (.seq (.reg r63_1 [2]) .ret))
def k63 : Nat → List Nat
  | 0 => [1]
  | 1 => [2]
  | _ => []
theorem fn63 : FnC Try.prog 63 c63 [(.tmp 2)] 19 :=
  ⟨Try.f63, _, k63, Try.func63, rfl, by kernel_rfl, by kernel_rfl, by kernel_rfl, rfl⟩
def r64_0 : List CO := [⟨none, (some 4), (.mv (.k (.v (.int .i64 (0)))))⟩]
def r64_1 : List CO := [⟨none, (some 5), (.mv (.t 0))⟩, ⟨none, (some 6), (.call 89 [(.t 5)])⟩, ⟨none, (some 7), (.mv (.t 1))⟩, ⟨none, (some 8), (.call 89 [(.t 7)])⟩, ⟨none, (some 0), (.mv (.t 6))⟩, ⟨none, (some 1), (.mv (.t 8))⟩]
def r64_2 : List CO := [⟨none, (some 9), (.mv (.t 1))⟩, ⟨none, (some 10), (.bin .neq .none (.t 9) (.k (.v (.int .i64 (0)))))⟩]
def r64_3 : List CO := [⟨none, (some 11), (.mv (.t 1))⟩, ⟨none, (some 12), (.mv (.t 0))⟩, ⟨none, (some 13), (.mv (.t 1))⟩, ⟨none, (some 14), (.bin .rem .none (.t 12) (.t 13))⟩, ⟨none, (some 0), (.mv (.t 11))⟩, ⟨none, (some 1), (.mv (.t 14))⟩]
def p64_3 : List (List Nat) := [[], [], [], [1, 2], [0, 1], [0, 1, 2, 3, 4]]
def l64_4 : C := (.seq (.seq (.reg r64_2 [0, 1, 10]) (.cond (.t 10) .skip (.exit 0))) (.block 1 (.regD r64_3 p64_3 [0, 1])))
def r64_5 : List CO := [⟨none, (some 15), (.mv (.t 0))⟩, ⟨none, (some 4), (.mv (.t 15))⟩]
/-- loop.example/g00884/impl.gcdOf -/
def c64 : C := (.seq (.reg r64_0 [0, 1]) (.seq (.reg r64_1 [0, 1]) (.seq (.block 0 (.loop l64_4)) (.seq (.reg r64_5 [4]) .ret))))
def k64 : Nat → List Nat
  | 0 => [0, 1]
  | 1 => [0, 1]
  | 2 => [0, 1, 10]
  | 3 => [0, 1]
  | 4 => [4]
  | _ => []
theorem fn64 : FnC Try.prog 64 c64 [(.tmp 4)] 16 :=
  ⟨Try.f64, _, k64, Try.func64, rfl, by kernel_rfl, by kernel_rfl, by kernel_rfl, rfl⟩
def r65_0 : List CO := [⟨none, (some 1), (.box 2 (.t 0))⟩, ⟨none, (some 2), (.mv (.k (.v (.bool false))))⟩]
def r65_1 : List CO := [⟨none, (some 3), (.faddr 0 (.t 1))⟩, ⟨none, (some 4), (.ld false 1 (.t 3))⟩, ⟨none, (some 5), (.call 60 [(.t 4), (.k (.v (.int .i64 (1)))), (.k (.v (.int .i64 (10))))])⟩, ⟨none, (some 6), (.mv (.t 5))⟩, ⟨(some (6, true)), (some 7), (.faddr 1 (.t 1))⟩, ⟨(some (6, true)), (some 8), (.ld false 1 (.t 7))⟩, ⟨(some (6, true)), (some 9), (.call 60 [(.t 8), (.k (.v (.int .i64 (1)))), (.k (.v (.int .i64 (10))))])⟩, ⟨none, (some 10), (.pick (.t 6) (.t 9) (.k (.v (.bool false))))⟩, ⟨none, (some 11), (.mv (.t 10))⟩, ⟨(some (11, true)), (some 12), (.faddr 0 (.t 1))⟩, ⟨(some (11, true)), (some 13), (.ld false 1 (.t 12))⟩, ⟨(some (11, true)), (some 14), (.faddr 1 (.t 1))⟩, ⟨(some (11, true)), (some 15), (.ld false 1 (.t 14))⟩, ⟨(some (11, true)), (some 16), (.call 64 [(.t 13), (.t 15)])⟩, ⟨(some (11, true)), (some 17), (.bin .eql .none (.t 16) (.k (.v (.int .i64 (1)))))⟩, ⟨none, (some 18), (.pick (.t 11) (.t 17) (.k (.v (.bool false))))⟩, ⟨none, (some 2), (.mv (.t 18))⟩]
/-- loop.example/g00884/impl.isProportion -/
def c65 : C := (.seq (.reg r65_0 [1]) (.seq (.reg r65_1 [2]) .ret))
def k65 : Nat → List Nat
  | 0 => [1]
  | 1 => [2]
  | _ => []
theorem fn65 : FnC Try.prog 65 c65 [(.tmp 2)] 19 :=
  ⟨Try.f65, _, k65, Try.func65, rfl, by kernel_rfl, by kernel_rfl, by kernel_rfl, rfl⟩
def r66_0 : List CO := [⟨none, (some 2), (.mv (.k (.v (.int .i64 (0)))))⟩]
def r66_1 : List CO := [⟨none, (some 3), (.mv (.t 0))⟩]
def r66_2 : List CO := [⟨none, (some 2), (.mv (.k (.v (.int .i64 (1)))))⟩]
def r66_3 : List CO := [⟨none, (some 2), (.mv (.k (.v (.int .i64 (0)))))⟩]
/-- loop.example/g00884/impl.number -/
def c66 : C := (.seq (.reg r66_0 [0]) (.seq (.seq (.reg r66_1 [3]) (.cond (.t 3) (.seq (.reg r66_2 [2]) .ret) .skip)) (.seq (.reg r66_3 [2]) .ret)))
def k66 : Nat → List Nat
  | 0 => [0]
  | 1 => [3]
  | 2 => [2]
  | 3 => [2]
  | _ => []
theorem fn66 : FnC Try.prog 66 c66 [(.tmp 2)] 4 :=
  ⟨Try.f66, _, k66, Try.func66, rfl, by kernel_rfl, by kernel_rfl, by kernel_rfl, rfl⟩
def r67_0 : List CO := [⟨none, (some 2), (.mv (.k (.v (.bool false))))⟩]
def r67_1 : List CO := [⟨none, (some 3), (.mv (.k (.v (.int .i64 (0)))))⟩]
def r67_2 : List CO := [⟨none, (some 5), (.mv (.t 3))⟩, ⟨none, (some 6), (.mv (.t 0))⟩, ⟨none, (some 7), (.len false (.t 6))⟩, ⟨none, (some 8), (.bin .lss .none (.t 5) (.t 7))⟩]
def r67_3 : List CO := [⟨none, (some 11), (.mv (.t 0))⟩, ⟨none, (some 12), (.mv (.t 3))⟩, ⟨none, (some 13), (.iaddr 5 (.t 11) (.t 12))⟩, ⟨none, (some 14), (.ld true 5 (.t 13))⟩, ⟨none, (some 4), (.box 5 (.k (.agg [(.v (.int .i64 (0))), (.v (.int .i64 (0))), (.v (.int .i64 (0))), (.v (.int .i64 (0))), (.v (.int .i64 (0)))])))⟩, ⟨none, none, (.st 5 (.t 4) (.t 14))⟩]
def r67_4 : List CO := [⟨none, (some 15), (.faddr 0 (.t 4))⟩, ⟨none, (some 16), (.ld false 1 (.t 15))⟩, ⟨none, (some 17), (.call 61 [(.t 16), (.k (.v (.int .i64 (1)))), (.k (.v (.int .i64 (999))))])⟩, ⟨none, (some 18), (.un .not (.t 17))⟩, ⟨none, (some 19), (.mv (.t 18))⟩, ⟨(some (19, false)), (some 20), (.faddr 1 (.t 4))⟩, ⟨(some (19, false)), (some 21), (.ld false 1 (.t 20))⟩, ⟨(some (19, false)), (some 22), (.call 90 [(.t 21)])⟩, ⟨(some (19, false)), (some 23), (.un .not (.t 22))⟩, ⟨none, (some 24), (.pick (.t 19) (.k (.v (.bool true))) (.t 23))⟩, ⟨none, (some 25), (.mv (.t 24))⟩, ⟨(some (25, false)), (some 26), (.faddr 2 (.t 4))⟩, ⟨(some (25, false)), (some 27), (.ld false 1 (.t 26))⟩, ⟨(some (25, false)), (some 28), (.call 83 [(.t 27)])⟩, ⟨(some (25, false)), (some 29), (.un .not (.t 28))⟩, ⟨none, (some 30), (.pick (.t 25) (.k (.v (.bool true))) (.t 29))⟩, ⟨none, (some 31), (.mv (.t 30))⟩, ⟨(some (31, false)), (some 32), (.faddr 3 (.t 4))⟩, ⟨(some (31, false)), (some 33), (.ld false 1 (.t 32))⟩, ⟨(some (31, false)), (some 34), (.call 61 [(.t 33), (.k (.v (.int .i64 (1)))), (.k (.v (.int .i64 (4))))])⟩, ⟨(some (31, false)), (some 35), (.un .not (.t 34))⟩, ⟨none, (some 36), (.pick (.t 31) (.k (.v (.bool true))) (.t 35))⟩, ⟨none, (some 37), (.mv (.t 36))⟩, ⟨(some (37, false)), (some 38), (.faddr 4 (.t 4))⟩, ⟨(some (37, false)), (some 39), (.ld false 1 (.t 38))⟩, ⟨(some (37, false)), (some 40), (.call 61 [(.t 39), (.k (.v (.int .i64 (0)))), (.k (.v (.int .i64 (1000000))))])⟩, ⟨(some (37, false)), (some 41), (.un .not (.t 40))⟩, ⟨none, (some 42), (.pick (.t 37) (.k (.v (.bool true))) (.t 41))⟩]
def r67_5 : List CO := [⟨none, (some 2), (.mv (.k (.v (.bool false))))⟩]
def r67_6 : List CO := [⟨none, (some 43), (.mv (.t 3))⟩, ⟨none, (some 44), (.bin .gtr .none (.t 43) (.k (.v (.int .i64 (0)))))⟩, ⟨none, (some 45), (.mv (.t 44))⟩, ⟨(some (45, true)), (some 46), (.mv (.t 0))⟩, ⟨(some (45, true)), (some 47), (.mv (.t 3))⟩, ⟨(some (45, true)), (some 48), (.bin .sub .none (.t 47) (.k (.v (.int .i64 (1)))))⟩, ⟨(some (45, true)), (some 49), (.iaddr 5 (.t 46) (.t 48))⟩, ⟨(some (45, true)), (some 50), (.faddr 0 (.t 49))⟩, ⟨(some (45, true)), (some 51), (.ld false 1 (.t 50))⟩, ⟨(some (45, true)), (some 52), (.faddr 0 (.t 4))⟩, ⟨(some (45, true)), (some 53), (.ld false 1 (.t 52))⟩, ⟨(some (45, true)), (some 54), (.bin .geq .none (.t 51) (.t 53))⟩, ⟨none, (some 55), (.pick (.t 45) (.t 54) (.k (.v (.bool false))))⟩]
def p67_6 : List (List Nat) := [[], [0], [0, 1], [0, 1, 2], [0, 1, 2], [0, 1, 2, 4], [0, 1, 2, 3, 4, 5], [0, 1, 2, 3, 4, 5, 6], [0, 1, 2, 3, 4, 5, 6, 7], [0, 1, 2], [0, 1, 2, 9], [0, 1, 2, 3, 4, 5, 6, 7, 8, 9, 10], [0, 1, 2, 3, 4, 5, 6, 7, 8, 9, 10, 11]]
def r67_7 : List CO := [⟨none, (some 2), (.mv (.k (.v (.bool false))))⟩]
def r67_8 : List CO := [⟨none, (some 9), (.mv (.t 3))⟩, ⟨none, (some 10), (.bin .add .none (.t 9) (.k (.v (.int .i64 (1)))))⟩, ⟨none, (some 3), (.mv (.t 10))⟩]
def l67_9 : C := (.seq (.seq (.reg r67_2 [0, 3, 8]) (.cond (.t 8) .skip (.exit 0))) (.seq (.block 1 (.seq (.reg r67_3 [0, 3, 4]) (.seq (.seq (.reg r67_4 [0, 3, 4, 42]) (.cond (.t 42) (.seq (.reg r67_5 [2]) .ret) .skip)) (.seq (.regD r67_6 p67_6 [0, 3, 55]) (.cond (.t 55) (.seq (.reg r67_7 [2]) .ret) .skip))))) (.reg r67_8 [0, 3])))
def r67_10 : List CO := [⟨none, (some 56), (.mv (.t 0))⟩, ⟨none, (some 57), (.len false (.t 56))⟩, ⟨none, (some 58), (.bin .leq .none (.t 57) (.k (.v (.int .i64 (12)))))⟩, ⟨none, (some 2), (.mv (.t 58))⟩]
/-- loop.example/g00884/spec.l26Good -/
def c67 : C := (.seq (.reg r67_0 [0]) (.seq (.seq (.reg r67_1 [0, 3]) (.block 0 (.loop l67_9))) (.seq (.reg r67_10 [2]) .ret)))
def k67 : Nat → List Nat
  | 0 => [0]
  | 1 => [0, 3]
  | 2 => [0, 3, 8]
  | 4 => [0, 3, 4]
  | 5 => [0, 3, 4, 42]
  | 6 => [2]
  | 7 => [0, 3, 55]
  | 8 => [2]
  | 3 => [0, 3]
  | 9 => [2]
  | _ => []
theorem fn67 : FnC Try.prog 67 c67 [(.tmp 2)] 59 :=
  ⟨Try.f67, _, k67, Try.func67, rfl, by kernel_rfl, by kernel_rfl, by kernel_rfl, rfl⟩
def r68_0 : List CO := [⟨none, (some 1), (.box 5 (.t 0))⟩, ⟨none, (some 2), (.box 5 (.k (.agg [(.v (.int .i64 (0))), (.v (.int .i64 (0))), (.v (.int .i64 (0))), (.v (.int .i64 (0))), (.v (.int .i64 (0)))])))⟩]
def r68_1 : List CO := [⟨none, (some 3), (.box 5 (.k (.agg [(.v (.int .i64 (0))), (.v (.int .i64 (0))), (.v (.int .i64 (0))), (.v (.int .i64 (0))), (.v (.int .i64 (0)))])))⟩]
def r68_2 : List CO := [⟨none, (some 4), (.faddr 0 (.t 1))⟩, ⟨none, (some 5), (.ld false 1 (.t 4))⟩, ⟨none, (some 6), (.faddr 0 (.t 3))⟩, ⟨none, none, (.st 1 (.t 6) (.t 5))⟩]
def r68_3 : List CO := [⟨none, (some 7), (.faddr 1 (.t 1))⟩, ⟨none, (some 8), (.ld false 1 (.t 7))⟩, ⟨none, (some 9), (.faddr 1 (.t 3))⟩, ⟨none, none, (.st 1 (.t 9) (.t 8))⟩]
def r68_4 : List CO := [⟨none, (some 10), (.faddr 2 (.t 1))⟩, ⟨none, (some 11), (.ld false 1 (.t 10))⟩, ⟨none, (some 12), (.faddr 2 (.t 3))⟩, ⟨none, none, (.st 1 (.t 12) (.t 11))⟩]
def r68_5 : List CO := [⟨none, (some 13), (.faddr 3 (.t 1))⟩, ⟨none, (some 14), (.ld false 1 (.t 13))⟩, ⟨none, (some 15), (.faddr 3 (.t 3))⟩, ⟨none, none, (.st 1 (.t 15) (.t 14))⟩]
def r68_6 : List CO := [⟨none, (some 16), (.faddr 4 (.t 1))⟩, ⟨none, (some 17), (.ld false 1 (.t 16))⟩, ⟨none, (some 18), (.faddr 4 (.t 3))⟩, ⟨none, none, (.st 1 (.t 18) (.t 17))⟩]
def r68_7 : List CO := [⟨none, (some 19), (.ld true 5 (.t 3))⟩, ⟨none, none, (.st 5 (.t 2) (.t 19))⟩]
/-- loop.example/g00884/laws.toPetition -/
def c68 : C := (.seq (.reg r68_0 [1, 2]) (.seq (.reg r68_1 [1, 2, 3]) (.seq (.reg r68_2 [1, 2, 3]) (.seq (.reg r68_3 [1, 2, 3]) (.seq (.reg r68_4 [1, 2, 3]) (.seq (.reg r68_5 [1, 2, 3]) (.seq (.reg r68_6 [2, 3]) (.seq (.reg r68_7 [2]) .ret))))))))
def k68 : Nat → List Nat
  | 0 => [1, 2]
  | 1 => [1, 2, 3]
  | 2 => [1, 2, 3]
  | 3 => [1, 2, 3]
  | 4 => [1, 2, 3]
  | 5 => [1, 2, 3]
  | 6 => [2, 3]
  | 7 => [2]
  | _ => []
theorem fn68 : FnC Try.prog 68 c68 [(.cell 2 true 5)] 20 :=
  ⟨Try.f68, _, k68, Try.func68, rfl, by kernel_rfl, by kernel_rfl, by kernel_rfl, rfl⟩
def r69_0 : List CO := [⟨none, (some 2), (.mv (.k (.v (.bool false))))⟩]
def r69_1 : List CO := [⟨none, (some 3), (.mv (.t 0))⟩, ⟨none, (some 4), (.call 60 [(.t 3), (.k (.v (.int .i64 (1)))), (.k (.v (.int .i64 (5))))])⟩, ⟨none, (some 2), (.mv (.t 4))⟩]
/-- loop.example/g00884/impl.isRank -/
def c69 : C := (.seq (.reg r69_0 [0]) (.seq (.reg r69_1 [2]) .ret))
def k69 : Nat → List Nat
  | 0 => [0]
  | 1 => [2]
  | _ => []
theorem fn69 : FnC Try.prog 69 c69 [(.tmp 2)] 5 :=
  ⟨Try.f69, _, k69, Try.func69, rfl, by kernel_rfl, by kernel_rfl, by kernel_rfl, rfl⟩
def r70_0 : List CO := [⟨none, (some 2), (.mv (.k (.v (.bool false))))⟩]
def r70_1 : List CO := [⟨none, (some 3), (.mv (.t 0))⟩, ⟨none, (some 4), (.call 60 [(.t 3), (.k (.v (.int .i64 (0)))), (.k (.v (.int .i64 (9999))))])⟩, ⟨none, (some 2), (.mv (.t 4))⟩]
/-- loop.example/g00884/impl.isDay -/
def c70 : C := (.seq (.reg r70_0 [0]) (.seq (.reg r70_1 [2]) .ret))
def k70 : Nat → List Nat
  | 0 => [0]
  | 1 => [2]
  | _ => []
theorem fn70 : FnC Try.prog 70 c70 [(.tmp 2)] 5 :=
  ⟨Try.f70, _, k70, Try.func70, rfl, by kernel_rfl, by kernel_rfl, by kernel_rfl, rfl⟩
def r71_0 : List CO := [⟨none, (some 2), (.box 5 (.t 0))⟩, ⟨none, (some 3), (.box 5 (.t 1))⟩, ⟨none, (some 4), (.mv (.k (.v (.bool false))))⟩]
def r71_1 : List CO := [⟨none, (some 5), (.faddr 0 (.t 2))⟩, ⟨none, (some 6), (.ld false 1 (.t 5))⟩, ⟨none, (some 7), (.faddr 0 (.t 3))⟩, ⟨none, (some 8), (.ld false 1 (.t 7))⟩, ⟨none, (some 9), (.bin .neq .none (.t 6) (.t 8))⟩]
def r71_2 : List CO := [⟨none, (some 4), (.mv (.k (.v (.bool false))))⟩]
def r71_3 : List CO := [⟨none, (some 10), (.faddr 1 (.t 2))⟩, ⟨none, (some 11), (.ld false 1 (.t 10))⟩, ⟨none, (some 12), (.faddr 1 (.t 3))⟩, ⟨none, (some 13), (.ld false 1 (.t 12))⟩, ⟨none, (some 14), (.bin .neq .none (.t 11) (.t 13))⟩]
def r71_4 : List CO := [⟨none, (some 4), (.mv (.k (.v (.bool false))))⟩]
def r71_5 : List CO := [⟨none, (some 15), (.faddr 2 (.t 2))⟩, ⟨none, (some 16), (.ld false 1 (.t 15))⟩, ⟨none, (some 17), (.faddr 2 (.t 3))⟩, ⟨none, (some 18), (.ld false 1 (.t 17))⟩, ⟨none, (some 19), (.bin .neq .none (.t 16) (.t 18))⟩]
def r71_6 : List CO := [⟨none, (some 4), (.mv (.k (.v (.bool false))))⟩]
def r71_7 : List CO := [⟨none, (some 20), (.faddr 3 (.t 2))⟩, ⟨none, (some 21), (.ld false 1 (.t 20))⟩, ⟨none, (some 22), (.faddr 3 (.t 3))⟩, ⟨none, (some 23), (.ld false 1 (.t 22))⟩, ⟨none, (some 24), (.bin .neq .none (.t 21) (.t 23))⟩]
def r71_8 : List CO := [⟨none, (some 4), (.mv (.k (.v (.bool false))))⟩]
def r71_9 : List CO := [⟨none, (some 25), (.faddr 4 (.t 2))⟩, ⟨none, (some 26), (.ld false 1 (.t 25))⟩, ⟨none, (some 27), (.faddr 4 (.t 3))⟩, ⟨none, (some 28), (.ld false 1 (.t 27))⟩, ⟨none, (some 29), (.bin .neq .none (.t 26) (.t 28))⟩]
def r71_10 : List CO := [⟨none, (some 4), (.mv (.k (.v (.bool false))))⟩]
def r71_11 : List CO := [⟨none, (some 4), (.mv (.k (.v (.bool true))))⟩]
/-- loop.example/g00884/laws.eqPetition -/
def c71 : C := (.seq (.reg r71_0 [2, 3]) (.seq (.seq (.reg r71_1 [2, 3, 9]) (.cond (.t 9) (.seq (.reg r71_2 [4]) .ret) .skip)) (.seq (.seq (.reg r71_3 [2, 3, 14]) (.cond (.t 14) (.seq (.reg r71_4 [4]) .ret) .skip)) (.seq (.seq (.reg r71_5 [2, 3, 19]) (.cond (.t 19) (.seq (.reg r71_6 [4]) .ret) .skip)) (.seq (.seq (.reg r71_7 [2, 3, 24]) (.cond (.t 24) (.seq (.reg r71_8 [4]) .ret) .skip)) (.seq (.seq (.reg r71_9 [29]) (.cond (.t 29) (.seq (.reg r71_10 [4]) .ret) .skip)) (.seq (.reg r71_11 [4]) .ret)))))))
def k71 : Nat → List Nat
  | 0 => [2, 3]
  | 1 => [2, 3, 9]
  | 2 => [4]
  | 3 => [2, 3, 14]
  | 4 => [4]
  | 5 => [2, 3, 19]
  | 6 => [4]
  | 7 => [2, 3, 24]
  | 8 => [4]
  | 9 => [29]
  | 10 => [4]
  | 11 => [4]
  | _ => []
theorem fn71 : FnC Try.prog 71 c71 [(.tmp 4)] 30 :=
  ⟨Try.f71, _, k71, Try.func71, rfl, by kernel_rfl, by kernel_rfl, by kernel_rfl, rfl⟩
def r72_0 : List CO := [⟨none, (some 4), (.mv (.k (.v (.int .i64 (0)))))⟩]
def r72_1 : List CO := [⟨none, (some 5), (.mv (.t 1))⟩, ⟨none, (some 6), (.mv (.t 0))⟩, ⟨none, (some 7), (.len false (.t 6))⟩, ⟨none, (some 8), (.bin .sub .none (.t 5) (.t 7))⟩, ⟨none, (some 1), (.mv (.t 8))⟩]
def r72_2 : List CO := [⟨none, (some 9), (.mv (.t 1))⟩, ⟨none, (some 10), (.bin .lss .none (.t 9) (.k (.v (.int .i64 (0)))))⟩]
def r72_3 : List CO := [⟨none, (some 4), (.mv (.k (.v (.int .i64 (-1)))))⟩]
def r72_4 : List CO := [⟨none, (some 11), (.mv (.t 1))⟩, ⟨none, (some 4), (.mv (.t 11))⟩]
/-- loop.example/g00884/laws.szIntS -/
def c72 : C := (.seq (.reg r72_0 [0, 1]) (.seq (.reg r72_1 [1]) (.seq (.seq (.reg r72_2 [1, 10]) (.cond (.t 10) (.seq (.reg r72_3 [4]) .ret) .skip)) (.seq (.reg r72_4 [4]) .ret))))
def k72 : Nat → List Nat
  | 0 => [0, 1]
  | 1 => [1]
  | 2 => [1, 10]
  | 3 => [4]
  | 4 => [4]
  | _ => []
theorem fn72 : FnC Try.prog 72 c72 [(.tmp 4)] 12 :=
  ⟨Try.f72, _, k72, Try.func72, rfl, by kernel_rfl, by kernel_rfl, by kernel_rfl, rfl⟩
def r73_0 : List CO := [⟨none, (some 2), (.mv (.k (.v (.bool false))))⟩]
def r73_1 : List CO := [⟨none, (some 5), (.mv (.t 0))⟩, ⟨none, (some 6), (.len false (.t 5))⟩, ⟨none, (some 7), (.call 61 [(.t 6), (.k (.v (.int .i64 (1)))), (.k (.v (.int .i64 (60))))])⟩, ⟨none, (some 8), (.un .not (.t 7))⟩]
def r73_2 : List CO := [⟨none, (some 2), (.mv (.k (.v (.bool false))))⟩]
def r73_3 : List CO := [⟨none, (some 3), (.mv (.k (.v (.int .i64 (0)))))⟩]
def r73_4 : List CO := [⟨none, (some 9), (.mv (.t 3))⟩, ⟨none, (some 10), (.mv (.t 0))⟩, ⟨none, (some 11), (.len false (.t 10))⟩, ⟨none, (some 12), (.bin .lss .none (.t 9) (.t 11))⟩]
def r73_5 : List CO := [⟨none, (some 15), (.mv (.t 0))⟩, ⟨none, (some 16), (.mv (.t 3))⟩, ⟨none, (some 17), (.iaddr 1 (.t 15) (.t 16))⟩, ⟨none, (some 18), (.ld false 1 (.t 17))⟩, ⟨none, (some 19), (.len false (.t 18))⟩, ⟨none, (some 20), (.call 61 [(.t 19), (.k (.v (.int .i64 (1)))), (.k (.v (.int .i64 (60))))])⟩, ⟨none, (some 21), (.un .not (.t 20))⟩, ⟨none, (some 22), (.mv (.t 21))⟩, ⟨(some (22, false)), (some 23), (.mv (.t 0))⟩, ⟨(some (22, false)), (some 24), (.mv (.t 3))⟩, ⟨(some (22, false)), (some 25), (.iaddr 1 (.t 23) (.t 24))⟩, ⟨(some (22, false)), (some 26), (.ld false 1 (.t 25))⟩, ⟨(some (22, false)), (some 27), (.len false (.t 26))⟩, ⟨(some (22, false)), (some 28), (.mv (.t 0))⟩, ⟨(some (22, false)), (some 29), (.iaddr 1 (.t 28) (.k (.v (.int .i64 (0)))))⟩, ⟨(some (22, false)), (some 30), (.ld false 1 (.t 29))⟩, ⟨(some (22, false)), (some 31), (.len false (.t 30))⟩, ⟨(some (22, false)), (some 32), (.bin .neq .none (.t 27) (.t 31))⟩, ⟨none, (some 33), (.pick (.t 22) (.k (.v (.bool true))) (.t 32))⟩]
def p73_5 : List (List Nat) := [[], [], [0, 1], [0, 1, 2], [0, 1, 2, 3], [0, 1, 2, 3, 4], [0, 1, 2, 3, 4, 5], [0, 1, 2, 3, 4, 5, 6], [0, 1, 2, 3, 4, 5, 6, 7], [0, 1, 2, 3, 4, 5, 6, 7], [0, 1, 2, 3, 4, 5, 6, 7, 8, 9], [0, 1, 2, 3, 4, 5, 6, 7, 8, 9, 10], [0, 1, 2, 3, 4, 5, 6, 7, 8, 9, 10, 11], [0, 1, 2, 3, 4, 5, 6, 7], [0, 1, 2, 3, 4, 5, 6, 7, 13], [0, 1, 2, 3, 4, 5, 6, 7, 13, 14], [0, 1, 2, 3, 4, 5, 6, 7, 13, 14, 15], [0, 1, 2, 3, 4, 5, 6, 7, 8, 9, 10, 11, 12, 13, 14, 15, 16], [0, 1, 2, 3, 4, 5, 6, 7, 8, 9, 10, 11, 12, 13, 14, 15, 16, 17]]
def r73_6 : List CO := [⟨none, (some 2), (.mv (.k (.v (.bool false))))⟩]
def r73_7 : List CO := [⟨none, (some 4), (.mv (.k (.v (.int .i64 (0)))))⟩]
def r73_8 : List CO := [⟨none, (some 34), (.mv (.t 4))⟩, ⟨none, (some 35), (.mv (.t 0))⟩, ⟨none, (some 36), (.mv (.t 3))⟩, ⟨none, (some 37), (.iaddr 1 (.t 35) (.t 36))⟩, ⟨none, (some 38), (.ld false 1 (.t 37))⟩, ⟨none, (some 39), (.len false (.t 38))⟩, ⟨none, (some 40), (.bin .lss .none (.t 34) (.t 39))⟩]
def r73_9 : List CO := [⟨none, (some 43), (.mv (.t 0))⟩, ⟨none, (some 44), (.mv (.t 3))⟩, ⟨none, (some 45), (.iaddr 1 (.t 43) (.t 44))⟩, ⟨none, (some 46), (.ld false 1 (.t 45))⟩, ⟨none, (some 47), (.mv (.t 4))⟩, ⟨none, (some 48), (.iaddr 1 (.t 46) (.t 47))⟩, ⟨none, (some 49), (.ld false 1 (.t 48))⟩, ⟨none, (some 50), (.call 91 [(.t 49)])⟩, ⟨none, (some 51), (.un .not (.t 50))⟩]
def r73_10 : List CO := [⟨none, (some 2), (.mv (.k (.v (.bool false))))⟩]
def r73_11 : List CO := [⟨none, (some 41), (.mv (.t 4))⟩, ⟨none, (some 42), (.bin .add .none (.t 41) (.k (.v (.int .i64 (1)))))⟩, ⟨none, (some 4), (.mv (.t 42))⟩]
def l73_12 : C := (.seq (.seq (.reg r73_8 [0, 3, 4, 40]) (.cond (.t 40) .skip (.exit 2))) (.seq (.block 3 (.seq (.reg r73_9 [0, 3, 4, 51]) (.cond (.t 51) (.seq (.reg r73_10 [2]) .ret) .skip))) (.reg r73_11 [0, 3, 4])))
def r73_13 : List CO := [⟨none, (some 13), (.mv (.t 3))⟩, ⟨none, (some 14), (.bin .add .none (.t 13) (.k (.v (.int .i64 (1)))))⟩, ⟨none, (some 3), (.mv (.t 14))⟩]
def l73_14 : C := (.seq (.seq (.reg r73_4 [0, 3, 12]) (.cond (.t 12) .skip (.exit 0))) (.seq (.block 1 (.seq (.seq (.regD r73_5 p73_5 [0, 3, 33]) (.cond (.t 33) (.seq (.reg r73_6 [2]) .ret) .skip)) (.seq (.reg r73_7 [0, 3, 4]) (.block 2 (.loop l73_12))))) (.reg r73_13 [0, 3])))
def r73_15 : List CO := [⟨none, (some 2), (.mv (.k (.v (.bool true))))⟩]
/-- loop.example/g00884/spec.l24Good -/
def c73 : C := (.seq (.reg r73_0 [0]) (.seq (.seq (.reg r73_1 [0, 8]) (.cond (.t 8) (.seq (.reg r73_2 [2]) .ret) .skip)) (.seq (.seq (.reg r73_3 [0, 3]) (.block 0 (.loop l73_14))) (.seq (.reg r73_15 [2]) .ret))))
def k73 : Nat → List Nat
  | 0 => [0]
  | 1 => [0, 8]
  | 2 => [2]
  | 3 => [0, 3]
  | 4 => [0, 3, 12]
  | 6 => [0, 3, 33]
  | 7 => [2]
  | 8 => [0, 3, 4]
  | 9 => [0, 3, 4, 40]
  | 11 => [0, 3, 4, 51]
  | 12 => [2]
  | 10 => [0, 3, 4]
  | 5 => [0, 3]
  | 13 => [2]
  | _ => []
theorem fn73 : FnC Try.prog 73 c73 [(.tmp 2)] 52 :=
  ⟨Try.f73, _, k73, Try.func73, rfl, by kernel_rfl, by kernel_rfl, by kernel_rfl, rfl⟩
def r74_0 : List CO := [⟨none, (some 2), (.mv (.k (.v (.slice none 0 0))))⟩]
def r74_1 : List CO := [⟨none, (some 5), (.mv (.t 0))⟩, ⟨none, (some 6), (.len false (.t 5))⟩, ⟨none, (some 7), (.mks 1 (.v (.int .i64 (0))) 8 (.t 6) (.t 6))⟩, ⟨none, (some 3), (.mv (.t 7))⟩]
def r74_2 : List CO := [⟨none, (some 4), (.mv (.k (.v (.int .i64 (0)))))⟩]
def r74_3 : List CO := [⟨none, (some 8), (.mv (.t 4))⟩, ⟨none, (some 9), (.mv (.t 0))⟩, ⟨none, (some 10), (.len false (.t 9))⟩, ⟨none, (some 11), (.bin .lss .none (.t 8) (.t 10))⟩]
def r74_4 : List CO := [⟨none, (some 14), (.mv (.t 3))⟩, ⟨none, (some 15), (.mv (.t 4))⟩, ⟨none, (some 16), (.mv (.t 0))⟩, ⟨none, (some 17), (.mv (.t 4))⟩, ⟨none, (some 18), (.iaddr 1 (.t 16) (.t 17))⟩, ⟨none, (some 19), (.ld false 1 (.t 18))⟩, ⟨none, (some 20), (.iaddr 1 (.t 14) (.t 15))⟩, ⟨none, none, (.st 1 (.t 20) (.t 19))⟩]
def r74_5 : List CO := [⟨none, (some 12), (.mv (.t 4))⟩, ⟨none, (some 13), (.bin .add .none (.t 12) (.k (.v (.int .i64 (1)))))⟩, ⟨none, (some 4), (.mv (.t 13))⟩]
def l74_6 : C := (.seq (.seq (.reg r74_3 [0, 3, 4, 11]) (.cond (.t 11) .skip (.exit 0))) (.seq (.block 1 (.reg r74_4 [0, 3, 4])) (.reg r74_5 [0, 3, 4])))
def r74_7 : List CO := [⟨none, (some 21), (.mv (.t 3))⟩, ⟨none, (some 2), (.mv (.t 21))⟩]
/-- loop.example/g00884/laws.toIntS -/
def c74 : C := (.seq (.reg r74_0 [0]) (.seq (.reg r74_1 [0, 3]) (.seq (.seq (.reg r74_2 [0, 3, 4]) (.block 0 (.loop l74_6))) (.seq (.reg r74_7 [2]) .ret))))
def k74 : Nat → List Nat
  | 0 => [0]
  | 1 => [0, 3]
  | 2 => [0, 3, 4]
  | 3 => [0, 3, 4, 11]
  | 5 => [0, 3, 4]
  | 4 => [0, 3, 4]
  | 6 => [2]
  | _ => []
theorem fn74 : FnC Try.prog 74 c74 [(.tmp 2)] 22 :=
  ⟨Try.f74, _, k74, Try.func74, rfl, by kernel_rfl, by kernel_rfl, by kernel_rfl, rfl⟩
def r75_0 : List CO := [⟨none, (some 2), (.mv (.k (.v (.bool false))))⟩]
def r75_1 : List CO := [⟨none, (some 3), (.mv (.t 0))⟩, ⟨none, (some 4), (.call 60 [(.t 3), (.k (.v (.int .i64 (1)))), (.k (.v (.int .i64 (60))))])⟩, ⟨none, (some 2), (.mv (.t 4))⟩]
/-- loop.example/g00884/impl.isSide -/
def c75 : C := (.seq (.reg r75_0 [0]) (.seq (.reg r75_1 [2]) .ret))
def k75 : Nat → List Nat
  | 0 => [0]
  | 1 => [2]
  | _ => []
theorem fn75 : FnC Try.prog 75 c75 [(.tmp 2)] 5 :=
  ⟨Try.f75, _, k75, Try.func75, rfl, by kernel_rfl, by kernel_rfl, by kernel_rfl, rfl⟩
def r76_0 : List CO := [⟨none, (some 4), (.mv (.k (.v (.bool false))))⟩]
def r76_1 : List CO := [⟨none, (some 5), (.mv (.t 0))⟩, ⟨none, (some 6), (.mv (.t 1))⟩, ⟨none, (some 7), (.call 92 [(.t 5), (.t 6)])⟩, ⟨none, (some 8), (.bin .geq .none (.t 7) (.k (.v (.int .i64 (0)))))⟩, ⟨none, (some 4), (.mv (.t 8))⟩]
/-- slices.ContainsFunc[[]int,int] -/
def c76 : C := (.seq (.reg r76_0 [0, 1]) (.seq (.reg r76_1 [4]) .ret))
def k76 : Nat → List Nat
  | 0 => [0, 1]
  | 1 => [4]
  | _ => []
theorem fn76 : FnC Try.prog 76 c76 [(.tmp 4)] 9 :=
  ⟨Try.f76, _, k76, Try.func76, rfl, by kernel_rfl, by kernel_rfl, by kernel_rfl, rfl⟩
def r77_0 : List CO := [⟨none, (some 2), (.mv (.k (.v (.bool false))))⟩]
def r77_1 : List CO := [⟨none, (some 3), (.mv (.t 0))⟩, ⟨none, (some 4), (.call 78 [(.t 3)])⟩, ⟨none, (some 5), (.un .not (.t 4))⟩, ⟨none, (some 2), (.mv (.t 5))⟩]
/-- loop.example/g00884/impl.IsValidBanner$1 -/
def c77 : C := (.seq (.reg r77_0 [0]) (.seq (.reg r77_1 [2]) .ret))
def k77 : Nat → List Nat
  | 0 => [0]
  | 1 => [2]
  | _ => []
theorem fn77 : FnC Try.prog 77 c77 [(.tmp 2)] 6 :=
  ⟨Try.f77, _, k77, Try.func77, rfl, by kernel_rfl, by kernel_rfl, by kernel_rfl, rfl⟩
def r78_0 : List CO := [⟨none, (some 2), (.mv (.k (.v (.bool false))))⟩]
def r78_1 : List CO := [⟨none, (some 3), (.mv (.t 0))⟩, ⟨none, (some 4), (.call 60 [(.t 3), (.k (.v (.int .i64 (1)))), (.k (.v (.int .i64 (9))))])⟩, ⟨none, (some 2), (.mv (.t 4))⟩]
/-- loop.example/g00884/impl.IsTincture -/
def c78 : C := (.seq (.reg r78_0 [0]) (.seq (.reg r78_1 [2]) .ret))
def k78 : Nat → List Nat
  | 0 => [0]
  | 1 => [2]
  | _ => []
theorem fn78 : FnC Try.prog 78 c78 [(.tmp 2)] 5 :=
  ⟨Try.f78, _, k78, Try.func78, rfl, by kernel_rfl, by kernel_rfl, by kernel_rfl, rfl⟩
def r79_0 : List CO := [⟨none, (some 1), (.box 4 (.t 0))⟩, ⟨none, (some 2), (.mv (.k (.v (.bool false))))⟩]
def r79_1 : List CO := [⟨none, (some 4), (.faddr 0 (.t 1))⟩, ⟨none, (some 5), (.ld false 1 (.t 4))⟩, ⟨none, (some 6), (.len false (.t 5))⟩, ⟨none, (some 7), (.bin .neq .none (.t 6) (.k (.v (.int .i64 (5)))))⟩, ⟨none, (some 8), (.mv (.t 7))⟩, ⟨(some (8, false)), (some 9), (.faddr 1 (.t 1))⟩, ⟨(some (8, false)), (some 10), (.ld false 1 (.t 9))⟩, ⟨(some (8, false)), (some 11), (.call 61 [(.t 10), (.k (.v (.int .i64 (0)))), (.k (.v (.int .i64 (100000))))])⟩, ⟨(some (8, false)), (some 12), (.un .not (.t 11))⟩, ⟨none, (some 13), (.pick (.t 8) (.k (.v (.bool true))) (.t 12))⟩, ⟨none, (some 14), (.mv (.t 13))⟩, ⟨(some (14, false)), (some 15), (.faddr 2 (.t 1))⟩, ⟨(some (14, false)), (some 16), (.ld false 1 (.t 15))⟩, ⟨(some (14, false)), (some 17), (.call 61 [(.t 16), (.k (.v (.int .i64 (0)))), (.k (.v (.int .i64 (500))))])⟩, ⟨(some (14, false)), (some 18), (.un .not (.t 17))⟩, ⟨none, (some 19), (.pick (.t 14) (.k (.v (.bool true))) (.t 18))⟩, ⟨none, (some 20), (.mv (.t 19))⟩, ⟨(some (20, false)), (some 21), (.faddr 3 (.t 1))⟩, ⟨(some (20, false)), (some 22), (.ld false 1 (.t 21))⟩, ⟨(some (20, false)), (some 23), (.call 61 [(.t 22), (.k (.v (.int .i64 (0)))), (.k (.v (.int .i64 (100))))])⟩, ⟨(some (20, false)), (some 24), (.un .not (.t 23))⟩, ⟨none, (some 25), (.pick (.t 20) (.k (.v (.bool true))) (.t 24))⟩]
def r79_2 : List CO := [⟨none, (some 2), (.mv (.k (.v (.bool false))))⟩]
def r79_3 : List CO := [⟨none, (some 3), (.mv (.k (.v (.int .i64 (0)))))⟩]
def r79_4 : List CO := [⟨none, (some 26), (.mv (.t 3))⟩, ⟨none, (some 27), (.bin .lss .none (.t 26) (.k (.v (.int .i64 (5)))))⟩]
def r79_5 : List CO := [⟨none, (some 30), (.faddr 0 (.t 1))⟩, ⟨none, (some 31), (.ld false 1 (.t 30))⟩, ⟨none, (some 32), (.mv (.t 3))⟩, ⟨none, (some 33), (.iaddr 1 (.t 31) (.t 32))⟩, ⟨none, (some 34), (.ld false 1 (.t 33))⟩, ⟨none, (some 35), (.call 61 [(.t 34), (.k (.v (.int .i64 (0)))), (.k (.v (.int .i64 (100000))))])⟩, ⟨none, (some 36), (.un .not (.t 35))⟩]
def r79_6 : List CO := [⟨none, (some 2), (.mv (.k (.v (.bool false))))⟩]
def r79_7 : List CO := [⟨none, (some 28), (.mv (.t 3))⟩, ⟨none, (some 29), (.bin .add .none (.t 28) (.k (.v (.int .i64 (1)))))⟩, ⟨none, (some 3), (.mv (.t 29))⟩]
def l79_8 : C := (.seq (.seq (.reg r79_4 [1, 3, 27]) (.cond (.t 27) .skip (.exit 0))) (.seq (.block 1 (.seq (.reg r79_5 [1, 3, 36]) (.cond (.t 36) (.seq (.reg r79_6 [2]) .ret) .skip))) (.reg r79_7 [1, 3])))
def r79_9 : List CO := [⟨none, (some 2), (.mv (.k (.v (.bool true))))⟩]
/-- loop.example/g00884/spec.l26Tariff -/
def c79 : C := (.seq (.reg r79_0 [1]) (.seq (.seq (.reg r79_1 [1, 25]) (.cond (.t 25) (.seq (.reg r79_2 [2]) .ret) .skip)) (.seq (.seq (.reg r79_3 [1, 3]) (.block 0 (.loop l79_8))) (.seq (.reg r79_9 [2]) .ret))))
def k79 : Nat → List Nat
  | 0 => [1]
  | 1 => [1, 25]
  | 2 => [2]
  | 3 => [1, 3]
  | 4 => [1, 3, 27]
  | 6 => [1, 3, 36]
  | 7 => [2]
  | 5 => [1, 3]
  | 8 => [2]
  | _ => []
theorem fn79 : FnC Try.prog 79 c79 [(.tmp 2)] 37 :=
  ⟨Try.f79, _, k79, Try.func79, rfl, by kernel_rfl, by kernel_rfl, by kernel_rfl, rfl⟩
def r80_0 : List CO := [⟨none, (some 1), (.box 4 (.t 0))⟩, ⟨none, (some 2), (.mv (.k (.v (.bool false))))⟩]
def r80_1 : List CO := [⟨none, (some 3), (.faddr 0 (.t 1))⟩, ⟨none, (some 4), (.ld false 1 (.t 3))⟩, ⟨none, (some 5), (.call 76 [(.t 4), (.k (.clo 93 []))])⟩]
def r80_2 : List CO := [⟨none, (some 2), (.mv (.k (.v (.bool false))))⟩]
def r80_3 : List CO := [⟨none, (some 6), (.faddr 0 (.t 1))⟩, ⟨none, (some 7), (.ld false 1 (.t 6))⟩, ⟨none, (some 8), (.len false (.t 7))⟩, ⟨none, (some 9), (.bin .eql .none (.t 8) (.k (.v (.int .i64 (5)))))⟩, ⟨none, (some 10), (.mv (.t 9))⟩, ⟨(some (10, true)), (some 11), (.faddr 1 (.t 1))⟩, ⟨(some (10, true)), (some 12), (.ld false 1 (.t 11))⟩, ⟨(some (10, true)), (some 13), (.call 60 [(.t 12), (.k (.v (.int .i64 (0)))), (.k (.v (.int .i64 (100000))))])⟩, ⟨none, (some 14), (.pick (.t 10) (.t 13) (.k (.v (.bool false))))⟩, ⟨none, (some 15), (.mv (.t 14))⟩, ⟨(some (15, true)), (some 16), (.faddr 2 (.t 1))⟩, ⟨(some (15, true)), (some 17), (.ld false 1 (.t 16))⟩, ⟨(some (15, true)), (some 18), (.call 60 [(.t 17), (.k (.v (.int .i64 (0)))), (.k (.v (.int .i64 (500))))])⟩, ⟨none, (some 19), (.pick (.t 15) (.t 18) (.k (.v (.bool false))))⟩, ⟨none, (some 20), (.mv (.t 19))⟩, ⟨(some (20, true)), (some 21), (.faddr 3 (.t 1))⟩, ⟨(some (20, true)), (some 22), (.ld false 1 (.t 21))⟩, ⟨(some (20, true)), (some 23), (.call 60 [(.t 22), (.k (.v (.int .i64 (0)))), (.k (.v (.int .i64 (100))))])⟩, ⟨none, (some 24), (.pick (.t 20) (.t 23) (.k (.v (.bool false))))⟩, ⟨none, (some 2), (.mv (.t 24))⟩]
/-- loop.example/g00884/impl.isTariff -/
def c80 : C := (.seq (.reg r80_0 [1]) (.seq (.seq (.reg r80_1 [1, 5]) (.cond (.t 5) (.seq (.reg r80_2 [2]) .ret) .skip)) (.seq (.reg r80_3 [2]) .ret)))
def k80 : Nat → List Nat
  | 0 => [1]
  | 1 => [1, 5]
  | 2 => [2]
  | 3 => [2]
  | _ => []
theorem fn80 : FnC Try.prog 80 c80 [(.tmp 2)] 25 :=
  ⟨Try.f80, _, k80, Try.func80, rfl, by kernel_rfl, by kernel_rfl, by kernel_rfl, rfl⟩
def r81_0 : List CO := [⟨none, (some 4), (.mv (.k (.v (.int .i64 (0)))))⟩]
def r81_1 : List CO := [⟨none, (some 6), (.mv (.t 0))⟩, ⟨none, (some 7), (.len false (.t 6))⟩, ⟨none, (some 8), (.mv (.k (.v (.int .i64 (0)))))⟩]
def r81_2 : List CO := [⟨none, (some 9), (.bin .lss .none (.t 8) (.t 7))⟩]
def r81_3 : List CO := [⟨none, (some 10), (.mv (.t 8))⟩, ⟨none, (some 5), (.mv (.t 10))⟩]
def r81_4 : List CO := [⟨none, (some 11), (.mv (.t 1))⟩, ⟨none, (some 12), (.mv (.t 0))⟩, ⟨none, (some 13), (.mv (.t 5))⟩, ⟨none, (some 14), (.iaddr 1 (.t 12) (.t 13))⟩, ⟨none, (some 15), (.ld false 1 (.t 14))⟩, ⟨none, (some 16), (.bin .eql .none (.t 11) (.t 15))⟩]
def r81_5 : List CO := [⟨none, (some 17), (.mv (.t 5))⟩, ⟨none, (some 4), (.mv (.t 17))⟩]
def r81_6 : List CO := [⟨none, (some 18), (.bin .add .none (.t 8) (.k (.v (.int .i64 (1)))))⟩, ⟨none, (some 8), (.mv (.t 18))⟩]
def l81_7 : C := (.seq (.reg r81_2 [0, 1, 7, 8, 9]) (.seq (.cond (.t 9) .skip (.exit 0)) (.seq (.block 1 (.seq (.reg r81_3 [0, 1, 5, 7, 8]) (.seq (.reg r81_4 [0, 1, 5, 7, 8, 16]) (.cond (.t 16) (.seq (.reg r81_5 [4]) .ret) .skip)))) (.reg r81_6 [0, 1, 7, 8]))))
def r81_8 : List CO := [⟨none, (some 4), (.mv (.k (.v (.int .i64 (-1)))))⟩]
/-- slices.Index[[]int,int] -/
def c81 : C := (.seq (.reg r81_0 [0, 1]) (.seq (.seq (.reg r81_1 [0, 1, 7, 8]) (.block 0 (.loop l81_7))) (.seq (.reg r81_8 [4]) .ret)))
def k81 : Nat → List Nat
  | 0 => [0, 1]
  | 1 => [0, 1, 7, 8]
  | 2 => [0, 1, 7, 8, 9]
  | 3 => [0, 1, 5, 7, 8]
  | 4 => [0, 1, 5, 7, 8, 16]
  | 5 => [4]
  | 6 => [0, 1, 7, 8]
  | 7 => [4]
  | _ => []
theorem fn81 : FnC Try.prog 81 c81 [(.tmp 4)] 19 :=
  ⟨Try.f81, _, k81, Try.func81, rfl, by kernel_rfl, by kernel_rfl, by kernel_rfl, rfl⟩
def r83_0 : List CO := [⟨none, (some 2), (.mv (.k (.v (.bool false))))⟩]
def r83_1 : List CO := [⟨none, (some 3), (.mv (.t 0))⟩, ⟨none, (some 4), (.call 61 [(.t 3), (.k (.v (.int .i64 (0)))), (.k (.v (.int .i64 (9999))))])⟩, ⟨none, (some 2), (.mv (.t 4))⟩]
/-- loop.example/g00884/spec.l26Day -/
def c83 : C := (.seq (.reg r83_0 [0]) (.seq (.reg r83_1 [2]) .ret))
def k83 : Nat → List Nat
  | 0 => [0]
  | 1 => [2]
  | _ => []
theorem fn83 : FnC Try.prog 83 c83 [(.tmp 2)] 5 :=
  ⟨Try.f83, _, k83, Try.func83, rfl, by kernel_rfl, by kernel_rfl, by kernel_rfl, rfl⟩
def r84_0 : List CO := [⟨none, (some 1), (.box 2 (.t 0))⟩, ⟨none, (some 2), (.mv (.k (.v (.bool false))))⟩]
def r84_1 : List CO := [⟨none, (some 3), (.faddr 0 (.t 1))⟩, ⟨none, (some 4), (.ld false 1 (.t 3))⟩, ⟨none, (some 5), (.bin .neq .none (.t 4) (.k (.v (.string (bs [])))))⟩, ⟨none, (some 6), (.mv (.t 5))⟩, ⟨(some (6, true)), (some 7), (.faddr 0 (.t 1))⟩, ⟨(some (6, true)), (some 8), (.ld false 1 (.t 7))⟩, ⟨(some (6, true)), (some 9), (.call 94 [(.t 8), (.k (.v (.int .i64 (160))))])⟩, ⟨none, (some 10), (.pick (.t 6) (.t 9) (.k (.v (.bool false))))⟩, ⟨none, (some 11), (.mv (.t 10))⟩, ⟨(some (11, true)), (some 12), (.faddr 0 (.t 1))⟩, ⟨(some (11, true)), (some 13), (.ld false 1 (.t 12))⟩, ⟨(some (11, true)), (some 14), (.call 95 [(.t 13), (.k (.v (.int .u8 (64))))])⟩, ⟨(some (11, true)), (some 15), (.un .not (.t 14))⟩, ⟨none, (some 16), (.pick (.t 11) (.t 15) (.k (.v (.bool false))))⟩, ⟨none, (some 17), (.mv (.t 16))⟩, ⟨(some (17, true)), (some 18), (.faddr 1 (.t 1))⟩, ⟨(some (17, true)), (some 19), (.ld false 1 (.t 18))⟩, ⟨(some (17, true)), (some 20), (.call 94 [(.t 19), (.k (.v (.int .i64 (200))))])⟩, ⟨none, (some 21), (.pick (.t 17) (.t 20) (.k (.v (.bool false))))⟩, ⟨none, (some 2), (.mv (.t 21))⟩]
/-- loop.example/g00884/spec.l27Good -/
def c84 : C := (.seq (.reg r84_0 [1]) (.seq (.reg r84_1 [2]) .ret))
def k84 : Nat → List Nat
  | 0 => [1]
  | 1 => [2]
  | _ => []
theorem fn84 : FnC Try.prog 84 c84 [(.tmp 2)] 22 :=
  ⟨Try.f84, _, k84, Try.func84, rfl, by kernel_rfl, by kernel_rfl, by kernel_rfl, rfl⟩
def r85_0 : List CO := [⟨none, (some 2), (.mv (.k (.v (.bool false))))⟩]
def r85_1 : List CO := [⟨none, (some 3), (.mv (.k (.v (.int .i64 (0)))))⟩]
def r85_2 : List CO := [⟨none, (some 4), (.mv (.t 3))⟩, ⟨none, (some 5), (.mv (.t 0))⟩, ⟨none, (some 6), (.len true (.t 5))⟩, ⟨none, (some 7), (.bin .lss .none (.t 4) (.t 6))⟩]
def r85_3 : List CO := [⟨none, (some 10), (.mv (.t 0))⟩, ⟨none, (some 11), (.mv (.t 3))⟩, ⟨none, (some 12), (.idx (.t 10) (.t 11))⟩, ⟨none, (some 13), (.bin .lss .none (.t 12) (.k (.v (.int .u8 (32)))))⟩, ⟨none, (some 14), (.mv (.t 13))⟩, ⟨(some (14, false)), (some 15), (.mv (.t 0))⟩, ⟨(some (14, false)), (some 16), (.mv (.t 3))⟩, ⟨(some (14, false)), (some 17), (.idx (.t 15) (.t 16))⟩, ⟨(some (14, false)), (some 18), (.bin .gtr .none (.t 17) (.k (.v (.int .u8 (126)))))⟩, ⟨none, (some 19), (.pick (.t 14) (.k (.v (.bool true))) (.t 18))⟩, ⟨none, (some 20), (.mv (.t 19))⟩, ⟨(some (20, false)), (some 21), (.mv (.t 0))⟩, ⟨(some (20, false)), (some 22), (.mv (.t 3))⟩, ⟨(some (20, false)), (some 23), (.idx (.t 21) (.t 22))⟩, ⟨(some (20, false)), (some 24), (.bin .eql .none (.t 23) (.k (.v (.int .u8 (35)))))⟩, ⟨none, (some 25), (.pick (.t 20) (.k (.v (.bool true))) (.t 24))⟩]
def r85_4 : List CO := [⟨none, (some 2), (.mv (.k (.v (.bool false))))⟩]
def r85_5 : List CO := [⟨none, (some 8), (.mv (.t 3))⟩, ⟨none, (some 9), (.bin .add .none (.t 8) (.k (.v (.int .i64 (1)))))⟩, ⟨none, (some 3), (.mv (.t 9))⟩]
def l85_6 : C := (.seq (.seq (.reg r85_2 [0, 3, 7]) (.cond (.t 7) .skip (.exit 0))) (.seq (.block 1 (.seq (.reg r85_3 [0, 3, 25]) (.cond (.t 25) (.seq (.reg r85_4 [2]) .ret) .skip))) (.reg r85_5 [0, 3])))
def r85_7 : List CO := [⟨none, (some 2), (.mv (.k (.v (.bool true))))⟩]
/-- loop.example/g00884/impl.isPlain -/
def c85 : C := (.seq (.reg r85_0 [0]) (.seq (.seq (.reg r85_1 [0, 3]) (.block 0 (.loop l85_6))) (.seq (.reg r85_7 [2]) .ret)))
def k85 : Nat → List Nat
  | 0 => [0]
  | 1 => [0, 3]
  | 2 => [0, 3, 7]
  | 4 => [0, 3, 25]
  | 5 => [2]
  | 3 => [0, 3]
  | 6 => [2]
  | _ => []
theorem fn85 : FnC Try.prog 85 c85 [(.tmp 2)] 26 :=
  ⟨Try.f85, _, k85, Try.func85, rfl, by kernel_rfl, by kernel_rfl, by kernel_rfl, rfl⟩
def r86_0 : List CO := [⟨none, (some 4), (.mv (.k (.v (.bool false))))⟩]
def r86_1 : List CO := [⟨none, (some 5), (.mv (.t 0))⟩, ⟨none, (some 6), (.mv (.t 1))⟩, ⟨none, (some 7), (.call 96 [(.t 5), (.t 6)])⟩, ⟨none, (some 8), (.bin .geq .none (.t 7) (.k (.v (.int .i64 (0)))))⟩, ⟨none, (some 4), (.mv (.t 8))⟩]
/-- strings.Contains -/
def c86 : C := (.seq (.reg r86_0 [0, 1]) (.seq (.reg r86_1 [4]) .ret))
def k86 : Nat → List Nat
  | 0 => [0, 1]
  | 1 => [4]
  | _ => []
theorem fn86 : FnC Try.prog 86 c86 [(.tmp 4)] 9 :=
  ⟨Try.f86, _, k86, Try.func86, rfl, by kernel_rfl, by kernel_rfl, by kernel_rfl, rfl⟩
def r87_0 : List CO := [⟨none, (some 4), (.mv (.k (.v (.slice none 0 0))))⟩]
def r87_1 : List CO := [⟨none, (some 10), (.mv (.t 1))⟩, ⟨none, (some 11), (.mks 1 (.v (.int .i64 (0))) 8 (.t 10) (.t 10))⟩, ⟨none, (some 5), (.mv (.t 11))⟩]
def r87_2 : List CO := [⟨none, (some 12), (.mv (.t 0))⟩, ⟨none, (some 13), (.len false (.t 12))⟩, ⟨none, (some 14), (.mv (.k (.v (.int .i64 (0)))))⟩]
def r87_3 : List CO := [⟨none, (some 15), (.bin .lss .none (.t 14) (.t 13))⟩]
def r87_4 : List CO := [⟨none, (some 16), (.iaddr 1 (.t 12) (.t 14))⟩, ⟨none, (some 17), (.ld false 1 (.t 16))⟩, ⟨none, (some 7), (.mv (.t 17))⟩]
def r87_5 : List CO := [⟨none, (some 18), (.mv (.t 7))⟩, ⟨none, (some 19), (.len false (.t 18))⟩, ⟨none, (some 20), (.mv (.k (.v (.int .i64 (0)))))⟩]
def r87_6 : List CO := [⟨none, (some 21), (.bin .lss .none (.t 20) (.t 19))⟩]
def r87_7 : List CO := [⟨none, (some 22), (.iaddr 1 (.t 18) (.t 20))⟩, ⟨none, (some 23), (.ld false 1 (.t 22))⟩, ⟨none, (some 9), (.mv (.t 23))⟩]
def r87_8 : List CO := [⟨none, (some 24), (.mv (.t 9))⟩, ⟨none, (some 25), (.bin .gtr .none (.t 24) (.k (.v (.int .i64 (0)))))⟩]
def r87_9 : List CO := [⟨none, (some 26), (.mv (.t 5))⟩, ⟨none, (some 27), (.mv (.t 9))⟩, ⟨none, (some 28), (.bin .sub .none (.t 27) (.k (.v (.int .i64 (1)))))⟩, ⟨none, (some 29), (.iaddr 1 (.t 26) (.t 28))⟩, ⟨none, (some 30), (.ld false 1 (.t 29))⟩, ⟨none, (some 31), (.bin .add .none (.t 30) (.k (.v (.int .i64 (1)))))⟩, ⟨none, (some 32), (.iaddr 1 (.t 26) (.t 28))⟩, ⟨none, none, (.st 1 (.t 32) (.t 31))⟩]
def r87_10 : List CO := [⟨none, (some 33), (.bin .add .none (.t 20) (.k (.v (.int .i64 (1)))))⟩, ⟨none, (some 20), (.mv (.t 33))⟩]
def l87_11 : C := (.seq (.reg r87_6 [5, 12, 13, 14, 18, 19, 20, 21]) (.seq (.cond (.t 21) .skip (.exit 2)) (.seq (.block 3 (.seq (.reg r87_7 [5, 9, 12, 13, 14, 18, 19, 20]) (.seq (.reg r87_8 [5, 9, 12, 13, 14, 18, 19, 20, 25]) (.cond (.t 25) (.reg r87_9 [5, 12, 13, 14, 18, 19, 20]) .skip)))) (.reg r87_10 [5, 12, 13, 14, 18, 19, 20]))))
def r87_12 : List CO := [⟨none, (some 34), (.bin .add .none (.t 14) (.k (.v (.int .i64 (1)))))⟩, ⟨none, (some 14), (.mv (.t 34))⟩]
def l87_13 : C := (.seq (.reg r87_3 [5, 12, 13, 14, 15]) (.seq (.cond (.t 15) .skip (.exit 0)) (.seq (.block 1 (.seq (.reg r87_4 [5, 7, 12, 13, 14]) (.seq (.reg r87_5 [5, 12, 13, 14, 18, 19, 20]) (.block 2 (.loop l87_11))))) (.reg r87_12 [5, 12, 13, 14]))))
def r87_14 : List CO := [⟨none, (some 35), (.mv (.t 5))⟩, ⟨none, (some 4), (.mv (.t 35))⟩]
/-- loop.example/g00884/impl.counted -/
def c87 : C := (.seq (.reg r87_0 [0, 1]) (.seq (.reg r87_1 [0, 5]) (.seq (.seq (.reg r87_2 [5, 12, 13, 14]) (.block 0 (.loop l87_13))) (.seq (.reg r87_14 [4]) .ret))))
def k87 : Nat → List Nat
  | 0 => [0, 1]
  | 1 => [0, 5]
  | 2 => [5, 12, 13, 14]
  | 3 => [5, 12, 13, 14, 15]
  | 4 => [5, 7, 12, 13, 14]
  | 5 => [5, 12, 13, 14, 18, 19, 20]
  | 6 => [5, 12, 13, 14, 18, 19, 20, 21]
  | 7 => [5, 9, 12, 13, 14, 18, 19, 20]
  | 8 => [5, 9, 12, 13, 14, 18, 19, 20, 25]
  | 9 => [5, 12, 13, 14, 18, 19, 20]
  | 10 => [5, 12, 13, 14, 18, 19, 20]
  | 11 => [5, 12, 13, 14]
  | 12 => [4]
  | _ => []
theorem fn87 : FnC Try.prog 87 c87 [(.tmp 4)] 36 :=
  ⟨Try.f87, _, k87, Try.func87, rfl, by kernel_rfl, by kernel_rfl, by kernel_rfl, rfl⟩
def r88_0 : List CO := [⟨none, (some 2), (.mv (.k (.v (.bool false))))⟩]
def r88_1 : List CO := [⟨none, (some 3), (.mv (.t 0))⟩, ⟨none, (some 4), (.call 61 [(.t 3), (.k (.v (.int .i64 (1)))), (.k (.v (.int .i64 (3))))])⟩, ⟨none, (some 2), (.mv (.t 4))⟩]
/-- loop.example/g00884/spec.l25By -/
def c88 : C := (.seq (.reg r88_0 [0]) (.seq (.reg r88_1 [2]) .ret))
def k88 : Nat → List Nat
  | 0 => [0]
  | 1 => [2]
  | _ => []
theorem fn88 : FnC Try.prog 88 c88 [(.tmp 2)] 5 :=
  ⟨Try.f88, _, k88, Try.func88, rfl, by kernel_rfl, by kernel_rfl, by kernel_rfl, rfl⟩
def r89_0 : List CO := [⟨none, (some 2), (.mv (.k (.v (.int .i64 (0)))))⟩]
def r89_1 : List CO := [⟨none, (some 3), (.mv (.t 0))⟩, ⟨none, (some 4), (.mv (.t 0))⟩, ⟨none, (some 5), (.un .neg (.t 4))⟩, ⟨none, (some 6), (.mm true [(.t 3), (.t 5)])⟩, ⟨none, (some 2), (.mv (.t 6))⟩]
/-- loop.example/g00884/impl.absOf -/
def c89 : C := (.seq (.reg r89_0 [0]) (.seq (.reg r89_1 [2]) .ret))
def k89 : Nat → List Nat
  | 0 => [0]
  | 1 => [2]
  | _ => []
theorem fn89 : FnC Try.prog 89 c89 [(.tmp 2)] 7 :=
  ⟨Try.f89, _, k89, Try.func89, rfl, by kernel_rfl, by kernel_rfl, by kernel_rfl, rfl⟩
def r90_0 : List CO := [⟨none, (some 2), (.mv (.k (.v (.bool false))))⟩]
def r90_1 : List CO := [⟨none, (some 3), (.mv (.t 0))⟩, ⟨none, (some 4), (.call 61 [(.t 3), (.k (.v (.int .i64 (1)))), (.k (.v (.int .i64 (5))))])⟩, ⟨none, (some 2), (.mv (.t 4))⟩]
/-- loop.example/g00884/spec.l22Rank -/
def c90 : C := (.seq (.reg r90_0 [0]) (.seq (.reg r90_1 [2]) .ret))
def k90 : Nat → List Nat
  | 0 => [0]
  | 1 => [2]
  | _ => []
theorem fn90 : FnC Try.prog 90 c90 [(.tmp 2)] 5 :=
  ⟨Try.f90, _, k90, Try.func90, rfl, by kernel_rfl, by kernel_rfl, by kernel_rfl, rfl⟩
def r91_0 : List CO := [⟨none, (some 2), (.mv (.k (.v (.bool false))))⟩]
def r91_1 : List CO := [⟨none, (some 3), (.mv (.t 0))⟩, ⟨none, (some 4), (.call 61 [(.t 3), (.k (.v (.int .i64 (1)))), (.k (.v (.int .i64 (9))))])⟩, ⟨none, (some 2), (.mv (.t 4))⟩]
/-- loop.example/g00884/spec.l2Good -/
def c91 : C := (.seq (.reg r91_0 [0]) (.seq (.reg r91_1 [2]) .ret))
def k91 : Nat → List Nat
  | 0 => [0]
  | 1 => [2]
  | _ => []
theorem fn91 : FnC Try.prog 91 c91 [(.tmp 2)] 5 :=
  ⟨Try.f91, _, k91, Try.func91, rfl, by kernel_rfl, by kernel_rfl, by kernel_rfl, rfl⟩
def r92_0 : List CO := [⟨none, (some 4), (.mv (.k (.v (.int .i64 (0)))))⟩]
def r92_1 : List CO := [⟨none, (some 6), (.mv (.t 0))⟩, ⟨none, (some 7), (.len false (.t 6))⟩, ⟨none, (some 8), (.mv (.k (.v (.int .i64 (0)))))⟩]
def r92_2 : List CO := [⟨none, (some 9), (.bin .lss .none (.t 8) (.t 7))⟩]
def r92_3 : List CO := [⟨none, (some 10), (.mv (.t 8))⟩, ⟨none, (some 5), (.mv (.t 10))⟩]
def r92_4 : List CO := [⟨none, (some 11), (.mv (.t 1))⟩, ⟨none, (some 12), (.mv (.t 0))⟩, ⟨none, (some 13), (.mv (.t 5))⟩, ⟨none, (some 14), (.iaddr 1 (.t 12) (.t 13))⟩, ⟨none, (some 15), (.ld false 1 (.t 14))⟩, ⟨none, (some 16), (.callv (.t 11) [(.t 15)])⟩]
def r92_5 : List CO := [⟨none, (some 17), (.mv (.t 5))⟩, ⟨none, (some 4), (.mv (.t 17))⟩]
def r92_6 : List CO := [⟨none, (some 18), (.bin .add .none (.t 8) (.k (.v (.int .i64 (1)))))⟩, ⟨none, (some 8), (.mv (.t 18))⟩]
def l92_7 : C := (.seq (.reg r92_2 [0, 1, 7, 8, 9]) (.seq (.cond (.t 9) .skip (.exit 0)) (.seq (.block 1 (.seq (.reg r92_3 [0, 1, 5, 7, 8]) (.seq (.reg r92_4 [0, 1, 5, 7, 8, 16]) (.cond (.t 16) (.seq (.reg r92_5 [4]) .ret) .skip)))) (.reg r92_6 [0, 1, 7, 8]))))
def r92_8 : List CO := [⟨none, (some 4), (.mv (.k (.v (.int .i64 (-1)))))⟩]
/-- slices.IndexFunc[[]int,int] -/
def c92 : C := (.seq (.reg r92_0 [0, 1]) (.seq (.seq (.reg r92_1 [0, 1, 7, 8]) (.block 0 (.loop l92_7))) (.seq (.reg r92_8 [4]) .ret)))
def k92 : Nat → List Nat
  | 0 => [0, 1]
  | 1 => [0, 1, 7, 8]
  | 2 => [0, 1, 7, 8, 9]
  | 3 => [0, 1, 5, 7, 8]
  | 4 => [0, 1, 5, 7, 8, 16]
  | 5 => [4]
  | 6 => [0, 1, 7, 8]
  | 7 => [4]
  | _ => []
theorem fn92 : FnC Try.prog 92 c92 [(.tmp 4)] 19 :=
  ⟨Try.f92, _, k92, Try.func92, rfl, by kernel_rfl, by kernel_rfl, by kernel_rfl, rfl⟩
def r93_0 : List CO := [⟨none, (some 2), (.mv (.k (.v (.bool false))))⟩]
def r93_1 : List CO := [⟨none, (some 3), (.mv (.t 0))⟩, ⟨none, (some 4), (.call 60 [(.t 3), (.k (.v (.int .i64 (0)))), (.k (.v (.int .i64 (100000))))])⟩, ⟨none, (some 5), (.un .not (.t 4))⟩, ⟨none, (some 2), (.mv (.t 5))⟩]
/-- loop.example/g00884/impl.isTariff$1 -/
def c93 : C := (.seq (.reg r93_0 [0]) (.seq (.reg r93_1 [2]) .ret))
def k93 : Nat → List Nat
  | 0 => [0]
  | 1 => [2]
  | _ => []
theorem fn93 : FnC Try.prog 93 c93 [(.tmp 2)] 6 :=
  ⟨Try.f93, _, k93, Try.func93, rfl, by kernel_rfl, by kernel_rfl, by kernel_rfl, rfl⟩
def r94_0 : List CO := [⟨none, (some 4), (.mv (.k (.v (.bool false))))⟩]
def r94_1 : List CO := [⟨none, (some 5), (.mv (.k (.v (.int .i64 (0)))))⟩]
def r94_2 : List CO := [⟨none, (some 6), (.mv (.t 5))⟩, ⟨none, (some 7), (.mv (.t 0))⟩, ⟨none, (some 8), (.len true (.t 7))⟩, ⟨none, (some 9), (.bin .lss .none (.t 6) (.t 8))⟩]
def r94_3 : List CO := [⟨none, (some 12), (.mv (.t 0))⟩, ⟨none, (some 13), (.mv (.t 5))⟩, ⟨none, (some 14), (.idx (.t 12) (.t 13))⟩, ⟨none, (some 15), (.conv (.int .i64) (.t 14))⟩, ⟨none, (some 16), (.call 61 [(.t 15), (.k (.v (.int .i64 (32)))), (.k (.v (.int .i64 (126))))])⟩, ⟨none, (some 17), (.un .not (.t 16))⟩, ⟨none, (some 18), (.mv (.t 17))⟩, ⟨(some (18, false)), (some 19), (.mv (.t 0))⟩, ⟨(some (18, false)), (some 20), (.mv (.t 5))⟩, ⟨(some (18, false)), (some 21), (.idx (.t 19) (.t 20))⟩, ⟨(some (18, false)), (some 22), (.bin .eql .none (.t 21) (.k (.v (.int .u8 (35)))))⟩, ⟨none, (some 23), (.pick (.t 18) (.k (.v (.bool true))) (.t 22))⟩]
def r94_4 : List CO := [⟨none, (some 4), (.mv (.k (.v (.bool false))))⟩]
def r94_5 : List CO := [⟨none, (some 10), (.mv (.t 5))⟩, ⟨none, (some 11), (.bin .add .none (.t 10) (.k (.v (.int .i64 (1)))))⟩, ⟨none, (some 5), (.mv (.t 11))⟩]
def l94_6 : C := (.seq (.seq (.reg r94_2 [0, 1, 5, 9]) (.cond (.t 9) .skip (.exit 0))) (.seq (.block 1 (.seq (.reg r94_3 [0, 1, 5, 23]) (.cond (.t 23) (.seq (.reg r94_4 [4]) .ret) .skip))) (.reg r94_5 [0, 1, 5])))
def r94_7 : List CO := [⟨none, (some 24), (.mv (.t 0))⟩, ⟨none, (some 25), (.len true (.t 24))⟩, ⟨none, (some 26), (.mv (.t 1))⟩, ⟨none, (some 27), (.bin .leq .none (.t 25) (.t 26))⟩, ⟨none, (some 4), (.mv (.t 27))⟩]
/-- loop.example/g00884/spec.l27Plain -/
def c94 : C := (.seq (.reg r94_0 [0, 1]) (.seq (.seq (.reg r94_1 [0, 1, 5]) (.block 0 (.loop l94_6))) (.seq (.reg r94_7 [4]) .ret)))
def k94 : Nat → List Nat
  | 0 => [0, 1]
  | 1 => [0, 1, 5]
  | 2 => [0, 1, 5, 9]
  | 4 => [0, 1, 5, 23]
  | 5 => [4]
  | 3 => [0, 1, 5]
  | 6 => [4]
  | _ => []
theorem fn94 : FnC Try.prog 94 c94 [(.tmp 4)] 28 :=
  ⟨Try.f94, _, k94, Try.func94, rfl, by kernel_rfl, by kernel_rfl, by kernel_rfl, rfl⟩
def r95_0 : List CO := [⟨none, (some 4), (.mv (.k (.v (.bool false))))⟩]
def r95_1 : List CO := [⟨none, (some 5), (.mv (.k (.v (.int .i64 (0)))))⟩]
def r95_2 : List CO := [⟨none, (some 6), (.mv (.t 5))⟩, ⟨none, (some 7), (.mv (.t 0))⟩, ⟨none, (some 8), (.len true (.t 7))⟩, ⟨none, (some 9), (.bin .lss .none (.t 6) (.t 8))⟩]
def r95_3 : List CO := [⟨none, (some 12), (.mv (.t 0))⟩, ⟨none, (some 13), (.mv (.t 5))⟩, ⟨none, (some 14), (.idx (.t 12) (.t 13))⟩, ⟨none, (some 15), (.mv (.t 1))⟩, ⟨none, (some 16), (.bin .eql .none (.t 14) (.t 15))⟩]
def r95_4 : List CO := [⟨none, (some 4), (.mv (.k (.v (.bool true))))⟩]
def r95_5 : List CO := [⟨none, (some 10), (.mv (.t 5))⟩, ⟨none, (some 11), (.bin .add .none (.t 10) (.k (.v (.int .i64 (1)))))⟩, ⟨none, (some 5), (.mv (.t 11))⟩]
def l95_6 : C := (.seq (.seq (.reg r95_2 [0, 1, 5, 9]) (.cond (.t 9) .skip (.exit 0))) (.seq (.block 1 (.seq (.reg r95_3 [0, 1, 5, 16]) (.cond (.t 16) (.seq (.reg r95_4 [4]) .ret) .skip))) (.reg r95_5 [0, 1, 5])))
def r95_7 : List CO := [⟨none, (some 4), (.mv (.k (.v (.bool false))))⟩]
/-- loop.example/g00884/spec.l1Stands -/
def c95 : C := (.seq (.reg r95_0 [0, 1]) (.seq (.seq (.reg r95_1 [0, 1, 5]) (.block 0 (.loop l95_6))) (.seq (.reg r95_7 [4]) .ret)))
def k95 : Nat → List Nat
  | 0 => [0, 1]
  | 1 => [0, 1, 5]
  | 2 => [0, 1, 5, 9]
  | 4 => [0, 1, 5, 16]
  | 5 => [4]
  | 3 => [0, 1, 5]
  | 6 => [4]
  | _ => []
theorem fn95 : FnC Try.prog 95 c95 [(.tmp 4)] 17 :=
  ⟨Try.f95, _, k95, Try.func95, rfl, by kernel_rfl, by kernel_rfl, by kernel_rfl, rfl⟩
def r96_0 : List CO := [⟨none, (some 4), (.mv (.k (.v (.int .i64 (0)))))⟩]
def r96_1 : List CO := [⟨none, (some 5), (.mv (.t 0))⟩, ⟨none, (some 6), (.mv (.t 1))⟩, ⟨none, (some 7), (.call 97 [(.t 5), (.t 6)])⟩, ⟨none, (some 4), (.mv (.t 7))⟩]
/-- strings.Index -/
def c96 : C := (.seq (.reg r96_0 [0, 1]) (.seq (.reg r96_1 [4]) .ret))
def k96 : Nat → List Nat
  | 0 => [0, 1]
  | 1 => [4]
  | _ => []
theorem fn96 : FnC Try.prog 96 c96 [(.tmp 4)] 8 :=
  ⟨Try.f96, _, k96, Try.func96, rfl, by kernel_rfl, by kernel_rfl, by kernel_rfl, rfl⟩
def r98_0 : List CO := [⟨none, (some 4), (.mv (.k (.v (.int .i64 (0)))))⟩]
def r98_1 : List CO := [⟨none, (some 5), (.mv (.t 0))⟩, ⟨none, (some 6), (.mv (.t 1))⟩, ⟨none, (some 7), (.call 102 [(.t 5), (.t 6)])⟩, ⟨none, (some 4), (.mv (.t 7))⟩]
/-- internal/stringslite.IndexByte -/
def c98 : C := (.seq (.reg r98_0 [0, 1]) (.seq (.reg r98_1 [4]) .ret))
def k98 : Nat → List Nat
  | 0 => [0, 1]
  | 1 => [4]
  | _ => []
theorem fn98 : FnC Try.prog 98 c98 [(.tmp 4)] 8 :=
  ⟨Try.f98, _, k98, Try.func98, rfl, by kernel_rfl, by kernel_rfl, by kernel_rfl, rfl⟩
def r100_0 : List CO := [⟨none, (some 2), (.mv (.k (.v (.int .i64 (0)))))⟩]
def r100_1 : List CO := [⟨none, (some 3), (.mv (.t 0))⟩, ⟨none, (some 4), (.bin .add .none (.t 3) (.k (.v (.int .i64 (16)))))⟩, ⟨none, (some 5), (.bin .quo .none (.t 4) (.k (.v (.int .i64 (8)))))⟩, ⟨none, (some 2), (.mv (.t 5))⟩]
/-- internal/bytealg.Cutover -/
def c100 : C := (.seq (.reg r100_0 [0]) (.seq (.reg r100_1 [2]) .ret))
def k100 : Nat → List Nat
  | 0 => [0]
  | 1 => [2]
  | _ => []
theorem fn100 : FnC Try.prog 100 c100 [(.tmp 2)] 6 :=
  ⟨Try.f100, _, k100, Try.func100, rfl, by kernel_rfl, by kernel_rfl, by kernel_rfl, rfl⟩
def r101_0 : List CO := [⟨none, (some 4), (.mv (.k (.v (.int .i64 (0)))))⟩]
def r101_1 : List CO := [⟨none, (some 12), (.mv (.t 1))⟩, ⟨none, (some 13), (.call 103 [(.t 12)])⟩, ⟨none, (some 11), (.mv (.t 13))⟩, ⟨none, (some 14), (.ext (.t 11) 0)⟩, ⟨none, (some 15), (.ext (.t 11) 1)⟩, ⟨none, (some 5), (.mv (.t 14))⟩, ⟨none, (some 6), (.mv (.t 15))⟩]
def r101_2 : List CO := [⟨none, (some 16), (.mv (.t 1))⟩, ⟨none, (some 17), (.len true (.t 16))⟩, ⟨none, (some 7), (.mv (.t 17))⟩]
def r101_3 : List CO := [⟨none, (some 8), (.mv (.k (.v (.int .u32 (0)))))⟩]
def r101_4 : List CO := [⟨none, (some 9), (.mv (.k (.v (.int .i64 (0)))))⟩]
def r101_5 : List CO := [⟨none, (some 18), (.mv (.t 9))⟩, ⟨none, (some 19), (.mv (.t 7))⟩, ⟨none, (some 20), (.bin .lss .none (.t 18) (.t 19))⟩]
def r101_6 : List CO := [⟨none, (some 23), (.mv (.t 8))⟩, ⟨none, (some 24), (.bin .mul .none (.t 23) (.k (.v (.int .u32 (16777619)))))⟩, ⟨none, (some 25), (.mv (.t 0))⟩, ⟨none, (some 26), (.mv (.t 9))⟩, ⟨none, (some 27), (.idx (.t 25) (.t 26))⟩, ⟨none, (some 28), (.conv (.int .u32) (.t 27))⟩, ⟨none, (some 29), (.bin .add .none (.t 24) (.t 28))⟩, ⟨none, (some 8), (.mv (.t 29))⟩]
def r101_7 : List CO := [⟨none, (some 21), (.mv (.t 9))⟩, ⟨none, (some 22), (.bin .add .none (.t 21) (.k (.v (.int .i64 (1)))))⟩, ⟨none, (some 9), (.mv (.t 22))⟩]
def l101_8 : C := (.seq (.seq (.reg r101_5 [0, 1, 5, 6, 7, 8, 9, 20]) (.cond (.t 20) .skip (.exit 0))) (.seq (.block 1 (.reg r101_6 [0, 1, 5, 6, 7, 8, 9])) (.reg r101_7 [0, 1, 5, 6, 7, 8, 9])))
def r101_9 : List CO := [⟨none, (some 30), (.mv (.t 8))⟩, ⟨none, (some 31), (.mv (.t 5))⟩, ⟨none, (some 32), (.bin .eql .none (.t 30) (.t 31))⟩, ⟨none, (some 33), (.mv (.t 32))⟩, ⟨(some (33, true)), (some 34), (.mv (.t 0))⟩, ⟨(some (33, true)), (some 35), (.mv (.t 7))⟩, ⟨(some (33, true)), (some 36), (.slc none (.t 34) none (some (.t 35)))⟩, ⟨(some (33, true)), (some 37), (.mv (.t 1))⟩, ⟨(some (33, true)), (some 38), (.bin .eql .none (.t 36) (.t 37))⟩, ⟨none, (some 39), (.pick (.t 33) (.t 38) (.k (.v (.bool false))))⟩]
def r101_10 : List CO := [⟨none, (some 4), (.mv (.k (.v (.int .i64 (0)))))⟩]
def r101_11 : List CO := [⟨none, (some 40), (.mv (.t 7))⟩, ⟨none, (some 10), (.mv (.t 40))⟩]
def r101_12 : List CO := [⟨none, (some 41), (.mv (.t 10))⟩, ⟨none, (some 42), (.mv (.t 0))⟩, ⟨none, (some 43), (.len true (.t 42))⟩, ⟨none, (some 44), (.bin .lss .none (.t 41) (.t 43))⟩]
def r101_13 : List CO := [⟨none, (some 45), (.mv (.t 8))⟩, ⟨none, (some 46), (.bin .mul .none (.t 45) (.k (.v (.int .u32 (16777619)))))⟩, ⟨none, (some 8), (.mv (.t 46))⟩]
def r101_14 : List CO := [⟨none, (some 47), (.mv (.t 8))⟩, ⟨none, (some 48), (.mv (.t 0))⟩, ⟨none, (some 49), (.mv (.t 10))⟩, ⟨none, (some 50), (.idx (.t 48) (.t 49))⟩, ⟨none, (some 51), (.conv (.int .u32) (.t 50))⟩, ⟨none, (some 52), (.bin .add .none (.t 47) (.t 51))⟩, ⟨none, (some 8), (.mv (.t 52))⟩]
def r101_15 : List CO := [⟨none, (some 53), (.mv (.t 8))⟩, ⟨none, (some 54), (.mv (.t 6))⟩, ⟨none, (some 55), (.mv (.t 0))⟩, ⟨none, (some 56), (.mv (.t 10))⟩, ⟨none, (some 57), (.mv (.t 7))⟩, ⟨none, (some 58), (.bin .sub .none (.t 56) (.t 57))⟩, ⟨none, (some 59), (.idx (.t 55) (.t 58))⟩, ⟨none, (some 60), (.conv (.int .u32) (.t 59))⟩, ⟨none, (some 61), (.bin .mul .none (.t 54) (.t 60))⟩, ⟨none, (some 62), (.bin .sub .none (.t 53) (.t 61))⟩, ⟨none, (some 8), (.mv (.t 62))⟩]
def r101_16 : List CO := [⟨none, (some 63), (.mv (.t 10))⟩, ⟨none, (some 64), (.bin .add .none (.t 63) (.k (.v (.int .i64 (1)))))⟩, ⟨none, (some 10), (.mv (.t 64))⟩]
def r101_17 : List CO := [⟨none, (some 65), (.mv (.t 8))⟩, ⟨none, (some 66), (.mv (.t 5))⟩, ⟨none, (some 67), (.bin .eql .none (.t 65) (.t 66))⟩, ⟨none, (some 68), (.mv (.t 67))⟩, ⟨(some (68, true)), (some 69), (.mv (.t 0))⟩, ⟨(some (68, true)), (some 70), (.mv (.t 10))⟩, ⟨(some (68, true)), (some 71), (.mv (.t 7))⟩, ⟨(some (68, true)), (some 72), (.bin .sub .none (.t 70) (.t 71))⟩, ⟨(some (68, true)), (some 73), (.mv (.t 10))⟩, ⟨(some (68, true)), (some 74), (.slc none (.t 69) (some (.t 72)) (some (.t 73)))⟩, ⟨(some (68, true)), (some 75), (.mv (.t 1))⟩, ⟨(some (68, true)), (some 76), (.bin .eql .none (.t 74) (.t 75))⟩, ⟨none, (some 77), (.pick (.t 68) (.t 76) (.k (.v (.bool false))))⟩]
def r101_18 : List CO := [⟨none, (some 78), (.mv (.t 10))⟩, ⟨none, (some 79), (.mv (.t 7))⟩, ⟨none, (some 80), (.bin .sub .none (.t 78) (.t 79))⟩, ⟨none, (some 4), (.mv (.t 80))⟩]
def l101_19 : C := (.seq (.seq (.reg r101_12 [0, 1, 5, 6, 7, 8, 10, 44]) (.cond (.t 44) .skip (.exit 2))) (.block 3 (.seq (.reg r101_13 [0, 1, 5, 6, 7, 8, 10]) (.seq (.reg r101_14 [0, 1, 5, 6, 7, 8, 10]) (.seq (.reg r101_15 [0, 1, 5, 6, 7, 8, 10]) (.seq (.reg r101_16 [0, 1, 5, 6, 7, 8, 10]) (.seq (.reg r101_17 [0, 1, 5, 6, 7, 8, 10, 77]) (.cond (.t 77) (.seq (.reg r101_18 [4]) .ret) .skip))))))))
def r101_20 : List CO := [⟨none, (some 4), (.mv (.k (.v (.int .i64 (-1)))))⟩]
/-- internal/bytealg.IndexRabinKarp[string] -/
def c101 : C := (.seq (.reg r101_0 [0, 1]) (.seq (.reg r101_1 [0, 1, 5, 6]) (.seq (.reg r101_2 [0, 1, 5, 6, 7]) (.seq (.reg r101_3 [0, 1, 5, 6, 7, 8]) (.seq (.seq (.reg r101_4 [0, 1, 5, 6, 7, 8, 9]) (.block 0 (.loop l101_8))) (.seq (.seq (.reg r101_9 [0, 1, 5, 6, 7, 8, 39]) (.cond (.t 39) (.seq (.reg r101_10 [4]) .ret) .skip)) (.seq (.seq (.reg r101_11 [0, 1, 5, 6, 7, 8, 10]) (.block 2 (.loop l101_19))) (.seq (.reg r101_20 [4]) .ret))))))))
def k101 : Nat → List Nat
  | 0 => [0, 1]
  | 1 => [0, 1, 5, 6]
  | 2 => [0, 1, 5, 6, 7]
  | 3 => [0, 1, 5, 6, 7, 8]
  | 4 => [0, 1, 5, 6, 7, 8, 9]
  | 5 => [0, 1, 5, 6, 7, 8, 9, 20]
  | 7 => [0, 1, 5, 6, 7, 8, 9]
  | 6 => [0, 1, 5, 6, 7, 8, 9]
  | 8 => [0, 1, 5, 6, 7, 8, 39]
  | 9 => [4]
  | 10 => [0, 1, 5, 6, 7, 8, 10]
  | 11 => [0, 1, 5, 6, 7, 8, 10, 44]
  | 12 => [0, 1, 5, 6, 7, 8, 10]
  | 13 => [0, 1, 5, 6, 7, 8, 10]
  | 14 => [0, 1, 5, 6, 7, 8, 10]
  | 15 => [0, 1, 5, 6, 7, 8, 10]
  | 16 => [0, 1, 5, 6, 7, 8, 10, 77]
  | 17 => [4]
  | 18 => [4]
  | _ => []
theorem fn101 : FnC Try.prog 101 c101 [(.tmp 4)] 81 :=
  ⟨Try.f101, _, k101, Try.func101, rfl, by kernel_rfl, by kernel_rfl, by kernel_rfl, rfl⟩
def r103_0 : List CO := [⟨none, (some 2), (.mv (.k (.v (.int .u32 (0)))))⟩, ⟨none, (some 3), (.mv (.k (.v (.int .u32 (0)))))⟩]
def r103_1 : List CO := [⟨none, (some 4), (.mv (.k (.v (.int .u32 (0)))))⟩]
def r103_2 : List CO := [⟨none, (some 5), (.mv (.k (.v (.int .i64 (0)))))⟩]
def r103_3 : List CO := [⟨none, (some 9), (.mv (.t 5))⟩, ⟨none, (some 10), (.mv (.t 0))⟩, ⟨none, (some 11), (.len true (.t 10))⟩, ⟨none, (some 12), (.bin .lss .none (.t 9) (.t 11))⟩]
def r103_4 : List CO := [⟨none, (some 15), (.mv (.t 4))⟩, ⟨none, (some 16), (.bin .mul .none (.t 15) (.k (.v (.int .u32 (16777619)))))⟩, ⟨none, (some 17), (.mv (.t 0))⟩, ⟨none, (some 18), (.mv (.t 5))⟩, ⟨none, (some 19), (.idx (.t 17) (.t 18))⟩, ⟨none, (some 20), (.conv (.int .u32) (.t 19))⟩, ⟨none, (some 21), (.bin .add .none (.t 16) (.t 20))⟩, ⟨none, (some 4), (.mv (.t 21))⟩]
def r103_5 : List CO := [⟨none, (some 13), (.mv (.t 5))⟩, ⟨none, (some 14), (.bin .add .none (.t 13) (.k (.v (.int .i64 (1)))))⟩, ⟨none, (some 5), (.mv (.t 14))⟩]
def l103_6 : C := (.seq (.seq (.reg r103_3 [0, 4, 5, 12]) (.cond (.t 12) .skip (.exit 0))) (.seq (.block 1 (.reg r103_4 [0, 4, 5])) (.reg r103_5 [0, 4, 5])))
def r103_7 : List CO := [⟨none, (some 6), (.mv (.k (.v (.int .u32 (1)))))⟩, ⟨none, (some 7), (.mv (.k (.v (.int .u32 (16777619)))))⟩]
def r103_8 : List CO := [⟨none, (some 22), (.mv (.t 0))⟩, ⟨none, (some 23), (.len true (.t 22))⟩, ⟨none, (some 8), (.mv (.t 23))⟩]
def r103_9 : List CO := [⟨none, (some 24), (.mv (.t 8))⟩, ⟨none, (some 25), (.bin .gtr .none (.t 24) (.k (.v (.int .i64 (0)))))⟩]
def r103_10 : List CO := [⟨none, (some 28), (.mv (.t 8))⟩, ⟨none, (some 29), (.bin .and .none (.t 28) (.k (.v (.int .i64 (1)))))⟩, ⟨none, (some 30), (.bin .neq .none (.t 29) (.k (.v (.int .i64 (0)))))⟩]
def r103_11 : List CO := [⟨none, (some 31), (.mv (.t 6))⟩, ⟨none, (some 32), (.mv (.t 7))⟩, ⟨none, (some 33), (.bin .mul .none (.t 31) (.t 32))⟩, ⟨none, (some 6), (.mv (.t 33))⟩]
def r103_12 : List CO := [⟨none, (some 34), (.mv (.t 7))⟩, ⟨none, (some 35), (.mv (.t 7))⟩, ⟨none, (some 36), (.bin .mul .none (.t 34) (.t 35))⟩, ⟨none, (some 7), (.mv (.t 36))⟩]
def r103_13 : List CO := [⟨none, (some 26), (.mv (.t 8))⟩, ⟨none, (some 27), (.bin .shr .none (.t 26) (.k (.v (.int .u64 (1)))))⟩, ⟨none, (some 8), (.mv (.t 27))⟩]
def l103_14 : C := (.seq (.seq (.reg r103_9 [4, 6, 7, 8, 25]) (.cond (.t 25) .skip (.exit 2))) (.seq (.block 3 (.seq (.seq (.reg r103_10 [4, 6, 7, 8, 30]) (.cond (.t 30) (.reg r103_11 [4, 6, 7, 8]) .skip)) (.reg r103_12 [4, 6, 7, 8]))) (.reg r103_13 [4, 6, 7, 8])))
def r103_15 : List CO := [⟨none, (some 37), (.mv (.t 4))⟩, ⟨none, (some 38), (.mv (.t 6))⟩, ⟨none, (some 2), (.mv (.t 37))⟩, ⟨none, (some 3), (.mv (.t 38))⟩]
/-- internal/bytealg.hashStr[string] -/
def c103 : C := (.seq (.reg r103_0 [0]) (.seq (.reg r103_1 [0, 4]) (.seq (.seq (.reg r103_2 [0, 4, 5]) (.block 0 (.loop l103_6))) (.seq (.reg r103_7 [0, 4, 6, 7]) (.seq (.seq (.reg r103_8 [4, 6, 7, 8]) (.block 2 (.loop l103_14))) (.seq (.reg r103_15 [2, 3]) .ret))))))
def k103 : Nat → List Nat
  | 0 => [0]
  | 1 => [0, 4]
  | 2 => [0, 4, 5]
  | 3 => [0, 4, 5, 12]
  | 5 => [0, 4, 5]
  | 4 => [0, 4, 5]
  | 6 => [0, 4, 6, 7]
  | 7 => [4, 6, 7, 8]
  | 8 => [4, 6, 7, 8, 25]
  | 10 => [4, 6, 7, 8, 30]
  | 11 => [4, 6, 7, 8]
  | 12 => [4, 6, 7, 8]
  | 9 => [4, 6, 7, 8]
  | 13 => [2, 3]
  | _ => []
theorem fn103 : FnC Try.prog 103 c103 [(.tmp 2), (.tmp 3)] 39 :=
  ⟨Try.f103, _, k103, Try.func103, rfl, by kernel_rfl, by kernel_rfl, by kernel_rfl, rfl⟩
end Go.Proofs.Ytaieoaahmmcnmaa
