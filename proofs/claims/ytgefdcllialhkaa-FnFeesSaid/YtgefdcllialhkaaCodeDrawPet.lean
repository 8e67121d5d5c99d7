/- The compact code of the functions, and that it is theirs: written by a program of this claim. -/
import Derived.Test.YtgefdcllialhkaaNums
namespace Go.Proofs.Ytgefdcllialhkaa
open Go.Abs
set_option maxRecDepth 100000
def r_s_l1Cur_petitionOf_0 : List CO := [⟨none, (some 4), (.mv (.k (.v (.int .i64 (0)))))⟩]
def r_s_l1Cur_petitionOf_1 : List CO := [⟨none, (some 5), (.mv (.t 1))⟩, ⟨none, (some 6), (.len false (.t 5))⟩, ⟨none, (some 7), (.bin .eql .none (.t 6) (.k (.v (.int .i64 (0)))))⟩, ⟨none, (some 8), (.mv (.t 7))⟩, ⟨(some (8, false)), (some 9), (.mv (.t 0))⟩, ⟨(some (8, false)), (some 10), (.call n_s_l1Cur_one [(.t 9), (.k (.v (.int .i64 (12))))])⟩, ⟨none, (some 11), (.pick (.t 8) (.k (.v (.bool true))) (.t 10))⟩]
def r_s_l1Cur_petitionOf_2 : List CO := [⟨none, (some 12), (.mv (.t 0))⟩, ⟨none, (some 13), (.bslice 1 (.v (.int .i64 (0))) 3 [(0, (.k (.v (.int .i64 (0))))), (1, (.k (.v (.int .i64 (1))))), (2, (.k (.v (.int .i64 (999)))))])⟩, ⟨none, (some 14), (.call n_s_l1Cur_among [(.t 12), (.t 13)])⟩, ⟨none, (some 4), (.mv (.t 14))⟩]
def r_s_l1Cur_petitionOf_3 : List CO := [⟨none, (some 15), (.mv (.t 1))⟩, ⟨none, (some 16), (.mv (.t 0))⟩, ⟨none, (some 17), (.mv (.t 1))⟩, ⟨none, (some 18), (.len false (.t 17))⟩, ⟨none, (some 19), (.call n_s_l1Cur_pick [(.t 16), (.t 18)])⟩, ⟨none, (some 20), (.iaddr 5 (.t 15) (.t 19))⟩, ⟨none, (some 21), (.faddr 0 (.t 20))⟩, ⟨none, (some 22), (.ld false 1 (.t 21))⟩, ⟨none, (some 4), (.mv (.t 22))⟩]
/-- (*loop.example/g00884/spec.l1Cur).petitionOf -/
def c_s_l1Cur_petitionOf : C := (.seq (.reg r_s_l1Cur_petitionOf_0 [0, 1]) (.seq (.seq (.reg r_s_l1Cur_petitionOf_1 [0, 1, 11]) (.cond (.t 11) (.seq (.reg r_s_l1Cur_petitionOf_2 [4]) .ret) .skip)) (.seq (.reg r_s_l1Cur_petitionOf_3 [4]) .ret)))
def k_s_l1Cur_petitionOf : Nat → List Nat
  | 0 => [0, 1]
  | 1 => [0, 1, 11]
  | 2 => [4]
  | 3 => [4]
  | _ => []
theorem fn_s_l1Cur_petitionOf : FnC Try.prog n_s_l1Cur_petitionOf c_s_l1Cur_petitionOf [(.tmp 4)] 23 :=
  ⟨Try.f78, _, k_s_l1Cur_petitionOf, Try.func78, rfl, by kernel_rfl, by kernel_rfl, by kernel_rfl, rfl⟩
def r_s_l1Cur_petitions_0 : List CO := [⟨none, (some 2), (.mv (.k (.v (.slice none 0 0))))⟩]
def r_s_l1Cur_petitions_1 : List CO := [⟨none, (some 9), (.bslice 5 (.agg [(.v (.int .i64 (0))), (.v (.int .i64 (0))), (.v (.int .i64 (0))), (.v (.int .i64 (0))), (.v (.int .i64 (0)))]) 0 [])⟩, ⟨none, (some 3), (.mv (.t 9))⟩]
def r_s_l1Cur_petitions_2 : List CO := [⟨none, (some 4), (.mv (.k (.v (.int .i64 (0)))))⟩]
def r_s_l1Cur_petitions_3 : List CO := [⟨none, (some 10), (.mv (.t 0))⟩, ⟨none, (some 11), (.call n_s_l1Cur_pick [(.t 10), (.k (.v (.int .i64 (6))))])⟩, ⟨none, (some 5), (.mv (.t 11))⟩]
def r_s_l1Cur_petitions_4 : List CO := [⟨none, (some 12), (.mv (.t 5))⟩, ⟨none, (some 13), (.bin .gtr .none (.t 12) (.k (.v (.int .i64 (0)))))⟩]
def r_s_l1Cur_petitions_5 : List CO := [⟨none, (some 16), (.mv (.t 4))⟩, ⟨none, (some 17), (.bin .add .none (.t 16) (.k (.v (.int .i64 (1)))))⟩, ⟨none, (some 18), (.mv (.t 0))⟩, ⟨none, (some 19), (.call n_s_l1Cur_pick [(.t 18), (.k (.v (.int .i64 (3))))])⟩, ⟨none, (some 20), (.bin .add .none (.t 17) (.t 19))⟩, ⟨none, (some 4), (.mv (.t 20))⟩]
def r_s_l1Cur_petitions_6 : List CO := [⟨none, (some 21), (.mv (.t 4))⟩, ⟨none, (some 22), (.mv (.t 0))⟩, ⟨none, (some 23), (.call n_s_l1Cur_pick [(.t 22), (.k (.v (.int .i64 (5))))])⟩, ⟨none, (some 24), (.bin .add .none (.k (.v (.int .i64 (1)))) (.t 23))⟩, ⟨none, (some 25), (.mv (.t 0))⟩, ⟨none, (some 26), (.call n_s_l1Cur_pick [(.t 25), (.k (.v (.int .i64 (60))))])⟩, ⟨none, (some 27), (.mv (.t 0))⟩, ⟨none, (some 28), (.bslice 1 (.v (.int .i64 (0))) 6 [(0, (.k (.v (.int .i64 (1))))), (1, (.k (.v (.int .i64 (1))))), (2, (.k (.v (.int .i64 (2))))), (3, (.k (.v (.int .i64 (2))))), (4, (.k (.v (.int .i64 (3))))), (5, (.k (.v (.int .i64 (4)))))])⟩, ⟨none, (some 29), (.call n_s_l1Cur_among [(.t 27), (.t 28)])⟩, ⟨none, (some 30), (.build (.agg [(.v (.int .i64 (0))), (.v (.int .i64 (0))), (.v (.int .i64 (0))), (.v (.int .i64 (0))), (.v (.int .i64 (0)))]) [(0, (1, (.t 21))), (1, (1, (.t 24))), (2, (1, (.t 26))), (3, (1, (.t 29)))])⟩, ⟨none, (some 6), (.box 5 (.k (.agg [(.v (.int .i64 (0))), (.v (.int .i64 (0))), (.v (.int .i64 (0))), (.v (.int .i64 (0))), (.v (.int .i64 (0)))])))⟩, ⟨none, none, (.st 5 (.t 6) (.t 30))⟩]
def r_s_l1Cur_petitions_7 : List CO := [⟨none, (some 31), (.mv (.t 0))⟩, ⟨none, (some 32), (.bslice 1 (.v (.int .i64 (0))) 5 [(0, (.k (.v (.int .i64 (0))))), (1, (.k (.v (.int .i64 (50))))), (2, (.k (.v (.int .i64 (100))))), (3, (.k (.v (.int .i64 (333))))), (4, (.k (.v (.int .i64 (1000)))))])⟩, ⟨none, (some 33), (.call n_s_l1Cur_among [(.t 31), (.t 32)])⟩, ⟨none, (some 34), (.faddr 4 (.t 6))⟩, ⟨none, none, (.st 1 (.t 34) (.t 33))⟩]
def r_s_l1Cur_petitions_8 : List CO := [⟨none, (some 35), (.mv (.t 3))⟩, ⟨none, (some 36), (.ld true 5 (.t 6))⟩, ⟨none, (some 37), (.bslice 5 (.agg [(.v (.int .i64 (0))), (.v (.int .i64 (0))), (.v (.int .i64 (0))), (.v (.int .i64 (0))), (.v (.int .i64 (0)))]) 1 [(0, (.t 36))])⟩, ⟨none, (some 38), (.app 5 40 (.t 35) (.t 37))⟩, ⟨none, (some 3), (.mv (.t 38))⟩]
def r_s_l1Cur_petitions_9 : List CO := [⟨none, (some 14), (.mv (.t 5))⟩, ⟨none, (some 15), (.bin .sub .none (.t 14) (.k (.v (.int .i64 (1)))))⟩, ⟨none, (some 5), (.mv (.t 15))⟩]
def l_s_l1Cur_petitions_10 : C := (.seq (.seq (.reg r_s_l1Cur_petitions_4 [0, 3, 4, 5, 13]) (.cond (.t 13) .skip (.exit 0))) (.seq (.block 1 (.seq (.reg r_s_l1Cur_petitions_5 [0, 3, 4, 5]) (.seq (.reg r_s_l1Cur_petitions_6 [0, 3, 4, 5, 6]) (.seq (.reg r_s_l1Cur_petitions_7 [0, 3, 4, 5, 6]) (.reg r_s_l1Cur_petitions_8 [0, 3, 4, 5]))))) (.reg r_s_l1Cur_petitions_9 [0, 3, 4, 5])))
def r_s_l1Cur_petitions_11 : List CO := [⟨none, (some 39), (.mv (.t 3))⟩, ⟨none, (some 40), (.len false (.t 39))⟩, ⟨none, (some 41), (.bin .eql .none (.t 40) (.k (.v (.int .i64 (0)))))⟩]
def r_s_l1Cur_petitions_12 : List CO := [⟨none, (some 42), (.mv (.t 3))⟩, ⟨none, (some 2), (.mv (.t 42))⟩]
def r_s_l1Cur_petitions_13 : List CO := [⟨none, (some 43), (.mv (.t 0))⟩, ⟨none, (some 44), (.mv (.t 3))⟩, ⟨none, (some 45), (.len false (.t 44))⟩, ⟨none, (some 46), (.call n_s_l1Cur_pick [(.t 43), (.t 45)])⟩, ⟨none, (some 7), (.mv (.t 46))⟩]
def r_s_l1Cur_petitions_14 : List CO := [⟨none, (some 47), (.mv (.t 3))⟩, ⟨none, (some 48), (.mv (.t 7))⟩, ⟨none, (some 49), (.iaddr 5 (.t 47) (.t 48))⟩, ⟨none, (some 50), (.ld true 5 (.t 49))⟩, ⟨none, (some 8), (.box 5 (.k (.agg [(.v (.int .i64 (0))), (.v (.int .i64 (0))), (.v (.int .i64 (0))), (.v (.int .i64 (0))), (.v (.int .i64 (0)))])))⟩, ⟨none, none, (.st 5 (.t 8) (.t 50))⟩]
def r_s_l1Cur_petitions_15 : List CO := [⟨none, (some 51), (.mv (.t 0))⟩, ⟨none, (some 52), (.call n_s_l1Cur_pick [(.t 51), (.k (.v (.int .i64 (40))))])⟩]
def r_s_l1Cur_petitions_16 : List CO := [⟨none, (some 54), (.bin .eql .none (.t 52) (.k (.v (.int .i64 (0)))))⟩, ⟨none, (some 53), (.mv (.t 54))⟩]
def r_s_l1Cur_petitions_17 : List CO := [⟨none, (some 55), (.mv (.t 0))⟩, ⟨none, (some 56), (.bslice 1 (.v (.int .i64 (0))) 3 [(0, (.k (.v (.int .i64 (0))))), (1, (.k (.v (.int .i64 (999))))), (2, (.k (.v (.int .i64 (1000)))))])⟩, ⟨none, (some 57), (.call n_s_l1Cur_among [(.t 55), (.t 56)])⟩, ⟨none, (some 58), (.faddr 0 (.t 8))⟩, ⟨none, none, (.st 1 (.t 58) (.t 57))⟩]
def r_s_l1Cur_petitions_18 : List CO := [⟨none, (some 60), (.bin .eql .none (.t 52) (.k (.v (.int .i64 (1)))))⟩, ⟨none, (some 59), (.mv (.t 60))⟩]
def r_s_l1Cur_petitions_19 : List CO := [⟨none, (some 61), (.mv (.t 0))⟩, ⟨none, (some 62), (.bslice 1 (.v (.int .i64 (0))) 2 [(0, (.k (.v (.int .i64 (0))))), (1, (.k (.v (.int .i64 (5)))))])⟩, ⟨none, (some 63), (.call n_s_l1Cur_among [(.t 61), (.t 62)])⟩, ⟨none, (some 64), (.faddr 3 (.t 8))⟩, ⟨none, none, (.st 1 (.t 64) (.t 63))⟩]
def r_s_l1Cur_petitions_20 : List CO := [⟨none, (some 66), (.bin .eql .none (.t 52) (.k (.v (.int .i64 (2)))))⟩, ⟨none, (some 65), (.mv (.t 66))⟩]
def r_s_l1Cur_petitions_21 : List CO := [⟨none, (some 67), (.mv (.t 0))⟩, ⟨none, (some 68), (.bslice 1 (.v (.int .i64 (0))) 3 [(0, (.k (.v (.int .i64 (-1))))), (1, (.k (.v (.int .i64 (1000000))))), (2, (.k (.v (.int .i64 (1000001)))))])⟩, ⟨none, (some 69), (.call n_s_l1Cur_among [(.t 67), (.t 68)])⟩, ⟨none, (some 70), (.faddr 4 (.t 8))⟩, ⟨none, none, (.st 1 (.t 70) (.t 69))⟩]
def r_s_l1Cur_petitions_22 : List CO := [⟨none, (some 72), (.bin .eql .none (.t 52) (.k (.v (.int .i64 (3)))))⟩, ⟨none, (some 71), (.mv (.t 72))⟩]
def r_s_l1Cur_petitions_23 : List CO := [⟨none, (some 73), (.mv (.t 0))⟩, ⟨none, (some 74), (.bslice 1 (.v (.int .i64 (0))) 3 [(0, (.k (.v (.int .i64 (-1))))), (1, (.k (.v (.int .i64 (9999))))), (2, (.k (.v (.int .i64 (10000)))))])⟩, ⟨none, (some 75), (.call n_s_l1Cur_among [(.t 73), (.t 74)])⟩, ⟨none, (some 76), (.faddr 2 (.t 8))⟩, ⟨none, none, (.st 1 (.t 76) (.t 75))⟩]
def r_s_l1Cur_petitions_24 : List CO := [⟨none, (some 78), (.bin .eql .none (.t 52) (.k (.v (.int .i64 (4)))))⟩, ⟨none, (some 77), (.mv (.t 78))⟩]
def r_s_l1Cur_petitions_25 : List CO := [⟨none, (some 79), (.mv (.t 3))⟩, ⟨none, (some 80), (.len false (.t 79))⟩, ⟨none, (some 81), (.mv (.t 0))⟩, ⟨none, (some 82), (.call n_s_l1Cur_pick [(.t 81), (.k (.v (.int .i64 (2))))])⟩, ⟨none, (some 83), (.bin .add .none (.k (.v (.int .i64 (12)))) (.t 82))⟩, ⟨none, (some 84), (.bin .lss .none (.t 80) (.t 83))⟩]
def r_s_l1Cur_petitions_26 : List CO := [⟨none, (some 85), (.mv (.t 4))⟩, ⟨none, (some 86), (.bin .add .none (.t 85) (.k (.v (.int .i64 (1)))))⟩, ⟨none, (some 4), (.mv (.t 86))⟩]
def r_s_l1Cur_petitions_27 : List CO := [⟨none, (some 87), (.mv (.t 3))⟩, ⟨none, (some 88), (.mv (.t 4))⟩, ⟨none, (some 89), (.build (.agg [(.v (.int .i64 (0))), (.v (.int .i64 (0))), (.v (.int .i64 (0))), (.v (.int .i64 (0))), (.v (.int .i64 (0)))]) [(0, (1, (.t 88))), (1, (1, (.k (.v (.int .i64 (1)))))), (3, (1, (.k (.v (.int .i64 (1))))))])⟩, ⟨none, (some 90), (.bslice 5 (.agg [(.v (.int .i64 (0))), (.v (.int .i64 (0))), (.v (.int .i64 (0))), (.v (.int .i64 (0))), (.v (.int .i64 (0)))]) 1 [(0, (.t 89))])⟩, ⟨none, (some 91), (.app 5 40 (.t 87) (.t 90))⟩, ⟨none, (some 3), (.mv (.t 91))⟩]
def l_s_l1Cur_petitions_28 : C := (.seq (.seq (.reg r_s_l1Cur_petitions_25 [0, 3, 4, 7, 8, 84]) (.cond (.t 84) .skip (.exit 3))) (.block 4 (.seq (.reg r_s_l1Cur_petitions_26 [0, 3, 4, 7, 8]) (.reg r_s_l1Cur_petitions_27 [0, 3, 4, 7, 8]))))
def r_s_l1Cur_petitions_29 : List CO := [⟨none, (some 92), (.mv (.t 3))⟩, ⟨none, (some 93), (.mv (.t 7))⟩, ⟨none, (some 94), (.ld true 5 (.t 8))⟩, ⟨none, (some 95), (.iaddr 5 (.t 92) (.t 93))⟩, ⟨none, none, (.st 5 (.t 95) (.t 94))⟩]
def r_s_l1Cur_petitions_30 : List CO := [⟨none, (some 96), (.mv (.t 3))⟩, ⟨none, (some 2), (.mv (.t 96))⟩]
/-- (*loop.example/g00884/spec.l1Cur).petitions -/
def c_s_l1Cur_petitions : C := (.seq (.reg r_s_l1Cur_petitions_0 [0]) (.seq (.reg r_s_l1Cur_petitions_1 [0, 3]) (.seq (.reg r_s_l1Cur_petitions_2 [0, 3, 4]) (.seq (.seq (.reg r_s_l1Cur_petitions_3 [0, 3, 4, 5]) (.block 0 (.loop l_s_l1Cur_petitions_10))) (.seq (.seq (.reg r_s_l1Cur_petitions_11 [0, 3, 4, 41]) (.cond (.t 41) (.seq (.reg r_s_l1Cur_petitions_12 [2]) .ret) .skip)) (.seq (.reg r_s_l1Cur_petitions_13 [0, 3, 4, 7]) (.seq (.reg r_s_l1Cur_petitions_14 [0, 3, 4, 7, 8]) (.seq (.seq (.reg r_s_l1Cur_petitions_15 [0, 3, 4, 7, 8, 52]) (.block 2 (.seq (.reg r_s_l1Cur_petitions_16 [0, 3, 4, 7, 8, 52, 53]) (.cond (.t 53) (.reg r_s_l1Cur_petitions_17 [3, 7, 8]) (.seq (.reg r_s_l1Cur_petitions_18 [0, 3, 4, 7, 8, 52, 59]) (.cond (.t 59) (.reg r_s_l1Cur_petitions_19 [3, 7, 8]) (.seq (.reg r_s_l1Cur_petitions_20 [0, 3, 4, 7, 8, 52, 65]) (.cond (.t 65) (.reg r_s_l1Cur_petitions_21 [3, 7, 8]) (.seq (.reg r_s_l1Cur_petitions_22 [0, 3, 4, 7, 8, 52, 71]) (.cond (.t 71) (.reg r_s_l1Cur_petitions_23 [3, 7, 8]) (.seq (.reg r_s_l1Cur_petitions_24 [0, 3, 4, 7, 8, 77]) (.cond (.t 77) (.block 3 (.loop l_s_l1Cur_petitions_28)) .skip)))))))))))) (.seq (.reg r_s_l1Cur_petitions_29 [3]) (.seq (.reg r_s_l1Cur_petitions_30 [2]) .ret))))))))))
def k_s_l1Cur_petitions : Nat → List Nat
  | 0 => [0]
  | 1 => [0, 3]
  | 2 => [0, 3, 4]
  | 3 => [0, 3, 4, 5]
  | 4 => [0, 3, 4, 5, 13]
  | 6 => [0, 3, 4, 5]
  | 7 => [0, 3, 4, 5, 6]
  | 8 => [0, 3, 4, 5, 6]
  | 9 => [0, 3, 4, 5]
  | 5 => [0, 3, 4, 5]
  | 10 => [0, 3, 4, 41]
  | 11 => [2]
  | 12 => [0, 3, 4, 7]
  | 13 => [0, 3, 4, 7, 8]
  | 14 => [0, 3, 4, 7, 8, 52]
  | 15 => [0, 3, 4, 7, 8, 52, 53]
  | 16 => [3, 7, 8]
  | 17 => [0, 3, 4, 7, 8, 52, 59]
  | 18 => [3, 7, 8]
  | 19 => [0, 3, 4, 7, 8, 52, 65]
  | 20 => [3, 7, 8]
  | 21 => [0, 3, 4, 7, 8, 52, 71]
  | 22 => [3, 7, 8]
  | 23 => [0, 3, 4, 7, 8, 77]
  | 24 => [0, 3, 4, 7, 8, 84]
  | 25 => [0, 3, 4, 7, 8]
  | 26 => [0, 3, 4, 7, 8]
  | 27 => [3]
  | 28 => [2]
  | _ => []
theorem fn_s_l1Cur_petitions : FnC Try.prog n_s_l1Cur_petitions c_s_l1Cur_petitions [(.tmp 2)] 97 :=
  ⟨Try.f77, _, k_s_l1Cur_petitions, Try.func77, rfl, by kernel_rfl, by kernel_rfl, by kernel_rfl, rfl⟩
end Go.Proofs.Ytgefdcllialhkaa
