/- The compact code of the functions, and that it is theirs: written by a program of this claim. -/
import Derived.Test.YtgefdcllialhkaaNums
namespace Go.Proofs.Ytgefdcllialhkaa
open Go.Abs
set_option maxRecDepth 100000
def r_s_l1Least_0 : List CO := [⟨none, (some 4), (.mv (.k (.v (.int .i64 (0)))))⟩]
def r_s_l1Least_1 : List CO := [⟨none, (some 5), (.mv (.t 0))⟩, ⟨none, (some 6), (.mv (.t 1))⟩, ⟨none, (some 7), (.bin .lss .none (.t 5) (.t 6))⟩]
def r_s_l1Least_2 : List CO := [⟨none, (some 8), (.mv (.t 0))⟩, ⟨none, (some 4), (.mv (.t 8))⟩]
def r_s_l1Least_3 : List CO := [⟨none, (some 9), (.mv (.t 1))⟩, ⟨none, (some 4), (.mv (.t 9))⟩]
/-- loop.example/g00884/spec.l1Least -/
def c_s_l1Least : C := (.seq (.reg r_s_l1Least_0 [0, 1]) (.seq (.seq (.reg r_s_l1Least_1 [0, 1, 7]) (.cond (.t 7) (.seq (.reg r_s_l1Least_2 [4]) .ret) .skip)) (.seq (.reg r_s_l1Least_3 [4]) .ret)))
def k_s_l1Least : Nat → List Nat
  | 0 => [0, 1]
  | 1 => [0, 1, 7]
  | 2 => [4]
  | 3 => [4]
  | _ => []
theorem fn_s_l1Least : FnC Try.prog n_s_l1Least c_s_l1Least [(.tmp 4)] 10 :=
  ⟨Try.f71, _, k_s_l1Least, Try.func71, rfl, by kernel_rfl, by kernel_rfl, by kernel_rfl, rfl⟩
def r_s_PayPetition_0 : List CO := [⟨none, (some 10), (.mv (.k (.v (.slice none 0 0))))⟩, ⟨none, (some 11), (.mv (.k (.v (.int .i64 (0)))))⟩, ⟨none, (some 12), (.mv (.k (.v (.bool false))))⟩]
def r_s_PayPetition_1 : List CO := [⟨none, (some 16), (.mv (.t 0))⟩, ⟨none, (some 17), (.mv (.t 1))⟩, ⟨none, (some 18), (.call n_s_l26Find [(.t 16), (.t 17)])⟩, ⟨none, (some 13), (.mv (.t 18))⟩]
def r_s_PayPetition_2 : List CO := [⟨none, (some 19), (.mv (.t 0))⟩, ⟨none, (some 20), (.call n_s_l26Good [(.t 19)])⟩, ⟨none, (some 21), (.un .not (.t 20))⟩, ⟨none, (some 22), (.mv (.t 21))⟩, ⟨(some (22, false)), (some 23), (.mv (.t 13))⟩, ⟨(some (22, false)), (some 24), (.bin .lss .none (.t 23) (.k (.v (.int .i64 (0)))))⟩, ⟨none, (some 25), (.pick (.t 22) (.k (.v (.bool true))) (.t 24))⟩, ⟨none, (some 26), (.mv (.t 25))⟩, ⟨(some (26, false)), (some 27), (.mv (.t 3))⟩, ⟨(some (26, false)), (some 28), (.call n_s_l1In [(.t 27), (.k (.v (.int .i64 (1)))), (.k (.v (.int .i64 (1000000))))])⟩, ⟨(some (26, false)), (some 29), (.un .not (.t 28))⟩, ⟨none, (some 30), (.pick (.t 26) (.k (.v (.bool true))) (.t 29))⟩, ⟨none, (some 31), (.mv (.t 30))⟩, ⟨(some (31, false)), (some 32), (.mv (.t 4))⟩, ⟨(some (31, false)), (some 33), (.call n_s_l1In [(.t 32), (.k (.v (.int .i64 (0)))), (.k (.v (.int .i64 (1000000))))])⟩, ⟨(some (31, false)), (some 34), (.un .not (.t 33))⟩, ⟨none, (some 35), (.pick (.t 31) (.k (.v (.bool true))) (.t 34))⟩]
def r_s_PayPetition_3 : List CO := [⟨none, (some 36), (.bslice 5 (.agg [(.v (.int .i64 (0))), (.v (.int .i64 (0))), (.v (.int .i64 (0))), (.v (.int .i64 (0))), (.v (.int .i64 (0)))]) 0 [])⟩, ⟨none, (some 10), (.mv (.t 36))⟩, ⟨none, (some 11), (.mv (.k (.v (.int .i64 (0)))))⟩, ⟨none, (some 12), (.mv (.k (.v (.bool false))))⟩]
def r_s_PayPetition_4 : List CO := [⟨none, (some 37), (.mv (.t 0))⟩, ⟨none, (some 38), (.mv (.t 13))⟩, ⟨none, (some 39), (.iaddr 5 (.t 37) (.t 38))⟩, ⟨none, (some 40), (.ld true 5 (.t 39))⟩, ⟨none, (some 14), (.box 5 (.k (.agg [(.v (.int .i64 (0))), (.v (.int .i64 (0))), (.v (.int .i64 (0))), (.v (.int .i64 (0))), (.v (.int .i64 (0)))])))⟩, ⟨none, none, (.st 5 (.t 14) (.t 40))⟩]
def r_s_PayPetition_5 : List CO := [⟨none, (some 41), (.faddr 3 (.t 14))⟩, ⟨none, (some 42), (.ld false 1 (.t 41))⟩, ⟨none, (some 43), (.bin .neq .none (.t 42) (.k (.v (.int .i64 (1)))))⟩, ⟨none, (some 44), (.mv (.t 43))⟩, ⟨(some (44, false)), (some 45), (.mv (.t 2))⟩, ⟨(some (44, false)), (some 46), (.faddr 2 (.t 14))⟩, ⟨(some (44, false)), (some 47), (.ld false 1 (.t 46))⟩, ⟨(some (44, false)), (some 48), (.call n_s_l1In [(.t 45), (.t 47), (.k (.v (.int .i64 (9999))))])⟩, ⟨(some (44, false)), (some 49), (.un .not (.t 48))⟩, ⟨none, (some 50), (.pick (.t 44) (.k (.v (.bool true))) (.t 49))⟩, ⟨none, (some 51), (.mv (.t 50))⟩, ⟨(some (51, false)), (some 52), (.faddr 4 (.t 14))⟩, ⟨(some (51, false)), (some 53), (.ld false 1 (.t 52))⟩, ⟨(some (51, false)), (some 54), (.mv (.t 4))⟩, ⟨(some (51, false)), (some 55), (.bin .gtr .none (.t 53) (.t 54))⟩, ⟨none, (some 56), (.pick (.t 51) (.k (.v (.bool true))) (.t 55))⟩]
def r_s_PayPetition_6 : List CO := [⟨none, (some 57), (.bslice 5 (.agg [(.v (.int .i64 (0))), (.v (.int .i64 (0))), (.v (.int .i64 (0))), (.v (.int .i64 (0))), (.v (.int .i64 (0)))]) 0 [])⟩, ⟨none, (some 10), (.mv (.t 57))⟩, ⟨none, (some 11), (.mv (.k (.v (.int .i64 (0)))))⟩, ⟨none, (some 12), (.mv (.k (.v (.bool false))))⟩]
def r_s_PayPetition_7 : List CO := [⟨none, (some 58), (.mv (.t 3))⟩, ⟨none, (some 59), (.mv (.t 4))⟩, ⟨none, (some 60), (.faddr 4 (.t 14))⟩, ⟨none, (some 61), (.ld false 1 (.t 60))⟩, ⟨none, (some 62), (.bin .sub .none (.t 59) (.t 61))⟩, ⟨none, (some 63), (.call n_s_l1Least [(.t 58), (.t 62)])⟩, ⟨none, (some 15), (.mv (.t 63))⟩]
def r_s_PayPetition_8 : List CO := [⟨none, (some 64), (.faddr 4 (.t 14))⟩, ⟨none, (some 65), (.ld false 1 (.t 64))⟩, ⟨none, (some 66), (.mv (.t 15))⟩, ⟨none, (some 67), (.bin .add .none (.t 65) (.t 66))⟩, ⟨none, (some 68), (.faddr 4 (.t 14))⟩, ⟨none, none, (.st 1 (.t 68) (.t 67))⟩]
def r_s_PayPetition_9 : List CO := [⟨none, (some 69), (.mv (.t 2))⟩, ⟨none, (some 70), (.faddr 2 (.t 14))⟩, ⟨none, none, (.st 1 (.t 70) (.t 69))⟩]
def r_s_PayPetition_10 : List CO := [⟨none, (some 71), (.faddr 4 (.t 14))⟩, ⟨none, (some 72), (.ld false 1 (.t 71))⟩, ⟨none, (some 73), (.mv (.t 4))⟩, ⟨none, (some 74), (.bin .eql .none (.t 72) (.t 73))⟩]
def r_s_PayPetition_11 : List CO := [⟨none, (some 75), (.faddr 3 (.t 14))⟩, ⟨none, none, (.st 1 (.t 75) (.k (.v (.int .i64 (2)))))⟩]
def r_s_PayPetition_12 : List CO := [⟨none, (some 76), (.mv (.t 0))⟩, ⟨none, (some 77), (.mv (.t 13))⟩, ⟨none, (some 78), (.ld true 5 (.t 14))⟩, ⟨none, (some 79), (.call n_s_l26With [(.t 76), (.t 77), (.t 78)])⟩, ⟨none, (some 80), (.mv (.t 3))⟩, ⟨none, (some 81), (.mv (.t 15))⟩, ⟨none, (some 82), (.bin .sub .none (.t 80) (.t 81))⟩, ⟨none, (some 10), (.mv (.t 79))⟩, ⟨none, (some 11), (.mv (.t 82))⟩, ⟨none, (some 12), (.mv (.k (.v (.bool true))))⟩]
/-- loop.example/g00884/spec.PayPetition -/
def c_s_PayPetition : C := (.seq (.reg r_s_PayPetition_0 [0, 1, 2, 3, 4]) (.seq (.reg r_s_PayPetition_1 [0, 2, 3, 4, 13]) (.seq (.seq (.reg r_s_PayPetition_2 [0, 2, 3, 4, 13, 35]) (.cond (.t 35) (.seq (.reg r_s_PayPetition_3 [10, 11, 12]) .ret) .skip)) (.seq (.reg r_s_PayPetition_4 [0, 2, 3, 4, 13, 14]) (.seq (.seq (.reg r_s_PayPetition_5 [0, 2, 3, 4, 13, 14, 56]) (.cond (.t 56) (.seq (.reg r_s_PayPetition_6 [10, 11, 12]) .ret) .skip)) (.seq (.reg r_s_PayPetition_7 [0, 2, 3, 4, 13, 14, 15]) (.seq (.reg r_s_PayPetition_8 [0, 2, 3, 4, 13, 14, 15]) (.seq (.reg r_s_PayPetition_9 [0, 3, 4, 13, 14, 15]) (.seq (.seq (.reg r_s_PayPetition_10 [0, 3, 13, 14, 15, 74]) (.cond (.t 74) (.reg r_s_PayPetition_11 [0, 3, 13, 14, 15]) .skip)) (.seq (.reg r_s_PayPetition_12 [10, 11, 12]) .ret))))))))))
def k_s_PayPetition : Nat → List Nat
  | 0 => [0, 1, 2, 3, 4]
  | 1 => [0, 2, 3, 4, 13]
  | 2 => [0, 2, 3, 4, 13, 35]
  | 3 => [10, 11, 12]
  | 4 => [0, 2, 3, 4, 13, 14]
  | 5 => [0, 2, 3, 4, 13, 14, 56]
  | 6 => [10, 11, 12]
  | 7 => [0, 2, 3, 4, 13, 14, 15]
  | 8 => [0, 2, 3, 4, 13, 14, 15]
  | 9 => [0, 3, 4, 13, 14, 15]
  | 10 => [0, 3, 13, 14, 15, 74]
  | 11 => [0, 3, 13, 14, 15]
  | 12 => [10, 11, 12]
  | _ => []
theorem fn_s_PayPetition : FnC Try.prog n_s_PayPetition c_s_PayPetition [(.tmp 10), (.tmp 11), (.tmp 12)] 83 :=
  ⟨Try.f23, _, k_s_PayPetition, Try.func23, rfl, by kernel_rfl, by kernel_rfl, by kernel_rfl, rfl⟩
def r_i_PayPetition_0 : List CO := [⟨none, (some 10), (.mv (.k (.v (.slice none 0 0))))⟩, ⟨none, (some 11), (.mv (.k (.v (.int .i64 (0)))))⟩, ⟨none, (some 12), (.mv (.k (.v (.bool false))))⟩]
def r_i_PayPetition_1 : List CO := [⟨none, (some 17), (.mv (.t 0))⟩, ⟨none, (some 18), (.mv (.t 1))⟩, ⟨none, (some 19), (.call n_i_petitionIn [(.t 17), (.t 18)])⟩, ⟨none, (some 13), (.mv (.t 19))⟩]
def r_i_PayPetition_2 : List CO := [⟨none, (some 20), (.mv (.t 0))⟩, ⟨none, (some 21), (.call n_i_IsValidPetitions [(.t 20)])⟩, ⟨none, (some 22), (.un .not (.t 21))⟩, ⟨none, (some 23), (.mv (.t 22))⟩, ⟨(some (23, false)), (some 24), (.mv (.t 13))⟩, ⟨(some (23, false)), (some 25), (.bin .lss .none (.t 24) (.k (.v (.int .i64 (0)))))⟩, ⟨none, (some 26), (.pick (.t 23) (.k (.v (.bool true))) (.t 25))⟩, ⟨none, (some 27), (.mv (.t 26))⟩, ⟨(some (27, false)), (some 28), (.mv (.t 3))⟩, ⟨(some (27, false)), (some 29), (.call n_i_inside [(.t 28), (.k (.v (.int .i64 (1)))), (.k (.v (.int .i64 (1000000))))])⟩, ⟨(some (27, false)), (some 30), (.un .not (.t 29))⟩, ⟨none, (some 31), (.pick (.t 27) (.k (.v (.bool true))) (.t 30))⟩, ⟨none, (some 32), (.mv (.t 31))⟩, ⟨(some (32, false)), (some 33), (.mv (.t 4))⟩, ⟨(some (32, false)), (some 34), (.call n_i_inside [(.t 33), (.k (.v (.int .i64 (0)))), (.k (.v (.int .i64 (1000000))))])⟩, ⟨(some (32, false)), (some 35), (.un .not (.t 34))⟩, ⟨none, (some 36), (.pick (.t 32) (.k (.v (.bool true))) (.t 35))⟩]
def r_i_PayPetition_3 : List CO := [⟨none, (some 10), (.mv (.k (.v (.slice none 0 0))))⟩, ⟨none, (some 11), (.mv (.k (.v (.int .i64 (0)))))⟩, ⟨none, (some 12), (.mv (.k (.v (.bool false))))⟩]
def r_i_PayPetition_4 : List CO := [⟨none, (some 37), (.mv (.t 0))⟩, ⟨none, (some 38), (.mv (.t 13))⟩, ⟨none, (some 39), (.iaddr 5 (.t 37) (.t 38))⟩, ⟨none, (some 40), (.ld true 5 (.t 39))⟩, ⟨none, (some 14), (.box 5 (.k (.agg [(.v (.int .i64 (0))), (.v (.int .i64 (0))), (.v (.int .i64 (0))), (.v (.int .i64 (0))), (.v (.int .i64 (0)))])))⟩, ⟨none, none, (.st 5 (.t 14) (.t 40))⟩]
def r_i_PayPetition_5 : List CO := [⟨none, (some 41), (.faddr 3 (.t 14))⟩, ⟨none, (some 42), (.ld false 1 (.t 41))⟩, ⟨none, (some 43), (.bin .neq .none (.t 42) (.k (.v (.int .i64 (1)))))⟩, ⟨none, (some 44), (.mv (.t 43))⟩, ⟨(some (44, false)), (some 45), (.mv (.t 2))⟩, ⟨(some (44, false)), (some 46), (.faddr 2 (.t 14))⟩, ⟨(some (44, false)), (some 47), (.ld false 1 (.t 46))⟩, ⟨(some (44, false)), (some 48), (.call n_i_inside [(.t 45), (.t 47), (.k (.v (.int .i64 (9999))))])⟩, ⟨(some (44, false)), (some 49), (.un .not (.t 48))⟩, ⟨none, (some 50), (.pick (.t 44) (.k (.v (.bool true))) (.t 49))⟩, ⟨none, (some 51), (.mv (.t 50))⟩, ⟨(some (51, false)), (some 52), (.faddr 4 (.t 14))⟩, ⟨(some (51, false)), (some 53), (.ld false 1 (.t 52))⟩, ⟨(some (51, false)), (some 54), (.mv (.t 4))⟩, ⟨(some (51, false)), (some 55), (.bin .gtr .none (.t 53) (.t 54))⟩, ⟨none, (some 56), (.pick (.t 51) (.k (.v (.bool true))) (.t 55))⟩]
def r_i_PayPetition_6 : List CO := [⟨none, (some 10), (.mv (.k (.v (.slice none 0 0))))⟩, ⟨none, (some 11), (.mv (.k (.v (.int .i64 (0)))))⟩, ⟨none, (some 12), (.mv (.k (.v (.bool false))))⟩]
def r_i_PayPetition_7 : List CO := [⟨none, (some 57), (.mv (.t 0))⟩, ⟨none, (some 58), (.call n_slices_Clone_i_Petition_i_Petition [(.t 57)])⟩, ⟨none, (some 15), (.mv (.t 58))⟩]
def r_i_PayPetition_8 : List CO := [⟨none, (some 59), (.mv (.t 3))⟩, ⟨none, (some 60), (.mv (.t 4))⟩, ⟨none, (some 61), (.mv (.t 15))⟩, ⟨none, (some 62), (.mv (.t 13))⟩, ⟨none, (some 63), (.iaddr 5 (.t 61) (.t 62))⟩, ⟨none, (some 64), (.faddr 4 (.t 63))⟩, ⟨none, (some 65), (.ld false 1 (.t 64))⟩, ⟨none, (some 66), (.bin .sub .none (.t 60) (.t 65))⟩, ⟨none, (some 67), (.mm false [(.t 59), (.t 66)])⟩, ⟨none, (some 16), (.mv (.t 67))⟩]
def r_i_PayPetition_9 : List CO := [⟨none, (some 68), (.mv (.t 15))⟩, ⟨none, (some 69), (.mv (.t 13))⟩, ⟨none, (some 70), (.mv (.t 15))⟩, ⟨none, (some 71), (.mv (.t 13))⟩, ⟨none, (some 72), (.mv (.t 15))⟩, ⟨none, (some 73), (.mv (.t 13))⟩, ⟨none, (some 74), (.iaddr 5 (.t 72) (.t 73))⟩, ⟨none, (some 75), (.faddr 4 (.t 74))⟩, ⟨none, (some 76), (.ld false 1 (.t 75))⟩, ⟨none, (some 77), (.mv (.t 16))⟩, ⟨none, (some 78), (.bin .add .none (.t 76) (.t 77))⟩, ⟨none, (some 79), (.mv (.t 2))⟩, ⟨none, (some 80), (.iaddr 5 (.t 68) (.t 69))⟩, ⟨none, (some 81), (.faddr 4 (.t 80))⟩, ⟨none, none, (.st 1 (.t 81) (.t 78))⟩, ⟨none, (some 82), (.iaddr 5 (.t 70) (.t 71))⟩, ⟨none, (some 83), (.faddr 2 (.t 82))⟩, ⟨none, none, (.st 1 (.t 83) (.t 79))⟩]
def r_i_PayPetition_10 : List CO := [⟨none, (some 84), (.mv (.t 15))⟩, ⟨none, (some 85), (.mv (.t 13))⟩, ⟨none, (some 86), (.iaddr 5 (.t 84) (.t 85))⟩, ⟨none, (some 87), (.faddr 4 (.t 86))⟩, ⟨none, (some 88), (.ld false 1 (.t 87))⟩, ⟨none, (some 89), (.mv (.t 4))⟩, ⟨none, (some 90), (.bin .eql .none (.t 88) (.t 89))⟩]
def r_i_PayPetition_11 : List CO := [⟨none, (some 91), (.mv (.t 15))⟩, ⟨none, (some 92), (.mv (.t 13))⟩, ⟨none, (some 93), (.iaddr 5 (.t 91) (.t 92))⟩, ⟨none, (some 94), (.faddr 3 (.t 93))⟩, ⟨none, none, (.st 1 (.t 94) (.k (.v (.int .i64 (2)))))⟩]
def r_i_PayPetition_12 : List CO := [⟨none, (some 95), (.mv (.t 15))⟩, ⟨none, (some 96), (.mv (.t 3))⟩, ⟨none, (some 97), (.mv (.t 16))⟩, ⟨none, (some 98), (.bin .sub .none (.t 96) (.t 97))⟩, ⟨none, (some 10), (.mv (.t 95))⟩, ⟨none, (some 11), (.mv (.t 98))⟩, ⟨none, (some 12), (.mv (.k (.v (.bool true))))⟩]
/-- loop.example/g00884/impl.PayPetition -/
def c_i_PayPetition : C := (.seq (.reg r_i_PayPetition_0 [0, 1, 2, 3, 4]) (.seq (.reg r_i_PayPetition_1 [0, 2, 3, 4, 13]) (.seq (.seq (.reg r_i_PayPetition_2 [0, 2, 3, 4, 13, 36]) (.cond (.t 36) (.seq (.reg r_i_PayPetition_3 [10, 11, 12]) .ret) .skip)) (.seq (.seq (.reg r_i_PayPetition_4 [0, 2, 3, 4, 13, 14]) (.seq (.reg r_i_PayPetition_5 [0, 2, 3, 4, 13, 56]) (.cond (.t 56) (.seq (.reg r_i_PayPetition_6 [10, 11, 12]) .ret) .skip))) (.seq (.reg r_i_PayPetition_7 [2, 3, 4, 13, 15]) (.seq (.reg r_i_PayPetition_8 [2, 3, 4, 13, 15, 16]) (.seq (.reg r_i_PayPetition_9 [3, 4, 13, 15, 16]) (.seq (.seq (.reg r_i_PayPetition_10 [3, 13, 15, 16, 90]) (.cond (.t 90) (.reg r_i_PayPetition_11 [3, 15, 16]) .skip)) (.seq (.reg r_i_PayPetition_12 [10, 11, 12]) .ret)))))))))
def k_i_PayPetition : Nat → List Nat
  | 0 => [0, 1, 2, 3, 4]
  | 1 => [0, 2, 3, 4, 13]
  | 2 => [0, 2, 3, 4, 13, 36]
  | 3 => [10, 11, 12]
  | 4 => [0, 2, 3, 4, 13, 14]
  | 5 => [0, 2, 3, 4, 13, 56]
  | 6 => [10, 11, 12]
  | 7 => [2, 3, 4, 13, 15]
  | 8 => [2, 3, 4, 13, 15, 16]
  | 9 => [3, 4, 13, 15, 16]
  | 10 => [3, 13, 15, 16, 90]
  | 11 => [3, 15, 16]
  | 12 => [10, 11, 12]
  | _ => []
theorem fn_i_PayPetition : FnC Try.prog n_i_PayPetition c_i_PayPetition [(.tmp 10), (.tmp 11), (.tmp 12)] 99 :=
  ⟨Try.f22, _, k_i_PayPetition, Try.func22, rfl, by kernel_rfl, by kernel_rfl, by kernel_rfl, rfl⟩
end Go.Proofs.Ytgefdcllialhkaa
