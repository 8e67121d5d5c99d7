/- The compact code of the functions, and that it is theirs: written by a program of this claim. -/
import Derived.Test.YtgefdcllialhkaaNums
namespace Go.Proofs.Ytgefdcllialhkaa
open Go.Abs
set_option maxRecDepth 100000
def r_s_DrawPayPetition_0 : List CO := [⟨none, (some 2), (.mv (.k (.v (.slice none 0 0))))⟩, ⟨none, (some 3), (.mv (.k (.v (.int .i64 (0)))))⟩, ⟨none, (some 4), (.mv (.k (.v (.int .i64 (0)))))⟩, ⟨none, (some 5), (.mv (.k (.v (.int .i64 (0)))))⟩, ⟨none, (some 6), (.mv (.k (.v (.int .i64 (0)))))⟩]
def r_s_DrawPayPetition_1 : List CO := [⟨none, (some 9), (.mv (.t 0))⟩, ⟨none, (some 10), (.build (.agg [(.v (.slice none 0 0)), (.v (.int .i64 (0))), (.v (.int .u64 (0)))]) [(0, (1, (.t 9)))])⟩, ⟨none, (some 11), (.box 3 (.t 10))⟩, ⟨none, (some 7), (.mv (.t 11))⟩]
def r_s_DrawPayPetition_2 : List CO := [⟨none, (some 12), (.mv (.t 7))⟩, ⟨none, (some 13), (.call n_s_l1Cur_petitions [(.t 12)])⟩, ⟨none, (some 8), (.mv (.t 13))⟩]
def r_s_DrawPayPetition_3 : List CO := [⟨none, (some 14), (.mv (.t 8))⟩, ⟨none, (some 15), (.mv (.t 7))⟩, ⟨none, (some 16), (.mv (.t 8))⟩, ⟨none, (some 17), (.call n_s_l1Cur_petitionOf [(.t 15), (.t 16)])⟩, ⟨none, (some 18), (.mv (.t 7))⟩, ⟨none, (some 19), (.bslice 1 (.v (.int .i64 (0))) 5 [(0, (.k (.v (.int .i64 (60))))), (1, (.k (.v (.int .i64 (70))))), (2, (.k (.v (.int .i64 (9999))))), (3, (.k (.v (.int .i64 (20))))), (4, (.k (.v (.int .i64 (10000)))))])⟩, ⟨none, (some 20), (.call n_s_l1Cur_among [(.t 18), (.t 19)])⟩, ⟨none, (some 21), (.mv (.t 7))⟩, ⟨none, (some 22), (.bslice 1 (.v (.int .i64 (0))) 6 [(0, (.k (.v (.int .i64 (1))))), (1, (.k (.v (.int .i64 (50))))), (2, (.k (.v (.int .i64 (100))))), (3, (.k (.v (.int .i64 (500))))), (4, (.k (.v (.int .i64 (1000000))))), (5, (.k (.v (.int .i64 (0)))))])⟩, ⟨none, (some 23), (.call n_s_l1Cur_among [(.t 21), (.t 22)])⟩, ⟨none, (some 24), (.mv (.t 7))⟩, ⟨none, (some 25), (.bslice 1 (.v (.int .i64 (0))) 7 [(0, (.k (.v (.int .i64 (100))))), (1, (.k (.v (.int .i64 (333))))), (2, (.k (.v (.int .i64 (500))))), (3, (.k (.v (.int .i64 (1000))))), (4, (.k (.v (.int .i64 (0))))), (5, (.k (.v (.int .i64 (1000000))))), (6, (.k (.v (.int .i64 (1000001)))))])⟩, ⟨none, (some 26), (.call n_s_l1Cur_among [(.t 24), (.t 25)])⟩, ⟨none, (some 2), (.mv (.t 14))⟩, ⟨none, (some 3), (.mv (.t 17))⟩, ⟨none, (some 4), (.mv (.t 20))⟩, ⟨none, (some 5), (.mv (.t 23))⟩, ⟨none, (some 6), (.mv (.t 26))⟩]
/-- loop.example/g00884/spec.DrawPayPetition -/
def c_s_DrawPayPetition : C := (.seq (.reg r_s_DrawPayPetition_0 [0]) (.seq (.reg r_s_DrawPayPetition_1 [7]) (.seq (.reg r_s_DrawPayPetition_2 [7, 8]) (.seq (.wk (.reg r_s_DrawPayPetition_3 [2, 3, 4, 5, 6])) .ret))))
def k_s_DrawPayPetition : Nat → List Nat
  | 0 => [0]
  | 1 => [7]
  | 2 => [7, 8]
  | 3 => [999999, 2, 3, 4, 5, 6]
  | _ => []
theorem fn_s_DrawPayPetition : FnC Try.prog n_s_DrawPayPetition c_s_DrawPayPetition [(.tmp 2), (.tmp 3), (.tmp 4), (.tmp 5), (.tmp 6)] 27 :=
  ⟨Try.f21, _, k_s_DrawPayPetition, Try.func21, rfl, by kernel_rfl, by kernel_rfl, by kernel_rfl, rfl⟩
def r_s_DrawDecidePetition_0 : List CO := [⟨none, (some 2), (.mv (.k (.v (.slice none 0 0))))⟩, ⟨none, (some 3), (.box 4 (.k (.agg [(.v (.slice none 0 0)), (.v (.int .i64 (0))), (.v (.int .i64 (0))), (.v (.int .i64 (0)))])))⟩, ⟨none, (some 4), (.mv (.k (.v (.int .i64 (0)))))⟩, ⟨none, (some 5), (.mv (.k (.v (.int .i64 (0)))))⟩, ⟨none, (some 6), (.mv (.k (.v (.bool false))))⟩]
def r_s_DrawDecidePetition_1 : List CO := [⟨none, (some 10), (.mv (.t 0))⟩, ⟨none, (some 11), (.build (.agg [(.v (.slice none 0 0)), (.v (.int .i64 (0))), (.v (.int .u64 (0)))]) [(0, (1, (.t 10)))])⟩, ⟨none, (some 12), (.box 3 (.t 11))⟩, ⟨none, (some 7), (.mv (.t 12))⟩]
def r_s_DrawDecidePetition_2 : List CO := [⟨none, (some 13), (.mv (.t 7))⟩, ⟨none, (some 14), (.call n_s_l1Cur_petitions [(.t 13)])⟩, ⟨none, (some 8), (.mv (.t 14))⟩]
def r_s_DrawDecidePetition_3 : List CO := [⟨none, (some 15), (.mv (.t 7))⟩, ⟨none, (some 16), (.call n_s_l1Cur_tariff [(.t 15)])⟩, ⟨none, (some 9), (.box 4 (.k (.agg [(.v (.slice none 0 0)), (.v (.int .i64 (0))), (.v (.int .i64 (0))), (.v (.int .i64 (0)))])))⟩, ⟨none, none, (.st 4 (.t 9) (.t 16))⟩]
def r_s_DrawDecidePetition_4 : List CO := [⟨none, (some 17), (.mv (.t 8))⟩, ⟨none, (some 18), (.ld true 4 (.t 9))⟩, ⟨none, (some 19), (.mv (.t 7))⟩, ⟨none, (some 20), (.mv (.t 8))⟩, ⟨none, (some 21), (.call n_s_l1Cur_petitionOf [(.t 19), (.t 20)])⟩, ⟨none, (some 22), (.mv (.t 7))⟩, ⟨none, (some 23), (.bslice 1 (.v (.int .i64 (0))) 5 [(0, (.k (.v (.int .i64 (60))))), (1, (.k (.v (.int .i64 (70))))), (2, (.k (.v (.int .i64 (9999))))), (3, (.k (.v (.int .i64 (20))))), (4, (.k (.v (.int .i64 (10000)))))])⟩, ⟨none, (some 24), (.call n_s_l1Cur_among [(.t 22), (.t 23)])⟩, ⟨none, (some 25), (.mv (.t 7))⟩, ⟨none, (some 26), (.call n_s_l1Cur_one [(.t 25), (.k (.v (.int .i64 (2))))])⟩, ⟨none, (some 2), (.mv (.t 17))⟩, ⟨none, none, (.st 4 (.t 3) (.t 18))⟩, ⟨none, (some 4), (.mv (.t 21))⟩, ⟨none, (some 5), (.mv (.t 24))⟩, ⟨none, (some 6), (.mv (.t 26))⟩]
def p_s_DrawDecidePetition_4 : List (List Nat) := [[], [], [], [], [2, 3], [], [], [2, 3, 4, 5, 6], [], [2, 3, 4, 5, 6, 7, 8], [0, 2, 3, 4, 5, 6, 7, 8, 9], [0, 1, 2, 3, 4, 5, 6, 7, 8, 9, 10], [0, 1, 2, 3, 4, 5, 6, 7, 8, 9, 10, 11], [0, 1, 2, 3, 4, 5, 6, 7, 8, 9, 10, 11, 12], [0, 1, 2, 3, 4, 5, 6, 7, 8, 9, 10, 11, 12, 13]]
/-- loop.example/g00884/spec.DrawDecidePetition -/
def c_s_DrawDecidePetition : C := (.seq (.reg r_s_DrawDecidePetition_0 [0, 3]) (.seq (.reg r_s_DrawDecidePetition_1 [3, 7]) (.seq (.reg r_s_DrawDecidePetition_2 [3, 7, 8]) (.seq (.wk (.reg r_s_DrawDecidePetition_3 [3, 7, 8, 9])) (.seq (.regD r_s_DrawDecidePetition_4 p_s_DrawDecidePetition_4 [2, 3, 4, 5, 6]) .ret)))))
def k_s_DrawDecidePetition : Nat → List Nat
  | 0 => [0, 3]
  | 1 => [3, 7]
  | 2 => [3, 7, 8]
  | 3 => [999999, 3, 7, 8, 9]
  | 4 => [2, 3, 4, 5, 6]
  | _ => []
theorem fn_s_DrawDecidePetition : FnC Try.prog n_s_DrawDecidePetition c_s_DrawDecidePetition [(.tmp 2), (.cell 3 true 4), (.tmp 4), (.tmp 5), (.tmp 6)] 27 :=
  ⟨Try.f27, _, k_s_DrawDecidePetition, Try.func27, rfl, by kernel_rfl, by kernel_rfl, by kernel_rfl, rfl⟩
def r_s_DrawOpenPetition_0 : List CO := [⟨none, (some 2), (.mv (.k (.v (.slice none 0 0))))⟩, ⟨none, (some 3), (.mv (.k (.v (.int .i64 (0)))))⟩, ⟨none, (some 4), (.mv (.k (.v (.int .i64 (0)))))⟩]
def r_s_DrawOpenPetition_1 : List CO := [⟨none, (some 7), (.mv (.t 0))⟩, ⟨none, (some 8), (.build (.agg [(.v (.slice none 0 0)), (.v (.int .i64 (0))), (.v (.int .u64 (0)))]) [(0, (1, (.t 7)))])⟩, ⟨none, (some 9), (.box 3 (.t 8))⟩, ⟨none, (some 5), (.mv (.t 9))⟩]
def r_s_DrawOpenPetition_2 : List CO := [⟨none, (some 10), (.mv (.t 5))⟩, ⟨none, (some 11), (.call n_s_l1Cur_petitions [(.t 10)])⟩, ⟨none, (some 6), (.mv (.t 11))⟩]
def r_s_DrawOpenPetition_3 : List CO := [⟨none, (some 12), (.mv (.t 6))⟩, ⟨none, (some 13), (.mv (.t 5))⟩, ⟨none, (some 14), (.bslice 1 (.v (.int .i64 (0))) 5 [(0, (.k (.v (.int .i64 (1))))), (1, (.k (.v (.int .i64 (2))))), (2, (.k (.v (.int .i64 (5))))), (3, (.k (.v (.int .i64 (0))))), (4, (.k (.v (.int .i64 (6)))))])⟩, ⟨none, (some 15), (.mv (.t 5))⟩, ⟨none, (some 16), (.call n_s_l1Cur_pick [(.t 15), (.k (.v (.int .i64 (24))))])⟩, ⟨none, (some 17), (.bin .quo .none (.t 16) (.k (.v (.int .i64 (11)))))⟩, ⟨none, (some 18), (.bin .add .none (.k (.v (.int .i64 (3)))) (.t 17))⟩, ⟨none, (some 19), (.slc (some 1) (.t 14) none (some (.t 18)))⟩, ⟨none, (some 20), (.call n_s_l1Cur_among [(.t 13), (.t 19)])⟩, ⟨none, (some 21), (.mv (.t 5))⟩, ⟨none, (some 22), (.bslice 1 (.v (.int .i64 (0))) 5 [(0, (.k (.v (.int .i64 (0))))), (1, (.k (.v (.int .i64 (30))))), (2, (.k (.v (.int .i64 (9999))))), (3, (.k (.v (.int .i64 (-1))))), (4, (.k (.v (.int .i64 (10000)))))])⟩, ⟨none, (some 23), (.mv (.t 5))⟩, ⟨none, (some 24), (.call n_s_l1Cur_pick [(.t 23), (.k (.v (.int .i64 (24))))])⟩, ⟨none, (some 25), (.bin .quo .none (.t 24) (.k (.v (.int .i64 (11)))))⟩, ⟨none, (some 26), (.bin .add .none (.k (.v (.int .i64 (3)))) (.t 25))⟩, ⟨none, (some 27), (.slc (some 1) (.t 22) none (some (.t 26)))⟩, ⟨none, (some 28), (.call n_s_l1Cur_among [(.t 21), (.t 27)])⟩, ⟨none, (some 2), (.mv (.t 12))⟩, ⟨none, (some 3), (.mv (.t 20))⟩, ⟨none, (some 4), (.mv (.t 28))⟩]
/-- loop.example/g00884/spec.DrawOpenPetition -/
def c_s_DrawOpenPetition : C := (.seq (.reg r_s_DrawOpenPetition_0 [0]) (.seq (.reg r_s_DrawOpenPetition_1 [5]) (.seq (.reg r_s_DrawOpenPetition_2 [5, 6]) (.seq (.reg r_s_DrawOpenPetition_3 [2, 3, 4]) .ret))))
def k_s_DrawOpenPetition : Nat → List Nat
  | 0 => [0]
  | 1 => [5]
  | 2 => [5, 6]
  | 3 => [2, 3, 4]
  | _ => []
theorem fn_s_DrawOpenPetition : FnC Try.prog n_s_DrawOpenPetition c_s_DrawOpenPetition [(.tmp 2), (.tmp 3), (.tmp 4)] 29 :=
  ⟨Try.f30, _, k_s_DrawOpenPetition, Try.func30, rfl, by kernel_rfl, by kernel_rfl, by kernel_rfl, rfl⟩
def r_s_DrawOverduePetitions_0 : List CO := [⟨none, (some 2), (.mv (.k (.v (.slice none 0 0))))⟩, ⟨none, (some 3), (.mv (.k (.v (.int .i64 (0)))))⟩, ⟨none, (some 4), (.mv (.k (.v (.int .i64 (0)))))⟩]
def r_s_DrawOverduePetitions_1 : List CO := [⟨none, (some 7), (.mv (.t 0))⟩, ⟨none, (some 8), (.build (.agg [(.v (.slice none 0 0)), (.v (.int .i64 (0))), (.v (.int .u64 (0)))]) [(0, (1, (.t 7)))])⟩, ⟨none, (some 9), (.box 3 (.t 8))⟩, ⟨none, (some 5), (.mv (.t 9))⟩]
def r_s_DrawOverduePetitions_2 : List CO := [⟨none, (some 10), (.mv (.t 5))⟩, ⟨none, (some 11), (.call n_s_l1Cur_petitions [(.t 10)])⟩, ⟨none, (some 6), (.mv (.t 11))⟩]
def r_s_DrawOverduePetitions_3 : List CO := [⟨none, (some 12), (.mv (.t 6))⟩, ⟨none, (some 13), (.mv (.t 5))⟩, ⟨none, (some 14), (.bslice 1 (.v (.int .i64 (0))) 7 [(0, (.k (.v (.int .i64 (0))))), (1, (.k (.v (.int .i64 (30))))), (2, (.k (.v (.int .i64 (60))))), (3, (.k (.v (.int .i64 (100))))), (4, (.k (.v (.int .i64 (9999))))), (5, (.k (.v (.int .i64 (-1))))), (6, (.k (.v (.int .i64 (10000)))))])⟩, ⟨none, (some 15), (.mv (.t 5))⟩, ⟨none, (some 16), (.call n_s_l1Cur_pick [(.t 15), (.k (.v (.int .i64 (24))))])⟩, ⟨none, (some 17), (.bin .quo .none (.t 16) (.k (.v (.int .i64 (11)))))⟩, ⟨none, (some 18), (.bin .add .none (.k (.v (.int .i64 (5)))) (.t 17))⟩, ⟨none, (some 19), (.slc (some 1) (.t 14) none (some (.t 18)))⟩, ⟨none, (some 20), (.call n_s_l1Cur_among [(.t 13), (.t 19)])⟩, ⟨none, (some 21), (.mv (.t 5))⟩, ⟨none, (some 22), (.bslice 1 (.v (.int .i64 (0))) 4 [(0, (.k (.v (.int .i64 (0))))), (1, (.k (.v (.int .i64 (5))))), (2, (.k (.v (.int .i64 (30))))), (3, (.k (.v (.int .i64 (9999)))))])⟩, ⟨none, (some 23), (.call n_s_l1Cur_among [(.t 21), (.t 22)])⟩, ⟨none, (some 2), (.mv (.t 12))⟩, ⟨none, (some 3), (.mv (.t 20))⟩, ⟨none, (some 4), (.mv (.t 23))⟩]
/-- loop.example/g00884/spec.DrawOverduePetitions -/
def c_s_DrawOverduePetitions : C := (.seq (.reg r_s_DrawOverduePetitions_0 [0]) (.seq (.reg r_s_DrawOverduePetitions_1 [5]) (.seq (.reg r_s_DrawOverduePetitions_2 [5, 6]) (.seq (.reg r_s_DrawOverduePetitions_3 [2, 3, 4]) .ret))))
def k_s_DrawOverduePetitions : Nat → List Nat
  | 0 => [0]
  | 1 => [5]
  | 2 => [5, 6]
  | 3 => [2, 3, 4]
  | _ => []
theorem fn_s_DrawOverduePetitions : FnC Try.prog n_s_DrawOverduePetitions c_s_DrawOverduePetitions [(.tmp 2), (.tmp 3), (.tmp 4)] 24 :=
  ⟨Try.f43, _, k_s_DrawOverduePetitions, Try.func43, rfl, by kernel_rfl, by kernel_rfl, by kernel_rfl, rfl⟩
end Go.Proofs.Ytgefdcllialhkaa
