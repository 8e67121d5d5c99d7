/- The compact code of the functions, and that it is theirs: written by a program of this claim. -/
import Derived.Test.YtgefdcllialhkaaNums
namespace Go.Proofs.Ytgefdcllialhkaa
open Go.Abs
set_option maxRecDepth 100000
def r_s_DrawCheapestRank_0 : List CO := [⟨none, (some 2), (.box 4 (.k (.agg [(.v (.slice none 0 0)), (.v (.int .i64 (0))), (.v (.int .i64 (0))), (.v (.int .i64 (0)))])))⟩]
def r_s_DrawCheapestRank_1 : List CO := [⟨none, (some 4), (.mv (.t 0))⟩, ⟨none, (some 5), (.build (.agg [(.v (.slice none 0 0)), (.v (.int .i64 (0))), (.v (.int .u64 (0)))]) [(0, (1, (.t 4)))])⟩, ⟨none, (some 6), (.box 3 (.t 5))⟩, ⟨none, (some 3), (.mv (.t 6))⟩]
def r_s_DrawCheapestRank_2 : List CO := [⟨none, (some 7), (.mv (.t 3))⟩, ⟨none, (some 8), (.call n_s_l1Cur_tariff [(.t 7)])⟩, ⟨none, none, (.st 4 (.t 2) (.t 8))⟩]
/-- loop.example/g00884/spec.DrawCheapestRank -/
def c_s_DrawCheapestRank : C := (.seq (.reg r_s_DrawCheapestRank_0 [0, 2]) (.seq (.reg r_s_DrawCheapestRank_1 [2, 3]) (.seq (.reg r_s_DrawCheapestRank_2 [2]) .ret)))
def k_s_DrawCheapestRank : Nat → List Nat
  | 0 => [0, 2]
  | 1 => [2, 3]
  | 2 => [2]
  | _ => []
theorem fn_s_DrawCheapestRank : FnC Try.prog n_s_DrawCheapestRank c_s_DrawCheapestRank [(.cell 2 true 4)] 9 :=
  ⟨Try.f37, _, k_s_DrawCheapestRank, Try.func37, rfl, by kernel_rfl, by kernel_rfl, by kernel_rfl, rfl⟩
def r_s_DrawSplitFee_0 : List CO := [⟨none, (some 2), (.mv (.k (.v (.int .i64 (0)))))⟩, ⟨none, (some 3), (.mv (.k (.v (.int .i64 (0)))))⟩]
def r_s_DrawSplitFee_1 : List CO := [⟨none, (some 5), (.mv (.t 0))⟩, ⟨none, (some 6), (.build (.agg [(.v (.slice none 0 0)), (.v (.int .i64 (0))), (.v (.int .u64 (0)))]) [(0, (1, (.t 5)))])⟩, ⟨none, (some 7), (.box 3 (.t 6))⟩, ⟨none, (some 4), (.mv (.t 7))⟩]
def r_s_DrawSplitFee_2 : List CO := [⟨none, (some 8), (.mv (.t 4))⟩, ⟨none, (some 9), (.bslice 1 (.v (.int .i64 (0))) 7 [(0, (.k (.v (.int .i64 (0))))), (1, (.k (.v (.int .i64 (1))))), (2, (.k (.v (.int .i64 (100))))), (3, (.k (.v (.int .i64 (101))))), (4, (.k (.v (.int .i64 (1000000))))), (5, (.k (.v (.int .i64 (-1))))), (6, (.k (.v (.int .i64 (1000001)))))])⟩, ⟨none, (some 10), (.mv (.t 4))⟩, ⟨none, (some 11), (.call n_s_l1Cur_pick [(.t 10), (.k (.v (.int .i64 (24))))])⟩, ⟨none, (some 12), (.bin .quo .none (.t 11) (.k (.v (.int .i64 (11)))))⟩, ⟨none, (some 13), (.bin .add .none (.k (.v (.int .i64 (5)))) (.t 12))⟩, ⟨none, (some 14), (.slc (some 1) (.t 9) none (some (.t 13)))⟩, ⟨none, (some 15), (.call n_s_l1Cur_among [(.t 8), (.t 14)])⟩, ⟨none, (some 16), (.mv (.t 4))⟩, ⟨none, (some 17), (.bslice 1 (.v (.int .i64 (0))) 7 [(0, (.k (.v (.int .i64 (1))))), (1, (.k (.v (.int .i64 (2))))), (2, (.k (.v (.int .i64 (3))))), (3, (.k (.v (.int .i64 (7))))), (4, (.k (.v (.int .i64 (12))))), (5, (.k (.v (.int .i64 (0))))), (6, (.k (.v (.int .i64 (13)))))])⟩, ⟨none, (some 18), (.mv (.t 4))⟩, ⟨none, (some 19), (.call n_s_l1Cur_pick [(.t 18), (.k (.v (.int .i64 (24))))])⟩, ⟨none, (some 20), (.bin .quo .none (.t 19) (.k (.v (.int .i64 (11)))))⟩, ⟨none, (some 21), (.bin .add .none (.k (.v (.int .i64 (5)))) (.t 20))⟩, ⟨none, (some 22), (.slc (some 1) (.t 17) none (some (.t 21)))⟩, ⟨none, (some 23), (.call n_s_l1Cur_among [(.t 16), (.t 22)])⟩, ⟨none, (some 2), (.mv (.t 15))⟩, ⟨none, (some 3), (.mv (.t 23))⟩]
/-- loop.example/g00884/spec.DrawSplitFee -/
def c_s_DrawSplitFee : C := (.seq (.reg r_s_DrawSplitFee_0 [0]) (.seq (.reg r_s_DrawSplitFee_1 [4]) (.seq (.reg r_s_DrawSplitFee_2 [2, 3]) .ret)))
def k_s_DrawSplitFee : Nat → List Nat
  | 0 => [0]
  | 1 => [4]
  | 2 => [2, 3]
  | _ => []
theorem fn_s_DrawSplitFee : FnC Try.prog n_s_DrawSplitFee c_s_DrawSplitFee [(.tmp 2), (.tmp 3)] 24 :=
  ⟨Try.f39, _, k_s_DrawSplitFee, Try.func39, rfl, by kernel_rfl, by kernel_rfl, by kernel_rfl, rfl⟩
def r_s_DrawFeeFor_0 : List CO := [⟨none, (some 2), (.box 4 (.k (.agg [(.v (.slice none 0 0)), (.v (.int .i64 (0))), (.v (.int .i64 (0))), (.v (.int .i64 (0)))])))⟩, ⟨none, (some 3), (.mv (.k (.v (.int .i64 (0)))))⟩, ⟨none, (some 4), (.box 15 (.k (.agg [(.v (.int .i64 (0))), (.v (.int .i64 (0))), (.v (.int .i64 (0))), (.v (.int .i64 (0))), (.v (.int .i64 (0))), (.v (.int .i64 (0))), (.v (.int .i64 (0))), (.v (.int .i64 (0))), (.v (.int .i64 (0))), (.v (.int .i64 (0))), (.v (.int .i64 (0))), (.v (.int .i64 (0))), (.v (.int .i64 (0))), (.v (.int .i64 (0))), (.v (.int .i64 (0)))])))⟩, ⟨none, (some 5), (.mv (.k (.v (.bool false))))⟩]
def r_s_DrawFeeFor_1 : List CO := [⟨none, (some 8), (.mv (.t 0))⟩, ⟨none, (some 9), (.build (.agg [(.v (.slice none 0 0)), (.v (.int .i64 (0))), (.v (.int .u64 (0)))]) [(0, (1, (.t 8)))])⟩, ⟨none, (some 10), (.box 3 (.t 9))⟩, ⟨none, (some 6), (.mv (.t 10))⟩]
def r_s_DrawFeeFor_2 : List CO := [⟨none, (some 11), (.mv (.t 6))⟩, ⟨none, (some 12), (.call n_s_l1Cur_tariff [(.t 11)])⟩, ⟨none, (some 7), (.box 4 (.k (.agg [(.v (.slice none 0 0)), (.v (.int .i64 (0))), (.v (.int .i64 (0))), (.v (.int .i64 (0)))])))⟩, ⟨none, none, (.st 4 (.t 7) (.t 12))⟩]
def r_s_DrawFeeFor_3 : List CO := [⟨none, (some 13), (.ld true 4 (.t 7))⟩, ⟨none, (some 14), (.mv (.t 6))⟩, ⟨none, (some 15), (.bslice 1 (.v (.int .i64 (0))) 7 [(0, (.k (.v (.int .i64 (1))))), (1, (.k (.v (.int .i64 (2))))), (2, (.k (.v (.int .i64 (3))))), (3, (.k (.v (.int .i64 (4))))), (4, (.k (.v (.int .i64 (5))))), (5, (.k (.v (.int .i64 (0))))), (6, (.k (.v (.int .i64 (6)))))])⟩, ⟨none, (some 16), (.mv (.t 6))⟩, ⟨none, (some 17), (.call n_s_l1Cur_pick [(.t 16), (.k (.v (.int .i64 (24))))])⟩, ⟨none, (some 18), (.bin .quo .none (.t 17) (.k (.v (.int .i64 (11)))))⟩, ⟨none, (some 19), (.bin .add .none (.k (.v (.int .i64 (5)))) (.t 18))⟩, ⟨none, (some 20), (.slc (some 1) (.t 15) none (some (.t 19)))⟩, ⟨none, (some 21), (.call n_s_l1Cur_among [(.t 14), (.t 20)])⟩, ⟨none, (some 22), (.mv (.t 6))⟩, ⟨none, (some 23), (.call n_s_l1Cur_anyArms [(.t 22)])⟩, ⟨none, (some 24), (.mv (.t 6))⟩, ⟨none, (some 25), (.call n_s_l1Cur_one [(.t 24), (.k (.v (.int .i64 (2))))])⟩, ⟨none, none, (.st 4 (.t 2) (.t 13))⟩, ⟨none, (some 3), (.mv (.t 21))⟩, ⟨none, none, (.st 15 (.t 4) (.t 23))⟩, ⟨none, (some 5), (.mv (.t 25))⟩]
def p_s_DrawFeeFor_3 : List (List Nat) := [[], [], [], [], [3], [3, 4], [3, 4, 5], [2, 3, 4, 5, 6], [1, 2, 3, 4, 5, 6, 7], [], [1, 2, 3, 4, 5, 6, 7, 8, 9], [], [1, 2, 3, 4, 5, 6, 7, 8, 9, 10, 11], [0, 1, 2, 3, 4, 5, 6, 7, 8, 9, 10, 11, 12], [0, 1, 2, 3, 4, 5, 6, 7, 8, 9, 10, 11, 12, 13], [0, 1, 2, 3, 4, 5, 6, 7, 8, 9, 10, 11, 12, 13, 14], [0, 1, 2, 3, 4, 5, 6, 7, 8, 9, 10, 11, 12, 13, 14, 15]]
/-- loop.example/g00884/spec.DrawFeeFor -/
def c_s_DrawFeeFor : C := (.seq (.reg r_s_DrawFeeFor_0 [0, 2, 4]) (.seq (.reg r_s_DrawFeeFor_1 [2, 4, 6]) (.seq (.reg r_s_DrawFeeFor_2 [2, 4, 6, 7]) (.seq (.regD r_s_DrawFeeFor_3 p_s_DrawFeeFor_3 [2, 3, 4, 5]) .ret))))
def k_s_DrawFeeFor : Nat → List Nat
  | 0 => [0, 2, 4]
  | 1 => [2, 4, 6]
  | 2 => [2, 4, 6, 7]
  | 3 => [2, 3, 4, 5]
  | _ => []
theorem fn_s_DrawFeeFor : FnC Try.prog n_s_DrawFeeFor c_s_DrawFeeFor [(.cell 2 true 4), (.tmp 3), (.cell 4 true 15), (.tmp 5)] 26 :=
  ⟨Try.f33, _, k_s_DrawFeeFor, Try.func33, rfl, by kernel_rfl, by kernel_rfl, by kernel_rfl, rfl⟩
end Go.Proofs.Ytgefdcllialhkaa
