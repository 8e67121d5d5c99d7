/- The compact code of the functions, and that it is theirs: written by a program of this claim. -/
import Derived.Test.YtgefdcllialhkaaNums
namespace Go.Proofs.Ytgefdcllialhkaa
open Go.Abs
set_option maxRecDepth 100000
def r_slices_IndexFunc_i_Petition_i_Petition_0 : List CO := [⟨none, (some 4), (.mv (.k (.v (.int .i64 (0)))))⟩]
def r_slices_IndexFunc_i_Petition_i_Petition_1 : List CO := [⟨none, (some 6), (.mv (.t 0))⟩, ⟨none, (some 7), (.len false (.t 6))⟩, ⟨none, (some 8), (.mv (.k (.v (.int .i64 (0)))))⟩]
def r_slices_IndexFunc_i_Petition_i_Petition_2 : List CO := [⟨none, (some 9), (.bin .lss .none (.t 8) (.t 7))⟩]
def r_slices_IndexFunc_i_Petition_i_Petition_3 : List CO := [⟨none, (some 10), (.mv (.t 8))⟩, ⟨none, (some 5), (.mv (.t 10))⟩]
def r_slices_IndexFunc_i_Petition_i_Petition_4 : List CO := [⟨none, (some 11), (.mv (.t 1))⟩, ⟨none, (some 12), (.mv (.t 0))⟩, ⟨none, (some 13), (.mv (.t 5))⟩, ⟨none, (some 14), (.iaddr 5 (.t 12) (.t 13))⟩, ⟨none, (some 15), (.ld true 5 (.t 14))⟩, ⟨none, (some 16), (.callv (.t 11) [(.t 15)])⟩]
def r_slices_IndexFunc_i_Petition_i_Petition_5 : List CO := [⟨none, (some 17), (.mv (.t 5))⟩, ⟨none, (some 4), (.mv (.t 17))⟩]
def r_slices_IndexFunc_i_Petition_i_Petition_6 : List CO := [⟨none, (some 18), (.bin .add .none (.t 8) (.k (.v (.int .i64 (1)))))⟩, ⟨none, (some 8), (.mv (.t 18))⟩]
def l_slices_IndexFunc_i_Petition_i_Petition_7 : C := (.seq (.reg r_slices_IndexFunc_i_Petition_i_Petition_2 [0, 1, 7, 8, 9]) (.seq (.cond (.t 9) .skip (.exit 0)) (.seq (.block 1 (.seq (.reg r_slices_IndexFunc_i_Petition_i_Petition_3 [0, 1, 5, 7, 8]) (.seq (.reg r_slices_IndexFunc_i_Petition_i_Petition_4 [0, 1, 5, 7, 8, 16]) (.cond (.t 16) (.seq (.reg r_slices_IndexFunc_i_Petition_i_Petition_5 [4]) .ret) .skip)))) (.reg r_slices_IndexFunc_i_Petition_i_Petition_6 [0, 1, 7, 8]))))
def r_slices_IndexFunc_i_Petition_i_Petition_8 : List CO := [⟨none, (some 4), (.mv (.k (.v (.int .i64 (-1)))))⟩]
/-- slices.IndexFunc[[]loop.example/g00884/impl.Petition,loop.example/g00884/impl.Petition] -/
def c_slices_IndexFunc_i_Petition_i_Petition : C := (.seq (.reg r_slices_IndexFunc_i_Petition_i_Petition_0 [0, 1]) (.seq (.seq (.reg r_slices_IndexFunc_i_Petition_i_Petition_1 [0, 1, 7, 8]) (.block 0 (.loop l_slices_IndexFunc_i_Petition_i_Petition_7))) (.seq (.reg r_slices_IndexFunc_i_Petition_i_Petition_8 [4]) .ret)))
def k_slices_IndexFunc_i_Petition_i_Petition : Nat → List Nat
  | 0 => [0, 1]
  | 1 => [0, 1, 7, 8]
  | 2 => [0, 1, 7, 8, 9]
  | 3 => [0, 1, 5, 7, 8]
  | 4 => [0, 1, 5, 7, 8, 16]
  | 5 => [4]
  | 6 => [0, 1, 7, 8]
  | 7 => [4]
  | _ => []
theorem fn_slices_IndexFunc_i_Petition_i_Petition : FnC Try.prog n_slices_IndexFunc_i_Petition_i_Petition c_slices_IndexFunc_i_Petition_i_Petition [(.tmp 4)] 19 :=
  ⟨Try.f113, _, k_slices_IndexFunc_i_Petition_i_Petition, Try.func113, rfl, by kernel_rfl, by kernel_rfl, by kernel_rfl, rfl⟩
def r_s_l26Find_0 : List CO := [⟨none, (some 4), (.mv (.k (.v (.int .i64 (0)))))⟩]
def r_s_l26Find_1 : List CO := [⟨none, (some 5), (.mv (.k (.v (.int .i64 (0)))))⟩]
def r_s_l26Find_2 : List CO := [⟨none, (some 6), (.mv (.t 5))⟩, ⟨none, (some 7), (.mv (.t 0))⟩, ⟨none, (some 8), (.len false (.t 7))⟩, ⟨none, (some 9), (.bin .lss .none (.t 6) (.t 8))⟩]
def r_s_l26Find_3 : List CO := [⟨none, (some 12), (.mv (.t 0))⟩, ⟨none, (some 13), (.mv (.t 5))⟩, ⟨none, (some 14), (.iaddr 5 (.t 12) (.t 13))⟩, ⟨none, (some 15), (.faddr 0 (.t 14))⟩, ⟨none, (some 16), (.ld false 1 (.t 15))⟩, ⟨none, (some 17), (.mv (.t 1))⟩, ⟨none, (some 18), (.bin .eql .none (.t 16) (.t 17))⟩]
def r_s_l26Find_4 : List CO := [⟨none, (some 19), (.mv (.t 5))⟩, ⟨none, (some 4), (.mv (.t 19))⟩]
def r_s_l26Find_5 : List CO := [⟨none, (some 10), (.mv (.t 5))⟩, ⟨none, (some 11), (.bin .add .none (.t 10) (.k (.v (.int .i64 (1)))))⟩, ⟨none, (some 5), (.mv (.t 11))⟩]
def l_s_l26Find_6 : C := (.seq (.seq (.reg r_s_l26Find_2 [0, 1, 5, 9]) (.cond (.t 9) .skip (.exit 0))) (.seq (.block 1 (.seq (.reg r_s_l26Find_3 [0, 1, 5, 18]) (.cond (.t 18) (.seq (.reg r_s_l26Find_4 [4]) .ret) .skip))) (.reg r_s_l26Find_5 [0, 1, 5])))
def r_s_l26Find_7 : List CO := [⟨none, (some 4), (.mv (.k (.v (.int .i64 (-1)))))⟩]
/-- loop.example/g00884/spec.l26Find -/
def c_s_l26Find : C := (.seq (.reg r_s_l26Find_0 [0, 1]) (.seq (.seq (.reg r_s_l26Find_1 [0, 1, 5]) (.block 0 (.loop l_s_l26Find_6))) (.seq (.reg r_s_l26Find_7 [4]) .ret)))
def k_s_l26Find : Nat → List Nat
  | 0 => [0, 1]
  | 1 => [0, 1, 5]
  | 2 => [0, 1, 5, 9]
  | 4 => [0, 1, 5, 18]
  | 5 => [4]
  | 3 => [0, 1, 5]
  | 6 => [4]
  | _ => []
theorem fn_s_l26Find : FnC Try.prog n_s_l26Find c_s_l26Find [(.tmp 4)] 20 :=
  ⟨Try.f81, _, k_s_l26Find, Try.func81, rfl, by kernel_rfl, by kernel_rfl, by kernel_rfl, rfl⟩
def r_i_petitionIn_1_0 : List CO := [⟨none, (some 2), (.box 5 (.t 0))⟩, ⟨none, (some 3), (.mv (.k (.v (.bool false))))⟩]
def r_i_petitionIn_1_1 : List CO := [⟨none, (some 4), (.faddr 0 (.t 2))⟩, ⟨none, (some 5), (.ld false 1 (.t 4))⟩, ⟨none, (some 6), (.ld false 1 (.t 1))⟩, ⟨none, (some 7), (.bin .eql .none (.t 5) (.t 6))⟩, ⟨none, (some 3), (.mv (.t 7))⟩]
/-- loop.example/g00884/impl.petitionIn$1 -/
def c_i_petitionIn_1 : C := (.seq (.reg r_i_petitionIn_1_0 [1, 2]) (.seq (.reg r_i_petitionIn_1_1 [3]) .ret))
def k_i_petitionIn_1 : Nat → List Nat
  | 0 => [1, 2]
  | 1 => [3]
  | _ => []
theorem fn_i_petitionIn_1 : FnC Try.prog n_i_petitionIn_1 c_i_petitionIn_1 [(.tmp 3)] 8 :=
  ⟨Try.f114, _, k_i_petitionIn_1, Try.func114, rfl, by kernel_rfl, by kernel_rfl, by kernel_rfl, rfl⟩
def r_i_petitionIn_0 : List CO := [⟨none, (some 3), (.box 1 (.t 1))⟩, ⟨none, (some 4), (.mv (.k (.v (.int .i64 (0)))))⟩]
def r_i_petitionIn_1 : List CO := [⟨none, (some 5), (.mv (.t 0))⟩, ⟨none, (some 6), (.clo n_i_petitionIn_1 [(.t 3)])⟩, ⟨none, (some 7), (.call n_slices_IndexFunc_i_Petition_i_Petition [(.t 5), (.t 6)])⟩, ⟨none, (some 4), (.mv (.t 7))⟩]
/-- loop.example/g00884/impl.petitionIn -/
def c_i_petitionIn : C := (.seq (.reg r_i_petitionIn_0 [0, 3]) (.seq (.reg r_i_petitionIn_1 [4]) .ret))
def k_i_petitionIn : Nat → List Nat
  | 0 => [0, 3]
  | 1 => [4]
  | _ => []
theorem fn_i_petitionIn : FnC Try.prog n_i_petitionIn c_i_petitionIn [(.tmp 4)] 8 :=
  ⟨Try.f79, _, k_i_petitionIn, Try.func79, rfl, by kernel_rfl, by kernel_rfl, by kernel_rfl, rfl⟩
def r_s_l26With_0 : List CO := [⟨none, (some 5), (.box 5 (.t 2))⟩, ⟨none, (some 6), (.mv (.k (.v (.slice none 0 0))))⟩]
def r_s_l26With_1 : List CO := [⟨none, (some 8), (.bslice 5 (.agg [(.v (.int .i64 (0))), (.v (.int .i64 (0))), (.v (.int .i64 (0))), (.v (.int .i64 (0))), (.v (.int .i64 (0)))]) 0 [])⟩, ⟨none, (some 9), (.mv (.t 0))⟩, ⟨none, (some 10), (.app 5 40 (.t 8) (.t 9))⟩, ⟨none, (some 7), (.mv (.t 10))⟩]
def r_s_l26With_2 : List CO := [⟨none, (some 11), (.mv (.t 7))⟩, ⟨none, (some 12), (.mv (.t 1))⟩, ⟨none, (some 13), (.ld true 5 (.t 5))⟩, ⟨none, (some 14), (.iaddr 5 (.t 11) (.t 12))⟩, ⟨none, none, (.st 5 (.t 14) (.t 13))⟩]
def r_s_l26With_3 : List CO := [⟨none, (some 15), (.mv (.t 7))⟩, ⟨none, (some 6), (.mv (.t 15))⟩]
/-- loop.example/g00884/spec.l26With -/
def c_s_l26With : C := (.seq (.reg r_s_l26With_0 [0, 1, 5]) (.seq (.reg r_s_l26With_1 [1, 5, 7]) (.seq (.reg r_s_l26With_2 [7]) (.seq (.reg r_s_l26With_3 [6]) .ret))))
def k_s_l26With : Nat → List Nat
  | 0 => [0, 1, 5]
  | 1 => [1, 5, 7]
  | 2 => [7]
  | 3 => [6]
  | _ => []
theorem fn_s_l26With : FnC Try.prog n_s_l26With c_s_l26With [(.tmp 6)] 16 :=
  ⟨Try.f83, _, k_s_l26With, Try.func83, rfl, by kernel_rfl, by kernel_rfl, by kernel_rfl, rfl⟩
end Go.Proofs.Ytgefdcllialhkaa
