/- The compact code of the functions, and that it is theirs: written by a program of this claim. -/
import Derived.Test.YtcfmohcpfmedaaaDoorNums
namespace Go.Proofs.YtcfmohcpfmedaaaDoor
open Go.Abs
set_option maxRecDepth 100000
def r_w_markText_0 : List CO := [⟨none, (some 2), (.mv (.k (.v (.string (bs [])))))⟩]
def r_w_markText_1 : List CO := [⟨none, (some 4), (.mv (.t 0))⟩, ⟨none, (some 5), (.bin .leq .none (.t 4) (.k (.v (.int .i64 (0)))))⟩]
def r_w_markText_2 : List CO := [⟨none, (some 2), (.mv (.k (.v (.string (bs [109, 48])))))⟩]
def r_w_markText_3 : List CO := [⟨none, (some 3), (.mv (.k (.v (.string (bs [])))))⟩]
def r_w_markText_4 : List CO := [⟨none, (some 6), (.mv (.t 0))⟩, ⟨none, (some 7), (.bin .gtr .none (.t 6) (.k (.v (.int .i64 (0)))))⟩]
def r_w_markText_5 : List CO := [⟨none, (some 8), (.mv (.t 0))⟩, ⟨none, (some 9), (.bin .rem .none (.t 8) (.k (.v (.int .i64 (10)))))⟩, ⟨none, (some 10), (.bin .add .none (.k (.v (.int .i64 (48)))) (.t 9))⟩, ⟨none, (some 11), (.conv (.int .u8) (.t 10))⟩, ⟨none, (some 12), (.bslice 1 (.v (.int .u8 (0))) 1 [(0, (.t 11))])⟩, ⟨none, (some 13), (.conv .bytesStr (.t 12))⟩, ⟨none, (some 14), (.mv (.t 3))⟩, ⟨none, (some 15), (.bin .add .none (.t 13) (.t 14))⟩, ⟨none, (some 3), (.mv (.t 15))⟩]
def r_w_markText_6 : List CO := [⟨none, (some 16), (.mv (.t 0))⟩, ⟨none, (some 17), (.bin .quo .none (.t 16) (.k (.v (.int .i64 (10)))))⟩, ⟨none, (some 0), (.mv (.t 17))⟩]
def l_w_markText_7 : C := (.seq (.seq (.reg r_w_markText_4 [0, 3, 7]) (.cond (.t 7) .skip (.exit 0))) (.block 1 (.seq (.reg r_w_markText_5 [0, 3]) (.reg r_w_markText_6 [0, 3]))))
def r_w_markText_8 : List CO := [⟨none, (some 18), (.mv (.t 3))⟩, ⟨none, (some 19), (.bin .add .none (.k (.v (.string (bs [109])))) (.t 18))⟩, ⟨none, (some 2), (.mv (.t 19))⟩]
/-- loop.example/g00884/laws.markText -/
def c_w_markText : C := (.seq (.reg r_w_markText_0 [0]) (.seq (.seq (.reg r_w_markText_1 [0, 5]) (.cond (.t 5) (.seq (.reg r_w_markText_2 [2]) .ret) .skip)) (.seq (.reg r_w_markText_3 [0, 3]) (.seq (.block 0 (.loop l_w_markText_7)) (.seq (.reg r_w_markText_8 [2]) .ret)))))
def k_w_markText : Nat → List Nat
  | 0 => [0]
  | 1 => [0, 5]
  | 2 => [2]
  | 3 => [0, 3]
  | 4 => [0, 3, 7]
  | 5 => [0, 3]
  | 6 => [0, 3]
  | 7 => [2]
  | _ => []
theorem fn_w_markText : FnC Tryd.prog n_w_markText c_w_markText [(.tmp 2)] 20 :=
  ⟨Tryd.f28, _, k_w_markText, Tryd.func28, rfl, by kernel_rfl, by kernel_rfl, by kernel_rfl, rfl⟩
def r_w_eqStringS_0 : List CO := [⟨none, (some 4), (.mv (.k (.v (.bool false))))⟩]
def r_w_eqStringS_1 : List CO := [⟨none, (some 6), (.mv (.t 0))⟩, ⟨none, (some 7), (.len false (.t 6))⟩, ⟨none, (some 8), (.mv (.t 1))⟩, ⟨none, (some 9), (.len false (.t 8))⟩, ⟨none, (some 10), (.bin .neq .none (.t 7) (.t 9))⟩]
def r_w_eqStringS_2 : List CO := [⟨none, (some 4), (.mv (.k (.v (.bool false))))⟩]
def r_w_eqStringS_3 : List CO := [⟨none, (some 5), (.mv (.k (.v (.int .i64 (0)))))⟩]
def r_w_eqStringS_4 : List CO := [⟨none, (some 11), (.mv (.t 5))⟩, ⟨none, (some 12), (.mv (.t 0))⟩, ⟨none, (some 13), (.len false (.t 12))⟩, ⟨none, (some 14), (.bin .lss .none (.t 11) (.t 13))⟩]
def r_w_eqStringS_5 : List CO := [⟨none, (some 17), (.mv (.t 0))⟩, ⟨none, (some 18), (.mv (.t 5))⟩, ⟨none, (some 19), (.iaddr 1 (.t 17) (.t 18))⟩, ⟨none, (some 20), (.ld false 1 (.t 19))⟩, ⟨none, (some 21), (.mv (.t 1))⟩, ⟨none, (some 22), (.mv (.t 5))⟩, ⟨none, (some 23), (.iaddr 1 (.t 21) (.t 22))⟩, ⟨none, (some 24), (.ld false 1 (.t 23))⟩, ⟨none, (some 25), (.bin .neq .none (.t 20) (.t 24))⟩]
def p_w_eqStringS_5 : List (List Nat) := [[], [], [0, 1], [0, 1, 2], [], [], [4, 5], [4, 5, 6], [0, 1, 2, 3, 4, 5, 6, 7]]
def r_w_eqStringS_6 : List CO := [⟨none, (some 4), (.mv (.k (.v (.bool false))))⟩]
def r_w_eqStringS_7 : List CO := [⟨none, (some 15), (.mv (.t 5))⟩, ⟨none, (some 16), (.bin .add .none (.t 15) (.k (.v (.int .i64 (1)))))⟩, ⟨none, (some 5), (.mv (.t 16))⟩]
def l_w_eqStringS_8 : C := (.seq (.seq (.reg r_w_eqStringS_4 [0, 1, 5, 14]) (.cond (.t 14) .skip (.exit 0))) (.seq (.block 1 (.seq (.regD r_w_eqStringS_5 p_w_eqStringS_5 [0, 1, 5, 25]) (.cond (.t 25) (.seq (.reg r_w_eqStringS_6 [4]) .ret) .skip))) (.reg r_w_eqStringS_7 [0, 1, 5])))
def r_w_eqStringS_9 : List CO := [⟨none, (some 4), (.mv (.k (.v (.bool true))))⟩]
/-- loop.example/g00884/laws.eqStringS -/
def c_w_eqStringS : C := (.seq (.reg r_w_eqStringS_0 [0, 1]) (.seq (.seq (.reg r_w_eqStringS_1 [0, 1, 10]) (.cond (.t 10) (.seq (.reg r_w_eqStringS_2 [4]) .ret) .skip)) (.seq (.seq (.reg r_w_eqStringS_3 [0, 1, 5]) (.block 0 (.loop l_w_eqStringS_8))) (.seq (.reg r_w_eqStringS_9 [4]) .ret))))
def k_w_eqStringS : Nat → List Nat
  | 0 => [0, 1]
  | 1 => [0, 1, 10]
  | 2 => [4]
  | 3 => [0, 1, 5]
  | 4 => [0, 1, 5, 14]
  | 6 => [0, 1, 5, 25]
  | 7 => [4]
  | 5 => [0, 1, 5]
  | 8 => [4]
  | _ => []
theorem fn_w_eqStringS : FnC Tryd.prog n_w_eqStringS c_w_eqStringS [(.tmp 4)] 26 :=
  ⟨Tryd.f11, _, k_w_eqStringS, Tryd.func11, rfl, by kernel_rfl, by kernel_rfl, by kernel_rfl, rfl⟩
def r_w_markStringS_0 : List CO := [⟨none, (some 4), (.mv (.k (.v (.int .i64 (0)))))⟩]
def r_w_markStringS_1 : List CO := [⟨none, (some 5), (.mv (.k (.v (.int .i64 (0)))))⟩]
def r_w_markStringS_2 : List CO := [⟨none, (some 6), (.mv (.t 5))⟩, ⟨none, (some 7), (.mv (.t 0))⟩, ⟨none, (some 8), (.len false (.t 7))⟩, ⟨none, (some 9), (.bin .lss .none (.t 6) (.t 8))⟩]
def r_w_markStringS_3 : List CO := [⟨none, (some 12), (.mv (.t 0))⟩, ⟨none, (some 13), (.mv (.t 5))⟩, ⟨none, (some 14), (.mv (.t 1))⟩, ⟨none, (some 15), (.call n_w_markText [(.t 14)])⟩, ⟨none, (some 16), (.iaddr 1 (.t 12) (.t 13))⟩, ⟨none, none, (.st 1 (.t 16) (.t 15))⟩]
def r_w_markStringS_4 : List CO := [⟨none, (some 17), (.mv (.t 1))⟩, ⟨none, (some 18), (.bin .add .none (.t 17) (.k (.v (.int .i64 (1)))))⟩, ⟨none, (some 1), (.mv (.t 18))⟩]
def r_w_markStringS_5 : List CO := [⟨none, (some 10), (.mv (.t 5))⟩, ⟨none, (some 11), (.bin .add .none (.t 10) (.k (.v (.int .i64 (1)))))⟩, ⟨none, (some 5), (.mv (.t 11))⟩]
def l_w_markStringS_6 : C := (.seq (.seq (.reg r_w_markStringS_2 [0, 1, 5, 9]) (.cond (.t 9) .skip (.exit 0))) (.seq (.block 1 (.seq (.reg r_w_markStringS_3 [0, 1, 5]) (.reg r_w_markStringS_4 [0, 1, 5]))) (.reg r_w_markStringS_5 [0, 1, 5])))
def r_w_markStringS_7 : List CO := [⟨none, (some 19), (.mv (.t 1))⟩, ⟨none, (some 4), (.mv (.t 19))⟩]
/-- loop.example/g00884/laws.markStringS -/
def c_w_markStringS : C := (.seq (.reg r_w_markStringS_0 [0, 1]) (.seq (.seq (.reg r_w_markStringS_1 [0, 1, 5]) (.block 0 (.loop l_w_markStringS_6))) (.seq (.reg r_w_markStringS_7 [4]) .ret)))
def k_w_markStringS : Nat → List Nat
  | 0 => [0, 1]
  | 1 => [0, 1, 5]
  | 2 => [0, 1, 5, 9]
  | 4 => [0, 1, 5]
  | 5 => [0, 1, 5]
  | 3 => [0, 1, 5]
  | 6 => [4]
  | _ => []
theorem fn_w_markStringS : FnC Tryd.prog n_w_markStringS c_w_markStringS [(.tmp 4)] 20 :=
  ⟨Tryd.f12, _, k_w_markStringS, Tryd.func12, rfl, by kernel_rfl, by kernel_rfl, by kernel_rfl, rfl⟩
def r_w_heldStringS_0 : List CO := [⟨none, (some 4), (.mv (.k (.v (.int .i64 (0)))))⟩]
def r_w_heldStringS_1 : List CO := [⟨none, (some 5), (.mv (.k (.v (.int .i64 (0)))))⟩]
def r_w_heldStringS_2 : List CO := [⟨none, (some 6), (.mv (.t 5))⟩, ⟨none, (some 7), (.mv (.t 0))⟩, ⟨none, (some 8), (.len false (.t 7))⟩, ⟨none, (some 9), (.bin .lss .none (.t 6) (.t 8))⟩]
def r_w_heldStringS_3 : List CO := [⟨none, (some 12), (.mv (.t 0))⟩, ⟨none, (some 13), (.mv (.t 5))⟩, ⟨none, (some 14), (.iaddr 1 (.t 12) (.t 13))⟩, ⟨none, (some 15), (.ld false 1 (.t 14))⟩, ⟨none, (some 16), (.mv (.t 1))⟩, ⟨none, (some 17), (.call n_w_markText [(.t 16)])⟩, ⟨none, (some 18), (.bin .neq .none (.t 15) (.t 17))⟩]
def p_w_heldStringS_3 : List (List Nat) := [[], [], [0, 1], [0, 1, 2], [], [4], [0, 1, 2, 3, 4, 5]]
def r_w_heldStringS_4 : List CO := [⟨none, (some 4), (.mv (.k (.v (.int .i64 (-1)))))⟩]
def r_w_heldStringS_5 : List CO := [⟨none, (some 19), (.mv (.t 1))⟩, ⟨none, (some 20), (.bin .add .none (.t 19) (.k (.v (.int .i64 (1)))))⟩, ⟨none, (some 1), (.mv (.t 20))⟩]
def r_w_heldStringS_6 : List CO := [⟨none, (some 10), (.mv (.t 5))⟩, ⟨none, (some 11), (.bin .add .none (.t 10) (.k (.v (.int .i64 (1)))))⟩, ⟨none, (some 5), (.mv (.t 11))⟩]
def l_w_heldStringS_7 : C := (.seq (.seq (.reg r_w_heldStringS_2 [0, 1, 5, 9]) (.cond (.t 9) .skip (.exit 0))) (.seq (.block 1 (.seq (.seq (.regD r_w_heldStringS_3 p_w_heldStringS_3 [0, 1, 5, 18]) (.cond (.t 18) (.seq (.reg r_w_heldStringS_4 [4]) .ret) .skip)) (.reg r_w_heldStringS_5 [0, 1, 5]))) (.reg r_w_heldStringS_6 [0, 1, 5])))
def r_w_heldStringS_8 : List CO := [⟨none, (some 21), (.mv (.t 1))⟩, ⟨none, (some 4), (.mv (.t 21))⟩]
/-- loop.example/g00884/laws.heldStringS -/
def c_w_heldStringS : C := (.seq (.reg r_w_heldStringS_0 [0, 1]) (.seq (.seq (.reg r_w_heldStringS_1 [0, 1, 5]) (.block 0 (.loop l_w_heldStringS_7))) (.seq (.reg r_w_heldStringS_8 [4]) .ret)))
def k_w_heldStringS : Nat → List Nat
  | 0 => [0, 1]
  | 1 => [0, 1, 5]
  | 2 => [0, 1, 5, 9]
  | 4 => [0, 1, 5, 18]
  | 5 => [4]
  | 6 => [0, 1, 5]
  | 3 => [0, 1, 5]
  | 7 => [4]
  | _ => []
theorem fn_w_heldStringS : FnC Tryd.prog n_w_heldStringS c_w_heldStringS [(.tmp 4)] 22 :=
  ⟨Tryd.f13, _, k_w_heldStringS, Tryd.func13, rfl, by kernel_rfl, by kernel_rfl, by kernel_rfl, rfl⟩
end Go.Proofs.YtcfmohcpfmedaaaDoor
