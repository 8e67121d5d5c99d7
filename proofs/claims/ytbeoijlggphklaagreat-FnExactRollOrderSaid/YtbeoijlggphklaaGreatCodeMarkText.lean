/- The compact code of the functions, and that it is theirs: written by a program of this claim. -/
import Derived.Test.YtbeoijlggphklaaGreatNums
namespace Go.Proofs.YtbeoijlggphklaaGreat
open Go.Abs
set_option maxRecDepth 100000
def r_w_markText_0 : List CO := [⟨none, (some 2), (.mv (.k (.v (.string (bs [])))))⟩]
def r_w_markText_1 : List CO := [⟨none, (some 4), (.mv (.t 0))⟩, ⟨none, (some 5), (.bin .leq .none (.t 4) (.k (.v (.int .i64 (0)))))⟩]
def r_w_markText_2 : List CO := [⟨none, (some 2), (.mv (.k (.v (.string (bs [109, 48])))))⟩]
def r_w_markText_3 : List CO := [⟨none, (some 3), (.mv (.k (.v (.string (bs [])))))⟩]
def r_w_markText_4 : List CO := [⟨none, (some 6), (.mv (.t 0))⟩, ⟨none, (some 7), (.bin .gtr .none (.t 6) (.k (.v (.int .i64 (0)))))⟩]
def r_w_markText_5 : List CO := [⟨none, (some 8), (.mv (.t 0))⟩, ⟨none, (some 9), (.bin .rem .none (.t 8) (.k (.v (.int .i64 (10)))))⟩, ⟨none, (some 10), (.bin .add .none (.k (.v (.int .i64 (48)))) (.t 9))⟩, ⟨none, (some 11), (.conv (.int .u8) (.t 10))⟩, ⟨none, (some 12), (.bslice 1 (.v (.int .u8 (0))) 1 [(0, (.t 11))])⟩, ⟨none, (some 13), (.conv .bytesStr (.t 12))⟩, ⟨none, (some 14), (.mv (.t 3))⟩, ⟨none, (some 15), (.bin .add .none (.t 13) (.t 14))⟩, ⟨none, (some 3), (.mv (.t 15))⟩]
def r_w_markText_6 : List CO := [⟨none, (some 16), (.mv (.t 0))⟩, ⟨none, (some 17), (.bin .quo .none (.t 16) (.k (.v (.int .i64 (10)))))⟩, ⟨none, (some 0), (.mv (.t 17))⟩]
def l_w_markText_7 : C := (.seq (.seq (.reg r_w_markText_4 [0, 3, 7]) (.cond (.t 7) .skip (.exit 0))) (.block 1 (.seq (.reg r_w_markText_5 [0, 3]) (.reg r_w_markText_6 [0, 3]))))
def r_w_markText_8 : List CO := [⟨none, (some 18), (.mv (.t 3))⟩, ⟨none, (some 19), (.bin .add .none (.k (.v (.string (bs [109])))) (.t 18))⟩, ⟨none, (some 2), (.mv (.t 19))⟩]
/-- loop.example/g00884/laws.markText -/
def c_w_markText : C := (.seq (.reg r_w_markText_0 [0]) (.seq (.seq (.reg r_w_markText_1 [0, 5]) (.cond (.t 5) (.seq (.reg r_w_markText_2 [2]) .ret) .skip)) (.seq (.reg r_w_markText_3 [0, 3]) (.seq (.block 0 (.loop l_w_markText_7)) (.seq (.reg r_w_markText_8 [2]) .ret)))))
def k_w_markText : Nat → List Nat
  | 0 => [0]
  | 1 => [0, 5]
  | 2 => [2]
  | 3 => [0, 3]
  | 4 => [0, 3, 7]
  | 5 => [0, 3]
  | 6 => [0, 3]
  | 7 => [2]
  | _ => []
theorem fn_w_markText : FnC Tryz.prog n_w_markText c_w_markText [(.tmp 2)] 20 :=
  ⟨Tryz.f40, _, k_w_markText, Tryz.func40, rfl, by kernel_rfl, by kernel_rfl, by kernel_rfl, rfl⟩
end Go.Proofs.YtbeoijlggphklaaGreat
