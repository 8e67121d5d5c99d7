/- The compact code of the functions, and that it is theirs: written by a program of this claim. -/
import Derived.Test.YtopcfaffljjnbaaDoorNums
namespace Go.Proofs.YtopcfaffljjnbaaDoor
open Go.Abs
set_option maxRecDepth 100000
def r_i_wrapped_0 : List CO := [⟨none, (some 4), (.mv (.k (.v (.slice none 0 0))))⟩]
def r_i_wrapped_1 : List CO := [⟨none, (some 9), (.bslice 1 (.v (.string (bs []))) 0 [])⟩, ⟨none, (some 5), (.mv (.t 9))⟩]
def r_i_wrapped_2 : List CO := [⟨none, (some 10), (.mv (.t 0))⟩, ⟨none, (some 11), (.call n_strings_Split [(.t 10), (.k (.v (.string (bs [32]))))])⟩, ⟨none, (some 12), (.len false (.t 11))⟩, ⟨none, (some 13), (.mv (.k (.v (.int .i64 (0)))))⟩]
def r_i_wrapped_3 : List CO := [⟨none, (some 14), (.bin .lss .none (.t 13) (.t 12))⟩]
def r_i_wrapped_4 : List CO := [⟨none, (some 15), (.iaddr 1 (.t 11) (.t 13))⟩, ⟨none, (some 16), (.ld false 1 (.t 15))⟩, ⟨none, (some 7), (.mv (.t 16))⟩]
def r_i_wrapped_5 : List CO := [⟨none, (some 17), (.mv (.t 5))⟩, ⟨none, (some 18), (.len false (.t 17))⟩, ⟨none, (some 8), (.mv (.t 18))⟩]
def r_i_wrapped_6 : List CO := [⟨none, (some 19), (.mv (.t 8))⟩, ⟨none, (some 20), (.bin .gtr .none (.t 19) (.k (.v (.int .i64 (0)))))⟩, ⟨none, (some 21), (.mv (.t 20))⟩, ⟨(some (21, true)), (some 22), (.mv (.t 5))⟩, ⟨(some (21, true)), (some 23), (.mv (.t 8))⟩, ⟨(some (21, true)), (some 24), (.bin .sub .none (.t 23) (.k (.v (.int .i64 (1)))))⟩, ⟨(some (21, true)), (some 25), (.iaddr 1 (.t 22) (.t 24))⟩, ⟨(some (21, true)), (some 26), (.ld false 1 (.t 25))⟩, ⟨(some (21, true)), (some 27), (.len true (.t 26))⟩, ⟨(some (21, true)), (some 28), (.bin .add .none (.t 27) (.k (.v (.int .i64 (1)))))⟩, ⟨(some (21, true)), (some 29), (.mv (.t 7))⟩, ⟨(some (21, true)), (some 30), (.len true (.t 29))⟩, ⟨(some (21, true)), (some 31), (.bin .add .none (.t 28) (.t 30))⟩, ⟨(some (21, true)), (some 32), (.mv (.t 1))⟩, ⟨(some (21, true)), (some 33), (.bin .leq .none (.t 31) (.t 32))⟩, ⟨none, (some 34), (.pick (.t 21) (.t 33) (.k (.v (.bool false))))⟩]
def r_i_wrapped_7 : List CO := [⟨none, (some 35), (.mv (.t 5))⟩, ⟨none, (some 36), (.mv (.t 8))⟩, ⟨none, (some 37), (.bin .sub .none (.t 36) (.k (.v (.int .i64 (1)))))⟩, ⟨none, (some 38), (.iaddr 1 (.t 35) (.t 37))⟩, ⟨none, (some 39), (.ld false 1 (.t 38))⟩, ⟨none, (some 40), (.mv (.t 7))⟩, ⟨none, (some 41), (.bin .add .none (.k (.v (.string (bs [32])))) (.t 40))⟩, ⟨none, (some 42), (.bin .add .none (.t 39) (.t 41))⟩, ⟨none, (some 43), (.iaddr 1 (.t 35) (.t 37))⟩, ⟨none, none, (.st 1 (.t 43) (.t 42))⟩]
def r_i_wrapped_8 : List CO := [⟨none, (some 44), (.mv (.t 5))⟩, ⟨none, (some 45), (.mv (.t 7))⟩, ⟨none, (some 46), (.bslice 1 (.v (.string (bs []))) 1 [(0, (.t 45))])⟩, ⟨none, (some 47), (.app 1 16 (.t 44) (.t 46))⟩, ⟨none, (some 5), (.mv (.t 47))⟩]
def r_i_wrapped_9 : List CO := [⟨none, (some 48), (.bin .add .none (.t 13) (.k (.v (.int .i64 (1)))))⟩, ⟨none, (some 13), (.mv (.t 48))⟩]
def l_i_wrapped_10 : C := (.seq (.reg r_i_wrapped_3 [1, 5, 11, 12, 13, 14]) (.seq (.cond (.t 14) .skip (.exit 0)) (.seq (.block 1 (.seq (.reg r_i_wrapped_4 [1, 5, 7, 11, 12, 13]) (.seq (.reg r_i_wrapped_5 [1, 5, 7, 8, 11, 12, 13]) (.seq (.reg r_i_wrapped_6 [1, 5, 7, 8, 11, 12, 13, 34]) (.cond (.t 34) (.reg r_i_wrapped_7 [1, 5, 11, 12, 13]) (.reg r_i_wrapped_8 [1, 5, 11, 12, 13])))))) (.reg r_i_wrapped_9 [1, 5, 11, 12, 13]))))
def r_i_wrapped_11 : List CO := [⟨none, (some 49), (.mv (.t 5))⟩, ⟨none, (some 4), (.mv (.t 49))⟩]
/-- loop.example/g00884/impl.wrapped -/
def c_i_wrapped : C := (.seq (.reg r_i_wrapped_0 [0, 1]) (.seq (.reg r_i_wrapped_1 [0, 1, 5]) (.seq (.seq (.reg r_i_wrapped_2 [1, 5, 11, 12, 13]) (.block 0 (.loop l_i_wrapped_10))) (.seq (.reg r_i_wrapped_11 [4]) .ret))))
def k_i_wrapped : Nat → List Nat
  | 0 => [0, 1]
  | 1 => [0, 1, 5]
  | 2 => [1, 5, 11, 12, 13]
  | 3 => [1, 5, 11, 12, 13, 14]
  | 4 => [1, 5, 7, 11, 12, 13]
  | 5 => [1, 5, 7, 8, 11, 12, 13]
  | 6 => [1, 5, 7, 8, 11, 12, 13, 34]
  | 7 => [1, 5, 11, 12, 13]
  | 8 => [1, 5, 11, 12, 13]
  | 9 => [1, 5, 11, 12, 13]
  | 10 => [4]
  | _ => []
theorem fn_i_wrapped : FnC Tryd.prog n_i_wrapped c_i_wrapped [(.tmp 4)] 50 :=
  ⟨Tryd.f22, _, k_i_wrapped, Tryd.func22, rfl, by kernel_rfl, by kernel_rfl, by kernel_rfl, rfl⟩
def r_s_l23Fill_0 : List CO := [⟨none, (some 4), (.mv (.k (.v (.slice none 0 0))))⟩]
def r_s_l23Fill_1 : List CO := [⟨none, (some 9), (.mv (.t 0))⟩, ⟨none, (some 10), (.call n_s_l1Split [(.t 9), (.k (.v (.int .u8 (32))))])⟩, ⟨none, (some 5), (.mv (.t 10))⟩]
def r_s_l23Fill_2 : List CO := [⟨none, (some 11), (.bslice 1 (.v (.string (bs []))) 0 [])⟩, ⟨none, (some 6), (.mv (.t 11))⟩]
def r_s_l23Fill_3 : List CO := [⟨none, (some 7), (.mv (.k (.v (.int .i64 (0)))))⟩]
def r_s_l23Fill_4 : List CO := [⟨none, (some 12), (.mv (.t 7))⟩, ⟨none, (some 13), (.mv (.t 5))⟩, ⟨none, (some 14), (.len false (.t 13))⟩, ⟨none, (some 15), (.bin .lss .none (.t 12) (.t 14))⟩]
def r_s_l23Fill_5 : List CO := [⟨none, (some 16), (.mv (.t 7))⟩, ⟨none, (some 17), (.bin .add .none (.t 16) (.k (.v (.int .i64 (1)))))⟩, ⟨none, (some 8), (.mv (.t 17))⟩]
def r_s_l23Fill_6 : List CO := [⟨none, (some 18), (.mv (.t 8))⟩, ⟨none, (some 19), (.mv (.t 5))⟩, ⟨none, (some 20), (.len false (.t 19))⟩, ⟨none, (some 21), (.bin .lss .none (.t 18) (.t 20))⟩, ⟨none, (some 22), (.mv (.t 21))⟩, ⟨(some (22, true)), (some 23), (.mv (.t 5))⟩, ⟨(some (22, true)), (some 24), (.mv (.t 7))⟩, ⟨(some (22, true)), (some 25), (.mv (.t 8))⟩, ⟨(some (22, true)), (some 26), (.bin .add .none (.t 25) (.k (.v (.int .i64 (1)))))⟩, ⟨(some (22, true)), (some 27), (.call n_s_l23Line [(.t 23), (.t 24), (.t 26)])⟩, ⟨(some (22, true)), (some 28), (.len true (.t 27))⟩, ⟨(some (22, true)), (some 29), (.mv (.t 1))⟩, ⟨(some (22, true)), (some 30), (.bin .leq .none (.t 28) (.t 29))⟩, ⟨none, (some 31), (.pick (.t 22) (.t 30) (.k (.v (.bool false))))⟩]
def r_s_l23Fill_7 : List CO := [⟨none, (some 32), (.mv (.t 8))⟩, ⟨none, (some 33), (.bin .add .none (.t 32) (.k (.v (.int .i64 (1)))))⟩, ⟨none, (some 8), (.mv (.t 33))⟩]
def l_s_l23Fill_8 : C := (.seq (.seq (.reg r_s_l23Fill_6 [1, 5, 6, 7, 8, 31]) (.cond (.t 31) .skip (.exit 2))) (.block 3 (.reg r_s_l23Fill_7 [1, 5, 6, 7, 8])))
def r_s_l23Fill_9 : List CO := [⟨none, (some 34), (.mv (.t 6))⟩, ⟨none, (some 35), (.mv (.t 5))⟩, ⟨none, (some 36), (.mv (.t 7))⟩, ⟨none, (some 37), (.mv (.t 8))⟩, ⟨none, (some 38), (.call n_s_l23Line [(.t 35), (.t 36), (.t 37)])⟩, ⟨none, (some 39), (.bslice 1 (.v (.string (bs []))) 1 [(0, (.t 38))])⟩, ⟨none, (some 40), (.app 1 16 (.t 34) (.t 39))⟩, ⟨none, (some 6), (.mv (.t 40))⟩]
def r_s_l23Fill_10 : List CO := [⟨none, (some 41), (.mv (.t 8))⟩, ⟨none, (some 7), (.mv (.t 41))⟩]
def l_s_l23Fill_11 : C := (.seq (.seq (.reg r_s_l23Fill_4 [1, 5, 6, 7, 15]) (.cond (.t 15) .skip (.exit 0))) (.block 1 (.seq (.reg r_s_l23Fill_5 [1, 5, 6, 7, 8]) (.seq (.block 2 (.loop l_s_l23Fill_8)) (.seq (.reg r_s_l23Fill_9 [1, 5, 6, 8]) (.reg r_s_l23Fill_10 [1, 5, 6, 7]))))))
def r_s_l23Fill_12 : List CO := [⟨none, (some 42), (.mv (.t 6))⟩, ⟨none, (some 4), (.mv (.t 42))⟩]
/-- loop.example/g00884/spec.l23Fill -/
def c_s_l23Fill : C := (.seq (.reg r_s_l23Fill_0 [0, 1]) (.seq (.reg r_s_l23Fill_1 [1, 5]) (.seq (.reg r_s_l23Fill_2 [1, 5, 6]) (.seq (.seq (.reg r_s_l23Fill_3 [1, 5, 6, 7]) (.block 0 (.loop l_s_l23Fill_11))) (.seq (.reg r_s_l23Fill_12 [4]) .ret)))))
def k_s_l23Fill : Nat → List Nat
  | 0 => [0, 1]
  | 1 => [1, 5]
  | 2 => [1, 5, 6]
  | 3 => [1, 5, 6, 7]
  | 4 => [1, 5, 6, 7, 15]
  | 5 => [1, 5, 6, 7, 8]
  | 6 => [1, 5, 6, 7, 8, 31]
  | 7 => [1, 5, 6, 7, 8]
  | 8 => [1, 5, 6, 8]
  | 9 => [1, 5, 6, 7]
  | 10 => [4]
  | _ => []
theorem fn_s_l23Fill : FnC Tryd.prog n_s_l23Fill c_s_l23Fill [(.tmp 4)] 43 :=
  ⟨Tryd.f23, _, k_s_l23Fill, Tryd.func23, rfl, by kernel_rfl, by kernel_rfl, by kernel_rfl, rfl⟩
end Go.Proofs.YtopcfaffljjnbaaDoor
