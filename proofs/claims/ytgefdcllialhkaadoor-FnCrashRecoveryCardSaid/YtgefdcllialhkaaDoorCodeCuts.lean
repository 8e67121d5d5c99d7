/- The compact code of the functions, and that it is theirs: written by a program of this claim. -/
import Derived.Test.YtgefdcllialhkaaDoorNums
namespace Go.Proofs.YtgefdcllialhkaaDoor
open Go.Abs
set_option maxRecDepth 100000
def r_internal_stringslite_Cut_0 : List CO := [⟨none, (some 4), (.mv (.k (.v (.string (bs [])))))⟩, ⟨none, (some 5), (.mv (.k (.v (.string (bs [])))))⟩, ⟨none, (some 6), (.mv (.k (.v (.bool false))))⟩]
def r_internal_stringslite_Cut_1 : List CO := [⟨none, (some 8), (.mv (.t 0))⟩, ⟨none, (some 9), (.mv (.t 1))⟩, ⟨none, (some 10), (.call n_internal_stringslite_Index [(.t 8), (.t 9)])⟩, ⟨none, (some 7), (.mv (.t 10))⟩]
def r_internal_stringslite_Cut_2 : List CO := [⟨none, (some 11), (.mv (.t 7))⟩, ⟨none, (some 12), (.bin .geq .none (.t 11) (.k (.v (.int .i64 (0)))))⟩]
def r_internal_stringslite_Cut_3 : List CO := [⟨none, (some 13), (.mv (.t 0))⟩, ⟨none, (some 14), (.mv (.t 7))⟩, ⟨none, (some 15), (.slc none (.t 13) none (some (.t 14)))⟩, ⟨none, (some 16), (.mv (.t 0))⟩, ⟨none, (some 17), (.mv (.t 7))⟩, ⟨none, (some 18), (.mv (.t 1))⟩, ⟨none, (some 19), (.len true (.t 18))⟩, ⟨none, (some 20), (.bin .add .none (.t 17) (.t 19))⟩, ⟨none, (some 21), (.slc none (.t 16) (some (.t 20)) none)⟩, ⟨none, (some 4), (.mv (.t 15))⟩, ⟨none, (some 5), (.mv (.t 21))⟩, ⟨none, (some 6), (.mv (.k (.v (.bool true))))⟩]
def p_internal_stringslite_Cut_3 : List (List Nat) := [[], [], [0, 1], [], [], [], [5], [4, 5, 6], [3, 4, 5, 6, 7], [0, 1, 2], [0, 1, 2, 3, 4, 5, 6, 7, 8, 9], [0, 1, 2, 3, 4, 5, 6, 7, 8, 9, 10]]
def r_internal_stringslite_Cut_4 : List CO := [⟨none, (some 22), (.mv (.t 0))⟩, ⟨none, (some 4), (.mv (.t 22))⟩, ⟨none, (some 5), (.mv (.k (.v (.string (bs [])))))⟩, ⟨none, (some 6), (.mv (.k (.v (.bool false))))⟩]
/-- internal/stringslite.Cut -/
def c_internal_stringslite_Cut : C := (.seq (.reg r_internal_stringslite_Cut_0 [0, 1]) (.seq (.seq (.reg r_internal_stringslite_Cut_1 [0, 1, 7]) (.seq (.reg r_internal_stringslite_Cut_2 [0, 1, 7, 12]) (.cond (.t 12) (.seq (.regD r_internal_stringslite_Cut_3 p_internal_stringslite_Cut_3 [4, 5, 6]) .ret) .skip))) (.seq (.reg r_internal_stringslite_Cut_4 [4, 5, 6]) .ret)))
def k_internal_stringslite_Cut : Nat → List Nat
  | 0 => [0, 1]
  | 1 => [0, 1, 7]
  | 2 => [0, 1, 7, 12]
  | 3 => [4, 5, 6]
  | 4 => [4, 5, 6]
  | _ => []
theorem fn_internal_stringslite_Cut : FnC Tryd.prog n_internal_stringslite_Cut c_internal_stringslite_Cut [(.tmp 4), (.tmp 5), (.tmp 6)] 23 :=
  ⟨Tryd.f65, _, k_internal_stringslite_Cut, Tryd.func65, rfl, by kernel_rfl, by kernel_rfl, by kernel_rfl, rfl⟩
def r_strings_Cut_0 : List CO := [⟨none, (some 4), (.mv (.k (.v (.string (bs [])))))⟩, ⟨none, (some 5), (.mv (.k (.v (.string (bs [])))))⟩, ⟨none, (some 6), (.mv (.k (.v (.bool false))))⟩]
def r_strings_Cut_1 : List CO := [⟨none, (some 7), (.mv (.t 0))⟩, ⟨none, (some 8), (.mv (.t 1))⟩, ⟨none, (some 9), (.call n_internal_stringslite_Cut [(.t 7), (.t 8)])⟩, ⟨none, (some 10), (.ext (.t 9) 0)⟩, ⟨none, (some 11), (.ext (.t 9) 1)⟩, ⟨none, (some 12), (.ext (.t 9) 2)⟩, ⟨none, (some 4), (.mv (.t 10))⟩, ⟨none, (some 5), (.mv (.t 11))⟩, ⟨none, (some 6), (.mv (.t 12))⟩]
/-- strings.Cut -/
def c_strings_Cut : C := (.seq (.reg r_strings_Cut_0 [0, 1]) (.seq (.reg r_strings_Cut_1 [4, 5, 6]) .ret))
def k_strings_Cut : Nat → List Nat
  | 0 => [0, 1]
  | 1 => [4, 5, 6]
  | _ => []
theorem fn_strings_Cut : FnC Tryd.prog n_strings_Cut c_strings_Cut [(.tmp 4), (.tmp 5), (.tmp 6)] 13 :=
  ⟨Tryd.f62, _, k_strings_Cut, Tryd.func62, rfl, by kernel_rfl, by kernel_rfl, by kernel_rfl, rfl⟩
end Go.Proofs.YtgefdcllialhkaaDoor
