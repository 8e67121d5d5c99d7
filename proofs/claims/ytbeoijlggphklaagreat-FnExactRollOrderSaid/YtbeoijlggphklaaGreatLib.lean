/- Contracts of library functions on rows: looking for an element. -/
import Derived.Test.YtbeoijlggphklaaGreatBase
set_option linter.unusedVariables false
set_option linter.unusedSimpArgs false
namespace Go.Proofs.YtbeoijlggphklaaGreat
open Go.Abs

/-- The place of the first element for which something holds, or -1. -/
def idx {α : Type} (p : α → Bool) (l : List α) : Int := if l.findIdx p < l.length then (l.findIdx p : Nat) else -1
theorem idx_at {α : Type} {p : α → Bool} {l : List α} {i : Nat} (hi : i < l.length) (h : ∀ j (_ : j < i), p (l[j]'(by omega)) = false) (hp : p l[i] = true) : idx p l = i := by
  have e : l.findIdx p = i := (List.findIdx_eq hi).2 ⟨hp, h⟩
  simp [idx, e, hi]
theorem idx_none {α : Type} {p : α → Bool} {l : List α} (h : ∀ j (_ : j < l.length), p l[j] = false) : idx p l = -1 := by
  have e : l.findIdx p = l.length := by
    rw [List.findIdx_eq_length]
    intro x hx
    obtain ⟨j, hj, rfl⟩ := List.getElem_of_mem hx
    exact h j hj
  simp [idx, e]
theorem idx_any {α : Type} {p : α → Bool} {l : List α} : decide (0 ≤ idx p l) = l.any p := by
  rw [Bool.eq_iff_iff, decide_eq_true_iff, List.any_eq_true]
  unfold idx
  constructor
  · intro h
    split at h
    · rename_i hlt
      exact ⟨_, List.getElem_mem hlt, List.findIdx_getElem⟩
    · omega
  · rintro ⟨x, hx, hp⟩
    rw [if_pos (List.findIdx_lt_length_of_exists ⟨x, hx, hp⟩)]
    omega
theorem idx_neg {α : Type} {p : α → Bool} {l : List α} : idx p l < 0 ↔ l.any p = false := by
  rw [← idx_any, decide_eq_false_iff_not]; omega
theorem idx_lt {α : Type} {p : α → Bool} {l : List α} (h : 0 ≤ idx p l) : ∃ i : Nat, idx p l = i ∧ ∃ hi : i < l.length, p l[i] = true ∧ ∀ j (hj : j < i), p (l[j]'(by omega)) = false := by
  unfold idx at h ⊢
  split at h
  · rename_i hlt
    rw [if_pos hlt]
    exact ⟨_, rfl, hlt, List.findIdx_getElem, fun j hj => by simpa using List.not_of_lt_findIdx hj⟩
  · omega

/-- The smallest of a row that is not empty. -/
def minL (l : List Int) : Int := l.min?.getD 0
theorem minL_of {l : List Int} {x : Int} (hm : x ∈ l) (h : ∀ y ∈ l, x ≤ y) : minL l = x := by
  have : l.min? = some x := List.min?_eq_some_iff.2 ⟨hm, h⟩
  simp [minL, this]
theorem take_one_head {l : List Int} (h : 0 < l.length) : (l.take 1).min?.getD 0 = l[0] := by
  cases l with
  | nil => simp at h
  | cons x r => simp [List.min?]
theorem min_take_succ {l : List Int} {i : Nat} (h0 : 1 ≤ i) (h : i < l.length) : (l.take (i + 1)).min?.getD 0 = min ((l.take i).min?.getD 0) l[i] := by
  cases l with
  | nil => simp at h
  | cons x r =>
    obtain ⟨i, rfl⟩ : ∃ k, i = k + 1 := ⟨i - 1, by omega⟩
    have hi : i < r.length := by simpa using h
    rw [List.take_succ_cons, List.take_succ_cons, ← List.take_append_getElem hi]
    simp only [List.min?, Option.getD_some, List.foldl_append]
    rfl
end Go.Proofs.YtbeoijlggphklaaGreat
