/- Contracts of small helpers. -/
import Derived.Test.YtbeoijlggphklaaGreatCodeBase
import Derived.Test.YtbeoijlggphklaaGreatAbs4
set_option linter.unusedVariables false
set_option linter.unusedSimpArgs false
namespace Go.Proofs.YtbeoijlggphklaaGreat
open Go.Abs

/-- A number in bounds. -/
def inR (n lo hi : Int) : Bool := decide (lo ≤ n) && decide (n ≤ hi)
theorem inR_iff {n lo hi : Int} : inR n lo hi = true ↔ lo ≤ n ∧ n ≤ hi := by simp [inR]
theorem inR_not {n lo hi : Int} : inR n lo hi = false ↔ n < lo ∨ hi < n := by
  rw [← Bool.not_eq_true, inR_iff]; omega

theorem i_inside (n lo hi : Int) : PCall Tryz.prog n_i_inside [I n, I lo, I hi] (B (inR n lo hi)) := by
  refine PCall.of fn_i_inside (by simp) ?_
  simp [c_i_inside, r_i_inside_0, r_i_inside_1, inR]
  omega
theorem s_l1In (n lo hi : Int) : PCall Tryz.prog n_s_l1In [I n, I lo, I hi] (B (inR n lo hi)) := by
  refine PCall.of fn_s_l1In (by simp) ?_
  simp [c_s_l1In, r_s_l1In_0, r_s_l1In_1, inR]
  omega

theorem take_succ' {α : Type} {l : List α} {i : Nat} (h : i < l.length) : l.take (i + 1) = l.take i ++ [l[i]] := by simp
theorem drop_cons {α : Type} {l : List α} {i : Nat} (h : i < l.length) : l.drop i = l[i] :: l.drop (i + 1) := List.drop_eq_getElem_cons h

/-! A row of n elements, the first i of which are written. -/
theorem half_get {β : Type} {xs : List β} {z : β} {n i : Nat} (hx : xs.length = i) (h : i < n) : (xs ++ List.replicate (n - i) z)[i]? = some z := by
  rw [List.getElem?_append_right (by omega), hx, Nat.sub_self, List.getElem?_replicate, if_pos (by omega)]
theorem half_set {β : Type} {xs : List β} {z v : β} {n i : Nat} (hx : xs.length = i) (h : i < n) : (xs ++ List.replicate (n - i) z).set i v = (xs ++ [v]) ++ List.replicate (n - (i + 1)) z := by
  rw [List.set_append_right _ _ (by omega), hx, Nat.sub_self]
  obtain ⟨m, e⟩ : ∃ m, n - i = m + 1 := ⟨n - i - 1, by omega⟩
  rw [e, List.replicate_succ, List.set_cons_zero, show n - (i + 1) = m from by omega]
  simp

theorem app_set {β : Type} {xs ys : List β} {v w : β} {i : Nat} (hx : xs.length = i) : (xs ++ v :: ys).set i w = xs ++ w :: ys := by subst hx; simp
theorem app_get {β : Type} {xs ys : List β} {v : β} {i : Nat} (hx : xs.length = i) : (xs ++ v :: ys)[i]? = some v := by subst hx; simp

theorem all_take_succ {α : Type} {p : α → Bool} {l : List α} {i : Nat} (h : i < l.length) : (l.take (i + 1)).all p = ((l.take i).all p && p l[i]) := by
  rw [take_succ' h, List.all_append]; simp only [List.all_cons, List.all_nil, Bool.and_true]
theorem all_false {α : Type} {p : α → Bool} {l : List α} {i : Nat} (h : i < l.length) (hp : p l[i] = false) : l.all p = false := by
  rw [← Bool.not_eq_true, List.all_eq_true]
  intro h'
  rw [h' _ (List.getElem_mem h)] at hp; cases hp

/-- The sum of the lengths of rows. -/
def total {α : Type} (l : List (List α)) : Nat := (l.map List.length).sum
@[simp] theorem total_nil {α : Type} : total ([] : List (List α)) = 0 := rfl
@[simp] theorem total_cons {α : Type} (r : List α) (l : List (List α)) : total (r :: l) = r.length + total l := by simp [total]
@[simp] theorem total_append {α : Type} (a b : List (List α)) : total (a ++ b) = total a + total b := by simp [total]
theorem total_take_le {α : Type} (l : List (List α)) (i : Nat) : total (l.take i) ≤ total l := by
  have : total l = total (l.take i) + total (l.drop i) := by rw [← total_append, List.take_append_drop]
  omega
theorem total_mem {α : Type} {l : List (List α)} {r : List α} (h : r ∈ l) : r.length ≤ total l := by
  induction l with
  | nil => cases h
  | cons x l ih =>
    rw [total_cons]
    rcases List.mem_cons.1 h with rfl | h
    · omega
    · have := ih h; omega

/-- What is left of a budget. -/
def rest (left : Int) (n : Nat) : Int := if left - n < 0 then -1 else left - n
theorem rest_nonneg {left : Int} {n : Nat} (h : ¬ rest left n < 0) : (n : Int) ≤ left := by
  unfold rest at h; split at h <;> omega

theorem allIx_succ (q : Nat → Bool) (i : Nat) : (List.range (i + 1)).all q = ((List.range i).all q && q i) := by
  simp only [List.range_succ, List.all_append, List.all_cons, List.all_nil, Bool.and_true]
theorem allIx_false {q : Nat → Bool} {n i : Nat} (h : i < n) (hq : q i = false) : (List.range n).all q = false := by
  rw [← Bool.not_eq_true, List.all_eq_true]
  intro h'
  rw [h' i (List.mem_range.2 h)] at hq; cases hq
end Go.Proofs.YtbeoijlggphklaaGreat
