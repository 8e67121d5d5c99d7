/- Contracts of library functions on rows: looking for an element. -/
import Derived.Test.YtgefdcllialhkaaCodeLib
import Derived.Test.YtgefdcllialhkaaBase
set_option linter.unusedVariables false
set_option linter.unusedSimpArgs false
namespace Go.Proofs.Ytgefdcllialhkaa
open Go.Abs

/-- The place of the first element for which something holds, or -1. -/
def idx {α : Type} (p : α → Bool) (l : List α) : Int := if l.findIdx p < l.length then (l.findIdx p : Nat) else -1
theorem idx_at {α : Type} {p : α → Bool} {l : List α} {i : Nat} (hi : i < l.length) (h : ∀ j (_ : j < i), p (l[j]'(by omega)) = false) (hp : p l[i] = true) : idx p l = i := by
  have e : l.findIdx p = i := (List.findIdx_eq hi).2 ⟨hp, h⟩
  simp [idx, e, hi]
theorem idx_none {α : Type} {p : α → Bool} {l : List α} (h : ∀ j (_ : j < l.length), p l[j] = false) : idx p l = -1 := by
  have e : l.findIdx p = l.length := by
    rw [List.findIdx_eq_length]
    intro x hx
    obtain ⟨j, hj, rfl⟩ := List.getElem_of_mem hx
    exact h j hj
  simp [idx, e]
theorem idx_any {α : Type} {p : α → Bool} {l : List α} : decide (0 ≤ idx p l) = l.any p := by
  rw [Bool.eq_iff_iff, decide_eq_true_iff, List.any_eq_true]
  unfold idx
  constructor
  · intro h
    split at h
    · rename_i hlt
      exact ⟨_, List.getElem_mem hlt, List.findIdx_getElem⟩
    · omega
  · rintro ⟨x, hx, hp⟩
    rw [if_pos (List.findIdx_lt_length_of_exists ⟨x, hx, hp⟩)]
    omega
theorem idx_neg {α : Type} {p : α → Bool} {l : List α} : idx p l < 0 ↔ l.any p = false := by
  rw [← idx_any, decide_eq_false_iff_not]; omega
theorem idx_lt {α : Type} {p : α → Bool} {l : List α} (h : 0 ≤ idx p l) : ∃ i : Nat, idx p l = i ∧ ∃ hi : i < l.length, p l[i] = true ∧ ∀ j (hj : j < i), p (l[j]'(by omega)) = false := by
  unfold idx at h ⊢
  split at h
  · rename_i hlt
    rw [if_pos hlt]
    exact ⟨_, rfl, hlt, List.findIdx_getElem, fun j hj => by simpa using List.not_of_lt_findIdx hj⟩
  · omega

theorem slices_IndexFunc_int_int (l : List Int) (p : Int → Bool) (g : Nat) (caps : List V) (hc : ∀ hp, caps.map (borrow hp 6) = caps) (hp : ∀ x ∈ l, PCall Try.prog g (I x :: caps) (B (p x))) :
    PCall Try.prog n_slices_IndexFunc_int_int [.ro 1 (ints l), .clo g caps] (I (idx p l)) := by
  refine PCall.ofL fn_slices_IndexFunc_int_int (by simp) fun hl => ?_
  simp at hl
  simp [c_slices_IndexFunc_int_int, r_slices_IndexFunc_int_int_0, r_slices_IndexFunc_int_int_1, r_slices_IndexFunc_int_int_8]
  refine loopQ_ix (fun i : Nat => ⟨[(0, .ro 1 (ints l)), (1, .clo g caps), (7, I l.length), (8, I i)], [], []⟩) (fun i => l.length - i) (fun i => i ≤ l.length ∧ ∀ j (_ : j < i) (hj : j < l.length), p l[j] = false) 0 (Wk.list rfl (by simp) (by simp)) (by simp) ?_
  rintro i ⟨hi, hj⟩
  simp [r_slices_IndexFunc_int_int_2, l_slices_IndexFunc_int_int_7]
  refine ⟨fun hlt => ?_, fun hge => ?_⟩
  · simp [r_slices_IndexFunc_int_int_3, r_slices_IndexFunc_int_int_4, hlt]
    refine callQ_v (PCall.arg (hp l[i] (List.getElem_mem _)) (by simp [hc])) ?_
    simp
    refine ⟨fun ht => ?_, fun hf => ?_⟩
    · simp [r_slices_IndexFunc_int_int_5]
      exact (idx_at hlt (fun j h => hj j h (by omega)) ht).symm
    · simp [r_slices_IndexFunc_int_int_6]
      rw [wrap64 (by omega) (by omega)]
      refine roundA_of (i + 1) (by omega) ⟨by omega, fun j h h' => ?_⟩ (Wk.list rfl (by simp) (by simp))
      by_cases e : j = i
      · subst e; exact hf
      · exact hj j (by omega) h'
  · have : idx p l = -1 := idx_none fun j h => hj j (by omega) h
    simp [this]

theorem slices_ContainsFunc_int_int (l : List Int) (p : Int → Bool) (g : Nat) (caps : List V) (hc : ∀ hp, caps.map (borrow hp 6) = caps) (hc5 : ∀ hp, caps.map (borrow hp 5) = caps) (hp : ∀ x ∈ l, PCall Try.prog g (I x :: caps) (B (p x))) :
    PCall Try.prog n_slices_ContainsFunc_int_int [.ro 1 (ints l), .clo g caps] (B (l.any p)) := by
  refine PCall.of fn_slices_ContainsFunc_int_int (by simp) ?_
  simp [c_slices_ContainsFunc_int_int, r_slices_ContainsFunc_int_int_0, r_slices_ContainsFunc_int_int_1]
  refine callQ_v (PCall.arg (slices_IndexFunc_int_int l p g caps hc hp) (by simp [hc5])) ?_
  simp [← idx_any]

theorem slices_Index_int_int (l : List Int) (x : Int) : PCall Try.prog n_slices_Index_int_int [.ro 1 (ints l), I x] (I (idx (fun y => decide (y = x)) l)) := by
  refine PCall.ofL fn_slices_Index_int_int (by simp) fun hl => ?_
  simp at hl
  simp [c_slices_Index_int_int, r_slices_Index_int_int_0, r_slices_Index_int_int_1, r_slices_Index_int_int_8]
  refine loopQ_ix (fun i : Nat => ⟨[(0, .ro 1 (ints l)), (1, I x), (7, I l.length), (8, I i)], [], []⟩) (fun i => l.length - i) (fun i => i ≤ l.length ∧ ∀ j (_ : j < i) (hj : j < l.length), decide (l[j] = x) = false) 0 (Wk.list rfl (by simp) (by simp)) (by simp) ?_
  rintro i ⟨hi, hj⟩
  simp [r_slices_Index_int_int_2, l_slices_Index_int_int_7]
  refine ⟨fun hlt => ?_, fun hge => ?_⟩
  · simp [r_slices_Index_int_int_3, r_slices_Index_int_int_4, hlt]
    refine ⟨fun ht => ?_, fun hf => ?_⟩
    · simp [r_slices_Index_int_int_5]
      exact (idx_at hlt (fun j h => hj j h (by omega)) (by simpa using ht.symm)).symm
    · simp [r_slices_Index_int_int_6]
      rw [wrap64 (by omega) (by omega)]
      refine roundA_of (i + 1) (by omega) ⟨by omega, fun j h h' => ?_⟩ (Wk.list rfl (by simp) (by simp))
      by_cases e : j = i
      · subst e; simpa using fun h => hf h.symm
      · simpa using hj j (by omega) h'
  · have : idx (fun y => decide (y = x)) l = -1 := idx_none fun j h => hj j (by omega) h
    simp [this]

/-- The smallest of a row that is not empty. -/
def minL (l : List Int) : Int := l.min?.getD 0
theorem minL_of {l : List Int} {x : Int} (hm : x ∈ l) (h : ∀ y ∈ l, x ≤ y) : minL l = x := by
  have : l.min? = some x := List.min?_eq_some_iff.2 ⟨hm, h⟩
  simp [minL, this]
theorem take_one_head {l : List Int} (h : 0 < l.length) : (l.take 1).min?.getD 0 = l[0] := by
  cases l with
  | nil => simp at h
  | cons x r => simp [List.min?]
theorem min_take_succ {l : List Int} {i : Nat} (h0 : 1 ≤ i) (h : i < l.length) : (l.take (i + 1)).min?.getD 0 = min ((l.take i).min?.getD 0) l[i] := by
  cases l with
  | nil => simp at h
  | cons x r =>
    obtain ⟨i, rfl⟩ : ∃ k, i = k + 1 := ⟨i - 1, by omega⟩
    have hi : i < r.length := by simpa using h
    rw [List.take_succ_cons, List.take_succ_cons, ← List.take_append_getElem hi]
    simp only [List.min?, Option.getD_some, List.foldl_append]
    rfl
theorem slices_Min_int_int (l : List Int) (h0 : 0 < l.length) : PCall Try.prog n_slices_Min_int_int [.ro 1 (ints l)] (I (minL l)) := by
  refine PCall.ofL fn_slices_Min_int_int (by simp) fun hl => ?_
  simp at hl
  simp [c_slices_Min_int_int, r_slices_Min_int_int_0, r_slices_Min_int_int_1, r_slices_Min_int_int_2, r_slices_Min_int_int_3, r_slices_Min_int_int_8, h0]
  refine ⟨by omega, fun _ => ?_⟩
  refine loopQ_ix (fun i : Nat => ⟨[(0, .ro 1 (ints l)), (3, I ((l.take i).min?.getD 0)), (4, I i)], [], []⟩) (fun i => l.length - i) (fun i => 1 ≤ i ∧ i ≤ l.length) 1 (Wk.list rfl (by simp [take_one_head h0]) (by simp)) (by simp; omega) ?_
  rintro i ⟨h1, hi⟩
  simp [r_slices_Min_int_int_4, l_slices_Min_int_int_7]
  refine ⟨fun hlt => ?_, fun hge => ?_⟩
  · simp [r_slices_Min_int_int_5, r_slices_Min_int_int_6, hlt]
    rw [wrap64 (by omega) (by omega)]
    have e := min_take_succ h1 hlt
    refine roundA_of (i + 1) (by omega) ⟨by omega, by omega⟩ (Wk.list rfl (by rw [e]; simp; omega) (by simp))
  · rw [List.take_of_length_le (by omega)]
    rfl
end Go.Proofs.Ytgefdcllialhkaa
