/- Sorted rows of texts without repeats. No program in sight. -/
import Derived.Test.YtopcfaffljjnbaaGreatDoorSortLib
set_option linter.unusedVariables false
set_option linter.unusedSimpArgs false
namespace Go.Proofs.YtopcfaffljjnbaaGreatDoor
open Go.Abs

abbrev T8 := List UInt8
theorem t8_refl (x : T8) : x ≤ x := List.le_refl x
theorem t8_trans {x y z : T8} (h : x ≤ y) (k : y ≤ z) : x ≤ z := List.le_trans h k
theorem t8_anti {x y : T8} (h : x ≤ y) (k : y ≤ x) : x = y := List.le_antisymm h k
theorem t8_total (x y : T8) : x ≤ y ∨ y ≤ x := List.le_total x y
theorem t8_lt {x y : T8} : x < y ↔ x ≤ y ∧ x ≠ y := by
  constructor
  · intro h
    refine ⟨?_, fun e => ?_⟩
    · rcases t8_total x y with h' | h'
      · exact h'
      · exact absurd h (List.not_lt.2 h')
    · subst e; exact List.lt_irrefl x h
  · rintro ⟨h, k⟩
    rcases Classical.em (x < y) with h' | h'
    · exact h'
    · exact absurd (t8_anti h (List.not_lt.1 h')) k
/-- In order, without repeats. -/
def Strict (l : List T8) : Prop := l.Pairwise fun x y => x ≤ y ∧ x ≠ y
theorem strict_uniq : ∀ (a b : List T8), Strict a → Strict b → (∀ x, x ∈ a ↔ x ∈ b) → a = b
  | [], [], _, _, _ => rfl
  | [], y :: b, _, _, h => by have := (h y).2 (by simp); simp at this
  | x :: a, [], _, _, h => by have := (h x).1 (by simp); simp at this
  | x :: a, y :: b, ha, hb, h => by
    have ha' := List.pairwise_cons.1 ha
    have hb' := List.pairwise_cons.1 hb
    have e : x = y := by
      rcases List.mem_cons.1 ((h x).1 (by simp)) with e | hx
      · exact e
      · rcases List.mem_cons.1 ((h y).2 (by simp)) with e | hy
        · exact e.symm
        · exact t8_anti (ha'.1 y hy).1 (hb'.1 x hx).1
    subst e
    congr 1
    refine strict_uniq a b ha'.2 hb'.2 fun z => ⟨fun hz => ?_, fun hz => ?_⟩
    · rcases List.mem_cons.1 ((h z).1 (by simp [hz])) with e | h'
      · exact absurd e.symm (ha'.1 z hz).2
      · exact h'
    · rcases List.mem_cons.1 ((h z).2 (by simp [hz])) with e | h'
      · exact absurd e.symm (hb'.1 z hz).2
      · exact h'

theorem keeps_iff {l : List T8} {j : Nat} (hj : j < l.length) : Lib.keeps l.toArray j = true ↔ (j = 0 ∨ l[j] ≠ l[j - 1]) := by
  have h1 : l.toArray[j]! = l[j] := by rw [List.getElem!_toArray, List.getElem!_eq_getElem?_getD, List.getElem?_eq_getElem hj]; rfl
  have h2 : l.toArray[j - 1]! = l[j - 1] := by rw [List.getElem!_toArray, List.getElem!_eq_getElem?_getD, List.getElem?_eq_getElem (by omega)]; rfl
  unfold Lib.keeps
  rw [decide_eq_true_iff, h1, h2]
theorem mem_compact {l : List T8} {x : T8} : x ∈ Lib.compact l ↔ x ∈ l := by
  constructor
  · exact compact_mem x
  · intro hx
    obtain ⟨j, hj, rfl⟩ := List.getElem_of_mem hx
    have key : ∀ j (hj : j < l.length), l[j] ∈ Lib.compact l := by
      intro j
      induction j with
      | zero =>
        intro hj
        unfold Lib.compact Lib.compactUpTo
        refine List.mem_map.2 ⟨0, List.mem_filter.2 ⟨List.mem_range.2 hj, (keeps_iff hj).2 (.inl rfl)⟩, ?_⟩
        rw [List.getElem!_toArray, List.getElem!_eq_getElem?_getD, List.getElem?_eq_getElem hj]; rfl
      | succ j ih =>
        intro hj
        by_cases e : l[j + 1] = l[j]
        · rw [e]; exact ih (by omega)
        · unfold Lib.compact Lib.compactUpTo
          refine List.mem_map.2 ⟨j + 1, List.mem_filter.2 ⟨List.mem_range.2 hj, (keeps_iff hj).2 (.inr e)⟩, ?_⟩
          rw [List.getElem!_toArray, List.getElem!_eq_getElem?_getD, List.getElem?_eq_getElem hj]; rfl
    exact key j hj
theorem compact_strict {l : List T8} (h : l.Pairwise (· ≤ ·)) : Strict (Lib.compact l) := by
  unfold Strict Lib.compact Lib.compactUpTo
  rw [List.pairwise_map]
  have hr : (List.range l.length).Pairwise (· < ·) := List.pairwise_lt_range
  refine List.Pairwise.imp_of_mem ?_ (hr.filter (Lib.keeps l.toArray))
  intro i j hi hj hij
  obtain ⟨hj1, hj2⟩ := List.mem_filter.1 hj
  have hjl := List.mem_range.1 hj1
  have hil : i < l.length := by omega
  have g : ∀ k (hk : k < l.length), l.toArray[k]! = l[k] := fun k hk => by rw [List.getElem!_toArray, List.getElem!_eq_getElem?_getD, List.getElem?_eq_getElem hk]; rfl
  rw [g i hil, g j hjl]
  have hle : ∀ a b (ha : a < l.length) (hb : b < l.length), a ≤ b → l[a] ≤ l[b] := fun a b ha hb hab => by
    by_cases e : a = b
    · subst e; exact t8_refl _
    · exact List.pairwise_iff_getElem.1 h a b ha hb (by omega)
  refine ⟨hle i j hil hjl (by omega), fun e => ?_⟩
  rcases (keeps_iff hjl).1 hj2 with e0 | hne
  · omega
  · have h1 := hle i (j - 1) hil (by omega) (by omega)
    have h2 := hle (j - 1) j (by omega) hjl (by omega)
    rw [e] at h1
    exact hne (t8_anti h1 h2)
theorem sortS_sorted (l : List T8) : (sortS l).Pairwise (· ≤ ·) := by
  have := List.pairwise_mergeSort (le := fun x y : T8 => decide (x ≤ y)) (fun a b c h k => by simp only [decide_eq_true_iff] at h k ⊢; exact t8_trans h k) (fun a b => by simpa using t8_total a b) l
  exact this.imp fun h => by simpa using h
/-- Where the reference puts a word: ahead of the first that is not smaller. -/
def insW (x : T8) : List T8 → List T8
  | [] => [x]
  | y :: ys => if y < x then y :: insW x ys else if y = x then y :: ys else x :: y :: ys
theorem mem_insW {x z : T8} : ∀ {l : List T8}, z ∈ insW x l ↔ z = x ∨ z ∈ l
  | [] => by simp [insW]
  | y :: ys => by
    rw [insW]
    split
    · rw [List.mem_cons, mem_insW, List.mem_cons]
      constructor
      · rintro (h | h | h)
        · exact .inr (.inl h)
        · exact .inl h
        · exact .inr (.inr h)
      · rintro (h | h | h)
        · exact .inr (.inl h)
        · exact .inl h
        · exact .inr (.inr h)
    · split
      · rename_i e; subst e; simp
      · simp
theorem insW_strict {x : T8} : ∀ {l : List T8}, Strict l → Strict (insW x l)
  | [], _ => by simp [insW, Strict]
  | y :: ys, h => by
    have h' := List.pairwise_cons.1 h
    rw [insW]
    split
    · rename_i hlt
      refine List.pairwise_cons.2 ⟨fun z hz => ?_, insW_strict h'.2⟩
      rcases mem_insW.1 hz with rfl | hz
      · exact t8_lt.1 hlt
      · exact h'.1 z hz
    · rename_i hlt
      split
      · exact h
      · rename_i hne
        have hxy : x ≤ y ∧ x ≠ y := ⟨List.not_lt.1 hlt, fun e => hne e.symm⟩
        refine List.pairwise_cons.2 ⟨fun z hz => ?_, h⟩
        rcases List.mem_cons.1 hz with rfl | hz
        · exact hxy
        · have h2 := h'.1 z hz
          exact ⟨t8_trans hxy.1 h2.1, fun e => hxy.2 (by subst e; exact t8_anti hxy.1 h2.1)⟩
def insAll (l : List T8) : List T8 := l.foldl (fun acc x => insW x acc) []
theorem insAll_snoc (l : List T8) (x : T8) : insAll (l ++ [x]) = insW x (insAll l) := by simp [insAll]
theorem insFold : ∀ (l acc : List T8), Strict acc → Strict (l.foldl (fun acc x => insW x acc) acc) ∧ ∀ z, z ∈ l.foldl (fun acc x => insW x acc) acc ↔ z ∈ acc ∨ z ∈ l
  | [], acc, h => ⟨h, by simp⟩
  | x :: l, acc, h => by
    obtain ⟨h1, h2⟩ := insFold l (insW x acc) (insW_strict h)
    refine ⟨h1, fun z => ?_⟩
    rw [List.foldl_cons, h2, mem_insW, List.mem_cons]
    constructor
    · rintro ((h | h) | h)
      · exact .inr (.inl h)
      · exact .inl h
      · exact .inr (.inr h)
    · rintro (h | h | h)
      · exact .inl (.inr h)
      · exact .inl (.inl h)
      · exact .inr h
theorem compact_sort (l : List T8) : Lib.compact (sortS l) = insAll l := by
  obtain ⟨h1, h2⟩ := insFold l [] List.Pairwise.nil
  refine strict_uniq _ _ (compact_strict (sortS_sorted l)) h1 fun z => ?_
  rw [mem_compact, insAll, h2]
  simp [sortS]
theorem insW_len (x : T8) : ∀ l : List T8, (insW x l).length ≤ l.length + 1
  | [] => by simp [insW]
  | y :: ys => by
    have := insW_len x ys
    rw [insW]
    split
    · simp only [List.length_cons]; omega
    · split <;> simp
/-- By the place: the first k are smaller. -/
theorem insW_at {x : T8} : ∀ {l : List T8} {k : Nat}, k ≤ l.length → (∀ i (h : i < k) (h' : i < l.length), l[i] < x) → (∀ h : k < l.length, ¬ l[k] < x) →
    insW x l = if l[k]? = some x then l else l.take k ++ x :: l.drop k
  | [], k, hk, h1, h2 => by
    simp [insW]
  | y :: ys, 0, hk, h1, h2 => by
    have := h2 (by simp)
    simp at this
    rw [insW, if_neg (List.not_lt.2 this)]
    by_cases e : y = x
    · simp [e]
    · simp [e]
  | y :: ys, k + 1, hk, h1, h2 => by
    have h0 := h1 0 (by omega) (by simp)
    simp only [List.getElem_cons_zero] at h0
    have ih := insW_at (x := x) (l := ys) (k := k) (by simpa using hk) (fun i h h' => h1 (i + 1) (by omega) (Nat.succ_lt_succ h')) (fun h => h2 (Nat.succ_lt_succ h))
    rw [insW, if_pos h0, ih, List.getElem?_cons_succ]
    split <;> simp
end Go.Proofs.YtopcfaffljjnbaaGreatDoor
