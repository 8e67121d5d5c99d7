/- The plain law of scrolls: lines put together are the motto, even lines are the least ragged ones, a scroll is read back. -/
import Derived.Test.YtopcfaffljjnbaaGreatDoorReadLaw
set_option linter.unusedVariables false
set_option linter.unusedSimpArgs false
namespace Go.Proofs.YtopcfaffljjnbaaGreatDoor
open Go.Abs

theorem fillGo_ne (w : Int) : ∀ (rest : List (List UInt8)) (cur : List UInt8), fillGo w cur rest ≠ []
  | [], cur => by simp [fillGo]
  | x :: xs, cur => by
    rw [fillGo]
    split
    · exact fillGo_ne w xs _
    · simp
theorem fillGo_join (w : Int) : ∀ (rest : List (List UInt8)) (cur : List UInt8), joinW (fillGo w cur rest) = joinW (cur :: rest)
  | [], cur => by simp [fillGo]
  | x :: xs, cur => by
    rw [fillGo]
    split
    · have h1 := joinW_cons (cur ++ 32 :: x) xs
      have h2 := joinW_cons cur (x :: xs)
      have h3 := joinW_cons x xs
      rw [if_neg (by simp)] at h2
      rw [fillGo_join w xs, h1, h2, h3]
      by_cases e : xs = [] <;> simp [e]
    · rw [joinW_cons, if_neg (fillGo_ne w xs x), fillGo_join w xs, joinW_cons cur, if_neg (by simp)]
theorem fill_join (w : Int) (l : List (List UInt8)) : joinW (fill w l) = joinW l := by
  cases l with
  | nil => rfl
  | cons x l => exact fillGo_join w l x
/-- How ragged lines are. -/
def rag (w : Int) (l : List (List UInt8)) : Int := (l.map (lack w)).sum
theorem rag_cons (w : Int) (x : List UInt8) (l : List (List UInt8)) : rag w (x :: l) = lack w x + rag w l := by simp [rag]
theorem minGo_mono (w : Int) : ∀ (rest : List (List UInt8)) (cur : List UInt8) (t : List Int) (a b : Int), a ≤ b → minGo w (some a) cur rest t ≤ minGo w (some b) cur rest t
  | [], cur, t, a, b, h => by
    rw [minGo, minGo]
    split
    · exact h
    · simp only
      split <;> split <;> omega
  | y :: rest, cur, t, a, b, h => by
    rw [minGo, minGo]
    split
    · exact h
    · simp only
      exact minGo_mono w rest _ _ _ _ (by split <;> split <;> omega)
theorem minGo_none (w : Int) (rest : List (List UInt8)) (cur : List UInt8) (t : List Int) (b : Int) (hc : (cur.length : Int) ≤ w) : minGo w (some b) cur rest t ≤ minGo w none cur rest t := by
  cases rest with
  | nil =>
    rw [minGo, minGo, if_neg (by omega), if_neg (by omega)]
    simp only
    split <;> omega
  | cons y rest =>
    rw [minGo, minGo, if_neg (by omega), if_neg (by omega)]
    simp only
    exact minGo_mono w rest _ _ _ _ (by split <;> omega)
theorem costs_head (w : Int) (x : List UInt8) (xs : List (List UInt8)) : (costs w (x :: xs)).headD 0 = minGo w none x xs (costs w xs) := by rw [costs]; rfl
theorem costs_tail (w : Int) (x : List UInt8) (xs : List (List UInt8)) : (costs w (x :: xs)).tail = costs w xs := by rw [costs]; rfl
theorem fillGo_rag (w : Int) : ∀ (rest : List (List UInt8)) (cur : List UInt8), (cur.length : Int) ≤ w → (∀ x ∈ rest, (x.length : Int) ≤ w) → minGo w none cur rest (costs w rest) ≤ rag w (fillGo w cur rest)
  | [], cur, hc, _ => by
    rw [minGo, if_neg (by omega), fillGo, rag_cons]
    simp [rag, costs]
  | y :: rest, cur, hc, h => by
    have hy := h y (by simp)
    rw [minGo, if_neg (by omega), fillGo]
    simp only
    rw [costs_tail]
    split
    · have ih := fillGo_rag w rest (cur ++ 32 :: y) (by simp; omega) fun x hx => h x (by simp [hx])
      exact Int.le_trans (minGo_none w rest _ _ _ (by simp; omega)) ih
    · have ih := fillGo_rag w rest y hy fun x hx => h x (by simp [hx])
      rw [rag_cons]
      refine Int.le_trans (minGo_le w rest _ _ _) ?_
      rw [costs_head]; omega
theorem fill_rag {w : Int} {l : List (List UInt8)} (h : ∀ x ∈ l, (x.length : Int) ≤ w) : (costs w l).headD 0 ≤ rag w (fill w l) := by
  cases l with
  | nil => simp [fill, rag, costs]
  | cons x l =>
    rw [costs_head]
    exact fillGo_rag w l x (h x (by simp)) fun y hy => h y (by simp [hy])
theorem nextGo_cost (w tg : Int) : ∀ (rest : List (List UInt8)) (cur : List UInt8), has w tg cur rest (costs w rest) → lack w (nextGo w tg cur rest (costs w rest)).1 + (costs w (nextGo w tg cur rest (costs w rest)).2).headD 0 = tg
  | [], cur, h => by
    rw [has] at h
    rw [nextGo]
    have h' : lack w cur + (costs w []).headD 0 = tg := by simpa using h
    rw [if_pos h']
    exact h'
  | y :: rest, cur, h => by
    rw [has] at h
    rw [nextGo]
    by_cases e : lack w cur + (costs w (y :: rest)).headD 0 = tg
    · rw [if_pos e]; exact e
    · rw [if_neg e]
      rcases h with h | h
      · exact absurd h e
      · simp only [costs_tail] at h ⊢
        exact nextGo_cost w tg rest _ h
theorem evens_rag (w : Int) : ∀ (n : Nat) (l : List (List UInt8)), l.length ≤ n → (∀ x ∈ l, (x.length : Int) ≤ w) → rag w (evens w l) = (costs w l).headD 0
  | _, [], _, _ => by rw [evens]; simp [rag, costs]
  | 0, x :: xs, hl, _ => by simp at hl
  | n + 1, x :: xs, hl, h => by
    have hx := h x (by simp)
    obtain ⟨h1, h2, h3⟩ := pick0_eq (w := w) (x := x) (xs := xs) (t := costs w xs) hx
    rw [h1] at h2 h3
    have hh : (costs w (x :: xs)).head! = minGo w none x xs (costs w xs) := by rw [costs]; rfl
    rw [evens, hh, rag_cons, costs_head]
    have hc := nextGo_cost w _ xs x h3
    rw [h2] at hc ⊢
    have hlen := nextGo_len w (minGo w none x xs (costs w xs)) xs x (costs w xs)
    rw [h2] at hlen
    simp only [List.length_cons] at hl
    rw [evens_rag w n _ (by omega) fun y hy => h y (by simp [pick0_mem y hy])]
    exact hc
theorem scroll_read {s : List UInt8} {w : Int} (h : onScroll s w = true) : readOk (scrollT s w) = true ∧ readM (scrollT s w) = s ∧ readW (scrollT s w) = w := by
  obtain ⟨c1, c2, c3, c4, c5⟩ := canon h rfl
  have hl := scrollT_len s w
  have hw := onScroll_w h
  have ho : readOk (scrollT s w) = true := by
    rw [readOk, specOk, c1, c4]
    simp only [Bool.and_eq_true, decide_eq_true_iff, inR_iff]
    exact ⟨⟨by omega, c2, hw, c3⟩, h, trivial⟩
  exact ⟨ho, by rw [readM, if_pos ho, c4], by rw [readW, if_pos ho, c1]⟩
theorem scroll_law {s : List UInt8} {w : Int} (h : onScroll s w = true) : joinW (evenL s w) = s ∧ joinW (linesF s w) = s ∧ rag w (evenL s w) = evenC s w ∧ evenC s w ≤ rag w (linesF s w) := by
  have hw := (onScroll_words h).1
  rw [evenL, if_pos h, linesF, if_pos h, evenC, if_pos h]
  exact ⟨by rw [evens_join, joinW_parts], by rw [fill_join, joinW_parts], evens_rag w _ _ (Nat.le_refl _) hw, fill_rag hw⟩
end Go.Proofs.YtopcfaffljjnbaaGreatDoor
