/- Mottoes as plain rows of bytes: the test, words, lines that are filled. No program in sight. -/
import Derived.Test.YtbeoijlggphklaaGreatTexts
set_option linter.unusedVariables false
set_option linter.unusedSimpArgs false
namespace Go.Proofs.YtbeoijlggphklaaGreat
open Go.Abs

/-- A letter A .. Z. -/
def isAZ (b : UInt8) : Bool := decide (65 ≤ (b.toNat : Int) ∧ (b.toNat : Int) ≤ 90)
def wordOk (w : List UInt8) : Bool := !w.isEmpty && w.all isAZ
/-- Read from the left; 'sp': at the start or behind a space. -/
def scan : Bool → List UInt8 → Bool
  | sp, [] => !sp
  | sp, x :: s => if x = 32 then !sp && scan true s else isAZ x && scan false s
def motto (s : List UInt8) : Bool := inR s.length 1 60 && scan true s

theorem parts_cons (c : UInt8) (x : UInt8) (s : List UInt8) : ∃ p ps, parts c s = p :: ps ∧ parts c (x :: s) = if x = c then [] :: p :: ps else (x :: p) :: ps := by
  cases h : parts c s with
  | nil => exact absurd h (parts_ne s)
  | cons p ps =>
    refine ⟨p, ps, rfl, ?_⟩
    rw [parts, h]
theorem scan_parts : ∀ (s p : List UInt8) (ps : List (List UInt8)), parts 32 s = p :: ps → (scan true s = (wordOk p && ps.all wordOk)) ∧ (scan false s = (p.all isAZ && ps.all wordOk))
  | [], p, ps, h => by
    rw [parts] at h
    simp only [List.cons.injEq] at h
    obtain ⟨rfl, rfl⟩ := h
    simp [scan, wordOk]
  | x :: s, p, ps, h => by
    obtain ⟨q, qs, h1, h2⟩ := parts_cons 32 x s
    rw [h2] at h
    have ih := scan_parts s q qs h1
    by_cases e : x = 32
    · rw [if_pos e] at h
      simp only [List.cons.injEq] at h
      obtain ⟨rfl, rfl⟩ := h
      simp [scan, e, wordOk, ih.1]
    · rw [if_neg e] at h
      simp only [List.cons.injEq] at h
      obtain ⟨rfl, rfl⟩ := h
      simp [scan, e, wordOk, ih.2, Bool.and_assoc]
theorem motto_parts (s : List UInt8) : motto s = (inR s.length 1 60 && (parts 32 s).all wordOk) := by
  unfold motto
  cases h : parts 32 s with
  | nil => exact absurd h (parts_ne s)
  | cons p ps => rw [(scan_parts s p ps h).1, List.all_cons]

/-- What the reference asks at place j. -/
def okAt (sp : Bool) (s : List UInt8) (j : Nat) : Prop := ∀ h : j < s.length, if s[j] = 32 then (if j = 0 then sp = false else s[j - 1]? ≠ some 32) else isAZ s[j] = true
theorem scan_iff : ∀ (s : List UInt8) (sp : Bool), scan sp s = true ↔ (∀ j, okAt sp s j) ∧ (if s = [] then sp = false else s.getLast? ≠ some 32)
  | [], sp => by
    simp [scan, okAt]
  | x :: s, sp => by
    have ih1 := scan_iff s true
    have ih2 := scan_iff s false
    have split0 : (∀ j, okAt sp (x :: s) j) ↔ (if x = 32 then sp = false else isAZ x = true) ∧ ∀ j, okAt (decide (x = 32)) s j := by
      constructor
      · intro h
        refine ⟨by simpa [okAt] using h 0, fun j hj => ?_⟩
        have := h (j + 1) (by simpa using hj)
        simp only [List.getElem_cons_succ, Nat.add_one_ne_zero, if_false, Nat.add_sub_cancel] at this
        by_cases e : s[j] = 32
        · rw [if_pos e] at this ⊢
          by_cases e0 : j = 0
          · subst e0
            rw [if_pos rfl]
            simpa using this
          · rw [if_neg e0]
            obtain ⟨k, rfl⟩ : ∃ k, j = k + 1 := ⟨j - 1, by omega⟩
            simpa using this
        · rw [if_neg e] at this ⊢; exact this
      · rintro ⟨h0, h⟩ j hj
        cases j with
        | zero => simpa using h0
        | succ j =>
          have := h j (by simpa using hj)
          simp only [List.getElem_cons_succ, Nat.add_one_ne_zero, if_false, Nat.add_sub_cancel]
          by_cases e : s[j]'(by simpa using hj) = 32
          · rw [if_pos e] at this ⊢
            by_cases e0 : j = 0
            · subst e0
              rw [if_pos rfl] at this
              simpa using this
            · rw [if_neg e0] at this
              obtain ⟨k, rfl⟩ : ∃ k, j = k + 1 := ⟨j - 1, by omega⟩
              simpa using this
          · rw [if_neg e] at this ⊢; exact this
    have last0 : ((x :: s).getLast? ≠ some 32) ↔ (if s = [] then x ≠ 32 else s.getLast? ≠ some 32) := by
      cases s with
      | nil => simp
      | cons y s => simp
    have hne : ¬ (x :: s = []) := by simp
    rw [split0, if_neg hne, last0, scan]
    by_cases e : x = 32
    · simp only [e, if_true, Bool.and_eq_true, Bool.not_eq_true', decide_true]
      by_cases hs : s = []
      · subst hs; simp [scan]
      · rw [if_neg hs] at ih1
        rw [if_neg hs, ih1, and_assoc]
    · simp only [e, if_false, Bool.and_eq_true, decide_false]
      by_cases hs : s = []
      · subst hs; simp [scan, okAt]; intro _; exact e
      · rw [if_neg hs] at ih2
        rw [if_neg hs, ih2, and_assoc]

/-! ### Lines that are filled -/
/-- cur stands in the line; the other words follow. -/
def fillGo (w : Int) : List UInt8 → List (List UInt8) → List (List UInt8)
  | cur, [] => [cur]
  | cur, x :: xs => if (cur.length : Int) + 1 + x.length ≤ w then fillGo w (cur ++ 32 :: x) xs else cur :: fillGo w x xs
def fill (w : Int) : List (List UInt8) → List (List UInt8)
  | [] => []
  | x :: xs => fillGo w x xs
def joinW : List (List UInt8) → List UInt8
  | [] => []
  | [x] => x
  | x :: y :: xs => x ++ 32 :: joinW (y :: xs)
theorem joinW_snoc : ∀ (xs : List (List UInt8)) (y : List UInt8), xs ≠ [] → joinW (xs ++ [y]) = joinW xs ++ 32 :: y
  | [x], y, _ => rfl
  | x :: z :: xs, y, _ => by
    have ih := joinW_snoc (z :: xs) y (by simp)
    show x ++ 32 :: joinW (z :: (xs ++ [y])) = _
    rw [show z :: (xs ++ [y]) = (z :: xs) ++ [y] from rfl, ih]
    simp [joinW]
end Go.Proofs.YtbeoijlggphklaaGreat
