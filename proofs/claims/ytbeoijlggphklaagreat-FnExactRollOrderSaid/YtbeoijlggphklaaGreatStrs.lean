/- strings.Split at one byte, in the program's library and in the reference. -/
import Derived.Test.YtbeoijlggphklaaGreatTexts
import Derived.Test.YtbeoijlggphklaaGreatShelf
import Derived.Test.YtbeoijlggphklaaGreatAbs4
set_option linter.unusedVariables false
set_option linter.unusedSimpArgs false
namespace Go.Proofs.YtbeoijlggphklaaGreat
open Go.Abs

theorem parts_one {c x : UInt8} {s : List UInt8} : ∃ p ps, parts c s = p :: ps ∧ parts c (x :: s) = if x = c then [] :: p :: ps else (x :: p) :: ps := by
  cases h : parts c s with
  | nil => exact absurd h (parts_ne s)
  | cons p ps =>
    refine ⟨p, ps, rfl, ?_⟩
    rw [parts, h]
theorem parts_count (c : UInt8) : ∀ s : List UInt8, (parts c s).length = Lib.countByte s c + 1
  | [] => rfl
  | x :: s => by
    obtain ⟨p, ps, h1, h2⟩ := parts_one (c := c) (x := x) (s := s)
    have ih := parts_count c s
    rw [h1] at ih
    unfold Lib.countByte at ih ⊢
    rw [h2, List.count_cons]
    by_cases e : x = c
    · simp [e] at ih ⊢; omega
    · simp [e] at ih ⊢; omega
theorem count_le (c : UInt8) (s : List UInt8) : Lib.countByte s c ≤ s.length := List.count_le_length
theorem indexByte_cut {c : UInt8} : ∀ {s : List UInt8}, c ∈ s → Lib.indexByte s c = (cut0 c s).length
  | [], h => by simp at h
  | x :: s, h => by
    rw [Lib.indexByte]
    by_cases e : x = c
    · subst e; simp [cut0]
    · have e' : (x == c) = false := by simpa using e
      have hs : c ∈ s := by
        rcases List.mem_cons.1 h with h | h
        · exact absurd h.symm e
        · exact h
      have ih := indexByte_cut hs
      have hn : (Lib.indexByte s c == -1) = false := by rw [ih]; simp
      rw [e', hn, ih]
      simp [cut0, e]
theorem parts_mem {c : UInt8} {s : List UInt8} (h : c ∈ s) : parts c s = cut0 c s :: parts c (cut1 c s) := by
  obtain ⟨h1, h2⟩ := cut_split h
  have := parts_at (b := cut1 c s) h2
  rwa [← h1] at this
theorem cut_len {c : UInt8} {s : List UInt8} (h : c ∈ s) : (cut0 c s).length + 1 + (cut1 c s).length = s.length := by
  have h1 := (cut_split h).1
  have := congrArg List.length h1
  simp at this; omega

theorem cut_take {c : UInt8} {s : List UInt8} (h : c ∈ s) : s.take (cut0 c s).length = cut0 c s := by
  have h1 := (cut_split h).1
  generalize cut0 c s = a at h1
  generalize cut1 c s = b at h1
  subst h1
  simp
theorem cut_drop {c : UInt8} {s : List UInt8} (h : c ∈ s) : s.drop ((cut0 c s).length + 1) = cut1 c s := by
  have h1 := (cut_split h).1
  generalize cut0 c s = a at h1
  generalize cut1 c s = b at h1
  subst h1
  rw [show a ++ c :: b = (a ++ [c]) ++ b by simp, show a.length + 1 = (a ++ [c]).length by simp, List.drop_left]

end Go.Proofs.YtbeoijlggphklaaGreat
