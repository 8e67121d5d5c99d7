/- Texts that are cut at a byte; numbers as texts. No program in sight. -/
import Derived.Test.YtbeoijlggphklaaGreatBase
import Derived.Lib.ItoaNum
set_option linter.unusedVariables false
set_option linter.unusedSimpArgs false
namespace Go.Proofs.YtbeoijlggphklaaGreat
open Go.Abs

/-! ### Texts that are cut -/
def cut0 (c : UInt8) (s : List UInt8) : List UInt8 := s.takeWhile (· != c)
def cut1 (c : UInt8) (s : List UInt8) : List UInt8 := (s.dropWhile (· != c)).drop 1
theorem cut_none {c : UInt8} : ∀ {s : List UInt8}, c ∉ s → cut0 c s = s ∧ cut1 c s = []
  | [], _ => by simp [cut0, cut1]
  | x :: s, h => by
    rw [List.mem_cons, not_or] at h
    have hx : (x != c) = true := by simpa using fun e : x = c => h.1 e.symm
    obtain ⟨h1, h2⟩ := cut_none h.2
    have e0 : cut0 c (x :: s) = x :: cut0 c s := by simp [cut0, hx]
    have e1 : cut1 c (x :: s) = cut1 c s := by simp [cut1, hx]
    rw [e0, e1, h1]; exact ⟨rfl, h2⟩
theorem cut0_none {c : UInt8} {s : List UInt8} (h : c ∉ s) : cut0 c s = s := (cut_none h).1
theorem cut1_none {c : UInt8} {s : List UInt8} (h : c ∉ s) : cut1 c s = [] := (cut_none h).2
theorem cut0_at {c : UInt8} {a b : List UInt8} (h : c ∉ a) : cut0 c (a ++ c :: b) = a := by
  unfold cut0
  rw [List.takeWhile_append_of_pos]
  · simp
  · intro x hx
    simp only [bne_iff_ne, ne_eq]
    rintro rfl
    exact h hx
theorem cut1_at {c : UInt8} {a b : List UInt8} (h : c ∉ a) : cut1 c (a ++ c :: b) = b := by
  unfold cut1
  rw [List.dropWhile_append_of_pos]
  · simp
  · intro x hx
    simp only [bne_iff_ne, ne_eq]
    rintro rfl
    exact h hx
theorem cut_split {c : UInt8} : ∀ {s : List UInt8}, c ∈ s → s = cut0 c s ++ c :: cut1 c s ∧ c ∉ cut0 c s
  | [], h => by simp at h
  | x :: s, h => by
    by_cases e : x = c
    · subst e; simp [cut0, cut1]
    · have hs : c ∈ s := by
        rcases List.mem_cons.1 h with h | h
        · exact absurd h.symm e
        · exact h
      obtain ⟨h1, h2⟩ := cut_split hs
      have hx : (x != c) = true := by simpa using e
      have e0 : cut0 c (x :: s) = x :: cut0 c s := by simp [cut0, hx]
      have e1 : cut1 c (x :: s) = cut1 c s := by simp [cut1, hx]
      rw [e0, e1]
      refine ⟨by rw [List.cons_append, ← h1], ?_⟩
      rw [List.mem_cons, not_or]
      exact ⟨fun h => e h.symm, h2⟩
/-- A text between bytes. -/
def parts (c : UInt8) : List UInt8 → List (List UInt8)
  | [] => [[]]
  | x :: s => if x = c then [] :: parts c s else match parts c s with
    | p :: ps => (x :: p) :: ps
    | [] => [[x]]
theorem parts_none {c : UInt8} : ∀ {s : List UInt8}, c ∉ s → parts c s = [s]
  | [], _ => rfl
  | x :: s, h => by
    rw [List.mem_cons, not_or] at h
    rw [parts, if_neg (fun e => h.1 e.symm), parts_none h.2]
theorem parts_at {c : UInt8} : ∀ {a b : List UInt8}, c ∉ a → parts c (a ++ c :: b) = a :: parts c b
  | [], b, _ => by rw [List.nil_append, parts, if_pos rfl]
  | x :: a, b, h => by
    rw [List.mem_cons, not_or] at h
    rw [List.cons_append, parts, if_neg (fun e => h.1 e.symm), parts_at h.2]
theorem parts_ne {c : UInt8} (s : List UInt8) : parts c s ≠ [] := by
  by_cases h : c ∈ s
  · obtain ⟨h1, h2⟩ := cut_split h
    rw [h1, parts_at h2]; simp
  · rw [parts_none h]; simp
theorem parts_head {c : UInt8} (s : List UInt8) : (parts c s).headD [] = cut0 c s := by
  by_cases h : c ∈ s
  · obtain ⟨h1, h2⟩ := cut_split h
    conv => lhs; rw [h1, parts_at h2]
    simp
  · rw [parts_none h, cut0_none h]; rfl
theorem parts_len {c : UInt8} (s : List UInt8) : 2 ≤ (parts c s).length ↔ c ∈ s := by
  by_cases h : c ∈ s
  · obtain ⟨h1, h2⟩ := cut_split h
    rw [h1, parts_at h2]
    have := List.length_pos_iff.2 (parts_ne (c := c) (cut1 c s))
    simp only [List.length_cons]
    constructor
    · intro _; simp
    · intro _; omega
  · rw [parts_none h]; simp [h]

def digits (n : Nat) : List UInt8 := Lib.decDigits n
theorem digits_small {n : Nat} (h : n < 10) : digits n = [UInt8.ofNat (48 + n)] := by unfold digits; rw [Lib.decDigits, dif_pos h]
theorem digits_big {n : Nat} (h : ¬ n < 10) : digits n = digits (n / 10) ++ [UInt8.ofNat (48 + n % 10)] := by
  unfold digits
  conv => lhs; rw [Lib.decDigits, dif_neg h]
theorem digits_range : ∀ (n : Nat) (b : UInt8), b ∈ digits n → 48 ≤ b.toNat ∧ b.toNat ≤ 57 := by
  intro n
  induction n using Nat.strongRecOn with
  | _ n ih =>
    intro b hb
    by_cases h : n < 10
    · rw [digits_small h, List.mem_singleton] at hb
      subst hb
      rw [UInt8.toNat_ofNat']; omega
    · rw [digits_big h, List.mem_append, List.mem_singleton] at hb
      rcases hb with hb | rfl
      · exact ih (n / 10) (by omega) b hb
      · rw [UInt8.toNat_ofNat']; omega
theorem digits_len : ∀ (k n : Nat), n < 10 ^ (k + 1) → (digits n).length ≤ k + 1
  | 0, n, h => by rw [digits_small (by omega)]; simp
  | k + 1, n, h => by
    by_cases h' : n < 10
    · rw [digits_small h']; simp
    · rw [digits_big h', List.length_append, List.length_singleton]
      have := digits_len k (n / 10) (by rw [Nat.pow_succ] at h; omega)
      omega
theorem dig_slice {i : Nat} (h : i < 10) : (([48, 49, 50, 51, 52, 53, 54, 55, 56, 57] : List UInt8).drop i).take 1 = [UInt8.ofNat (48 + i)] := by
  have : ∀ j : Fin 10, (([48, 49, 50, 51, 52, 53, 54, 55, 56, 57] : List UInt8).drop j.1).take 1 = [UInt8.ofNat (48 + j.1)] := by decide
  exact this ⟨i, h⟩
theorem digits_le (n : Nat) : (digits n).length ≤ n + 1 := by
  induction n using Nat.strongRecOn with
  | _ n ih =>
    by_cases h : n < 10
    · rw [digits_small h]; simp
    · rw [digits_big h, List.length_append, List.length_singleton]
      have := ih (n / 10) (by omega)
      omega
end Go.Proofs.YtbeoijlggphklaaGreat
