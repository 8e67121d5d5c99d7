/- The best lines of words: costs, the first best line, all lines. No program in sight. -/
import Derived.Test.YtopcfaffljjnbaaGreatDoorMottoLaw
set_option linter.unusedVariables false
set_option linter.unusedSimpArgs false
namespace Go.Proofs.YtopcfaffljjnbaaGreatDoor
open Go.Abs

/-- What a line costs. -/
def lack (w : Int) (line : List UInt8) : Int := (w - line.length) * (w - line.length)
/-- The least cost, over all lines that begin with cur; t tells the costs of the words behind (t.head: of 'rest'). -/
def minGo (w : Int) : Option Int → List UInt8 → List (List UInt8) → List Int → Int
  | b, cur, rest, t => if w < cur.length then b.getD 0 else
    let c := lack w cur + t.headD 0
    let b' := match b with | none => c | some b => if c < b then c else b
    match rest with
    | [] => b'
    | y :: rest' => minGo w (some b') (cur ++ 32 :: y) rest' t.tail
/-- The costs of the words from each one on. -/
def costs (w : Int) : List (List UInt8) → List Int
  | [] => [0]
  | x :: xs => minGo w none x xs (costs w xs) :: costs w xs
theorem costs_len (w : Int) (l : List (List UInt8)) : (costs w l).length = l.length + 1 := by
  induction l with
  | nil => rfl
  | cons x xs ih => rw [costs, List.length_cons, ih]; rfl
/-- The first line of a cost, and the words behind it. -/
def nextGo (w target : Int) : List UInt8 → List (List UInt8) → List Int → List UInt8 × List (List UInt8)
  | cur, rest, t => if lack w cur + t.headD 0 = target then (cur, rest) else match rest with
    | [] => (cur, [])
    | y :: rest' => nextGo w target (cur ++ 32 :: y) rest' t.tail
theorem nextGo_len (w target : Int) : ∀ (rest : List (List UInt8)) (cur : List UInt8) (t : List Int), (nextGo w target cur rest t).2.length ≤ rest.length
  | [], cur, t => by rw [nextGo]; split <;> simp
  | y :: rest, cur, t => by
    rw [nextGo]
    split
    · simp
    · have := nextGo_len w target rest (cur ++ 32 :: y) t.tail
      simp only [List.length_cons]; omega
/-- The best lines. -/
def evens (w : Int) : List (List UInt8) → List (List UInt8)
  | [] => []
  | x :: xs => (nextGo w (costs w (x :: xs)).head! x xs (costs w xs)).1 :: evens w (nextGo w (costs w (x :: xs)).head! x xs (costs w xs)).2
termination_by l => l.length
decreasing_by
  have := nextGo_len w (costs w (x :: xs)).head! xs x (costs w xs)
  simp only [List.length_cons]; omega
theorem lack_nonneg (w : Int) (l : List UInt8) : 0 ≤ lack w l := by
  unfold lack
  rcases Int.le_total 0 (w - l.length) with h | h
  · exact Int.mul_nonneg h h
  · have := Int.mul_nonneg (a := -(w - l.length)) (b := -(w - l.length)) (by omega) (by omega)
    rwa [Int.neg_mul_neg] at this

/-- The same search, with the line of the least cost and the words behind it. -/
def pickGo (w : Int) : Int × List UInt8 × List (List UInt8) → List UInt8 → List (List UInt8) → List Int → Int × List UInt8 × List (List UInt8)
  | b, cur, rest, t => if w < cur.length then b else
    let b' := if lack w cur + t.headD 0 < b.1 then (lack w cur + t.headD 0, cur, rest) else b
    match rest with
    | [] => b'
    | y :: rest' => pickGo w b' (cur ++ 32 :: y) rest' t.tail
/-- Some line has this cost. -/
def has (w target : Int) : List UInt8 → List (List UInt8) → List Int → Prop
  | cur, rest, t => lack w cur + t.headD 0 = target ∨ match rest with
    | [] => False
    | y :: rest' => has w target (cur ++ 32 :: y) rest' t.tail
theorem pick_min (w : Int) : ∀ (rest : List (List UInt8)) (cur : List UInt8) (t : List Int) (b : Int × List UInt8 × List (List UInt8)), (pickGo w b cur rest t).1 = minGo w (some b.1) cur rest t
  | [], cur, t, b => by
    rw [pickGo, minGo]
    split
    · rfl
    · simp only; split <;> rfl
  | y :: rest, cur, t, b => by
    rw [pickGo, minGo]
    split
    · rfl
    · simp only
      rw [pick_min w rest]
      congr 2
      split <;> rfl
theorem pick_next (w : Int) : ∀ (rest : List (List UInt8)) (cur : List UInt8) (t : List Int) (b : Int × List UInt8 × List (List UInt8)),
    (pickGo w b cur rest t).1 ≤ b.1 ∧ ((pickGo w b cur rest t).1 = b.1 → pickGo w b cur rest t = b) ∧
      ((pickGo w b cur rest t).1 ≠ b.1 → nextGo w (pickGo w b cur rest t).1 cur rest t = (pickGo w b cur rest t).2 ∧ has w (pickGo w b cur rest t).1 cur rest t)
  | [], cur, t, b => by
    rw [pickGo, nextGo, has]
    split
    · exact ⟨Int.le_refl _, fun _ => rfl, fun h => absurd rfl h⟩
    · simp only
      split
      · rename_i hlt
        refine ⟨by dsimp only; omega, fun h => ?_, fun _ => ⟨by simp, .inl rfl⟩⟩
        dsimp only at h; omega
      · exact ⟨Int.le_refl _, fun _ => rfl, fun h => absurd rfl h⟩
  | y :: rest, cur, t, b => by
    rw [pickGo, nextGo, has]
    split
    · exact ⟨Int.le_refl _, fun _ => rfl, fun h => absurd rfl h⟩
    · simp only
      by_cases hlt : lack w cur + t.headD 0 < b.1
      · rw [if_pos hlt]
        obtain ⟨h1, h2, h3⟩ := pick_next w rest (cur ++ 32 :: y) t.tail (lack w cur + t.headD 0, cur, y :: rest)
        dsimp only at h1 h2 h3
        refine ⟨by omega, fun h => by omega, fun _ => ?_⟩
        by_cases e : (pickGo w (lack w cur + t.headD 0, cur, y :: rest) (cur ++ 32 :: y) rest t.tail).1 = lack w cur + t.headD 0
        · rw [h2 e]
          exact ⟨by simp, .inl rfl⟩
        · obtain ⟨g1, g2⟩ := h3 e
          rw [if_neg (fun e' => e e'.symm)]
          exact ⟨g1, .inr g2⟩
      · rw [if_neg hlt]
        obtain ⟨h1, h2, h3⟩ := pick_next w rest (cur ++ 32 :: y) t.tail b
        refine ⟨h1, h2, fun h => ?_⟩
        obtain ⟨g1, g2⟩ := h3 h
        rw [if_neg (by omega)]
        exact ⟨g1, .inr g2⟩
/-- From the first line on. -/
def pick0 (w : Int) (x : List UInt8) (xs : List (List UInt8)) (t : List Int) : Int × List UInt8 × List (List UInt8) := match xs with
  | [] => (lack w x + t.headD 0, x, [])
  | y :: xs' => pickGo w (lack w x + t.headD 0, x, y :: xs') (x ++ 32 :: y) xs' t.tail
theorem pick0_eq {w : Int} {x : List UInt8} {xs : List (List UInt8)} {t : List Int} (hx : (x.length : Int) ≤ w) :
    (pick0 w x xs t).1 = minGo w none x xs t ∧ nextGo w (pick0 w x xs t).1 x xs t = (pick0 w x xs t).2 ∧ has w (pick0 w x xs t).1 x xs t := by
  cases xs with
  | nil =>
    unfold pick0
    rw [minGo, if_neg (by omega), nextGo, has]
    exact ⟨rfl, by simp, .inl rfl⟩
  | cons y xs =>
    unfold pick0
    simp only
    rw [minGo, if_neg (by omega)]
    simp only
    obtain ⟨h1, h2, h3⟩ := pick_next w xs (x ++ 32 :: y) t.tail (lack w x + t.headD 0, x, y :: xs)
    refine ⟨pick_min w xs _ _ _, ?_⟩
    rw [nextGo, has]
    by_cases e : (pickGo w (lack w x + t.headD 0, x, y :: xs) (x ++ 32 :: y) xs t.tail).1 = lack w x + t.headD 0
    · rw [h2 e]
      exact ⟨by simp, .inl rfl⟩
    · obtain ⟨g1, g2⟩ := h3 e
      rw [if_neg (fun e' => e e'.symm)]
      exact ⟨g1, .inr g2⟩

theorem lack_le {w : Int} {l : List UInt8} (h0 : w ≤ 40) (h1 : (l.length : Int) ≤ w) : lack w l ≤ 1600 := by
  unfold lack
  have := Int.mul_le_mul (a := w - l.length) (b := w - l.length) (c := 40) (d := 40) (by omega) (by omega) (by omega) (by omega)
  omega
theorem minGo_le (w : Int) : ∀ (rest : List (List UInt8)) (cur : List UInt8) (t : List Int) (b : Int), minGo w (some b) cur rest t ≤ b
  | [], cur, t, b => by
    rw [minGo]
    split
    · exact Int.le_refl _
    · simp only; split <;> omega
  | y :: rest, cur, t, b => by
    rw [minGo]
    split
    · exact Int.le_refl _
    · simp only
      have := minGo_le w rest (cur ++ 32 :: y) t.tail (if lack w cur + t.headD 0 < b then lack w cur + t.headD 0 else b)
      split at this <;> split <;> omega
theorem headD_nonneg {t : List Int} (h : ∀ x ∈ t, 0 ≤ x) : 0 ≤ t.headD 0 := by
  cases t with
  | nil => simp
  | cons a t => simpa using h a (by simp)
theorem minGo_nonneg (w : Int) : ∀ (rest : List (List UInt8)) (cur : List UInt8) (t : List Int) (b : Option Int), (∀ x, b = some x → 0 ≤ x) → (∀ x ∈ t, 0 ≤ x) → 0 ≤ minGo w b cur rest t
  | rest, cur, t, b, hb, ht => by
    have hl := lack_nonneg w cur
    have hh := headD_nonneg ht
    have hc : 0 ≤ (match b with | none => lack w cur + t.headD 0 | some b => if lack w cur + t.headD 0 < b then lack w cur + t.headD 0 else b) := by
      cases b with
      | none => simp only; omega
      | some b =>
        have := hb b rfl
        simp only
        split <;> omega
    have hgd : 0 ≤ b.getD 0 := by
      cases b with
      | none => simp
      | some b => simpa using hb b rfl
    cases rest with
    | nil =>
      rw [minGo]
      split
      · exact hgd
      · exact hc
    | cons y rest =>
      rw [minGo]
      split
      · exact hgd
      · refine minGo_nonneg w rest _ _ _ ?_ ?_
        · rintro x h
          cases h; exact hc
        · intro x hx; exact ht x (List.mem_of_mem_tail hx)
theorem costs_cons_mem {w : Int} {x : List UInt8} {xs : List (List UInt8)} {c : Int} : c ∈ costs w (x :: xs) ↔ c = minGo w none x xs (costs w xs) ∨ c ∈ costs w xs := by
  rw [costs, List.mem_cons]
theorem minGo_first {w : Int} {x : List UInt8} {xs : List (List UInt8)} {t : List Int} (hx : (x.length : Int) ≤ w) : minGo w none x xs t ≤ lack w x + t.headD 0 := by
  cases xs with
  | nil => rw [minGo, if_neg (by omega)]; exact Int.le_refl _
  | cons y xs => rw [minGo, if_neg (by omega)]; exact minGo_le w xs _ _ _
theorem costs_bound {w : Int} (h0 : w ≤ 40) : ∀ l : List (List UInt8), (∀ x ∈ l, (x.length : Int) ≤ w) → ∀ c ∈ costs w l, 0 ≤ c ∧ c ≤ 1600 * l.length
  | [], _, c, hc => by simp [costs] at hc; subst hc; simp
  | x :: xs, h, c, hc => by
    have ih := costs_bound h0 xs fun y hy => h y (by simp [hy])
    have hx := h x (by simp)
    have hlen : ((x :: xs).length : Int) = xs.length + 1 := by simp
    rw [hlen]
    rcases costs_cons_mem.1 hc with rfl | hc
    · refine ⟨minGo_nonneg w xs x _ none (fun _ h => by cases h) fun y hy => (ih y hy).1, ?_⟩
      have h1 := minGo_first (xs := xs) (t := costs w xs) hx
      have h2 := lack_le h0 hx
      have h3 : (costs w xs).headD 0 ≤ 1600 * xs.length := by
        cases hcs : costs w xs with
        | nil => simp; omega
        | cons a t => simpa using (ih a (by rw [hcs]; simp)).2
      omega
    · have := ih c hc; omega
theorem costs_drop (w : Int) : ∀ (i : Nat) (l : List (List UInt8)), i ≤ l.length → (costs w l).drop i = costs w (l.drop i)
  | 0, l, _ => rfl
  | i + 1, [], h => by simp at h
  | i + 1, x :: l, h => by
    rw [costs, List.drop_succ_cons, List.drop_succ_cons]
    exact costs_drop w i l (by simpa using h)
end Go.Proofs.YtopcfaffljjnbaaGreatDoor
