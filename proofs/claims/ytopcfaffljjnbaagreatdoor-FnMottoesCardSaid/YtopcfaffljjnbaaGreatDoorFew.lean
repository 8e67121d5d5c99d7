/- The smallest width for a number of lines, the initial letters; in the program and in the reference. -/
import Derived.Test.YtopcfaffljjnbaaGreatDoorWEven
set_option linter.unusedVariables false
set_option linter.unusedSimpArgs false
namespace Go.Proofs.YtopcfaffljjnbaaGreatDoor
open Go.Abs

/-- Is the width enough for so many lines? -/
def fewIs (s : List UInt8) (c : Int) (w : Nat) : Bool := onScroll s w && decide (((fill w (parts 32 s)).length : Int) ≤ c)
def fewW (s : List UInt8) (c : Int) : Option Nat := (List.range 41).find? (fewIs s c)
def fewOk (s : List UInt8) (c : Int) : Bool := motto s && (inR c 1 20 && (fewW s c).isSome)
def fewN (s : List UInt8) (c : Int) : Int := if fewOk s c then ((fewW s c).getD 0 : Nat) else 0
theorem find_at {p : Nat → Bool} {n w : Nat} (hw : w < n) (hp : p w = true) (h : ∀ j, j < w → p j = false) : (List.range n).find? p = some w := by
  rw [List.find?_eq_some_iff_getElem]
  refine ⟨hp, w, by simpa using hw, by simp, fun j hj => ?_⟩
  simp [h j hj]
theorem find_none {p : Nat → Bool} {n : Nat} (h : ∀ j, j < n → p j = false) : (List.range n).find? p = none := by
  rw [List.find?_eq_none]
  intro x hx
  rw [h x (List.mem_range.1 hx)]
  simp
theorem few_zero (s : List UInt8) (c : Int) : fewIs s c 0 = false := by simp [fewIs, onScroll, inR]
theorem few_short {s : List UInt8} {c : Int} {j : Nat} (h : j < most (parts 32 s)) : fewIs s c j = false := by
  have : ¬ (most (parts 32 s) ≤ j) := by omega
  simp [fewIs, onScroll, this]
theorem motto_most {s : List UInt8} (h : motto s = true) : 1 ≤ most (parts 32 s) ∧ s.length ≤ 60 := by
  rw [motto_parts] at h
  simp only [Bool.and_eq_true, inR_iff, List.all_eq_true] at h
  refine ⟨?_, by omega⟩
  rcases Nat.eq_zero_or_pos (most (parts 32 s)) with h0 | h0
  · have hle := (most_le (l := parts 32 s) (n := 0)).1 (by omega)
    cases hp : parts 32 s with
    | nil => exact absurd hp (parts_ne s)
    | cons x l =>
      have h1 := hle x (by rw [hp]; simp)
      have h2 := h.2 x (by rw [hp]; simp)
      simp only [wordOk, Bool.and_eq_true] at h2
      have : x = [] := List.eq_nil_of_length_eq_zero (by omega)
      rw [this] at h2; simp at h2
  · exact h0
set_option maxHeartbeats 1000000 in
theorem s_FewestLines (s : List UInt8) (c : Int) (hs : s.length ≤ 1048576) : PCall Tryz.prog n_s_FewestLines [S s, I c] (.tup [I (fewN s c), B (fewOk s c)]) := by
  refine PCall.of fn_s_FewestLines (by simp) ?_
  simp [c_s_FewestLines, r_s_FewestLines_0, r_s_FewestLines_1]
  refine callQ_v (s_l23Good s) ?_
  cases h1 : motto s with
  | false => simp [r_s_FewestLines_2, fewN, fewOk, h1]
  | true =>
  simp
  refine callQ_v (s_l1In ..) ?_
  cases h2 : inR c 1 20 with
  | false => simp [r_s_FewestLines_2, fewN, fewOk, h1, h2]
  | true =>
  obtain ⟨hm1, hm2⟩ := motto_most h1
  have hz : ∀ j, j < 1 → fewIs s c j = false := fun j hj => by rw [show j = 0 by omega]; exact few_zero s c
  simp [r_s_FewestLines_3, l_s_FewestLines_8]
  refine loopK (fun w : Nat => ⟨[(0, S s), (1, I c), (6, I w)], [], []⟩) (fun w => 41 - w) (fun w => (1 ≤ w ∧ w ≤ 41) ∧ ∀ j, j < w → fewIs s c j = false) 1 (Wk.list rfl (by simp) (by simp)) ⟨by omega, hz⟩ ?_
  rintro w ⟨hw, hj⟩ K hN hR hE
  simp [r_s_FewestLines_4, r_s_FewestLines_7]
  refine ⟨fun hle => ?_, fun hgt => ?_⟩
  · simp [r_s_FewestLines_5]
    refine callQ_v (s_l23Fits s w hs) ?_
    cases ho : onScroll s w with
    | false =>
      have hf : fewIs s c w = false := by rw [fewIs, ho]; rfl
      simp
      rw [wrap64 (by omega) (by omega)]
      refine hN (w + 1) _ (by omega) ⟨by omega, fun j hj' => ?_⟩ (Wk.list rfl (by simp) (by simp))
      by_cases e : j = w
      · rw [e]; exact hf
      · exact hj j (by omega)
    | true =>
      simp
      refine callQ_of (s_l23Fill s w hm2) rfl (.inl (by simp)) (by simp) ?_
      by_cases hl : ((fill w (parts 32 s)).length : Int) ≤ c
      · have hf : fewIs s c w = true := by rw [fewIs, ho]; simpa using hl
        have hfw : fewW s c = some w := find_at (by omega) hf hj
        simp [r_s_FewestLines_6, hl]
        refine hR _ ?_
        simp [fewN, fewOk, h1, h2, hfw]
      · have hf : fewIs s c w = false := by rw [fewIs, ho]; simpa using hl
        simp [hl]
        rw [wrap64 (by omega) (by omega)]
        refine hN (w + 1) _ (by omega) ⟨by omega, fun j hj' => ?_⟩ (Wk.list rfl (by simp) (by simp))
        by_cases e : j = w
        · rw [e]; exact hf
        · exact hj j (by omega)
  · obtain rfl : w = 41 := by omega
    have hfw : fewW s c = none := find_none hj
    refine hE _ _ ?_
    simp only [blockK_exit]
    simp [r_s_FewestLines_9, fewN, fewOk, h1, h2, hfw]
set_option maxHeartbeats 1000000 in
theorem i_FewestLines (s : List UInt8) (c : Int) (hs : s.length ≤ 1048576) : PCall Tryz.prog n_i_FewestLines [S s, I c] (.tup [I (fewN s c), B (fewOk s c)]) := by
  refine PCall.of fn_i_FewestLines (by simp) ?_
  simp [c_i_FewestLines, r_i_FewestLines_0, r_i_FewestLines_1]
  refine callQ_v (i_IsValidMotto s) ?_
  cases h1 : motto s with
  | false => simp [r_i_FewestLines_2, fewN, fewOk, h1]
  | true =>
  simp
  refine callQ_v (i_inside ..) ?_
  cases h2 : inR c 1 20 with
  | false => simp [r_i_FewestLines_2, fewN, fewOk, h1, h2]
  | true =>
  obtain ⟨hm1, hm2⟩ := motto_most h1
  have hmp := most_parts 32 s
  simp [r_i_FewestLines_3, l_i_FewestLines_8]
  refine callQ_v (i_longest s hs) ?_
  simp
  refine loopK (fun w : Nat => ⟨[(0, S s), (1, I c), (6, I w)], [], []⟩) (fun w => 100 - w) (fun w => (most (parts 32 s) ≤ w ∧ (w ≤ 41 ∨ w = most (parts 32 s))) ∧ ∀ j, j < w → fewIs s c j = false) (most (parts 32 s)) (Wk.list rfl (by simp) (by simp)) ⟨by omega, fun j hj => few_short hj⟩ ?_
  rintro w ⟨hw, hj⟩ K hN hR hE
  simp [r_i_FewestLines_4, r_i_FewestLines_7]
  refine ⟨fun hle => ?_, fun hgt => ?_⟩
  · have ho : onScroll s w = true := by
      simp only [onScroll, Bool.and_eq_true, inR_iff, decide_eq_true_iff]
      exact ⟨h1, by omega, by omega⟩
    simp [r_i_FewestLines_5]
    refine callQ_of (i_wrapped s w hm2 (by omega)) rfl (.inl (by simp)) (by simp) ?_
    by_cases hl : ((fill w (parts 32 s)).length : Int) ≤ c
    · have hf : fewIs s c w = true := by rw [fewIs, ho]; simpa using hl
      have hfw : fewW s c = some w := find_at (by omega) hf hj
      simp [r_i_FewestLines_6, hl]
      refine hR _ ?_
      simp [fewN, fewOk, h1, h2, hfw]
    · have hf : fewIs s c w = false := by rw [fewIs, ho]; simpa using hl
      simp [hl]
      rw [wrap64 (by omega) (by omega)]
      refine hN (w + 1) _ (by omega) ⟨by omega, fun j hj' => ?_⟩ (Wk.list rfl (by simp) (by simp))
      by_cases e : j = w
      · rw [e]; exact hf
      · exact hj j (by omega)
  · have hfw : fewW s c = none := find_none fun j hj' => hj j (by omega)
    refine hE _ _ ?_
    simp only [blockK_exit]
    simp [r_i_FewestLines_9, fewN, fewOk, h1, h2, hfw]
/-- The smallest width is enough, the next smaller one is not. -/
theorem few_law {s : List UInt8} {c : Int} (h : fewOk s c = true) : motto s = true ∧ (onScroll s (fewN s c) = true ∧ ((fill (fewN s c) (parts 32 s)).length : Int) ≤ c) ∧
    ¬ (onScroll s (fewN s c - 1) = true ∧ ((fill (fewN s c - 1) (parts 32 s)).length : Int) ≤ c) := by
  have h' := h
  simp only [fewOk, Bool.and_eq_true] at h'
  obtain ⟨h1, _, h3⟩ := h'
  obtain ⟨w, hw⟩ := Option.isSome_iff_exists.1 h3
  have hN : fewN s c = w := by rw [fewN, if_pos h, hw]; rfl
  have hf := hw
  rw [fewW, List.find?_eq_some_iff_getElem] at hf
  obtain ⟨hp, i, hi, hiw, hj⟩ := hf
  obtain rfl : i = w := by rw [List.getElem_range] at hiw; exact hiw
  rw [hN]
  have hp' := hp
  rw [fewIs, Bool.and_eq_true, decide_eq_true_iff] at hp'
  refine ⟨h1, hp', fun hno => ?_⟩
  have hpos : 1 ≤ i := by
    rcases Nat.eq_zero_or_pos i with e | e
    · subst e
      rw [few_zero] at hp; cases hp
    · exact e
  have h5 := hj (i - 1) (by omega)
  simp only [List.getElem_range, Bool.not_eq_true', fewIs, Bool.and_eq_false_iff, decide_eq_false_iff_not] at h5
  have e : ((i - 1 : Nat) : Int) = (i : Int) - 1 := by omega
  rw [e] at h5
  rcases h5 with h5 | h5
  · rw [h5] at hno; cases hno.1
  · exact h5 hno.2
/-! ### Initial letters -/
def initT (l : List (List UInt8)) : List UInt8 := (l.map fun w => w.take 1 ++ [46]).flatten
def initL (s : List UInt8) : List UInt8 := if motto s then initT (parts 32 s) else []
theorem initT_take {l : List (List UInt8)} {i : Nat} (h : i < l.length) : initT (l.take (i + 1)) = initT (l.take i) ++ (l[i].take 1 ++ [46]) := by
  rw [take_succ' h, initT, initT, List.map_append, List.flatten_append]
  simp
theorem initT_len (l : List (List UInt8)) : (initT l).length ≤ 2 * l.length := by
  induction l with
  | nil => simp [initT]
  | cons x l ih =>
    rw [initT, List.map_cons, List.flatten_cons, List.length_append]
    have : ((l.map fun w => w.take 1 ++ [46]).flatten).length ≤ 2 * l.length := ih
    simp at this ⊢
    omega
theorem motto_words {s : List UInt8} (h : motto s = true) : ∀ x ∈ parts 32 s, 1 ≤ x.length := by
  rw [motto_parts] at h
  simp only [Bool.and_eq_true, List.all_eq_true] at h
  intro x hx
  have h2 := h.2 x hx
  simp only [wordOk, Bool.and_eq_true] at h2
  cases x with
  | nil => simp at h2
  | cons a x => simp
theorem s_InitialLetters (s : List UInt8) (hs : s.length ≤ 1048576) : PCall Tryz.prog n_s_InitialLetters [S s] (.tup [S (initL s), B (motto s)]) := by
  refine PCall.of fn_s_InitialLetters (by simp) ?_
  simp [c_s_InitialLetters, r_s_InitialLetters_0, r_s_InitialLetters_1]
  refine callQ_v (s_l23Good s) ?_
  cases h1 : motto s with
  | false => simp [r_s_InitialLetters_2, initL, h1]
  | true =>
  have hmw := motto_words h1
  have hpc := parts_count 32 s
  have hcl := count_le 32 s
  simp [r_s_InitialLetters_3]
  refine callQ_of (s_l1Split s 32 (by omega)) rfl (.inl (by simp)) (by simp) ?_
  simp [r_s_InitialLetters_4, r_s_InitialLetters_5, l_s_InitialLetters_9, initL, h1]
  obtain ⟨L, hL⟩ : ∃ L, parts 32 s = L := ⟨_, rfl⟩
  rw [hL] at hmw hpc ⊢
  have hil := initT_len L
  have hTl : ∀ i, (initT (L.take i)).length ≤ 2 * L.length := fun i => by
    have := initT_len (L.take i)
    rw [List.length_take] at this
    omega
  refine loopK (fun i : Nat => ⟨[(4, .sl 11 0 L.length), (5, S (initT (L.take i))), (6, I i)], [(11, ⟨1, L.map S⟩)], []⟩) (fun i => L.length - i) (fun i => i ≤ L.length) 0 (Wk.list rfl (by simp [initT]) (by simp)) (by simp) ?_
  intro i hi K hN hR hE
  have hi1 := hTl i
  simp [r_s_InitialLetters_6, r_s_InitialLetters_8]
  refine ⟨fun hlt => ?_, fun hge => ?_⟩
  · have hit := initT_take hlt
    have hw := hmw L[i] (List.getElem_mem hlt)
    simp [r_s_InitialLetters_7, hlt]
    refine ⟨by omega, by omega, by omega, ?_⟩
    rw [wrap64 (by omega) (by omega)]
    refine hN (i + 1) _ (by omega) (by omega) (Wk.list rfl ?_ ?_)
    · simp; simpa using hit.symm
    · simp
  · obtain rfl : i = L.length := by omega
    refine hE _ _ ?_
    simp only [blockK_exit]
    simp [r_s_InitialLetters_10]
theorem i_InitialLetters (s : List UInt8) (hs : s.length ≤ 1048576) : PCall Tryz.prog n_i_InitialLetters [S s] (.tup [S (initL s), B (motto s)]) := by
  refine PCall.of fn_i_InitialLetters (by simp) ?_
  simp [c_i_InitialLetters, r_i_InitialLetters_0, r_i_InitialLetters_1]
  refine callQ_v (i_IsValidMotto s) ?_
  cases h1 : motto s with
  | false => simp [r_i_InitialLetters_2, initL, h1]
  | true =>
  have hmw := motto_words h1
  have hpc := parts_count 32 s
  have hcl := count_le 32 s
  simp [r_i_InitialLetters_3, r_i_InitialLetters_4]
  refine callQ_of (strings_Split s 32 (by omega)) rfl (.inl (by simp)) (by simp) ?_
  simp [l_i_InitialLetters_9, initL, h1]
  obtain ⟨L, hL⟩ : ∃ L, parts 32 s = L := ⟨_, rfl⟩
  rw [hL] at hmw hpc ⊢
  have hil := initT_len L
  have hTl : ∀ i, (initT (L.take i)).length ≤ 2 * L.length := fun i => by
    have := initT_len (L.take i)
    rw [List.length_take] at this
    omega
  refine loopK (fun i : Nat => ⟨[(4, S (initT (L.take i))), (11, .sl 11 0 L.length), (12, I L.length), (13, I i)], [(11, ⟨1, L.map S⟩)], []⟩) (fun i => L.length - i) (fun i => i ≤ L.length) 0 (Wk.list rfl (by simp [initT]) (by simp)) (by simp) ?_
  intro i hi K hN hR hE
  have hi1 := hTl i
  simp [r_i_InitialLetters_5, r_i_InitialLetters_8]
  refine ⟨fun hlt => ?_, fun hge => ?_⟩
  · have hit := initT_take hlt
    have hw := hmw L[i] (List.getElem_mem hlt)
    simp [r_i_InitialLetters_6, r_i_InitialLetters_7, hlt]
    refine ⟨by omega, by omega, by omega, ?_⟩
    rw [wrap64 (by omega) (by omega)]
    refine hN (i + 1) _ (by omega) (by omega) (Wk.list rfl ?_ ?_)
    · simp; simpa using hit.symm
    · simp
  · obtain rfl : i = L.length := by omega
    refine hE _ _ ?_
    simp only [blockK_exit]
    simp [r_i_InitialLetters_10]
end Go.Proofs.YtopcfaffljjnbaaGreatDoor
