/- EvenLines in the reference. -/
import Derived.Test.YtopcfaffljjnbaaGreatDoorFill
import Derived.Test.YtopcfaffljjnbaaGreatDoorEvenLaw
import Derived.Test.YtopcfaffljjnbaaGreatDoorWFill
set_option linter.unusedVariables false
set_option linter.unusedSimpArgs false
namespace Go.Proofs.YtopcfaffljjnbaaGreatDoor
open Go.Abs

def evenL (s : List UInt8) (w : Int) : List (List UInt8) := if onScroll s w then evens w (parts 32 s) else []
def evenC (s : List UInt8) (w : Int) : Int := if onScroll s w then (costs w (parts 32 s)).headD 0 else 0
/-- The best of the lines from word i on, where those of k words and more are still to be tried; v: the best of the others, or -1. -/
def leftOf (w : Int) (L : List (List UInt8)) (i k : Nat) (v : Int) : Int :=
  if k ≤ L.length then minGo w (if v < 0 then none else some v) (joinW ((L.drop i).take (k - i))) (L.drop k) ((costs w (L.drop (i + 1))).drop (k - (i + 1))) else v
theorem leftOf_step {w : Int} {L : List (List UInt8)} {i k : Nat} {v c : Int} (hik : i < k) (hk : k ≤ L.length) (hlen : ((joinW ((L.drop i).take (k - i))).length : Int) ≤ w)
    (hc : c = lack w (joinW ((L.drop i).take (k - i))) + ((costs w (L.drop (i + 1))).drop (k - (i + 1))).headD 0) (hc0 : 0 ≤ c) :
    leftOf w L i k v = leftOf w L i (k + 1) (if v < 0 ∨ c < v then c else v) := by
  have hv : ¬ (if v < 0 ∨ c < v then c else v) < 0 := by split <;> omega
  have hb : (match (if v < 0 then none else some v) with | none => c | some b => if c < b then c else b) = (if v < 0 ∨ c < v then c else v) := by
    by_cases h : v < 0
    · simp [h]
    · simp [h]
  have hL : leftOf w L i k v = minGo w (if v < 0 then none else some v) (joinW ((L.drop i).take (k - i))) (L.drop k) ((costs w (L.drop (i + 1))).drop (k - (i + 1))) := by
    unfold leftOf; rw [if_pos hk]
  rw [hL]
  by_cases e : k = L.length
  · subst e
    have hR : leftOf w L i (L.length + 1) (if v < 0 ∨ c < v then c else v) = (if v < 0 ∨ c < v then c else v) := by
      unfold leftOf; rw [if_neg (show ¬ L.length + 1 ≤ L.length by omega)]
    rw [hR, List.drop_length, minGo, if_neg (show ¬ w < ((joinW ((L.drop i).take (L.length - i))).length : Int) by omega)]
    simp only
    rw [← hc]; exact hb
  · have hkl : k < L.length := by omega
    have hd : L.drop k = L[k] :: L.drop (k + 1) := List.drop_eq_getElem_cons hkl
    have hg : (L.drop i)[k - i]'(by rw [List.length_drop]; omega) = L[k] := by
      rw [List.getElem_drop]; congr 1; omega
    have hs : (L.drop i).take (k + 1 - i) = (L.drop i).take (k - i) ++ [L[k]] := by
      rw [show k + 1 - i = k - i + 1 by omega, List.take_succ_eq_append_getElem (by rw [List.length_drop]; omega), hg]
    have hne : (L.drop i).take (k - i) ≠ [] := by
      intro h
      have := congrArg List.length h
      simp at this; omega
    have hR : leftOf w L i (k + 1) (if v < 0 ∨ c < v then c else v) = minGo w (some (if v < 0 ∨ c < v then c else v)) (joinW ((L.drop i).take (k - i)) ++ 32 :: L[k]) (L.drop (k + 1)) ((costs w (L.drop (i + 1))).drop (k + 1 - (i + 1))) := by
      unfold leftOf
      rw [if_pos (show k + 1 ≤ L.length by omega), if_neg hv, hs, joinW_snoc _ _ hne]
    rw [hR, hd, minGo, if_neg (show ¬ w < ((joinW ((L.drop i).take (k - i))).length : Int) by omega)]
    simp only
    rw [← hc, List.tail_drop, show k - (i + 1) + 1 = k + 1 - (i + 1) by omega]
    exact congrArg (fun z => minGo w (some z) _ _ _) hb
theorem leftOf_end {w : Int} {L : List (List UInt8)} {i k : Nat} {v : Int} (hik : i < k) (hv : 0 ≤ v) (h : k ≤ L.length → w < (joinW ((L.drop i).take (k - i))).length) : leftOf w L i k v = v := by
  unfold leftOf
  split
  · rename_i hk
    have hgo : ∀ rest t, minGo w (some v) (joinW ((L.drop i).take (k - i))) rest t = v := fun rest t => by
      cases rest <;> (rw [minGo, if_pos (h hk)]; rfl)
    rw [if_neg (by omega)]
    exact hgo _ _
  · rfl
theorem far_get {β : Type} {xs ys : List β} {y : β} {i j k : Nat} (hx : xs.length = i) (hk : k = i + 1 + j) : (xs ++ y :: ys)[k]? = ys[j]? := by
  subst hx hk
  rw [List.getElem?_append_right (by omega), show xs.length + 1 + j - xs.length = j + 1 by omega, List.getElem?_cons_succ]
theorem lack_le' {w : Int} {l : List UInt8} (h0 : w ≤ 40) (h1 : 0 ≤ w) (h2 : l.length ≤ 61) : lack w l ≤ 3721 := by
  unfold lack
  rcases Int.le_total 0 (w - l.length) with h | h
  · have := Int.mul_le_mul (a := w - l.length) (b := w - l.length) (c := 61) (d := 61) (by omega) (by omega) (by omega) (by omega)
    omega
  · have := Int.mul_le_mul (a := -(w - l.length)) (b := -(w - l.length)) (c := 61) (d := 61) (by omega) (by omega) (by omega) (by omega)
    rw [Int.neg_mul_neg] at this
    omega
theorem next_step {w C : Int} {L : List (List UInt8)} {i k : Nat} {t : List Int} (hik : i < k) (hk : k ≤ L.length)
    (hne : ¬ lack w (joinW ((L.drop i).take (k - i))) + t.headD 0 = C) (hh : has w C (joinW ((L.drop i).take (k - i))) (L.drop k) t) :
    k < L.length ∧ nextGo w C (joinW ((L.drop i).take (k - i))) (L.drop k) t = nextGo w C (joinW ((L.drop i).take (k + 1 - i))) (L.drop (k + 1)) t.tail ∧
      has w C (joinW ((L.drop i).take (k + 1 - i))) (L.drop (k + 1)) t.tail := by
  by_cases e : k = L.length
  · subst e
    rw [List.drop_length, has] at hh
    rcases hh with h | h
    · exact absurd h hne
    · exact absurd h (by simp)
  · have hkl : k < L.length := by omega
    have hd : L.drop k = L[k] :: L.drop (k + 1) := List.drop_eq_getElem_cons hkl
    have hg : (L.drop i)[k - i]'(by rw [List.length_drop]; omega) = L[k] := by
      rw [List.getElem_drop]; congr 1; omega
    have hs : (L.drop i).take (k + 1 - i) = (L.drop i).take (k - i) ++ [L[k]] := by
      rw [show k + 1 - i = k - i + 1 by omega, List.take_succ_eq_append_getElem (by rw [List.length_drop]; omega), hg]
    have hnil : (L.drop i).take (k - i) ≠ [] := by
      intro h
      have := congrArg List.length h
      simp at this; omega
    rw [hs, joinW_snoc _ _ hnil, hd]
    rw [hd, has] at hh
    refine ⟨hkl, ?_, ?_⟩
    · rw [nextGo, if_neg hne]
    · rcases hh with h | h
      · exact absurd h hne
      · exact h
theorem s_EvenLines (s : List UInt8) (w : Int) (hs : s.length ≤ 1048576) : PCall Tryz.prog n_s_EvenLines [S s, I w] (.tup [.own 1 ((evenL s w).map S), I (evenC s w), B (onScroll s w)]) := by
  refine PCall.of fn_s_EvenLines (by simp) ?_
  simp [c_s_EvenLines, r_s_EvenLines_0, r_s_EvenLines_1, r_s_EvenLines_2]
  refine callQ_v (s_l23Fits s w hs) ?_
  cases h : onScroll s w with
  | false => simp [r_s_EvenLines_3, evenL, evenC, h]
  | true =>
  have hl := onScroll_len h
  have hle : (parts 32 s).length ≤ 61 := by have := parts_count 32 s; have := count_le 32 s; omega
  have htot := tot_parts 32 s
  have hsp := s_l1Split s 32 (by omega)
  have hE : evenL s w = evens w (parts 32 s) := by rw [evenL, if_pos h]
  have hC : evenC s w = (costs w (parts 32 s)).headD 0 := by rw [evenC, if_pos h]
  have hwords : ∀ x ∈ parts 32 s, (x.length : Int) ≤ w := by
    have h' := h
    simp only [onScroll, Bool.and_eq_true, decide_eq_true_iff, inR_iff] at h'
    have : most (parts 32 s) ≤ w.toNat := by omega
    intro x hx
    have := most_le.1 this x hx
    omega
  rw [hE, hC]
  generalize parts 32 s = L at hle hsp htot hwords ⊢
  have hline := fun i k (h1 : i ≤ k) (h2 : k ≤ L.length) => s_l23Line L i k h1 h2 (by omega) (by omega)
  simp [r_s_EvenLines_4]
  refine callQ_of hsp rfl (.inl (by simp)) (by simp) ?_
  simp [r_s_EvenLines_5]
  simp [r_s_EvenLines_6]
  rw [wrap64 (by omega) (by omega)]
  have hn1 : ((L.length : Int) + 1).toNat = L.length + 1 := by omega
  rw [hn1]
  refine ⟨⟨by omega, by unfold lenBound; omega⟩, ?_⟩
  simp [r_s_EvenLines_7]
  rw [wrap64 (by omega) (by omega)]
  simp [r_s_EvenLines_20]
  refine loopK (fun m : Nat => ⟨[(1, I w), (7, .sl 18 0 0), (8, .sl 25 0 L.length), (9, I L.length), (10, .sl 30 0 (L.length + 1)), (11, I ((m : Int) - 1))], [(30, ⟨1, List.replicate m (I 0) ++ (costs w (L.drop m)).map I⟩), (25, ⟨1, L.map S⟩), (18, ⟨1, []⟩)], []⟩) (fun m => m)
    (fun m => m ≤ L.length) L.length (Wk.list rfl (by simp) (by simp [costs, List.replicate_succ'])) (by simp) ?_
  intro m hm K hN hR hE
  simp [r_s_EvenLines_8, l_s_EvenLines_19]
  refine ⟨fun hpos => ?_, fun hzero => ?_⟩
  · obtain ⟨i, rfl⟩ : ∃ i, m = i + 1 := ⟨m - 1, by omega⟩
    have e1 : ((i + 1 : Nat) : Int) - 1 = i := by omega
    have hil : i < L.length := by omega
    obtain ⟨T, hT⟩ : ∃ T, costs w (L.drop (i + 1)) = T := ⟨_, rfl⟩
    have hTl : T.length = L.length - i := by rw [← hT, costs_len, List.length_drop]; omega
    have hri : (List.replicate i (I 0)).length = i := List.length_replicate ..
    have e2 : List.replicate (i + 1) (I 0) ++ T.map I = List.replicate i (I 0) ++ I 0 :: T.map I := by rw [List.replicate_succ']; simp
    rw [e1, hT, e2]
    simp [r_s_EvenLines_9, app_get hri, app_set hri]
    refine ⟨by omega, ?_⟩
    simp [r_s_EvenLines_10]
    rw [wrap64 (by omega) (by omega)]
    have hTb : ∀ c ∈ T, 0 ≤ c ∧ c ≤ 97600 := fun c hc => by
      rw [← hT] at hc
      have := costs_bound hl.2 (L.drop (i + 1)) (fun x hx => hwords x (List.mem_of_mem_drop hx)) c hc
      rw [List.length_drop] at this
      omega
    have hd : L.drop i = L[i] :: L.drop (i + 1) := List.drop_eq_getElem_cons hil
    have hfirst : (L.drop i).take (i + 1 - i) = [L[i]] := by rw [show i + 1 - i = 1 by omega, hd]; rfl
    have hCi : costs w (L.drop i) = minGo w none L[i] (L.drop (i + 1)) T :: T := by rw [hd, costs, hT]
    refine loopK (fun p : Nat × Int => ⟨[(1, I w), (7, .sl 18 0 0), (8, .sl 25 0 L.length), (9, I L.length), (10, .sl 30 0 (L.length + 1)), (11, I i), (12, I p.1)], [(30, ⟨1, List.replicate i (I 0) ++ I p.2 :: T.map I⟩), (25, ⟨1, L.map S⟩), (18, ⟨1, []⟩)], []⟩) (fun p => L.length + 1 - p.1)
      (fun p => (i < p.1 ∧ p.1 ≤ L.length + 1) ∧ leftOf w L i p.1 p.2 = minGo w none L[i] (L.drop (i + 1)) T ∧ (-1 ≤ p.2 ∧ p.2 ≤ 100000) ∧ (i + 1 < p.1 → 0 ≤ p.2) ∧ (p.1 = i + 1 → p.2 = -1)) (i + 1, -1) (Wk.list rfl (by simp) (by simp)) ?_ ?_
    · refine ⟨⟨by dsimp only; omega, by dsimp only; omega⟩, ?_, ⟨by omega, by omega⟩, fun h => absurd h (by dsimp only; omega), fun _ => rfl⟩
      dsimp only
      unfold leftOf
      rw [if_pos (by omega), if_pos (by omega), hfirst, hT]
      simp [joinW]
    rintro ⟨k, v⟩ ⟨⟨hik, hk⟩, hv, ⟨hv1, hv2⟩, hv3, hv4⟩ K' hN' hR' hE'
    dsimp only at hik hk hv hv1 hv2 hv3 hv4 ⊢
    have hv5 : 0 ≤ v → (k ≤ L.length → w < (joinW ((L.drop i).take (k - i))).length) → costs w (L.drop i) = v :: T := fun h1 h2 => by
      rw [hCi, ← hv, leftOf_end hik h1 h2]
    simp [r_s_EvenLines_11, l_s_EvenLines_17]
    refine ⟨fun hkl => ?_, fun hkl => ?_⟩
    · refine callQ_v (PCall.arg (hline i k (by omega) (by omega)) (by simp)) ?_
      simp
      refine ⟨fun hfit => ?_, fun hlong => ?_⟩
      · have hkT : k - (i + 1) < T.length := by omega
        obtain ⟨c0, hc0⟩ : ∃ c0, T[k - (i + 1)] = c0 := ⟨_, rfl⟩
        have hc0b := hTb c0 (by rw [← hc0]; exact List.getElem_mem _)
        have hld : (List.replicate i (I 0) ++ I v :: T.map I)[k]? = some (I c0) := by
          rw [far_get (j := k - (i + 1)) hri (by omega)]
          simp [hkT, hc0]
        have hhd : ((costs w (L.drop (i + 1))).drop (k - (i + 1))).headD 0 = c0 := by
          rw [hT, List.drop_eq_getElem_cons hkT]; exact hc0
        have hlk := lack_le hl.2 hfit
        have hlk0 := lack_nonneg w (joinW ((L.drop i).take (k - i)))
        have hstep := leftOf_step (w := w) (L := L) (v := v) (c := lack w (joinW ((L.drop i).take (k - i))) + c0) hik hkl hfit (by rw [hhd]) (by omega)
        rw [hv] at hstep
        unfold lack at hstep hlk hlk0
        simp [r_s_EvenLines_12]
        refine callQ_v (PCall.arg (hline i k (by omega) (by omega)) (by simp)) ?_
        simp
        rw [wrap64 (by omega) (by omega)]
        simp [r_s_EvenLines_13]
        rw [hld]
        refine ⟨by omega, ?_⟩
        simp
        generalize hLK : (w - ((joinW ((L.drop i).take (k - i))).length : Int)) * (w - ((joinW ((L.drop i).take (k - i))).length : Int)) = Q at hstep hlk hlk0 ⊢
        rw [wrap64 (n := Q) (by omega) (by omega), wrap64 (by omega) (by omega)]
        simp [r_s_EvenLines_14, app_get hri]
        refine ⟨by omega, fun hv0 => ⟨by omega, fun hlt => ?_, fun hge => ?_⟩, fun hv0 => ?_⟩
        · rw [if_pos (.inr hlt)] at hstep
          simp [r_s_EvenLines_15, app_get hri, app_set hri]
          refine ⟨by omega, ?_⟩
          simp [r_s_EvenLines_16]
          rw [wrap64 (by omega) (by omega)]
          refine hN' (k + 1, Q + c0) _ (by dsimp only; omega) ⟨⟨by dsimp only; omega, by dsimp only; omega⟩, hstep.symm, ⟨by dsimp only; omega, by dsimp only; omega⟩, fun _ => by dsimp only; omega, fun e => absurd e (by dsimp only; omega)⟩ (Wk.list rfl (by simp) (by simp))
        · rw [if_neg (by omega)] at hstep
          simp [r_s_EvenLines_16]
          rw [wrap64 (by omega) (by omega)]
          refine hN' (k + 1, v) _ (by dsimp only; omega) ⟨⟨by dsimp only; omega, by dsimp only; omega⟩, hstep.symm, ⟨by dsimp only; omega, by dsimp only; omega⟩, fun _ => hv0, fun e => absurd e (by dsimp only; omega)⟩ (Wk.list rfl (by simp) (by simp))
        · rw [if_pos (.inl hv0)] at hstep
          simp [r_s_EvenLines_15, app_get hri, app_set hri]
          refine ⟨by omega, ?_⟩
          simp [r_s_EvenLines_16]
          rw [wrap64 (by omega) (by omega)]
          refine hN' (k + 1, Q + c0) _ (by dsimp only; omega) ⟨⟨by dsimp only; omega, by dsimp only; omega⟩, hstep.symm, ⟨by dsimp only; omega, by dsimp only; omega⟩, fun _ => by dsimp only; omega, fun e => absurd e (by dsimp only; omega)⟩ (Wk.list rfl (by simp) (by simp))
      · have hne : k ≠ i + 1 := by
          rintro rfl
          rw [hfirst] at hlong
          have := hwords L[i] (List.getElem_mem _)
          simp [joinW] at hlong
          omega
        have hCT := hv5 (hv3 (by omega)) (fun _ => hlong)
        refine hE' _ _ ?_
        simp only [blockK_exit]
        simp [r_s_EvenLines_18]
        rw [wrap64 (by omega) (by omega)]
        refine hN i _ (by omega) (by omega) (Wk.list rfl (by simp) (by simp [hCT]))
    · have hne : k ≠ i + 1 := by omega
      have hCT := hv5 (hv3 (by omega)) (fun h => absurd h (by omega))
      refine hE' _ _ ?_
      simp only [blockK_exit]
      simp [r_s_EvenLines_18]
      rw [wrap64 (by omega) (by omega)]
      refine hN i _ (by omega) (by omega) (Wk.list rfl (by simp) (by simp [hCT]))
  · obtain rfl : m = 0 := by omega
    refine hE _ _ ?_
    obtain ⟨T, hT⟩ : ∃ T, costs w L = T := ⟨_, rfl⟩
    have hTl : T.length = L.length + 1 := by rw [← hT, costs_len]
    have hTb : ∀ c ∈ T, 0 ≤ c ∧ c ≤ 97600 := fun c hc => by
      rw [← hT] at hc
      have := costs_bound hl.2 L hwords c hc
      omega
    simp only [blockK_exit]
    rw [List.drop_zero, hT]
    simp [r_s_EvenLines_20, r_s_EvenLines_30, p_s_EvenLines_30]
    refine loopK (fun p : List (List UInt8) × Nat => ⟨[(1, I w), (7, .sl 18 0 p.1.length), (8, .sl 25 0 L.length), (9, I L.length), (10, .sl 30 0 (L.length + 1)), (15, I p.2)], [(30, ⟨1, T.map I⟩), (25, ⟨1, L.map S⟩), (18, ⟨1, p.1.map S⟩)], []⟩) (fun p => L.length - p.2)
      (fun p => p.2 ≤ L.length ∧ p.1.length ≤ p.2 ∧ evens w L = p.1 ++ evens w (L.drop p.2)) ([], 0) (Wk.list rfl (by simp) (by simp)) (by simp) ?_
    rintro ⟨out, i⟩ ⟨hi, ho, hf⟩ K hN hR hE
    dsimp only at hi ho hf ⊢
    simp [r_s_EvenLines_21, l_s_EvenLines_29]
    refine ⟨fun hlt => ?_, fun hge => ?_⟩
    · simp [r_s_EvenLines_22]
      rw [wrap64 (by omega) (by omega)]
      have hd : L.drop i = L[i] :: L.drop (i + 1) := List.drop_eq_getElem_cons hlt
      have hfirst : (L.drop i).take (i + 1 - i) = [L[i]] := by rw [show i + 1 - i = 1 by omega, hd]; rfl
      have hTd := costs_drop w i L hi
      have hTd1 := costs_drop w (i + 1) L (by omega)
      rw [hT] at hTd hTd1
      have hiT : i < T.length := by omega
      obtain ⟨C, hCe⟩ : ∃ C, T[i] = C := ⟨_, rfl⟩
      have hCb := hTb C (by rw [← hCe]; exact List.getElem_mem _)
      have hci : costs w (L.drop i) = C :: T.drop (i + 1) := by rw [← hTd, List.drop_eq_getElem_cons hiT, hCe]
      have hmin : C = minGo w none L[i] (L.drop (i + 1)) (T.drop (i + 1)) := by
        have := hci
        rw [hd, costs, ← hTd1] at this
        exact (List.cons.inj this).1.symm
      obtain ⟨hp1, _, hp3⟩ := pick0_eq (w := w) (x := L[i]) (xs := L.drop (i + 1)) (t := T.drop (i + 1)) (hwords L[i] (List.getElem_mem _))
      rw [hp1, ← hmin] at hp3
      have hev : evens w (L.drop i) = (nextGo w C L[i] (L.drop (i + 1)) (T.drop (i + 1))).1 :: evens w (nextGo w C L[i] (L.drop (i + 1)) (T.drop (i + 1))).2 := by
        rw [hd, evens, ← hd, hci, ← hTd1]; rfl
      refine loopK (fun k : Nat => ⟨[(1, I w), (7, .sl 18 0 out.length), (8, .sl 25 0 L.length), (9, I L.length), (10, .sl 30 0 (L.length + 1)), (15, I i), (16, I k)], [(30, ⟨1, T.map I⟩), (25, ⟨1, L.map S⟩), (18, ⟨1, out.map S⟩)], []⟩) (fun k => L.length + 1 - k)
        (fun k => (i < k ∧ k ≤ L.length) ∧ nextGo w C L[i] (L.drop (i + 1)) (T.drop (i + 1)) = nextGo w C (joinW ((L.drop i).take (k - i))) (L.drop k) (T.drop k) ∧ has w C (joinW ((L.drop i).take (k - i))) (L.drop k) (T.drop k)) (i + 1) (Wk.list rfl (by simp) (by simp)) ?_ ?_
      · rw [hfirst]
        exact ⟨⟨by omega, by omega⟩, rfl, hp3⟩
      rintro k ⟨⟨hik, hk⟩, hnx, hhas⟩ K' hN' hR' hE'
      have hkT : k < T.length := by omega
      obtain ⟨c0, hc0⟩ : ∃ c0, T[k] = c0 := ⟨_, rfl⟩
      have hc0b := hTb c0 (by rw [← hc0]; exact List.getElem_mem _)
      have hhd : (T.drop k).headD 0 = c0 := by rw [List.drop_eq_getElem_cons hkT]; exact hc0
      have hjl := joinW_le L i (k - i)
      have hw0 : 0 ≤ w := by have := hwords L[i] (List.getElem_mem _); omega
      have hlk := lack_le' (l := joinW ((L.drop i).take (k - i))) hl.2 (by have := hwords L[i] (List.getElem_mem _); omega) (by omega)
      have hlk0 := lack_nonneg w (joinW ((L.drop i).take (k - i)))
      have hstep := next_step (w := w) (C := C) (t := T.drop k) hik hk
      rw [hhd] at hstep
      unfold lack at hstep hlk hlk0
      simp [r_s_EvenLines_23, l_s_EvenLines_26]
      refine callQ_v (PCall.arg (hline i k (by omega) (by omega)) (by simp)) ?_
      simp
      rw [wrap64 (by omega) (by omega)]
      have hld : T[k]? = some c0 := by simp [hkT, hc0]
      have hld2 : T[i]? = some C := by simp [hiT, hCe]
      simp [r_s_EvenLines_24, p_s_EvenLines_24, hld, hld2]
      refine ⟨by omega, ?_⟩
      generalize hLK : (w - ((joinW ((L.drop i).take (k - i))).length : Int)) * (w - ((joinW ((L.drop i).take (k - i))).length : Int)) = Q at hstep hlk hlk0 ⊢
      rw [wrap64 (n := Q) (by omega) (by omega), wrap64 (by omega) (by omega)]
      refine ⟨by omega, oEnd_of (by first | kernel_rfl | simp) (by first | kernel_rfl | simp), fun heq => ?_, fun hne => ?_⟩
      · have hR : nextGo w C (joinW ((L.drop i).take (k - i))) (L.drop k) (T.drop k) = (joinW ((L.drop i).take (k - i)), L.drop k) := by
          have hc : lack w (joinW ((L.drop i).take (k - i))) + (T.drop k).headD 0 = C := by unfold lack; rw [hhd, hLK]; exact heq
          cases hdk : L.drop k with
          | nil => rw [nextGo, if_pos hc]
          | cons y r => rw [nextGo, if_pos hc]
        rw [hnx, hR] at hev
        refine hE' _ _ ?_
        simp only [blockK_exit]
        simp [r_s_EvenLines_27]
        refine callQ_v (PCall.arg (hline i k (by omega) (by omega)) (by simp)) ?_
        simp
        refine ⟨by unfold lenBound; omega, ?_⟩
        simp [r_s_EvenLines_28]
        refine hN (out ++ [joinW ((L.drop i).take (k - i))], k) _ (by dsimp only; omega) ⟨by dsimp only; omega, by simp; omega, by rw [hf, hev]; simp⟩ (Wk.trans (Wk.ren 121 18 (by decide) (by simp)) (Wk.list rfl ?_ ?_))
        · simp [AS.ren, ren, reN]
        · simp [AS.ren, ren, reN, renB]
      · obtain ⟨g1, g2, g3⟩ := hstep hne hhas
        rw [List.tail_drop] at g2 g3
        simp [r_s_EvenLines_25]
        rw [wrap64 (by omega) (by omega)]
        refine hN' (k + 1) _ (by omega) ⟨⟨by omega, by omega⟩, by rw [hnx, g2], g3⟩ (Wk.list rfl (by simp) (by simp))
    · obtain rfl : i = L.length := by omega
      refine hE _ _ ?_
      rw [List.drop_length] at hf
      have hev : evens w [] = [] := by rw [evens]
      rw [hev, List.append_nil] at hf
      simp only [blockK_exit]
      cases hT0 : T with
      | nil => rw [hT0] at hTl; simp at hTl
      | cons c0 T' =>
        simp [r_s_EvenLines_30, p_s_EvenLines_30, hf]
        exact oEnd_of (by first | kernel_rfl | simp) (by first | kernel_rfl | simp)
end Go.Proofs.YtopcfaffljjnbaaGreatDoor
