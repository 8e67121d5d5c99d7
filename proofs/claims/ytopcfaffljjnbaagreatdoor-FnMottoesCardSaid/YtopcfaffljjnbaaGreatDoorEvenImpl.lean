/- EvenLines in the program: the table of best lines. -/
import Derived.Test.YtopcfaffljjnbaaGreatDoorEvenSpec
import Derived.Test.YtopcfaffljjnbaaGreatDoorLens
set_option linter.unusedVariables false
set_option linter.unusedSimpArgs false
namespace Go.Proofs.YtopcfaffljjnbaaGreatDoor
open Go.Abs

abbrev ownT (l : List (List UInt8)) : V := .own 1 (l.map S)
/-- The rows of best lines from word m on. -/
def rowsE (w : Int) (L : List (List UInt8)) (m : Nat) : List V := (List.range (L.length + 1 - m)).map fun j => ownT (evens w (L.drop (m + j)))
theorem rowsE_len (w : Int) (L : List (List UInt8)) (m : Nat) : (rowsE w L m).length = L.length + 1 - m := by simp [rowsE]
theorem rowsE_cons (w : Int) (L : List (List UInt8)) {m : Nat} (h : m ≤ L.length) : rowsE w L m = ownT (evens w (L.drop m)) :: rowsE w L (m + 1) := by
  unfold rowsE
  rw [show L.length + 1 - m = (L.length + 1 - (m + 1)) + 1 by omega, List.range_succ_eq_map, List.map_cons, List.map_map]
  congr 1
  apply List.map_congr_left
  intro j _
  simp only [Function.comp_apply]
  rw [show m + (j + 1) = m + 1 + j by omega]
abbrev nilV : V := .v (.slice none 0 0)

abbrev Best := Int × List UInt8 × List (List UInt8)
def rowB (w : Int) : Option Best → V
  | none => nilV
  | some b => ownT (b.2.1 :: evens w b.2.2)
def costB : Option Best → Int
  | none => 0
  | some b => b.1
/-- The search behind k words, with the best so far. -/
def Sought (w : Int) (L : List (List UInt8)) (i k : Nat) (x : List UInt8) (T : List Int) : Option Best → Prop
  | none => k = i
  | some b => i < k ∧ b.2.1 ≠ [] ∧ b.2.1.length ≤ (joinW ((L.drop i).take (k - i))).length ∧ (0 ≤ b.1 ∧ b.1 ≤ 100000 ∧ b.2.2.length ≤ L.length) ∧
      pick0 w x (L.drop (i + 1)) T = if h : k < L.length then pickGo w b (joinW ((L.drop i).take (k + 1 - i))) (L.drop (k + 1)) (T.drop (k - i)) else b
theorem ments_owns (d : Nat) (l : List Nat) (f : Nat → List (List UInt8)) : ments d (l.map fun j => ownT (f j)) = false := by
  induction l with
  | nil => rfl
  | cons x l ih => simpa [ments, ment] using ih
theorem ments_rows (d : Nat) (w : Int) (L : List (List UInt8)) (m : Nat) : ments d (rowsE w L m) = false := ments_owns ..
theorem joinW_succ {L : List (List UInt8)} {i k : Nat} (hik : i < k) (hk : k < L.length) : joinW ((L.drop i).take (k + 1 - i)) = joinW ((L.drop i).take (k - i)) ++ 32 :: L[k] := by
  have hg : (L.drop i)[k - i]'(by rw [List.length_drop]; omega) = L[k] := by
    rw [List.getElem_drop]; congr 1; omega
  have hs : (L.drop i).take (k + 1 - i) = (L.drop i).take (k - i) ++ [L[k]] := by
    rw [show k + 1 - i = k - i + 1 by omega, List.take_succ_eq_append_getElem (by rw [List.length_drop]; omega), hg]
  have hnil : (L.drop i).take (k - i) ≠ [] := by
    intro h
    have := congrArg List.length h
    simp at this; omega
  rw [hs, joinW_snoc _ _ hnil]
theorem sought_end {w : Int} {L : List (List UInt8)} {i k : Nat} {T : List Int} {b : Option Best} (hi : i < L.length) (hx : (L[i].length : Int) ≤ w) (hT : costs w (L.drop (i + 1)) = T) (hk : k ≤ L.length)
    (h : Sought w L i k L[i] T b) (hex : k < L.length → w < (joinW ((L.drop i).take (k + 1 - i))).length) : costs w (L.drop i) = costB b :: T ∧ rowB w b = ownT (evens w (L.drop i)) := by
  have hd : L.drop i = L[i] :: L.drop (i + 1) := List.drop_eq_getElem_cons hi
  cases b with
  | none =>
    have e : k = i := h
    subst e
    have := hex hi
    have e1 : (L.drop k).take (k + 1 - k) = [L[k]] := by rw [show k + 1 - k = 1 by omega, hd]; rfl
    rw [e1] at this
    simp only [joinW] at this
    omega
  | some b =>
    obtain ⟨h1, _, _, _, h5⟩ := h
    have hp : pick0 w L[i] (L.drop (i + 1)) T = b := by
      rw [h5]
      split
      · rename_i hkl
        have hgo : ∀ rest t, pickGo w b (joinW ((L.drop i).take (k + 1 - i))) rest t = b := fun rest t => by
          cases rest <;> rw [pickGo, if_pos (hex hkl)]
        exact hgo _ _
      · rfl
    obtain ⟨g1, g2, _⟩ := pick0_eq (w := w) (x := L[i]) (xs := L.drop (i + 1)) (t := T) hx
    rw [hp] at g1 g2
    have hc : costs w (L.drop i) = b.1 :: T := by rw [hd, costs, hT, g1]
    refine ⟨hc, ?_⟩
    show ownT (b.2.1 :: evens w b.2.2) = _
    rw [hd, evens, ← hd, hc, hT]
    show _ = ownT ((nextGo w b.1 L[i] (L.drop (i + 1)) T).1 :: evens w (nextGo w b.1 L[i] (L.drop (i + 1)) T).2)
    rw [g2]
theorem sought_step {w : Int} {L : List (List UInt8)} {i k : Nat} {T : List Int} {b : Option Best} {c c0 : Int} (hi : i < L.length) (hik : i ≤ k) (hkl : k < L.length) (hTk : (T.drop (k - i)).headD 0 = c0)
    (hne : ∀ x ∈ L, x ≠ []) (hfit : ((joinW ((L.drop i).take (k + 1 - i))).length : Int) ≤ w) (hc : c = lack w (joinW ((L.drop i).take (k + 1 - i))) + c0) (hc0 : 0 ≤ c) (hc1 : c ≤ 100000)
    (h : Sought w L i k L[i] T b) : Sought w L i (k + 1) L[i] T (if b = none ∨ c < costB b then some (c, joinW ((L.drop i).take (k + 1 - i)), L.drop (k + 1)) else b) := by
  have hnext : ∀ (bb : Best) (cur : List UInt8) (t : List Int), cur = joinW ((L.drop i).take (k + 1 - i)) → t = T.drop (k - i) → (match L.drop (k + 1) with
      | [] => bb
      | y :: r => pickGo w bb (cur ++ 32 :: y) r t.tail) = if h : k + 1 < L.length then pickGo w bb (joinW ((L.drop i).take (k + 1 + 1 - i))) (L.drop (k + 1 + 1)) (T.drop (k + 1 - i)) else bb := by
    rintro bb cur t rfl rfl
    by_cases e : k + 1 < L.length
    · rw [dif_pos e, joinW_succ (by omega) e, List.drop_eq_getElem_cons e]
      simp only
      rw [List.tail_drop, show k - i + 1 = k + 1 - i by omega]
    · rw [dif_neg e, List.drop_eq_nil_of_le (by omega)]
  cases b with
  | none =>
    have e : k = i := h
    subst e
    have hd : L.drop k = L[k] :: L.drop (k + 1) := List.drop_eq_getElem_cons hi
    have e1 : (L.drop k).take (k + 1 - k) = [L[k]] := by rw [show k + 1 - k = 1 by omega, hd]; rfl
    have e2 : joinW ((L.drop k).take (k + 1 - k)) = L[k] := by rw [e1]; rfl
    rw [if_pos (.inl rfl)]
    refine ⟨by omega, ?_, Nat.le_refl _, ⟨hc0, hc1, by simp⟩, ?_⟩
    · show joinW _ ≠ []
      rw [e2]; exact hne _ (List.getElem_mem _)
    · rw [← hnext _ _ _ rfl rfl, e2]
      rw [e2] at hc
      rw [show k - k = 0 by omega, List.drop_zero] at hTk
      unfold pick0
      rw [show k - k = 0 by omega, List.drop_zero, hTk, ← hc]
      cases L.drop (k + 1) <;> rfl
  | some bb =>
    obtain ⟨h1, h2, h3, h4, h5⟩ := h
    rw [dif_pos hkl] at h5
    have hb' : ∀ z : Best, z = (if c < bb.1 then (c, joinW ((L.drop i).take (k + 1 - i)), L.drop (k + 1)) else bb) → pick0 w L[i] (L.drop (i + 1)) T = if h : k + 1 < L.length then pickGo w z (joinW ((L.drop i).take (k + 1 + 1 - i))) (L.drop (k + 1 + 1)) (T.drop (k + 1 - i)) else z := by
      rintro z rfl
      rw [h5, ← hnext _ _ _ rfl rfl]
      cases hdk : L.drop (k + 1) with
      | nil => rw [pickGo, if_neg (by omega), hTk, ← hc]
      | cons y r => rw [pickGo, if_neg (by omega), hTk, ← hc]
    by_cases hlt : c < bb.1
    · rw [if_pos (.inr hlt)]
      rw [if_pos hlt] at hb'
      refine ⟨by omega, ?_, Nat.le_refl _, ⟨hc0, hc1, by simp⟩, hb' _ rfl⟩
      show joinW _ ≠ []
      rw [joinW_succ h1 hkl]; simp
    · rw [if_neg (by rintro (h | h); exact absurd h (by simp); exact hlt h)]
      rw [if_neg hlt] at hb'
      refine ⟨by omega, h2, ?_, h4, hb' _ rfl⟩
      rw [joinW_succ h1 hkl]; simp; omega
theorem joinW_head {x : List UInt8} {xs : List (List UInt8)} (h : x ≠ []) : (joinW (x :: xs)).head? = x.head? := by
  cases xs with
  | nil => rfl
  | cons y ys =>
    cases x with
    | nil => exact absurd rfl h
    | cons a x => rfl
theorem trim_line {L : List (List UInt8)} {i k : Nat} (hi : i < L.length) (hik : i ≤ k) (hkl : k < L.length) (htot : tot L ≤ 61) (hne : ∀ x ∈ L, x ≠ [] ∧ x.head? ≠ some 32) :
    PCall Tryz.prog n_strings_TrimPrefix [S (joinW ((L.drop i).take (k - i)) ++ 32 :: L[k]), S [32]] (S (joinW ((L.drop i).take (k + 1 - i)))) := by
  have hb := joinW_le L i (k + 1 - i)
  have hd : L.drop i = L[i] :: L.drop (i + 1) := List.drop_eq_getElem_cons hi
  by_cases e : k = i
  · subst e
    have e1 : (L.drop k).take (k + 1 - k) = [L[k]] := by rw [show k + 1 - k = 1 by omega, hd]; rfl
    have e0 : (L.drop k).take (k - k) = [] := by rw [Nat.sub_self, List.take_zero]
    rw [e1] at hb ⊢
    rw [e0]
    exact TrimPrefix_at L[k] (by simp only [joinW] at hb; omega)
  · rw [joinW_succ (by omega) hkl] at hb ⊢
    refine TrimPrefix_no _ (by omega) ?_
    obtain ⟨j, hj⟩ : ∃ j, k - i = j + 1 := ⟨k - i - 1, by omega⟩
    have hx := hne L[i] (List.getElem_mem _)
    have e2 : (L.drop i).take (k - i) = L[i] :: (L.drop (i + 1)).take j := by rw [hj, hd, List.take_succ_cons]
    have hh := joinW_head (xs := (L.drop (i + 1)).take j) hx.1
    rw [← e2] at hh
    cases hc : joinW ((L.drop i).take (k - i)) with
    | nil =>
      rw [hc] at hh
      cases hl : L[i] with
      | nil => exact absurd hl hx.1
      | cons a t => rw [hl] at hh; cases hh
    | cons a t =>
      rw [hc] at hh
      have := hx.2
      rw [← hh] at this
      simpa using this
theorem evens_len (w : Int) : ∀ l : List (List UInt8), (evens w l).length ≤ l.length
  | [] => by rw [evens]; simp
  | x :: xs => by
    rw [evens, List.length_cons, List.length_cons]
    have h1 := nextGo_len w (costs w (x :: xs)).head! xs x (costs w xs)
    have h2 := evens_len w (nextGo w (costs w (x :: xs)).head! x xs (costs w xs)).2
    omega
termination_by l => l.length
decreasing_by
  have := nextGo_len w (costs w (x :: xs)).head! xs x (costs w xs)
  simp only [List.length_cons]; omega
theorem nils_last : ∀ n, leVs (List.replicate (n + 1) nilV) (List.replicate n nilV ++ [ownT []])
  | 0 => by simp [leVs, leV]
  | n + 1 => by
    rw [List.replicate_succ, List.replicate_succ (n := n), List.cons_append]
    exact ⟨by simp [leV], nils_last n⟩
theorem far_at {β : Type} {xs A B : List β} {y z : β} {i k : Nat} (hx : xs.length = i) (hA : A.length = k - i) (hik : i ≤ k) : (xs ++ y :: (A ++ z :: B))[k + 1]? = some z := by
  rw [far_get (j := k - i) hx (by omega)]
  exact app_get hA
theorem far_set {β : Type} {xs A B : List β} {y z v : β} {i k : Nat} (hx : xs.length = i) (hA : A.length = k - i) (hik : i ≤ k) : (xs ++ y :: (A ++ z :: B)).set (k + 1) v = xs ++ y :: (A ++ v :: B) := by
  subst hx
  rw [List.set_append_right _ _ (by omega), show k + 1 - xs.length = (k - xs.length) + 1 by omega, List.set_cons_succ, app_set hA]
theorem rows_cut (w : Int) (L : List (List UInt8)) {i k : Nat} (hik : i ≤ k) (hkl : k < L.length) : ∃ A B, rowsE w L (i + 1) = A ++ ownT (evens w (L.drop (k + 1))) :: B ∧ A.length = k - i ∧ (∀ d, ments d A = false) ∧ (∀ d, ments d B = false) := by
  refine ⟨(List.range (k - i)).map fun j => ownT (evens w (L.drop (i + 1 + j))), rowsE w L (k + 2), ?_, by simp, fun d => ments_owns .., fun d => ments_rows ..⟩
  rw [← rowsE_cons w L (by omega)]
  unfold rowsE
  rw [show L.length + 1 - (i + 1) = (k - i) + (L.length + 1 - (k + 1)) by omega, List.range_add, List.map_append, List.map_map]
  congr 1
  apply List.map_congr_left
  intro j _
  simp only [Function.comp_apply]
  rw [show i + 1 + (k - i + j) = k + 1 + j by omega]
set_option maxHeartbeats 4000000 in
theorem i_even (L : List (List UInt8)) (w : Int) (hle : L.length ≤ 61) (htot : tot L ≤ 61) (hw : w ≤ 40) (hwords : ∀ x ∈ L, (x.length : Int) ≤ w) (hne : ∀ x ∈ L, x ≠ [] ∧ x.head? ≠ some 32) (h1 : 0 < L.length) :
    PCall Tryz.prog n_i_even [.ro 1 (L.map S), I w] (.tup [ownT (evens w L), I ((costs w L).headD 0)]) := by
  refine PCall.of fn_i_even (by simp) ?_
  simp [c_i_even, r_i_even_0, r_i_even_1]
  simp [r_i_even_2, p_i_even_2]
  rw [wrap64 (by omega) (by omega)]
  have hn1 : ((L.length : Int) + 1).toNat = L.length + 1 := by omega
  rw [hn1]
  refine ⟨⟨by omega, by unfold lenBound; omega⟩, oEnd_of (by simp [p_i_even_2]) (by simp), ?_⟩
  simp [r_i_even_3]
  simp [r_i_even_4, r_i_even_19, p_i_even_19]
  rw [wrap64 (by omega) (by omega)]
  refine loopK (fun m : Nat => ⟨[(0, .ro 1 (L.map S)), (1, I w), (6, I L.length), (7, .sl 19 0 (L.length + 1)), (8, .sl 22 0 (L.length + 1)), (9, .clo n_i_even_1 []), (10, I ((m : Int) - 1))], [(19, ⟨1, List.replicate m nilV ++ rowsE w L m⟩), (22, ⟨1, List.replicate m (I 0) ++ (costs w (L.drop m)).map I⟩)], []⟩) (fun m => m)
    (fun m => m ≤ L.length) L.length ?_ (by simp) ?_
  · refine Wk.trans (Wk.le 19 (List.replicate L.length nilV ++ [ownT []]) (by rfl) (nils_last _)) (Wk.list rfl (by simp) ?_)
    have e : rowsE w L L.length = [ownT []] := by
      rw [rowsE_cons w L (Nat.le_refl _), List.drop_length, evens]
      simp [rowsE]
    simp [e, costs, List.replicate_succ']
  intro m hm K hN hR hE
  simp [r_i_even_5, l_i_even_18]
  refine ⟨fun hpos => ?_, fun hzero => ?_⟩
  · obtain ⟨i, rfl⟩ : ∃ i, m = i + 1 := ⟨m - 1, by omega⟩
    have e1 : ((i + 1 : Nat) : Int) - 1 = i := by omega
    have hil : i < L.length := by omega
    rw [e1]
    obtain ⟨T, hT⟩ : ∃ T, costs w (L.drop (i + 1)) = T := ⟨_, rfl⟩
    have hTl : T.length = L.length - i := by rw [← hT, costs_len, List.length_drop]; omega
    have hri : (List.replicate i (I 0)).length = i := List.length_replicate ..
    have hrn : (List.replicate i nilV).length = i := List.length_replicate ..
    have e2 : List.replicate (i + 1) (I 0) ++ T.map I = List.replicate i (I 0) ++ I 0 :: T.map I := by rw [List.replicate_succ']; simp
    have e3 : List.replicate (i + 1) nilV ++ rowsE w L (i + 1) = List.replicate i nilV ++ nilV :: rowsE w L (i + 1) := by rw [List.replicate_succ']; simp
    have hTb : ∀ c ∈ T, 0 ≤ c ∧ c ≤ 97600 := fun c hc => by
      rw [← hT] at hc
      have := costs_bound hw (L.drop (i + 1)) (fun x hx => hwords x (List.mem_of_mem_drop hx)) c hc
      rw [List.length_drop] at this
      omega
    rw [hT, e2, e3]
    simp [r_i_even_6]
    simp [r_i_even_7]
    refine loopK (fun p : Nat × Option Best => ⟨[(0, .ro 1 (L.map S)), (1, I w), (6, I L.length), (7, .sl 19 0 (L.length + 1)), (8, .sl 22 0 (L.length + 1)), (9, .clo n_i_even_1 []), (10, I i), (11, S (joinW ((L.drop i).take (p.1 - i)))), (12, I p.1)],
      [(19, ⟨1, List.replicate i nilV ++ rowB w p.2 :: rowsE w L (i + 1)⟩), (22, ⟨1, List.replicate i (I 0) ++ I (costB p.2) :: T.map I⟩)], []⟩) (fun p => L.length - p.1)
      (fun p => (i ≤ p.1 ∧ p.1 ≤ L.length) ∧ Sought w L i p.1 L[i] T p.2) (i, none) (Wk.list rfl (by simp [joinW]) (by simp [rowB, costB])) ⟨⟨by dsimp only; omega, by dsimp only; omega⟩, rfl⟩ ?_
    rintro ⟨k, b⟩ ⟨⟨hik, hk⟩, hb⟩ K' hN' hR' hE'
    dsimp only at hik hk hb ⊢
    simp [r_i_even_8, l_i_even_16]
    refine ⟨fun hkl => ?_, fun hkl => ?_⟩
    · have hbl := joinW_le L i (k - i)
      have hbk : L[k].length ≤ 61 := by have := hwords L[k] (List.getElem_mem _); omega
      simp [r_i_even_9, hkl]
      refine ⟨by omega, by omega, ?_⟩
      refine callQ_v (trim_line hil hik hkl htot hne) ?_
      simp [r_i_even_10]
      refine ⟨fun hlong => ?_, fun hfit => ?_⟩
      · refine hE' _ _ ?_
        simp only [blockK_exit]
        obtain ⟨g1, g2⟩ := sought_end hil (hwords L[i] (List.getElem_mem _)) hT hk hb (fun _ => hlong)
        simp [r_i_even_17]
        rw [wrap64 (by omega) (by omega)]
        refine hN i _ (by omega) (by omega) (Wk.list rfl (by simp) ?_)
        simp [g1, g2, rowsE_cons w L (show i ≤ L.length by omega)]
      · have hkT : k - i < T.length := by omega
        obtain ⟨c0, hc0⟩ : ∃ c0, T[k - i] = c0 := ⟨_, rfl⟩
        have hc0b := hTb c0 (by rw [← hc0]; exact List.getElem_mem _)
        have hld : (List.replicate i (I 0) ++ I (costB b) :: T.map I)[k + 1]? = some (I c0) := by
          rw [far_get (j := k - i) hri (by omega)]
          simp [hkT, hc0]
        have hhd : (T.drop (k - i)).headD 0 = c0 := by rw [List.drop_eq_getElem_cons hkT]; exact hc0
        have hlk := lack_le (l := joinW ((L.drop i).take (k + 1 - i))) hw hfit
        have hlk0 := lack_nonneg w (joinW ((L.drop i).take (k + 1 - i)))
        have hstep := sought_step (c := lack w (joinW ((L.drop i).take (k + 1 - i))) + c0) hil hik hkl hhd (fun x hx => (hne x hx).1) hfit rfl (by omega) (by omega) hb
        unfold lack at hstep hlk hlk0
        simp [r_i_even_11]
        rw [wrap64 (n := (k : Int) + 1) (by omega) (by omega)]
        have ek : ((k : Int) + 1).toNat = k + 1 := by omega
        rw [ek, hld]
        refine ⟨⟨by omega, by omega⟩, ?_⟩
        simp
        rw [wrap64 (n := w - _) (by omega) (by omega)]
        generalize hLK : (w - ((joinW ((L.drop i).take (k + 1 - i))).length : Int)) * (w - ((joinW ((L.drop i).take (k + 1 - i))).length : Int)) = Q at hstep hlk hlk0 ⊢
        rw [wrap64 (n := Q) (by omega) (by omega), wrap64 (by omega) (by omega)]
        obtain ⟨A, B, hAB, hA, hmA, hmB⟩ := rows_cut w L hik hkl
        rw [Int.add_comm c0 Q, hAB]
        rw [hAB] at hN'
        obtain ⟨R0, hR0⟩ : ∃ R0, evens w (L.drop (k + 1)) = R0 := ⟨_, rfl⟩
        rw [hR0] at hN' hAB ⊢
        cases b with
        | none =>
          have hb0 : rowB w none = nilV := rfl
          have hc0' : costB none = 0 := rfl
          rw [hb0, hc0']
          refine wk_of _ (Wk.unfold1 19 (k + 1) 500 (sz := 1) (es := R0.map S) (by rfl) (far_at hrn hA hik) (by simp [hmA, hmB])) ?_
          simp only [far_set hrn hA hik]
          have hR0l : R0.length ≤ 61 := by
            rw [← hR0]
            have := evens_len w (L.drop (k + 1))
            rw [List.length_drop] at this
            omega
          simp [r_i_even_12, hmA, hmB]
          rw [wrap64 (by omega) (by omega), ek, far_at hrn hA hik]
          refine ⟨⟨by omega, by omega⟩, ?_⟩
          simp
          refine ⟨by unfold lenBound; omega, ?_⟩
          simp [r_i_even_13, p_i_even_13, app_get hrn]
          refine ⟨⟨hmA 69, hmB 69⟩, by omega, oEnd_of (by simp [p_i_even_13]) (by simp), ?_⟩
          rw [if_pos (.inl rfl)] at hstep
          simp [r_i_even_14, app_get hrn, app_set hrn, app_get hri, app_set hri]
          refine ⟨by omega, ?_⟩
          simp [r_i_even_15]
          rw [wrap64 (by omega) (by omega)]
          refine hN' (k + 1, some (Q + c0, joinW ((L.drop i).take (k + 1 - i)), L.drop (k + 1))) _ (by dsimp only; omega) ⟨⟨by dsimp only; omega, by dsimp only; omega⟩, hstep⟩
            (Wk.trans (Wk.fold1 19 (k + 1) 500 (n := R0.length) (by rfl) (by rfl) (far_at hrn hA hik) (by simp) (by simp) (by simp)) (Wk.trans (Wk.fold1 19 i 69 (n := 1 + R0.length) (by rfl) (by rfl) (by simp only [far_set hrn hA hik]; exact app_get hrn) (by simp; omega) (by simp) (by simp)) (Wk.list rfl ?_ ?_)))
          · simp
          · simp [far_set hrn hA hik, app_set hrn, rowB, costB, hR0, rmbs]
        | some bb =>
          obtain ⟨R1, hR1⟩ : ∃ R1, evens w bb.2.2 = R1 := ⟨_, rfl⟩
          have hb0 : rowB w (some bb) = ownT (bb.2.1 :: R1) := by rw [← hR1]; rfl
          have hc0' : costB (some bb) = bb.1 := rfl
          have hR0l : R0.length ≤ 61 := by
            rw [← hR0]
            have := evens_len w (L.drop (k + 1))
            rw [List.length_drop] at this
            omega
          have hR1l : R1.length ≤ 61 := by
            rw [← hR1]
            have h1 := evens_len w bb.2.2
            have h2 := hb.2.2.2.1.2.2
            omega
          rw [hb0, hc0']
          rw [hc0'] at hstep
          refine wk_of _ (Wk.trans (Wk.unfold1 19 (k + 1) 500 (sz := 1) (es := R0.map S) (by rfl) (far_at hrn hA hik) (by simp [hmA, hmB]))
            (Wk.unfold1 19 i 501 (sz := 1) (es := (bb.2.1 :: R1).map S) (by rfl) (by simp only [far_set hrn hA hik]; exact app_get hrn) (by simp [far_set hrn hA hik, hmA, hmB]))) ?_
          simp only [far_set hrn hA hik, app_set hrn]
          simp [r_i_even_12, hmA, hmB]
          rw [wrap64 (by omega) (by omega), ek, far_at hrn hA hik]
          refine ⟨⟨by omega, by omega⟩, ?_⟩
          simp
          refine ⟨by unfold lenBound; omega, ?_⟩
          simp [r_i_even_13, p_i_even_13, app_get hrn, app_get hri]
          refine ⟨⟨hmA 69, hmB 69⟩, by omega, fun hge => ⟨by omega, fun heq => ?_, fun hneq => ⟨oEnd_of (by simp [p_i_even_13]) (by simp), ?_⟩⟩, fun hlt => ⟨oEnd_of (by simp [p_i_even_13]) (by simp), ?_⟩⟩
          · have hlonger : (bb.2.1.length : Int) < (joinW ((L.drop i).take (k + 1 - i))).length := by
              rw [joinW_succ hb.1 hkl, List.length_append, List.length_cons]
              have := hb.2.2.1
              omega
            refine callD_of (PCall.arg (i_even_1 (joinW ((L.drop i).take (k + 1 - i)) :: R0) (by simp; omega)) (by simp [show 1 + R0.length = R0.length + 1 by omega, List.take_succ_cons, List.take_of_length_le])) rfl (.inl (by simp)) ?_ ?_ ?_
            · simp
            · simp
            simp [app_get hrn]
            refine ⟨by omega, ?_⟩
            refine callD_of (PCall.arg (i_even_1 (bb.2.1 :: R1) (by simp; omega)) (by simp)) rfl (.inl (by simp)) ?_ ?_ ?_
            · simp
            · simp
            simp
            refine callD_v (PCall.arg (slices_Compare_gt (lensOf R0) (lensOf R1) hlonger) (by simp [lensOf, List.take_of_length_le])) ?_ ?_ ?_
            · simp
            · simp
            simp
            refine ⟨oEnd_of (by simp [p_i_even_13, hmA, hmB]) (by simp [hmA, hmB]), ?_⟩
            rw [if_neg (by rintro (h | h); exact absurd h (by simp); omega)] at hstep
            simp [r_i_even_15]
            rw [wrap64 (by omega) (by omega)]
            refine hN' (k + 1, some bb) _ (by dsimp only; omega) ⟨⟨by dsimp only; omega, by dsimp only; omega⟩, hstep⟩
              (Wk.trans (Wk.fold1 19 (k + 1) 500 (n := R0.length) (by rfl) (by rfl) (far_at hrn hA hik) (by simp) (by simp) (by simp)) (Wk.trans (Wk.fold1 19 i 501 (n := R1.length + 1) (by rfl) (by rfl) (by simp only [far_set hrn hA hik]; exact app_get hrn) (by simp) (by simp) (by simp)) (Wk.list rfl ?_ ?_)))
            · simp
            · simp [far_set hrn hA hik, app_set hrn, rowB, costB, hR0, hR1, rmbs]
          · skip
            rw [if_neg (by rintro (h | h); exact absurd h (by simp); omega)] at hstep
            simp [r_i_even_15]
            rw [wrap64 (by omega) (by omega)]
            refine hN' (k + 1, some bb) _ (by dsimp only; omega) ⟨⟨by dsimp only; omega, by dsimp only; omega⟩, hstep⟩
              (Wk.trans (Wk.fold1 19 (k + 1) 500 (n := R0.length) (by rfl) (by rfl) (far_at hrn hA hik) (by simp) (by simp) (by simp)) (Wk.trans (Wk.fold1 19 i 501 (n := R1.length + 1) (by rfl) (by rfl) (by simp only [far_set hrn hA hik]; exact app_get hrn) (by simp) (by simp) (by simp)) (Wk.list rfl ?_ ?_)))
            · simp
            · simp [far_set hrn hA hik, app_set hrn, rowB, costB, hR0, hR1, rmbs]
          · rw [if_pos (.inr hlt)] at hstep
            simp [r_i_even_14, app_get hrn, app_set hrn, app_get hri, app_set hri]
            refine ⟨by omega, ?_⟩
            simp [r_i_even_15]
            rw [wrap64 (by omega) (by omega)]
            refine hN' (k + 1, some (Q + c0, joinW ((L.drop i).take (k + 1 - i)), L.drop (k + 1))) _ (by dsimp only; omega) ⟨⟨by dsimp only; omega, by dsimp only; omega⟩, hstep⟩
              (Wk.trans (Wk.fold1 19 (k + 1) 500 (n := R0.length) (by rfl) (by rfl) (far_at hrn hA hik) (by simp) (by simp) (by simp)) (Wk.trans (Wk.fold1 19 i 69 (n := 1 + R0.length) (by rfl) (by rfl) (by simp only [far_set hrn hA hik]; exact app_get hrn) (by simp; omega) (by simp) (by simp)) (Wk.list rfl ?_ ?_)))
            · simp
            · simp [far_set hrn hA hik, app_set hrn, rowB, costB, hR0, hR1, rmbs]
    · refine hE' _ _ ?_
      simp only [blockK_exit]
      obtain ⟨g1, g2⟩ := sought_end hil (hwords L[i] (List.getElem_mem _)) hT hk hb (fun h => absurd h (by omega))
      simp [r_i_even_17]
      rw [wrap64 (by omega) (by omega)]
      refine hN i _ (by omega) (by omega) (Wk.list rfl (by simp) ?_)
      simp [g1, g2, rowsE_cons w L (show i ≤ L.length by omega)]
  · obtain rfl : m = 0 := by omega
    refine hE _ _ ?_
    simp only [blockK_exit]
    have hr0 : rowsE w L 0 = ownT (evens w L) :: rowsE w L 1 := rowsE_cons w L (by omega)
    have hc0 : ∃ c T, costs w L = c :: T := by
      cases hc : costs w L with
      | nil => have := costs_len w L; rw [hc] at this; simp at this
      | cons c T => exact ⟨c, T, rfl⟩
    obtain ⟨c, T, hc⟩ := hc0
    simp [hr0, hc]
    refine wk_of _ (Wk.unfold1 19 0 500 (sz := 1) (es := (evens w L).map S) (by rfl) (by simp) (by simp [ments_rows])) ?_
    simp [r_i_even_19, p_i_even_19]
    exact ⟨oEnd_of (by simp [p_i_even_19]) (by simp), by rw [hc]; rfl⟩
end Go.Proofs.YtopcfaffljjnbaaGreatDoor
