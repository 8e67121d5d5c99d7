/- Library: a short row of grants that is sorted, stable. -/
import Derived.Test.YtbeoijlggphklaaGreatCodeSortGrant
import Derived.Test.YtbeoijlggphklaaGreatRollDef
set_option linter.unusedVariables false
set_option linter.unusedSimpArgs false
namespace Go.Proofs.YtbeoijlggphklaaGreat
open Go.Abs

/-- The row while x is on its way to the left: at the place j. -/
def onWay (P R : List Grant) (x : Grant) (j : Nat) : List Grant := P.take j ++ x :: (P.drop j ++ R)
theorem onWay_len {P R : List Grant} {x : Grant} {j : Nat} (hj : j ≤ P.length) : (onWay P R x j).length = P.length + 1 + R.length := by
  simp [onWay]; omega
theorem onWay_at {P R : List Grant} {x : Grant} {j : Nat} (hj : j ≤ P.length) : (onWay P R x j)[j]? = some x := by
  unfold onWay
  rw [List.getElem?_append_right (by rw [List.length_take]; omega), List.length_take, Nat.min_eq_left hj, Nat.sub_self]; rfl
theorem onWay_before {P R : List Grant} {x : Grant} {j : Nat} (hj : j ≤ P.length) (h0 : 0 < j) : (onWay P R x j)[j - 1]? = some (P[j - 1]'(by omega)) := by
  unfold onWay
  rw [List.getElem?_append_left (by simp; omega), List.getElem?_take, if_pos (by omega), List.getElem?_eq_getElem (by omega)]
theorem onWay_swap {P R : List Grant} {x : Grant} {j : Nat} (hj : j ≤ P.length) (h0 : 0 < j) : ((onWay P R x j).set j (P[j - 1]'(by omega))).set (j - 1) x = onWay P R x (j - 1) := by
  obtain ⟨k, rfl⟩ : ∃ k, j = k + 1 := ⟨j - 1, by omega⟩
  simp only [Nat.add_sub_cancel]
  have hk : k < P.length := by omega
  have e1 : P.take (k + 1) = P.take k ++ [P[k]] := take_succ' hk
  have e2 : P.drop k = P[k] :: P.drop (k + 1) := List.drop_eq_getElem_cons hk
  have hl : (P.take k).length = k := by rw [List.length_take]; omega
  unfold onWay
  rw [e1, e2, List.append_assoc, List.singleton_append, List.set_append_right _ _ (by omega), hl, show k + 1 - k = 1 by omega]
  rw [List.set_append_right _ _ (by omega), hl, Nat.sub_self]
  rfl
theorem onWay_none {P R : List Grant} {x : Grant} : onWay P R x P.length = P ++ x :: R := by simp [onWay]
theorem onWay_ins {P R : List Grant} {x : Grant} {j : Nat} : onWay P R x j = (P.take j ++ x :: P.drop j) ++ R := by simp [onWay]
def rowI (lt : Grant → Grant → Bool) (l : List Grant) (i : Nat) : List Grant := sortR lt (l.take i) ++ l.drop i
theorem rowI_one (lt : Grant → Grant → Bool) (l : List Grant) : rowI lt l 1 = l := by
  cases l with
  | nil => rfl
  | cons x l => rfl
theorem rowI_len (lt : Grant → Grant → Bool) (l : List Grant) (i : Nat) : (rowI lt l i).length = l.length := by
  simp only [rowI, List.length_append, sortR_len, List.length_take, List.length_drop]; omega
theorem rowI_end (lt : Grant → Grant → Bool) (l : List Grant) {i : Nat} (h : l.length ≤ i) : rowI lt l i = sortR lt l := by
  rw [rowI, List.take_of_length_le h, List.drop_of_length_le h, List.append_nil]
set_option maxHeartbeats 1000000 in
theorem insertionSort_grants (l : List Grant) (lt : Grant → Grant → Bool) (c : Grant → Grant → Int) (g : Nat) (hl : l.length ≤ 20) (hg : ∀ x ∈ l, ∀ y ∈ l, PCall Tryz.prog g [eGrant x, eGrant y] (I (c x y))) (hc : ∀ x ∈ l, ∀ y ∈ l, (c x y < 0 ↔ lt x y = true)) :
    MCall Tryz.prog n_slices_insertionSortCmpFunc_i_Grant [⟨18, l.map eGrant⟩] [.sl (mid 0) 0 l.length, I 0, I l.length, .clo g []] (.tup []) [some ⟨18, (sortR lt l).map eGrant⟩] := by
  refine MCall.of fn_slices_insertionSortCmpFunc_i_Grant (by simp) rfl (by simp) ?_
  have h0 := rowI_one lt l
  simp [c_slices_insertionSortCmpFunc_i_Grant, r_slices_insertionSortCmpFunc_i_Grant_0]
  rw [wrap64 (n := 1) (by omega) (by omega)]
  refine loopK (fun i : Nat => ⟨[(0, .sl 1000000 0 l.length), (1, I 0), (2, I l.length), (3, .clo g []), (8, I i)], [(1000000, ⟨18, (rowI lt l i).map eGrant⟩)], [1000000]⟩) (fun i => l.length - i) (fun i => 1 ≤ i ∧ (i ≤ l.length ∨ i = 1)) 1 (Wk.list rfl (by simp) (by simp [h0])) (by simp) ?_
  rintro i ⟨hi0, hi⟩ K hN hR hE
  simp [l_slices_insertionSortCmpFunc_i_Grant_8, r_slices_insertionSortCmpFunc_i_Grant_1]
  refine ⟨fun hlt => ?_, fun hge => ?_⟩
  · obtain ⟨P, hP⟩ : ∃ P, sortR lt (l.take i) = P := ⟨_, rfl⟩
    obtain ⟨R, hR'⟩ : ∃ R, l.drop (i + 1) = R := ⟨_, rfl⟩
    obtain ⟨x, hx⟩ : ∃ x, l[i] = x := ⟨_, rfl⟩
    have hPl : P.length = i := by rw [← hP, sortR_len, List.length_take]; omega
    have hRl : R.length = l.length - (i + 1) := by rw [← hR', List.length_drop]
    have hrow : rowI lt l i = onWay P R x i := by
      have e := onWay_none (P := P) (R := R) (x := x)
      rw [hPl] at e
      rw [e, rowI, hP, ← hx, ← hR', List.drop_eq_getElem_cons hlt]
    have hxm : x ∈ l := hx ▸ List.getElem_mem _
    have hPm : ∀ y ∈ P, y ∈ l := fun y hy => List.mem_of_mem_take (sortR_mem.1 (by rw [hP]; exact hy))
    have hnext : ∀ j, insR (lt x) x P = P.take j ++ x :: P.drop j → rowI lt l (i + 1) = onWay P R x j := fun j e => by
      rw [onWay_ins, ← e, rowI, take_succ' hlt, sortR_snoc, hP, hx, hR']
    rw [hrow]
    simp [r_slices_insertionSortCmpFunc_i_Grant_2]
    refine loopK (fun j : Nat => ⟨[(0, .sl 1000000 0 l.length), (1, I 0), (2, I l.length), (3, .clo g []), (8, I i), (9, I j)], [(1000000, ⟨18, (onWay P R x j).map eGrant⟩)], [1000000]⟩) (fun j => j) (fun j => j ≤ i ∧ ∀ q (h : q < P.length), j ≤ q → lt x P[q] = true) i (Wk.list rfl (by simp) (by simp)) ⟨Nat.le_refl _, fun q h h' => by omega⟩ ?_
    rintro j ⟨hj, hpj⟩ K2 hN2 hR2 hE2
    have hlen : (onWay P R x j).length = l.length := by rw [onWay_len (by omega)]; omega
    have hat := onWay_at (P := P) (R := R) (x := x) (j := j) (by omega)
    simp [l_slices_insertionSortCmpFunc_i_Grant_6, r_slices_insertionSortCmpFunc_i_Grant_3, p_slices_insertionSortCmpFunc_i_Grant_3]
    refine ⟨fun h1 => ?_, fun h1 => ?_⟩
    · have hlj : j < l.length := by omega
      have hwr : IntKind.i64.wrap ((j : Int) - 1) = ((j - 1 : Nat) : Int) := by rw [wrap64 (by omega) (by omega)]; omega
      have hbf := onWay_before (R := R) (x := x) (show j ≤ P.length by omega) h1
      have hj1 : j - 1 < l.length := by omega
      have hjP : j - 1 < P.length := by omega
      have hcc := hc x hxm P[j - 1] (hPm _ (List.getElem_mem _))
      simp [hat, hlj, hwr, hbf, hj1]
      refine callD_v (PCall.arg (hg x hxm P[j - 1] (hPm _ (List.getElem_mem _))) (by simp)) ?_ ?_ ?_
      · simp
      · simp
      simp
      refine ⟨oEnd_of (by simp [p_slices_insertionSortCmpFunc_i_Grant_3]) (by simp), fun hneg => ?_, fun hpos => ?_⟩
      · have hatE : ∀ h, (onWay P R x j)[j]'h = x := fun h => by rw [List.getElem_eq_iff]; exact hat
        have hbfE : ∀ h, (onWay P R x j)[j - 1]'h = P[j - 1] := fun h => by rw [List.getElem_eq_iff]; exact hbf
        have hne : ¬ j = j - 1 := by omega
        simp [r_slices_insertionSortCmpFunc_i_Grant_4, p_slices_insertionSortCmpFunc_i_Grant_4, hlj, hwr, hj1, hlen, hatE, hbfE, List.getElem_set, hne]
        have hsw := onWay_swap (R := R) (x := x) (show j ≤ P.length by omega) h1
        refine ⟨oEnd_of (by simp [p_slices_insertionSortCmpFunc_i_Grant_4]) (by simp), ?_⟩
        simp [r_slices_insertionSortCmpFunc_i_Grant_5]
        rw [hwr]
        refine hN2 (j - 1) _ (by omega) ⟨by omega, fun q h h' => ?_⟩ (Wk.list rfl (by simp) (by simp [← hsw]))
        by_cases e : q = j - 1
        · subst e; exact hcc.1 hneg
        · exact hpj q h (by omega)
      · have hF : lt x P[j - 1] = false := Bool.eq_false_iff.2 fun e => by have := hcc.2 e; omega
        have hins : insR (lt x) x P = P.take j ++ x :: P.drop j := insR_at (by omega) (fun q h h' => hpj q h h') (fun _ => hF)
        refine hE2 _ _ ?_
        simp only [blockK_exit]
        simp [r_slices_insertionSortCmpFunc_i_Grant_7]
        rw [wrap64 (by omega) (by omega)]
        refine hN (i + 1) _ (by omega) ⟨by omega, .inl (by omega)⟩ (Wk.list rfl (by simp) (by simp [hnext j hins]))
    · subst h1
      have hins : insR (lt x) x P = P.take 0 ++ x :: P.drop 0 := insR_at (by omega) (fun q h h' => hpj q h h') (fun h => by omega)
      refine ⟨oEnd_of (by simp [p_slices_insertionSortCmpFunc_i_Grant_3]) (by simp), ?_⟩
      refine hE2 _ _ ?_
      simp only [blockK_exit]
      simp [r_slices_insertionSortCmpFunc_i_Grant_7]
      rw [wrap64 (by omega) (by omega)]
      refine hN (i + 1) _ (by omega) ⟨by omega, .inl (by omega)⟩ (Wk.list rfl (by simp) (by simp [hnext 0 hins]))
  · refine hE _ _ ?_
    simp only [blockK_exit]
    simp [rowI_end lt l hge]
theorem stableCmp_grants (l : List Grant) (lt : Grant → Grant → Bool) (c : Grant → Grant → Int) (g : Nat) (hl : l.length < 20) (hg : ∀ x ∈ l, ∀ y ∈ l, PCall Tryz.prog g [eGrant x, eGrant y] (I (c x y))) (hc : ∀ x ∈ l, ∀ y ∈ l, (c x y < 0 ↔ lt x y = true)) :
    MCall Tryz.prog n_slices_stableCmpFunc_i_Grant [⟨18, l.map eGrant⟩] [.sl (mid 0) 0 l.length, I l.length, .clo g []] (.tup []) [some ⟨18, (sortR lt l).map eGrant⟩] := by
  refine MCall.of fn_slices_stableCmpFunc_i_Grant (by simp) rfl (by simp) ?_
  have h1 : ¬ (20 : Int) ≤ l.length := by omega
  have h2 : ¬ (20 : Int) < l.length := by omega
  simp [c_slices_stableCmpFunc_i_Grant, r_slices_stableCmpFunc_i_Grant_0, r_slices_stableCmpFunc_i_Grant_1]
  refine loopK (fun _ : Unit => ⟨[(0, .sl 1000000 0 l.length), (1, I l.length), (2, .clo g []), (6, I 20), (7, I 0), (8, I 20)], [(1000000, ⟨18, l.map eGrant⟩)], [1000000]⟩) (fun _ => 0) (fun _ => True) () (Wk.list rfl (by simp) (by simp)) trivial ?_
  rintro _ _ K hN hR hE
  simp [l_slices_stableCmpFunc_i_Grant_6, r_slices_stableCmpFunc_i_Grant_2, h1]
  refine hE _ _ ?_
  simp only [blockK_exit]
  simp [r_slices_stableCmpFunc_i_Grant_7]
  refine callQ_M [1000000] (MCall.arg (insertionSort_grants l lt c g (by omega) hg hc) (by simp)) (by simp) (by simp) (by simp) (by simp) rfl rfl (by simp) ?_
  simp
  refine loopK (fun _ : Unit => ⟨[(0, .sl 1000000 0 l.length), (1, I l.length), (2, .clo g []), (6, I 20)], [(1000000, ⟨18, (sortR lt l).map eGrant⟩)], [1000000]⟩) (fun _ => 0) (fun _ => True) () (Wk.list rfl (by simp) (by simp)) trivial ?_
  rintro _ _ K hN hR hE
  simp [l_slices_stableCmpFunc_i_Grant_19, r_slices_stableCmpFunc_i_Grant_8, h2]
  refine hE _ _ ?_
  simp only [blockK_exit]
  simp
theorem sortStable_grants (l : List Grant) (lt : Grant → Grant → Bool) (c : Grant → Grant → Int) (g : Nat) (hl : l.length < 20) (hg : ∀ x ∈ l, ∀ y ∈ l, PCall Tryz.prog g [eGrant x, eGrant y] (I (c x y))) (hc : ∀ x ∈ l, ∀ y ∈ l, (c x y < 0 ↔ lt x y = true)) :
    MCall Tryz.prog n_slices_SortStableFunc_i_Grant_i_Grant [⟨18, l.map eGrant⟩] [.sl (mid 0) 0 l.length, .clo g []] (.tup []) [some ⟨18, (sortR lt l).map eGrant⟩] := by
  refine MCall.of fn_slices_SortStableFunc_i_Grant_i_Grant (by simp) rfl (by simp) ?_
  simp [c_slices_SortStableFunc_i_Grant_i_Grant, r_slices_SortStableFunc_i_Grant_i_Grant_0]
  refine callQ_M [1000000] (MCall.arg (stableCmp_grants l lt c g hl hg hc) (by simp)) (by simp) (by simp) (by simp) (by simp) rfl rfl (by simp) ?_
  simp
end Go.Proofs.YtbeoijlggphklaaGreat
