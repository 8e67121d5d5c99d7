/- ScrollPicture: program, reference, law. -/
import Derived.Test.YtopcfaffljjnbaaGreatDoorWEven
import Derived.Test.YtopcfaffljjnbaaGreatDoorCenter
set_option linter.unusedVariables false
set_option linter.unusedSimpArgs false
namespace Go.Proofs.YtopcfaffljjnbaaGreatDoor
open Go.Abs

theorem pickGo_short {w : Int} : ∀ (rest : List (List UInt8)) (cur : List UInt8) (t : List Int) (b : Int × List UInt8 × List (List UInt8)), (b.2.1.length : Int) ≤ w → ((pickGo w b cur rest t).2.1.length : Int) ≤ w
  | [], cur, t, b, hb => by
    rw [pickGo]
    split
    · exact hb
    · rename_i h
      simp only
      split
      · dsimp only; omega
      · exact hb
  | y :: rest, cur, t, b, hb => by
    rw [pickGo]
    split
    · exact hb
    · rename_i h
      simp only
      refine pickGo_short rest _ _ _ ?_
      split
      · dsimp only; omega
      · exact hb
theorem pickGo_mem {w : Int} : ∀ (rest : List (List UInt8)) (cur : List UInt8) (t : List Int) (b : Int × List UInt8 × List (List UInt8)), ∀ v ∈ (pickGo w b cur rest t).2.2, v ∈ b.2.2 ∨ v ∈ rest
  | [], cur, t, b, v, hv => by
    rw [pickGo] at hv
    split at hv
    · exact .inl hv
    · simp only at hv
      split at hv
      · simp at hv
      · exact .inl hv
  | y :: rest, cur, t, b, v, hv => by
    rw [pickGo] at hv
    split at hv
    · exact .inl hv
    · simp only at hv
      have := pickGo_mem rest _ _ _ v hv
      rcases this with h | h
      · split at h
        · exact .inr h
        · exact .inl h
      · exact .inr (List.mem_cons_of_mem _ h)
theorem pick0_mem {w : Int} {x : List UInt8} {xs : List (List UInt8)} {t : List Int} : ∀ v ∈ (pick0 w x xs t).2.2, v ∈ xs := by
  intro v hv
  unfold pick0 at hv
  cases xs with
  | nil => simp at hv
  | cons y xs =>
    rcases pickGo_mem _ _ _ _ v hv with h | h
    · exact h
    · exact List.mem_cons_of_mem _ h
theorem evens_short {w : Int} : ∀ l : List (List UInt8), (∀ x ∈ l, (x.length : Int) ≤ w) → ∀ y ∈ evens w l, (y.length : Int) ≤ w
  | [], _, y, hy => by rw [evens] at hy; simp at hy
  | x :: xs, h, y, hy => by
    have hx := h x (by simp)
    obtain ⟨g1, g2, _⟩ := pick0_eq (w := w) (x := x) (xs := xs) (t := costs w xs) hx
    have hh : (costs w (x :: xs)).head! = (pick0 w x xs (costs w xs)).1 := by rw [costs, g1]; rfl
    rw [evens, hh, g2, List.mem_cons] at hy
    have hl : ((pick0 w x xs (costs w xs)).2.1.length : Int) ≤ w := by
      unfold pick0
      cases xs with
      | nil => exact hx
      | cons z zs => exact pickGo_short _ _ _ _ hx
    rcases hy with rfl | hy
    · exact hl
    · have hmem : ∀ v ∈ (pick0 w x xs (costs w xs)).2.2, v ∈ xs := pick0_mem
      exact evens_short (pick0 w x xs (costs w xs)).2.2 (fun v hv => h v (by simp [hmem v hv])) y hy
termination_by l => l.length
decreasing_by
  have := nextGo_len w (pick0 w x xs (costs w xs)).1 xs x (costs w xs)
  rw [g2] at this
  simp only [List.length_cons]; omega

def edge (w : Int) : List UInt8 := List.replicate (w + 2).toNat 61
theorem s_l23Border (a b : List UInt8) (w : Int) (h0 : 0 ≤ w) (h1 : w ≤ 40) (ha : a.length ≤ 10) (hb : b.length ≤ 10) : PCall Tryz.prog n_s_l23Border [S a, I w, S b] (S (a ++ edge w ++ b ++ [10])) := by
  refine PCall.of fn_s_l23Border (by simp) ?_
  obtain ⟨n, hn⟩ : ∃ n : Nat, w + 2 = n := ⟨(w + 2).toNat, by omega⟩
  have he : edge w = List.replicate n 61 := by unfold edge; rw [hn]; rfl
  rw [he]
  simp [c_s_l23Border, r_s_l23Border_0, r_s_l23Border_1]
  simp [r_s_l23Border_2, r_s_l23Border_7]
  refine loopK (fun k : Nat => ⟨[(1, I w), (2, S b), (7, S (a ++ List.replicate k 61)), (8, I k)], [], []⟩) (fun k => n - k) (fun k => k ≤ n) 0 (Wk.list rfl (by simp) (by simp)) (by simp) ?_
  intro k hk K hN hR hE
  simp [r_s_l23Border_3, l_s_l23Border_6]
  rw [wrap64 (by omega) (by omega), hn]
  refine ⟨fun hlt => ?_, fun hge => ?_⟩
  · simp [r_s_l23Border_4]
    refine ⟨by omega, ?_⟩
    simp [r_s_l23Border_5]
    rw [wrap64 (by omega) (by omega)]
    refine hN (k + 1) _ (by omega) (by omega) (Wk.list rfl (by simp [List.replicate_succ']) (by simp))
  · obtain rfl : k = n := by omega
    refine hE _ _ ?_
    simp only [blockK_exit]
    simp [r_s_l23Border_7]
    omega

/-- A line of the picture. -/
def lineP (w : Int) (x : List UInt8) : List UInt8 := [40, 32] ++ centerT x w ++ [32, 41, 10]
theorem centerT_len {x : List UInt8} {w : Int} (h1 : (x.length : Int) ≤ w) (h2 : w ≤ 100) : ((centerT x w).length : Int) = w := by
  obtain ⟨b, a, hb, ha, _, _, _, hc⟩ := center_cut x w h1 h2
  rw [hc]; simp; omega
def linesP (w : Int) (l : List (List UInt8)) : List UInt8 := (l.map (lineP w)).flatten
theorem linesP_snoc (w : Int) (l : List (List UInt8)) (x : List UInt8) : linesP w (l ++ [x]) = linesP w l ++ lineP w x := by simp [linesP]
theorem linesP_len {w : Int} (h2 : w ≤ 40) : ∀ l : List (List UInt8), (∀ x ∈ l, (x.length : Int) ≤ w) → (linesP w l).length ≤ 45 * l.length
  | [], _ => by simp [linesP]
  | x :: l, h => by
    have ih := linesP_len h2 l fun y hy => h y (by simp [hy])
    have hc := centerT_len (h x (by simp)) (show w ≤ 100 by omega)
    have : (linesP w (x :: l)).length = (lineP w x).length + (linesP w l).length := by simp [linesP]
    have h3 : (lineP w x).length = (centerT x w).length + 5 := by simp [lineP]
    rw [this, List.length_cons]
    omega
def pictP (w : Int) (l : List (List UInt8)) : List UInt8 := [47] ++ edge w ++ [92, 10] ++ linesP w l ++ [92] ++ edge w ++ [47, 10]
def scrollT (s : List UInt8) (w : Int) : List UInt8 := if onScroll s w then pictP w (evenL s w) else []
theorem evenL_short {s : List UInt8} {w : Int} (h : onScroll s w = true) : ∀ y ∈ evenL s w, (y.length : Int) ≤ w := by
  rw [evenL, if_pos h]
  exact evens_short _ (onScroll_words h).1
theorem pictP_len {w : Int} {l : List (List UInt8)} (h0 : 0 ≤ w) (h2 : w ≤ 40) (h : ∀ x ∈ l, (x.length : Int) ≤ w) : (edge w).length ≤ 42 ∧ (linesP w l).length ≤ 45 * l.length := by
  refine ⟨?_, linesP_len h2 l h⟩
  simp [edge]; omega
theorem linesP_take {w : Int} {l : List (List UInt8)} {i : Nat} (h : i < l.length) : linesP w (l.take (i + 1)) = linesP w (l.take i) ++ lineP w l[i] := by rw [take_succ' h, linesP_snoc]
theorem onScroll_w {s : List UInt8} {w : Int} (h : onScroll s w = true) : 1 ≤ w ∧ w ≤ 40 := by
  simp only [onScroll, Bool.and_eq_true, inR_iff] at h
  omega
theorem s_ScrollPicture (s : List UInt8) (w : Int) (hs : s.length ≤ 1048576) : PCall Tryz.prog n_s_ScrollPicture [S s, I w] (.tup [S (scrollT s w), B (onScroll s w)]) := by
  refine PCall.of fn_s_ScrollPicture (by simp) ?_
  simp [c_s_ScrollPicture, r_s_ScrollPicture_0, r_s_ScrollPicture_1]
  refine callQ_of (s_EvenLines s w hs) rfl (.inl (by simp)) (by simp) ?_
  simp [r_s_ScrollPicture_2]
  cases h : onScroll s w with
  | false => simp [r_s_ScrollPicture_3, scrollT, h]
  | true =>
    have hw := onScroll_w h
    have hsh := evenL_short h
    have hlen := evenL_len s w
    have hE : scrollT s w = pictP w (evenL s w) := by rw [scrollT, if_pos h]
    rw [hE]
    generalize evenL s w = L at hsh hlen ⊢
    simp [r_s_ScrollPicture_4]
    refine callQ_v (s_l23Border [47] [92] w (by omega) (by omega) (by simp) (by simp)) ?_
    simp [r_s_ScrollPicture_5, l_s_ScrollPicture_9]
    refine loopK (fun i : Nat => ⟨[(1, I w), (6, .sl 14 0 L.length), (9, S ([47] ++ edge w ++ [92, 10] ++ linesP w (L.take i))), (10, I i)], [(14, ⟨1, L.map S⟩)], []⟩) (fun i => L.length - i) (fun i => i ≤ L.length) 0 (Wk.list rfl (by simp [linesP]) (by simp)) (by simp) ?_
    intro i hi K hN hR hE
    have hb := pictP_len (l := L.take i) (by omega) hw.2 fun x hx => hsh x (List.mem_of_mem_take hx)
    have hti : (L.take i).length ≤ 61 := by rw [List.length_take]; omega
    simp [r_s_ScrollPicture_6, r_s_ScrollPicture_8]
    refine ⟨fun hlt => ?_, fun hge => ?_⟩
    · have hx := hsh L[i] (List.getElem_mem _)
      have hc := centerT_len hx (by omega)
      simp [r_s_ScrollPicture_7, hlt]
      refine ⟨by omega, ?_⟩
      refine callQ_v (s_l23Center L[i] w hx (by omega)) ?_
      simp
      refine ⟨by omega, by omega, ?_⟩
      rw [wrap64 (by omega) (by omega)]
      refine hN (i + 1) _ (by omega) (by omega) (Wk.list rfl ?_ (by simp))
      rw [linesP_take hlt]
      simp [lineP]
    · obtain rfl : i = L.length := by omega
      refine hE _ _ ?_
      simp only [blockK_exit]
      rw [List.take_length] at hb ⊢
      simp [r_s_ScrollPicture_10]
      refine callQ_v (s_l23Border [92] [47] w (by omega) (by omega) (by simp) (by simp)) ?_
      simp [pictP]
      omega
theorem i_ScrollPicture (s : List UInt8) (w : Int) (hs : s.length ≤ 1048576) : PCall Tryz.prog n_i_ScrollPicture [S s, I w] (.tup [S (scrollT s w), B (onScroll s w)]) := by
  refine PCall.of fn_i_ScrollPicture (by simp) ?_
  simp [c_i_ScrollPicture, r_i_ScrollPicture_0, r_i_ScrollPicture_1]
  refine callQ_of (i_EvenLines s w hs) rfl (.inl (by simp)) (by simp) ?_
  simp [r_i_ScrollPicture_2]
  cases h : onScroll s w with
  | false => simp [r_i_ScrollPicture_3, scrollT, h]
  | true =>
    have hw := onScroll_w h
    have hsh := evenL_short h
    have hlen := evenL_len s w
    have hE : scrollT s w = pictP w (evenL s w) := by rw [scrollT, if_pos h]
    rw [hE]
    generalize evenL s w = L at hsh hlen ⊢
    simp [r_i_ScrollPicture_4]
    rw [wrap64 (by omega) (by omega)]
    obtain ⟨n, hn⟩ : ∃ n : Nat, w + 2 = n := ⟨(w + 2).toNat, by omega⟩
    have he : edge w = List.replicate n 61 := by unfold edge; rw [hn]; rfl
    have hel : (edge w).length ≤ 42 := (pictP_len (l := L) (by omega) hw.2 hsh).1
    rw [hn]
    refine callQ_v (strings_Repeat 61 n (by omega)) ?_
    rw [← he]
    simp [r_i_ScrollPicture_5]
    refine ⟨by omega, by omega, ?_⟩
    simp [r_i_ScrollPicture_6, l_i_ScrollPicture_11]
    refine loopK (fun i : Nat => ⟨[(1, I w), (9, S (edge w)), (10, S ([47] ++ edge w ++ [92, 10] ++ linesP w (L.take i))), (28, .sl 16 0 L.length), (29, I L.length), (30, I i)], [(16, ⟨1, L.map S⟩)], []⟩) (fun i => L.length - i) (fun i => i ≤ L.length) 0 (Wk.list rfl (by simp [linesP]) (by simp)) (by simp) ?_
    intro i hi K hN hR hE
    have hb := pictP_len (l := L.take i) (by omega) hw.2 fun x hx => hsh x (List.mem_of_mem_take hx)
    have hti : (L.take i).length ≤ 61 := by rw [List.length_take]; omega
    simp [r_i_ScrollPicture_7, r_i_ScrollPicture_10]
    refine ⟨fun hlt => ?_, fun hge => ?_⟩
    · have hx := hsh L[i] (List.getElem_mem _)
      have hc := centerT_len hx (by omega)
      simp [r_i_ScrollPicture_8, r_i_ScrollPicture_9, hlt]
      refine callQ_v (i_centered L[i] w hx (by omega)) ?_
      simp
      refine ⟨by omega, by omega, by omega, ?_⟩
      rw [wrap64 (by omega) (by omega)]
      refine hN (i + 1) _ (by omega) (by omega) (Wk.list rfl ?_ (by simp))
      rw [linesP_take hlt]
      simp [lineP]
    · obtain rfl : i = L.length := by omega
      refine hE _ _ ?_
      simp only [blockK_exit]
      rw [List.take_length] at hb ⊢
      simp [r_i_ScrollPicture_12]
      refine ⟨by omega, by omega, by omega, ?_⟩
      simp [pictP]
theorem scrollT_len (s : List UInt8) (w : Int) : (scrollT s w).length ≤ 3000 := by
  unfold scrollT
  split
  · rename_i h
    have hw := onScroll_w h
    have hb := pictP_len (by omega) hw.2 (evenL_short h)
    have hl := evenL_len s w
    simp [pictP]
    omega
  · simp
end Go.Proofs.YtopcfaffljjnbaaGreatDoor
