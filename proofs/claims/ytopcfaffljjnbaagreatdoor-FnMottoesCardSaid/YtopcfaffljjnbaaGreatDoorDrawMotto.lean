/- Draws of mottoes and widths. -/
import Derived.Test.YtopcfaffljjnbaaGreatDoorDrawText
import Derived.Test.YtopcfaffljjnbaaGreatDoorMotto
set_option linter.unusedVariables false
set_option linter.unusedSimpArgs false
namespace Go.Proofs.YtopcfaffljjnbaaGreatDoor
open Go.Abs

def wordList : List (List UInt8) := [[83, 69, 77, 80, 69, 82], [70, 73, 68, 69, 76, 73, 83], [69, 84], [73, 78], [86, 69, 82, 73, 84, 65, 83], [65], [80, 69, 82], [65, 82, 68, 85, 65], [76, 85, 88]]
theorem word_fn (code : List UInt8) : ∃ g : Nat → Int → List UInt8 × Nat × Int, ∀ (k : Nat) (s : Int), k ≤ 1000000000 →
    (((g k s).1.length ≤ 7 ∧ (k ≤ (g k s).2.1 ∧ (g k s).2.1 ≤ k + 2)) ∧ MCall Tryz.prog n_s_l1Cur_of [curB code k s] [cR, .ro 1 (wordList.map S)] (S (g k s).1) [some (curB code (g k s).2.1 (g k s).2.2)]) := by
  have key : ∀ (k : Nat) (s : Int), ∃ z : List UInt8 × Nat × Int, k ≤ 1000000000 → ((z.1.length ≤ 7 ∧ (k ≤ z.2.1 ∧ z.2.1 ≤ k + 2)) ∧ MCall Tryz.prog n_s_l1Cur_of [curB code k s] [cR, .ro 1 (wordList.map S)] (S z.1) [some (curB code z.2.1 z.2.2)]) := fun k s => by
    by_cases hk : k ≤ 1000000000
    · obtain ⟨v, k', s', ⟨h0, h1⟩, h2⟩ := s_l1Cur_of code k s wordList (by omega) (by decide) (by decide)
      have h7 : ∀ x ∈ wordList, x.length ≤ 7 := by decide
      exact ⟨(v, k', s'), fun _ => ⟨⟨h7 v h0, h1⟩, h2⟩⟩
    · exact ⟨([], 0, 0), fun h => absurd h hk⟩
  exact ⟨fun k s => (key k s).choose, fun k s hk => (key k s).choose_spec hk⟩
theorem pick_fn' (code : List UInt8) (n : Int) (hn : n ≤ 1000000) : ∃ g : Nat → Int → Int × Nat × Int, ∀ (k : Nat) (s : Int), k ≤ 100000000000 →
    (((0 ≤ (g k s).1 ∧ ((g k s).1 < n ∨ (g k s).1 = 0)) ∧ (k ≤ (g k s).2.1 ∧ (g k s).2.1 ≤ k + 2)) ∧ MCall Tryz.prog n_s_l1Cur_pick [curB code k s] [cR, I n] (I (g k s).1) [some (curB code (g k s).2.1 (g k s).2.2)]) := by
  have key : ∀ (k : Nat) (s : Int), ∃ z : Int × Nat × Int, k ≤ 100000000000 → (((0 ≤ z.1 ∧ (z.1 < n ∨ z.1 = 0)) ∧ (k ≤ z.2.1 ∧ z.2.1 ≤ k + 2)) ∧ MCall Tryz.prog n_s_l1Cur_pick [curB code k s] [cR, I n] (I z.1) [some (curB code z.2.1 z.2.2)]) := fun k s => by
    by_cases hk : k ≤ 100000000000
    · obtain ⟨v, k', s', h1, h2⟩ := s_l1Cur_pick code k s n hk hn
      exact ⟨(v, k', s'), fun _ => ⟨h1, h2⟩⟩
    · exact ⟨(0, 0, 0), fun h => absurd h hk⟩
  exact ⟨fun k s => (key k s).choose, fun k s hk => (key k s).choose_spec hk⟩
attribute [simp] wordList
/-- Words that are drawn, and the cursor behind them. -/
def wordsT (g : Nat → Int → List UInt8 × Nat × Int) (c : Nat × Int) : Nat → List (List UInt8) × Nat × Int
  | 0 => ([], c.1, c.2)
  | n + 1 => ((wordsT g c n).1 ++ [(g (wordsT g c n).2.1 (wordsT g c n).2.2).1], (g (wordsT g c n).2.1 (wordsT g c n).2.2).2.1, (g (wordsT g c n).2.1 (wordsT g c n).2.2).2.2)
theorem wordsT_ok {g : Nat → Int → List UInt8 × Nat × Int} (hg : ∀ k s, k ≤ 1000000000 → (g k s).1.length ≤ 7 ∧ (k ≤ (g k s).2.1 ∧ (g k s).2.1 ≤ k + 2)) (c : Nat × Int) (hc : c.1 ≤ 10000000) : ∀ n, n ≤ 100 →
    (wordsT g c n).1.length = n ∧ tot (wordsT g c n).1 ≤ 8 * n ∧ c.1 ≤ (wordsT g c n).2.1 ∧ (wordsT g c n).2.1 ≤ c.1 + 2 * n
  | 0, _ => by simp [wordsT, tot]
  | n + 1, hn => by
    obtain ⟨i1, i2, i3, i4⟩ := wordsT_ok hg c hc n (by omega)
    have h := hg (wordsT g c n).2.1 (wordsT g c n).2.2 (by omega)
    simp only [wordsT, tot_append, List.length_append, List.length_singleton]
    have : tot [(g (wordsT g c n).2.1 (wordsT g c n).2.2).1] = (g (wordsT g c n).2.1 (wordsT g c n).2.2).1.length + 1 := by simp [tot]
    omega
def fillX (g : Nat → Int → Int × Nat × Int) : Nat → List UInt8 → Nat → Int → List UInt8 × Nat × Int
  | 0, t, k, s => (t, k, s)
  | n + 1, t, k, s => if (t.length : Int) < 60 + (g k s).1 then fillX g n (t ++ [88]) (g k s).2.1 (g k s).2.2 else (t, (g k s).2.1, (g k s).2.2)
theorem fillX_ok {g : Nat → Int → Int × Nat × Int} (hg : ∀ k s, k ≤ 100000000000 → (0 ≤ (g k s).1 ∧ (g k s).1 ≤ 1) ∧ k ≤ (g k s).2.1 ∧ (g k s).2.1 ≤ k + 2) : ∀ (f : Nat) (t : List UInt8) (k : Nat) (s : Int), t.length ≤ 100 → k + 2 * f ≤ 10000000 →
    (fillX g f t k s).1.length ≤ 100 ∧ k ≤ (fillX g f t k s).2.1 ∧ (fillX g f t k s).2.1 ≤ k + 2 * f
  | 0, t, k, s, hL, hk => by simp [fillX]; omega
  | f + 1, t, k, s, hL, hk => by
    have hz := hg k s (by omega)
    simp only [fillX]
    split
    · have ih := fillX_ok hg f (t ++ [88]) (g k s).2.1 (g k s).2.2 (by simp; omega) (by omega)
      omega
    · dsimp only; omega
set_option maxHeartbeats 4000000 in
theorem s_l1Cur_motto (code : List UInt8) (k : Nat) (s : Int) (hk : k ≤ 1000000) : ∃ (t : List UInt8) (k' : Nat) (s' : Int), (t.length ≤ 200 ∧ (k ≤ k' ∧ k' ≤ k + 1000)) ∧
    MCall Tryz.prog n_s_l1Cur_motto [curB code k s] [cR] (S t) [some (curB code k' s')] := by
  obtain ⟨v1, k1, s1, ⟨hv1, hk1⟩, hM1⟩ := s_l1Cur_pick code k s 8 (by omega) (by omega)
  obtain ⟨g, hg⟩ := word_fn code
  obtain ⟨n, hn⟩ : ∃ n : Nat, 1 + v1 = n := ⟨(1 + v1).toNat, by omega⟩
  have hn8 : n ≤ 8 := by omega
  have hT := wordsT_ok (g := g) (fun k s hk => (hg k s hk).1) (k1, s1) (by dsimp only; omega)
  have hTn := hT n (by omega)
  obtain ⟨W, hW⟩ : ∃ W, wordsT g (k1, s1) n = W := ⟨_, rfl⟩
  rw [hW] at hTn
  obtain ⟨L, k2, s2⟩ := W
  dsimp only at hTn
  obtain ⟨hL1, hL2, hL3⟩ := hTn
  have hj := joinW_tot L
  obtain ⟨x, k3, s3, ⟨hx, hk3⟩, hM3⟩ := s_l1Cur_pick code k2 s2 30 (by omega) (by omega)
  obtain ⟨v, k4, s4, ⟨hv, hk4⟩, hM4⟩ := s_l1Cur_spoilt code k3 s3 (joinW L) [32, 65, 97] (by omega) (by simp) (by simp) (by omega)
  obtain ⟨gp, hgp⟩ := pick_fn' code 2 (by omega)
  have hgb : ∀ k s, k ≤ 100000000000 → (0 ≤ (gp k s).1 ∧ (gp k s).1 ≤ 1) ∧ k ≤ (gp k s).2.1 ∧ (gp k s).2.1 ≤ k + 2 := fun k s hk => by have := (hgp k s hk).1; omega
  have hfx := fillX_ok hgb 100 (joinW L) k3 s3 (by omega) (by omega)
  have main : ∀ (t : List UInt8) (k' : Nat) (s' : Int), ((x = 0 ∧ t = v ∧ k' = k4 ∧ s' = s4) ∨ (x = 1 ∧ t = [] ∧ k' = k3 ∧ s' = s3) ∨ (x = 2 ∧ (t, k', s') = fillX gp 100 (joinW L) k3 s3) ∨ ((x ≠ 0 ∧ x ≠ 1 ∧ x ≠ 2) ∧ t = joinW L ∧ k' = k3 ∧ s' = s3)) →
      MCall Tryz.prog n_s_l1Cur_motto [curB code k s] [cR] (S t) [some (curB code k' s')] := by
    intro t k' s' hfin
    refine MCall.of fn_s_l1Cur_motto (by simp) rfl (by simp) ?_
    simp [c_s_l1Cur_motto, r_s_l1Cur_motto_0, r_s_l1Cur_motto_1, r_s_l1Cur_motto_2, l_s_l1Cur_motto_6]
    refine callQ_Mz [1000000] [] (MCall.arg hM1 (by simp)) (by simp) (by simp) (by simp) (by simp) (by simp) (by first | rfl | simp) (by simp) ?_
    simp
    rw [wrap64 (n := 1 + v1) (by omega) (by omega), hn]
    refine loopK (fun j : Nat => ⟨[(0, cR), (3, .sl 6 0 j), (4, I ((n : Int) - j))], [(1000000, curB code (wordsT g (k1, s1) j).2.1 (wordsT g (k1, s1) j).2.2), (6, ⟨1, (wordsT g (k1, s1) j).1.map S⟩)], [1000000]⟩) (fun j => n - j) (fun j => j ≤ n) 0 (Wk.list rfl (by simp) (by simp [wordsT])) (by simp) ?_
    intro j hj K hN hR hE
    obtain ⟨i1, i2, i3, i4⟩ := hT j (by omega)
    have hs : wordsT g (k1, s1) (j + 1) = ((wordsT g (k1, s1) j).1 ++ [(g (wordsT g (k1, s1) j).2.1 (wordsT g (k1, s1) j).2.2).1], (g (wordsT g (k1, s1) j).2.1 (wordsT g (k1, s1) j).2.2).2.1, (g (wordsT g (k1, s1) j).2.1 (wordsT g (k1, s1) j).2.2).2.2) := rfl
    obtain ⟨A, hA⟩ : ∃ A, wordsT g (k1, s1) j = A := ⟨_, rfl⟩
    rw [hA] at i1 i2 i3 i4 hs ⊢
    obtain ⟨B, ka, sa⟩ := A
    dsimp only at i1 i2 i3 i4 hs ⊢
    obtain ⟨hz, hMz⟩ := hg ka sa (by omega)
    simp [r_s_l1Cur_motto_3, r_s_l1Cur_motto_5]
    refine ⟨fun hlt => ?_, fun hge => ?_⟩
    · simp [r_s_l1Cur_motto_4]
      refine callQ_Mz [1000000] [16] (MCall.arg hMz (by simp)) (by simp) (by simp) (by simp) (by simp) (by simp) (by first | rfl | simp) (by simp) ?_
      simp
      refine ⟨⟨by omega, by unfold lenBound; omega⟩, ?_⟩
      rw [wrap64 (by omega) (by omega), List.take_of_length_le (by simp; omega)]
      refine hN (j + 1) _ (by omega) (by omega) (Wk.trans (Wk.ren 19 6 (by decide) (by simp)) (Wk.list rfl ?_ ?_))
      · simp; omega
      · simp [hs]
    · obtain rfl : j = n := by omega
      refine hE _ _ ?_
      simp only [blockK_exit]
      rw [hA] at hW
      cases hW
      simp [r_s_l1Cur_motto_7]
      refine callQ_v (PCall.arg (s_l23Line L 0 j (by omega) (by omega) (by omega) (by omega)) (by rw [← hL1]; simp [List.take_of_length_le])) ?_
      rw [List.drop_zero, Nat.sub_zero, List.take_of_length_le (by omega)]
      simp [r_s_l1Cur_motto_8]
      refine callQ_Mz [1000000] [] (MCall.arg hM3 (by simp)) (by simp) (by simp) (by simp) (by simp) (by simp) (by first | rfl | simp) (by simp) ?_
      rcases hfin with ⟨rfl, rfl, rfl, rfl⟩ | ⟨rfl, rfl, rfl, rfl⟩ | ⟨rfl, hfill⟩ | ⟨⟨n0, n1, n2⟩, rfl, rfl, rfl⟩
      · simp [r_s_l1Cur_motto_9, r_s_l1Cur_motto_10]
        refine callQ_Mz [1000000] [] (MCall.arg hM4 (by simp)) (by simp) (by simp) (by simp) (by simp) (by simp) (by first | rfl | simp) (by simp) ?_
        simp [r_s_l1Cur_motto_17]
      · simp [r_s_l1Cur_motto_9, r_s_l1Cur_motto_11, r_s_l1Cur_motto_12, r_s_l1Cur_motto_17]
      · simp [r_s_l1Cur_motto_9, r_s_l1Cur_motto_11, r_s_l1Cur_motto_13, l_s_l1Cur_motto_16]
        clear hN hR hE
        refine loopK (fun a : List UInt8 × Nat × Int × Nat => ⟨[(0, cR), (5, S a.1)], [(1000000, curB code a.2.1 a.2.2.1)], [1000000]⟩) (fun a => a.2.2.2)
          (fun a => (a.1.length ≤ 61 ∨ a.2.2.2 = 100) ∧ a.1.length ≤ 100 ∧ 62 ≤ a.1.length + a.2.2.2 ∧ a.2.1 + 2 * a.2.2.2 ≤ 10000000 ∧ (t, k', s') = fillX gp a.2.2.2 a.1 a.2.1 a.2.2.1) (joinW L, k3, s3, 100) (Wk.list rfl (by simp) (by simp)) ⟨by dsimp only; omega, by dsimp only; omega, by dsimp only; omega, by dsimp only; omega, hfill⟩ ?_
        rintro ⟨T, kk, ss, f⟩ ⟨ha0, ha1, ha2, ha3, ha4⟩ K hN hR hE
        dsimp only at ha0 ha1 ha2 ha3 ha4
        cases f with
        | zero => exact absurd ha2 (by omega)
        | succ f =>
        obtain ⟨hz1, hz2⟩ := hgp kk ss (by omega)
        have hz3 := hgb kk ss (by omega)
        simp [r_s_l1Cur_motto_14]
        refine callQ_Mz [1000000] [] (MCall.arg hz2 (by simp)) (by simp) (by simp) (by simp) (by simp) (by simp) (by first | rfl | simp) (by simp) ?_
        simp
        rw [wrap64 (by omega) (by omega)]
        refine ⟨fun hlt => ?_, fun hge => ?_⟩
        · simp [r_s_l1Cur_motto_15]
          refine ⟨by omega, ?_⟩
          have hfT : fillX gp (f + 1) T kk ss = fillX gp f (T ++ [88]) (gp kk ss).2.1 (gp kk ss).2.2 := by
            rw [fillX, if_pos hlt]
          rw [hfT] at ha4
          refine hN (T ++ [88], (gp kk ss).2.1, (gp kk ss).2.2, f) _ ?_ ⟨?_, ?_, ?_, ?_, ha4⟩ (Wk.list rfl ?_ ?_)
          · dsimp only; omega
          · left; simp; omega
          · simp; omega
          · simp; omega
          · dsimp only; omega
          · simp
          · simp
        · have hfT : fillX gp (f + 1) T kk ss = (T, (gp kk ss).2.1, (gp kk ss).2.2) := by
            rw [fillX, if_neg (by omega)]
          rw [hfT] at ha4
          simp only [Prod.mk.injEq] at ha4
          obtain ⟨rfl, rfl, rfl⟩ := ha4
          refine hE _ _ ?_
          simp only [blockK_exit]
          simp [r_s_l1Cur_motto_17]
      · simp [r_s_l1Cur_motto_9, r_s_l1Cur_motto_11, r_s_l1Cur_motto_13, r_s_l1Cur_motto_17, n0, n1, n2]
  by_cases c0 : x = 0
  · exact ⟨_, _, _, ⟨by omega, by omega⟩, main _ _ _ (.inl ⟨c0, rfl, rfl, rfl⟩)⟩
  by_cases c1 : x = 1
  · exact ⟨_, _, _, ⟨by simp, by omega⟩, main _ _ _ (.inr (.inl ⟨c1, rfl, rfl, rfl⟩))⟩
  by_cases c2 : x = 2
  · exact ⟨(fillX gp 100 (joinW L) k3 s3).1, (fillX gp 100 (joinW L) k3 s3).2.1, (fillX gp 100 (joinW L) k3 s3).2.2, ⟨by omega, by omega⟩, main _ _ _ (.inr (.inr (.inl ⟨c2, rfl⟩)))⟩
  · exact ⟨_, _, _, ⟨by omega, by omega⟩, main _ _ _ (.inr (.inr (.inr ⟨⟨c0, c1, c2⟩, rfl, rfl, rfl⟩)))⟩
theorem quo11' {v : Int} (h0 : 0 ≤ v) (h1 : v < 24) : IntKind.i64.wrap (v.tdiv 11) = 0 ∨ IntKind.i64.wrap (v.tdiv 11) = 1 ∨ IntKind.i64.wrap (v.tdiv 11) = 2 := by
  rw [Int.tdiv_eq_ediv_of_nonneg h0, wrap64 (by omega) (by omega)]
  omega
theorem s_l1Cur_scroll (code : List UInt8) (k : Nat) (s : Int) (hk : k ≤ 1000000000) : ∃ (w : Int) (k' : Nat) (s' : Int), ((0 ≤ w ∧ w ≤ 41) ∧ (k ≤ k' ∧ k' ≤ k + 4)) ∧ MCall Tryz.prog n_s_l1Cur_scroll [curB code k s] [cR] (I w) [some (curB code k' s')] := by
  obtain ⟨v, k1, s1, ⟨hv, hk1⟩, hM1⟩ := s_l1Cur_pick code k s 24 (by omega) (by omega)
  have hn := quo11' (v := v) (by omega) (by omega)
  rcases hn with hn | hn | hn
  · obtain ⟨w, k2, s2, ⟨hw, hk2⟩, hM2⟩ := s_l1Cur_among code k1 s1 [7, 8, 10, 12, 15, 20, 40, 6] (by omega) (by simp) (by simp)
    refine ⟨w, k2, s2, ⟨by simp at hw; omega, by omega⟩, ?_⟩
    refine MCall.of fn_s_l1Cur_scroll (by simp) rfl (by simp) ?_
    simp [c_s_l1Cur_scroll, r_s_l1Cur_scroll_0, r_s_l1Cur_scroll_1]
    refine callQ_Mz [1000000] [] (MCall.arg hM1 (by simp)) (by simp) (by simp) (by simp) (by simp) (by simp) (by first | rfl | simp) (by simp) ?_
    simp
    rw [hn]
    simp [show IntKind.i64.wrap 8 = 8 from rfl, show IntKind.i64.wrap (8 + 0) = 8 from rfl]
    refine callQ_Mz [1000000] [4] (MCall.arg hM2 (by simp)) (by simp) (by simp) (by simp) (by simp) (by simp) (by first | rfl | simp) (by simp) ?_
    simp
  · obtain ⟨w, k2, s2, ⟨hw, hk2⟩, hM2⟩ := s_l1Cur_among code k1 s1 [7, 8, 10, 12, 15, 20, 40, 6, 0] (by omega) (by simp) (by simp)
    refine ⟨w, k2, s2, ⟨by simp at hw; omega, by omega⟩, ?_⟩
    refine MCall.of fn_s_l1Cur_scroll (by simp) rfl (by simp) ?_
    simp [c_s_l1Cur_scroll, r_s_l1Cur_scroll_0, r_s_l1Cur_scroll_1]
    refine callQ_Mz [1000000] [] (MCall.arg hM1 (by simp)) (by simp) (by simp) (by simp) (by simp) (by simp) (by first | rfl | simp) (by simp) ?_
    simp
    rw [hn]
    simp [show IntKind.i64.wrap 9 = 9 from rfl, show IntKind.i64.wrap (8 + 1) = 9 from rfl]
    refine callQ_Mz [1000000] [4] (MCall.arg hM2 (by simp)) (by simp) (by simp) (by simp) (by simp) (by simp) (by first | rfl | simp) (by simp) ?_
    simp
  · obtain ⟨w, k2, s2, ⟨hw, hk2⟩, hM2⟩ := s_l1Cur_among code k1 s1 [7, 8, 10, 12, 15, 20, 40, 6, 0, 41] (by omega) (by simp) (by simp)
    refine ⟨w, k2, s2, ⟨by simp at hw; omega, by omega⟩, ?_⟩
    refine MCall.of fn_s_l1Cur_scroll (by simp) rfl (by simp) ?_
    simp [c_s_l1Cur_scroll, r_s_l1Cur_scroll_0, r_s_l1Cur_scroll_1]
    refine callQ_Mz [1000000] [] (MCall.arg hM1 (by simp)) (by simp) (by simp) (by simp) (by simp) (by simp) (by first | rfl | simp) (by simp) ?_
    simp
    rw [hn]
    simp [show IntKind.i64.wrap 10 = 10 from rfl, show IntKind.i64.wrap (8 + 2) = 10 from rfl]
    refine callQ_Mz [1000000] [4] (MCall.arg hM2 (by simp)) (by simp) (by simp) (by simp) (by simp) (by simp) (by first | rfl | simp) (by simp) ?_
    simp
end Go.Proofs.YtopcfaffljjnbaaGreatDoor
