/- Draws of banners and proportions. -/
import Derived.Test.YtgefdcllialhkaaCodeDrawBan
import Derived.Test.YtgefdcllialhkaaCursor
import Derived.Test.YtgefdcllialhkaaBanner
set_option linter.unusedVariables false
set_option linter.unusedSimpArgs false
namespace Go.Proofs.Ytgefdcllialhkaa
open Go.Abs

theorem quo11 {v : Int} (h0 : 0 ≤ v) (h1 : v < 24) : IntKind.i64.wrap (v.tdiv 11) = 0 ∨ IntKind.i64.wrap (v.tdiv 11) = 1 ∨ IntKind.i64.wrap (v.tdiv 11) = 2 := by
  rw [Int.tdiv_eq_ediv_of_nonneg h0, wrap64 (by omega) (by omega)]
  omega
theorem s_l1Cur_proportion (code : List UInt8) (k : Nat) (s : Int) (hk : k ≤ 1000000000) : ∃ (h w : Int) (k' : Nat) (s' : Int), (k ≤ k' ∧ k' ≤ k + 6) ∧ MCall Try.prog n_s_l1Cur_proportion [curB code k s] [cR] (.agg [I h, I w]) [some (curB code k' s')] := by
  obtain ⟨v, k1, s1, ⟨hv, hk1⟩, hM1⟩ := s_l1Cur_pick code k s 24 (by omega) (by omega)
  have hn := quo11 (v := v) (by omega) (by omega)
  rcases hn with hn | hn | hn
  · obtain ⟨h, k2, s2, ⟨hh, hk2⟩, hM2⟩ := s_l1Cur_among code k1 s1 [1, 2, 3, 5, 10, 4] (by omega) (by simp) (by simp)
    obtain ⟨w, k3, s3, ⟨hw, hk3⟩, hM3⟩ := s_l1Cur_among code k2 s2 [1, 2, 3, 5, 7, 9] (by omega) (by simp) (by simp)
    refine ⟨h, w, k3, s3, by omega, ?_⟩
    refine MCall.of fn_s_l1Cur_proportion (by simp) rfl (by simp) ?_
    simp [c_s_l1Cur_proportion, r_s_l1Cur_proportion_0, r_s_l1Cur_proportion_1]
    refine callQ_Mz [1000000] [] (MCall.arg hM1 (by simp)) (by simp) (by simp) (by simp) (by simp) (by simp) (by first | rfl | simp) (by simp) ?_
    simp
    rw [hn]
    simp [show IntKind.i64.wrap 6 = 6 from rfl, show IntKind.i64.wrap (6 + 0) = 6 from rfl]
    refine callQ_Mz [1000000] [4] (MCall.arg hM2 (by simp)) (by simp) (by simp) (by simp) (by simp) (by simp) (by first | rfl | simp) (by simp) ?_
    simp
    refine callQ_Mz [1000000] [12] (MCall.arg hM3 (by simp)) (by simp) (by simp) (by simp) (by simp) (by simp) (by first | rfl | simp) (by simp) ?_
    simp
  · obtain ⟨h, k2, s2, ⟨hh, hk2⟩, hM2⟩ := s_l1Cur_among code k1 s1 [1, 2, 3, 5, 10, 4, 0] (by omega) (by simp) (by simp)
    obtain ⟨w, k3, s3, ⟨hw, hk3⟩, hM3⟩ := s_l1Cur_among code k2 s2 [1, 2, 3, 5, 7, 9] (by omega) (by simp) (by simp)
    refine ⟨h, w, k3, s3, by omega, ?_⟩
    refine MCall.of fn_s_l1Cur_proportion (by simp) rfl (by simp) ?_
    simp [c_s_l1Cur_proportion, r_s_l1Cur_proportion_0, r_s_l1Cur_proportion_1]
    refine callQ_Mz [1000000] [] (MCall.arg hM1 (by simp)) (by simp) (by simp) (by simp) (by simp) (by simp) (by first | rfl | simp) (by simp) ?_
    simp
    rw [hn]
    simp [show IntKind.i64.wrap 7 = 7 from rfl, show IntKind.i64.wrap (6 + 1) = 7 from rfl]
    refine callQ_Mz [1000000] [4] (MCall.arg hM2 (by simp)) (by simp) (by simp) (by simp) (by simp) (by simp) (by first | rfl | simp) (by simp) ?_
    simp
    refine callQ_Mz [1000000] [12] (MCall.arg hM3 (by simp)) (by simp) (by simp) (by simp) (by simp) (by simp) (by first | rfl | simp) (by simp) ?_
    simp
  · obtain ⟨h, k2, s2, ⟨hh, hk2⟩, hM2⟩ := s_l1Cur_among code k1 s1 [1, 2, 3, 5, 10, 4, 0, 11] (by omega) (by simp) (by simp)
    obtain ⟨w, k3, s3, ⟨hw, hk3⟩, hM3⟩ := s_l1Cur_among code k2 s2 [1, 2, 3, 5, 7, 9] (by omega) (by simp) (by simp)
    refine ⟨h, w, k3, s3, by omega, ?_⟩
    refine MCall.of fn_s_l1Cur_proportion (by simp) rfl (by simp) ?_
    simp [c_s_l1Cur_proportion, r_s_l1Cur_proportion_0, r_s_l1Cur_proportion_1]
    refine callQ_Mz [1000000] [] (MCall.arg hM1 (by simp)) (by simp) (by simp) (by simp) (by simp) (by simp) (by first | rfl | simp) (by simp) ?_
    simp
    rw [hn]
    simp [show IntKind.i64.wrap 8 = 8 from rfl, show IntKind.i64.wrap (6 + 2) = 8 from rfl]
    refine callQ_Mz [1000000] [4] (MCall.arg hM2 (by simp)) (by simp) (by simp) (by simp) (by simp) (by simp) (by first | rfl | simp) (by simp) ?_
    simp
    refine callQ_Mz [1000000] [12] (MCall.arg hM3 (by simp)) (by simp) (by simp) (by simp) (by simp) (by simp) (by first | rfl | simp) (by simp) ?_
    simp
theorem among_fn (code : List UInt8) (l : List Int) (h0 : 0 < l.length) (hl : l.length ≤ 100000) : ∃ g : Nat → Int → Int × Nat × Int, ∀ (k : Nat) (s : Int), k ≤ 100000000000 →
    (((g k s).1 ∈ l ∧ (k ≤ (g k s).2.1 ∧ (g k s).2.1 ≤ k + 2)) ∧ MCall Try.prog n_s_l1Cur_among [curB code k s] [cR, .ro 1 (l.map I)] (I (g k s).1) [some (curB code (g k s).2.1 (g k s).2.2)]) := by
  have key : ∀ (k : Nat) (s : Int), ∃ z : Int × Nat × Int, k ≤ 100000000000 → ((z.1 ∈ l ∧ (k ≤ z.2.1 ∧ z.2.1 ≤ k + 2)) ∧ MCall Try.prog n_s_l1Cur_among [curB code k s] [cR, .ro 1 (l.map I)] (I z.1) [some (curB code z.2.1 z.2.2)]) := fun k s => by
    by_cases hk : k ≤ 100000000000
    · obtain ⟨v, k', s', h1, h2⟩ := s_l1Cur_among code k s l hk h0 hl
      exact ⟨(v, k', s'), fun _ => ⟨h1, h2⟩⟩
    · exact ⟨(0, 0, 0), fun h => absurd h hk⟩
  exact ⟨fun k s => (key k s).choose, fun k s hk => (key k s).choose_spec hk⟩
theorem pick_fn (code : List UInt8) (n : Int) (hn : n ≤ 1000000) : ∃ g : Nat → Int → Int × Nat × Int, ∀ (k : Nat) (s : Int), k ≤ 100000000000 →
    (((0 ≤ (g k s).1 ∧ ((g k s).1 < n ∨ (g k s).1 = 0)) ∧ (k ≤ (g k s).2.1 ∧ (g k s).2.1 ≤ k + 2)) ∧ MCall Try.prog n_s_l1Cur_pick [curB code k s] [cR, I n] (I (g k s).1) [some (curB code (g k s).2.1 (g k s).2.2)]) := by
  have key : ∀ (k : Nat) (s : Int), ∃ z : Int × Nat × Int, k ≤ 100000000000 → (((0 ≤ z.1 ∧ (z.1 < n ∨ z.1 = 0)) ∧ (k ≤ z.2.1 ∧ z.2.1 ≤ k + 2)) ∧ MCall Try.prog n_s_l1Cur_pick [curB code k s] [cR, I n] (I z.1) [some (curB code z.2.1 z.2.2)]) := fun k s => by
    by_cases hk : k ≤ 100000000000
    · obtain ⟨v, k', s', h1, h2⟩ := s_l1Cur_pick code k s n hk hn
      exact ⟨(v, k', s'), fun _ => ⟨h1, h2⟩⟩
    · exact ⟨(0, 0, 0), fun h => absurd h hk⟩
  exact ⟨fun k s => (key k s).choose, fun k s hk => (key k s).choose_spec hk⟩
/-- A row that is drawn: its cells, and the cursor behind it. -/
def rowT (g : Nat → Int → Int × Nat × Int) (c : Nat × Int) : Nat → List Int × Nat × Int
  | 0 => ([], c.1, c.2)
  | n + 1 => ((rowT g c n).1 ++ [(g (rowT g c n).2.1 (rowT g c n).2.2).1], (g (rowT g c n).2.1 (rowT g c n).2.2).2.1, (g (rowT g c n).2.1 (rowT g c n).2.2).2.2)
theorem rowT_len (g : Nat → Int → Int × Nat × Int) (c : Nat × Int) : ∀ n, (rowT g c n).1.length = n
  | 0 => rfl
  | n + 1 => by simp [rowT, rowT_len g c n]
def Steps (g : Nat → Int → Int × Nat × Int) : Prop := ∀ k s, k ≤ 100000000000 → k ≤ (g k s).2.1 ∧ (g k s).2.1 ≤ k + 2
theorem rowT_cur {g : Nat → Int → Int × Nat × Int} (hg : Steps g) (c : Nat × Int) (hc : c.1 ≤ 10000000000) : ∀ n, n ≤ 1000000 → c.1 ≤ (rowT g c n).2.1 ∧ (rowT g c n).2.1 ≤ c.1 + 2 * n
  | 0, _ => by simp [rowT]
  | n + 1, hn => by
    have ih := rowT_cur hg c hc n (by omega)
    have := hg (rowT g c n).2.1 (rowT g c n).2.2 (by omega)
    simp only [rowT]; omega
def rowsT (g : Nat → Int → Int × Nat × Int) (w : Nat) (c : Nat × Int) : Nat → List (List Int) × Nat × Int
  | 0 => ([], c.1, c.2)
  | n + 1 => ((rowsT g w c n).1 ++ [(rowT g (rowsT g w c n).2 w).1], (rowT g (rowsT g w c n).2 w).2)
theorem rowsT_len (g : Nat → Int → Int × Nat × Int) (w : Nat) (c : Nat × Int) : ∀ n, (rowsT g w c n).1.length = n
  | 0 => rfl
  | n + 1 => by simp [rowsT, rowsT_len g w c n]
theorem rowsT_row {g : Nat → Int → Int × Nat × Int} {w : Nat} {c : Nat × Int} : ∀ n, ∀ r ∈ (rowsT g w c n).1, r.length = w
  | 0, r, h => by simp [rowsT] at h
  | n + 1, r, h => by
    simp only [rowsT, List.mem_append, List.mem_singleton] at h
    rcases h with h | rfl
    · exact rowsT_row n r h
    · exact rowT_len ..
theorem rowsT_cur {g : Nat → Int → Int × Nat × Int} (hg : Steps g) {w : Nat} (hw : w ≤ 1000) (c : Nat × Int) (hc : c.1 ≤ 1000000000) : ∀ n, n ≤ 1000 → c.1 ≤ (rowsT g w c n).2.1 ∧ (rowsT g w c n).2.1 ≤ c.1 + 2 * w * n
  | 0, _ => by simp [rowsT]
  | n + 1, hn => by
    have ih := rowsT_cur hg hw c hc n (by omega)
    have h3 : 2 * w * n ≤ 2000000 := by
      have := Nat.mul_le_mul (show 2 * w ≤ 2000 by omega) (show n ≤ 1000 by omega)
      omega
    have := rowT_cur hg (rowsT g w c n).2 (by omega) w (by omega)
    simp only [rowsT]
    have h4 : 2 * w * (n + 1) = 2 * w * n + 2 * w := by rw [Nat.mul_add]; omega
    omega
theorem last_cut {α : Type} {l : List α} {x : α} {n : Nat} (h : l[n - 1]? = some x) (hl : l.length = n) : ∃ A, l = A ++ [x] ∧ A.length = n - 1 := by
  obtain ⟨h1, h2⟩ := List.getElem?_eq_some_iff.1 h
  refine ⟨l.take (n - 1), ?_, by simp; omega⟩
  have := List.take_append_getElem h1
  rw [h2] at this
  rw [this, List.take_of_length_le (by omega)]
theorem first_cut {α : Type} {l : List α} {x : α} (h : l[0]? = some x) : ∃ B, l = x :: B := by
  cases l with
  | nil => simp at h
  | cons a l => simp at h; exact ⟨l, by rw [h]⟩
theorem map_I_set (l : List Int) (i : Nat) (v : Int) : (l.map I).set i (I v) = (l.set i v).map I := by rw [List.map_set]
def fillT (g : Nat → Int → Int × Nat × Int) (r0 : List Int) : Nat → List (List Int) → Nat → Int → List (List Int) × Nat × Int
  | 0, L, k, s => (L, k, s)
  | n + 1, L, k, s => if (L.length : Int) < 60 + (g k s).1 then fillT g r0 n (L ++ [r0]) (g k s).2.1 (g k s).2.2 else (L, (g k s).2.1, (g k s).2.2)
theorem fillT_ok {g : Nat → Int → Int × Nat × Int} (hg : ∀ k s, k ≤ 100000000000 → (0 ≤ (g k s).1 ∧ (g k s).1 ≤ 1) ∧ k ≤ (g k s).2.1 ∧ (g k s).2.1 ≤ k + 2) (r0 : List Int) : ∀ (f : Nat) (L : List (List Int)) (k : Nat) (s : Int), L.length ≤ 61 → k + 2 * f ≤ 10000000 →
    (fillT g r0 f L k s).1.length ≤ 61 ∧ L.length ≤ (fillT g r0 f L k s).1.length ∧ k ≤ (fillT g r0 f L k s).2.1 ∧ (fillT g r0 f L k s).2.1 ≤ k + 2 * f
  | 0, L, k, s, hL, hk => by simp [fillT]; omega
  | f + 1, L, k, s, hL, hk => by
    have hz := hg k s (by omega)
    simp only [fillT]
    split
    · have ih := fillT_ok hg r0 f (L ++ [r0]) (g k s).2.1 (g k s).2.2 (by simp; omega) (by omega)
      simp at ih
      omega
    · dsimp only; omega
theorem roes_rows (rows : List (List Int)) : (rows.map ownI).map (borrow (fun _ => none) 3) = rows.map roI := by
  simp [List.map_map, Function.comp_def, borrow]
set_option maxHeartbeats 4000000 in
theorem s_l1Cur_banner (code : List UInt8) (k : Nat) (s : Int) (hk : k ≤ 1000000) : ∃ (b : List (List Int)) (k' : Nat) (s' : Int), ((b = [] ∨ 0 < b.length) ∧ b.length ≤ 70 ∧ (k ≤ k' ∧ k' ≤ k + 10000)) ∧
    MCall Try.prog n_s_l1Cur_banner [curB code k s] [cR] (.own 1 (b.map roI)) [some (curB code k' s')] := by
  obtain ⟨v1, k1, s1, ⟨hv1, hk1⟩, hM1⟩ := s_l1Cur_pick code k s 8 (by omega) (by omega)
  obtain ⟨v2, k2, s2, ⟨hv2, hk2⟩, hM2⟩ := s_l1Cur_pick code k1 s1 12 (by omega) (by omega)
  obtain ⟨ta, k3, s3, ⟨hv3, hk3⟩, hM3⟩ := s_l1Cur_tincture code k2 s2 (by omega)
  obtain ⟨tb, k4, s4, ⟨hv4, hk4⟩, hM4⟩ := s_l1Cur_tincture code k3 s3 (by omega)
  obtain ⟨g, hg⟩ := among_fn code [ta, ta, tb] (by simp) (by simp)
  have hst : Steps g := fun k s hk => (hg k s hk).1.2
  obtain ⟨R, hR0⟩ : ∃ R : Nat, 1 + v1 = R := ⟨(1 + v1).toNat, by omega⟩
  obtain ⟨W, hW0⟩ : ∃ W : Nat, 1 + v2 = W := ⟨(1 + v2).toNat, by omega⟩
  have hcur := rowsT_cur hst (w := W) (by omega) (k4, s4) (by dsimp only; omega)
  have hcR := hcur R (by omega)
  have hlenT := rowsT_len g W (k4, s4)
  obtain ⟨k5, hk5⟩ : ∃ k5, (rowsT g W (k4, s4) R).2.1 = k5 := ⟨_, rfl⟩
  obtain ⟨s5, hs5⟩ : ∃ s5, (rowsT g W (k4, s4) R).2.2 = s5 := ⟨_, rfl⟩
  have hb5 : k5 ≤ k4 + 200 := by
    rw [← hk5]
    have h3 : 2 * W * R ≤ 200 := by
      have := Nat.mul_le_mul (show 2 * W ≤ 24 by omega) (show R ≤ 8 by omega)
      omega
    dsimp only at hcR; omega
  obtain ⟨v6, k6, s6, ⟨hv6, hk6⟩, hM6⟩ := s_l1Cur_pick code k5 s5 40 (by omega) (by omega)
  obtain ⟨rows, hrows⟩ : ∃ rows, (rowsT g W (k4, s4) R).1 = rows := ⟨_, rfl⟩
  have hrl : rows.length = R := by rw [← hrows]; exact rowsT_len ..
  have hrw : ∀ r ∈ rows, r.length = W := by rw [← hrows]; exact rowsT_row R
  have hR1 : 1 ≤ R ∧ R ≤ 8 := by omega
  have hW1 : 1 ≤ W ∧ W ≤ 12 := by omega
  obtain ⟨rl, hrlast⟩ : ∃ rl, rows[R - 1]? = some rl := ⟨_, List.getElem?_eq_getElem (by omega)⟩
  obtain ⟨r0, hr0⟩ : ∃ r0, rows[0]? = some r0 := ⟨_, List.getElem?_eq_getElem (by omega)⟩
  have hlw := hrw rl (List.mem_of_getElem? hrlast)
  have h0w := hrw r0 (List.mem_of_getElem? hr0)
  obtain ⟨z, k7, s7, ⟨hz, hk7⟩, hM7⟩ := s_l1Cur_among code k6 s6 [0, 10] (by omega) (by simp) (by simp)
  obtain ⟨gp, hgp⟩ := pick_fn code 2 (by omega)
  have hgb : ∀ k s, k ≤ 100000000000 → (0 ≤ (gp k s).1 ∧ (gp k s).1 ≤ 1) ∧ k ≤ (gp k s).2.1 ∧ (gp k s).2.1 ≤ k + 2 := fun k s hk => by have := (hgp k s hk).1; omega
  have main : ∀ (b : List (List Int)) (k' : Nat) (s' : Int), ((v6 = 0 ∧ b = rows.set (R - 1) (rl ++ [1]) ∧ k' = k6 ∧ s' = s6) ∨ (v6 = 1 ∧ b = rows.set 0 (r0.set (W - 1) z) ∧ k' = k7 ∧ s' = s7) ∨ (v6 = 2 ∧ b = [] ∧ k' = k6 ∧ s' = s6) ∨ ((v6 ≠ 0 ∧ v6 ≠ 1 ∧ v6 ≠ 2 ∧ v6 ≠ 3) ∧ b = rows ∧ k' = k6 ∧ s' = s6) ∨ (v6 = 3 ∧ (b, k', s') = fillT gp r0 62 rows k6 s6)) → MCall Try.prog n_s_l1Cur_banner [curB code k s] [cR] (.own 1 (b.map roI)) [some (curB code k' s')] := by
    intro b k' s' hfin
    refine MCall.of fn_s_l1Cur_banner (by simp) rfl (by simp) ?_
    simp [c_s_l1Cur_banner, r_s_l1Cur_banner_0, r_s_l1Cur_banner_1]
    refine callQ_Mz [1000000] [] (MCall.arg hM1 (by simp)) (by simp) (by simp) (by simp) (by simp) (by simp) (by first | rfl | simp) (by simp) ?_
    simp
    refine callQ_Mz [1000000] [] (MCall.arg hM2 (by simp)) (by simp) (by simp) (by simp) (by simp) (by simp) (by first | rfl | simp) (by simp) ?_
    simp
    rw [wrap64 (n := 1 + v1) (by omega) (by omega), wrap64 (n := 1 + v2) (by omega) (by omega), hR0, hW0]
    simp [r_s_l1Cur_banner_2, r_s_l1Cur_banner_3]
    refine callQ_Mz [1000000] [] (MCall.arg hM3 (by simp)) (by simp) (by simp) (by simp) (by simp) (by simp) (by first | rfl | simp) (by simp) ?_
    simp
    refine callQ_Mz [1000000] [] (MCall.arg hM4 (by simp)) (by simp) (by simp) (by simp) (by simp) (by simp) (by first | rfl | simp) (by simp) ?_
    simp [r_s_l1Cur_banner_4, l_s_l1Cur_banner_14]
    refine loopK (fun y : Nat => ⟨[(0, cR), (3, I R), (4, I W), (5, .sl 17 0 y), (6, I ta), (7, I tb), (8, I y)], [(1000000, curB code (rowsT g W (k4, s4) y).2.1 (rowsT g W (k4, s4) y).2.2), (17, ⟨1, (rowsT g W (k4, s4) y).1.map ownI⟩)], [1000000]⟩) (fun y => R - y) (fun y => y ≤ R) 0 (Wk.list rfl (by simp) (by simp [rowsT])) (by simp) ?_
    intro y hy K hN hR hE
    have hcy := hcur y (by omega)
    simp [r_s_l1Cur_banner_5, r_s_l1Cur_banner_13]
    refine ⟨fun hlt => ?_, fun hge => ?_⟩
    · simp [r_s_l1Cur_banner_6, r_s_l1Cur_banner_7, l_s_l1Cur_banner_11]
      obtain ⟨c, hc⟩ : ∃ c, (rowsT g W (k4, s4) y).2 = c := ⟨_, rfl⟩
      have hsucc : rowsT g W (k4, s4) (y + 1) = ((rowsT g W (k4, s4) y).1 ++ [(rowT g c W).1], (rowT g c W).2) := by rw [← hc]; rfl
      have hyl := hlenT y
      rw [hc] at hcy ⊢
      have hcb : c.1 ≤ k4 + 200 := by
        have h3 : 2 * W * y ≤ 200 := by
          have := Nat.mul_le_mul (show 2 * W ≤ 24 by omega) (show y ≤ 8 by omega)
          omega
        dsimp only at hcy; omega
      have hrc := fun x hx => rowT_cur hst c (by omega) x hx
      have hxl := rowT_len g c
      obtain ⟨B, hB⟩ : ∃ B, (rowsT g W (k4, s4) y).1 = B := ⟨_, rfl⟩
      rw [hB] at hsucc hyl ⊢
      refine loopK (fun x : Nat => ⟨[(0, cR), (3, I R), (4, I W), (5, .sl 17 0 y), (6, I ta), (7, I tb), (8, I y), (9, .sl 27 0 x), (10, I x)], [(1000000, curB code (rowT g c x).2.1 (rowT g c x).2.2), (27, ⟨1, (rowT g c x).1.map I⟩), (17, ⟨1, B.map ownI⟩)], [1000000]⟩) (fun x => W - x) (fun x => x ≤ W) 0 (Wk.list rfl (by simp) (by simp [rowT])) (by simp) ?_
      intro x hx K' hN' hR' hE'
      have hrx := hrc x (by omega)
      have hxx := hxl x
      simp [r_s_l1Cur_banner_8, r_s_l1Cur_banner_10]
      refine ⟨fun hltx => ?_, fun hgex => ?_⟩
      · obtain ⟨hgx, hgM⟩ := hg (rowT g c x).2.1 (rowT g c x).2.2 (by omega)
        simp [r_s_l1Cur_banner_9]
        refine callQ_Mz [1000000] [38] (MCall.arg hgM (by simp)) (by simp) (by simp) (by simp) (by simp) (by simp) (by first | rfl | simp) (by simp) ?_
        simp
        refine ⟨by unfold lenBound; omega, ?_⟩
        rw [wrap64 (by omega) (by omega)]
        refine hN' (x + 1) _ (by omega) (by omega) (Wk.trans (Wk.ren 41 27 (by decide) (by simp)) (Wk.list rfl ?_ ?_))
        · simp
        · simp [rowT, List.take_of_length_le, hxx]
      · obtain rfl : x = W := by omega
        refine hE' _ _ ?_
        simp only [blockK_exit]
        simp [r_s_l1Cur_banner_12, hyl]
        refine ⟨by unfold lenBound; omega, ?_⟩
        rw [wrap64 (by omega) (by omega)]
        have hlen : (B.map ownI).length = y := by simp [hyl]
        rw [List.take_of_length_le (by omega)]
        refine hN (y + 1) _ (by omega) (by omega) (Wk.trans (Wk.fold1 45 y 27 (n := x) (by rfl) (by rfl) (app_get hlen) (by simp [hxx]) (by simp) (by simp)) (Wk.trans (Wk.ren 45 17 (by decide) ?_) (Wk.list rfl ?_ ?_)))
        · simp [app_set hlen, rmbs]
        · simp [AS.ren, ren, reN]
        · simp [AS.ren, ren, reN, renB, rmbs, app_set hlen, hsucc]
    · obtain rfl : y = R := by omega
      refine hE _ _ ?_
      simp only [blockK_exit]
      rw [hk5, hs5, hrows]
      simp [r_s_l1Cur_banner_15]
      refine callQ_Mz [1000000] [] (MCall.arg hM6 (by simp)) (by simp) (by simp) (by simp) (by simp) (by simp) (by first | rfl | simp) (by simp) ?_
      simp
      rcases hfin with ⟨rfl, rfl, rfl, rfl⟩ | ⟨rfl, rfl, rfl, rfl⟩ | ⟨rfl, rfl, rfl, rfl⟩ | ⟨⟨n0, n1, n2, n3⟩, rfl, rfl, rfl⟩ | ⟨rfl, hfill⟩
      · simp [r_s_l1Cur_banner_16]
        obtain ⟨A, rfl, hAl⟩ := last_cut hrlast hrl
        refine wk_of _ (Wk.unfold1 17 (y - 1) 500 (sz := 1) (es := rl.map I) (by rfl) (by rw [List.map_append]; exact app_get (by simpa using hAl)) (by simp)) ?_
        simp only [List.map_append, List.map_cons, List.map_nil, app_set (show (A.map ownI).length = y - 1 by simpa using hAl)]
        have hAo : (A.map ownI).length = y - 1 := by simpa using hAl
        simp [r_s_l1Cur_banner_17]
        rw [wrap64 (n := (y : Int) - 1) (by omega) (by omega), show ((y : Int) - 1).toNat = y - 1 by omega, app_get hAo]
        refine ⟨by omega, ?_⟩
        simp
        refine ⟨by unfold lenBound; omega, ?_⟩
        rw [app_get hAo]
        refine ⟨by omega, ?_⟩
        simp [app_set hAo]
        refine wk_of _ (Wk.trans (Wk.fold1 17 (y - 1) 59 (n := rl.length + 1) (by rfl) (by rfl) (app_get hAo) (by simp) (by simp) (by simp)) (Wk.roes 17 3 (by rfl) (by simp [app_set hAo]))) ?_
        simp only [app_set hAo]
        simp [r_s_l1Cur_banner_26]
        refine ⟨by omega, ?_⟩
        rw [app_set (show (A.map roI).length = y - 1 by simpa using hAl)]
        simp [roI]
      · simp [r_s_l1Cur_banner_16, r_s_l1Cur_banner_18]
        obtain ⟨B, rfl⟩ := first_cut hr0
        refine wk_of _ (Wk.unfold1 17 0 500 (sz := 1) (es := r0.map I) (by rfl) (by simp) (by simp)) ?_
        simp [r_s_l1Cur_banner_19, p_s_l1Cur_banner_19]
        refine ⟨by omega, ?_⟩
        refine callD_M [1000000] [69] (l := [_]) (MCall.arg hM7 (by simp)) (by simp) (by simp) (by simp) (by simp) (by simp) (by first | rfl | simp) (by simp) (by simp) ?_
        simp
        obtain ⟨c, hc⟩ : ∃ c, r0[W - 1]? = some c := ⟨_, List.getElem?_eq_getElem (by omega)⟩
        rw [wrap64 (n := (W : Int) - 1) (by omega) (by omega), show ((W : Int) - 1).toNat = W - 1 by omega, hc]
        refine ⟨by omega, ?_⟩
        simp
        refine ⟨oEnd_of (by simp [p_s_l1Cur_banner_19]) (by simp), ?_⟩
        refine wk_of _ (Wk.trans (Wk.fold1 17 0 500 (n := r0.length) (by rfl) (by rfl) (by simp) (by simp) (by simp) (by simp)) (Wk.roes 17 3 (by rfl) (by simp [← List.map_set]))) ?_
        rw [← List.map_set]
        simp [r_s_l1Cur_banner_26]
        simpa using hrl.symm
      · simp [r_s_l1Cur_banner_16, r_s_l1Cur_banner_18, r_s_l1Cur_banner_20, r_s_l1Cur_banner_21]
        refine wk_of _ (Wk.trans (Wk.roes 17 3 (by rfl) (by simp)) (Wk.cut 17 0 (by rfl) (by simp [roes_rows]))) ?_
        simp [r_s_l1Cur_banner_26]
      · simp [r_s_l1Cur_banner_16, r_s_l1Cur_banner_18, r_s_l1Cur_banner_20, n0, n1, n2, n3]
        refine wk_of _ (Wk.refl _) ?_
        simp [r_s_l1Cur_banner_22, n3]
        refine wk_of _ (Wk.roes 17 3 (by rfl) (by simp)) ?_
        rw [roes_rows]
        simp [r_s_l1Cur_banner_26]
        exact hrl.symm
      · simp [r_s_l1Cur_banner_16, r_s_l1Cur_banner_18, r_s_l1Cur_banner_20]
        refine wk_of _ (Wk.roes 17 3 (by rfl) (by simp)) ?_
        rw [roes_rows]
        simp [r_s_l1Cur_banner_22]
        refine loopK (fun a : List (List Int) × Nat × Int × Nat => ⟨[(0, cR), (5, .sl 17 0 a.1.length)], [(1000000, curB code a.2.1 a.2.2.1), (17, ⟨1, a.1.map roI⟩)], [1000000]⟩) (fun a => 62 - a.1.length)
          (fun a => a.1.length ≤ 61 ∧ 62 ≤ a.1.length + a.2.2.2 ∧ a.1[0]? = some r0 ∧ a.2.1 ≤ k6 + 2 * a.1.length ∧ (b, k', s') = fillT gp r0 a.2.2.2 a.1 a.2.1 a.2.2.1) (rows, k6, s6, 62) (Wk.list rfl (by simp [hrl]) (by simp)) ⟨by dsimp only; omega, by dsimp only; omega, hr0, by dsimp only; omega, hfill⟩ ?_
        clear hN hR hE
        rintro ⟨L, kk, ss, f⟩ ⟨ha1, ha2, ha3, ha4, ha5⟩ K hN hR hE
        dsimp only at ha1 ha2 ha3 ha4 ha5
        obtain ⟨f, rfl⟩ : ∃ f', f = f' + 1 := ⟨f - 1, by omega⟩
        obtain ⟨hz1, hz2⟩ := hgp kk ss (by omega)
        have hz3 := hgb kk ss (by omega)
        simp [r_s_l1Cur_banner_23, l_s_l1Cur_banner_25]
        refine callQ_Mz [1000000] [] (MCall.arg hz2 (by simp)) (by simp) (by simp) (by simp) (by simp) (by simp) (by first | rfl | simp) (by simp) ?_
        simp
        rw [wrap64 (by omega) (by omega)]
        refine ⟨fun hlt => ?_, fun hge => ?_⟩
        · obtain ⟨B, rfl⟩ := first_cut ha3
          simp [r_s_l1Cur_banner_24]
          refine ⟨by simp at ha1; unfold lenBound; omega, ?_⟩
          have hfT : fillT gp r0 (f + 1) (r0 :: B) kk ss = fillT gp r0 f (r0 :: (B ++ [r0])) (gp kk ss).2.1 (gp kk ss).2.2 := by
            rw [fillT, if_pos hlt]; rfl
          rw [hfT] at ha5
          simp at ha1 ha2 ha4 hlt
          refine hN (r0 :: (B ++ [r0]), (gp kk ss).2.1, (gp kk ss).2.2, f) _ ?_ ⟨?_, ?_, rfl, ?_, ha5⟩ (Wk.trans (Wk.ren 89 17 (by decide) (by simp)) (Wk.list rfl ?_ ?_))
          · simp; omega
          · simp; omega
          · simp; omega
          · simp; omega
          · simp
          · simp [roI]
        · have hfT : fillT gp r0 (f + 1) L kk ss = (L, (gp kk ss).2.1, (gp kk ss).2.2) := by
            rw [fillT, if_neg (by omega)]
          rw [hfT] at ha5
          simp only [Prod.mk.injEq] at ha5
          obtain ⟨rfl, rfl, rfl⟩ := ha5
          refine hE _ _ ?_
          simp only [blockK_exit]
          simp
          refine wk_of _ (Wk.refl _) ?_
          simp [r_s_l1Cur_banner_26]
  by_cases c0 : v6 = 0
  · refine ⟨_, _, _, ⟨?_, ?_, ?_⟩, main _ _ _ (.inl ⟨c0, rfl, rfl, rfl⟩)⟩
    all_goals (try simp) <;> omega
  by_cases c1 : v6 = 1
  · refine ⟨_, _, _, ⟨?_, ?_, ?_⟩, main _ _ _ (.inr (.inl ⟨c1, rfl, rfl, rfl⟩))⟩
    all_goals (try simp) <;> omega
  by_cases c2 : v6 = 2
  · refine ⟨_, _, _, ⟨?_, ?_, ?_⟩, main _ _ _ (.inr (.inr (.inl ⟨c2, rfl, rfl, rfl⟩)))⟩
    all_goals (try simp) <;> omega
  by_cases c3 : v6 = 3
  · have hT := fillT_ok hgb r0 62 rows k6 s6 (by omega) (by omega)
    obtain ⟨T, hTe⟩ : ∃ T, fillT gp r0 62 rows k6 s6 = T := ⟨_, rfl⟩
    rw [hTe] at hT
    obtain ⟨b, k', s'⟩ := T
    dsimp only at hT
    exact ⟨b, k', s', ⟨by omega, by omega, by omega⟩, main _ _ _ (.inr (.inr (.inr (.inr ⟨c3, hTe.symm⟩))))⟩
  · refine ⟨_, _, _, ⟨?_, ?_, ?_⟩, main _ _ _ (.inr (.inr (.inr (.inl ⟨⟨c0, c1, c2, c3⟩, rfl, rfl, rfl⟩))))⟩
    all_goals (try simp) <;> omega
end Go.Proofs.Ytgefdcllialhkaa
