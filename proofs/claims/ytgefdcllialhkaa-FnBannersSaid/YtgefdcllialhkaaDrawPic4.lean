/- Pictures that may be invalid, and the draws of the law of banners. -/
import Derived.Test.YtgefdcllialhkaaCodeDrawPic4
import Derived.Test.YtgefdcllialhkaaDrawPic3
set_option linter.unusedVariables false
set_option linter.unusedSimpArgs false
namespace Go.Proofs.Ytgefdcllialhkaa
open Go.Abs

theorem app_I (l : List Int) (v : Int) : l.map I ++ [I v] = (l ++ [v]).map I := by simp
theorem roes_set (P : Pic) (i : Nat) (r : List Int) : ((P.map ownI).set i (.own 1 (r.map I))).map (borrow (fun _ => none) 3) = (P.set i r).map roI := by
  rw [show V.own 1 (r.map I) = ownI r from rfl, ← List.map_set]; exact roes_rows _
set_option maxHeartbeats 2000000 in
theorem s_l1Cur_anyPicture (code : List UInt8) (k : Nat) (s : Int) (hk : k ≤ 1000000) : ∃ (b : Pic) (k' : Nat) (s' : Int), (k ≤ k' ∧ k' ≤ k + 200) ∧
    MCall Try.prog n_s_l1Cur_anyPicture [curB code k s] [cR] (.ro 1 (b.map roI)) [some (curB code k' s')] := by
  obtain ⟨P, k1, s1, ⟨hP, hk1⟩, hM1⟩ := s_l1Cur_picture code k s hk
  obtain ⟨x, k2, s2, ⟨hx, hk2⟩, hM2⟩ := s_l1Cur_pick code k1 s1 30 (by omega) (by omega)
  obtain ⟨v3, k3, s3, ⟨hv3, hk3⟩, hM3⟩ := s_l1Cur_pick code k2 s2 20 (by omega) (by omega)
  obtain ⟨z4, k4, s4, ⟨hz4, hk4⟩, hM4⟩ := s_l1Cur_among code k3 s3 [0, 1] (by omega) (by simp) (by simp)
  obtain ⟨v5, k5, s5, ⟨hv5, hk5⟩, hM5⟩ := s_l1Cur_pick code k2 s2 12 (by omega) (by omega)
  obtain ⟨z6, k6, s6, ⟨hz6, hk6⟩, hM6⟩ := s_l1Cur_among code k5 s5 [0, 10, -1] (by omega) (by simp) (by simp)
  obtain ⟨c, rfl⟩ : ∃ c : Nat, v3 = c := ⟨v3.toNat, by omega⟩
  obtain ⟨y, rfl⟩ : ∃ c : Nat, v5 = c := ⟨v5.toNat, by omega⟩
  obtain ⟨r23, hr23, hl23⟩ := hP.row (y := 23) (by omega)
  obtain ⟨ry, hry, hly⟩ := hP.row (y := y) (by omega)
  obtain ⟨r2, hr2, hl2⟩ := hP.row (y := 2) (by omega)
  have hlen := hP.1
  have hset : ∀ (i : Nat) (_ : i < 24) (v : V), ((P.map ownI).set i v)[i]? = some v := fun i hi v => List.getElem?_set_self (by simp; omega)
  have main : ∀ (b : Pic) (k' : Nat) (s' : Int), ((x = 0 ∧ b = P.set 23 (r23.set c z4) ∧ k' = k4 ∧ s' = s4) ∨ (x = 1 ∧ b = P.set y (ry.set 3 z6) ∧ k' = k6 ∧ s' = s6) ∨ (x = 2 ∧ b = P.drop 1 ∧ k' = k2 ∧ s' = s2) ∨ (x = 3 ∧ b = P.set 2 (r2 ++ [1]) ∧ k' = k2 ∧ s' = s2) ∨
      ((x ≠ 0 ∧ x ≠ 1 ∧ x ≠ 2 ∧ x ≠ 3) ∧ b = P ∧ k' = k2 ∧ s' = s2)) → MCall Try.prog n_s_l1Cur_anyPicture [curB code k s] [cR] (.ro 1 (b.map roI)) [some (curB code k' s')] := by
    intro b k' s' hfin
    refine MCall.of fn_s_l1Cur_anyPicture (by simp) rfl (by simp) ?_
    simp [c_s_l1Cur_anyPicture, r_s_l1Cur_anyPicture_0, r_s_l1Cur_anyPicture_1]
    refine callQ_Mz [1000000] [] (MCall.arg hM1 (by simp)) (by simp) (by simp) (by simp) (by simp) (by simp) (by first | rfl | simp) (by simp) ?_
    simp [r_s_l1Cur_anyPicture_2]
    refine callQ_Mz [1000000] [] (MCall.arg hM2 (by simp)) (by simp) (by simp) (by simp) (by simp) (by simp) (by first | rfl | simp) (by simp) ?_
    rcases hfin with ⟨rfl, rfl, rfl, rfl⟩ | ⟨rfl, rfl, rfl, rfl⟩ | ⟨rfl, rfl, rfl, rfl⟩ | ⟨rfl, rfl, rfl, rfl⟩ | ⟨⟨n0, n1, n2, n3⟩, hbP, rfl, rfl⟩
    · simp [r_s_l1Cur_anyPicture_3]
      refine wk_of _ (Wk.unfold1 5 23 500 (sz := 1) (es := r23.map I) (by rfl) (by simp [hr23]) (by simp)) ?_
      simp [r_s_l1Cur_anyPicture_4, p_s_l1Cur_anyPicture_4]
      rw [hset 23 (by omega)]
      refine ⟨by omega, ?_⟩
      simp
      refine callD_M [1000000] [] (l := [_]) (MCall.arg hM3 (by simp)) (by simp) (by simp) (by simp) (by simp) (by simp) (by first | rfl | simp) (by simp) (by simp) ?_
      simp
      refine callD_M [1000000] [16] (l := [_]) (MCall.arg hM4 (by simp)) (by simp) (by simp) (by simp) (by simp) (by simp) (by first | rfl | simp) (by simp) (by simp) ?_
      simp
      obtain ⟨c0, hc0⟩ : ∃ c0, r23[c]? = some c0 := ⟨_, List.getElem?_eq_getElem (by omega)⟩
      rw [hc0]
      refine ⟨by omega, ?_⟩
      simp
      refine ⟨oEnd_of (by simp [p_s_l1Cur_anyPicture_4]) (by simp), ?_⟩
      refine wk_of _ (Wk.trans (Wk.fold1 5 23 500 (n := r23.length) (by rfl) (by rfl) (hset 23 (by omega) _) (by simp) (by simp) (by simp)) (Wk.trans (Wk.roes 5 3 (by rfl) (by simp)) (Wk.frz 5 ⟨1, (P.set 23 (r23.set c z4)).map roI⟩ (by simp; rw [map_I_set']) (by simp) (by simp)))) ?_
      simp [r_s_l1Cur_anyPicture_11]
      exact List.take_of_length_le (by simp)
    · simp [r_s_l1Cur_anyPicture_3, r_s_l1Cur_anyPicture_5]
      refine wk_of _ (Wk.unfold1 5 y 500 (sz := 1) (es := ry.map I) (by rfl) (by simp [hry]) (by simp)) ?_
      simp [r_s_l1Cur_anyPicture_6, p_s_l1Cur_anyPicture_6]
      refine callD_M [1000000] [] (l := [_]) (MCall.arg hM5 (by simp)) (by simp) (by simp) (by simp) (by simp) (by simp) (by first | rfl | simp) (by simp) (by simp) ?_
      simp
      rw [hset y (by omega)]
      refine ⟨by omega, ?_⟩
      simp
      refine callD_M [1000000] [27] (l := [_]) (MCall.arg hM6 (by simp)) (by simp) (by simp) (by simp) (by simp) (by simp) (by first | rfl | simp) (by simp) (by simp) ?_
      simp
      obtain ⟨c0, hc0⟩ : ∃ c0, ry[3]? = some c0 := ⟨_, List.getElem?_eq_getElem (by omega)⟩
      rw [hc0]
      refine ⟨by omega, ?_⟩
      simp
      refine ⟨oEnd_of (by simp [p_s_l1Cur_anyPicture_6]) (by simp), ?_⟩
      refine wk_of _ (Wk.trans (Wk.fold1 5 y 500 (n := ry.length) (by rfl) (by rfl) (hset y (by omega) _) (by simp) (by simp) (by simp)) (Wk.trans (Wk.roes 5 3 (by rfl) (by simp)) (Wk.frz 5 ⟨1, (P.set y (ry.set 3 z6)).map roI⟩ (by simp; rw [map_I_set']) (by simp) (by simp)))) ?_
      simp [r_s_l1Cur_anyPicture_11]
      exact List.take_of_length_le (by simp)
    · simp [r_s_l1Cur_anyPicture_3, r_s_l1Cur_anyPicture_5, r_s_l1Cur_anyPicture_7]
      refine wk_of _ (Wk.trans (Wk.roes 5 3 (by rfl) (by simp)) (Wk.frz 5 ⟨1, P.map roI⟩ (by simp [roes_rows]) (by simp) (by simp))) ?_
      simp [r_s_l1Cur_anyPicture_8]
      refine ⟨by omega, ?_⟩
      refine wk_of _ (Wk.refl _) ?_
      simp [r_s_l1Cur_anyPicture_11]
      rw [List.take_of_length_le (by simp)]
    · simp [r_s_l1Cur_anyPicture_3, r_s_l1Cur_anyPicture_5, r_s_l1Cur_anyPicture_7, r_s_l1Cur_anyPicture_9]
      refine wk_of _ (Wk.unfold1 5 2 500 (sz := 1) (es := r2.map I) (by rfl) (by simp [hr2]) (by simp)) ?_
      simp [r_s_l1Cur_anyPicture_10]
      rw [hset 2 (by omega)]
      refine ⟨by omega, ?_⟩
      simp
      refine ⟨by unfold lenBound; omega, ?_⟩
      rw [hset 2 (by omega)]
      refine ⟨by omega, ?_⟩
      simp
      refine wk_of _ (Wk.trans (Wk.fold1 5 2 41 (n := r2.length + 1) (by rfl) (by rfl) (hset 2 (by omega) _) (by simp) (by simp) (by simp)) (Wk.trans (Wk.roes 5 3 (by rfl) (by simp)) (Wk.frz 5 ⟨1, (P.set 2 (r2 ++ [1])).map roI⟩ (by simp; rw [app_I]) (by simp) (by simp)))) ?_
      simp [r_s_l1Cur_anyPicture_11]
      exact List.take_of_length_le (by simp)
    · simp [r_s_l1Cur_anyPicture_3, r_s_l1Cur_anyPicture_5, r_s_l1Cur_anyPicture_7, r_s_l1Cur_anyPicture_9, n0, n1, n2, n3]
      refine wk_of _ (Wk.trans (Wk.roes 5 3 (by rfl) (by simp)) (Wk.frz 5 ⟨1, P.map roI⟩ (by simp [roes_rows]) (by simp) (by simp))) ?_
      simp [r_s_l1Cur_anyPicture_11, hbP]
  by_cases c0 : x = 0
  · exact ⟨_, _, _, by omega, main _ _ _ (.inl ⟨c0, rfl, rfl, rfl⟩)⟩
  by_cases c1 : x = 1
  · exact ⟨_, _, _, by omega, main _ _ _ (.inr (.inl ⟨c1, rfl, rfl, rfl⟩))⟩
  by_cases c2 : x = 2
  · exact ⟨_, _, _, by omega, main _ _ _ (.inr (.inr (.inl ⟨c2, rfl, rfl, rfl⟩)))⟩
  by_cases c3 : x = 3
  · exact ⟨_, _, _, by omega, main _ _ _ (.inr (.inr (.inr (.inl ⟨c3, rfl, rfl, rfl⟩))))⟩
  · exact ⟨_, _, _, by omega, main _ _ _ (.inr (.inr (.inr (.inr ⟨⟨c0, c1, c2, c3⟩, rfl, rfl, rfl⟩))))⟩
theorem s_DrawIsValidBanner (code : List UInt8) : ∃ b : List (List Int), PCall Try.prog n_s_DrawIsValidBanner [.ro 1 (code.map Y)] (.own 1 (b.map roI)) := by
  obtain ⟨b, k1, s1, ⟨hb, hk1⟩, hM1⟩ := s_l1Cur_banner code 0 0 (by omega)
  refine ⟨b, ?_⟩
  refine PCall.of fn_s_DrawIsValidBanner (by simp) ?_
  simp [c_s_DrawIsValidBanner, r_s_DrawIsValidBanner_0, r_s_DrawIsValidBanner_1, r_s_DrawIsValidBanner_2]
  refine callQ_Mz [6] [] (MCall.arg hM1 (by simp)) (by simp) (by simp) (by simp) (by simp) (by simp) (by first | rfl | simp) (by simp) ?_
  simp
theorem s_DrawMirrorBanner (code : List UInt8) : ∃ b : List (List Int), PCall Try.prog n_s_DrawMirrorBanner [.ro 1 (code.map Y)] (.own 1 (b.map roI)) := by
  obtain ⟨b, hP⟩ := s_DrawIsValidBanner code
  refine ⟨b, ?_⟩
  refine PCall.of fn_s_DrawMirrorBanner (by simp) ?_
  simp [c_s_DrawMirrorBanner, r_s_DrawMirrorBanner_0, r_s_DrawMirrorBanner_1]
  refine callQ_of (PCall.arg hP (by simp)) rfl (.inr (by simp)) (by simp) ?_
  simp
theorem s_DrawKeepsProportion (code : List UInt8) : ∃ (b : List (List Int)) (h w : Int), PCall Try.prog n_s_DrawKeepsProportion [.ro 1 (code.map Y)] (.tup [.own 1 (b.map roI), .agg [I h, I w]]) := by
  obtain ⟨b, k1, s1, ⟨hb, hbl, hk1⟩, hM1⟩ := s_l1Cur_banner code 0 0 (by omega)
  obtain ⟨v, k2, s2, ⟨hv, hk2⟩, hM2⟩ := s_l1Cur_pick code k1 s1 12 (by omega) (by omega)
  obtain ⟨o, k3, s3, hk3, hM3⟩ := s_l1Cur_one code k2 s2 2 (by omega) (by omega)
  obtain ⟨h4, w4, k4, s4, hk4, hM4⟩ := s_l1Cur_proportion code k2 s2 (by omega)
  obtain ⟨h5, w5, k5, s5, hk5, hM5⟩ := s_l1Cur_proportion code k3 s3 (by omega)
  have hR := s_ReduceProportion (max b.length 1) (1 + v)
  generalize red (max b.length 1) (1 + v) = q at hR
  have walk : ∀ h w : Int, ((redOk (max b.length 1) (1 + v) = false ∧ h = h4 ∧ w = w4) ∨ (redOk (max b.length 1) (1 + v) = true ∧ o = false ∧ h = h5 ∧ w = w5) ∨ (redOk (max b.length 1) (1 + v) = true ∧ o = true ∧ h = q.1 ∧ w = q.2)) →
      PCall Try.prog n_s_DrawKeepsProportion [.ro 1 (code.map Y)] (.tup [.own 1 (b.map roI), .agg [I h, I w]]) := by
    intro h w hc
    refine PCall.of fn_s_DrawKeepsProportion (by simp) ?_
    simp [c_s_DrawKeepsProportion, r_s_DrawKeepsProportion_0, r_s_DrawKeepsProportion_1, r_s_DrawKeepsProportion_2]
    refine callQ_Mz [10] [] (MCall.arg hM1 (by simp)) (by simp) (by simp) (by simp) (by simp) (by simp) (by first | rfl | simp) (by simp) ?_
    simp [r_s_DrawKeepsProportion_3]
    refine callQ_v (s_l1Most b.length 1) ?_
    simp
    refine callQ_Mz [10] [] (MCall.arg hM2 (by simp)) (by simp) (by simp) (by simp) (by simp) (by simp) (by first | rfl | simp) (by simp) ?_
    simp
    rw [wrap64 (n := 1 + v) (by omega) (by omega)]
    refine callQ_of hR rfl (.inl (by simp)) (by simp) ?_
    rcases hc with ⟨e, rfl, rfl⟩ | ⟨e, rfl, rfl, rfl⟩ | ⟨e, rfl, rfl, rfl⟩
    · rw [e]
      simp [r_s_DrawKeepsProportion_4, r_s_DrawKeepsProportion_6]
      refine callQ_Mz [10] [] (MCall.arg hM4 (by simp)) (by simp) (by simp) (by simp) (by simp) (by simp) (by first | rfl | simp) (by simp) ?_
      simp
    · rw [e]
      simp [r_s_DrawKeepsProportion_4]
      refine callQ_Mz [10] [] (MCall.arg hM3 (by simp)) (by simp) (by simp) (by simp) (by simp) (by simp) (by first | rfl | simp) (by simp) ?_
      simp [r_s_DrawKeepsProportion_6]
      refine callQ_Mz [10] [] (MCall.arg hM5 (by simp)) (by simp) (by simp) (by simp) (by simp) (by simp) (by first | rfl | simp) (by simp) ?_
      simp
    · rw [e]
      simp [r_s_DrawKeepsProportion_4]
      refine callQ_Mz [10] [] (MCall.arg hM3 (by simp)) (by simp) (by simp) (by simp) (by simp) (by simp) (by first | rfl | simp) (by simp) ?_
      simp [r_s_DrawKeepsProportion_5, p_s_DrawKeepsProportion_5]
      exact oEnd_of (by first | kernel_rfl | simp) (by first | kernel_rfl | simp)
  cases hr : redOk (max b.length 1) (1 + v) with
  | false => exact ⟨b, _, _, walk _ _ (.inl ⟨hr, rfl, rfl⟩)⟩
  | true =>
    cases ho : o with
    | false => exact ⟨b, _, _, walk _ _ (.inr (.inl ⟨hr, ho, rfl, rfl⟩))⟩
    | true => exact ⟨b, _, _, walk _ _ (.inr (.inr ⟨hr, ho, rfl, rfl⟩))⟩
theorem s_DrawBannerOf (code : List UInt8) : ∃ (p : Pic) (r c : Int), PCall Try.prog n_s_DrawBannerOf [.ro 1 (code.map Y)] (.tup [.ro 1 (p.map roI), I r, I c]) := by
  obtain ⟨p, k1, s1, hk1, hM1⟩ := s_l1Cur_anyPicture code 0 0 (by omega)
  obtain ⟨v, k2, s2, ⟨hv, hk2⟩, hM2⟩ := s_l1Cur_pick code k1 s1 24 (by omega) (by omega)
  have hn := quo11 (v := v) (by omega) (by omega)
  rcases hn with hn | hn | hn
  · obtain ⟨h, k3, s3, ⟨hh, hk3⟩, hM3⟩ := s_l1Cur_among code k2 s2 [1, 2, 5, 12, 13, 60] (by omega) (by simp) (by simp)
    obtain ⟨w, k4, s4, ⟨hw, hk4⟩, hM4⟩ := s_l1Cur_among code k3 s3 [1, 3, 7, 20, 21, 60] (by omega) (by simp) (by simp)
    refine ⟨p, h, w, ?_⟩
    refine PCall.of fn_s_DrawBannerOf (by simp) ?_
    simp [c_s_DrawBannerOf, r_s_DrawBannerOf_0, r_s_DrawBannerOf_1, r_s_DrawBannerOf_2]
    refine callQ_Mz [9] [] (MCall.arg hM1 (by simp)) (by simp) (by simp) (by simp) (by simp) (by simp) (by first | rfl | simp) (by simp) ?_
    simp [r_s_DrawBannerOf_3]
    refine callQ_Mz [9] [] (MCall.arg hM2 (by simp)) (by simp) (by simp) (by simp) (by simp) (by simp) (by first | rfl | simp) (by simp) ?_
    simp
    rw [hn]
    simp [show IntKind.i64.wrap 6 = 6 from rfl, show IntKind.i64.wrap (6 + 0) = 6 from rfl]
    refine callQ_Mz [9] [14] (MCall.arg hM3 (by simp)) (by simp) (by simp) (by simp) (by simp) (by simp) (by first | rfl | simp) (by simp) ?_
    simp
    refine callQ_Mz [9] [22] (MCall.arg hM4 (by simp)) (by simp) (by simp) (by simp) (by simp) (by simp) (by first | rfl | simp) (by simp) ?_
    simp
  · obtain ⟨h, k3, s3, ⟨hh, hk3⟩, hM3⟩ := s_l1Cur_among code k2 s2 [1, 2, 5, 12, 13, 60, 0] (by omega) (by simp) (by simp)
    obtain ⟨w, k4, s4, ⟨hw, hk4⟩, hM4⟩ := s_l1Cur_among code k3 s3 [1, 3, 7, 20, 21, 60] (by omega) (by simp) (by simp)
    refine ⟨p, h, w, ?_⟩
    refine PCall.of fn_s_DrawBannerOf (by simp) ?_
    simp [c_s_DrawBannerOf, r_s_DrawBannerOf_0, r_s_DrawBannerOf_1, r_s_DrawBannerOf_2]
    refine callQ_Mz [9] [] (MCall.arg hM1 (by simp)) (by simp) (by simp) (by simp) (by simp) (by simp) (by first | rfl | simp) (by simp) ?_
    simp [r_s_DrawBannerOf_3]
    refine callQ_Mz [9] [] (MCall.arg hM2 (by simp)) (by simp) (by simp) (by simp) (by simp) (by simp) (by first | rfl | simp) (by simp) ?_
    simp
    rw [hn]
    simp [show IntKind.i64.wrap 7 = 7 from rfl, show IntKind.i64.wrap (6 + 1) = 7 from rfl]
    refine callQ_Mz [9] [14] (MCall.arg hM3 (by simp)) (by simp) (by simp) (by simp) (by simp) (by simp) (by first | rfl | simp) (by simp) ?_
    simp
    refine callQ_Mz [9] [22] (MCall.arg hM4 (by simp)) (by simp) (by simp) (by simp) (by simp) (by simp) (by first | rfl | simp) (by simp) ?_
    simp
  · obtain ⟨h, k3, s3, ⟨hh, hk3⟩, hM3⟩ := s_l1Cur_among code k2 s2 [1, 2, 5, 12, 13, 60, 0, 61] (by omega) (by simp) (by simp)
    obtain ⟨w, k4, s4, ⟨hw, hk4⟩, hM4⟩ := s_l1Cur_among code k3 s3 [1, 3, 7, 20, 21, 60] (by omega) (by simp) (by simp)
    refine ⟨p, h, w, ?_⟩
    refine PCall.of fn_s_DrawBannerOf (by simp) ?_
    simp [c_s_DrawBannerOf, r_s_DrawBannerOf_0, r_s_DrawBannerOf_1, r_s_DrawBannerOf_2]
    refine callQ_Mz [9] [] (MCall.arg hM1 (by simp)) (by simp) (by simp) (by simp) (by simp) (by simp) (by first | rfl | simp) (by simp) ?_
    simp [r_s_DrawBannerOf_3]
    refine callQ_Mz [9] [] (MCall.arg hM2 (by simp)) (by simp) (by simp) (by simp) (by simp) (by simp) (by first | rfl | simp) (by simp) ?_
    simp
    rw [hn]
    simp [show IntKind.i64.wrap 8 = 8 from rfl, show IntKind.i64.wrap (6 + 2) = 8 from rfl]
    refine callQ_Mz [9] [14] (MCall.arg hM3 (by simp)) (by simp) (by simp) (by simp) (by simp) (by simp) (by first | rfl | simp) (by simp) ?_
    simp
    refine callQ_Mz [9] [22] (MCall.arg hM4 (by simp)) (by simp) (by simp) (by simp) (by simp) (by simp) (by first | rfl | simp) (by simp) ?_
    simp
end Go.Proofs.Ytgefdcllialhkaa
