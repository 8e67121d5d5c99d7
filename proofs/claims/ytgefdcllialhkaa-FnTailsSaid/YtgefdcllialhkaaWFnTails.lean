/- The law FnTails. -/
import Derived.Test.YtgefdcllialhkaaCodeWFnTails
import Derived.Test.YtgefdcllialhkaaDrawTails
import Derived.Test.YtgefdcllialhkaaTail
import Derived.Test.YtgefdcllialhkaaSizes
import Derived.Test.YtgefdcllialhkaaRint
set_option linter.unusedVariables false
set_option linter.unusedSimpArgs false
namespace Go.Proofs.Ytgefdcllialhkaa
open Go.Abs

theorem tbl_cell {b : List (List Int)} (hb : banner b = true) : tbl b.length (wide b) (fun x y => cell b y x) = b := by
  have hd := banner_dims hb
  apply List.ext_getElem (by simp [tbl])
  intro y h1 h2
  simp only [tbl, List.getElem_map, List.getElem_range]
  have hr := hd.2.2.2.2 y h2
  apply List.ext_getElem (by simp [rowOf_len, hr])
  intro x h3 h4
  rw [rowOf_get, cell_get h2 h4]
theorem tail_zero {b : List (List Int)} (hb : banner b = true) : tailOk b 0 = true ∧ tail b 0 = b := by
  have hd := banner_dims hb
  have ho : tailOk b 0 = true := by simp [tailOk, hb, inR]
  refine ⟨ho, ?_⟩
  rw [tail, if_pos ho]
  refine Eq.trans (tbl_congr fun x y hx hy => ?_) (tbl_cell hb)
  have : tailCut b 0 x y = false := by
    have h := Int.mul_nonneg (a := (wide b : Int) - x - 1) (b := b.length) (by omega) (by omega)
    simp [tailCut]; omega
  simp [tailF, this]
theorem border_zero {b : List (List Int)} (hb : banner b = true) : borderOk b 3 0 = true ∧ border b 3 0 = b := by
  have ho : borderOk b 3 0 = true := by simp [borderOk, hb, inR]
  refine ⟨ho, ?_⟩
  rw [border, if_pos ho]
  refine Eq.trans (tbl_congr fun x y hx hy => ?_) (tbl_cell hb)
  have : ¬ edge b x y < 0 := by unfold edge; omega
  simp [borderF, this]
theorem sizes_row {h w : Int} {i : Nat} (hi : i < (sizes h w).length) : (sizes h w)[i] = [((i : Int) + 1) * h, ((i : Int) + 1) * w] ∧ redOk (((i : Int) + 1) * h) (((i : Int) + 1) * w) = true ∧ red (((i : Int) + 1) * h) (((i : Int) + 1) * w) = (h, w) := by
  by_cases hp : prop h w = true
  · have e : sizes h w = sizesTo h w (sizesN h w) := by rw [sizes, if_pos hp]
    have hb := prop_bounds hp
    have hl : i < sizesN h w := by rw [e, sizesTo_len] at hi; exact hi
    have e2 : (sizes h w)[i] = [((i : Int) + 1) * h, ((i : Int) + 1) * w] := by simp [e, sizesTo]
    have hg : Int.gcd h w = 1 := by
      simp only [prop, Bool.and_eq_true, decide_eq_true_iff] at hp; exact hp.2
    have hn : i < 60 := by
      have := (sizes_bounds (h := h) (w := w)).1
      omega
    have m1 := mul_bound (n := i) (h := h) (by omega) hb.1 hb.2.1
    have m2 := mul_bound (n := i) (h := w) (by omega) hb.2.2.1 hb.2.2.2
    have hg2 : (Int.gcd (((i : Int) + 1) * h) (((i : Int) + 1) * w) : Int) = (i : Int) + 1 := by
      rw [Int.gcd_mul_left, hg]; omega
    have hr : reduced (((i : Int) + 1) * h) (((i : Int) + 1) * w) = (h, w) := by
      simp only [reduced]
      rw [hg2, Int.mul_tdiv_cancel_left _ (by omega), Int.mul_tdiv_cancel_left _ (by omega)]
    have ho : redOk (((i : Int) + 1) * h) (((i : Int) + 1) * w) = true := by
      simp [redOk, hr, hp, inR]; omega
    exact ⟨e2, ho, by rw [red, if_pos ho, hr]⟩
  · rw [sizes, if_neg hp] at hi; simp at hi
theorem red_cross (h w : Int) (ho : redOk h w = true) : (red h w).1 * w = (red h w).2 * h := by
  have : red h w = reduced h w := by rw [red, if_pos ho]
  rw [this]
  simp only [reduced]
  obtain ⟨a, ha⟩ : (Int.gcd h w : Int) ∣ h := Int.gcd_dvd_left ..
  obtain ⟨c, hc⟩ : (Int.gcd h w : Int) ∣ w := Int.gcd_dvd_right ..
  by_cases hz : (Int.gcd h w : Int) = 0
  · have h1 : h = 0 := by rw [hz] at ha; omega
    have h2 : w = 0 := by rw [hz] at hc; omega
    simp [h1, h2]
  · generalize (Int.gcd h w : Int) = g at *
    subst ha hc
    rw [Int.mul_tdiv_cancel_left _ hz, Int.mul_tdiv_cancel_left _ hz]
    simp only [Int.mul_comm, Int.mul_left_comm]
set_option maxHeartbeats 4000000 in
theorem w_FnTails (code : List UInt8) : PCall Try.prog n_w_FnTails [.ro 1 (code.map Y)] (B true) := by
  obtain ⟨b, t, hD1⟩ := s_DrawTailBanner code
  obtain ⟨b2, t2, w2, hD2⟩ := s_DrawBorderBanner code
  obtain ⟨h3, w3, hD3⟩ := s_DrawBannerSizes code
  obtain ⟨h4, w4, hD4⟩ := s_DrawReduceProportion code
  refine PCall.of fn_w_FnTails (by simp) ?_
  simp [c_w_FnTails, r_w_FnTails_0, r_w_FnTails_1]
  refine callQ_v (PCall.arg (w_rBig code) (by simp)) ?_
  simp
  refine ⟨fun _ => by simp [r_w_FnTails_2], fun _ => ?_⟩
  simp [r_w_FnTails_3]
  refine callQ_of (PCall.arg hD1 (by simp)) rfl (.inr (by simp)) (by simp) ?_
  simp [r_w_FnTails_4]
  refine callQ_of (PCall.arg (i_TailBanner b t) (by simp)) rfl (.inl (by simp)) (by simp) ?_
  simp [r_w_FnTails_5]
  refine callQ_of (PCall.arg (s_TailBanner b t) (by simp)) rfl (.inl (by simp)) (by simp) ?_
  simp [r_w_FnTails_6]
  refine callQ_v (PCall.arg (w_rTable (tail b t) (tail b t)) (by simp)) ?_
  simp
  simp [r_w_FnTails_8]
  refine ⟨fun hto => ?a, fun hto => ?b⟩
  case' a =>
    have hb : banner b = true := by simp [tailOk] at hto; exact hto.1
    simp [r_w_FnTails_9]
    refine callQ_of (PCall.arg (i_TailBanner b 0) (by simp)) rfl (.inl (by simp)) (by simp) ?_
    simp [r_w_FnTails_10]
    refine callQ_of (PCall.arg (i_BorderBanner b 3 0) (by simp)) rfl (.inl (by simp)) (by simp) ?_
    simp [r_w_FnTails_11, (tail_zero hb).1, (tail_zero hb).2, (border_zero hb).1, (border_zero hb).2]
    refine callQ_v (PCall.arg (w_rTable b b) (by simp)) ?_
    simp
    refine callQ_v (PCall.arg (w_rTable b b) (by simp)) ?_
    simp
    refine wk_of ⟨[(0, .ro 1 (code.map Y))], [], []⟩ (Wk.list rfl (by simp) (by simp)) ?_
  case' b =>
    refine wk_of ⟨[(0, .ro 1 (code.map Y))], [], []⟩ (Wk.list rfl (by simp) (by simp)) ?_
  all_goals
    simp [r_w_FnTails_13]
    refine callQ_of (PCall.arg hD2 (by simp)) rfl (.inr (by simp)) (by simp) ?_
    simp [r_w_FnTails_14]
    refine callQ_of (PCall.arg (i_BorderBanner b2 t2 w2) (by simp)) rfl (.inl (by simp)) (by simp) ?_
    simp [r_w_FnTails_15]
    refine callQ_of (PCall.arg (s_BorderBanner b2 t2 w2) (by simp)) rfl (.inl (by simp)) (by simp) ?_
    simp [r_w_FnTails_16]
    refine callQ_v (PCall.arg (w_rTable (border b2 t2 w2) (border b2 t2 w2)) (by simp)) ?_
    simp [r_w_FnTails_18]
    refine callQ_of (PCall.arg hD3 (by simp)) rfl (.inr (by simp)) (by simp) ?_
    simp [r_w_FnTails_19]
    refine callQ_of (PCall.arg (i_BannerSizes h3 w3) (by simp)) rfl (.inl (by simp)) (by simp) ?_
    simp [r_w_FnTails_20]
    refine callQ_of (PCall.arg (s_BannerSizes h3 w3) (by simp)) rfl (.inl (by simp)) (by simp) ?_
    simp [r_w_FnTails_21]
    refine callQ_v (PCall.arg (w_rTable (sizes h3 w3) (sizes h3 w3)) (by simp)) ?_
    simp [r_w_FnTails_23]
    refine loopK (fun i : Nat => ⟨[(0, .ro 1 (code.map Y)), (20, .ref 20 0 0), (21, .sl 124 0 (sizes h3 w3).length), (25, I i)], [(20, ⟨2, [.agg [I h3, I w3]]⟩), (124, ⟨1, (sizes h3 w3).map roI⟩)], []⟩) (fun i => (sizes h3 w3).length - i) (fun i => i ≤ (sizes h3 w3).length) 0
      (Wk.trans (Wk.roes 124 3 (by rfl) (by simp)) (Wk.list rfl (by simp) (by simp [roes_rows]))) (by simp) ?_
    intro i hi K hN hR hE
    have hsl := (sizes_bounds (h := h3) (w := w3)).1
    simp [r_w_FnTails_24, l_w_FnTails_29]
    refine ⟨fun hlt => ?_, fun hge => ?_⟩
    · have hrow := sizes_row hlt
      simp [r_w_FnTails_25, p_w_FnTails_25, hlt, hrow.1]
      refine callD_of (PCall.arg (i_ReduceProportion (((i : Int) + 1) * h3) (((i : Int) + 1) * w3)) (by simp)) rfl (.inl (by simp)) ?_ ?_ ?_
      · simp
      · simp
      rw [hrow.2.1, hrow.2.2]
      simp
      refine ⟨oEnd_of (by simp [p_w_FnTails_25]) (by simp), ?_⟩
      simp [r_w_FnTails_26, r_w_FnTails_28]
      rw [wrap64 (by omega) (by omega)]
      refine hN (i + 1) _ (by omega) (by omega) (Wk.list rfl ?_ ?_)
      · simp
      · simp
    · refine hE _ _ ?_
      simp only [blockK_exit]
      simp [r_w_FnTails_30]
      refine callQ_of (PCall.arg hD4 (by simp)) rfl (.inr (by simp)) (by simp) ?_
      simp [r_w_FnTails_31]
      refine callQ_of (PCall.arg (i_ReduceProportion h4 w4) (by simp)) rfl (.inl (by simp)) (by simp) ?_
      simp [r_w_FnTails_32]
      refine callQ_of (PCall.arg (s_ReduceProportion h4 w4) (by simp)) rfl (.inl (by simp)) (by simp) ?_
      simp [r_w_FnTails_33]
      intro ho
      rw [red_cross h4 w4 ho]
end Go.Proofs.Ytgefdcllialhkaa
