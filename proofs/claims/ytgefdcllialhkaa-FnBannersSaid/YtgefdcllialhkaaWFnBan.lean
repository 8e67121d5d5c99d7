/- The law FnBanners. -/
import Derived.Test.YtgefdcllialhkaaCodeWFnBan
import Derived.Test.YtgefdcllialhkaaDrawPic4
import Derived.Test.YtgefdcllialhkaaBanLaw
import Derived.Test.YtgefdcllialhkaaRint
set_option linter.unusedVariables false
set_option linter.unusedSimpArgs false
namespace Go.Proofs.Ytgefdcllialhkaa
open Go.Abs

set_option maxHeartbeats 4000000 in
theorem w_FnBanners (code : List UInt8) : PCall Try.prog n_w_FnBanners [.ro 1 (code.map Y)] (B true) := by
  obtain ⟨p, r, c, hD1⟩ := s_DrawBannerOf code
  obtain ⟨x, hD2⟩ := s_DrawMirrorBanner code
  obtain ⟨y, h3, w3, hD3⟩ := s_DrawKeepsProportion code
  refine PCall.of fn_w_FnBanners (by simp) ?_
  simp [c_w_FnBanners, r_w_FnBanners_0, r_w_FnBanners_1]
  refine callQ_v (PCall.arg (w_rBig code) (by simp)) ?_
  simp
  refine ⟨fun _ => by simp [r_w_FnBanners_2], fun _ => ?_⟩
  simp [r_w_FnBanners_3]
  refine callQ_of (PCall.arg hD1 (by simp)) rfl (.inr (by simp)) (by simp) ?_
  simp [r_w_FnBanners_4]
  refine callQ_of (PCall.arg (i_BannerOf p r c) (by simp)) rfl (.inl (by simp)) (by simp) ?_
  simp [r_w_FnBanners_5]
  refine callQ_of (PCall.arg (s_BannerOf p r c) (by simp)) rfl (.inl (by simp)) (by simp) ?_
  simp [r_w_FnBanners_6]
  refine callQ_v (PCall.arg (w_rTable (bannerOf p r c) (bannerOf p r c)) (by simp)) ?_
  simp
  simp [r_w_FnBanners_8]
  refine ⟨fun hbo => ?a, fun hbo => ?b⟩
  case' a =>
    have hb := bannerOf_ok hbo
    have hd := banner_dims4 hb.1
    simp [r_w_FnBanners_9]
    refine callQ_of (PCall.arg (i_ReduceProportion r c) (by simp)) rfl (.inl (by simp)) (by simp) ?_
    simp [r_w_FnBanners_10]
    refine callQ_of (PCall.arg (i_KeepsProportion (bannerOf p r c) (red r c).1 (red r c).2) (by simp)) rfl (.inl (by simp)) (by simp) ?_
    have hk := fun hr => bannerOf_keeps hbo (r := r) (c := c) hr
    obtain ⟨q, hq⟩ : ∃ q, bannerOf p r c = q := ⟨_, rfl⟩
    rw [hq] at hb hd hk ⊢
    have h0 : q[0]? = some q[0] := List.getElem?_eq_getElem (by omega)
    have h0l : (q[0].length : Int) = c := by rw [← wide_get (by omega)]; exact hb.2.2
    simp
    refine wk_of _ (Wk.roes 45 3 (by rfl) (by simp)) ?_
    rw [roes_rows]
    simp [r_w_FnBanners_11, hb.2.1]
    rw [h0]
    refine ⟨by omega, ?_⟩
    simp [h0l]
    refine callQ_v (PCall.arg (i_IsValidBanner q) (by simp)) ?_
    rcases hr : redOk r c with _ | _
    case' false =>
      simp [hb.1]
      refine wk_of ⟨[(0, .ro 1 (code.map Y))], [], []⟩ (Wk.list rfl (by simp) (by simp)) ?_
    case' true =>
      have hk := hk hr
      simp [hb.1, hk.1, hk.2]
      refine wk_of ⟨[(0, .ro 1 (code.map Y))], [], []⟩ (Wk.list rfl (by simp) (by simp)) ?_
  case' b =>
    refine wk_of ⟨[(0, .ro 1 (code.map Y))], [], []⟩ (Wk.list rfl (by simp) (by simp)) ?_
  all_goals
    simp [r_w_FnBanners_13]
    refine callQ_of (PCall.arg hD2 (by simp)) rfl (.inr (by simp)) (by simp) ?_
    simp [r_w_FnBanners_14]
    refine callQ_of (PCall.arg (i_MirrorBanner x) (by simp)) rfl (.inl (by simp)) (by simp) ?_
    simp [r_w_FnBanners_15]
    refine callQ_of (PCall.arg (s_MirrorBanner x) (by simp)) rfl (.inl (by simp)) (by simp) ?_
    simp [r_w_FnBanners_16]
    refine callQ_v (PCall.arg (w_rTable (mirror x) (mirror x)) (by simp)) ?_
    simp [r_w_FnBanners_18]
    refine ⟨fun hmo => ?_, fun hmo => ?_⟩
    · obtain ⟨m1, m2, m3⟩ := mirror_twice hmo
      obtain ⟨a1, a2, a3⟩ := areas_sum hmo
      have hxd := banner_dims4 hmo
      simp [r_w_FnBanners_19]
      refine callQ_of (PCall.arg (i_MirrorBanner (mirror x)) (by simp)) rfl (.inl (by simp)) (by simp) ?_
      simp [r_w_FnBanners_20, m1, m2]
      refine callQ_of (PCall.arg (i_TinctureAreas x) (by simp)) rfl (.inl (by simp)) (by simp) ?_
      simp [r_w_FnBanners_21, hmo]
      refine callQ_of (PCall.arg (i_TinctureAreas (mirror x)) (by simp)) rfl (.inl (by simp)) (by simp) ?_
      simp [r_w_FnBanners_22, r_w_FnBanners_23, l_w_FnBanners_27, m1, m3]
      have hsb : (areas x).sum ≤ 3600 := by
        have h1 : (x.length : Int) * (wide x : Int) = ((x.length * wide x : Nat) : Int) := (Int.natCast_mul ..).symm
        have h2 := Nat.mul_le_mul (show x.length ≤ 60 by omega) (show wide x ≤ 60 by omega)
        omega
      have hmulb : (x.length : Int) * (wide x : Int) ≤ 3600 := by omega
      have hmul0 : 0 ≤ (x.length : Int) * (wide x : Int) := Int.mul_nonneg (by omega) (by omega)
      have hx0 : x[0]? = some x[0] := List.getElem?_eq_getElem (by omega)
      have hx0l : x[0].length = wide x := (wide_get (by omega)).symm
      obtain ⟨A, hA⟩ : ∃ A, areas x = A := ⟨_, rfl⟩
      rw [hA] at a1 a2 a3 hsb ⊢
      refine loopK (fun i : Nat => ⟨[(0, .ro 1 (code.map Y)), (14, .sl 106 0 x.length), (19, .sl 129 0 x.length), (20, B true), (21, .sl 134 0 A.length), (22, B true), (23, .sl 139 0 A.length), (24, B true), (25, I (A.take i).sum), (26, I i)], [(139, ⟨1, ints A⟩), (134, ⟨1, ints A⟩), (129, ⟨1, x.map ownI⟩), (106, ⟨1, x.map roI⟩)], []⟩) (fun i => A.length - i) (fun i => i ≤ A.length) 0 (Wk.list rfl (by simp) (by simp)) (by simp) ?_
      intro i hi K hN hR hE
      have hs1 := sum_take a3 i
      have hs2 := sum_take a3 (i + 1)
      simp [r_w_FnBanners_24, r_w_FnBanners_26]
      refine ⟨fun hlt => ?_, fun hge => ?_⟩
      · have hsum : (A.take (i + 1)).sum = (A.take i).sum + A[i] := by
          rw [take_succ' hlt, List.sum_append]
          simp only [List.sum_cons, List.sum_nil, Int.add_zero]
        simp [r_w_FnBanners_25, hlt]
        rw [wrap64 (n := (A.take i).sum + A[i]) (by omega) (by omega), wrap64 (by omega) (by omega)]
        refine hN (i + 1) _ (by omega) (by omega) (Wk.list rfl ?_ ?_)
        · simp [hsum]
        · simp
      · obtain rfl : i = A.length := by omega
        refine hE _ _ ?_
        simp only [blockK_exit]
        rw [List.take_length]
        simp [r_w_FnBanners_28]
        refine callQ_v (PCall.arg (w_rTable x x) (by simp)) ?_
        simp
        refine callQ_v (PCall.arg (w_rInts A A) (by simp)) ?_
        simp [hx0, hx0l]
        rw [wrap64 (by omega) (by omega), a1]
        simp
        refine ⟨by omega, ?_⟩
        refine wk_of ⟨[(0, .ro 1 (code.map Y))], [], []⟩ (Wk.list rfl (by simp) (by simp)) ?_
        simp [r_w_FnBanners_30]
        refine callQ_of (PCall.arg hD3 (by simp)) rfl (.inr (by simp)) (by simp) ?_
        simp [r_w_FnBanners_31]
        refine callQ_of (PCall.arg (i_KeepsProportion y h3 w3) (by simp)) rfl (.inl (by simp)) (by simp) ?_
        simp [r_w_FnBanners_32]
        refine callQ_of (PCall.arg (s_KeepsProportion y h3 w3) (by simp)) rfl (.inl (by simp)) (by simp) ?_
        simp [r_w_FnBanners_33]
    · refine wk_of ⟨[(0, .ro 1 (code.map Y))], [], []⟩ (Wk.list rfl (by simp) (by simp)) ?_
      simp [r_w_FnBanners_30]
      refine callQ_of (PCall.arg hD3 (by simp)) rfl (.inr (by simp)) (by simp) ?_
      simp [r_w_FnBanners_31]
      refine callQ_of (PCall.arg (i_KeepsProportion y h3 w3) (by simp)) rfl (.inl (by simp)) (by simp) ?_
      simp [r_w_FnBanners_32]
      refine callQ_of (PCall.arg (s_KeepsProportion y h3 w3) (by simp)) rfl (.inl (by simp)) (by simp) ?_
      simp [r_w_FnBanners_33]
end Go.Proofs.Ytgefdcllialhkaa
