/- Does a banner keep a proportion? in the program and in the reference. -/
import Derived.Test.YtgefdcllialhkaaCodeKeeps
import Derived.Test.YtgefdcllialhkaaBanner
import Derived.Test.YtgefdcllialhkaaProp
set_option linter.unusedVariables false
set_option linter.unusedSimpArgs false
namespace Go.Proofs.Ytgefdcllialhkaa
open Go.Abs

/-- Rows times wide is columns times high. -/
def keeps (b : List (List Int)) (h w : Int) : Bool := banner b && prop h w && decide ((b.length : Int) * w = (wide b : Int) * h)

theorem banner_dims4 {b : List (List Int)} (h : banner b = true) : 1 ≤ b.length ∧ b.length ≤ 60 ∧ 1 ≤ wide b ∧ wide b ≤ 60 := by
  simp only [banner, Bool.and_eq_true, inR_iff] at h
  omega
theorem keep_bound {n : Nat} {h : Int} (hn : n ≤ 60) (h1 : 1 ≤ h) (h2 : h ≤ 10) : 0 ≤ (n : Int) * h ∧ (n : Int) * h ≤ 600 := by
  refine ⟨Int.mul_nonneg (by omega) (by omega), ?_⟩
  have := Int.mul_le_mul (a := (n : Int)) (b := h) (c := 60) (d := 10) (by omega) h2 (by omega) (by omega)
  omega
theorem prop_dims {h w : Int} (hp : prop h w = true) : 1 ≤ h ∧ h ≤ 10 ∧ 1 ≤ w ∧ w ≤ 10 := by
  simp only [prop, Bool.and_eq_true, inR_iff] at hp; omega

theorem s_KeepsProportion (b : List (List Int)) (h w : Int) : PCall Try.prog n_s_KeepsProportion [.ro 1 (b.map roI), .agg [I h, I w]] (.tup [B (keeps b h w), B (banner b && prop h w)]) := by
  refine PCall.of fn_s_KeepsProportion (by simp) ?_
  simp [c_s_KeepsProportion, r_s_KeepsProportion_0, r_s_KeepsProportion_1]
  refine callQ_v (s_l24Good ..) ?_
  cases hb : banner b with
  | false => simp [r_s_KeepsProportion_2, keeps, hb]
  | true =>
    simp
    refine callQ_v (PCall.arg (s_l24Proportion h w) (by simp)) ?_
    cases hp : prop h w with
    | false => simp [r_s_KeepsProportion_2, keeps, hb, hp]
    | true =>
      have d := banner_dims4 hb
      have hw := wide_get (b := b) (by omega)
      have e := prop_dims hp
      have m1 := keep_bound (n := b.length) (by omega) e.2.2.1 e.2.2.2
      have m2 := keep_bound (n := wide b) (by omega) e.1 e.2.1
      have h0 : 0 < b.length := by omega
      simp [r_s_KeepsProportion_3, p_s_KeepsProportion_3, keeps, hb, hp, h0, ← hw]
      rw [wrap64 (by omega) (by omega), wrap64 (by omega) (by omega)]
      refine ⟨oEnd_of (by first | kernel_rfl | simp) (by first | kernel_rfl | simp), ?_⟩
      first | rfl | (rw [Bool.eq_iff_iff]; simp)

theorem i_KeepsProportion (b : List (List Int)) (h w : Int) : PCall Try.prog n_i_KeepsProportion [.ro 1 (b.map roI), .agg [I h, I w]] (.tup [B (keeps b h w), B (banner b && prop h w)]) := by
  refine PCall.of fn_i_KeepsProportion (by simp) ?_
  simp [c_i_KeepsProportion, r_i_KeepsProportion_0, r_i_KeepsProportion_1]
  refine callQ_v (i_IsValidBanner ..) ?_
  cases hb : banner b with
  | false => simp [r_i_KeepsProportion_2, keeps, hb]
  | true =>
    simp
    refine callQ_v (PCall.arg (i_isProportion h w) (by simp)) ?_
    cases hp : prop h w with
    | false => simp [r_i_KeepsProportion_2, keeps, hb, hp]
    | true =>
      have d := banner_dims4 hb
      have hw := wide_get (b := b) (by omega)
      have e := prop_dims hp
      have m1 := keep_bound (n := b.length) (by omega) e.2.2.1 e.2.2.2
      have m2 := keep_bound (n := wide b) (by omega) e.1 e.2.1
      have h0 : 0 < b.length := by omega
      simp [r_i_KeepsProportion_3, p_i_KeepsProportion_3, keeps, hb, hp, h0, ← hw]
      rw [wrap64 (by omega) (by omega), wrap64 (by omega) (by omega)]
      refine ⟨oEnd_of (by first | kernel_rfl | simp) (by first | kernel_rfl | simp), ?_⟩
      first | rfl | (rw [Bool.eq_iff_iff]; simp)
end Go.Proofs.Ytgefdcllialhkaa
