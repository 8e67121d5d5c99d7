/- The sizes of a banner of a proportion, in the program and in the reference. -/
import Derived.Test.YtgefdcllialhkaaCodeSizes
import Derived.Test.YtgefdcllialhkaaProp
import Derived.Test.YtgefdcllialhkaaInts2
set_option linter.unusedVariables false
set_option linter.unusedSimpArgs false
namespace Go.Proofs.Ytgefdcllialhkaa
open Go.Abs

/-- The first n sizes. -/
def sizesTo (h w : Int) (n : Nat) : List (List Int) := (List.range n).map fun j : Nat => [((j : Int) + 1) * h, ((j : Int) + 1) * w]
theorem sizesTo_succ (h w : Int) (n : Nat) : sizesTo h w (n + 1) = sizesTo h w n ++ [[((n : Int) + 1) * h, ((n : Int) + 1) * w]] := by
  simp only [sizesTo, List.range_succ, List.map_append, List.map_cons, List.map_nil]
theorem sizesTo_len (h w : Int) (n : Nat) : (sizesTo h w n).length = n := by simp [sizesTo]
theorem sizesTo_total (h w : Int) (n : Nat) : total (sizesTo h w n) = 2 * n := by
  induction n with
  | zero => rfl
  | succ n ih => rw [sizesTo_succ, total_append, ih]; simp; omega
/-- How many sizes there are. -/
def sizesN (h w : Int) : Nat := (min (60 / h) (60 / w)).toNat
def sizes (h w : Int) : List (List Int) := if prop h w then sizesTo h w (sizesN h w) else []

theorem prop_bounds {h w : Int} (hp : prop h w = true) : 1 ≤ h ∧ h ≤ 10 ∧ 1 ≤ w ∧ w ≤ 10 := by
  simp only [prop, Bool.and_eq_true, inR_iff] at hp; omega
theorem sizes_bounds {h w : Int} : (sizes h w).length ≤ 60 ∧ total (sizes h w) ≤ 120 := by
  unfold sizes
  split
  · rename_i hp
    have hb := prop_bounds hp
    have h1 : sizesN h w ≤ 60 := by
      unfold sizesN
      have : 60 / h ≤ 60 := Int.ediv_le_self _ (by omega)
      omega
    rw [sizesTo_len, sizesTo_total]; omega
  · simp
theorem sizesN_eq {h w : Int} {n : Nat} (hh : 1 ≤ h) (hw : 1 ≤ w) (h1 : (n : Int) * h ≤ 60) (h2 : (n : Int) * w ≤ 60) (h3 : ((n : Int) + 1) * h ≤ 60 → 60 < ((n : Int) + 1) * w) : n = sizesN h w := by
  have a1 := (Int.le_ediv_iff_mul_le (by omega : 0 < h)).2 h1
  have a2 := (Int.le_ediv_iff_mul_le (by omega : 0 < w)).2 h2
  have a3 : ¬ ((n : Int) + 1 ≤ 60 / h ∧ (n : Int) + 1 ≤ 60 / w) := fun ⟨b1, b2⟩ => by
    have := h3 ((Int.le_ediv_iff_mul_le (by omega : 0 < h)).1 b1)
    have := (Int.le_ediv_iff_mul_le (by omega : 0 < w)).1 b2
    omega
  unfold sizesN
  omega
theorem mul_bound {n : Nat} {h : Int} (hn : n ≤ 60) (h1 : 1 ≤ h) (h2 : h ≤ 10) : 0 ≤ ((n : Int) + 1) * h ∧ ((n : Int) + 1) * h ≤ 610 ∧ (n : Int) + 1 ≤ ((n : Int) + 1) * h := by
  refine ⟨Int.mul_nonneg (by omega) (by omega), ?_, ?_⟩
  · have := Int.mul_le_mul (a := (n : Int) + 1) (b := h) (c := 61) (d := 10) (by omega) h2 (by omega) (by omega)
    omega
  · have := Int.mul_le_mul (a := (n : Int) + 1) (b := 1) (c := (n : Int) + 1) (d := h) (by omega) h1 (by omega) (by omega)
    omega

theorem s_BannerSizes (h w : Int) : PCall Try.prog n_s_BannerSizes [.agg [I h, I w]] (.tup [.own 1 ((sizes h w).map ownI), B (prop h w)]) := by
  refine PCall.of fn_s_BannerSizes (by simp) ?_
  simp [c_s_BannerSizes, r_s_BannerSizes_0, r_s_BannerSizes_1, r_s_BannerSizes_2]
  refine callQ_v (PCall.arg (s_l24Proportion h w) (by simp)) ?_
  cases hp : prop h w with
  | false => simp [r_s_BannerSizes_3, sizes, hp]
  | true =>
    have hb := prop_bounds hp
    simp [r_s_BannerSizes_4, r_s_BannerSizes_9, sizes, hp]
    refine loopK (fun n : Nat => ⟨[(1, .ref 1 0 0), (4, .sl 6 0 n), (5, I (n + 1))], [(1, ⟨2, [.agg [I h, I w]]⟩), (6, ⟨1, (sizesTo h w n).map ownI⟩)], []⟩) (fun n => 60 - n) (fun n => n ≤ 60 ∧ (n : Int) * h ≤ 60 ∧ (n : Int) * w ≤ 60) 0 (Wk.list rfl (by simp) (by simp [sizesTo])) (by simp) ?_
    rintro n ⟨hn, hh, hw⟩ K hN hR hE
    have m1 := mul_bound hn hb.1 hb.2.1
    have m2 := mul_bound hn hb.2.2.1 hb.2.2.2
    simp [l_s_BannerSizes_8, r_s_BannerSizes_5]
    rw [wrap64 (by omega) (by omega), wrap64 (by omega) (by omega)]
    refine ⟨fun c1 => ⟨fun c2 => ?_, fun c2 => ?_⟩, fun c1 => ?_⟩
    · simp [r_s_BannerSizes_6, sizesTo_len]
      rw [wrap64 (by omega) (by omega), wrap64 (by omega) (by omega)]
      refine ⟨by unfold lenBound; omega, ?_⟩
      simp [r_s_BannerSizes_7]
      rw [wrap64 (by omega) (by omega)]
      have hn' : n + 1 ≤ 60 := by omega
      have hlen : ((sizesTo h w n).map ownI).length = n := by simp [sizesTo_len]
      rw [List.take_of_length_le (by omega)]
      refine hN (n + 1) _ (by omega) ⟨hn', by simpa using c1, by simpa using c2⟩ (Wk.trans (Wk.fold1 36 n 34 (n := 2) (by rfl) (by rfl) (app_get hlen) (by simp) (by simp) (by simp)) (Wk.trans (Wk.ren 36 6 (by decide) ?_) (Wk.list rfl ?_ ?_)))
      · simp [app_set hlen, rmbs]
      · simp [AS.ren, ren, reN]
      · simp [AS.ren, ren, reN, renB, rmbs, app_set hlen, sizesTo_succ]
    · refine hE _ _ ?_
      have e := sizesN_eq hb.1 hb.2.2.1 hh hw fun _ => c2
      simp [← e, sizesTo_len]
    · refine hE _ _ ?_
      have e := sizesN_eq hb.1 hb.2.2.1 hh hw fun c => absurd c (by omega)
      simp [← e, sizesTo_len]

theorem i_BannerSizes (h w : Int) : PCall Try.prog n_i_BannerSizes [.agg [I h, I w]] (.tup [.own 1 ((sizes h w).map ownI), B (prop h w)]) := by
  cases hp : prop h w with
  | false =>
    refine PCall.res (res := .tup [.v (.slice none 0 0), B false]) ?_ ?_
    · refine PCall.of fn_i_BannerSizes (by simp) ?_
      simp [c_i_BannerSizes, r_i_BannerSizes_0, r_i_BannerSizes_1]
      refine callQ_v (PCall.arg (i_isProportion h w) (by simp)) ?_
      simp [r_i_BannerSizes_2, hp]
    · simp only [sizes, hp, Bool.false_eq_true, if_false, List.map_nil]
      exact Le.tup ⟨Le.nil 1, Le.refl _, trivial⟩
  | true =>
    refine PCall.of fn_i_BannerSizes (by simp) ?_
    simp [c_i_BannerSizes, r_i_BannerSizes_0, r_i_BannerSizes_1]
    refine callQ_v (PCall.arg (i_isProportion h w) (by simp)) ?_

    have hb := prop_bounds hp
    simp [r_i_BannerSizes_3, r_i_BannerSizes_4, r_i_BannerSizes_9, sizes, hp]
    refine loopK (fun n : Nat => ⟨[(1, .ref 1 0 0), (4, .sl 6 0 n), (5, I (n + 1))], [(1, ⟨2, [.agg [I h, I w]]⟩), (6, ⟨1, (sizesTo h w n).map ownI⟩)], []⟩) (fun n => 60 - n) (fun n => n ≤ 60 ∧ (n : Int) * h ≤ 60 ∧ (n : Int) * w ≤ 60) 0 (Wk.trans (Wk.ren 9 6 (by decide) (by simp)) (Wk.list rfl (by simp [AS.ren, ren, reN]) (by simp [AS.ren, ren, reN, renB, rens, sizesTo]))) (by simp) ?_
    rintro n ⟨hn, hh, hw⟩ K hN hR hE
    have m1 := mul_bound hn hb.1 hb.2.1
    have m2 := mul_bound hn hb.2.2.1 hb.2.2.2
    simp [l_i_BannerSizes_8, r_i_BannerSizes_5]
    rw [wrap64 (by omega) (by omega), wrap64 (by omega) (by omega)]
    refine ⟨fun c1 => ⟨fun c2 => ?_, fun c2 => ?_⟩, fun c1 => ?_⟩
    · simp [r_i_BannerSizes_6, sizesTo_len]
      rw [wrap64 (by omega) (by omega), wrap64 (by omega) (by omega)]
      refine ⟨by unfold lenBound; omega, ?_⟩
      simp [r_i_BannerSizes_7]
      rw [wrap64 (by omega) (by omega)]
      have hn' : n + 1 ≤ 60 := by omega
      have hlen : ((sizesTo h w n).map ownI).length = n := by simp [sizesTo_len]
      rw [List.take_of_length_le (by omega)]
      refine hN (n + 1) _ (by omega) ⟨hn', by simpa using c1, by simpa using c2⟩ (Wk.trans (Wk.fold1 35 n 33 (n := 2) (by rfl) (by rfl) (app_get hlen) (by simp) (by simp) (by simp)) (Wk.trans (Wk.ren 35 6 (by decide) ?_) (Wk.list rfl ?_ ?_)))
      · simp [app_set hlen, rmbs]
      · simp [AS.ren, ren, reN]
      · simp [AS.ren, ren, reN, renB, rmbs, app_set hlen, sizesTo_succ]
    · refine hE _ _ ?_
      have e := sizesN_eq hb.1 hb.2.2.1 hh hw fun _ => c2
      simp [← e, sizesTo_len]
    · refine hE _ _ ?_
      have e := sizesN_eq hb.1 hb.2.2.1 hh hw fun c => absurd c (by omega)
      simp [← e, sizesTo_len]
end Go.Proofs.Ytgefdcllialhkaa
