/- Proportions: the greatest common divisor, the test of a proportion, its lowest terms, in the program and in the reference. -/
import Derived.Test.YtgefdcllialhkaaCodeProp
import Derived.Test.YtgefdcllialhkaaBase
import Derived.Test.YtgefdcllialhkaaAbs4
set_option linter.unusedVariables false
set_option linter.unusedSimpArgs false
namespace Go.Proofs.Ytgefdcllialhkaa
open Go.Abs

structure Proportion where
  high : Int
  wide : Int
  deriving DecidableEq
/-- How it lies in memory. -/
abbrev eProportion (p : Proportion) : V := .agg [I p.high, I p.wide]

theorem gcd_step {a b : Int} (ha : 0 ≤ a) (hb : 0 ≤ b) : Int.gcd b (a.tmod b) = Int.gcd a b := by
  obtain ⟨m, rfl⟩ := Int.eq_ofNat_of_zero_le ha
  obtain ⟨n, rfl⟩ := Int.eq_ofNat_of_zero_le hb
  rw [← Int.ofNat_tmod]
  show Nat.gcd n (m % n) = Nat.gcd m n
  rw [Nat.gcd_comm n, ← Nat.gcd_rec, Nat.gcd_comm]

theorem s_l24Common (a b : Int) (ha : 0 ≤ a) (hb : 0 ≤ b) : PCall Try.prog n_s_l24Common [I a, I b] (I (Int.gcd a b)) := by
  refine PCall.of fn_s_l24Common (by simp) ?_
  simp [c_s_l24Common, r_s_l24Common_0, r_s_l24Common_6]
  refine loopQ_ix (fun p : Int × Int => ⟨[(0, I p.1), (1, I p.2)], [], []⟩) (fun p => p.2.toNat) (fun p => 0 ≤ p.1 ∧ 0 ≤ p.2 ∧ Int.gcd p.1 p.2 = Int.gcd a b) (a, b) (Wk.list rfl (by simp) (by simp)) ⟨ha, hb, rfl⟩ ?_
  rintro ⟨x, y⟩ ⟨hx, hy, hg⟩
  dsimp only at hx hy hg
  simp [l_s_l24Common_5, r_s_l24Common_1]
  refine ⟨fun hne => ?_, fun he => ?_⟩
  · simp [r_s_l24Common_2, r_s_l24Common_3, r_s_l24Common_4, hne]
    have h0 : 0 ≤ x.tmod y := Int.tmod_nonneg _ hx
    have h1 : x.tmod y < y := Int.tmod_lt_of_pos _ (by omega)
    exact roundA_of (y, x.tmod y) (by dsimp only; omega) ⟨hy, h0, (gcd_step hx hy).trans hg⟩ (Wk.list rfl (by simp) (by simp))
  · subst he
    rw [← hg]
    simp
    omega

theorem i_absOf (a : Int) (ha : -1000000000000 ≤ a) (ha' : a ≤ 1000000000000) : PCall Try.prog n_i_absOf [I a] (I a.natAbs) := by
  refine PCall.of fn_i_absOf (by simp) ?_
  simp [c_i_absOf, r_i_absOf_0, r_i_absOf_1]
  rw [wrap64 (by omega) (by omega)]
  omega

theorem i_gcdOf (a b : Int) (ha : 0 ≤ a) (hb : 0 ≤ b) (ha' : a ≤ 1000000000) (hb' : b ≤ 1000000000) : PCall Try.prog n_i_gcdOf [I a, I b] (I (Int.gcd a b)) := by
  have e1 : (a.natAbs : Int) = a := by omega
  have e2 : (b.natAbs : Int) = b := by omega
  refine PCall.of fn_i_gcdOf (by simp) ?_
  simp [c_i_gcdOf, r_i_gcdOf_0, r_i_gcdOf_1, r_i_gcdOf_5]
  refine callQ_v (i_absOf a (by omega) (by omega)) ?_
  rw [e1]
  simp
  refine callQ_v (i_absOf b (by omega) (by omega)) ?_
  rw [e2]
  simp
  refine loopQ_ix (fun p : Int × Int => ⟨[(0, I p.1), (1, I p.2)], [], []⟩) (fun p => p.2.toNat) (fun p => 0 ≤ p.1 ∧ 0 ≤ p.2 ∧ Int.gcd p.1 p.2 = Int.gcd a b) (a, b) (Wk.list rfl (by simp) (by simp)) ⟨ha, hb, rfl⟩ ?_
  rintro ⟨x, y⟩ ⟨hx, hy, hg⟩
  dsimp only at hx hy hg
  simp [l_i_gcdOf_4, r_i_gcdOf_2]
  refine ⟨fun hne => ?_, fun he => ?_⟩
  · have h0 : 0 ≤ x.tmod y := Int.tmod_nonneg _ hx
    have h1 : x.tmod y < y := Int.tmod_lt_of_pos _ (by omega)
    simp [r_i_gcdOf_3, p_i_gcdOf_3, hne]
    refine ⟨⟨rfl, rfl⟩, ?_⟩
    exact roundA_of (y, x.tmod y) (by dsimp only; omega) ⟨hy, h0, (gcd_step hx hy).trans hg⟩ (Wk.list rfl (by simp) (by simp))
  · subst he
    rw [← hg]
    simp
    omega

/-- A proportion. -/
def prop (h w : Int) : Bool := inR h 1 10 && inR w 1 10 && decide (Int.gcd h w = 1)

theorem gcd_one (h w : Int) : ((Int.gcd h w : Int) == 1) = decide (Int.gcd h w = 1) := by
  rw [Bool.eq_iff_iff]; simp; omega

theorem s_l24Proportion (h w : Int) : PCall Try.prog n_s_l24Proportion [.agg [I h, I w]] (B (prop h w)) := by
  refine PCall.of fn_s_l24Proportion (by simp) ?_
  simp [c_s_l24Proportion, r_s_l24Proportion_0, r_s_l24Proportion_1]
  refine callQ_v (s_l1In ..) ?_
  simp
  refine ⟨fun a => callQ_v (s_l1In ..) ?_, fun a => ?_⟩
  · simp
    refine ⟨fun b => ?_, fun b => ?_⟩
    · have a' := inR_iff.1 a
      have b' := inR_iff.1 b
      refine callQ_v (s_l24Common h w (by omega) (by omega)) ?_
      simp [prop, a, b, gcd_one]
    · simp [prop, a, b]
  · simp [prop, a]

theorem i_isProportion (h w : Int) : PCall Try.prog n_i_isProportion [.agg [I h, I w]] (B (prop h w)) := by
  refine PCall.of fn_i_isProportion (by simp) ?_
  simp [c_i_isProportion, r_i_isProportion_0, r_i_isProportion_1]
  refine callQ_v (i_inside ..) ?_
  simp
  refine ⟨fun a => callQ_v (i_inside ..) ?_, fun a => ?_⟩
  · simp
    refine ⟨fun b => ?_, fun b => ?_⟩
    · have a' := inR_iff.1 a
      have b' := inR_iff.1 b
      refine callQ_v (i_gcdOf h w (by omega) (by omega) (by omega) (by omega)) ?_
      simp [prop, a, b, gcd_one]
    · simp [prop, a, b]
  · simp [prop, a]

/-- The lowest terms. -/
def reduced (h w : Int) : Int × Int := (h.tdiv (Int.gcd h w), w.tdiv (Int.gcd h w))
def redOk (h w : Int) : Bool := inR h 1 1000 && inR w 1 1000 && prop (reduced h w).1 (reduced h w).2
def red (h w : Int) : Int × Int := if redOk h w then reduced h w else (0, 0)

theorem red_bounds {h w : Int} (a : inR h 1 1000 = true) (b : inR w 1 1000 = true) : (Int.gcd h w : Int) ≠ 0 ∧ 0 ≤ (reduced h w).1 ∧ (reduced h w).1 ≤ 1000 ∧ 0 ≤ (reduced h w).2 ∧ (reduced h w).2 ≤ 1000 := by
  have a' := inR_iff.1 a
  have b' := inR_iff.1 b
  have hne : Int.gcd h w ≠ 0 := by rw [Ne, Int.gcd_eq_zero_iff]; omega
  have hg : (0 : Int) ≤ (Int.gcd h w : Int) := Int.natCast_nonneg _
  unfold reduced
  dsimp only
  rw [Int.tdiv_eq_ediv_of_nonneg (by omega), Int.tdiv_eq_ediv_of_nonneg (by omega)]
  exact ⟨by omega, Int.ediv_nonneg (by omega) hg, Int.le_trans (Int.ediv_le_self _ (by omega)) (by omega), Int.ediv_nonneg (by omega) hg, Int.le_trans (Int.ediv_le_self _ (by omega)) (by omega)⟩

theorem s_ReduceProportion (h w : Int) : PCall Try.prog n_s_ReduceProportion [I h, I w] (.tup [.agg [I (red h w).1, I (red h w).2], B (redOk h w)]) := by
  refine PCall.of fn_s_ReduceProportion (by simp) ?_
  simp [c_s_ReduceProportion, r_s_ReduceProportion_0, r_s_ReduceProportion_1]
  refine callQ_v (s_l1In ..) ?_
  simp
  refine ⟨fun a => callQ_v (s_l1In ..) ?_, fun a => ?_⟩
  · simp
    refine ⟨fun b => ?_, fun b => ?_⟩
    · simp [r_s_ReduceProportion_2, red, redOk, a, b]
    · have a' := inR_iff.1 a
      have b' := inR_iff.1 b
      obtain ⟨hne, r1, r2, r3, r4⟩ := red_bounds a b
      simp [r_s_ReduceProportion_3]
      refine callQ_v (s_l24Common h w (by omega) (by omega)) ?_
      simp [r_s_ReduceProportion_4, p_s_ReduceProportion_4]
      have e1 : IntKind.i64.wrap (h.tdiv (Int.gcd h w)) = (reduced h w).1 := wrap64 (by unfold reduced at r1; dsimp only at r1; omega) (by unfold reduced at r2; dsimp only at r2; omega)
      have e2 : IntKind.i64.wrap (w.tdiv (Int.gcd h w)) = (reduced h w).2 := wrap64 (by unfold reduced at r3; dsimp only at r3; omega) (by unfold reduced at r4; dsimp only at r4; omega)
      simp only [e1, e2]
      refine ⟨by omega, oEnd_of (by first | kernel_rfl | simp) (by first | kernel_rfl | simp), ?_⟩
      simp [r_s_ReduceProportion_5]
      refine callQ_v (PCall.arg (s_l24Proportion (reduced h w).1 (reduced h w).2) (by simp)) ?_
      simp
      refine ⟨fun c => ?_, fun c => ?_⟩
      · simp [r_s_ReduceProportion_6, red, redOk, a, b, c]
      · simp [r_s_ReduceProportion_7, red, redOk, a, b, c]
  · simp [r_s_ReduceProportion_2, red, redOk, a]

theorem i_ReduceProportion (h w : Int) : PCall Try.prog n_i_ReduceProportion [I h, I w] (.tup [.agg [I (red h w).1, I (red h w).2], B (redOk h w)]) := by
  refine PCall.of fn_i_ReduceProportion (by simp) ?_
  simp [c_i_ReduceProportion, r_i_ReduceProportion_0, r_i_ReduceProportion_1]
  refine callQ_v (i_inside ..) ?_
  simp
  refine ⟨fun a => callQ_v (i_inside ..) ?_, fun a => ?_⟩
  · simp
    refine ⟨fun b => ?_, fun b => ?_⟩
    · simp [r_i_ReduceProportion_2, red, redOk, a, b]
    · have a' := inR_iff.1 a
      have b' := inR_iff.1 b
      obtain ⟨hne, r1, r2, r3, r4⟩ := red_bounds a b
      simp [r_i_ReduceProportion_3]
      refine callQ_v (i_gcdOf h w (by omega) (by omega) (by omega) (by omega)) ?_
      simp [r_i_ReduceProportion_4, p_i_ReduceProportion_4]
      have e1 : IntKind.i64.wrap (h.tdiv (Int.gcd h w)) = (reduced h w).1 := wrap64 (by unfold reduced at r1; dsimp only at r1; omega) (by unfold reduced at r2; dsimp only at r2; omega)
      have e2 : IntKind.i64.wrap (w.tdiv (Int.gcd h w)) = (reduced h w).2 := wrap64 (by unfold reduced at r3; dsimp only at r3; omega) (by unfold reduced at r4; dsimp only at r4; omega)
      simp only [e1, e2]
      refine ⟨by omega, oEnd_of (by first | kernel_rfl | simp) (by first | kernel_rfl | simp), ?_⟩
      simp [r_i_ReduceProportion_5]
      refine callQ_v (PCall.arg (i_isProportion (reduced h w).1 (reduced h w).2) (by simp)) ?_
      simp
      refine ⟨fun c => ?_, fun c => ?_⟩
      · simp [r_i_ReduceProportion_6, red, redOk, a, b, c]
      · simp [r_i_ReduceProportion_7, red, redOk, a, b, c]
  · simp [r_i_ReduceProportion_2, red, redOk, a]

end Go.Proofs.Ytgefdcllialhkaa
