/- SplitFee: the program and the reference split a fee alike. -/
import Derived.Test.YtgefdcllialhkaaCodeSplit
import Derived.Test.YtgefdcllialhkaaInts
import Derived.Test.YtgefdcllialhkaaArms
import Derived.Test.YtgefdcllialhkaaBase
import Derived.Test.YtgefdcllialhkaaAbs4
set_option linter.unusedVariables false
set_option linter.unusedSimpArgs false
namespace Go.Proofs.Ytgefdcllialhkaa
open Go.Abs

/-- The parts of a fee. -/
def parts (fee n : Int) (k : Nat) : List Int := (List.range k).map fun i : Nat => fee.tdiv n + (if (i : Int) < fee.tmod n then 1 else 0)
def splits (fee n : Int) : Bool := (decide (0 ≤ fee) && decide (fee ≤ 1000000)) && (decide (1 ≤ n) && decide (n ≤ 12))
def split (fee n : Int) : List Int := if splits fee n then parts fee n n.toNat else []
theorem parts_succ (fee n : Int) (k : Nat) : parts fee n (k + 1) = parts fee n k ++ [fee.tdiv n + (if (k : Int) < fee.tmod n then 1 else 0)] := by
  simp [parts, List.range_succ]
theorem parts_len (fee n : Int) (k : Nat) : (parts fee n k).length = k := by simp [parts]

theorem i_numberS (b : Bool) : PCall Try.prog n_i_number [B b] (I (if b then 1 else 0)) := by
  refine PCall.of fn_i_number (by simp) ?_
  cases b <;> simp [c_i_number, r_i_number_0, r_i_number_1, r_i_number_2, r_i_number_3]

theorem quo_bound {fee n : Int} (h : splits fee n = true) : 0 ≤ fee.tdiv n ∧ fee.tdiv n ≤ 1000000 := by
  simp [splits] at h
  rw [Int.tdiv_eq_ediv_of_nonneg h.1.1]
  exact ⟨Int.ediv_nonneg h.1.1 (by omega), Int.le_trans (Int.ediv_le_self _ h.1.1) h.1.2⟩

theorem s_SplitFee (fee n : Int) : PCall Try.prog n_s_SplitFee [I fee, I n] (.tup [.own 1 (ints (split fee n)), B (splits fee n)]) := by
  refine PCall.of fn_s_SplitFee (by simp) ?_
  by_cases h : splits fee n = true
  · have hq := quo_bound h
    have h' := h
    simp [splits] at h'
    obtain ⟨⟨g1, g2⟩, g3, g4⟩ := h'
    have i1 : inR fee 0 1000000 = true := inR_iff.2 ⟨g1, g2⟩
    have i2 : inR n 1 12 = true := inR_iff.2 ⟨g3, g4⟩
    simp [c_s_SplitFee, r_s_SplitFee_0, r_s_SplitFee_1, r_s_SplitFee_2]
    refine callQ_v (s_l1In ..) ?_
    simp [i1]
    refine callQ_v (s_l1In ..) ?_
    simp [i2, r_s_SplitFee_4, r_s_SplitFee_12]
    refine loopQ_ix (fun k : Nat => ⟨[(0, I fee), (1, I n), (6, .sl 9 0 k), (7, I k)], [(9, ⟨1, ints (parts fee n k)⟩)], []⟩) (fun k => n.toNat - k) (fun k => k ≤ n.toNat) 0 (Wk.list rfl (by simp) (by simp [parts])) (by simp) ?_
    intro k hk
    simp [l_s_SplitFee_11, r_s_SplitFee_5]
    refine ⟨fun hlt => ?_, fun hge => ?_⟩
    · simp [r_s_SplitFee_6]
      refine ⟨by omega, ?_⟩
      rw [wrap64 (by omega) (by omega)]
      simp [r_s_SplitFee_7]
      refine ⟨by omega, fun hc => ?_, fun hc => ?_⟩
      · simp [r_s_SplitFee_8]
        rw [wrap64 (by omega) (by omega)]
        simp [r_s_SplitFee_9]
        refine ⟨by rw [parts_len]; unfold lenBound; omega, ?_⟩
        simp [r_s_SplitFee_10]
        rw [wrap64 (by omega) (by omega)]
        refine roundA_of (k + 1) (by omega) (by omega) ((Wk.ren 37 9 (by decide) (by simp)).trans (Wk.list rfl (by simp) ?_))
        simp [parts_succ, hc, List.take_of_length_le, parts_len]
      · simp [r_s_SplitFee_9]
        refine ⟨by rw [parts_len]; unfold lenBound; omega, ?_⟩
        simp [r_s_SplitFee_10]
        rw [wrap64 (by omega) (by omega)]
        refine roundA_of (k + 1) (by omega) (by omega) ((Wk.ren 37 9 (by decide) (by simp)).trans (Wk.list rfl (by simp) ?_))
        simp [parts_succ, List.take_of_length_le, parts_len, Int.not_lt.2 hc]
    · have e : k = n.toNat := by omega
      simp [split, h, e, parts_len]
  · simp [c_s_SplitFee, r_s_SplitFee_0, r_s_SplitFee_1, r_s_SplitFee_2]
    refine callQ_v (s_l1In ..) ?_
    have hs : splits fee n = false := by simpa using h
    cases i1 : inR fee 0 1000000 with
    | false => simp [r_s_SplitFee_3, split, hs]
    | true =>
    simp
    refine callQ_v (s_l1In ..) ?_
    cases i2 : inR n 1 12 with
    | false => simp [r_s_SplitFee_3, split, hs]
    | true => exact absurd (by simp only [inR_iff] at i1 i2; simp [splits]; omega) h

theorem i_SplitFee (fee n : Int) : PCall Try.prog n_i_SplitFee [I fee, I n] (.tup [.own 1 (ints (split fee n)), B (splits fee n)]) := by
  by_cases h : splits fee n = true
  · refine PCall.of fn_i_SplitFee (by simp) ?_
    have hq := quo_bound h
    have h' := h
    simp [splits] at h'
    obtain ⟨⟨g1, g2⟩, g3, g4⟩ := h'
    have i1 : inR fee 0 1000000 = true := inR_iff.2 ⟨g1, g2⟩
    have i2 : inR n 1 12 = true := inR_iff.2 ⟨g3, g4⟩
    simp [c_i_SplitFee, r_i_SplitFee_0, r_i_SplitFee_1]
    refine callQ_v (i_inside ..) ?_
    simp [i1]
    refine callQ_v (i_inside ..) ?_
    simp [i2, r_i_SplitFee_3, r_i_SplitFee_4, r_i_SplitFee_10]
    refine loopQ_ix (fun k : Nat => ⟨[(0, I fee), (1, I n), (6, .sl 16 0 k), (17, I n), (18, I k)], [(16, ⟨1, ints (parts fee n k)⟩)], []⟩) (fun k => n.toNat - k) (fun k => k ≤ n.toNat) 0 (Wk.list rfl (by simp) (by simp [parts])) (by simp) ?_
    intro k hk
    simp [l_i_SplitFee_9, r_i_SplitFee_5]
    refine ⟨fun hlt => ?_, fun hge => ?_⟩
    · simp [r_i_SplitFee_6, r_i_SplitFee_7, p_i_SplitFee_7]
      refine ⟨by omega, ?_⟩
      rw [wrap64 (by omega) (by omega)]
      refine callD_v (i_numberS _) ?_ ?_ ?_
      · simp
      · simp
      simp
      have hb : fee.tdiv n + (if (k : Int) < fee.tmod n then 1 else 0) ≤ 1000001 ∧ 0 ≤ fee.tdiv n + (if (k : Int) < fee.tmod n then 1 else 0) := by split <;> omega
      rw [wrap64 (by omega) (by omega)]
      refine ⟨by rw [parts_len]; unfold lenBound; omega, ⟨?_, ?_⟩, ?_⟩
      · simp
      · simp
      simp [r_i_SplitFee_8]
      rw [wrap64 (by omega) (by omega)]
      refine roundA_of (k + 1) (by omega) (by omega) ((Wk.ren 33 16 (by decide) (by simp)).trans (Wk.list rfl (by simp) ?_))
      simp [parts_succ, List.take_of_length_le, parts_len]
    · have e : k = n.toNat := by omega
      simp [split, h, e, parts_len]
  · have hs : splits fee n = false := by simpa using h
    refine PCall.res (res := .tup [.v (.slice none 0 0), B false]) ?_ ?_
    · refine PCall.of fn_i_SplitFee (by simp) ?_
      simp [c_i_SplitFee, r_i_SplitFee_0, r_i_SplitFee_1]
      refine callQ_v (i_inside ..) ?_
      cases i1 : inR fee 0 1000000 with
      | false => simp [r_i_SplitFee_2]
      | true =>
      simp
      refine callQ_v (i_inside ..) ?_
      cases i2 : inR n 1 12 with
      | false => simp [r_i_SplitFee_2]
      | true => exact absurd (by simp only [inR_iff] at i1 i2; simp [splits]; omega) h
    · simp only [split, hs, Bool.false_eq_true, if_false, List.map_nil, ints]
      exact Le.tup ⟨Le.nil 1, Le.refl _, trivial⟩

theorem split_len (fee n : Int) : (split fee n).length ≤ 12 := by
  unfold split
  split
  · rename_i h
    simp [splits] at h
    rw [parts_len]; omega
  · simp

end Go.Proofs.Ytgefdcllialhkaa
