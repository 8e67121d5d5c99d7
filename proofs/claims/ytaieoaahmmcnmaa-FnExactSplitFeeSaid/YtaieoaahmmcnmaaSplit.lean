/- SplitFee: the program and the reference split a fee alike. -/
import Derived.Test.YtaieoaahmmcnmaaInts
import Derived.Test.YtaieoaahmmcnmaaBase
import Derived.Test.YtaieoaahmmcnmaaAbsRen
namespace Go.Proofs.Ytaieoaahmmcnmaa
open Go.Abs

/-- The parts of a fee. -/
def parts (fee n : Int) (k : Nat) : List Int := (List.range k).map fun i : Nat => fee.tdiv n + (if (i : Int) < fee.tmod n then 1 else 0)
def splits (fee n : Int) : Bool := (decide (0 ≤ fee) && decide (fee ≤ 1000000)) && (decide (1 ≤ n) && decide (n ≤ 12))
def split (fee n : Int) : List Int := if splits fee n then parts fee n n.toNat else []
theorem parts_succ (fee n : Int) (k : Nat) : parts fee n (k + 1) = parts fee n k ++ [fee.tdiv n + (if (k : Int) < fee.tmod n then 1 else 0)] := by
  simp [parts, List.range_succ]
theorem parts_len (fee n : Int) (k : Nat) : (parts fee n k).length = k := by simp [parts]

theorem f66 (b : Bool) : PCall Try.prog 66 [B b] (I (if b then 1 else 0)) := by
  refine PCall.of fn66 (by simp) ?_
  cases b <;> simp [c66, r66_0, r66_1, r66_2, r66_3]

theorem quo_bound {fee n : Int} (h : splits fee n = true) : 0 ≤ fee.tdiv n ∧ fee.tdiv n ≤ 1000000 := by
  simp [splits] at h
  rw [Int.tdiv_eq_ediv_of_nonneg h.1.1]
  exact ⟨Int.ediv_nonneg h.1.1 (by omega), Int.le_trans (Int.ediv_le_self _ h.1.1) h.1.2⟩

theorem f21 (fee n : Int) : PCall Try.prog 21 [I fee, I n] (.tup [.own 1 (ints (split fee n)), B (splits fee n)]) := by
  refine PCall.of fn21 (by simp) ?_
  by_cases h : splits fee n = true
  · have hq := quo_bound h
    have h' := h
    simp [splits] at h'
    obtain ⟨⟨g1, g2⟩, g3, g4⟩ := h'
    simp [c21, r21_0, r21_1, r21_2]
    refine callQ_v (f61 ..) ?_
    simp [g1, g2]
    refine callQ_v (f61 ..) ?_
    simp [g3, g4, r21_4, r21_12]
    refine loopQ_ix (fun k : Nat => ⟨[(0, I fee), (1, I n), (6, .sl 9 0 k), (7, I k)], [(9, ⟨1, ints (parts fee n k)⟩)], []⟩) (fun k => n.toNat - k) (fun k => k ≤ n.toNat) 0 (Wk.list rfl (by simp) (by simp [parts])) (by simp) ?_
    intro k hk
    simp [l21_11, r21_5]
    refine ⟨fun hlt => ?_, fun hge => ?_⟩
    · simp [r21_6]
      refine ⟨by omega, ?_⟩
      rw [wrap64 (by omega) (by omega)]
      simp [r21_7]
      refine ⟨by omega, fun hc => ?_, fun hc => ?_⟩
      · simp [r21_8]
        rw [wrap64 (by omega) (by omega)]
        simp [r21_9]
        refine ⟨by rw [parts_len]; unfold lenBound; omega, ?_⟩
        simp [r21_10]
        rw [wrap64 (by omega) (by omega)]
        refine roundA_of (k + 1) (by omega) (by omega) ((Wk.ren 37 9 (by decide) (by simp)).trans (Wk.list rfl (by simp) ?_))
        simp [parts_succ, hc, List.take_of_length_le, parts_len]
      · simp [r21_9]
        refine ⟨by rw [parts_len]; unfold lenBound; omega, ?_⟩
        simp [r21_10]
        rw [wrap64 (by omega) (by omega)]
        refine roundA_of (k + 1) (by omega) (by omega) ((Wk.ren 37 9 (by decide) (by simp)).trans (Wk.list rfl (by simp) ?_))
        simp [parts_succ, List.take_of_length_le, parts_len, Int.not_lt.2 hc]
    · have e : k = n.toNat := by omega
      simp [split, h, e, parts_len]
  · simp [c21, r21_0, r21_1, r21_2]
    refine callQ_v (f61 ..) ?_
    have hs : splits fee n = false := by simpa using h
    simp
    refine ⟨fun a1 a2 => callQ_v (f61 ..) ?_, fun a1 => ?_⟩
    · simp
      refine ⟨fun b1 => ?_, fun b1 b2 => absurd (by simp [splits, a1, a2, b1, b2]) h⟩
      simp [r21_3, split, hs]
    · simp [r21_3, split, hs]

theorem f22 (fee n : Int) : PCall Try.prog 22 [I fee, I n] (.tup [.own 1 (ints (split fee n)), B (splits fee n)]) := by
  by_cases h : splits fee n = true
  · refine PCall.of fn22 (by simp) ?_
    have hq := quo_bound h
    have h' := h
    simp [splits] at h'
    obtain ⟨⟨g1, g2⟩, g3, g4⟩ := h'
    simp [c22, r22_0, r22_1]
    refine callQ_v (f60 ..) ?_
    simp [g1, g2]
    refine callQ_v (f60 ..) ?_
    simp [g3, g4, r22_3, r22_4, r22_10]
    refine loopQ_ix (fun k : Nat => ⟨[(0, I fee), (1, I n), (6, .sl 16 0 k), (17, I n), (18, I k)], [(16, ⟨1, ints (parts fee n k)⟩)], []⟩) (fun k => n.toNat - k) (fun k => k ≤ n.toNat) 0 (Wk.list rfl (by simp) (by simp [parts])) (by simp) ?_
    intro k hk
    simp [l22_9, r22_5]
    refine ⟨fun hlt => ?_, fun hge => ?_⟩
    · simp [r22_6, r22_7, p22_7]
      refine ⟨by omega, ?_⟩
      rw [wrap64 (by omega) (by omega)]
      refine callD_v (f66 _) ?_ ?_ ?_
      · simp
      · simp
      simp
      have hb : fee.tdiv n + (if (k : Int) < fee.tmod n then 1 else 0) ≤ 1000001 ∧ 0 ≤ fee.tdiv n + (if (k : Int) < fee.tmod n then 1 else 0) := by split <;> omega
      rw [wrap64 (by omega) (by omega)]
      refine ⟨by rw [parts_len]; unfold lenBound; omega, ⟨?_, ?_⟩, ?_⟩
      · simp
      · simp
      simp [r22_8]
      rw [wrap64 (by omega) (by omega)]
      refine roundA_of (k + 1) (by omega) (by omega) ((Wk.ren 33 16 (by decide) (by simp)).trans (Wk.list rfl (by simp) ?_))
      simp [parts_succ, List.take_of_length_le, parts_len]
    · have e : k = n.toNat := by omega
      simp [split, h, e, parts_len]
  · have hs : splits fee n = false := by simpa using h
    refine PCall.res (res := .tup [.v (.slice none 0 0), B false]) ?_ ?_
    · refine PCall.of fn22 (by simp) ?_
      simp [c22, r22_0, r22_1]
      refine callQ_v (f60 ..) ?_
      simp
      refine ⟨fun a1 a2 => callQ_v (f60 ..) ?_, fun a1 => ?_⟩
      · simp
        refine ⟨fun b1 => ?_, fun b1 b2 => absurd (by simp [splits, a1, a2, b1, b2]) h⟩
        simp [r22_2]
      · simp [r22_2]
    · simp only [split, hs, Bool.false_eq_true, if_false, List.map_nil, ints]
      exact Le.tup ⟨Le.nil 1, Le.refl _, trivial⟩

theorem split_len (fee n : Int) : (split fee n).length ≤ 12 := by
  unfold split
  split
  · rename_i h
    simp [splits] at h
    rw [parts_len]; omega
  · simp

theorem f5 (fee n : Int) : PCall Try.prog 5 [I fee, I n] (B true) := by
  have hl := split_len fee n
  refine PCall.of fn5 (by simp) ?_
  simp [c5, r5_0, r5_1]
  refine callQ_of (f21 ..) rfl (.inl (by simp)) (by simp) ?_
  simp [r5_2]
  refine callQ_of (f22 ..) rfl (.inl (by simp)) (by simp) ?_
  simp [r5_3]
  refine callQ_v (PCall.arg (f23 (split fee n) (split fee n) (by omega)) (by simp)) ?_
  simp [r5_5, r5_6]
  refine callQ_m [22] (MCall.arg (f24 (split fee n) 1 (by omega) (by omega) (by omega)) (by simp)) (by simp) (by simp) (by simp) (by simp) ?_
  simp [r5_7, r5_8]
  refine callQ_v (PCall.arg (f25 (marks 1 (split fee n).length) 1 (by rw [marks_len]; omega) (by omega) (by omega)) (by simp [marks_len, List.take_of_length_le])) ?_
  have hh : held (marks 1 (split fee n).length) 1 = 1 + (split fee n).length := by simp [held, marks_len]
  rw [hh]
  have hp : ¬ (1 + ((split fee n).length : Int) < 0) := by omega
  simp [r5_9, r5_11, hp]
  simp [r5_13]
  refine callQ_of (f22 ..) rfl (.inl (by simp)) (by simp) ?_
  simp [r5_14]
  refine callQ_v (PCall.arg (f23 (split fee n) (split fee n) (by omega)) (by simp)) ?_
  simp [r5_16, r5_17]
  refine callQ_v (PCall.arg (f25 (marks 1 (split fee n).length) 1 (by rw [marks_len]; omega) (by omega) (by omega)) (by simp [marks_len, List.take_of_length_le])) ?_
  rw [hh]
  simp [r5_18, r5_20, r5_22, hp]
end Go.Proofs.Ytaieoaahmmcnmaa
