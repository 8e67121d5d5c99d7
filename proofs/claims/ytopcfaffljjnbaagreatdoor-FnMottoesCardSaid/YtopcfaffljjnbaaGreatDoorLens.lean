/- Lengths of lines, comparing rows, a leading space cut off. -/
import Derived.Test.YtopcfaffljjnbaaGreatDoorFill
set_option linter.unusedVariables false
set_option linter.unusedSimpArgs false
namespace Go.Proofs.YtopcfaffljjnbaaGreatDoor
open Go.Abs

def lensOf (l : List (List UInt8)) : List Int := l.map fun x => (x.length : Int)
theorem i_even_1 (l : List (List UInt8)) (h1000 : l.length ≤ 1000) : PCall Tryz.prog n_i_even_1 [.ro 1 (l.map S)] (.own 1 ((lensOf l).map I)) := by
  refine PCall.ofL fn_i_even_1 (by simp) fun hl => ?_
  simp at hl
  simp [c_i_even_1, r_i_even_1_0, r_i_even_1_1]
  simp [r_i_even_1_2, r_i_even_1_8]
  refine loopK (fun i : Nat => ⟨[(3, .sl 6 0 i), (7, .ro 1 (l.map S)), (8, I l.length), (9, I i)], [(6, ⟨1, (lensOf (l.take i)).map I⟩)], []⟩) (fun i => l.length - i) (fun i => i ≤ l.length) 0 (Wk.list rfl (by simp) (by simp [lensOf])) (by simp) ?_
  intro i hi K hN hR hE
  simp [r_i_even_1_3, l_i_even_1_7]
  refine ⟨fun hlt => ?_, fun hge => ?_⟩
  · simp [r_i_even_1_4, hlt]
    have hll : (lensOf (l.take i)).length = i := by simp [lensOf]; omega
    have ht : ((lensOf (l.take i)).map I).take i = (lensOf (l.take i)).map I := List.take_of_length_le (by rw [List.length_map, hll]; omega)
    simp [r_i_even_1_5, hll, ht]
    refine ⟨by unfold lenBound; omega, ?_⟩
    simp [r_i_even_1_6]
    rw [wrap64 (by omega) (by omega)]
    refine hN (i + 1) _ (by omega) (by omega) (Wk.trans (Wk.ren 17 6 (by decide) (by simp)) (Wk.list rfl ?_ ?_))
    · simp [AS.ren, ren, reN]
    · have e : lensOf (l.take (i + 1)) = lensOf (l.take i) ++ [(l[i].length : Int)] := by
        unfold lensOf
        rw [List.take_succ_eq_append_getElem hlt, List.map_append]; rfl
      simp [AS.ren, ren, reN, renB, e]
  · obtain rfl : i = l.length := by omega
    refine hE _ _ ?_
    simp only [blockK_exit]
    simp [r_i_even_1_8, lensOf]

theorem cmp_isNaN_int (x : Int) : PCall Tryz.prog n_cmp_isNaN_int [I x] (B false) := by
  refine PCall.of fn_cmp_isNaN_int (by simp) ?_
  simp [c_cmp_isNaN_int, r_cmp_isNaN_int_0, r_cmp_isNaN_int_1]
theorem cmp_Compare_int_gt {x y : Int} (h : y < x) : PCall Tryz.prog n_cmp_Compare_int [I x, I y] (I 1) := by
  refine PCall.of fn_cmp_Compare_int (by simp) ?_
  simp [c_cmp_Compare_int, r_cmp_Compare_int_0, r_cmp_Compare_int_1]
  refine callQ_v (cmp_isNaN_int x) ?_
  simp [r_cmp_Compare_int_2]
  refine callQ_v (cmp_isNaN_int y) ?_
  simp [r_cmp_Compare_int_3, r_cmp_Compare_int_7]
  simp [r_cmp_Compare_int_9, show ¬ x < y by omega]
  simp [r_cmp_Compare_int_11, r_cmp_Compare_int_12, h]
theorem slices_Compare_gt {x y : Int} (a b : List Int) (h : y < x) : PCall Tryz.prog n_slices_Compare_int_int [.ro 1 ((x :: a).map I), .ro 1 ((y :: b).map I)] (I 1) := by
  refine PCall.ofL fn_slices_Compare_int_int (by simp) fun hl => ?_
  simp at hl
  simp [c_slices_Compare_int_int, r_slices_Compare_int_int_0, r_slices_Compare_int_int_1, r_slices_Compare_int_int_12]
  refine loopK (fun i : Nat => ⟨[(0, .ro 1 ((x :: a).map I)), (1, .ro 1 ((y :: b).map I)), (9, .ro 1 ((x :: a).map I)), (10, I ((a.length + 1 : Nat) : Int)), (11, I i)], [], []⟩) (fun i => 1 - i) (fun i => i = 0) 0 (Wk.list rfl (by simp) (by simp)) rfl ?_
  rintro i rfl K hN hR hE
  simp [r_slices_Compare_int_int_2, l_slices_Compare_int_int_11]
  simp [r_slices_Compare_int_int_3]
  simp [r_slices_Compare_int_int_4]
  simp [r_slices_Compare_int_int_6]
  simp [r_slices_Compare_int_int_7]
  refine ⟨fun h0 => absurd h0 (by omega), ?_⟩
  refine callQ_v (cmp_Compare_int_gt h) ?_
  simp [r_slices_Compare_int_int_8, r_slices_Compare_int_int_9]
  refine hR _ ?_
  simp

theorem TrimPrefix_at (s : List UInt8) (hs : s.length ≤ 1000000) : PCall Tryz.prog n_strings_TrimPrefix [S (32 :: s), S [32]] (S s) := by
  have h := fun w => Tryz.strings_TrimPrefix (bs (32 :: s)) (bs [32]) w
  have e : Lib.trimPrefix (bs (32 :: s)).data.toList (bs [32]).data.toList = s := by simp [Lib.trimPrefix, Lib.hasPrefix, bs]
  rw [e] at h
  refine PCall.same (vs := [.string (bs (32 :: s)), .string (bs [32])]) (y := .string (bs s)) (by kernel_rfl) (fun _ _ => CV_mkv ?_) (fun w _ _ => h w)
  have : (bs s).size = s.length := by simp [bs, ByteArray.size]
  simp only [Abs.one, this, decide_eq_true_iff]; omega
theorem TrimPrefix_no (s : List UInt8) (hs : s.length ≤ 1000000) (h0 : s.head? ≠ some 32) : PCall Tryz.prog n_strings_TrimPrefix [S s, S [32]] (S s) := by
  have h := fun w => Tryz.strings_TrimPrefix (bs s) (bs [32]) w
  have e : Lib.trimPrefix (bs s).data.toList (bs [32]).data.toList = s := by
    cases s with
    | nil => simp [Lib.trimPrefix, Lib.hasPrefix, bs]
    | cons x s =>
      have : ¬ 32 = x := fun e => h0 (by simp [e])
      simp [Lib.trimPrefix, Lib.hasPrefix, bs, this]
  rw [e] at h
  refine PCall.same (vs := [.string (bs s), .string (bs [32])]) (y := .string (bs s)) (by kernel_rfl) (fun _ _ => CV_mkv ?_) (fun w _ _ => h w)
  have : (bs s).size = s.length := by simp [bs, ByteArray.size]
  simp only [Abs.one, this, decide_eq_true_iff]; omega
end Go.Proofs.YtopcfaffljjnbaaGreatDoor
