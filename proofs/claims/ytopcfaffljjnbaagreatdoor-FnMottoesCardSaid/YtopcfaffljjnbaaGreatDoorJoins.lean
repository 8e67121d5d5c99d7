/- Library: texts that are trimmed, cut at their beginning, put together. -/
import Derived.Test.YtopcfaffljjnbaaGreatDoorLens
set_option linter.unusedVariables false
set_option linter.unusedSimpArgs false
namespace Go.Proofs.YtopcfaffljjnbaaGreatDoor
open Go.Abs

theorem one_bs {s : List UInt8} (hs : s.length ≤ 1000000) : Abs.one (.string (bs s)) = true := by
  have : (bs s).size = s.length := by simp [bs, ByteArray.size]
  simp only [Abs.one, this, decide_eq_true_iff]; omega
theorem bs_size (s : List UInt8) : (bs s).size = s.length := by simp [bs, ByteArray.size]
theorem bs_list (s : List UInt8) : (bs s).data.toList = s := by simp [bs]
theorem dropWhile_len (p : UInt8 → Bool) (s : List UInt8) : (s.dropWhile p).length ≤ s.length := by
  induction s with
  | nil => simp
  | cons x s ih => rw [List.dropWhile_cons]; split <;> simp; omega
theorem trimB_len (s : List UInt8) (c : UInt8) : (Lib.trimB s c).length ≤ s.length := by
  unfold Lib.trimB Lib.trimLeftB Lib.trimRightB
  have h1 := dropWhile_len (· == c) (s.reverse.dropWhile (· == c)).reverse
  have h2 := dropWhile_len (· == c) s.reverse
  simp only [List.length_reverse] at h1 h2
  omega
theorem strings_Trim_one (s : List UInt8) (hs : s.length ≤ 1000000) : PCall Tryz.prog n_strings_Trim [S s, S [32]] (S (Lib.trimB s 32)) := by
  have h := fun w => Tryz.strings_Trim_one (bs s) 32 (by decide) w (by rw [bs_size]; omega)
  rw [bs_list] at h
  refine PCall.drawn (vs := [.string (bs s), .string (bs [32])]) (y := .string (bs (Lib.trimB s 32))) (by kernel_rfl) (fun _ _ => CV_mkv (one_bs (by have := trimB_len s 32; omega))) (fun w _ _ => ?_)
  refine (h w).mono ?_
  rintro e w' ⟨rfl, rfl | rfl⟩ <;> exact ⟨rfl, rfl, rfl, rfl, rfl⟩
theorem strings_TrimSuffix (s p : List UInt8) (hs : s.length ≤ 1000000) : PCall Tryz.prog n_strings_TrimSuffix [S s, S p] (S (Lib.trimSuffix s p)) := by
  have h := fun w => Tryz.strings_TrimSuffix (bs s) (bs p) w (by rw [bs_size]; omega)
  rw [bs_list, bs_list] at h
  refine PCall.same (vs := [.string (bs s), .string (bs p)]) (y := .string (bs (Lib.trimSuffix s p))) (by kernel_rfl) (fun _ _ => CV_mkv (one_bs ?_)) (fun w _ _ => h w)
  unfold Lib.trimSuffix
  split
  · rw [List.length_take]; omega
  · exact hs
theorem trimPrefix_len (s p : List UInt8) : (Lib.trimPrefix s p).length ≤ s.length := by
  unfold Lib.trimPrefix; split <;> simp
theorem strings_CutPrefix (s p : List UInt8) (hs : s.length ≤ 1000000) : PCall Tryz.prog n_strings_CutPrefix [S s, S p] (.tup [S (Lib.trimPrefix s p), B (Lib.hasPrefix s p)]) := by
  have h := fun w => Tryz.strings_CutPrefix (bs s) (bs p) w
  rw [bs_list, bs_list] at h
  refine PCall.same (vs := [.string (bs s), .string (bs p)]) (y := .tuple #[.string (bs (Lib.trimPrefix s p)), .bool (Lib.hasPrefix s p)]) (by kernel_rfl) (fun w D => ?_) (fun w _ _ => h w)
  have h1 := one_bs (s := Lib.trimPrefix s p) (by have := trimPrefix_len s p; omega)
  simp only [CV, CVs]
  exact ⟨_, rfl, _, _, [], [], rfl, rfl, ⟨rfl, h1, rfl⟩, _, _, [], [], rfl, rfl, ⟨rfl, rfl, rfl⟩, rfl, rfl⟩
theorem joinW_tail (x : List UInt8) (l : List (List UInt8)) : joinW (x :: l) = x ++ Lib.joinTail [32] l := by
  induction l generalizing x with
  | nil => simp [joinW, Lib.joinTail]
  | cons y l ih =>
    show x ++ 32 :: joinW (y :: l) = _
    rw [ih]
    simp [Lib.joinTail]
theorem join_joinW (l : List (List UInt8)) : Lib.join l [32] = joinW l := by
  cases l with
  | nil => rfl
  | cons x l => rw [Lib.join_cons, joinW_tail]
theorem strings_Join_sp (l : List (List UInt8)) (hl : l.length ≤ 1000000) (h : (joinW l).length ≤ 1000000) : PCall Tryz.prog n_strings_Join [.ro 1 (l.map S), S [32]] (S (joinW l)) := by
  refine PCall.belowRow (vs := [.string (bs [32])]) (y := .string (bs (joinW l))) (by kernel_rfl) (fun _ _ => CV_mkv (one_bs h)) ?_ ?_
  · rintro rfl w D a c _
    refine (Tryz.strings_Join_none a c (bs [32]) w).mono ?_
    rintro e w' ⟨rfl, rfl⟩
    exact ⟨rfl, Go.RowKit.Below.refl _ _⟩
  · intro w D b o c _ hc hb hlc
    have e1 : (l.map bs).map (·.data.toList) = l := by
      rw [List.map_map]
      conv => rhs; rw [← List.map_id l]
      exact List.map_congr_left fun x _ => bs_list x
    have hj := Tryz.strings_Join b o c (l.map bs) (bs [32]) w (fun j x hj => by
      rw [List.getElem?_map] at hj
      cases hx : l[j]? with
      | none => rw [hx] at hj; cases hj
      | some y =>
        rw [hx] at hj
        simp only [Option.map_some, Option.some.injEq] at hj
        subst hj
        exact hc j y hx) hb (by simp; omega) (by simpa using hlc) (by rw [e1, bs_list, join_joinW]; omega)
    rw [e1, bs_list, join_joinW, List.length_map] at hj
    exact hj
end Go.Proofs.YtopcfaffljjnbaaGreatDoor
