/- strings.Split at one byte, in the program's library and in the reference. -/
import Derived.Test.YtopcfaffljjnbaaGreatDoorTexts
import Derived.Test.YtopcfaffljjnbaaGreatDoorShelf
import Derived.Test.YtopcfaffljjnbaaGreatDoorAbs4
set_option linter.unusedVariables false
set_option linter.unusedSimpArgs false
namespace Go.Proofs.YtopcfaffljjnbaaGreatDoor
open Go.Abs

theorem parts_one {c x : UInt8} {s : List UInt8} : ∃ p ps, parts c s = p :: ps ∧ parts c (x :: s) = if x = c then [] :: p :: ps else (x :: p) :: ps := by
  cases h : parts c s with
  | nil => exact absurd h (parts_ne s)
  | cons p ps =>
    refine ⟨p, ps, rfl, ?_⟩
    rw [parts, h]
theorem parts_count (c : UInt8) : ∀ s : List UInt8, (parts c s).length = Lib.countByte s c + 1
  | [] => rfl
  | x :: s => by
    obtain ⟨p, ps, h1, h2⟩ := parts_one (c := c) (x := x) (s := s)
    have ih := parts_count c s
    rw [h1] at ih
    unfold Lib.countByte at ih ⊢
    rw [h2, List.count_cons]
    by_cases e : x = c
    · simp [e] at ih ⊢; omega
    · simp [e] at ih ⊢; omega
theorem count_le (c : UInt8) (s : List UInt8) : Lib.countByte s c ≤ s.length := List.count_le_length
theorem indexByte_cut {c : UInt8} : ∀ {s : List UInt8}, c ∈ s → Lib.indexByte s c = (cut0 c s).length
  | [], h => by simp at h
  | x :: s, h => by
    rw [Lib.indexByte]
    by_cases e : x = c
    · subst e; simp [cut0]
    · have e' : (x == c) = false := by simpa using e
      have hs : c ∈ s := by
        rcases List.mem_cons.1 h with h | h
        · exact absurd h.symm e
        · exact h
      have ih := indexByte_cut hs
      have hn : (Lib.indexByte s c == -1) = false := by rw [ih]; simp
      rw [e', hn, ih]
      simp [cut0, e]
theorem parts_mem {c : UInt8} {s : List UInt8} (h : c ∈ s) : parts c s = cut0 c s :: parts c (cut1 c s) := by
  obtain ⟨h1, h2⟩ := cut_split h
  have := parts_at (b := cut1 c s) h2
  rwa [← h1] at this
theorem cut_len {c : UInt8} {s : List UInt8} (h : c ∈ s) : (cut0 c s).length + 1 + (cut1 c s).length = s.length := by
  have h1 := (cut_split h).1
  have := congrArg List.length h1
  simp at this; omega

theorem cut_take {c : UInt8} {s : List UInt8} (h : c ∈ s) : s.take (cut0 c s).length = cut0 c s := by
  have h1 := (cut_split h).1
  generalize cut0 c s = a at h1
  generalize cut1 c s = b at h1
  subst h1
  simp
theorem cut_drop {c : UInt8} {s : List UInt8} (h : c ∈ s) : s.drop ((cut0 c s).length + 1) = cut1 c s := by
  have h1 := (cut_split h).1
  generalize cut0 c s = a at h1
  generalize cut1 c s = b at h1
  subst h1
  rw [show a ++ c :: b = (a ++ [c]) ++ b by simp, show a.length + 1 = (a ++ [c]).length by simp, List.drop_left]

theorem strings_Count (s : List UInt8) (c : UInt8) : PCall Tryz.prog n_strings_Count [S s, S [c]] (I (Lib.countByte s c)) :=
  PCall.same (vs := [.string (bs s), .string (bs [c])]) (y := .int .i64 (Lib.countByte s c)) (by kernel_rfl) (fun _ _ => CV_mkv rfl) (fun w _ _ => Tryz.strings_Count_one (bs s) c w)
theorem strings_Index (s : List UInt8) (c : UInt8) : PCall Tryz.prog n_strings_Index [S s, S [c]] (I (Lib.indexByte s c)) :=
  PCall.same (vs := [.string (bs s), .string (bs [c])]) (y := .int .i64 (Lib.indexByte s c)) (by kernel_rfl) (fun _ _ => CV_mkv rfl) (fun w _ _ => Tryz.strings_Index_one (bs s) c w)

theorem strings_genSplit (s : List UInt8) (c : UInt8) (hs : s.length ≤ 1048576) : PCall Tryz.prog n_strings_genSplit [S s, S [c], I 0, I (-1)] (.own 1 ((parts c s).map S)) := by
  refine PCall.of fn_strings_genSplit (by simp) ?_
  have hc := parts_count c s
  have hl := count_le c s
  simp [c_strings_genSplit, r_strings_genSplit_0, r_strings_genSplit_1]
  simp [r_strings_genSplit_3]
  simp [r_strings_genSplit_5]
  simp [r_strings_genSplit_6]
  refine callQ_v (strings_Count s c) ?_
  simp
  rw [wrap64 (by omega) (by omega)]
  simp [r_strings_genSplit_7]
  rw [wrap64 (by omega) (by omega)]
  simp [r_strings_genSplit_8]
  rw [if_neg (by omega)]
  have hn : ((Lib.countByte s c : Int) + 1).toNat = Lib.countByte s c + 1 := by omega
  rw [hn]
  refine ⟨⟨by omega, by simp [lenBound]; omega⟩, ?_⟩
  simp [r_strings_genSplit_9]
  rw [wrap64 (by omega) (by omega)]
  simp [r_strings_genSplit_10, r_strings_genSplit_18]
  generalize hN : Lib.countByte s c = N at hc hl hn ⊢
  refine loopK (fun x : List (List UInt8) × List UInt8 => ⟨[(0, S x.2), (1, S [c]), (2, I 0), (3, I N), (9, .sl 31 0 (N + 1)), (10, I x.1.length)], [(31, ⟨1, x.1.map S ++ List.replicate (N + 1 - x.1.length) (S [])⟩)], []⟩) (fun x => N + 1 - x.1.length)
    (fun x => x.1.length ≤ N ∧ x.2.length ≤ s.length ∧ parts c s = x.1 ++ parts c x.2) ([], s) (Wk.list rfl (by simp) (by simp)) (by simp) ?_
  rintro ⟨ps, r⟩ ⟨h1, h2, h3⟩ K hN hR hE
  dsimp only at h1 h2 h3 ⊢
  have hlen : (ps.map S).length = ps.length := List.length_map ..
  have h4 := congrArg List.length h3
  rw [hc, List.length_append] at h4
  simp [r_strings_genSplit_11, l_strings_genSplit_17]
  refine ⟨fun hlt => ?_, fun hge => ?_⟩
  · have hm : c ∈ r := (parts_len r).1 (by omega)
    have hcl := cut_len hm
    have hpm := parts_mem hm
    have hi := indexByte_cut hm
    simp [r_strings_genSplit_12]
    refine callQ_v (strings_Index r c) ?_
    rw [hi]
    simp [r_strings_genSplit_13]
    refine ⟨fun h => absurd h (by omega), ?_⟩
    simp [r_strings_genSplit_14]
    rw [wrap64 (by omega) (by omega)]
    have ht : r.take (cut0 c r).length = cut0 c r := cut_take hm
    have hd : r.drop ((cut0 c r).length + 1) = cut1 c r := cut_drop hm
    have hlt' : ps.length < N + 1 := by omega
    simp [hlt', half_get hlen hlt', half_set hlen hlt', ht]
    refine ⟨by omega, by omega, ?_⟩
    simp [r_strings_genSplit_15]
    rw [wrap64 (by omega) (by omega)]
    refine ⟨⟨by omega, by omega⟩, ?_⟩
    have e1 : ((cut0 c r).length + 1 : Int).toNat = (cut0 c r).length + 1 := by omega
    rw [e1, hd, List.take_of_length_le (by omega)]
    simp [r_strings_genSplit_16]
    rw [wrap64 (by omega) (by omega)]
    refine hN (ps ++ [cut0 c r], cut1 c r) _ (by simp; omega) ⟨by simp; omega, by simp; omega, by rw [h3, hpm]; simp⟩ (Wk.list rfl (by simp) ?_)
    simp
    have := half_set (v := S (cut0 c r)) (z := S []) hlen hlt'
    rw [List.set_append_right _ _ (by omega)] at this
    simpa using this
  · refine hE _ _ ?_
    have hnm : c ∉ r := fun hm => by have := (parts_len r).2 hm; omega
    have hlt' : ps.length < N + 1 := by omega
    obtain rfl : ps.length = N := by omega
    rw [parts_none hnm] at h3
    simp only [blockK_exit]
    simp [r_strings_genSplit_18, half_get hlen hlt', half_set hlen hlt']
    refine ⟨by omega, ?_⟩
    simp [r_strings_genSplit_19]
    rw [wrap64 (by omega) (by omega)]
    simp [h3]
    omega
theorem strings_Split (s : List UInt8) (c : UInt8) (hs : s.length ≤ 1048576) : PCall Tryz.prog n_strings_Split [S s, S [c]] (.own 1 ((parts c s).map S)) := by
  refine PCall.of fn_strings_Split (by simp) ?_
  simp [c_strings_Split, r_strings_Split_0, r_strings_Split_1]
  refine callQ_of (strings_genSplit s c hs) rfl (.inl (by simp)) (by simp) ?_
  simp
end Go.Proofs.YtopcfaffljjnbaaGreatDoor
