/- The order of a roll: program, reference. -/
import Derived.Test.YtbeoijlggphklaaGreatCodeRollOrd
import Derived.Test.YtbeoijlggphklaaGreatSortGrant
import Derived.Test.YtbeoijlggphklaaGreatPieces2
import Derived.Test.YtbeoijlggphklaaGreatShelf
set_option linter.unusedVariables false
set_option linter.unusedSimpArgs false
namespace Go.Proofs.YtbeoijlggphklaaGreat
open Go.Abs

theorem compare_lt : ∀ (a b : List UInt8), Lib.compareBytes a b < 0 ↔ a < b
  | [], [] => by simp [Lib.compareBytes]
  | [], _ :: _ => by simp [Lib.compareBytes]
  | _ :: _, [] => by simp [Lib.compareBytes]
  | a :: xs, b :: ys => by
    have ih := compare_lt xs ys
    rw [Lib.compareBytes, List.cons_lt_cons_iff]
    by_cases h1 : a < b
    · simp [h1]
    · by_cases h2 : b < a
      · have : a ≠ b := by rintro rfl; exact h1 h2
        simp [h1, h2, this]
      · have : a = b := UInt8.le_antisymm (UInt8.not_lt.1 h2) (UInt8.not_lt.1 h1)
        subst this
        simp [h1, ih]
theorem less_iff : ∀ {x y : List UInt8}, Op.bytesLess x y = true ↔ x < y
  | [], [] => by simp [Op.bytesLess]
  | [], y :: ys => by simp [Op.bytesLess]
  | x :: xs, [] => by simp [Op.bytesLess]
  | x :: xs, y :: ys => by
    have ih := @less_iff xs ys
    rw [Op.bytesLess]
    rw [List.cons_lt_cons_iff]
    simp [ih]
theorem less_eq (x y : List UInt8) : Op.bytesLess x y = decide (x < y) := by rw [Bool.eq_iff_iff, less_iff, decide_eq_true_iff]
theorem strings_Compare (a b : List UInt8) : PCall Tryz.prog n_strings_Compare [S a, S b] (I (Lib.compareBytes a b)) :=
  PCall.same (vs := [.string (bs a), .string (bs b)]) (y := .int .i64 (Lib.compareBytes a b)) (by kernel_rfl) (fun _ _ => CV_mkv rfl) (fun w _ _ => Tryz.strings_Compare (bs a) (bs b) w)
theorem i_Register_ordered_1 (a b : Grant) : PCall Tryz.prog n_i_Register_ordered_1 [eGrant a, eGrant b] (I (Lib.compareBytes a.name b.name)) := by
  refine PCall.of fn_i_Register_ordered_1 (by simp) ?_
  simp [c_i_Register_ordered_1, r_i_Register_ordered_1_0, r_i_Register_ordered_1_1]
  refine callQ_v (PCall.arg (strings_Compare a.name b.name) (by simp)) ?_
  simp
theorem i_Register_ordered_2 (a b : Grant) (ha : arms a.arms = true) (hb : arms b.arms = true) : PCall Tryz.prog n_i_Register_ordered_2 [eGrant a, eGrant b] (I (Lib.compareBytes (armsT a.arms) (armsT b.arms))) := by
  refine PCall.of fn_i_Register_ordered_2 (by simp) ?_
  simp [c_i_Register_ordered_2, r_i_Register_ordered_2_0, r_i_Register_ordered_2_1, p_i_Register_ordered_2_1]
  refine callD_v (PCall.arg (i_Arms_text a.arms ha) (by simp)) ?_ ?_ ?_
  · simp
  · simp
  simp
  refine callD_v (PCall.arg (i_Arms_text b.arms hb) (by simp)) ?_ ?_ ?_
  · simp
  · simp
  simp
  refine callD_v (PCall.arg (strings_Compare (armsT a.arms) (armsT b.arms)) (by simp)) ?_ ?_ ?_
  · simp
  · simp
  simp
  exact oEnd_of (by simp [p_i_Register_ordered_2_1]) (by simp)
theorem i_Register_ordered (l : Register) (y : Int) (h : register l = true) : PCall Tryz.prog n_i_Register_ordered [eRegister l, I y] (.own 18 ((rollOrd y l).map eGrant)) := by
  have hl := register_len h
  have harm : ∀ g ∈ l, arms g.arms = true := fun g hg => (grantOk_iff (register_grant h g hg)).2.2.2
  refine PCall.of fn_i_Register_ordered (by simp) ?_
  simp [c_i_Register_ordered, r_i_Register_ordered_0, r_i_Register_ordered_1, r_i_Register_ordered_2]
  refine ⟨by unfold lenBound; omega, ?_⟩
  by_cases h2 : y = 2
  · have e : rollOrd y l = sortR (fun a b => decide (a.name < b.name)) l := by rw [rollOrd]; congr 1; funext a b; simp [ordLt, h2]
    rw [e]
    simp [r_i_Register_ordered_3, r_i_Register_ordered_4, h2]
    refine callQ_M [9] (MCall.arg (sortStable_grants l (fun a b => decide (a.name < b.name)) (fun a b => Lib.compareBytes a.name b.name) n_i_Register_ordered_1 (by omega) (fun x _ y _ => i_Register_ordered_1 x y) (fun x _ y _ => by simp [compare_lt])) (by simp)) (by simp) (by simp) (by simp) (by simp) rfl rfl (by simp) ?_
    simp [r_i_Register_ordered_7, sortR_len]
  · by_cases h3 : y = 3
    · have e : rollOrd y l = sortR (fun a b => decide (armsT a.arms < armsT b.arms)) l := by rw [rollOrd]; congr 1; funext a b; simp [ordLt, h3]
      rw [e]
      simp [r_i_Register_ordered_3, r_i_Register_ordered_5, r_i_Register_ordered_6, h3]
      refine callQ_M [9] (MCall.arg (sortStable_grants l (fun a b => decide (armsT a.arms < armsT b.arms)) (fun a b => Lib.compareBytes (armsT a.arms) (armsT b.arms)) n_i_Register_ordered_2 (by omega) (fun x hx y hy => i_Register_ordered_2 x y (harm x hx) (harm y hy)) (fun x _ y _ => by simp [compare_lt])) (by simp)) (by simp) (by simp) (by simp) (by simp) rfl rfl (by simp) ?_
      simp [r_i_Register_ordered_7, sortR_len]
    · have e : rollOrd y l = l := sortR_none (fun a b => by simp [ordLt, h2, h3]) l
      rw [e]
      simp [r_i_Register_ordered_3, r_i_Register_ordered_5, r_i_Register_ordered_7, h2, h3]
theorem s_l25By (y : Int) : PCall Tryz.prog n_s_l25By [I y] (B (inR y 1 3)) := by
  refine PCall.of fn_s_l25By (by simp) ?_
  simp [c_s_l25By, r_s_l25By_0, r_s_l25By_1]
  exact callQ_v (s_l1In ..) (by simp)
theorem s_l25Before (a b : Grant) (y : Int) (ha : arms a.arms = true) (hb : arms b.arms = true) : PCall Tryz.prog n_s_l25Before [eGrant a, eGrant b, I y] (B (beforeS y a b)) := by
  refine PCall.of fn_s_l25Before (by simp) ?_
  simp [c_s_l25Before, r_s_l25Before_0, r_s_l25Before_1]
  by_cases h2 : y = 2
  · simp [r_s_l25Before_2, r_s_l25Before_3, h2, less_eq, beforeS]
    refine ⟨fun hle => ⟨fun e => ?_, fun e => ⟨hle, fun h => absurd h e⟩⟩, fun h => .inl h⟩
    have hn : ¬ a.name < b.name := List.not_lt.2 hle
    rw [decide_eq_false hn, decide_eq_true e, Bool.false_or, Bool.true_and]
  · by_cases h3 : y = 3
    · simp [r_s_l25Before_2, r_s_l25Before_4, r_s_l25Before_5, p_s_l25Before_5, h3, beforeS]
      refine callD_v (PCall.arg (s_l6Text a.arms ha) (by simp)) ?_ ?_ ?_
      · simp
      · simp
      simp
      refine callD_v (PCall.arg (s_l6Text b.arms hb) (by simp)) ?_ ?_ ?_
      · simp
      · simp
      simp [less_eq]
      exact ⟨oEnd_of (by simp [p_s_l25Before_5]) (by simp), by simp [beforeS, h3]⟩
    · simp [r_s_l25Before_2, r_s_l25Before_4, r_s_l25Before_6, h2, h3, beforeS]
abbrev eIx (i : Nat) : V := I (i : Int)
def ixR (y : Int) (l : List Grant) (i : Nat) : List Nat := sortR (fun i j => beforeS y (l.getD i g00) (l.getD j g00)) (List.range i)
theorem ixR_len (y : Int) (l : List Grant) (i : Nat) : (ixR y l i).length = i := by rw [ixR, sortR_len, List.length_range]
theorem ixR_lt {y : Int} {l : List Grant} {i : Nat} : ∀ q ∈ ixR y l i, q < i := fun q hq => List.mem_range.1 (sortR_mem.1 hq)
theorem ixR_succ {y : Int} {l : List Grant} {i k : Nat} (hk : k ≤ i) (h1 : ∀ q (h : q < (ixR y l i).length), k ≤ q → beforeS y (l.getD i g00) (l.getD (ixR y l i)[q] g00) = true)
    (h2 : ∀ h : 0 < k, beforeS y (l.getD i g00) (l.getD ((ixR y l i)[k - 1]'(by rw [ixR_len]; omega)) g00) = false) : ixR y l (i + 1) = (ixR y l i).take k ++ i :: (ixR y l i).drop k := by
  have e : ixR y l (i + 1) = insR ((fun i j => beforeS y (l.getD i g00) (l.getD j g00)) i) i (ixR y l i) := by rw [ixR, List.range_succ, sortR_snoc]; rfl
  rw [e]
  exact insR_at (by rw [ixR_len]; exact hk) h1 h2
theorem ins_row {R : List Nat} {k i : Nat} (hk : k ≤ R.length) (hi : R.length = i) : List.take (k + 1) (List.take k (List.take k (List.map eIx R)) ++ [I i]) ++ List.take (i - k) (List.drop k (List.map eIx R)) = (R.take k ++ i :: R.drop k).map eIx := by
  have e1 : List.take (k + 1) (List.take k (List.map eIx R) ++ [I i]) = List.take k (List.map eIx R) ++ [I i] := List.take_of_length_le (by simp only [List.length_append, List.length_take, List.length_map, List.length_singleton]; omega)
  have e2 : List.take (i - k) (List.drop k (List.map eIx R)) = List.drop k (List.map eIx R) := List.take_of_length_le (by simp only [List.length_drop, List.length_map]; omega)
  rw [List.take_take, Nat.min_self, e1, e2, List.map_append, List.map_cons, List.map_take, List.map_drop, List.append_assoc]
  rfl
set_option maxHeartbeats 1000000 in
theorem s_l25Order (l : Register) (y : Int) (h : register l = true) : PCall Tryz.prog n_s_l25Order [eRegister l, I y] (.own 1 ((rollIx y l).map eIx)) := by
  have hl := register_len h
  have harm : ∀ g ∈ l, arms g.arms = true := fun g hg => (grantOk_iff (register_grant h g hg)).2.2.2
  refine PCall.of fn_s_l25Order (by simp) ?_
  simp [c_s_l25Order, r_s_l25Order_0, r_s_l25Order_1, r_s_l25Order_2]
  refine loopK (fun i : Nat => ⟨[(1, I y), (2, .ref 2 0 0), (5, .sl 8 0 i), (6, I i)], [(2, ⟨1, [eRegister l]⟩), (8, ⟨1, (ixR y l i).map eIx⟩)], []⟩) (fun i => l.length - i) (fun i => i ≤ l.length) 0 (Wk.list rfl (by simp) (by simp [ixR, sortR])) (by simp) ?_
  intro i hi K hN hR hE
  have hxl := ixR_len y l i
  simp [l_s_l25Order_10, r_s_l25Order_3]
  refine ⟨fun hlt => ?_, fun hge => ?_⟩
  · simp [r_s_l25Order_4]
    refine loopK (fun k : Nat => ⟨[(1, I y), (2, .ref 2 0 0), (5, .sl 8 0 i), (6, I i), (7, I k)], [(2, ⟨1, [eRegister l]⟩), (8, ⟨1, (ixR y l i).map eIx⟩)], []⟩) (fun k => k) (fun k => k ≤ i ∧ ∀ q (h : q < (ixR y l i).length), k ≤ q → beforeS y (l.getD i g00) (l.getD (ixR y l i)[q] g00) = true) i (Wk.list rfl (by simp) (by simp)) ⟨Nat.le_refl _, fun q h h' => by omega⟩ ?_
    rintro k ⟨hk, hq⟩ K2 hN2 hR2 hE2
    simp [l_s_l25Order_7, r_s_l25Order_5, p_s_l25Order_5]
    have fin : (ixR y l (i + 1) = (ixR y l i).take k ++ i :: (ixR y l i).drop k) → K2 (.exit 2) ⟨[(1, I y), (2, .ref 2 0 0), (5, .sl 8 0 i), (6, I i), (7, I k), (37, B false)], [(2, ⟨1, [eRegister l]⟩), (8, ⟨1, (ixR y l i).map eIx⟩)], []⟩ := fun e => by
      refine hE2 _ _ ?_
      simp only [blockK_exit]
      have hk' : k ≤ (ixR y l i).length := by omega
      simp [r_s_l25Order_8, p_s_l25Order_8, r_s_l25Order_9, hxl, hk]
      have hm : ∀ d, ments d (List.take k (List.take k (List.map eIx (ixR y l i)))) = false := fun d => ments_take (ments_take (by simp))
      refine ⟨by unfold lenBound; omega, by unfold lenBound; omega, noOwns_take (noOwns_drop (by simp)), by unfold lenBound; omega, oEnd_of (by simp [p_s_l25Order_8, hm]) (by simp), ?_⟩
      rw [wrap64 (by omega) (by omega), ins_row hk' hxl, ← e, show k + 1 + (i - k) = i + 1 by omega]
      have hT : ∀ s, Wk s ⟨[(1, I y), (2, .ref 2 0 0), (5, .sl 51 0 (i + 1)), (6, I ((i : Int) + 1))], [(51, ⟨1, (ixR y l (i + 1)).map eIx⟩), (2, ⟨1, [eRegister l]⟩)], []⟩ → Wk s ⟨[(1, I y), (2, .ref 2 0 0), (5, .sl 8 0 (i + 1)), (6, I ((i + 1 : Nat) : Int))], [(2, ⟨1, [eRegister l]⟩), (8, ⟨1, (ixR y l (i + 1)).map eIx⟩)], []⟩ :=
        fun s h => Wk.trans h <| Wk.trans (Wk.ren 51 8 (by decide) (by simp)) (Wk.list rfl (by simp [AS.ren, ren, reN]) (by simp [AS.ren, ren, reN, renB]))
      exact hN (i + 1) _ (by omega) (by omega) (hT _ (Wk.list rfl (by simp) (by simp)))
    refine ⟨fun h1 => ⟨hlt, ?_⟩, fun h1 => ?_⟩
    · have hwr : IntKind.i64.wrap ((k : Int) - 1) = ((k - 1 : Nat) : Int) := by rw [wrap64 (by omega) (by omega)]; omega
      have hqk : k - 1 < (ixR y l i).length := by omega
      obtain ⟨q, hqd⟩ : ∃ q, (ixR y l i)[k - 1] = q := ⟨_, rfl⟩
      have hqi : q < i := ixR_lt q (hqd ▸ List.getElem_mem _)
      have hql : q < List.length l := by omega
      have hgi : List.getD l i g00 = l[i] := by simp [hlt]
      have hgq : List.getD l q g00 = l[q] := by simp [hql]
      have hki : k - 1 < i := by omega
      have hqE : (ixR y l i)[k - 1]? = some q := by rw [List.getElem?_eq_getElem hqk, hqd]
      simp [hlt, hwr, hqE, hql, hki]
      refine callD_v (PCall.arg (s_l25Before l[i] l[q] y (harm _ (List.getElem_mem _)) (harm _ (List.getElem_mem _))) (by simp)) ?_ ?_ ?_
      · simp
      · simp
      cases hb : beforeS y l[i] l[q] with
      | true =>
        simp
        refine ⟨oEnd_of (by simp [p_s_l25Order_5]) (by simp), ?_⟩
        simp [r_s_l25Order_6]
        rw [hwr]
        refine hN2 (k - 1) _ (by omega) ⟨by omega, fun p hp h' => ?_⟩ (Wk.list rfl (by simp) (by simp))
        by_cases e : p = k - 1
        · subst e; rw [hqd, hgi, hgq]; exact hb
        · exact hq p hp (by omega)
      | false =>
        simp
        exact ⟨oEnd_of (by simp [p_s_l25Order_5]) (by simp), fin (ixR_succ hk hq fun _ => by rw [hqd, hgi, hgq]; exact hb)⟩
    · subst h1
      exact ⟨oEnd_of (by simp [p_s_l25Order_5]) (by simp), fin (ixR_succ hk hq fun h => by omega)⟩
  · obtain rfl : i = List.length l := by omega
    refine hE _ _ ?_
    simp only [blockK_exit]
    simp [r_s_l25Order_11, hxl]
    rfl
end Go.Proofs.YtbeoijlggphklaaGreat
