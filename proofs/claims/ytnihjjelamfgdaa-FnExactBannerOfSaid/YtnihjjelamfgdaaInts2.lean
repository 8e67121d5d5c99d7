/- The helpers of the laws on rows of rows of whole numbers. -/
import Derived.Test.YtnihjjelamfgdaaCodeInts2
import Derived.Test.YtnihjjelamfgdaaInts
set_option linter.unusedVariables false
set_option linter.unusedSimpArgs false
namespace Go.Proofs.Ytnihjjelamfgdaa
open Go.Abs

theorem w_szIntSS (l : List (List Int)) (left : Int) (h0 : 0 ≤ left) (h1 : left ≤ 1048576) : PCall Try.prog n_w_szIntSS [.ro 1 (l.map roI), I left] (I (rest left (l.length + total l))) := by
  refine PCall.ofL fn_w_szIntSS (by simp) fun hl => ?_
  simp at hl
  simp [r_w_szIntSS_0, r_w_szIntSS_1, c_w_szIntSS]
  rw [wrap64 (by omega) (by omega)]
  simp [r_w_szIntSS_2]
  refine ⟨fun hneg => ?_, fun hge => ?_⟩
  · simp [r_w_szIntSS_3, rest]
    omega
  simp [r_w_szIntSS_4, r_w_szIntSS_11]
  refine loopQ_ix (fun i : Nat => ⟨[(0, .ro 1 (l.map roI)), (1, I (left - l.length - total (l.take i))), (5, I i)], [], []⟩) (fun i => l.length - i) (fun i => i ≤ l.length ∧ l.length + total (l.take i) ≤ left) 0 (Wk.list rfl (by simp) (by simp)) ⟨by simp, by simp; omega⟩ ?_
  rintro i ⟨hi, hb⟩
  simp [l_w_szIntSS_10, r_w_szIntSS_5]
  refine ⟨fun hlt => ?_, fun hge => ?_⟩
  · simp [r_w_szIntSS_6, hlt]
    refine callQ_v (w_szIntS l[i] (left - l.length - total (l.take i)) (by omega) (by omega)) ?_
    have e : total (l.take (i + 1)) = total (l.take i) + l[i].length := by rw [take_succ' hlt, total_append, total_cons, total_nil]; omega
    have hle := total_take_le l (i + 1)
    simp [r_w_szIntSS_7]
    refine ⟨fun hneg => ?_, fun hpos => ?_⟩
    · simp [r_w_szIntSS_8]
      unfold rest at hneg ⊢
      split at hneg <;> split <;> omega
    · simp [r_w_szIntSS_9]
      have := rest_nonneg (by omega : ¬ rest (left - l.length - total (l.take i)) l[i].length < 0)
      rw [wrap64 (by omega) (by omega)]
      refine roundA_of (i + 1) (by omega) ⟨by omega, by omega⟩ (Wk.list rfl ?_ (by simp))
      simp only [rest, e]
      rw [if_neg (by omega)]
      simp
      omega
  · obtain rfl : i = l.length := by omega
    simp at hb ⊢
    unfold rest
    rw [if_neg (by omega)]
    omega

theorem w_toIntSS (l : List (List Int)) (hs : l.length + total l ≤ 1048576) : PCall Try.prog n_w_toIntSS [.ro 1 (l.map roI)] (.own 1 (l.map ownI)) := by
  have hl : l.length ≤ 1048576 := by omega
  have hl' : ∀ r ∈ l, r.length ≤ 1048576 := fun r hr => by have := total_mem hr; omega
  refine PCall.of fn_w_toIntSS (by simp) ?_
  simp [c_w_toIntSS, r_w_toIntSS_0, r_w_toIntSS_1, r_w_toIntSS_2, lenBound]
  refine ⟨by omega, ?_⟩
  simp [r_w_toIntSS_7]
  refine loopQ_ix (fun i : Nat => ⟨[(0, .ro 1 (l.map roI)), (3, .sl 7 0 l.length), (4, I i)], [(7, ⟨1, (l.map ownI).take i ++ List.replicate (l.length - i) (.v (.slice none 0 0))⟩)], []⟩) (fun i => l.length - i) (fun i => i ≤ l.length) 0 (Wk.list rfl (by simp) (by simp)) (by simp) ?_
  intro i hi
  have hlen : ((l.map ownI).take i).length = i := by simp; omega
  simp [l_w_toIntSS_6, r_w_toIntSS_3]
  refine ⟨fun hlt => ?_, fun hge => ?_⟩
  · simp [r_w_toIntSS_4, hlt]
    refine callQ_of (w_toIntS l[i] (hl' _ (List.getElem_mem _))) rfl (.inl (by simp)) (by simp) ?_
    simp [half_get hlen hlt, hlt]
    simp [r_w_toIntSS_5]
    rw [wrap64 (by omega) (by omega)]
    refine roundA_of (i + 1) (by omega) (by omega) (Wk.trans (Wk.fold1 7 i 20 (n := l[i].length) (by rfl) (by rfl) (by simp [half_set hlen hlt, hi]) (by simp) (by simp) (by simp)) (Wk.list rfl (by simp) ?_))
    simp [half_set hlen hlt, take_succ', hlt, app_set hlen]
  · obtain rfl : i = l.length := by omega
    simp

theorem w_eqIntSS (a b : List (List Int)) : PCall Try.prog n_w_eqIntSS [.ro 1 (a.map roI), .ro 1 (b.map roI)] (B (decide (a = b))) := by
  refine PCall.ofL fn_w_eqIntSS (by simp) fun hl => ?_
  simp at hl
  by_cases hl : a.length = b.length
  · simp [c_w_eqIntSS, r_w_eqIntSS_0, r_w_eqIntSS_1, r_w_eqIntSS_2, r_w_eqIntSS_3, r_w_eqIntSS_9, hl]
    refine loopQ_ix (fun i : Nat => ⟨[(0, .ro 1 (a.map roI)), (1, .ro 1 (b.map roI)), (5, I i)], [], []⟩) (fun i => a.length - i) (fun i => i ≤ a.length ∧ a.take i = b.take i) 0 (Wk.list rfl (by simp) (by simp)) (by simp) ?_
    rintro i ⟨hi, hj⟩
    simp [l_w_eqIntSS_8, r_w_eqIntSS_4]
    refine ⟨fun hlt => ?_, fun hge => ?_⟩
    · have hlb : i < b.length := by omega
      simp [r_w_eqIntSS_5, p_w_eqIntSS_5, hlt, hlb]
      refine callD_v (w_eqIntS ..) ?_ ?_ ?_
      · simp
      · simp
      simp
      refine ⟨oEnd_of (by first | kernel_rfl | simp) (by first | kernel_rfl | simp), fun hne => ?_, fun he => ?_⟩
      · simp [r_w_eqIntSS_6]
        rintro rfl
        exact hne rfl
      · simp [r_w_eqIntSS_7]
        rw [wrap64 (by omega) (by omega)]
        refine roundA_of (i + 1) (by omega) ⟨by omega, ?_⟩ (Wk.list rfl (by simp) (by simp))
        rw [take_succ' hlt, take_succ' hlb, hj, he]
    · rw [List.take_of_length_le (by omega), List.take_of_length_le (by omega)] at hj
      simp [hj]
  · simp [c_w_eqIntSS, r_w_eqIntSS_0, r_w_eqIntSS_1, r_w_eqIntSS_2, hl]
    refine ⟨fun _ e => hl (by rw [e]), fun e => absurd (by omega) hl⟩

/-- The marks of rows. -/
def marksS : List (List Int) → Int → List (List Int)
  | [], _ => []
  | r :: l, k => marks k r.length :: marksS l (k + r.length)
theorem marksS_append (a b : List (List Int)) (k : Int) : marksS (a ++ b) k = marksS a k ++ marksS b (k + total a) := by
  induction a generalizing k with
  | nil => simp [marksS]
  | cons r a ih => simp [marksS, ih, Int.add_assoc]
theorem marksS_len (l : List (List Int)) (k : Int) : (marksS l k).length = l.length := by
  induction l generalizing k with
  | nil => rfl
  | cons r l ih => simp [marksS, ih]
theorem marksS_succ {l : List (List Int)} {i : Nat} (k : Int) (h : i < l.length) : marksS (l.take (i + 1)) k = marksS (l.take i) k ++ [marks (k + total (l.take i)) l[i].length] := by
  rw [take_succ' h, marksS_append]; simp [marksS]

theorem w_markIntSS (l : List (List Int)) (k : Int) (hl : l.length ≤ 10000000) (ht : total l ≤ 10000000) (hk : 0 ≤ k) (hk' : k ≤ 10000000) :
    MCall Try.prog n_w_markIntSS [⟨1, l.map ownI⟩] [.sl (mid 0) 0 l.length, I k] (I (k + total l)) [some ⟨1, (marksS l k).map ownI⟩] := by
  refine MCall.of fn_w_markIntSS (by simp) rfl (by simp) ?_
  simp [c_w_markIntSS, r_w_markIntSS_0, r_w_markIntSS_1, r_w_markIntSS_6]
  refine loopQ_ix (fun i : Nat => ⟨[(0, .sl 1000000 0 l.length), (1, I (k + total (l.take i))), (5, I i)], [(1000000, ⟨1, (marksS (l.take i) k ++ l.drop i).map ownI⟩)], [1000000]⟩) (fun i => l.length - i)
    (fun i => i ≤ l.length) 0 (Wk.list rfl (by simp) (by simp [marksS])) (by simp) ?_
  intro i hi
  simp [l_w_markIntSS_5, r_w_markIntSS_2]
  refine ⟨fun hlt => ?_, fun hge => ?_⟩
  · have hle := total_take_le l i
    have hm : l[i].length ≤ total l := total_mem (List.getElem_mem _)
    have hes : (List.map ownI (marksS (l.take i) k) ++ List.drop i (List.map ownI l))[i]? = some (ownI l[i]) := by
      rw [List.getElem?_append_right (by simp [marksS_len]; omega)]
      simp [marksS_len, Nat.min_eq_left hi, hlt]
    have hset : ∀ v, (List.map ownI (marksS (l.take i) k) ++ List.drop i (List.map ownI l)).set i v = List.map ownI (marksS (l.take i) k) ++ v :: List.drop (i + 1) (List.map ownI l) := fun v => by
      rw [List.set_append_right _ _ (by simp [marksS_len]; omega)]
      rw [drop_cons (l := List.map ownI l) (by simpa using hlt)]
      simp [marksS_len, Nat.min_eq_left hi]
    have hget : ∀ v : V, (List.map ownI (marksS (l.take i) k) ++ v :: List.drop (i + 1) (List.map ownI l))[i]? = some v := fun v => by
      rw [List.getElem?_append_right (by simp [marksS_len]; omega)]
      simp [marksS_len, Nat.min_eq_left hi]
    refine wk_of _ (Wk.unfold1 1000000 i 777 (sz := 1) (es := ints l[i]) (by rfl) ?_ (by simp)) ?_
    · simpa using hes
    simp [r_w_markIntSS_3, hset, hget, hlt]
    refine callQ_m [777] (MCall.arg (w_markIntS l[i] (k + total (l.take i)) (by omega) (by omega) (by omega)) (by simp)) (by simp) (by simp) (by simp) (by simp) ?_
    simp [r_w_markIntSS_4]
    rw [wrap64 (by omega) (by omega)]
    refine roundA_of (i + 1) (by omega) (by omega) (Wk.trans (Wk.fold1 1000000 i 777 (by rfl) (by rfl) (hget _) (by simp [marks_len]) (by simp) (by simp)) (Wk.list rfl ?_ ?_))
    · simp only [take_succ' hlt, total_append, total_cons, total_nil]
      simp
      omega
    · rw [marksS_succ k hlt]
      simp [rmbs, List.set_append_right, marksS_len, Nat.min_eq_left hi]
  · obtain rfl : i = l.length := by omega
    simp

def heldS (l : List (List Int)) (k : Int) : Int := if l = marksS l k then k + total l else -1
theorem marksS_total (l : List (List Int)) (k : Int) : total (marksS l k) = total l := by
  induction l generalizing k with
  | nil => rfl
  | cons r l ih => simp [marksS, ih, marks_len]
theorem marksS_idem (l : List (List Int)) (k : Int) : marksS (marksS l k) k = marksS l k := by
  induction l generalizing k with
  | nil => rfl
  | cons r l ih => simp [marksS, ih, marks_len]

theorem w_heldIntSS (l : List (List Int)) (k : Int) (hl : l.length ≤ 10000000) (ht : total l ≤ 10000000) (hk : 0 ≤ k) (hk' : k ≤ 10000000) :
    PCall Try.prog n_w_heldIntSS [.ro 1 (l.map roI), I k] (I (heldS l k)) := by
  refine PCall.of fn_w_heldIntSS (by simp) ?_
  simp [c_w_heldIntSS, r_w_heldIntSS_0, r_w_heldIntSS_1, r_w_heldIntSS_8]
  refine loopQ_ix (fun i : Nat => ⟨[(0, .ro 1 (l.map roI)), (1, I (k + total (l.take i))), (5, I i)], [], []⟩) (fun i => l.length - i)
    (fun i => i ≤ l.length ∧ l.take i = marksS (l.take i) k) 0 (Wk.list rfl (by simp) (by simp)) (by simp [marksS]) ?_
  rintro i ⟨hi, hm⟩
  simp [l_w_heldIntSS_7, r_w_heldIntSS_2]
  refine ⟨fun hlt => ?_, fun hge => ?_⟩
  · have hle := total_take_le l i
    have hmem : l[i].length ≤ total l := total_mem (List.getElem_mem _)
    simp [r_w_heldIntSS_3, hlt]
    refine callQ_v (w_heldIntS l[i] (k + total (l.take i)) (by omega) (by omega) (by omega)) ?_
    simp [r_w_heldIntSS_4]
    refine ⟨fun hneg => ?_, fun hpos => ?_⟩
    · simp [r_w_heldIntSS_5]
      unfold heldS
      rw [if_neg]
      intro e
      have e2 : l.take (i + 1) = marksS (l.take (i + 1)) k := by
        have h3 : (marksS l k).take (i + 1) = marksS (l.take (i + 1)) k := by
          conv => lhs; rw [← List.take_append_drop (i + 1) l, marksS_append]
          rw [List.take_append_of_le_length (by rw [marksS_len]; simp; omega), List.take_of_length_le (by rw [marksS_len]; simp; omega)]
        rw [← h3, ← e]
      rw [marksS_succ k hlt, take_succ' hlt, ← hm] at e2
      have e3 := List.append_cancel_left e2
      simp only [List.cons.injEq, and_true] at e3
      unfold held at hneg
      rw [if_pos e3] at hneg
      omega
    · simp [r_w_heldIntSS_6]
      rw [wrap64 (by omega) (by omega)]
      unfold held at hpos ⊢
      split at hpos
      · rename_i e3
        rw [if_pos e3]
        refine roundA_of (i + 1) (by omega) ⟨by omega, ?_⟩ (Wk.list rfl ?_ (by simp))
        · rw [marksS_succ k hlt, take_succ' hlt, ← hm, ← e3]
        · simp only [take_succ' hlt, total_append, total_cons, total_nil]
          simp
          omega
      · omega
  · obtain rfl : i = l.length := by omega
    simp at hm ⊢
    unfold heldS
    rw [if_pos hm]
theorem held_marks_IntSS (l : List (List Int)) (k : Int) : heldS (marksS l k) k = k + total l := by
  unfold heldS
  rw [if_pos (marksS_idem l k).symm, marksS_total]
end Go.Proofs.Ytnihjjelamfgdaa
