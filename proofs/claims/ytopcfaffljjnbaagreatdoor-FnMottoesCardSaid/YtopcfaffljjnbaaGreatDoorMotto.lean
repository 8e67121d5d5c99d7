/- Mottoes: the test, the words, the longest word; in the program and in the reference. -/
import Derived.Test.YtopcfaffljjnbaaGreatDoorTrim
import Derived.Test.YtopcfaffljjnbaaGreatDoorSpecSplit
import Derived.Test.YtopcfaffljjnbaaGreatDoorMottoLaw
set_option linter.unusedVariables false
set_option linter.unusedSimpArgs false
namespace Go.Proofs.YtopcfaffljjnbaaGreatDoor
open Go.Abs

theorem AZs_is (x : UInt8) : AZs.contains x = isAZ x := by
  rw [Bool.eq_iff_iff, List.contains_iff_mem]
  unfold isAZ
  rw [decide_eq_true_iff]
  have h : ∀ j : Fin 256, UInt8.ofNat j.1 ∈ AZs ↔ 65 ≤ j.1 ∧ j.1 ≤ 90 := by decide +kernel
  have := h ⟨x.toNat, UInt8.toNat_lt x⟩
  simp only [UInt8.ofNat_toNat] at this
  rw [this]; omega
theorem u8_32 {x : UInt8} : (x.toNat : Int) = 32 ↔ x = 32 :=
  ⟨fun h => UInt8.toNat_inj.1 (by have : x.toNat = 32 := by exact_mod_cast h
                                  simpa using this), fun h => by subst h; rfl⟩
def trimAZ (w : List UInt8) : List UInt8 := (w.reverse.dropWhile AZs.contains).reverse.dropWhile AZs.contains
theorem trimAZ_nil {w : List UInt8} : trimAZ w = [] ↔ w.all isAZ = true := by
  unfold trimAZ
  rw [trim_nil]
  have : (fun x => AZs.contains x) = isAZ := funext AZs_is
  show w.all (fun x => AZs.contains x) = true ↔ _
  rw [this]

theorem i_IsValidMotto (s : List UInt8) : PCall Tryz.prog n_i_IsValidMotto [S s] (B (motto s)) := by
  refine PCall.ofL fn_i_IsValidMotto (by simp) fun hs => ?_
  simp at hs
  simp [c_i_IsValidMotto, r_i_IsValidMotto_0, r_i_IsValidMotto_1]
  refine callQ_v (i_inside ..) ?_
  cases h0 : inR s.length 1 60 with
  | false => simp [r_i_IsValidMotto_2, motto, h0]
  | true =>
  have h0' := inR_iff.1 h0
  have hm : motto s = (parts 32 s).all wordOk := by rw [motto_parts, h0, Bool.true_and]
  have hle : (parts 32 s).length ≤ 61 := by have := parts_count 32 s; have := count_le 32 s; omega
  have hsp := strings_Split s 32 (by omega)
  rw [hm]
  generalize parts 32 s = L at hle hsp ⊢
  simp [r_i_IsValidMotto_3]
  refine callQ_of hsp rfl (.inl (by simp)) (by simp) ?_
  simp [r_i_IsValidMotto_10]
  refine loopK (fun i : Nat => ⟨[(10, .sl 10 0 L.length), (11, I L.length), (12, I i)], [(10, ⟨1, L.map S⟩)], []⟩) (fun i => L.length - i) (fun i => i ≤ L.length ∧ (L.take i).all wordOk = true) 0 (Wk.list rfl (by simp) (by simp)) (by simp) ?_
  rintro i ⟨hi, hj⟩ K hN hR hE
  simp [r_i_IsValidMotto_4, l_i_IsValidMotto_9]
  refine ⟨fun hlt => ?_, fun hge => ?_⟩
  · simp [r_i_IsValidMotto_5, hlt]
    have hw : L[i] ∈ L := List.getElem_mem _
    have hbad : ∀ {w}, w ∈ L → wordOk w = false → L.all wordOk = false := fun {w} hm hf => by
      rw [← Bool.not_eq_true, List.all_eq_true]
      intro h; rw [h w hm] at hf; cases hf
    simp [r_i_IsValidMotto_6]
    refine ⟨fun hne => ?_, fun he => ?_⟩
    · refine callQ_v (strings_Trim_AZ L[i]) ?_
      have ht := trimAZ_nil (w := L[i])
      unfold trimAZ at ht
      generalize (L[i].reverse.dropWhile AZs.contains).reverse.dropWhile AZs.contains = T at ht ⊢
      cases hT : T with
      | nil =>
        have hok : wordOk L[i] = true := by
          unfold wordOk
          rw [ht.1 hT, Bool.and_true]
          cases hL : L[i] with
          | nil => exact absurd hL hne
          | cons _ _ => rfl
        simp [r_i_IsValidMotto_8]
        rw [wrap64 (by omega) (by omega)]
        refine hN (i + 1) _ (by omega) ⟨by omega, ?_⟩ (Wk.list rfl (by simp) (by simp))
        rw [List.take_succ_eq_append_getElem hlt, List.all_append, hj]
        simp [hok]
      | cons x T' =>
        have hok : wordOk L[i] = false := by
          unfold wordOk
          have : L[i].all isAZ = false := by
            rw [← Bool.not_eq_true]
            intro h
            rw [ht.2 h] at hT; cases hT
          rw [this, Bool.and_false]
        simp [r_i_IsValidMotto_7]
        refine hR _ ?_
        simp [hbad hw hok]
    · have : wordOk L[i] = false := by rw [he]; rfl
      simp [r_i_IsValidMotto_7]
      refine hR _ ?_
      simp [hbad hw this]
  · obtain rfl : i = L.length := by omega
    refine hE _ _ ?_
    rw [List.take_length] at hj
    simp only [blockK_exit]
    simp [r_i_IsValidMotto_10, hj]

theorem s_l23Good (s : List UInt8) : PCall Tryz.prog n_s_l23Good [S s] (B (motto s)) := by
  refine PCall.ofL fn_s_l23Good (by simp) fun hs => ?_
  simp at hs
  simp [c_s_l23Good, r_s_l23Good_0, r_s_l23Good_1]
  refine callQ_v (s_l1In ..) ?_
  cases h0 : inR s.length 1 60 with
  | false => simp [r_s_l23Good_2, motto, h0]
  | true =>
  have h0' := inR_iff.1 h0
  simp
  rw [wrap64 (by omega) (by omega)]
  have hm : motto s = scan true s := by unfold motto; rw [h0, Bool.true_and]
  have hlast : s[s.length - 1]? = s.getLast? := by rw [List.getLast?_eq_getElem?]
  have h00 : s[0]?.getD 0 = 32 → motto s = false := fun h => by
    rw [hm, ← Bool.not_eq_true, scan_iff]
    rintro ⟨h1, _⟩
    have := h1 0 (by omega)
    rw [List.getElem?_eq_getElem (by omega), Option.getD_some] at h
    rw [if_pos h, if_pos rfl] at this
    cases this
  have h0l : s[s.length - 1]?.getD 0 = 32 → motto s = false := fun h => by
    rw [hm, ← Bool.not_eq_true, scan_iff]
    rintro ⟨_, h1⟩
    rw [if_neg (by intro e; subst e; simp at h0')] at h1
    rw [hlast] at h
    cases hg : s.getLast? with
    | none => rw [hg] at h; simp at h
    | some x => rw [hg] at h h1; simp at h; subst h; simp at h1
  refine ⟨by omega, fun h1 => ⟨⟨by omega, by omega⟩, fun h2 => ?_, fun h2 => ?_⟩, fun h1 => ?_⟩
  · have e : ((s.length : Int) - 1).toNat = s.length - 1 := by omega
    rw [e, u8_32] at h2
    simp [r_s_l23Good_2, h0l h2]
  · simp [r_s_l23Good_3, r_s_l23Good_12]
    refine loopK (fun i : Nat => ⟨[(0, S s), (3, I i)], [], []⟩) (fun i => s.length - i) (fun i => i ≤ s.length ∧ ∀ j, j < i → okAt true s j) 0 (Wk.list rfl (by simp) (by simp)) (by simp) ?_
    rintro i ⟨hi, hj⟩ K hN hR hE
    have hbad : ¬ okAt true s i → motto s = false := fun h => by
      rw [hm, ← Bool.not_eq_true, scan_iff]
      exact fun h' => h (h'.1 i)
    simp [r_s_l23Good_4, l_s_l23Good_11]
    refine ⟨fun hlt => ?_, fun hge => ?_⟩
    · have hgo : okAt true s i → ∀ j, j < i + 1 → okAt true s j := fun h j hji => by
        by_cases e : j = i
        · subst e; exact h
        · exact hj j (by omega)
      simp [r_s_l23Good_5, hlt]
      refine ⟨fun hsp => ?_, fun hsp => ?_⟩
      · rw [u8_32] at hsp
        have hi0 : i ≠ 0 := by
          rintro rfl
          rw [List.getElem?_eq_getElem (by omega), Option.getD_some] at h1
          exact h1 (by rw [u8_32]; exact hsp)
        simp [r_s_l23Good_6]
        rw [wrap64 (by omega) (by omega)]
        have e : ((i : Int) - 1).toNat = i - 1 := by omega
        rw [e, List.getElem?_eq_getElem (by omega)]
        refine ⟨⟨by omega, by omega⟩, fun h => ?_, fun h => ?_⟩
        · rw [Option.getD_some, u8_32] at h
          simp [r_s_l23Good_7]
          refine hR _ ?_
          have := hbad (fun ho => by
            have := ho hlt
            rw [if_pos hsp, if_neg hi0, List.getElem?_eq_getElem (by omega), h] at this
            exact this rfl)
          simp [this]
        · rw [Option.getD_some, u8_32] at h
          simp [r_s_l23Good_10]
          rw [wrap64 (by omega) (by omega)]
          refine hN (i + 1) _ (by omega) ⟨by omega, hgo fun _ => ?_⟩ (Wk.list rfl (by simp) (by simp))
          rw [if_pos hsp, if_neg hi0, List.getElem?_eq_getElem (by omega)]
          simpa using h
      · rw [u8_32] at hsp
        have hno : isAZ s[i] = false → motto s = false := fun h => hbad (fun ho => by
          have := ho hlt
          rw [if_neg hsp, h] at this; cases this)
        simp [r_s_l23Good_8, hlt]
        refine ⟨fun g1 => ⟨fun g2 => ?_, fun g2 => ?_⟩, fun g1 => ?_⟩
        · have := hno (by unfold isAZ; rw [decide_eq_false_iff_not]; omega)
          simp [r_s_l23Good_9]
          refine hR _ ?_
          simp [this]
        · simp [r_s_l23Good_10]
          rw [wrap64 (by omega) (by omega)]
          refine hN (i + 1) _ (by omega) ⟨by omega, hgo fun _ => ?_⟩ (Wk.list rfl (by simp) (by simp))
          rw [if_neg hsp]
          unfold isAZ
          rw [decide_eq_true_iff]; omega
        · have := hno (by unfold isAZ; rw [decide_eq_false_iff_not]; omega)
          simp [r_s_l23Good_9]
          refine hR _ ?_
          simp [this]
    · obtain rfl : i = s.length := by omega
      refine hE _ _ ?_
      have : motto s = true := by
        rw [hm, scan_iff]
        refine ⟨fun j hj' => hj j hj' hj', ?_⟩
        rw [if_neg (by intro e; subst e; simp at h0')]
        intro hg
        have e : ((s.length : Int) - 1).toNat = s.length - 1 := by omega
        rw [e, hlast, hg] at h2
        exact h2 rfl
      simp only [blockK_exit]
      simp [r_s_l23Good_12, this]
  · rw [u8_32] at h1
    simp [r_s_l23Good_2, h00 h1]

theorem i_isWidth (n : Int) : PCall Tryz.prog n_i_isWidth [I n] (B (inR n 1 40)) := by
  refine PCall.of fn_i_isWidth (by simp) ?_
  simp [c_i_isWidth, r_i_isWidth_0, r_i_isWidth_1]
  exact callQ_v (i_inside ..) (by simp)

/-- The length of the longest word. -/
def most (l : List (List UInt8)) : Nat := l.foldl (fun m w => max m w.length) 0
theorem most_snoc (l : List (List UInt8)) (w : List UInt8) : most (l ++ [w]) = max (most l) w.length := by simp [most]
theorem fold_le : ∀ (l : List (List UInt8)) (m : Nat) (n : Nat), l.foldl (fun m w => max m w.length) m ≤ n ↔ m ≤ n ∧ ∀ w ∈ l, w.length ≤ n
  | [], m, n => by simp
  | w :: l, m, n => by
    rw [List.foldl_cons, fold_le l]
    simp only [List.mem_cons, forall_eq_or_imp]
    constructor
    · rintro ⟨h1, h2⟩; exact ⟨by omega, by omega, h2⟩
    · rintro ⟨h1, h2, h3⟩; exact ⟨by omega, h3⟩
theorem most_le {l : List (List UInt8)} {n : Nat} : most l ≤ n ↔ ∀ w ∈ l, w.length ≤ n := by
  unfold most
  rw [fold_le]; simp
theorem parts_short {c : UInt8} : ∀ {s w : List UInt8}, w ∈ parts c s → w.length ≤ s.length
  | [], w, h => by
    rw [parts] at h
    simp at h; subst h; simp
  | x :: s, w, h => by
    obtain ⟨p, ps, h1, h2⟩ := parts_one (c := c) (x := x) (s := s)
    rw [h2] at h
    have ih : ∀ v ∈ p :: ps, v.length ≤ s.length := fun v hv => parts_short (by rw [h1]; exact hv)
    have hp := ih p (by simp)
    split at h
    · rcases List.mem_cons.1 h with rfl | h
      · simp
      · have := ih w h; simp; omega
    · rcases List.mem_cons.1 h with rfl | h
      · simp; omega
      · have := ih w (by simp [h]); simp; omega
theorem most_parts (c : UInt8) (s : List UInt8) : most (parts c s) ≤ s.length := most_le.2 fun _ hw => parts_short hw
theorem most_take {l : List (List UInt8)} {n : Nat} (i : Nat) (h : most l ≤ n) : most (l.take i) ≤ n := most_le.2 fun w hw => most_le.1 h w (List.mem_of_mem_take hw)

theorem i_longest (s : List UInt8) (hs : s.length ≤ 1048576) : PCall Tryz.prog n_i_longest [S s] (I (most (parts 32 s))) := by
  refine PCall.of fn_i_longest (by simp) ?_
  have hle : (parts 32 s).length ≤ 1048577 := by have := parts_count 32 s; have := count_le 32 s; omega
  have hm := most_parts 32 s
  have hsp := strings_Split s 32 hs
  generalize parts 32 s = L at hle hsp hm ⊢
  simp [c_i_longest, r_i_longest_0, r_i_longest_1]
  simp [r_i_longest_2]
  refine callQ_of hsp rfl (.inl (by simp)) (by simp) ?_
  simp [r_i_longest_8]
  refine loopK (fun i : Nat => ⟨[(3, I (most (L.take i))), (7, .sl 7 0 L.length), (8, I L.length), (9, I i)], [(7, ⟨1, L.map S⟩)], []⟩) (fun i => L.length - i) (fun i => i ≤ L.length) 0 (Wk.list rfl (by simp [most]) (by simp)) (by simp) ?_
  intro i hi K hN hR hE
  simp [r_i_longest_3, l_i_longest_7]
  refine ⟨fun hlt => ?_, fun hge => ?_⟩
  · simp [r_i_longest_4, hlt]
    simp [r_i_longest_5]
    simp [r_i_longest_6]
    rw [wrap64 (by omega) (by omega)]
    refine hN (i + 1) _ (by omega) (by omega) (Wk.list rfl ?_ (by simp))
    have : ((if most (L.take i) < L[i].length then (L[i].length : Int) else (most (L.take i) : Int))) = most (L.take (i + 1)) := by
      rw [List.take_succ_eq_append_getElem hlt, most_snoc]
      split <;> omega
    simp [this]
  · obtain rfl : i = L.length := by omega
    refine hE _ _ ?_
    simp only [blockK_exit]
    simp [r_i_longest_8]

/-- A motto whose words fit into a line. -/
def onScroll (s : List UInt8) (w : Int) : Bool := motto s && (inR w 1 40 && decide ((most (parts 32 s) : Int) ≤ w))
theorem i_isOnScroll (s : List UInt8) (w : Int) (hs : s.length ≤ 1048576) : PCall Tryz.prog n_i_isOnScroll [S s, I w] (B (onScroll s w)) := by
  refine PCall.of fn_i_isOnScroll (by simp) ?_
  simp [c_i_isOnScroll, r_i_isOnScroll_0, r_i_isOnScroll_1]
  refine callQ_v (i_IsValidMotto s) ?_
  cases h1 : motto s with
  | false => simp [onScroll, h1]
  | true =>
  simp
  refine callQ_v (i_isWidth w) ?_
  cases h2 : inR w 1 40 with
  | false => simp [onScroll, h1, h2]
  | true =>
  simp
  refine callQ_v (i_longest s hs) ?_
  simp [onScroll, h1, h2]

/-- The lengths of words, with a place behind each. -/
def tot (l : List (List UInt8)) : Nat := (l.map fun w => w.length + 1).sum
theorem tot_append (a b : List (List UInt8)) : tot (a ++ b) = tot a + tot b := by simp [tot]
theorem joinW_tot : ∀ l : List (List UInt8), (joinW l).length ≤ tot l
  | [] => by simp [joinW]
  | [x] => by simp [joinW, tot]
  | x :: y :: l => by
    have ih := joinW_tot (y :: l)
    rw [joinW, List.length_append, List.length_cons]
    simp only [tot, List.map_cons, List.sum_cons] at ih ⊢
    omega
theorem joinW_le (L : List (List UInt8)) (i m : Nat) : (joinW ((L.drop i).take m)).length ≤ tot L := by
  have h := joinW_tot ((L.drop i).take m)
  have : tot L = tot (L.take i) + (tot ((L.drop i).take m) + tot ((L.drop i).drop m)) := by
    rw [← tot_append, ← tot_append, List.take_append_drop, List.take_append_drop]
  omega
theorem tot_parts (c : UInt8) : ∀ s : List UInt8, tot (parts c s) = s.length + 1
  | [] => rfl
  | x :: s => by
    obtain ⟨p, ps, h1, h2⟩ := parts_one (c := c) (x := x) (s := s)
    have ih := tot_parts c s
    rw [h1] at ih
    rw [h2]
    split
    · simp [tot] at ih ⊢; omega
    · simp [tot] at ih ⊢; omega
theorem s_l23Line (L : List (List UInt8)) (i k : Nat) (hik : i ≤ k) (hk : k ≤ L.length) (hL : L.length ≤ 1048577) (hT : tot L ≤ 1048577) : PCall Tryz.prog n_s_l23Line [.ro 1 (L.map S), I i, I k] (S (joinW ((L.drop i).take (k - i)))) := by
  refine PCall.of fn_s_l23Line (by simp) ?_
  simp [c_s_l23Line, r_s_l23Line_0, r_s_l23Line_1]
  simp [r_s_l23Line_2, r_s_l23Line_9]
  refine loopK (fun j : Nat => ⟨[(0, .ro 1 (L.map S)), (1, I i), (2, I k), (7, S (joinW ((L.drop i).take (j - i)))), (8, I j)], [], []⟩) (fun j => k - j) (fun j => i ≤ j ∧ j ≤ k) i (Wk.list rfl (by simp [joinW]) (by simp)) (by simpa using hik) ?_
  rintro j ⟨h1, h2⟩ K hN hR hE
  simp [r_s_l23Line_3, l_s_l23Line_8]
  refine ⟨fun hlt => ?_, fun hge => ?_⟩
  · have hjl : j < L.length := by omega
    have hd : (L.drop i)[j - i]'(by rw [List.length_drop]; omega) = L[j] := by
      rw [List.getElem_drop]; congr 1; omega
    have hs : (L.drop i).take (j + 1 - i) = (L.drop i).take (j - i) ++ [L[j]] := by
      rw [show j + 1 - i = j - i + 1 by omega, List.take_succ_eq_append_getElem (by rw [List.length_drop]; omega), hd]
    simp [r_s_l23Line_4]
    refine ⟨fun hgt => ?_, fun hle => ?_⟩
    · have hne : (L.drop i).take (j - i) ≠ [] := by
        intro h
        have := congrArg List.length h
        simp at this; omega
      simp [r_s_l23Line_5]
      simp [r_s_l23Line_6, hjl]
      simp [r_s_l23Line_7]
      rw [wrap64 (by omega) (by omega)]
      have hb := joinW_le L i (j + 1 - i)
      rw [hs, joinW_snoc _ _ hne, List.length_append, List.length_cons] at hb
      refine ⟨by omega, by omega, ?_⟩
      refine hN (j + 1) _ (by omega) ⟨by omega, by omega⟩ (Wk.list rfl ?_ (by simp))
      rw [hs, joinW_snoc _ _ hne]
      simp
    · obtain rfl : j = i := by omega
      simp [r_s_l23Line_6, hjl]
      simp [r_s_l23Line_7]
      rw [wrap64 (by omega) (by omega)]
      have hb := joinW_le L j (j + 1 - j)
      rw [hs] at hb
      simp [joinW] at hb
      refine ⟨by simp [joinW]; omega, ?_⟩
      refine hN (j + 1) _ (by omega) ⟨by omega, by omega⟩ (Wk.list rfl ?_ (by simp))
      rw [hs]
      simp [joinW]
  · obtain rfl : j = k := by omega
    refine hE _ _ ?_
    simp only [blockK_exit]
    simp [r_s_l23Line_9]

theorem s_l23Fits (s : List UInt8) (w : Int) (hs : s.length ≤ 1048576) : PCall Tryz.prog n_s_l23Fits [S s, I w] (B (onScroll s w)) := by
  refine PCall.of fn_s_l23Fits (by simp) ?_
  simp [c_s_l23Fits, r_s_l23Fits_0, r_s_l23Fits_1]
  refine callQ_v (s_l23Good s) ?_
  cases h1 : motto s with
  | false => simp [r_s_l23Fits_2, onScroll, h1]
  | true =>
  simp
  refine callQ_v (s_l1In ..) ?_
  cases h2 : inR w 1 40 with
  | false => simp [r_s_l23Fits_2, onScroll, h1, h2]
  | true =>
  have h2' := inR_iff.1 h2
  have hm : onScroll s w = decide ((most (parts 32 s) : Int) ≤ w) := by simp only [onScroll, h1, h2, Bool.true_and]
  rw [hm]
  have hle : (parts 32 s).length ≤ 1048577 := by have := parts_count 32 s; have := count_le 32 s; omega
  have hsp := s_l1Split s 32 (by omega)
  generalize parts 32 s = L at hle hsp ⊢
  simp [r_s_l23Fits_3]
  refine callQ_of hsp rfl (.inl (by simp)) (by simp) ?_
  simp [r_s_l23Fits_4]
  refine loopK (fun i : Nat => ⟨[(1, I w), (5, .sl 16 0 L.length), (6, I i)], [(16, ⟨1, L.map S⟩)], []⟩) (fun i => L.length - i) (fun i => i ≤ L.length ∧ ∀ x ∈ L.take i, (x.length : Int) ≤ w) 0 (Wk.list rfl (by simp) (by simp)) (by simp) ?_
  rintro i ⟨hi, hj⟩ K hN hR hE
  simp [r_s_l23Fits_5, l_s_l23Fits_9]
  refine ⟨fun hlt => ?_, fun hge => ?_⟩
  · simp [r_s_l23Fits_6, hlt]
    refine ⟨fun h => ?_, fun h => ?_⟩
    · have : ¬ (most L : Int) ≤ w := by
        intro h'
        have : most L ≤ w.toNat := by omega
        have := most_le.1 this L[i] (List.getElem_mem _)
        omega
      simp [r_s_l23Fits_7]
      refine hR _ ?_
      simp [this]
    · simp [r_s_l23Fits_8]
      rw [wrap64 (by omega) (by omega)]
      refine hN (i + 1) _ (by omega) ⟨by omega, fun x hx => ?_⟩ (Wk.list rfl (by simp) (by simp))
      rw [List.take_succ_eq_append_getElem hlt, List.mem_append, List.mem_singleton] at hx
      rcases hx with hx | rfl
      · exact hj x hx
      · omega
  · obtain rfl : i = L.length := by omega
    refine hE _ _ ?_
    rw [List.take_length] at hj
    have : (most L : Int) ≤ w := by
      have : most L ≤ w.toNat := most_le.2 fun x hx => by have := hj x hx; omega
      omega
    simp only [blockK_exit]
    simp [r_s_l23Fits_10, this]
end Go.Proofs.YtopcfaffljjnbaaGreatDoor
