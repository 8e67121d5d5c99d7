/- The texts by which the laws mark memory. -/
import Derived.Test.YtcfmohcpfmedaaaDoorCodeMarkText
import Derived.Test.YtcfmohcpfmedaaaDoorTexts
set_option linter.unusedVariables false
set_option linter.unusedSimpArgs false
namespace Go.Proofs.YtcfmohcpfmedaaaDoor
open Go.Abs

def markT (k : Nat) : List UInt8 := 109 :: digits k
theorem wrap8 {n : Int} (h1 : 0 ≤ n) (h2 : n ≤ 255) : IntKind.u8.wrap n = n := by
  simp [IntKind.wrap, IntKind.signed, IntKind.bits]; omega
theorem w_markText (k : Nat) (hk : k ≤ 100000000) : PCall Tryd.prog n_w_markText [I k] (S (markT k)) := by
  refine PCall.of fn_w_markText (by simp) ?_
  simp [c_w_markText, r_w_markText_0, r_w_markText_1]
  refine ⟨fun h => ?_, fun h => ?_⟩
  · have : k = 0 := by omega
    subst this
    simp [r_w_markText_2, markT, digits_small]
  · simp [r_w_markText_3, l_w_markText_7]
    refine loopK (fun p : Nat × List UInt8 => ⟨[(0, I p.1), (3, S p.2)], [], []⟩) (fun p => p.1) (fun p => p.1 ≤ k ∧ p.2.length ≤ 2 * (k - p.1) ∧ (0 < p.1 → digits k = digits p.1 ++ p.2) ∧ (p.1 = 0 → digits k = p.2)) (k, []) (Wk.list rfl (by simp) (by simp)) ⟨by simp, by simp, by simp, fun h' => by dsimp only at h'; omega⟩ ?_
    rintro ⟨j, suf⟩ ⟨hj, hl, h1, h2⟩ K hN hR hE
    dsimp only at hj hl h1 h2
    simp [r_w_markText_4]
    refine ⟨fun hlt => ?_, fun hge => ?_⟩
    · obtain ⟨m, hm, hmj⟩ : ∃ m, m < 10 ∧ j % 10 = m := ⟨j % 10, by omega, rfl⟩
      have e2 : (j : Int).tmod 10 = (m : Int) := by rw [Int.tmod_eq_emod_of_nonneg (by omega)]; omega
      have hd := h1 (by omega)
      simp [r_w_markText_5]
      rw [e2, wrap64 (by omega) (by omega), wrap8 (by omega) (by omega)]
      rw [show (48 + (m : Int)).toNat = 48 + m by omega]
      refine ⟨by omega, ?_⟩
      simp [r_w_markText_6]
      rw [wrap64 (by omega) (by omega)]
      refine hN (j / 10, UInt8.ofNat (48 + m) :: suf) _ (by dsimp only; omega) ⟨by dsimp only; omega, by simp only [List.length_cons]; omega, fun h' => ?_, fun h' => ?_⟩ (Wk.list rfl (by simp) (by simp))
      · dsimp only at h' ⊢
        rw [hd, digits_big (n := j) (by omega), hmj]; simp
      · dsimp only at h' ⊢
        rw [hd, digits_small (n := j) (by omega), ← hmj, show j % 10 = j by omega]; simp
    · refine hE _ _ ?_
      have : j = 0 := by omega
      subst this
      have := h2 rfl
      simp only [blockK_exit]
      simp [r_w_markText_8, markT, ← this]
      have := digits_le k
      omega

theorem markT_len (k : Nat) : (markT k).length ≤ k + 2 := by
  have := digits_le k
  simp [markT]; omega

theorem w_eqStringS (a b : List (List UInt8)) : PCall Tryd.prog n_w_eqStringS [.ro 1 (a.map S), .ro 1 (b.map S)] (B (decide (a = b))) := by
  refine PCall.ofL fn_w_eqStringS (by simp) fun hl => ?_
  simp at hl
  by_cases hl : a.length = b.length
  · simp [c_w_eqStringS, r_w_eqStringS_0, r_w_eqStringS_1, r_w_eqStringS_2, r_w_eqStringS_3, r_w_eqStringS_9, hl]
    refine loopK (fun i : Nat => ⟨[(0, .ro 1 (a.map S)), (1, .ro 1 (b.map S)), (5, I i)], [], []⟩) (fun i => a.length - i) (fun i => i ≤ a.length ∧ ∀ j, j < i → a[j]? = b[j]?) 0 (Wk.list rfl (by simp) (by simp)) ⟨by simp, by simp⟩ ?_
    rintro i ⟨hi, hj⟩ K hN hR hE
    simp [l_w_eqStringS_8, r_w_eqStringS_4]
    refine ⟨fun hlt => ?_, fun hge => ?_⟩
    · have hlb : i < b.length := by omega
      simp [r_w_eqStringS_5, p_w_eqStringS_5, hlt, hlb]
      refine ⟨⟨rfl, rfl⟩, fun hne => ?_, fun he => ?_⟩
      · simp [r_w_eqStringS_6]
        refine hR _ ?_
        simp
        rintro rfl
        exact hne rfl
      · simp [r_w_eqStringS_7]
        rw [wrap64 (by omega) (by omega)]
        refine hN (i + 1) _ (by omega) ⟨by omega, fun j hj' => ?_⟩ (Wk.list rfl (by simp) (by simp))
        by_cases e : j = i
        · subst e; simp [hlt, hlb, he]
        · exact hj j (by omega)
    · refine hE _ _ ?_
      have : a = b := by
        apply List.ext_getElem?
        intro j
        by_cases h : j < i
        · exact hj j h
        · rw [List.getElem?_eq_none (by omega), List.getElem?_eq_none (by omega)]
      simp only [blockK_exit]
      simp [r_w_eqStringS_9, this]
  · simp [c_w_eqStringS, r_w_eqStringS_0, r_w_eqStringS_1, r_w_eqStringS_2, hl]
    exact ⟨fun _ e => hl (by rw [e]), fun e => absurd e (by omega)⟩

def marksT (k n : Nat) : List (List UInt8) := (List.range n).map fun i => markT (k + i)
theorem marksT_len (k n : Nat) : (marksT k n).length = n := by simp [marksT]
theorem marksT_succ (k : Nat) (n : Nat) : marksT k (n + 1) = marksT k n ++ [markT (k + n)] := by simp only [marksT, List.range_succ, List.map_append, List.map_cons, List.map_nil]
theorem marksT_get {k m i : Nat} (h : i < (marksT k m).length) : (marksT k m)[i] = markT (k + i) := by simp [marksT]

theorem w_markStringS (l : List (List UInt8)) (k : Nat) (hl : l.length ≤ 1000000) (hk : k ≤ 1000000) :
    MCall Tryd.prog n_w_markStringS [⟨1, l.map S⟩] [.sl (mid 0) 0 l.length, I k] (I ((k + l.length : Nat) : Int)) [some ⟨1, (marksT k l.length).map S⟩] := by
  refine MCall.of fn_w_markStringS (by simp) rfl (by simp) ?_
  simp [c_w_markStringS, r_w_markStringS_0, r_w_markStringS_1, l_w_markStringS_6]
  refine loopK (fun i : Nat => ⟨[(0, .sl 1000000 0 l.length), (1, I ((k + i : Nat) : Int)), (5, I i)], [(1000000, ⟨1, (marksT k i ++ l.drop i).map S⟩)], [1000000]⟩) (fun i => l.length - i)
    (fun i => i ≤ l.length) 0 (Wk.list rfl (by simp) (by simp [marksT])) (by simp) ?_
  intro i hi K hN hR hE
  simp [r_w_markStringS_2]
  have hml : (List.map S (marksT k i)).length = i := by rw [List.length_map, marksT_len]
  refine ⟨fun hlt => ?_, fun hge => ?_⟩
  · have hd : (l.map S).drop i = S l[i] :: (l.map S).drop (i + 1) := by rw [drop_cons (l := l.map S) (by simpa using hlt)]; simp
    simp only [hd]
    simp [r_w_markStringS_3]
    refine callQ_v (PCall.arg (w_markText (k + i) (by omega)) (by simp)) ?_
    simp [hlt, app_get hml, app_set hml]
    simp [r_w_markStringS_4]
    rw [wrap64 (by omega) (by omega)]
    simp [r_w_markStringS_5]
    rw [wrap64 (by omega) (by omega)]
    refine hN (i + 1) _ (by omega) (by omega) (Wk.list rfl ?_ ?_)
    · simp; omega
    · simp [marksT_succ, app_set hml]
  · refine hE _ _ ?_
    obtain rfl : i = l.length := by omega
    simp [r_w_markStringS_7, marksT_len]

theorem w_heldStringS_marks (k m : Nat) (hm : m ≤ 1000000) (hk : k ≤ 1000000) : PCall Tryd.prog n_w_heldStringS [.ro 1 ((marksT k m).map S), I k] (I ((k + m : Nat) : Int)) := by
  refine PCall.of fn_w_heldStringS (by simp) ?_
  simp [c_w_heldStringS, r_w_heldStringS_0, r_w_heldStringS_1, l_w_heldStringS_7]
  refine loopK (fun i : Nat => ⟨[(0, .ro 1 ((marksT k m).map S)), (1, I ((k + i : Nat) : Int)), (5, I i)], [], []⟩) (fun i => m - i) (fun i => i ≤ m) 0 (Wk.list rfl (by simp) (by simp)) (by simp) ?_
  intro i hi K hN hR hE
  simp [r_w_heldStringS_2, marksT_len]
  refine ⟨fun hlt => ?_, fun hge => ?_⟩
  · have hg : i < (marksT k m).length := by rw [marksT_len]; exact hlt
    have hx := marksT_get hg
    simp [r_w_heldStringS_3, p_w_heldStringS_3, hlt, hg, hx]
    refine callD_v (PCall.arg (w_markText (k + i) (by omega)) (by simp)) ?_ ?_ ?_
    · simp
    · simp
    simp
    refine ⟨oEnd_of (by first | kernel_rfl | simp) (by first | kernel_rfl | simp), ?_⟩
    simp [r_w_heldStringS_5]
    rw [wrap64 (by omega) (by omega)]
    simp [r_w_heldStringS_6]
    rw [wrap64 (by omega) (by omega)]
    refine hN (i + 1) _ (by omega) (by omega) (Wk.list rfl ?_ ?_)
    · simp; omega
    · simp
  · refine hE _ _ ?_
    obtain rfl : i = m := by omega
    simp [r_w_heldStringS_8]
end Go.Proofs.YtcfmohcpfmedaaaDoor
