/- Petitions: the helpers of the laws. -/
import Derived.Test.YtnihjjelamfgdaaCodePetition
import Derived.Test.YtnihjjelamfgdaaBase
set_option linter.unusedVariables false
set_option linter.unusedSimpArgs false
namespace Go.Proofs.Ytnihjjelamfgdaa
open Go.Abs

structure Petition where
  number : Int
  rank : Int
  day : Int
  state : Int
  paid : Int
  deriving DecidableEq

/-- How it lies in memory. -/
abbrev ePetition (p : Petition) : V := .agg [I p.number, I p.rank, I p.day, I p.state, I p.paid]

theorem w_toPetition (p : Petition) : PCall Try.prog n_w_toPetition [ePetition p] (ePetition p) := by
  refine PCall.of fn_w_toPetition (by simp) ?_
  simp [c_w_toPetition, r_w_toPetition_0, r_w_toPetition_1, r_w_toPetition_2, r_w_toPetition_3, r_w_toPetition_4, r_w_toPetition_5, r_w_toPetition_6, r_w_toPetition_7]

theorem Petition.eq_iff (p q : Petition) : p = q ↔ p.number = q.number ∧ p.rank = q.rank ∧ p.day = q.day ∧ p.state = q.state ∧ p.paid = q.paid := by
  cases p; cases q; simp

theorem w_eqPetition (p q : Petition) : PCall Try.prog n_w_eqPetition [ePetition p, ePetition q] (B (decide (p = q))) := by
  refine PCall.of fn_w_eqPetition (by simp) ?_
  simp [c_w_eqPetition, r_w_eqPetition_0]
  by_cases h0 : p.number = q.number
  rotate_left
  · simp [r_w_eqPetition_1, r_w_eqPetition_2, h0, Petition.eq_iff]
  simp [r_w_eqPetition_1, h0]
  by_cases h1 : p.rank = q.rank
  rotate_left
  · simp [r_w_eqPetition_3, r_w_eqPetition_4, h1, h0, Petition.eq_iff]
  simp [r_w_eqPetition_3, h1]
  by_cases h2 : p.day = q.day
  rotate_left
  · simp [r_w_eqPetition_5, r_w_eqPetition_6, h2, h0, h1, Petition.eq_iff]
  simp [r_w_eqPetition_5, h2]
  by_cases h3 : p.state = q.state
  rotate_left
  · simp [r_w_eqPetition_7, r_w_eqPetition_8, h3, h0, h1, h2, Petition.eq_iff]
  simp [r_w_eqPetition_7, h3]
  by_cases h4 : p.paid = q.paid
  rotate_left
  · simp [r_w_eqPetition_9, r_w_eqPetition_10, h4, h0, h1, h2, h3, Petition.eq_iff]
  simp [r_w_eqPetition_9, h4]
  simp [r_w_eqPetition_11, Petition.eq_iff, h0, h1, h2, h3, h4]

theorem w_szPetitionS (l : List Petition) (left : Int) (h0 : 0 ≤ left) (h1 : left ≤ 1048576) : PCall Try.prog n_w_szPetitionS [.ro 5 (l.map ePetition), I left] (I (rest left l.length)) := by
  refine PCall.ofL fn_w_szPetitionS (by simp) fun hl => ?_
  simp at hl
  simp [r_w_szPetitionS_0, r_w_szPetitionS_1, c_w_szPetitionS]
  rw [wrap64 (by omega) (by omega)]
  simp [r_w_szPetitionS_2, r_w_szPetitionS_3, r_w_szPetitionS_4, rest]
  constructor <;> intros <;> omega

theorem w_toPetitionS (l : List Petition) (hl : l.length ≤ 1048576) : PCall Try.prog n_w_toPetitionS [.ro 5 (l.map ePetition)] (.own 5 (l.map ePetition)) := by
  refine PCall.of fn_w_toPetitionS (by simp) ?_
  simp [c_w_toPetitionS, r_w_toPetitionS_0, r_w_toPetitionS_1, r_w_toPetitionS_2, lenBound]
  refine ⟨by omega, ?_⟩
  simp [r_w_toPetitionS_7]
  refine loopK (fun i : Nat => ⟨[(0, .ro 5 (l.map ePetition)), (3, .sl 7 0 l.length), (4, I i)], [(7, ⟨5, (l.map ePetition).take i ++ List.replicate (l.length - i) (.agg [I 0, I 0, I 0, I 0, I 0])⟩)], []⟩) (fun i => l.length - i) (fun i => i ≤ l.length) 0 (Wk.list rfl (by simp) (by simp)) (by simp) ?_
  intro i hi K hN hR hE
  have hlen : ((l.map ePetition).take i).length = i := by simp; omega
  simp [l_w_toPetitionS_6, r_w_toPetitionS_3]
  refine ⟨fun hlt => ?_, fun hge => ?_⟩
  · simp [r_w_toPetitionS_4, hlt]
    refine callQ_of (w_toPetition l[i]) rfl (.inl (by simp)) (by simp) ?_
    simp [half_get hlen hlt, hlt]
    simp [r_w_toPetitionS_5]
    rw [wrap64 (by omega) (by omega)]
    refine hN (i + 1) _ (by omega) (by omega) (Wk.list rfl (by simp) ?_)
    simp [half_set hlen hlt, take_succ', hlt]
  · refine hE _ _ ?_
    obtain rfl : i = l.length := by omega
    simp

theorem w_eqPetitionS (a b : List Petition) : PCall Try.prog n_w_eqPetitionS [.ro 5 (a.map ePetition), .ro 5 (b.map ePetition)] (B (decide (a = b))) := by
  refine PCall.ofL fn_w_eqPetitionS (by simp) fun hl => ?_
  simp at hl
  by_cases hl : a.length = b.length
  · simp [c_w_eqPetitionS, r_w_eqPetitionS_0, r_w_eqPetitionS_1, r_w_eqPetitionS_2, r_w_eqPetitionS_3, r_w_eqPetitionS_9, hl]
    refine loopK (fun i : Nat => ⟨[(0, .ro 5 (a.map ePetition)), (1, .ro 5 (b.map ePetition)), (5, I i)], [], []⟩) (fun i => a.length - i) (fun i => i ≤ a.length ∧ a.take i = b.take i) 0 (Wk.list rfl (by simp) (by simp)) (by simp) ?_
    rintro i ⟨hi, hj⟩ K hN hR hE
    simp [l_w_eqPetitionS_8, r_w_eqPetitionS_4]
    refine ⟨fun hlt => ?_, fun hge => ?_⟩
    · have hlb : i < b.length := by omega
      simp [r_w_eqPetitionS_5, p_w_eqPetitionS_5, hlt, hlb]
      refine callD_v (w_eqPetition a[i] b[i]) ?_ ?_ ?_
      · simp
      · simp
      simp
      refine ⟨oEnd_of (by first | kernel_rfl | simp) (by first | kernel_rfl | simp), fun hne => ?_, fun he => ?_⟩
      · simp [r_w_eqPetitionS_6]
        refine hR _ ?_
        simp
        rintro rfl
        exact hne rfl
      · simp [r_w_eqPetitionS_7]
        rw [wrap64 (by omega) (by omega)]
        refine hN (i + 1) _ (by omega) ⟨by omega, ?_⟩ (Wk.list rfl (by simp) (by simp))
        rw [take_succ' hlt, take_succ' hlb, hj, he]
    · refine hE _ _ ?_
      rw [List.take_of_length_le (by omega), List.take_of_length_le (by omega)] at hj
      simp [hj]
  · simp [c_w_eqPetitionS, r_w_eqPetitionS_0, r_w_eqPetitionS_1, r_w_eqPetitionS_2, hl]
    refine ⟨fun _ e => hl (by rw [e]), fun e => absurd (by omega) hl⟩

/-- The marks of one. -/
def mkPetition (k : Int) : Petition := ⟨k, k + 1, k + 2, k + 3, k + 4⟩
def marksPetition (k : Int) (n : Nat) : List Petition := (List.range n).map fun i : Nat => mkPetition (k + 5 * (i : Int))
theorem marksPetition_len (k : Int) (n : Nat) : (marksPetition k n).length = n := by simp [marksPetition]
theorem marksPetition_succ (k : Int) (n : Nat) : marksPetition k (n + 1) = marksPetition k n ++ [mkPetition (k + 5 * (n : Int))] := by simp only [marksPetition, List.range_succ, List.map_append, List.map_cons, List.map_nil]

theorem w_markPetitionS (l : List Petition) (k : Int) (hl : l.length ≤ 10000000) (hk : 0 ≤ k) (hk' : k ≤ 10000000) :
    MCall Try.prog n_w_markPetitionS [⟨5, l.map ePetition⟩] [.sl (mid 0) 0 l.length, I k] (I (k + ((5 * l.length : Nat) : Int))) [some ⟨5, (marksPetition k l.length).map ePetition⟩] := by
  refine MCall.of fn_w_markPetitionS (by simp) rfl (by simp) ?_
  simp [c_w_markPetitionS, r_w_markPetitionS_0, r_w_markPetitionS_1, r_w_markPetitionS_15]
  refine loopK (fun i : Nat => ⟨[(0, .sl 1000000 0 l.length), (1, I (k + 5 * (i : Int))), (5, I i)], [(1000000, ⟨5, (marksPetition k i ++ l.drop i).map ePetition⟩)], [1000000]⟩) (fun i => l.length - i)
    (fun i => i ≤ l.length) 0 (Wk.list rfl (by simp) (by simp [marksPetition])) (by simp) ?_
  intro i hi K hN hR hE
  simp [l_w_markPetitionS_14, r_w_markPetitionS_2]
  have hml : (List.map ePetition (marksPetition k i)).length = i := by rw [List.length_map, marksPetition_len]
  refine ⟨fun hlt => ?_, fun hge => ?_⟩
  · have hd : (l.map ePetition).drop i = ePetition l[i] :: (l.map ePetition).drop (i + 1) := by rw [drop_cons (l := l.map ePetition) (by simpa using hlt)]; simp
    simp only [hd]
    simp [r_w_markPetitionS_3, r_w_markPetitionS_4, hlt, app_get hml, app_set hml]
    rw [wrap64 (by omega) (by omega)]
    simp [r_w_markPetitionS_5, r_w_markPetitionS_6, hlt, app_get hml, app_set hml]
    rw [wrap64 (by omega) (by omega)]
    simp [r_w_markPetitionS_7, r_w_markPetitionS_8, hlt, app_get hml, app_set hml]
    rw [wrap64 (by omega) (by omega)]
    simp [r_w_markPetitionS_9, r_w_markPetitionS_10, hlt, app_get hml, app_set hml]
    rw [wrap64 (by omega) (by omega)]
    simp [r_w_markPetitionS_11, r_w_markPetitionS_12, hlt, app_get hml, app_set hml]
    rw [wrap64 (by omega) (by omega)]
    simp [r_w_markPetitionS_13]
    rw [wrap64 (by omega) (by omega)]
    refine hN (i + 1) _ (by omega) (by omega) (Wk.list rfl ?_ ?_)
    · simp; omega
    · simp [marksPetition_succ, mkPetition, app_set hml]
      omega
  · refine hE _ _ ?_
    obtain rfl : i = l.length := by omega
    simp [marksPetition_len]

theorem marksPetition_get {k : Int} {m i : Nat} (h : i < (marksPetition k m).length) : (marksPetition k m)[i] = mkPetition (k + 5 * (i : Int)) := by simp [marksPetition]
theorem w_heldPetitionS_marks (k : Int) (m : Nat) (hm : m ≤ 10000000) (hk : 0 ≤ k) (hk' : k ≤ 10000000) : PCall Try.prog n_w_heldPetitionS [.ro 5 ((marksPetition k m).map ePetition), I k] (I (k + ((5 * m : Nat) : Int))) := by
  refine PCall.of fn_w_heldPetitionS (by simp) ?_
  simp [c_w_heldPetitionS, r_w_heldPetitionS_0, r_w_heldPetitionS_1, r_w_heldPetitionS_20]
  refine loopK (fun i : Nat => ⟨[(0, .ro 5 ((marksPetition k m).map ePetition)), (1, I (k + 5 * (i : Int))), (5, I i)], [], []⟩) (fun i => m - i) (fun i => i ≤ m) 0 (Wk.list rfl (by simp) (by simp)) (by simp) ?_
  intro i hi K hN hR hE
  simp [l_w_heldPetitionS_19, r_w_heldPetitionS_2, marksPetition_len]
  refine ⟨fun hlt => ?_, fun hge => ?_⟩
  · have hg : i < (marksPetition k m).length := by rw [marksPetition_len]; exact hlt
    have hx := marksPetition_get hg
    simp [r_w_heldPetitionS_3, r_w_heldPetitionS_5, hlt, hg, hx, mkPetition, Int.add_assoc]
    rw [wrap64 (by omega) (by omega)]
    simp [r_w_heldPetitionS_6, r_w_heldPetitionS_8, hlt, hg, hx, mkPetition, Int.add_assoc]
    rw [wrap64 (by omega) (by omega)]
    simp [r_w_heldPetitionS_9, r_w_heldPetitionS_11, hlt, hg, hx, mkPetition, Int.add_assoc]
    rw [wrap64 (by omega) (by omega)]
    simp [r_w_heldPetitionS_12, r_w_heldPetitionS_14, hlt, hg, hx, mkPetition, Int.add_assoc]
    rw [wrap64 (by omega) (by omega)]
    simp [r_w_heldPetitionS_15, r_w_heldPetitionS_17, hlt, hg, hx, mkPetition, Int.add_assoc]
    rw [wrap64 (by omega) (by omega)]
    simp [r_w_heldPetitionS_18]
    rw [wrap64 (by omega) (by omega)]
    refine hN (i + 1) _ (by omega) (by omega) (Wk.list rfl ?_ ?_)
    · simp; omega
    · simp
  · refine hE _ _ ?_
    obtain rfl : i = m := by omega
    simp

end Go.Proofs.Ytnihjjelamfgdaa
