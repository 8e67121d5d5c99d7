/- Looking for a petition by its number, and a list with a petition replaced. -/
import Derived.Test.YtgefdcllialhkaaCodeFind
import Derived.Test.YtgefdcllialhkaaOpen
set_option linter.unusedVariables false
set_option linter.unusedSimpArgs false
namespace Go.Proofs.Ytgefdcllialhkaa
open Go.Abs

theorem slices_IndexFunc_i_Petition_i_Petition (l : List Petition) (p : Petition → Bool) (g : Nat) (caps : List V) (hc : ∀ hp, caps.map (borrow hp 6) = caps) (hp : ∀ x ∈ l, PCall Try.prog g (ePetition x :: caps) (B (p x))) :
    PCall Try.prog n_slices_IndexFunc_i_Petition_i_Petition [.ro 5 (l.map ePetition), .clo g caps] (I (idx p l)) := by
  refine PCall.ofL fn_slices_IndexFunc_i_Petition_i_Petition (by simp) fun hl => ?_
  simp at hl
  simp [c_slices_IndexFunc_i_Petition_i_Petition, r_slices_IndexFunc_i_Petition_i_Petition_0, r_slices_IndexFunc_i_Petition_i_Petition_1, r_slices_IndexFunc_i_Petition_i_Petition_8]
  refine loopQ_ix (fun i : Nat => ⟨[(0, .ro 5 (l.map ePetition)), (1, .clo g caps), (7, I l.length), (8, I i)], [], []⟩) (fun i => l.length - i) (fun i => i ≤ l.length ∧ ∀ j (_ : j < i) (hj : j < l.length), p l[j] = false) 0 (Wk.list rfl (by simp) (by simp)) (by simp) ?_
  rintro i ⟨hi, hj⟩
  simp [r_slices_IndexFunc_i_Petition_i_Petition_2, l_slices_IndexFunc_i_Petition_i_Petition_7]
  refine ⟨fun hlt => ?_, fun hge => ?_⟩
  · simp [r_slices_IndexFunc_i_Petition_i_Petition_3, r_slices_IndexFunc_i_Petition_i_Petition_4, hlt]
    refine callQ_v (PCall.arg (hp l[i] (List.getElem_mem _)) (by simp [hc])) ?_
    simp
    refine ⟨fun ht => ?_, fun hf => ?_⟩
    · simp [r_slices_IndexFunc_i_Petition_i_Petition_5]
      exact (idx_at hlt (fun j h => hj j h (by omega)) ht).symm
    · simp [r_slices_IndexFunc_i_Petition_i_Petition_6]
      rw [wrap64 (by omega) (by omega)]
      refine roundA_of (i + 1) (by omega) ⟨by omega, fun j h h' => ?_⟩ (Wk.list rfl (by simp) (by simp))
      by_cases e : j = i
      · subst e; exact hf
      · exact hj j (by omega) h'
  · have : idx p l = -1 := idx_none fun j h => hj j (by omega) h
    simp [this]

/-- Where the petition with a number stands, or -1. -/
def pix (l : List Petition) (n : Int) : Int := idx (fun p => decide (p.number = n)) l
def petOf (l : List Petition) (n : Int) : Petition := l.getD (pix l n).toNat ⟨0, 0, 0, 0, 0⟩
theorem pix_at {l : List Petition} {n : Int} (h : 0 ≤ pix l n) : ∃ i : Nat, pix l n = i ∧ ∃ hi : i < l.length, petOf l n = l[i] := by
  obtain ⟨i, h1, hi, _, _⟩ := idx_lt h
  have h1' : pix l n = i := h1
  exact ⟨i, h1', hi, by simp [petOf, h1', hi]⟩

theorem s_l26Find (l : List Petition) (n : Int) : PCall Try.prog n_s_l26Find [.ro 5 (l.map ePetition), I n] (I (pix l n)) := by
  refine PCall.ofL fn_s_l26Find (by simp) fun hl => ?_
  simp at hl
  simp [c_s_l26Find, r_s_l26Find_0, r_s_l26Find_1, r_s_l26Find_7]
  refine loopK (fun i : Nat => ⟨[(0, .ro 5 (l.map ePetition)), (1, I n), (5, I i)], [], []⟩) (fun i => l.length - i) (fun i => i ≤ l.length ∧ ∀ j (_ : j < i) (hj : j < l.length), decide (l[j].number = n) = false) 0 (Wk.list rfl (by simp) (by simp)) (by simp) ?_
  rintro i ⟨hi, hj⟩ K hN hR hE
  simp [r_s_l26Find_2, l_s_l26Find_6]
  refine ⟨fun hlt => ?_, fun hge => ?_⟩
  · simp [r_s_l26Find_3, hlt]
    refine ⟨fun ht => ?_, fun hf => ?_⟩
    · simp [r_s_l26Find_4]
      refine hR _ ?_
      have : pix l n = i := idx_at hlt (fun j h => hj j h (by omega)) (by simpa using ht)
      simp [this]
    · simp [r_s_l26Find_5]
      rw [wrap64 (by omega) (by omega)]
      refine hN (i + 1) _ (by omega) ⟨by omega, fun j h h' => ?_⟩ (Wk.list rfl (by simp) (by simp))
      by_cases e : j = i
      · subst e; simpa using hf
      · exact hj j (by omega) h'
  · refine hE _ _ ?_
    have : pix l n = -1 := idx_none fun j h => hj j (by omega) h
    simp [this]

theorem i_petitionIn_1 (p : Petition) (n : Int) : PCall Try.prog n_i_petitionIn_1 [ePetition p, .rp 1 [I n] 0 0] (B (decide (p.number = n))) := by
  refine PCall.of fn_i_petitionIn_1 (by simp) ?_
  simp [c_i_petitionIn_1, r_i_petitionIn_1_0, r_i_petitionIn_1_1]
  rfl

theorem i_petitionIn (l : List Petition) (n : Int) : PCall Try.prog n_i_petitionIn [.ro 5 (l.map ePetition), I n] (I (pix l n)) := by
  refine PCall.of fn_i_petitionIn (by simp) ?_
  simp [c_i_petitionIn, r_i_petitionIn_0, r_i_petitionIn_1]
  refine callQ_v (PCall.arg (slices_IndexFunc_i_Petition_i_Petition l (fun p => decide (p.number = n)) n_i_petitionIn_1 [.rp 1 [I n] 0 0] (by simp) (fun p _ => i_petitionIn_1 p n)) (by simp)) ?_
  simp [pix]

theorem s_l26With (l : List Petition) (i : Nat) (p : Petition) (hl : l.length ≤ 12) (hi : i < l.length) : PCall Try.prog n_s_l26With [.ro 5 (l.map ePetition), I i, ePetition p] (.own 5 ((l.set i p).map ePetition)) := by
  refine PCall.of fn_s_l26With (by simp) ?_
  simp [c_s_l26With, r_s_l26With_0, r_s_l26With_1]
  refine ⟨by unfold lenBound; omega, ?_⟩
  simp [r_s_l26With_2, r_s_l26With_3, hi, List.map_set, List.take_of_length_le]
end Go.Proofs.Ytgefdcllialhkaa
