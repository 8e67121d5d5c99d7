/- Lists of petitions: are they the same? -/
import Derived.Test.YtgefdcllialhkaaCodeRpet
import Derived.Test.YtgefdcllialhkaaRint
import Derived.Test.YtgefdcllialhkaaPetitions
set_option linter.unusedVariables false
set_option linter.unusedSimpArgs false
namespace Go.Proofs.Ytgefdcllialhkaa
open Go.Abs

theorem w_rPetitions (a b : List Petition) : PCall Try.prog n_w_rPetitions [.ro 5 (a.map ePetition), .ro 5 (b.map ePetition)] (B (decide (a = b))) := by
  refine PCall.ofL fn_w_rPetitions (by simp) fun hl => ?_
  simp at hl
  by_cases hl : a.length = b.length
  · simp [c_w_rPetitions, r_w_rPetitions_0, r_w_rPetitions_1, r_w_rPetitions_2, r_w_rPetitions_3, r_w_rPetitions_9, hl]
    refine loopQ_ix (fun i : Nat => ⟨[(0, .ro 5 (a.map ePetition)), (1, .ro 5 (b.map ePetition)), (5, I i)], [], []⟩) (fun i => a.length - i) (fun i => i ≤ a.length ∧ a.take i = b.take i) 0 (Wk.list rfl (by simp) (by simp)) (by simp) ?_
    rintro i ⟨hi, hj⟩
    simp [l_w_rPetitions_8, r_w_rPetitions_4]
    refine ⟨fun hlt => ?_, fun hge => ?_⟩
    · have hlb : i < b.length := by omega
      simp [r_w_rPetitions_5, p_w_rPetitions_5, hlt, hlb]
      refine ⟨oEnd_of (by simp [p_w_rPetitions_5]) (by simp), fun hne => ?_, fun h1 h2 h3 h4 h5 => ?_⟩
      · simp [r_w_rPetitions_6]
        rintro rfl
        simp at hne
      · have he : a[i] = b[i] := (Petition.eq_iff _ _).2 ⟨h1, h2, h3, h4, h5⟩
        simp [r_w_rPetitions_7]
        rw [wrap64 (by omega) (by omega)]
        refine roundA_of (i + 1) (by omega) ⟨by omega, ?_⟩ (Wk.list rfl (by simp) (by simp))
        rw [take_succ' hlt, take_succ' hlb, hj, he]
    · rw [List.take_of_length_le (by omega), List.take_of_length_le (by omega)] at hj
      simp [hj]
  · simp [c_w_rPetitions, r_w_rPetitions_0, r_w_rPetitions_1, r_w_rPetitions_2, hl]
    refine ⟨fun _ e => hl (by rw [e]), fun e => absurd (by omega) hl⟩
end Go.Proofs.Ytgefdcllialhkaa
