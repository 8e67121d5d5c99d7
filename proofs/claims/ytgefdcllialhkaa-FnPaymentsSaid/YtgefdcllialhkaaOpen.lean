/- Petitions that are opened, paid, decided; in the program and in the reference. -/
import Derived.Test.YtgefdcllialhkaaCodeOpen
import Derived.Test.YtgefdcllialhkaaTariff
import Derived.Test.YtgefdcllialhkaaPetitions
import Derived.Test.YtgefdcllialhkaaIncome
import Derived.Test.YtgefdcllialhkaaAbs4
set_option linter.unusedVariables false
set_option linter.unusedSimpArgs false
namespace Go.Proofs.Ytgefdcllialhkaa
open Go.Abs

theorem slices_Clone_i_Petition_i_Petition (l : List Petition) (hl : l.length ≤ 4294967296) : PCall Try.prog n_slices_Clone_i_Petition_i_Petition [.ro 5 (l.map ePetition)] (.own 5 (l.map ePetition)) := by
  cases l with
  | nil =>
    refine PCall.roNil fun a cap => ?_
    refine PCall.ofN fn_slices_Clone_i_Petition_i_Petition (by simp) ?_
    cases a with
    | none => simp [c_slices_Clone_i_Petition_i_Petition, r_slices_Clone_i_Petition_i_Petition_0, r_slices_Clone_i_Petition_i_Petition_1, r_slices_Clone_i_Petition_i_Petition_2, r_slices_Clone_i_Petition_i_Petition_3]
    | some a => simp [c_slices_Clone_i_Petition_i_Petition, r_slices_Clone_i_Petition_i_Petition_0, r_slices_Clone_i_Petition_i_Petition_1, r_slices_Clone_i_Petition_i_Petition_2, r_slices_Clone_i_Petition_i_Petition_3, lenBound]
  | cons x l =>
    refine PCall.of fn_slices_Clone_i_Petition_i_Petition (by simp) ?_
    simp [c_slices_Clone_i_Petition_i_Petition, r_slices_Clone_i_Petition_i_Petition_0, r_slices_Clone_i_Petition_i_Petition_1, r_slices_Clone_i_Petition_i_Petition_2, r_slices_Clone_i_Petition_i_Petition_3]
    simpa [lenBound] using hl

/-- The number of the next petition. -/
def nextNo (l : List Petition) : Int := match l.getLast? with | some p => p.number + 1 | none => 1
theorem nextNo_pos {l : List Petition} (h : 0 < l.length) : nextNo l = (l[l.length - 1]'(by omega)).number + 1 := by
  simp [nextNo, List.getLast?_eq_getElem?, show l.length - 1 < l.length from by omega]
def opened (l : List Petition) (rank day : Int) : List Petition := l ++ [⟨nextNo l, rank, day, 1, 0⟩]
def openOk (l : List Petition) (rank day : Int) : Bool := petitions l && petitions (opened l rank day)
def openL (l : List Petition) (rank day : Int) : List Petition := if openOk l rank day then opened l rank day else []
def openN (l : List Petition) (rank day : Int) : Int := if openOk l rank day then nextNo l else 0

theorem nextNo_bounds {l : List Petition} (hb : petitions l = true) : 1 ≤ nextNo l ∧ nextNo l ≤ 1000 := by
  obtain ⟨hl, hp⟩ := petitions_ok hb
  by_cases h0 : 0 < l.length
  · have := petOk_bounds (hp (l.length - 1) (by omega))
    rw [nextNo_pos h0]; omega
  · have : l = [] := List.eq_nil_of_length_eq_zero (by omega)
    subst this; simp [nextNo]

theorem s_OpenPetition (l : List Petition) (rank day : Int) : PCall Try.prog n_s_OpenPetition [.ro 5 (l.map ePetition), I rank, I day] (.tup [.own 5 ((openL l rank day).map ePetition), I (openN l rank day), B (openOk l rank day)]) := by
  refine PCall.ofN fn_s_OpenPetition (by simp) ?_
  simp [c_s_OpenPetition, r_s_OpenPetition_0, r_s_OpenPetition_1]
  refine callQ_v (s_l26Good ..) ?_
  cases hb : petitions l with
  | false => simp [r_s_OpenPetition_2, openOk, openL, openN, hb]
  | true =>
  obtain ⟨hl, hp⟩ := petitions_ok hb
  have hn := nextNo_bounds hb
  simp [r_s_OpenPetition_3, r_s_OpenPetition_4, -oI_q]
  refine oI_join (fun s => Wk s ⟨[(0, .ro 5 (l.map ePetition)), (1, I rank), (2, I day), (9, I (nextNo l))], [], []⟩) ?_ ?_
  · simp
    refine ⟨fun h0 => ?_, fun h0 => ?_⟩
    · have hlt : l.length - 1 < l.length := by omega
      have e : IntKind.i64.wrap ((l.length : Int) - 1) = ((l.length - 1 : Nat) : Int) := by rw [wrap64 (by omega) (by omega)]; omega
      have hx := petOk_bounds (hp (l.length - 1) hlt)
      simp [r_s_OpenPetition_5, e, hlt]
      rw [wrap64 (by omega) (by omega), ← nextNo_pos h0]
      exact Wk.list rfl (by simp) (by simp)
    · subst h0; exact Wk.list rfl (by simp [nextNo]) (by simp)
  · intro sl hp pin hw
    refine wk_of _ hw ?_
    simp [r_s_OpenPetition_6]
    refine ⟨by unfold lenBound; omega, by unfold lenBound; omega, ?_⟩
    simp [r_s_OpenPetition_7]
    refine callQ_v (PCall.arg (s_l26Good (opened l rank day)) (by simp [opened, List.take_of_length_le])) ?_
    cases hc : petitions (opened l rank day) with
    | false => simp [r_s_OpenPetition_8, openOk, openL, openN, hb, hc]
    | true =>
      simp [r_s_OpenPetition_9, openOk, openL, openN, hb, hc]
      simp [opened]

theorem i_OpenPetition (l : List Petition) (rank day : Int) : PCall Try.prog n_i_OpenPetition [.ro 5 (l.map ePetition), I rank, I day] (.tup [.own 5 ((openL l rank day).map ePetition), I (openN l rank day), B (openOk l rank day)]) := by
  refine PCall.ofN fn_i_OpenPetition (by simp) ?_
  simp [c_i_OpenPetition, r_i_OpenPetition_0, r_i_OpenPetition_1]
  refine callQ_v (i_IsValidPetitions ..) ?_
  cases hb : petitions l with
  | false => simp [r_i_OpenPetition_2, openOk, openL, openN, hb]
  | true =>
  obtain ⟨hl, hp⟩ := petitions_ok hb
  have hn := nextNo_bounds hb
  simp [r_i_OpenPetition_3, r_i_OpenPetition_4, r_i_OpenPetition_5, -oI_q]
  refine oI_join (fun s => Wk s ⟨[(0, .ro 5 (l.map ePetition)), (1, I rank), (2, I day), (9, I (nextNo l))], [], []⟩) ?_ ?_
  · simp
    refine ⟨fun h0 => ?_, fun h0 => ?_⟩
    · have hlt : l.length - 1 < l.length := by omega
      have e : IntKind.i64.wrap ((l.length : Int) - 1) = ((l.length - 1 : Nat) : Int) := by rw [wrap64 (by omega) (by omega)]; omega
      have hx := petOk_bounds (hp (l.length - 1) hlt)
      simp [r_i_OpenPetition_6, e, hlt]
      rw [wrap64 (by omega) (by omega), ← nextNo_pos h0]
      exact Wk.list rfl (by simp) (by simp)
    · subst h0; exact Wk.list rfl (by simp [nextNo]) (by simp)
  · intro sl hp pin hw
    refine wk_of _ hw ?_
    simp [r_i_OpenPetition_7]
    refine callQ_of (PCall.arg (slices_Clone_i_Petition_i_Petition l (by omega)) (by simp)) rfl (.inl (by simp)) (by simp) ?_
    simp
    refine ⟨by unfold lenBound; omega, ?_⟩
    simp [r_i_OpenPetition_8]
    refine callQ_v (PCall.arg (i_IsValidPetitions (opened l rank day)) (by simp [opened, List.take_of_length_le])) ?_
    cases hc : petitions (opened l rank day) with
    | false => simp [r_i_OpenPetition_9, openOk, openL, openN, hb, hc]
    | true =>
      simp [r_i_OpenPetition_10, openOk, openL, openN, hb, hc]
      simp [opened]
theorem openL_len (l : List Petition) (rank day : Int) : (openL l rank day).length ≤ 12 := by
  unfold openL
  split
  · rename_i h
    simp only [openOk, Bool.and_eq_true] at h
    exact (petitions_ok h.2).1
  · simp
end Go.Proofs.Ytgefdcllialhkaa
