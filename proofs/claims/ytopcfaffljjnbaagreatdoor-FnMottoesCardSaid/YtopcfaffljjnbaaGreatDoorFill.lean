/- Lines that are filled, in the program and in the reference. -/
import Derived.Test.YtopcfaffljjnbaaGreatDoorMotto
set_option linter.unusedVariables false
set_option linter.unusedSimpArgs false
namespace Go.Proofs.YtopcfaffljjnbaaGreatDoor
open Go.Abs

/-- How far the filling has come. -/
def Filled (w : Int) (L out : List (List UInt8)) (i : Nat) : Prop :=
  (i = 0 ∧ out = []) ∨ ∃ done cur, out = done ++ [cur] ∧ cur.length ≤ 60 ∧ fill w L = done ++ fillGo w cur (L.drop i)
theorem Filled.done {w : Int} {L out : List (List UInt8)} (h : Filled w L out L.length) : fill w L = out := by
  rcases h with ⟨h0, rfl⟩ | ⟨done, cur, rfl, _, h⟩
  · have : L = [] := List.length_eq_zero_iff.1 h0
    subst this; rfl
  · rw [h, List.drop_length, fillGo]

theorem i_wrapped (s : List UInt8) (w : Int) (hs : s.length ≤ 60) (hw : w ≤ 40) : PCall Tryz.prog n_i_wrapped [S s, I w] (.own 1 ((fill w (parts 32 s)).map S)) := by
  refine PCall.of fn_i_wrapped (by simp) ?_
  have hle : (parts 32 s).length ≤ 61 := by have := parts_count 32 s; have := count_le 32 s; omega
  have hsh : ∀ x ∈ parts 32 s, x.length ≤ 60 := fun x hx => by have := parts_short hx; omega
  have hsp := strings_Split s 32 (by omega)
  generalize parts 32 s = L at hle hsp hsh ⊢
  simp [c_i_wrapped, r_i_wrapped_0, r_i_wrapped_1]
  simp [r_i_wrapped_2]
  refine callQ_of hsp rfl (.inl (by simp)) (by simp) ?_
  simp [r_i_wrapped_11]
  refine loopK (fun p : List (List UInt8) × Nat => ⟨[(1, I w), (5, .sl 9 0 p.1.length), (11, .sl 11 0 L.length), (12, I L.length), (13, I p.2)], [(9, ⟨1, p.1.map S⟩), (11, ⟨1, L.map S⟩)], []⟩) (fun p => L.length - p.2)
    (fun p => p.2 ≤ L.length ∧ p.1.length ≤ p.2 ∧ Filled w L p.1 p.2) ([], 0) (Wk.list rfl (by simp) (by simp)) (by simp [Filled]) ?_
  rintro ⟨out, i⟩ ⟨hi, ho, hf⟩ K hN hR hE
  dsimp only at hi ho hf ⊢
  simp [r_i_wrapped_3, l_i_wrapped_10]
  refine ⟨fun hlt => ?_, fun hge => ?_⟩
  · have hd : L.drop i = L[i] :: L.drop (i + 1) := List.drop_eq_getElem_cons hlt
    have hx := hsh L[i] (List.getElem_mem _)
    simp [r_i_wrapped_4, hlt]
    simp [r_i_wrapped_5]
    have hadd : ∀ done : List (List UInt8), fill w L = done ++ fillGo w L[i] (L.drop (i + 1)) → done = out → Filled w L (out ++ [L[i]]) (i + 1) := fun done h e => .inr ⟨out, L[i], rfl, hx, by rw [h, e]⟩
    rcases hf with ⟨rfl, rfl⟩ | ⟨done, cur, rfl, hc, hf⟩
    · have hF : Filled w L ([] ++ [L[0]]) (0 + 1) := by
        refine hadd [] ?_ rfl
        cases L with
        | nil => simp at hlt
        | cons x xs => rfl
      simp [r_i_wrapped_6]
      simp [r_i_wrapped_8]
      refine ⟨by unfold lenBound; omega, ?_⟩
      simp [r_i_wrapped_9]
      rw [wrap64 (n := 1) (by omega) (by omega)]
      refine hN ([] ++ [L[0]], 0 + 1) _ (by dsimp only; omega) ⟨by dsimp only; omega, by simp, hF⟩ (Wk.trans (Wk.ren 47 9 (by decide) (by simp)) (Wk.list rfl ?_ ?_))
      · simp [AS.ren, ren, reN]
      · simp [AS.ren, ren, reN, renB]
    · have hml : (done.map S).length = done.length := List.length_map ..
      have hol : done.length + 1 ≤ i := by simpa using ho
      simp [r_i_wrapped_6]
      rw [wrap64 (by omega) (by omega)]
      have e1 : (done.length : Int).toNat = done.length := by omega
      rw [e1, app_get hml]
      refine ⟨⟨by omega, by omega⟩, ?_⟩
      simp
      rw [wrap64 (n := (cur.length : Int) + 1) (by omega) (by omega), wrap64 (by omega) (by omega)]
      refine ⟨fun hfit => ?_, fun hfit => ?_⟩
      · simp [r_i_wrapped_7]
        rw [wrap64 (by omega) (by omega), e1, app_get hml]
        refine ⟨⟨by omega, by omega⟩, ?_⟩
        simp
        refine ⟨by omega, by omega, by omega, ?_⟩
        simp [r_i_wrapped_9]
        rw [wrap64 (by omega) (by omega)]
        have hF : Filled w L (done ++ [cur ++ 32 :: L[i]]) (i + 1) := .inr ⟨done, cur ++ 32 :: L[i], rfl, by simp; omega, by rw [hf, hd, fillGo, if_pos hfit]⟩
        refine hN (done ++ [cur ++ 32 :: L[i]], i + 1) _ (by dsimp only; omega) ⟨by dsimp only; omega, by simp; omega, hF⟩ (Wk.list rfl (by simp) (by simp))
      · have hF : Filled w L (done ++ [cur] ++ [L[i]]) (i + 1) := .inr ⟨done ++ [cur], L[i], rfl, hx, by rw [hf, hd, fillGo, if_neg (by omega)]; simp⟩
        have ht : (done.map S ++ [S cur]).take (done.length + 1) = done.map S ++ [S cur] := List.take_of_length_le (by simp)
        simp [r_i_wrapped_8]
        rw [ht]
        refine ⟨by unfold lenBound; omega, ?_⟩
        simp [r_i_wrapped_9]
        rw [wrap64 (by omega) (by omega)]
        refine hN (done ++ [cur] ++ [L[i]], i + 1) _ (by dsimp only; omega) ⟨by dsimp only; omega, by simp; omega, hF⟩ (Wk.trans (Wk.ren 47 9 (by decide) (by simp)) (Wk.list rfl ?_ ?_))
        · simp [AS.ren, ren, reN]
        · simp [AS.ren, ren, reN, renB]
  · obtain rfl : i = L.length := by omega
    refine hE _ _ ?_
    simp only [blockK_exit]
    simp [r_i_wrapped_11, hf.done]

theorem fill_fit {w : Int} {L : List (List UInt8)} {i k : Nat} (hik : i < k) (hk : k < L.length) (hf : fill w (L.drop i) = fillGo w (joinW ((L.drop i).take (k - i))) (L.drop k)) :
    (((joinW ((L.drop i).take (k + 1 - i))).length : Int) ≤ w → fill w (L.drop i) = fillGo w (joinW ((L.drop i).take (k + 1 - i))) (L.drop (k + 1))) ∧
    (¬ ((joinW ((L.drop i).take (k + 1 - i))).length : Int) ≤ w → fill w (L.drop i) = joinW ((L.drop i).take (k - i)) :: fill w (L.drop k)) := by
  have hd : L.drop k = L[k] :: L.drop (k + 1) := List.drop_eq_getElem_cons hk
  have hg : (L.drop i)[k - i]'(by rw [List.length_drop]; omega) = L[k] := by
    rw [List.getElem_drop]; congr 1; omega
  have hs : (L.drop i).take (k + 1 - i) = (L.drop i).take (k - i) ++ [L[k]] := by
    rw [show k + 1 - i = k - i + 1 by omega, List.take_succ_eq_append_getElem (by rw [List.length_drop]; omega), hg]
  have hne : (L.drop i).take (k - i) ≠ [] := by
    intro h
    have := congrArg List.length h
    simp at this; omega
  rw [hs, joinW_snoc _ _ hne, hf, hd, fillGo, List.length_append, List.length_cons]
  constructor
  · intro h; rw [if_pos (by omega)]
  · intro h; rw [if_neg (by omega)]; rfl

theorem s_l23Fill (s : List UInt8) (w : Int) (hs : s.length ≤ 60) : PCall Tryz.prog n_s_l23Fill [S s, I w] (.own 1 ((fill w (parts 32 s)).map S)) := by
  refine PCall.of fn_s_l23Fill (by simp) ?_
  have hle : (parts 32 s).length ≤ 61 := by have := parts_count 32 s; have := count_le 32 s; omega
  have htot := tot_parts 32 s
  have hsp := s_l1Split s 32 (by omega)
  generalize parts 32 s = L at hle hsp htot ⊢
  have hline := fun i k (h1 : i ≤ k) (h2 : k ≤ L.length) => s_l23Line L i k h1 h2 (by omega) (by omega)
  simp [c_s_l23Fill, r_s_l23Fill_0, r_s_l23Fill_1]
  refine callQ_of hsp rfl (.inl (by simp)) (by simp) ?_
  simp [r_s_l23Fill_2]
  simp [r_s_l23Fill_3, r_s_l23Fill_12]
  refine loopK (fun p : List (List UInt8) × Nat => ⟨[(1, I w), (5, .sl 10 0 L.length), (6, .sl 11 0 p.1.length), (7, I p.2)], [(10, ⟨1, L.map S⟩), (11, ⟨1, p.1.map S⟩)], []⟩) (fun p => L.length - p.2)
    (fun p => p.2 ≤ L.length ∧ p.1.length ≤ p.2 ∧ fill w L = p.1 ++ fill w (L.drop p.2)) ([], 0) (Wk.list rfl (by simp) (by simp)) (by simp) ?_
  rintro ⟨out, i⟩ ⟨hi, ho, hf⟩ K hN hR hE
  dsimp only at hi ho hf ⊢
  simp [r_s_l23Fill_4, l_s_l23Fill_11]
  refine ⟨fun hlt => ?_, fun hge => ?_⟩
  · simp [r_s_l23Fill_5]
    rw [wrap64 (by omega) (by omega)]
    have hd : L.drop i = L[i] :: L.drop (i + 1) := List.drop_eq_getElem_cons hlt
    refine loopK (fun k : Nat => ⟨[(1, I w), (5, .sl 10 0 L.length), (6, .sl 11 0 out.length), (7, I i), (8, I k)], [(10, ⟨1, L.map S⟩), (11, ⟨1, out.map S⟩)], []⟩) (fun k => L.length - k)
      (fun k => (i < k ∧ k ≤ L.length) ∧ fill w (L.drop i) = fillGo w (joinW ((L.drop i).take (k - i))) (L.drop k)) (i + 1) (Wk.list rfl (by simp) (by simp)) ⟨⟨by omega, by omega⟩, by rw [show i + 1 - i = 1 by omega, hd]; rfl⟩ ?_
    rintro k ⟨⟨hik, hk⟩, hfk⟩ K' hN' hR' hE'
    simp [r_s_l23Fill_6, l_s_l23Fill_8]
    refine ⟨fun hkl => ?_, fun hkl => ?_⟩
    · rw [wrap64 (by omega) (by omega)]
      refine callQ_v (PCall.arg (hline i (k + 1) (by omega) (by omega)) (by simp)) ?_
      obtain ⟨h1, h2⟩ := fill_fit hik (by omega) hfk
      simp
      refine ⟨fun hfit => ?_, fun hfit => ?_⟩
      · simp [r_s_l23Fill_7]
        rw [wrap64 (by omega) (by omega)]
        refine hN' (k + 1) _ (by omega) ⟨⟨by omega, by omega⟩, h1 hfit⟩ (Wk.list rfl (by simp) (by simp))
      · have hx := h2 (by omega)
        refine hE' _ _ ?_
        simp only [blockK_exit]
        simp [r_s_l23Fill_9]
        refine callQ_v (PCall.arg (hline i k (by omega) (by omega)) (by simp)) ?_
        simp
        refine ⟨by unfold lenBound; omega, ?_⟩
        simp [r_s_l23Fill_10]
        refine hN (out ++ [joinW ((L.drop i).take (k - i))], k) _ (by dsimp only; omega) ⟨by dsimp only; omega, by simp; omega, by rw [hf, hx]; simp⟩ (Wk.trans (Wk.ren 40 11 (by decide) (by simp)) (Wk.list rfl ?_ ?_))
        · simp [AS.ren, ren, reN]
        · simp [AS.ren, ren, reN, renB]
    · have hx : fill w (L.drop i) = joinW ((L.drop i).take (k - i)) :: fill w (L.drop k) := by
        obtain rfl : k = L.length := by omega
        rw [hfk, List.drop_length]; rfl
      refine hE' _ _ ?_
      simp only [blockK_exit]
      simp [r_s_l23Fill_9]
      refine callQ_v (PCall.arg (hline i k (by omega) (by omega)) (by simp)) ?_
      simp
      refine ⟨by unfold lenBound; omega, ?_⟩
      simp [r_s_l23Fill_10]
      refine hN (out ++ [joinW ((L.drop i).take (k - i))], k) _ (by dsimp only; omega) ⟨by dsimp only; omega, by simp; omega, by rw [hf, hx]; simp⟩ (Wk.trans (Wk.ren 40 11 (by decide) (by simp)) (Wk.list rfl ?_ ?_))
      · simp [AS.ren, ren, reN]
      · simp [AS.ren, ren, reN, renB]
  · obtain rfl : i = L.length := by omega
    refine hE _ _ ?_
    rw [List.drop_length] at hf
    simp only [blockK_exit]
    rw [show fill w [] = [] from rfl, List.append_nil] at hf
    simp [r_s_l23Fill_12, hf]
end Go.Proofs.YtopcfaffljjnbaaGreatDoor
