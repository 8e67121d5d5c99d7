/- Parts of the proof, merged: WFnRolls. -/
import Derived.Test.YtbeoijlggphklaaGreatDoorPRolls3
/- FnRolls: the law. -/
set_option linter.unusedVariables false
set_option linter.unusedSimpArgs false
namespace Go.Proofs.YtbeoijlggphklaaGreatDoor
open Go.Abs

theorem w_rWithin (a b : List (List UInt8)) (ha : a.length ≤ 100000) (hb : b.length ≤ 100000) (h : within a b) : PCall Tryz.prog n_w_rWithin [.ro 1 (a.map S), .ro 1 (b.map S)] (B true) := by
  obtain ⟨m, hm, hmb⟩ := h
  refine PCall.of fn_w_rWithin (by simp) ?_
  simp [c_w_rWithin, r_w_rWithin_0, r_w_rWithin_1]
  refine loopK (fun i : Nat => ⟨[(0, .ro 1 (a.map S)), (1, .ro 1 (b.map S)), (5, I i)], [], []⟩) (fun i => m - i) (fun i => i ≤ m) 0 (Wk.list rfl (by simp) (by simp)) (by simp) ?_
  intro i hi K hN hR hE
  simp [l_w_rWithin_6, r_w_rWithin_2]
  rw [wrap64 (n := (i : Int) + b.length) (by omega) (by omega)]
  refine ⟨fun hlt => ?_, fun hge => by omega⟩
  simp [r_w_rWithin_3]
  rw [wrap64 (n := (i : Int) + b.length) (by omega) (by omega)]
  refine ⟨by omega, ?_⟩
  refine callQ_v (PCall.arg (w_rTexts ((a.drop i).take b.length) b) (by simp [show ((i : Int) + b.length).toNat - i = b.length by omega])) ?_
  cases hc : decide ((a.drop i).take b.length = b) with
  | true =>
    simp [r_w_rWithin_4]
    refine hR _ ?_
    simp
  | false =>
    have him : i ≠ m := by rintro rfl; rw [hmb] at hc; simp at hc
    simp [r_w_rWithin_5]
    rw [wrap64 (by omega) (by omega)]
    exact hN (i + 1) _ (by omega) (by omega) (Wk.list rfl (by simp) (by simp))
set_option maxHeartbeats 4000000 in
theorem w_FnRolls (code : List UInt8) : PCall Tryz.prog n_w_FnRolls [.ro 1 (code.map Y)] (B true) := by
  obtain ⟨l, x, hl, hD⟩ := s_DrawRollPages code
  obtain ⟨l2, y, hl2, hD2⟩ := s_DrawRollOrder code
  obtain ⟨hn, ht⟩ := pagesL_total l x
  obtain ⟨_, hp⟩ := pagesL_ok (l := l) (x := x)
  have hIP := i_RollPages l x
  have hSP := s_RollPages l x
  have hC := i_CountLines l x
  unfold cntP cntL at hC
  have hent : textOk l x = true → ∀ g ∈ l, ∃ q, q < (pagesL l x).length ∧ pageN l x g.number = ((q + 1 : Nat) : Int) ∧ pageOk l x g.number = true ∧ entryOk g x.width = true ∧ ∀ hq : q < (pagesL l x).length, within (pagesL l x)[q] (entryR g x.width) := fun hb g hg => by
    unfold textOk at hb
    cases h : asked l x with
    | none => rw [h] at hb; cases hb
    | some ps => exact rolls_entry h hg
  obtain ⟨L, hLd⟩ : ∃ L, pagesL l x = L := ⟨_, rfl⟩
  obtain ⟨b, hbd⟩ : ∃ b, textOk l x = b := ⟨_, rfl⟩
  rw [hLd] at hn ht hp hIP hSP hC hent
  rw [hbd] at hIP hSP hC hent
  refine PCall.of fn_w_FnRolls (by simp) ?_
  simp [c_w_FnRolls, r_w_FnRolls_0, r_w_FnRolls_1]
  refine callQ_v (PCall.arg (w_rBig code) (by simp)) ?_
  by_cases hbig : 65536 < code.length
  · simp [r_w_FnRolls_2, hbig]
  simp [hbig]
  simp [r_w_FnRolls_3]
  refine callQ_of (PCall.arg hD (by simp)) rfl (.inr (by simp)) (by simp) ?_
  simp [r_w_FnRolls_4]
  refine callQ_of (PCall.arg hIP (by simp)) rfl (.inl (by simp)) (by simp) ?_
  simp [r_w_FnRolls_5]
  refine callQ_of (PCall.arg hSP (by simp)) rfl (.inl (by simp)) (by simp) ?_
  simp [r_w_FnRolls_6]
  simp [r_w_FnRolls_8, r_w_FnRolls_9]
  refine loopK (fun i : Nat => ⟨[(0, .ro 1 (code.map Y)), (3, .ref 3 0 0), (4, .ref 4 0 0), (5, .sl 35 0 L.length), (6, B b), (7, .sl 41 0 L.length), (9, I (total (L.take i))), (10, I i)], [(41, ⟨1, L.map roS⟩), (35, ⟨1, L.map roS⟩), (4, ⟨3, [eRoll x]⟩), (3, ⟨1, [.agg [.sl 29 0 (List.length l)]]⟩), (29, ⟨18, List.map eGrant l⟩)], []⟩) (fun i => L.length - i) (fun i => i ≤ L.length) 0
    (Wk.trans (Wk.roes 41 3 (by rfl) (by simp)) (Wk.trans (Wk.roes 35 3 (by rfl) (by simp)) (Wk.list rfl (by simp) (by simp)))) (by simp) ?_
  intro i hi K hN hR hE
  have htl := total_take_le L i
  simp [l_w_FnRolls_15, r_w_FnRolls_10]
  refine ⟨fun hlt => ?_, fun hge => ?_⟩
  · obtain ⟨q1, q2, q3, q4⟩ := hp L[i] (List.getElem_mem _)
    have hpos : 0 < L[i].length := List.length_pos_iff.2 q1
    have hts := total_step hlt
    have htl2 := total_take_le L (i + 1)
    have e1 : ¬ x.height < (L[i].length : Int) := by omega
    have e2 : ¬ (L[i].length : Int) = 0 := by omega
    simp [r_w_FnRolls_11, p_w_FnRolls_11, hlt]
    refine callD_v (PCall.arg (w_rTexts L[i] L[i]) (by simp)) ?_ ?_ ?_
    · simp
    · simp
    simp [e1, e2, q1, hlt]
    refine ⟨oEnd_of (by simp [p_w_FnRolls_11]) (by simp), ?_⟩
    simp [r_w_FnRolls_13, r_w_FnRolls_14, hlt]
    rw [wrap64 (by omega) (by omega), wrap64 (by omega) (by omega)]
    exact hN (i + 1) _ (by omega) (by omega) (Wk.list rfl (by simp [hts]) (by simp))
  · obtain rfl : i = L.length := by omega
    refine hE _ _ ?_
    simp only [blockK_exit]
    rw [List.take_length]
    simp [r_w_FnRolls_16]
    refine callQ_of (PCall.arg hC (by simp [List.take_of_length_le])) rfl (.inl (by simp)) (by simp) ?_
    simp [r_w_FnRolls_17]
    simp [r_w_FnRolls_19]
    clear hN hR hE
    refine loopK (fun i : Nat => ⟨[(0, .ro 1 (code.map Y)), (3, .ref 3 0 0), (4, .ref 4 0 0), (5, .sl 35 0 L.length), (6, B b), (14, I i)], [(35, ⟨1, L.map roS⟩), (4, ⟨3, [eRoll x]⟩), (3, ⟨1, [.agg [.sl 29 0 (List.length l)]]⟩), (29, ⟨18, List.map eGrant l⟩)], []⟩) (fun i => List.length l - i) (fun i => i ≤ List.length l) 0
      (Wk.list rfl (by simp) (by simp)) (by simp) ?_
    intro i hi K hN hR hE
    have fin : ∀ v : Bool, K (.exit 2) ⟨[(0, .ro 1 (code.map Y)), (3, .ref 3 0 0), (4, .ref 4 0 0), (5, .sl 35 0 L.length), (6, B b), (14, I i), (123, B v)], [(35, ⟨1, L.map roS⟩), (4, ⟨3, [eRoll x]⟩), (3, ⟨1, [.agg [.sl 29 0 (List.length l)]]⟩), (29, ⟨18, List.map eGrant l⟩)], []⟩ := fun v => by
      refine hE _ _ ?_
      simp only [blockK_exit]
      simp [r_w_FnRolls_27]
      refine callQ_of (PCall.arg hD2 (by simp)) rfl (.inr (by simp)) (by simp) ?_
      simp [r_w_FnRolls_28]
      refine callQ_of (PCall.arg (i_RollOrder l2 y) (by simp [List.take_of_length_le])) rfl (.inl (by simp)) (by simp) ?_
      simp [r_w_FnRolls_29]
      refine callQ_of (PCall.arg (s_RollOrder l2 y) (by simp [List.take_of_length_le])) rfl (.inl (by simp)) (by simp) ?_
      have hord : orderOk l2 y = true → (orderN l2 y).length = List.length l2 := fun h => by rw [orderN, if_pos h, List.length_map, rollOrd_len]
      obtain ⟨NO, hNO⟩ : ∃ NO, orderN l2 y = NO := ⟨_, rfl⟩
      obtain ⟨bo, hbo⟩ : ∃ bo, orderOk l2 y = bo := ⟨_, rfl⟩
      rw [hNO, hbo] at hord ⊢
      simp [r_w_FnRolls_30]
      refine callQ_v (PCall.arg (w_rInts NO NO) (by simp)) ?_
      cases bo with
      | false => simp
      | true => simp [hord rfl]
    simp [l_w_FnRolls_26, r_w_FnRolls_20]
    refine ⟨fun hlt => ?_, fun hge => ?_⟩
    · cases b with
      | false =>
        simp
        exact fin false
      | true =>
        simp
        obtain ⟨q, hq, e1, e2, e3, hw⟩ := hent rfl l[i] (List.getElem_mem _)
        have hwq := hw hq
        have hIE := i_EntryLines l[i] x.width
        have hEl := entryR_len l[i] x.width
        obtain ⟨E, hEd⟩ : ∃ E, entryR l[i] x.width = E := ⟨_, rfl⟩
        rw [hEd] at hIE hEl hwq
        rw [e3] at hIE
        simp [r_w_FnRolls_21, p_w_FnRolls_21, hlt]
        refine callD_of (PCall.arg (i_PageOf l x l[i].number) (by simp [List.take_of_length_le])) rfl (.inl (by simp)) ?_ ?_ ?_
        · simp
        · simp
        rw [e1, e2]
        simp
        refine ⟨oEnd_of (by simp [p_w_FnRolls_21]) (by simp), ?_⟩
        simp [r_w_FnRolls_22, p_w_FnRolls_22, hlt]
        refine callD_of (PCall.arg hIE (by simp)) rfl (.inl (by simp)) ?_ ?_ ?_
        · simp
        · simp
        simp
        refine ⟨oEnd_of (by simp [p_w_FnRolls_22]) (by simp), ?_⟩
        have hq1 : ¬ (q : Int) + 1 < 1 := by omega
        have hq2 : ¬ (L.length : Int) < (q : Int) + 1 := by omega
        simp [r_w_FnRolls_23, hq1, hq2]
        rw [wrap64 (n := (q : Int)) (by omega) (by omega)]
        refine ⟨⟨by omega, by omega⟩, ?_⟩
        simp [hq]
        obtain ⟨_, g2, _, _⟩ := hp L[q] (List.getElem_mem _)
        refine callQ_v (PCall.arg (w_rWithin L[q] E (by omega) (by omega) hwq) (by simp)) ?_
        simp [r_w_FnRolls_25]
        rw [wrap64 (by omega) (by omega)]
        exact hN (i + 1) _ (by omega) (by omega) (Wk.list rfl (by simp) (by simp))
    · exact fin _
end Go.Proofs.YtbeoijlggphklaaGreatDoor
