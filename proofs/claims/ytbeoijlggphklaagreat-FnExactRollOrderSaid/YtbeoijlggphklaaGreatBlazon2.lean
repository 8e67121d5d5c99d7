/- The texts of arms, put together. -/
import Derived.Test.YtbeoijlggphklaaGreatCodeBlazon2
import Derived.Test.YtbeoijlggphklaaGreatBlazon
set_option linter.unusedVariables false
set_option linter.unusedSimpArgs false
namespace Go.Proofs.YtbeoijlggphklaaGreat
open Go.Abs

set_option maxHeartbeats 1000000 in
theorem i_Field_text (f : Field) (h : fieldOk f = true) : PCall Tryz.prog n_i_Field_text [eField f] (S (fieldT f)) := by
  simp only [fieldOk, Bool.and_eq_true, inR_iff] at h
  obtain ⟨⟨⟨h1, h2⟩, h3⟩, h4⟩ := h
  have b1 := tincW_len f.first
  have b2 := tincW_len f.second
  have b3 := divW_len f.division
  have b4 := withL_len (divW f.division) f.line
  refine PCall.of fn_i_Field_text (by simp) ?_
  by_cases h0 : f.division = 0
  · simp [c_i_Field_text, r_i_Field_text_0, r_i_Field_text_1, r_i_Field_text_2, h0]
    exact callQ_v (PCall.arg (i_tincture f.first (inR_iff.2 h3)) (by simp)) (by simp [fieldT, h0])
  · rw [if_neg h0] at h4
    simp only [Bool.and_eq_true, inR_iff] at h4
    have hL : divL.length = 7 := rfl
    have hw : divL[(f.division - 1).toNat]? = some (divW f.division) := word_at' (by omega)
    simp [c_i_Field_text, r_i_Field_text_0, r_i_Field_text_1, r_i_Field_text_3, p_i_Field_text_3, h0]
    refine callD_of (PCall.arg (i_divisionWords) (by simp)) rfl (.inl (by simp)) ?_ ?_ ?_
    · simp
    · simp
    simp
    rw [wrap64 (n := f.division - 1) (by omega) (by omega), hw]
    repeat (refine ⟨by omega, ?_⟩)
    simp
    refine callD_v (PCall.arg (i_withLine (divW f.division) f.line (by omega) (by omega)) (by simp)) ?_ ?_ ?_
    · simp
    · simp
    simp
    repeat (refine ⟨by omega, ?_⟩)
    refine callD_v (PCall.arg (i_tincture f.first (inR_iff.2 h3)) (by simp)) ?_ ?_ ?_
    · simp
    · simp
    simp
    repeat (refine ⟨by omega, ?_⟩)
    refine callD_v (PCall.arg (i_tincture f.second (inR_iff.2 h4.1)) (by simp)) ?_ ?_ ?_
    · simp
    · simp
    simp
    repeat (refine ⟨by omega, ?_⟩)
    refine ⟨oEnd_of (by simp [p_i_Field_text_3]) (by simp), ?_⟩
    simp [fieldT, h0]
set_option maxHeartbeats 1000000 in
theorem i_Group_text (g : Group) (h : groupOk g = true) : PCall Tryz.prog n_i_Group_text [eGroup g] (S (groupT g)) := by
  obtain ⟨h1, h2, h3, h4⟩ := groupOk_iff h
  have b0 := groupT_len g
  have b1 := countW_len g.count g.kind
  have b2 := kindW_len g.kind g.count
  have b3 := attW_len g.kind (g.attitude - 1).toNat
  have b4 := tincW_len g.tincture
  refine PCall.of fn_i_Group_text (by simp) ?_
  simp [c_i_Group_text, r_i_Group_text_0, r_i_Group_text_1, p_i_Group_text_1]
  refine callD_v (PCall.arg (i_countWord g.count g.kind h1) (by simp)) ?_ ?_ ?_
  · simp
  · simp
  simp
  repeat (refine ⟨by omega, ?_⟩)
  refine callD_v (PCall.arg (i_kindWord g.kind g.count h2) (by simp)) ?_ ?_ ?_
  · simp
  · simp
  simp
  repeat (refine ⟨by omega, ?_⟩)
  refine ⟨oEnd_of (by simp [p_i_Group_text_1]) (by simp), ?_⟩
  simp [r_i_Group_text_2]
  by_cases ha : 0 < g.attitude
  · obtain ⟨g1, g2⟩ := att_get h ha
    refine ⟨fun _ => ?_, fun h => by omega⟩
    simp [r_i_Group_text_3, p_i_Group_text_3]
    refine callD_of (PCall.arg (i_attitudes g.kind) (by simp)) rfl (.inl (by simp)) ?_ ?_ ?_
    · simp
    · simp
    simp
    rw [wrap64 (n := g.attitude - 1) (by omega) (by omega), word_at' g1]
    repeat (refine ⟨by omega, ?_⟩)
    obtain ⟨aw, haw⟩ : ∃ aw, (attitudes g.kind).getD (g.attitude - 1).toNat [] = aw := ⟨_, rfl⟩
    have hG : groupT g = countW g.count g.kind ++ 32 :: (kindW g.kind g.count ++ (32 :: aw) ++ 32 :: tincW g.tincture) := by rw [groupT, haw, if_pos ha]
    rw [haw] at b3 ⊢
    rw [hG]
    simp
    repeat (refine ⟨by omega, ?_⟩)
    refine ⟨oEnd_of (by simp [p_i_Group_text_3]) (by simp), ?_⟩
    simp [r_i_Group_text_4]
    repeat (refine ⟨by omega, ?_⟩)
    refine callQ_v (PCall.arg (i_tincture g.tincture h3) (by simp)) ?_
    simp
    omega
  · have hG : groupT g = countW g.count g.kind ++ 32 :: (kindW g.kind g.count ++ [] ++ 32 :: tincW g.tincture) := by rw [groupT, if_neg ha]
    rw [hG]
    refine ⟨fun h => by omega, fun _ => ?_⟩
    simp [r_i_Group_text_4]
    repeat (refine ⟨by omega, ?_⟩)
    refine callQ_v (PCall.arg (i_tincture g.tincture h3) (by simp)) ?_
    simp
    omega
theorem arms_parts {a : Arms} (h : arms a = true) : (0 ≤ a.ordinary ∧ a.ordinary ≤ 7 ∧ (a.ordinary = 0 → g0 a.on = true) ∧ (a.ordinary ≠ 0 → (0 ≤ a.line ∧ a.line ≤ 4) ∧ inR a.tincture 1 9 = true)) ∧ (g0 a.on = false → groupOk a.on = true) ∧ (g0 a.around = false → groupOk a.around = true) := by
  simp only [arms, Bool.and_eq_true, Bool.or_eq_true] at h
  obtain ⟨⟨hf, har⟩, ho⟩ := h
  have hr : g0 a.around = false → groupOk a.around = true := fun e => har.resolve_left (by rw [e]; simp)
  by_cases h0 : a.ordinary = 0
  · rw [if_pos h0] at ho
    simp only [Bool.and_eq_true] at ho
    exact ⟨⟨by omega, by omega, fun _ => ho.2, fun h => absurd h0 h⟩, fun e => (by rw [ho.2] at e; cases e), hr⟩
  · rw [if_neg h0] at ho
    simp only [Bool.and_eq_true, Bool.or_eq_true] at ho
    obtain ⟨⟨⟨o1, o2⟩, o3⟩, o4⟩ := ho
    have o1 := inR_iff.1 o1
    have o2 := inR_iff.1 o2
    exact ⟨⟨by omega, by omega, fun h => absurd h h0, fun _ => ⟨o2, o3⟩⟩, fun e => o4.resolve_left (by rw [e]; simp), hr⟩
set_option maxHeartbeats 2000000 in
theorem s_l6Text (a : Arms) (h : arms a = true) : PCall Tryz.prog n_s_l6Text [eArms a] (S (armsT a)) := by
  have h' := h
  simp only [arms, Bool.and_eq_true] at h'
  obtain ⟨⟨hf, har⟩, ho⟩ := h'
  obtain ⟨hord, hon⟩ := arms_parts h
  have c1 := fieldT_len a.field
  have c2 := ordT_len a.ordinary a.line
  have c3 := tincW_len a.tincture
  have c4 := groupT_len a.on
  have c5 := groupT_len a.around
  have c6 := joinT_len a.ordinary
  obtain ⟨t1, ht1⟩ : ∃ t1, fieldT a.field ++ (if a.ordinary = 0 then [] else [44, 32] ++ ordT a.ordinary a.line ++ 32 :: tincW a.tincture) = t1 := ⟨_, rfl⟩
  obtain ⟨t2, ht2⟩ : ∃ t2, t1 ++ (if g0 a.on then [] else [32, 99, 104, 97, 114, 103, 101, 100, 32, 119, 105, 116, 104, 32] ++ groupT a.on) = t2 := ⟨_, rfl⟩
  have hT : armsT a = t2 ++ (if g0 a.around then [] else joinT a.ordinary ++ groupT a.around) := by rw [armsT, ht1, ht2]
  have d1 : t1.length ≤ 120 := by rw [← ht1]; split <;> simp <;> omega
  have d2 : t2.length ≤ 200 := by rw [← ht2]; split <;> simp <;> omega
  rw [hT]
  refine PCall.of fn_s_l6Text (by simp) ?_
  simp [c_s_l6Text, r_s_l6Text_0, r_s_l6Text_1]
  refine callQ_v (PCall.arg (s_l3Text a.field hf) (by simp)) ?_
  simp [r_s_l6Text_2]
  rcases Classical.em (a.ordinary = 0) with h0 | h0
  case' inl =>
    simp [h0]
    refine wk_of ⟨[(1, .ref 1 0 0), (3, S t1)], [(1, ⟨15, [eArms a]⟩)], []⟩ (Wk.list rfl (by simp [← ht1, h0]) (by simp)) ?_
  case' inr =>
    obtain ⟨hl, ht⟩ := hord.2.2.2 h0
    refine ⟨fun _ => ?a, fun h => absurd h (by omega)⟩
    case' a =>
      simp [r_s_l6Text_3, p_s_l6Text_3]
      repeat (refine ⟨by omega, ?_⟩)
      refine callD_v (PCall.arg (s_l6Ordinary a.ordinary a.line (by omega) hl) (by simp)) ?_ ?_ ?_
      · simp
      · simp
      simp
      repeat (refine ⟨by omega, ?_⟩)
      refine callD_v (PCall.arg (s_l2Word a.tincture ht) (by simp)) ?_ ?_ ?_
      · simp
      · simp
      simp
      repeat (refine ⟨by omega, ?_⟩)
      refine ⟨oEnd_of (by simp [p_s_l6Text_3]) (by simp), ?_⟩
      refine wk_of ⟨[(1, .ref 1 0 0), (3, S t1)], [(1, ⟨15, [eArms a]⟩)], []⟩ (Wk.list rfl (by simp [← ht1, h0]) (by simp)) ?_
  all_goals
    simp [r_s_l6Text_4]
    refine callQ_v (PCall.arg (s_l4None a.on) (by simp)) ?_
    rcases hg : g0 a.on with _ | _
    case' false =>
      simp [r_s_l6Text_5]
      repeat (refine ⟨by omega, ?_⟩)
      refine callQ_v (PCall.arg (s_l4Text a.on (hon.1 hg)) (by simp)) ?_
      simp
      repeat (refine ⟨by omega, ?_⟩)
      refine wk_of ⟨[(1, .ref 1 0 0), (3, S t2)], [(1, ⟨15, [eArms a]⟩)], []⟩ (Wk.list rfl (by simp [← ht2, hg]) (by simp)) ?_
    case' true =>
      simp
      refine wk_of ⟨[(1, .ref 1 0 0), (3, S t2)], [(1, ⟨15, [eArms a]⟩)], []⟩ (Wk.list rfl (by simp [← ht2, hg]) (by simp)) ?_
    all_goals
      simp [r_s_l6Text_6]
      refine callQ_v (PCall.arg (s_l4None a.around) (by simp)) ?_
      cases hr : g0 a.around with
      | true =>
        simp
        refine wk_of _ (Wk.refl _) ?_
        simp [r_s_l6Text_8]
      | false =>
        simp [r_s_l6Text_7, p_s_l6Text_7]
        refine callD_v (PCall.arg (s_l6Join a.ordinary) (by simp)) ?_ ?_ ?_
        · simp
        · simp
        simp
        repeat (refine ⟨by omega, ?_⟩)
        refine callD_v (PCall.arg (s_l4Text a.around (hon.2 hr)) (by simp)) ?_ ?_ ?_
        · simp
        · simp
        simp
        repeat (refine ⟨by omega, ?_⟩)
        refine ⟨oEnd_of (by simp [p_s_l6Text_7]) (by simp), ?_⟩
        refine wk_of _ (Wk.refl _) ?_
        simp [r_s_l6Text_8]
end Go.Proofs.YtbeoijlggphklaaGreat
