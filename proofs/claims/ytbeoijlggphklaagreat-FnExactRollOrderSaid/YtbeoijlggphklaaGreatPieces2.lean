/- The text of arms in the program, put together. -/
import Derived.Test.YtbeoijlggphklaaGreatCodePieces2
import Derived.Test.YtbeoijlggphklaaGreatPieces
import Derived.Test.YtbeoijlggphklaaGreatRegister
set_option linter.unusedVariables false
set_option linter.unusedSimpArgs false
namespace Go.Proofs.YtbeoijlggphklaaGreat
open Go.Abs

def pieceSt (a : Arms) (f o n r : List UInt8) : AS := ⟨[(1, .ref 1 0 0), (2, .ref 2 0 0), (3, .ref 3 0 0)], [(1, ⟨15, [eArms a]⟩), (2, ⟨5, [.agg [S [], S [], S [], S [], B false]]⟩), (3, ⟨5, [.agg [S f, S o, S n, S r, B (a.ordinary == 7)]]⟩)], []⟩
def pieceSu (a : Arms) (f o n r : List UInt8) : AS := ⟨[(2, .ref 2 0 0), (3, .ref 3 0 0)], [(2, ⟨5, [.agg [S [], S [], S [], S [], B false]]⟩), (3, ⟨5, [.agg [S f, S o, S n, S r, B (a.ordinary == 7)]]⟩)], []⟩
set_option maxHeartbeats 2000000 in
theorem i_Arms_pieces (a : Arms) (h : arms a = true) : PCall Tryz.prog n_i_Arms_pieces [eArms a] (.agg [S (fieldT a.field), S (ordP a), S (grpP a.on), S (grpP a.around), B (a.ordinary == 7)]) := by
  have hf := arms_field h
  obtain ⟨hord, hon, har⟩ := arms_parts h
  have c1 := fieldT_len a.field
  have c2 := ordT_len a.ordinary a.line
  have c3 := tincW_len a.tincture
  have c4 := groupT_len a.on
  have c5 := groupT_len a.around
  refine PCall.of fn_i_Arms_pieces (by simp) ?_
  simp [c_i_Arms_pieces, r_i_Arms_pieces_0, r_i_Arms_pieces_1, p_i_Arms_pieces_1]
  refine callD_v (PCall.arg (i_Field_text a.field hf) (by simp)) ?_ ?_ ?_
  · simp
  · simp
  simp
  refine ⟨oEnd_of (by simp [p_i_Arms_pieces_1]) (by simp), ?_⟩
  refine wk_of (pieceSt a (fieldT a.field) [] [] []) (Wk.list rfl (by simp [pieceSt]) (by simp [pieceSt])) ?_
  simp [pieceSt, r_i_Arms_pieces_2]
  rcases Classical.em (a.ordinary = 0) with h0 | h0
  case' inl =>
    simp [h0]
    refine wk_of (pieceSt a (fieldT a.field) (ordP a) [] []) (Wk.list rfl (by simp [pieceSt, h0, ordP]) (by simp [pieceSt, h0, ordP])) ?_
  case' inr =>
    obtain ⟨hl, ht⟩ := hord.2.2.2 h0
    simp [h0, r_i_Arms_pieces_3, p_i_Arms_pieces_3]
    refine callD_v (PCall.arg (i_ordinaryStart a.ordinary a.line (by omega) hl) (by simp)) ?_ ?_ ?_
    · simp
    · simp
    simp
    repeat (refine ⟨by omega, ?_⟩)
    refine callD_v (PCall.arg (i_tincture a.tincture ht) (by simp)) ?_ ?_ ?_
    · simp
    · simp
    simp
    repeat (refine ⟨by omega, ?_⟩)
    refine ⟨oEnd_of (by simp [p_i_Arms_pieces_3]) (by simp), ?_⟩
    refine wk_of (pieceSt a (fieldT a.field) (ordP a) [] []) (Wk.list rfl (by simp [pieceSt, h0, ordP]) (by simp [pieceSt, h0, ordP])) ?_
  all_goals
    rcases hg : g0 a.on with _ | _
    case' false =>
      have hgn := hon hg
      have hg' : (a.on.count == 0 && (a.on.kind == 0 && (a.on.attitude == 0 && a.on.tincture == 0))) = false := hg
      simp [pieceSt, r_i_Arms_pieces_4, hg']
      simp [r_i_Arms_pieces_5]
      refine callQ_v (PCall.arg (i_Group_text a.on hgn) (by simp)) ?_
      simp
      refine wk_of (pieceSt a (fieldT a.field) (ordP a) (grpP a.on) []) (Wk.list rfl (by simp [pieceSt, grpP, hg]) (by simp [pieceSt, grpP, hg])) ?_
    case' true =>
      have hg' : (a.on.count == 0 && (a.on.kind == 0 && (a.on.attitude == 0 && a.on.tincture == 0))) = true := hg
      simp [pieceSt, r_i_Arms_pieces_4, hg']
      refine wk_of (pieceSt a (fieldT a.field) (ordP a) (grpP a.on) []) (Wk.list rfl (by simp [pieceSt, grpP, hg]) (by simp [pieceSt, grpP, hg])) ?_
    all_goals
      rcases hr : g0 a.around with _ | _
      case' false =>
        have hrn := har hr
        have hr' : (a.around.count == 0 && (a.around.kind == 0 && (a.around.attitude == 0 && a.around.tincture == 0))) = false := hr
        simp [pieceSt, r_i_Arms_pieces_6, hr']
        simp [r_i_Arms_pieces_7]
        refine callQ_v (PCall.arg (i_Group_text a.around hrn) (by simp)) ?_
        simp
        refine wk_of (pieceSu a (fieldT a.field) (ordP a) (grpP a.on) (grpP a.around)) (Wk.list rfl (by simp [pieceSu, grpP, hr]) (by simp [pieceSu, grpP, hr])) ?_
      case' true =>
        have hr' : (a.around.count == 0 && (a.around.kind == 0 && (a.around.attitude == 0 && a.around.tincture == 0))) = true := hr
        simp [pieceSt, r_i_Arms_pieces_6, hr']
        refine wk_of (pieceSu a (fieldT a.field) (ordP a) (grpP a.on) (grpP a.around)) (Wk.list rfl (by simp [pieceSu, grpP, hr]) (by simp [pieceSu, grpP, hr])) ?_
      all_goals
        simp [pieceSu, r_i_Arms_pieces_8]
theorem ordP_len (a : Arms) : (ordP a).length ≤ 50 := by
  have c2 := ordT_len a.ordinary a.line
  have c3 := tincW_len a.tincture
  unfold ordP
  split
  · simp
  · simp; omega
theorem grpP_len (g : Group) : (grpP g).length ≤ 60 := by
  have := groupT_len g
  unfold grpP
  split
  · simp
  · omega
theorem i_Arms_text (a : Arms) (h : arms a = true) : PCall Tryz.prog n_i_Arms_text [eArms a] (S (armsT a)) := by
  have e7 : (a.ordinary == 7) = decide (a.ordinary = 7) := by rw [Bool.eq_iff_iff]; simp
  have c1 := fieldT_len a.field
  have c2 := ordP_len a
  have c3 := grpP_len a.on
  have c4 := grpP_len a.around
  have hp := i_pieces_joined (fieldT a.field) (ordP a) (grpP a.on) (grpP a.around) (a.ordinary == 7) (by omega) (by omega) (by omega) (by omega)
  rw [armsT_pieces h, ← e7]
  refine PCall.of fn_i_Arms_text (by simp) ?_
  simp [c_i_Arms_text, r_i_Arms_text_0, r_i_Arms_text_1]
  refine callQ_of (PCall.arg (i_Arms_pieces a h) (by simp)) rfl (.inl (by simp)) (by simp) ?_
  simp
  refine callQ_v (PCall.arg hp (by simp)) ?_
  simp
end Go.Proofs.YtbeoijlggphklaaGreat
