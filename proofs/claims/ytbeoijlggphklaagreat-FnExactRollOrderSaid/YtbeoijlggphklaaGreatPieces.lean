/- The text of arms in the program: pieces, joined. -/
import Derived.Test.YtbeoijlggphklaaGreatCodePieces
import Derived.Test.YtbeoijlggphklaaGreatBlazon2
set_option linter.unusedVariables false
set_option linter.unusedSimpArgs false
namespace Go.Proofs.YtbeoijlggphklaaGreat
open Go.Abs

def piecesJ (f o n r : List UInt8) (c : Bool) : List UInt8 :=
  if o = [] then (if r = [] then f else f ++ [44, 32] ++ r) else
    (f ++ ([44, 32] ++ o)) ++ (if n = [] then [] else [32, 99, 104, 97, 114, 103, 101, 100, 32, 119, 105, 116, 104, 32] ++ n) ++ (if r = [] then [] else (if c then [32, 97, 98, 111, 118, 101, 32] else [32, 98, 101, 116, 119, 101, 101, 110, 32]) ++ r)
theorem i_pieces_joined (f o n r : List UInt8) (c : Bool) (hf : f.length ≤ 1000) (ho : o.length ≤ 1000) (hn : n.length ≤ 1000) (hr : r.length ≤ 1000) : PCall Tryz.prog n_i_pieces_joined [.agg [S f, S o, S n, S r, B c]] (S (piecesJ f o n r c)) := by
  refine PCall.of fn_i_pieces_joined (by simp) ?_
  rcases o with _ | ⟨a, o⟩
  · rcases r with _ | ⟨b, r⟩
    · simp [c_i_pieces_joined, r_i_pieces_joined_0, r_i_pieces_joined_1, r_i_pieces_joined_2, r_i_pieces_joined_3, piecesJ]
    · simp [c_i_pieces_joined, r_i_pieces_joined_0, r_i_pieces_joined_1, r_i_pieces_joined_2, r_i_pieces_joined_4, r_i_pieces_joined_5]
      simp at hr
      repeat (refine ⟨by omega, ?_⟩)
      simp [piecesJ]
  · simp at ho
    simp [c_i_pieces_joined, r_i_pieces_joined_0, r_i_pieces_joined_1, r_i_pieces_joined_2, r_i_pieces_joined_4, r_i_pieces_joined_6, r_i_pieces_joined_7]
    repeat (refine ⟨by omega, ?_⟩)
    rcases n with _ | ⟨d, n⟩ <;> rcases r with _ | ⟨b, r⟩ <;> cases c
    all_goals
      simp at hr hn
      simp [r_i_pieces_joined_8, r_i_pieces_joined_9, r_i_pieces_joined_10, r_i_pieces_joined_11, r_i_pieces_joined_12, r_i_pieces_joined_13, piecesJ]
    all_goals
      repeat (refine ⟨by omega, ?_⟩)
      try omega
def ordP (a : Arms) : List UInt8 := if a.ordinary = 0 then [] else ordT a.ordinary a.line ++ 32 :: tincW a.tincture
def grpP (g : Group) : List UInt8 := if g0 g then [] else groupT g
theorem armsT_pieces {a : Arms} (h : arms a = true) : armsT a = piecesJ (fieldT a.field) (ordP a) (grpP a.on) (grpP a.around) (decide (a.ordinary = 7)) := by
  obtain ⟨ho, _, _⟩ := arms_parts h
  have hne : ∀ g, groupT g ≠ [] := fun g => by simp [groupT]
  have hoe : a.ordinary ≠ 0 → ordP a ≠ [] := fun e => by simp [ordP, e]
  unfold armsT piecesJ grpP joinT
  by_cases h0 : a.ordinary = 0
  · have hon := ho.2.2.1 h0
    cases hr : g0 a.around <;> simp [h0, hon, hr, ordP, hne]
  · have := hoe h0
    cases hn : g0 a.on <;> cases hr : g0 a.around <;> by_cases h7 : a.ordinary = 7 <;> simp [h0, h7, ordP, hn, hr, hne, this]
end Go.Proofs.YtbeoijlggphklaaGreat
