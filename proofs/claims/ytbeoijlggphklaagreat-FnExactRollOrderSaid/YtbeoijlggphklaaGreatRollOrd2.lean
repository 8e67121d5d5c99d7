/- RollOrder: program, reference, law. -/
import Derived.Test.YtbeoijlggphklaaGreatCodeRollOrd2
import Derived.Test.YtbeoijlggphklaaGreatRollOrd
set_option linter.unusedVariables false
set_option linter.unusedSimpArgs false
namespace Go.Proofs.YtbeoijlggphklaaGreat
open Go.Abs

/-- The numbers of the first ones. -/
def upto {α : Type} (f : α → Int) (L : List α) (i : Nat) : List Int := (L.take i).map f
theorem upto_len {α : Type} {f : α → Int} {L : List α} {i : Nat} (h : i ≤ L.length) : (upto f L i).length = i := by rw [upto, List.length_map, List.length_take]; omega
theorem upto_succ {α : Type} {f : α → Int} {L : List α} {i : Nat} (h : i < L.length) : upto f L (i + 1) = upto f L i ++ [f L[i]] := by rw [upto, take_succ' h, List.map_append]; rfl
theorem upto_all {α : Type} {f : α → Int} {L : List α} : upto f L L.length = L.map f := by rw [upto, List.take_length]
theorem upto_row {α : Type} {f : α → Int} {L : List α} {i : Nat} (h : i < L.length) : List.take i (ints (upto f L i)) ++ [I (f L[i])] = ints (upto f L (i + 1)) := by
  rw [upto_succ h, ints, ints, List.map_append, List.take_of_length_le (by rw [List.length_map, upto_len (by omega)]; omega)]; rfl
theorem i_RollOrder (l : Register) (y : Int) : PCall Tryz.prog n_i_RollOrder [eRegister l, I y] (.tup [.own 1 (ints (orderN l y)), B (orderOk l y)]) := by
  refine PCall.ofN fn_i_RollOrder (by simp) ?_
  simp [c_i_RollOrder, r_i_RollOrder_0, r_i_RollOrder_1]
  refine callQ_v (PCall.arg (i_IsValidRegister l) (by simp)) ?_
  cases h1 : register l with
  | false => simp [r_i_RollOrder_2, orderN, orderOk, h1]
  | true =>
  simp
  refine callQ_v (i_inside ..) ?_
  cases h2 : inR y 1 3 with
  | false => simp [r_i_RollOrder_2, orderN, orderOk, h1, h2]
  | true =>
  have hok : orderOk l y = true := by simp [orderOk, h1, h2]
  have hN0 : orderN l y = (rollOrd y l).map Grant.number := by simp [orderN, hok]
  have hl := register_len h1
  have hL := rollOrd_len y l
  simp [r_i_RollOrder_3, r_i_RollOrder_4]
  refine callQ_of (PCall.arg (i_Register_ordered l y h1) (by simp)) rfl (.inl (by simp)) (by simp) ?_
  rw [hok, hN0]
  generalize rollOrd y l = L at hL ⊢
  simp
  refine loopK (fun i : Nat => ⟨[(6, .sl 17 0 i), (20, .sl 20 0 L.length), (21, I L.length), (22, I i)], [(20, ⟨18, L.map eGrant⟩), (17, ⟨1, ints (upto Grant.number L i)⟩)], []⟩) (fun i => L.length - i) (fun i => i ≤ L.length) 0 (Wk.list rfl (by simp) (by simp [upto])) (by simp) ?_
  intro i hi K hN hR hE
  simp [l_i_RollOrder_9, r_i_RollOrder_5]
  refine ⟨fun hlt => ?_, fun hge => ?_⟩
  · simp [r_i_RollOrder_6, hlt]
    simp [r_i_RollOrder_7, r_i_RollOrder_8, upto_len (f := Grant.number) hi]
    have hul := upto_len (f := Grant.number) hi
    have hrow := upto_row (f := Grant.number) hlt
    refine ⟨by unfold lenBound; omega, ?_⟩
    rw [wrap64 (by omega) (by omega), hrow]
    refine hN (i + 1) _ (by omega) (by omega) (Wk.trans (Wk.ren 30 17 (by decide) (by simp)) (Wk.list rfl ?_ ?_))
    · simp [AS.ren, ren, reN]
    · simp [AS.ren, ren, reN, renB]
  · obtain rfl : i = L.length := by omega
    refine hE _ _ ?_
    simp only [blockK_exit]
    simp [r_i_RollOrder_10, upto_all, upto_len (f := Grant.number) (Nat.le_refl L.length)]
def numAt (l : Register) (q : Nat) : Int := (List.getD l q g00).number
theorem s_RollOrder (l : Register) (y : Int) : PCall Tryz.prog n_s_RollOrder [eRegister l, I y] (.tup [.own 1 (ints (orderN l y)), B (orderOk l y)]) := by
  refine PCall.of fn_s_RollOrder (by simp) ?_
  simp [c_s_RollOrder, r_s_RollOrder_0, r_s_RollOrder_1, r_s_RollOrder_2]
  refine callQ_v (PCall.arg (s_l16Good l) (by simp)) ?_
  cases h1 : register l with
  | false => simp [r_s_RollOrder_3, orderN, orderOk, h1]
  | true =>
  simp
  refine callQ_v (s_l25By ..) ?_
  cases h2 : inR y 1 3 with
  | false => simp [r_s_RollOrder_3, orderN, orderOk, h1, h2]
  | true =>
  have hok : orderOk l y = true := by simp [orderOk, h1, h2]
  have hN0 : orderN l y = (rollIx y l).map (numAt l) := by
    rw [orderN, if_pos hok, ← rollIx_map h1, List.map_map]; rfl
  have hl := register_len h1
  have hL := rollIx_len y l
  have hLm : ∀ q ∈ rollIx y l, q < List.length l := rollIx_lt
  simp [r_s_RollOrder_4, r_s_RollOrder_5]
  refine callQ_of (PCall.arg (s_l25Order l y h1) (by simp)) rfl (.inl (by simp)) (by simp) ?_
  rw [hok, hN0]
  generalize rollIx y l = L at hL hLm ⊢
  simp
  refine loopK (fun i : Nat => ⟨[(2, .ref 2 0 0), (6, .sl 9 0 i), (7, .sl 21 0 L.length), (8, I i)], [(2, ⟨1, [eRegister l]⟩), (21, ⟨1, L.map eIx⟩), (9, ⟨1, ints (upto (numAt l) L i)⟩)], []⟩) (fun i => L.length - i) (fun i => i ≤ L.length) 0 (Wk.list rfl (by simp) (by simp [upto])) (by simp) ?_
  intro i hi K hN hR hE
  simp [l_s_RollOrder_9, r_s_RollOrder_6]
  refine ⟨fun hlt => ?_, fun hge => ?_⟩
  · have hq := hLm L[i] (List.getElem_mem _)
    have hgq : l[L[i]]? = some l[L[i]] := List.getElem?_eq_getElem hq
    have hgd : numAt l L[i] = l[L[i]].number := by simp [numAt, hgq]
    have hul := upto_len (f := numAt l) hi
    have hrow := upto_row (f := numAt l) hlt
    simp only [hgd] at hrow
    simp [r_s_RollOrder_7, p_s_RollOrder_7, r_s_RollOrder_8, hlt, hq, hul]
    refine ⟨by unfold lenBound; omega, oEnd_of (by simp [p_s_RollOrder_7]) (by simp), ?_⟩
    rw [wrap64 (by omega) (by omega), hrow]
    refine hN (i + 1) _ (by omega) (by omega) (Wk.trans (Wk.ren 39 9 (by decide) (by simp)) (Wk.list rfl ?_ ?_))
    · simp [AS.ren, ren, reN]
    · simp [AS.ren, ren, reN, renB]
  · obtain rfl : i = L.length := by omega
    refine hE _ _ ?_
    simp only [blockK_exit]
    simp [r_s_RollOrder_10, upto_all, upto_len (f := numAt l) (Nat.le_refl L.length)]
end Go.Proofs.YtbeoijlggphklaaGreat
