/- Tables of whole numbers: put together cell by cell, in the program (with a function that tells a cell). -/
import Derived.Test.YtgefdcllialhkaaCodeTable
import Derived.Test.YtgefdcllialhkaaBanner
import Derived.Test.YtgefdcllialhkaaInts2
set_option linter.unusedVariables false
set_option linter.unusedSimpArgs false
namespace Go.Proofs.Ytgefdcllialhkaa
open Go.Abs

/-- A row of n cells. -/
def rowOf (n : Nat) (f : Nat → Int) : List Int := (List.range n).map f
/-- A table. -/
def tbl (rows cols : Nat) (f : Nat → Nat → Int) : List (List Int) := (List.range rows).map fun y => rowOf cols fun x => f x y
theorem rowOf_succ (n : Nat) (f : Nat → Int) : rowOf (n + 1) f = rowOf n f ++ [f n] := by simp only [rowOf, List.range_succ, List.map_append, List.map_cons, List.map_nil]
theorem rowOf_len (n : Nat) (f : Nat → Int) : (rowOf n f).length = n := by simp [rowOf]
theorem rowOf_get {n i : Nat} {f : Nat → Int} (h : i < (rowOf n f).length) : (rowOf n f)[i] = f i := by simp [rowOf]
theorem rowOf_congr {n : Nat} {f g : Nat → Int} (h : ∀ i, i < n → f i = g i) : rowOf n f = rowOf n g := by
  apply List.map_congr_left
  intro i hi
  exact h i (List.mem_range.1 hi)
theorem tbl_succ (r c : Nat) (f : Nat → Nat → Int) : tbl (r + 1) c f = tbl r c f ++ [rowOf c fun x => f x r] := by simp only [tbl, List.range_succ, List.map_append, List.map_cons, List.map_nil]
theorem tbl_len (r c : Nat) (f : Nat → Nat → Int) : (tbl r c f).length = r := by simp [tbl]
theorem tbl_total (r c : Nat) (f : Nat → Nat → Int) : total (tbl r c f) = r * c := by
  induction r with
  | zero => simp [tbl, total]
  | succ r ih => rw [tbl_succ, total_append, ih]; simp [rowOf_len, Nat.succ_mul]
theorem tbl_bounds {r c : Nat} {f : Nat → Nat → Int} (hr : r ≤ 60) (hc : c ≤ 60) : (tbl r c f).length ≤ 60 ∧ total (tbl r c f) ≤ 3600 := by
  rw [tbl_len, tbl_total]
  exact ⟨hr, Nat.mul_le_mul hr hc⟩
theorem tbl_congr {r c : Nat} {f g : Nat → Nat → Int} (h : ∀ x y, x < c → y < r → f x y = g x y) : tbl r c f = tbl r c g := by
  apply List.map_congr_left
  intro y hy
  exact rowOf_congr fun x hx => h x y hx (List.mem_range.1 hy)

theorem i_table (rows cols : Nat) (f : Nat → Nat → Int) (g : Nat) (caps : List V) (h1 : rows ≤ 60) (h2 : cols ≤ 60) (hc : ∀ hp, caps.map (borrow hp 6) = caps) (hi' : idsVs caps = []) (ho : noOwns caps = true) (hm : ∀ d, ments d caps = false)
    (hp : ∀ x y : Nat, x < cols → y < rows → PCall Try.prog g (I x :: I y :: caps) (I (f x y))) :
    PCall Try.prog n_i_table [I rows, I cols, .clo g caps] (.own 1 ((tbl rows cols f).map ownI)) := by
  refine PCall.of fn_i_table (by simp) ?_
  simp [c_i_table, r_i_table_0, r_i_table_1, r_i_table_2, r_i_table_13, lenBound, hm]
  refine ⟨by omega, ?_⟩
  refine loopK (fun i : Nat => ⟨[(1, I cols), (2, .clo g caps), (7, .sl 11 0 rows), (13, I rows), (14, I i)], [(11, ⟨1, (tbl i cols f).map ownI ++ List.replicate (rows - i) (ownI [])⟩)], []⟩) (fun i => rows - i) (fun i => i ≤ rows) 0 ?_ (by simp) ?_
  · exact Wk.trans (Wk.le 11 (List.replicate rows (ownI [])) (by rfl) (leVs_nils ..)) (Wk.list rfl (by simp) (by simp [tbl]))
  intro i hi K hN hR hE
  simp [r_i_table_3, l_i_table_12]
  refine ⟨fun hlt => ?_, fun hge => ?_⟩
  · simp [r_i_table_4, r_i_table_5, l_i_table_10]
    have hlen : (List.map ownI (tbl i cols f)).length = i := by simp [tbl_len]
    have hrep : List.replicate (rows - i) (ownI []) = ownI [] :: List.replicate (rows - (i + 1)) (ownI []) := by rw [show rows - i = (rows - (i + 1)) + 1 by omega, List.replicate_succ]
    rw [hrep]
    refine loopK (fun k : Nat => ⟨[(1, I cols), (2, .clo g caps), (7, .sl 11 0 rows), (8, I i), (13, I rows), (14, I i), (17, I cols), (18, I k)], [(11, ⟨1, (tbl i cols f).map ownI ++ ownI (rowOf k fun x => f x i) :: List.replicate (rows - (i + 1)) (ownI [])⟩)], []⟩) (fun k => cols - k) (fun k => k ≤ cols) 0 (Wk.list rfl (by simp) (by simp [rowOf])) (by simp) ?_
    intro k hk K' hN' hR' hE'
    simp [r_i_table_6]
    refine ⟨fun hklt => ?_, fun hkge => ?_⟩
    · simp [r_i_table_7]
      refine wk_of _ (Wk.unfold1 11 i 500 (by rfl) (app_get hlen) (by simp [hm])) ?_
      simp [r_i_table_8, p_i_table_8, app_set hlen, app_get hlen, hlt]
      refine callD_v (PCall.arg (hp k i hklt hlt) (by simp [hc])) ?_ ?_ ?_
      · simp [ho]
      · simp [hi']
      simp [app_set hlen, app_get hlen, hlt, rowOf_len]
      refine ⟨by unfold lenBound; omega, oEnd_of (by simp [p_i_table_8, hi', hm, app_set hlen, rowOf_len]) (by simp [hm, rowOf_len]), ?_⟩
      simp [r_i_table_9]
      rw [wrap64 (by omega) (by omega), List.take_of_length_le (by simp [rowOf_len])]
      refine hN' (k + 1) _ (by omega) (by omega) (Wk.trans (Wk.fold1 11 i 32 (n := k + 1) (by rfl) (by rfl) (app_get hlen) (by simp [rowOf_len]) (by simp) (by simp)) (Wk.list rfl ?_ ?_))
      · simp
      · simp [app_set hlen, rowOf_succ]
    · refine hE' _ _ ?_
      obtain rfl : k = cols := by omega
      simp [r_i_table_11]
      rw [wrap64 (by omega) (by omega)]
      refine hN (i + 1) _ (by omega) (by omega) (Wk.list rfl (by simp) (by simp [tbl_succ]))
  · refine hE _ _ ?_
    obtain rfl : i = rows := by omega
    simp [tbl_len]
end Go.Proofs.Ytgefdcllialhkaa
