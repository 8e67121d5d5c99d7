/- Counting the cells of tables, in the program and in the reference. -/
import Derived.Test.YtgefdcllialhkaaCodeAreas
import Derived.Test.YtgefdcllialhkaaBanner
set_option linter.unusedVariables false
set_option linter.unusedSimpArgs false
namespace Go.Proofs.Ytgefdcllialhkaa
open Go.Abs

/-- How often 1, 2, .. n stand in a row. -/
def cnt (n : Nat) (l : List Int) : List Int := (List.range n).map fun k : Nat => (l.count ((k : Int) + 1) : Int)
theorem cnt_len (n : Nat) (l : List Int) : (cnt n l).length = n := by simp [cnt]
theorem cnt_nil (n : Nat) : cnt n [] = List.replicate n 0 := by
  apply List.ext_getElem <;> simp [cnt]
theorem cnt_get {n : Nat} {l : List Int} {x : Int} (h1 : 1 ≤ x) (h2 : x ≤ n) : (cnt n l)[x.toNat - 1]? = some (l.count x : Int) := by
  have h : x.toNat - 1 < (cnt n l).length := by rw [cnt_len]; omega
  rw [List.getElem?_eq_getElem h]
  simp only [cnt, List.getElem_map, List.getElem_range]
  rw [show ((x.toNat - 1 : Nat) : Int) + 1 = x from by omega]
theorem cnt_step {n : Nat} {l : List Int} {x : Int} (h1 : 1 ≤ x) (h2 : x ≤ n) : (cnt n l).set (x.toNat - 1) ((l.count x : Int) + 1) = cnt n (l ++ [x]) := by
  apply List.ext_getElem
  · rw [List.length_set, cnt_len, cnt_len]
  · intro j hj hj'
    rw [List.getElem_set]
    rw [cnt_len] at hj'
    simp only [cnt, List.getElem_map, List.getElem_range, List.count_append, List.count_singleton]
    by_cases e : x.toNat - 1 = j
    · rw [if_pos e]
      have : (j : Int) + 1 = x := by omega
      rw [this]
      simp
    · rw [if_neg e]
      have : ¬ x = (j : Int) + 1 := by omega
      simp [this]
theorem cnt_zero {n : Nat} {l : List Int} : cnt n (l ++ [0]) = cnt n l := by
  simp only [cnt]
  apply List.map_congr_left
  intro k _
  have : ¬ (0 : Int) = (k : Int) + 1 := by omega
  simp [List.count_cons, this]

theorem flatten_len (b : List (List Int)) : b.flatten.length = total b := by simp [total, List.length_flatten]
theorem flatten_take_succ {b : List (List Int)} {i : Nat} (h : i < b.length) : (b.take (i + 1)).flatten = (b.take i).flatten ++ b[i] := by rw [take_succ' h, List.flatten_append, List.flatten_singleton]
theorem count_le {b : List (List Int)} {i k : Nat} (h : i < b.length) (x : Int) : ((b.take i).flatten ++ b[i].take k).count x ≤ total b := by
  refine Nat.le_trans (List.count_le_length) ?_
  rw [List.length_append, flatten_len]
  have h1 := total_take_le b (i + 1)
  rw [take_succ' h, total_append, total_cons, total_nil] at h1
  have : (b[i].take k).length ≤ b[i].length := by simp; omega
  omega

theorem banner_cells {b : List (List Int)} (h : banner b = true) {i k : Nat} (hi : i < b.length) (hk : k < b[i].length) : 1 ≤ b[i][k] ∧ b[i][k] ≤ 9 := by
  simp only [banner, Bool.and_eq_true, List.all_eq_true, rowOk] at h
  exact inR_iff.1 ((h.2 _ (List.getElem_mem hi)).2 _ (List.getElem_mem hk))
theorem banner_total {b : List (List Int)} (h : banner b = true) : b.length ≤ 60 ∧ total b ≤ 3600 ∧ ∀ r ∈ b, r.length ≤ 60 := by
  simp only [banner, Bool.and_eq_true, List.all_eq_true, rowOk, decide_eq_true_iff, inR_iff] at h
  obtain ⟨⟨⟨_, h1⟩, _, h2⟩, h3⟩ := h
  have : ∀ (l : List (List Int)) (w : Nat), w ≤ 60 → (∀ r ∈ l, r.length = w) → total l ≤ l.length * 60 := by
    intro l w hw
    induction l with
    | nil => simp
    | cons r l ih =>
      intro hl
      have h4 := hl r (by simp)
      have h5 := ih fun r hr => hl r (by simp [hr])
      simp only [total_cons, List.length_cons]; omega
  have h6 := this b (wide b) (by omega) fun r hr => (h3 r hr).1
  exact ⟨by omega, by omega, fun r hr => by have := (h3 r hr).1; omega⟩

/-- The areas of the tinctures of a banner. -/
def areas (b : List (List Int)) : List Int := if banner b then cnt 9 b.flatten else []

/-- Cells from 0 to n. -/
def cellsIn (n : Nat) (b : List (List Int)) : Prop := ∀ r ∈ b, ∀ x ∈ r, 0 ≤ x ∧ x ≤ n

theorem i_counted (b : List (List Int)) (n : Nat) (hn : n ≤ 1000) (hc : cellsIn n b) (ht : total b ≤ 1000000) : PCall Try.prog n_i_counted [.ro 1 (b.map roI), I n] (.own 1 (ints (cnt n b.flatten))) := by
  refine PCall.ofL fn_i_counted (by simp) fun hl => ?_
  simp at hl
  obtain ⟨hl, hls⟩ := hl
  simp [c_i_counted, r_i_counted_0, r_i_counted_1, r_i_counted_2, r_i_counted_14, lenBound]
  refine ⟨by omega, ?_⟩
  refine loopK (fun i : Nat => ⟨[(5, .sl 11 0 n), (12, .ro 1 (b.map roI)), (13, I b.length), (14, I i)], [(11, ⟨1, ints (cnt n (b.take i).flatten)⟩)], []⟩) (fun i => b.length - i) (fun i => i ≤ b.length) 0 (Wk.list rfl (by simp) (by simp [cnt_nil])) (by simp) ?_
  intro i hi K hN hR hE
  simp [r_i_counted_3, l_i_counted_13]
  refine ⟨fun hlt => ?_, fun hge => ?_⟩
  · simp [r_i_counted_4, hlt]
    simp [r_i_counted_5, l_i_counted_11]
    have hil : b[i].length ≤ 9223372036854775807 := by
      have := lenPs_map hls (List.getElem_mem hlt)
      simpa using this
    refine loopK (fun k : Nat => ⟨[(5, .sl 11 0 n), (12, .ro 1 (b.map roI)), (13, I b.length), (14, I i), (18, .ro 1 (ints b[i])), (19, I b[i].length), (20, I k)], [(11, ⟨1, ints (cnt n ((b.take i).flatten ++ b[i].take k))⟩)], []⟩) (fun k => b[i].length - k) (fun k => k ≤ b[i].length) 0 (Wk.list rfl (by simp) (by simp)) (by simp) ?_
    intro k hk K' hN' hR' hE'
    simp [r_i_counted_6]
    refine ⟨fun hklt => ?_, fun hkge => ?_⟩
    · have hx := hc _ (List.getElem_mem hlt) _ (List.getElem_mem hklt)
      have hcl := count_le (k := k) hlt b[i][k]
      simp [r_i_counted_7, hklt]
      simp [r_i_counted_8]
      refine ⟨fun hpos => ?_, fun hz0 => ?_⟩
      · have hg := cnt_get (n := n) (l := (b.take i).flatten ++ b[i].take k) (by omega : 1 ≤ b[i][k]) hx.2
        have hst := cnt_step (n := n) (l := (b.take i).flatten ++ b[i].take k) (by omega : 1 ≤ b[i][k]) hx.2
        generalize hz : (b.take i).flatten ++ b[i].take k = z at hg hst hcl
        simp [r_i_counted_9]
        rw [wrap64 (by omega) (by omega)]
        simp [hg, cnt_len]
        refine ⟨by omega, ?_⟩
        rw [wrap64 (by omega) (by omega)]
        simp [r_i_counted_10]
        rw [wrap64 (by omega) (by omega)]
        refine hN' (k + 1) _ (by omega) (by omega) (Wk.list rfl (by simp) ?_)
        have e : (b.take i).flatten ++ b[i].take (k + 1) = z ++ [b[i][k]] := by rw [← hz, take_succ' hklt, List.append_assoc]
        rw [e, ← hst]
        simp [List.map_set]
      · have h0 : b[i][k] = 0 := by omega
        simp [r_i_counted_10]
        rw [wrap64 (by omega) (by omega)]
        refine hN' (k + 1) _ (by omega) (by omega) (Wk.list rfl (by simp) ?_)
        rw [take_succ' hklt, ← List.append_assoc, h0, cnt_zero]
        simp
    · refine hE' _ _ ?_
      simp [r_i_counted_12]
      rw [wrap64 (by omega) (by omega)]
      refine hN (i + 1) _ (by omega) (by omega) (Wk.list rfl (by simp) ?_)
      rw [flatten_take_succ hlt, List.take_of_length_le (l := b[i]) (by omega)]
      simp
  · refine hE _ _ ?_
    obtain rfl : i = b.length := by omega
    simp [cnt_len]

theorem banner_cellsIn {b : List (List Int)} (h : banner b = true) : cellsIn 9 b := by
  simp only [banner, Bool.and_eq_true, List.all_eq_true, rowOk] at h
  intro r hr x hx
  have := inR_iff.1 ((h.2 _ hr).2 _ hx)
  omega

theorem i_TinctureAreas (b : List (List Int)) : PCall Try.prog n_i_TinctureAreas [.ro 1 (b.map roI)] (.tup [.own 1 (ints (areas b)), B (banner b)]) := by
  cases hb : banner b with
  | false =>
    refine PCall.res (res := .tup [.v (.slice none 0 0), B false]) ?_ ?_
    · refine PCall.of fn_i_TinctureAreas (by simp) ?_
      simp [c_i_TinctureAreas, r_i_TinctureAreas_0, r_i_TinctureAreas_1]
      refine callQ_v (i_IsValidBanner ..) ?_
      simp [r_i_TinctureAreas_2, hb]
    · simp only [areas, hb, Bool.false_eq_true, if_false, List.map_nil, ints]
      exact Le.tup ⟨Le.nil 1, Le.refl _, trivial⟩
  | true =>
    have ht := banner_total hb
    refine PCall.of fn_i_TinctureAreas (by simp) ?_
    simp [c_i_TinctureAreas, r_i_TinctureAreas_0, r_i_TinctureAreas_1]
    refine callQ_v (i_IsValidBanner ..) ?_
    simp [r_i_TinctureAreas_3, hb]
    refine callQ_of (PCall.arg (i_counted b 9 (by omega) (banner_cellsIn hb) (by omega)) (by simp)) rfl (.inl (by simp)) (by simp) ?_
    simp [areas, hb]

theorem areas_len (b : List (List Int)) : (areas b).length ≤ 9 := by
  unfold areas
  split
  · rw [cnt_len]; omega
  · simp
end Go.Proofs.Ytgefdcllialhkaa
