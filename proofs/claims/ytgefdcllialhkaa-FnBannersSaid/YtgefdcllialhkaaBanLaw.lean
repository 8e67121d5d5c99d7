/- The plain law of banners: the asked size, turning round twice, areas. -/
import Derived.Test.YtgefdcllialhkaaBannerOf
import Derived.Test.YtgefdcllialhkaaAreas
import Derived.Test.YtgefdcllialhkaaKeeps
set_option linter.unusedVariables false
set_option linter.unusedSimpArgs false
namespace Go.Proofs.Ytgefdcllialhkaa
open Go.Abs

theorem banner_of {b : List (List Int)} {n : Nat} (h1 : 1 ≤ b.length ∧ b.length ≤ 60) (h2 : 1 ≤ n ∧ n ≤ 60) (h3 : ∀ r ∈ b, r.length = n ∧ ∀ x ∈ r, 1 ≤ x ∧ x ≤ 9) : banner b = true ∧ wide b = n := by
  have hw : wide b = n := by rw [wide_get (by omega)]; exact (h3 _ (List.getElem_mem _)).1
  refine ⟨?_, hw⟩
  simp only [banner, Bool.and_eq_true, List.all_eq_true, rowOk, decide_eq_true_iff, inR_iff, hw]
  exact ⟨⟨by omega, by omega⟩, h3⟩
theorem banner_rows {b : List (List Int)} (h : banner b = true) : ∀ r ∈ b, r.length = wide b ∧ ∀ x ∈ r, 1 ≤ x ∧ x ≤ 9 := by
  simp only [banner, Bool.and_eq_true, List.all_eq_true, rowOk, decide_eq_true_iff, inR_iff] at h
  exact h.2
theorem mirror_eq {b : List (List Int)} (hb : banner b = true) : mirror b = b.map List.reverse := by
  have hd := banner_dims hb
  rw [mirror, if_pos hb]
  apply List.ext_getElem (by simp [tbl])
  intro y h1 h2
  have hy : y < b.length := by simpa using h2
  have hr := hd.2.2.2.2 y hy
  simp only [tbl, List.getElem_map, List.getElem_range]
  apply List.ext_getElem (by simp [rowOf_len, hr])
  intro x h3 h4
  have hx : x < wide b := by simpa [rowOf_len] using h3
  rw [rowOf_get, List.getElem_reverse, mirrorF, cell_get hy (by omega)]
  simp only [hr]
theorem rev_banner {b : List (List Int)} (hb : banner b = true) : banner (b.map List.reverse) = true ∧ wide (b.map List.reverse) = wide b := by
  have hd := banner_dims4 hb
  refine banner_of (by simpa using ⟨by omega, by omega⟩) ⟨hd.2.2.1, hd.2.2.2⟩ fun r hr => ?_
  obtain ⟨q, hq, rfl⟩ := List.mem_map.1 hr
  have := banner_rows hb q hq
  exact ⟨by simpa using this.1, fun x hx => this.2 x (List.mem_reverse.1 hx)⟩
theorem rev_count (b : List (List Int)) (x : Int) : (b.map List.reverse).flatten.count x = b.flatten.count x := by
  induction b with
  | nil => rfl
  | cons r b ih => simp only [List.map_cons, List.flatten_cons, List.count_append, ih, List.count_reverse]
theorem rev_areas {b : List (List Int)} (hb : banner b = true) : areas (b.map List.reverse) = areas b := by
  rw [areas, areas, if_pos hb, if_pos (rev_banner hb).1]
  simp only [cnt, rev_count]
theorem rev_rev (b : List (List Int)) : (b.map List.reverse).map List.reverse = b := by
  rw [List.map_map]
  exact (List.map_congr_left fun r _ => List.reverse_reverse r).trans (List.map_id b)
theorem mirror_twice {b : List (List Int)} (hb : banner b = true) : banner (mirror b) = true ∧ mirror (mirror b) = b ∧ areas (mirror b) = areas b := by
  have h1 := rev_banner hb
  rw [mirror_eq hb]
  exact ⟨h1.1, by rw [mirror_eq h1.1, rev_rev], rev_areas hb⟩
theorem cnt_sum (l : List Int) : (∀ x ∈ l, 1 ≤ x ∧ x ≤ 9) → (cnt 9 l).sum = l.length := by
  induction l with
  | nil => intro _; rfl
  | cons a l ih =>
    intro h
    have ha := h a (by simp)
    have ih := ih fun x hx => h x (by simp [hx])
    have e : cnt 9 (a :: l) = (cnt 9 l).set (a.toNat - 1) ((l.count a : Int) + 1) := by
      rw [cnt_step ha.1 ha.2]
      apply List.ext_getElem (by simp [cnt])
      intro i h1 h2
      simp only [cnt, List.getElem_map, List.count_cons, List.count_append, List.count_nil]
      omega
    have h9 : a = 1 ∨ a = 2 ∨ a = 3 ∨ a = 4 ∨ a = 5 ∨ a = 6 ∨ a = 7 ∨ a = 8 ∨ a = 9 := by omega
    rw [e]
    have hc : cnt 9 l = [(l.count 1 : Int), (l.count 2 : Int), (l.count 3 : Int), (l.count 4 : Int), (l.count 5 : Int), (l.count 6 : Int), (l.count 7 : Int), (l.count 8 : Int), (l.count 9 : Int)] := rfl
    rw [hc] at ih ⊢
    simp only [List.sum_cons, List.sum_nil, List.length_cons] at ih ⊢
    rcases h9 with rfl | rfl | rfl | rfl | rfl | rfl | rfl | rfl | rfl <;> simp <;> omega
theorem rows_total {b : List (List Int)} {n : Nat} (h : ∀ r ∈ b, r.length = n) : b.flatten.length = b.length * n := by
  induction b with
  | nil => simp
  | cons r b ih =>
    have h1 := h r (by simp)
    have ih := ih fun q hq => h q (by simp [hq])
    simp only [List.flatten_cons, List.length_append, List.length_cons, ih, h1, Nat.succ_mul]
    omega
theorem areas_sum {b : List (List Int)} (hb : banner b = true) : (areas b).sum = (b.length : Int) * (wide b : Int) ∧ (areas b).length = 9 ∧ ∀ x ∈ areas b, 0 ≤ x := by
  have hr := banner_rows hb
  rw [areas, if_pos hb]
  refine ⟨?_, cnt_len .., ?_⟩
  · rw [cnt_sum, rows_total fun r h => (hr r h).1]
    · exact Int.natCast_mul ..
    · intro x hx
      obtain ⟨r, h1, h2⟩ := List.mem_flatten.1 hx
      exact (hr r h1).2 x h2
  · intro x hx
    simp only [cnt, List.mem_map] at hx
    obtain ⟨k, _, rfl⟩ := hx
    omega
theorem sum_take {l : List Int} (h : ∀ x ∈ l, 0 ≤ x) (i : Nat) : 0 ≤ (l.take i).sum ∧ (l.take i).sum ≤ l.sum := by
  induction l generalizing i with
  | nil => simp
  | cons a l ih =>
    have ha := h a (by simp)
    cases i with
    | zero =>
      have := (ih (fun x hx => h x (by simp [hx])) 0).2
      simp at this ⊢; omega
    | succ i =>
      have := ih (fun x hx => h x (by simp [hx])) i
      simp only [List.take_succ_cons, List.sum_cons]; omega
theorem shield_top {x y : Nat} (hx : x < 20) (hy : y < 12) : shield x y = true := by
  simp [shield, inR]; omega
theorem pic_cell {p : List (List Int)} (hp : picture p = true) {x y : Nat} (hx : x < 20) (hy : y < 12) : 1 ≤ cell p y x ∧ cell p y x ≤ 9 := by
  simp only [picture, Bool.and_eq_true, decide_eq_true_iff, List.all_eq_true, rowPic, List.mem_range] at hp
  have h := (hp.2 y (by omega)).2 x hx
  simp only [cellOk, shield_top hx hy, Bool.and_eq_true, Bool.true_beq] at h
  exact inR_iff.1 h.1
theorem bannerOf_ok {p : List (List Int)} {r c : Int} (h : bannerOfOk p r c = true) : banner (bannerOf p r c) = true ∧ ((bannerOf p r c).length : Int) = r ∧ (wide (bannerOf p r c) : Int) = c := by
  have h' := h
  simp only [bannerOfOk, Bool.and_eq_true, inR_iff] at h'
  obtain ⟨⟨hp, h1⟩, h2⟩ := h'
  obtain ⟨r, rfl⟩ : ∃ n : Nat, r = n := ⟨r.toNat, by omega⟩
  obtain ⟨c, rfl⟩ : ∃ n : Nat, c = n := ⟨c.toNat, by omega⟩
  rw [bannerOf, if_pos h]
  simp only [Int.toNat_natCast]
  have := banner_of (b := tbl r c (ofF p r c)) (n := c) (by rw [tbl_len]; omega) (by omega) (fun q hq => by
    simp only [tbl, List.mem_map, List.mem_range] at hq
    obtain ⟨y, hy, rfl⟩ := hq
    refine ⟨rowOf_len .., fun v hv => ?_⟩
    simp only [rowOf, List.mem_map, List.mem_range] at hv
    obtain ⟨x, hx, rfl⟩ := hv
    exact pic_cell hp (quo_lt' hx (by omega)) (quo_lt' hy (by omega)))
  exact ⟨this.1, by rw [tbl_len], by rw [this.2]⟩
theorem red_cross' (h w : Int) (ho : redOk h w = true) : (red h w).1 * w = (red h w).2 * h := by
  have : red h w = reduced h w := by rw [red, if_pos ho]
  rw [this]
  simp only [reduced]
  obtain ⟨a, ha⟩ : (Int.gcd h w : Int) ∣ h := Int.gcd_dvd_left ..
  obtain ⟨c, hc⟩ : (Int.gcd h w : Int) ∣ w := Int.gcd_dvd_right ..
  by_cases hz : (Int.gcd h w : Int) = 0
  · have h1 : h = 0 := by rw [hz] at ha; omega
    have h2 : w = 0 := by rw [hz] at hc; omega
    simp [h1, h2]
  · generalize (Int.gcd h w : Int) = g at *
    subst ha hc
    rw [Int.mul_tdiv_cancel_left _ hz, Int.mul_tdiv_cancel_left _ hz]
    simp only [Int.mul_comm, Int.mul_left_comm]
theorem bannerOf_keeps {p : List (List Int)} {r c : Int} (h : bannerOfOk p r c = true) (hr : redOk r c = true) : keeps (bannerOf p r c) (red r c).1 (red r c).2 = true ∧ prop (red r c).1 (red r c).2 = true := by
  obtain ⟨h1, h2, h3⟩ := bannerOf_ok h
  have hp : prop (red r c).1 (red r c).2 = true := by
    have : red r c = reduced r c := by rw [red, if_pos hr]
    rw [this]
    simp only [redOk, Bool.and_eq_true] at hr
    exact hr.2
  refine ⟨?_, hp⟩
  simp only [keeps, h1, hp, Bool.and_eq_true, decide_eq_true_iff, h2, h3, true_and]
  rw [Int.mul_comm, Int.mul_comm c]
  exact (red_cross' r c hr).symm
end Go.Proofs.Ytgefdcllialhkaa
