/- Banners of a picture; in the program and in the reference. -/
import Derived.Test.YtgefdcllialhkaaCodeBannerOf
import Derived.Test.YtgefdcllialhkaaPict
import Derived.Test.YtgefdcllialhkaaMirror
set_option linter.unusedVariables false
set_option linter.unusedSimpArgs false
namespace Go.Proofs.Ytgefdcllialhkaa
open Go.Abs

def ofF (p : List (List Int)) (rows cols : Nat) (x y : Nat) : Int := cell p (12 * y / rows) (20 * x / cols)
def bannerOfOk (p : List (List Int)) (rows cols : Int) : Bool := picture p && inR rows 1 60 && inR cols 1 60
def bannerOf (p : List (List Int)) (rows cols : Int) : List (List Int) := if bannerOfOk p rows cols then tbl rows.toNat cols.toNat (ofF p rows.toNat cols.toNat) else []
theorem bannerOf_bounds (p : List (List Int)) (rows cols : Int) : (bannerOf p rows cols).length ≤ 60 ∧ total (bannerOf p rows cols) ≤ 3600 := by
  unfold bannerOf
  split
  · rename_i h
    simp only [bannerOfOk, Bool.and_eq_true, inR_iff] at h
    exact tbl_bounds (by omega) (by omega)
  · simp
theorem quo_nat {a b k : Nat} : ((k : Int) * (a : Int)).tdiv (b : Int) = ((k * a / b : Nat) : Int) := by
  rw [Int.tdiv_eq_ediv_of_nonneg (Int.mul_nonneg (by omega) (by omega))]; simp
theorem quo_lt {a b k : Nat} (h : a < b) : k * a / b ≤ k := by
  refine Nat.div_le_of_le_mul ?_
  rw [Nat.mul_comm b k]
  exact Nat.mul_le_mul_left k (by omega)
theorem quo_lt' {a b k : Nat} (h : a < b) (hk : 0 < k) : k * a / b < k := by
  rw [Nat.div_lt_iff_lt_mul (by omega)]
  exact (Nat.mul_lt_mul_left hk).2 h

theorem i_BannerOf_1 {p : List (List Int)} (hp : picture p = true) {r c x y : Nat} (h1 : r ≤ 60) (h2 : c ≤ 60) (hx : x < c) (hy : y < r) :
    PCall Try.prog n_i_BannerOf_1 [I x, I y, bx (roT p), bx (I r), bx (I c)] (I (ofF p r c x y)) := by
  have hd := picture_dims hp
  have e1 : ((12 : Int) * (y : Int)).tdiv r = ((12 * y / r : Nat) : Int) := quo_nat (a := y) (b := r) (k := 12)
  have e2 : ((20 : Int) * (x : Int)).tdiv c = ((20 * x / c : Nat) : Int) := quo_nat (a := x) (b := c) (k := 20)
  have l1 := quo_lt' (a := y) (b := r) (k := 12) hy (by omega)
  have l2 := quo_lt' (a := x) (b := c) (k := 20) hx (by omega)
  obtain ⟨q1, hq1⟩ : ∃ q, 12 * y / r = q := ⟨_, rfl⟩
  obtain ⟨q2, hq2⟩ : ∃ q, 20 * x / c = q := ⟨_, rfl⟩
  rw [hq1] at e1 l1
  rw [hq2] at e2 l2
  have hi : q1 < p.length := by omega
  have hj : q2 < p[q1].length := by have := hd.2 _ hi; omega
  refine PCall.of fn_i_BannerOf_1 (by simp) ?_
  simp [c_i_BannerOf_1, r_i_BannerOf_1_0, r_i_BannerOf_1_1, p_i_BannerOf_1_1]
  rw [wrap64 (n := 12 * (y : Int)) (by omega) (by omega), e1, wrap64 (by omega) (by omega)]
  simp [hi]
  rw [wrap64 (n := 20 * (x : Int)) (by omega) (by omega), e2, wrap64 (by omega) (by omega)]
  simp [hj]
  refine ⟨by omega, by omega, oEnd_of (by first | kernel_rfl | simp) (by first | kernel_rfl | simp), ?_⟩
  simp [ofF, hq1, hq2, cell_get hi hj]

theorem i_BannerOf (p : List (List Int)) (rows cols : Int) : PCall Try.prog n_i_BannerOf [.ro 1 (p.map roI), I rows, I cols] (.tup [.own 1 ((bannerOf p rows cols).map ownI), B (bannerOfOk p rows cols)]) := by
  refine PCall.ofN fn_i_BannerOf (by simp) ?_
  simp [c_i_BannerOf, r_i_BannerOf_0, r_i_BannerOf_1]
  refine callQ_v (i_IsValidPicture ..) ?_
  cases hb : picture p with
  | false => simp [r_i_BannerOf_2, bannerOf, bannerOfOk, hb]
  | true =>
  simp
  refine callQ_v (i_isSide ..) ?_
  cases h1 : inR rows 1 60 with
  | false => simp [r_i_BannerOf_2, bannerOf, bannerOfOk, h1]
  | true =>
  simp
  refine callQ_v (i_isSide ..) ?_
  cases h2 : inR cols 1 60 with
  | false => simp [r_i_BannerOf_2, bannerOf, bannerOfOk, h2]
  | true =>
  have h1' := inR_iff.1 h1
  have h2' := inR_iff.1 h2
  obtain ⟨r, rfl⟩ : ∃ r : Nat, rows = r := ⟨rows.toNat, by omega⟩
  obtain ⟨c, rfl⟩ : ∃ c : Nat, cols = c := ⟨cols.toNat, by omega⟩
  simp [r_i_BannerOf_3]
  refine callQ_of (PCall.arg (i_table r c (ofF p r c) n_i_BannerOf_1 [bx (roT p), bx (I r), bx (I c)] (by omega) (by omega) (by simp) (by simp) (by simp) (by simp) (fun x y hx hy => i_BannerOf_1 hb (by omega) (by omega) hx hy)) (by simp)) rfl (.inl (by simp)) (by simp) ?_
  simp [bannerOf, bannerOfOk, hb, h1, h2]

theorem s_BannerOf (p : List (List Int)) (rows cols : Int) : PCall Try.prog n_s_BannerOf [.ro 1 (p.map roI), I rows, I cols] (.tup [.own 1 ((bannerOf p rows cols).map ownI), B (bannerOfOk p rows cols)]) := by
  refine PCall.ofN fn_s_BannerOf (by simp) ?_
  simp [c_s_BannerOf, r_s_BannerOf_0, r_s_BannerOf_1, r_s_BannerOf_2]
  refine callQ_v (s_l13Good ..) ?_
  cases hb : picture p with
  | false => simp [r_s_BannerOf_3, bannerOf, bannerOfOk, hb]
  | true =>
  simp
  refine callQ_v (s_l1In ..) ?_
  cases h1 : inR rows 1 60 with
  | false => simp [r_s_BannerOf_3, bannerOf, bannerOfOk, h1]
  | true =>
  simp
  refine callQ_v (s_l1In ..) ?_
  cases h2 : inR cols 1 60 with
  | false => simp [r_s_BannerOf_3, bannerOf, bannerOfOk, h2]
  | true =>
  have h1' := inR_iff.1 h1
  have h2' := inR_iff.1 h2
  have hd := picture_dims hb
  obtain ⟨r, rfl⟩ : ∃ r : Nat, rows = r := ⟨rows.toNat, by omega⟩
  obtain ⟨c, rfl⟩ : ∃ c : Nat, cols = c := ⟨cols.toNat, by omega⟩
  simp [r_s_BannerOf_4, l_s_BannerOf_14]
  refine loopK (fun i : Nat => ⟨[(0, .ro 1 (p.map roI)), (1, I r), (2, I c), (8, .sl 12 0 i), (9, I i)], [(12, ⟨1, (tbl i c (ofF p r c)).map ownI⟩)], []⟩) (fun i => r - i) (fun i => i ≤ r) 0 (Wk.list rfl (by simp) (by simp [tbl])) (by simp) ?_
  intro i hi K hN hR hE
  simp [r_s_BannerOf_5]
  refine ⟨fun hlt => ?_, fun hge => ?_⟩
  · simp [r_s_BannerOf_6, r_s_BannerOf_7, l_s_BannerOf_11]
    refine loopK (fun k : Nat => ⟨[(0, .ro 1 (p.map roI)), (1, I r), (2, I c), (8, .sl 12 0 i), (9, I i), (10, .sl 32 0 k), (11, I k)], [(12, ⟨1, (tbl i c (ofF p r c)).map ownI⟩), (32, ⟨1, ints (rowOf k fun x => ofF p r c x i)⟩)], []⟩) (fun k => c - k) (fun k => k ≤ c) 0 (Wk.list rfl (by simp) (by simp [rowOf])) (by simp) ?_
    intro k hk K' hN' hR' hE'
    simp [r_s_BannerOf_8]
    refine ⟨fun hklt => ?_, fun hkge => ?_⟩
    · have e1 : ((12 : Int) * (i : Int)).tdiv r = ((12 * i / r : Nat) : Int) := quo_nat (a := i) (b := r) (k := 12)
      have e2 : ((20 : Int) * (k : Int)).tdiv c = ((20 * k / c : Nat) : Int) := quo_nat (a := k) (b := c) (k := 20)
      have l1 := quo_lt' (a := i) (b := r) (k := 12) hlt (by omega)
      have l2 := quo_lt' (a := k) (b := c) (k := 20) hklt (by omega)
      obtain ⟨q1, hq1⟩ : ∃ q, 12 * i / r = q := ⟨_, rfl⟩
      obtain ⟨q2, hq2⟩ : ∃ q, 20 * k / c = q := ⟨_, rfl⟩
      rw [hq1] at e1 l1
      rw [hq2] at e2 l2
      have hi' : q1 < p.length := by omega
      have hj' : q2 < p[q1].length := by have := hd.2 _ hi'; omega
      simp [r_s_BannerOf_9, p_s_BannerOf_9]
      rw [wrap64 (n := 12 * (i : Int)) (by omega) (by omega), e1, wrap64 (by omega) (by omega)]
      simp [hi']
      rw [wrap64 (n := 20 * (k : Int)) (by omega) (by omega), e2, wrap64 (by omega) (by omega)]
      simp [hj', rowOf_len]
      refine ⟨by omega, by omega, by unfold lenBound; omega, oEnd_of (by simp [p_s_BannerOf_9]) (by simp), ?_⟩
      simp [r_s_BannerOf_10]
      rw [wrap64 (by omega) (by omega), List.take_of_length_le (by simp [rowOf_len])]
      refine hN' (k + 1) _ (by omega) (by omega) (Wk.trans (Wk.ren 53 32 (by decide) (by simp)) (Wk.list rfl ?_ ?_))
      · simp [AS.ren, ren, reN]
      · simp [AS.ren, ren, reN, renB, rowOf_succ, ofF, hq1, hq2, cell_get hi' hj']
    · refine hE' _ _ ?_
      obtain rfl : k = c := by omega
      simp [r_s_BannerOf_12, tbl_len, rowOf_len]
      refine ⟨by unfold lenBound; omega, ?_⟩
      simp [r_s_BannerOf_13]
      rw [wrap64 (by omega) (by omega)]
      have hlen : ((tbl i k (ofF p r k)).map ownI).length = i := by simp [tbl_len]
      rw [List.take_of_length_le (by omega)]
      refine hN (i + 1) _ (by omega) (by omega) (Wk.trans (Wk.fold1 57 i 32 (n := k) (by rfl) (by rfl) (app_get hlen) (by simp [rowOf_len]) (by simp) (by simp)) (Wk.trans (Wk.ren 57 12 (by decide) ?_) (Wk.list rfl ?_ ?_)))
      · simp [app_set hlen, rmbs]
      · simp [AS.ren, ren, reN]
      · simp [AS.ren, ren, reN, renB, rmbs, app_set hlen, tbl_succ]
  · refine hE _ _ ?_
    obtain rfl : i = r := by omega
    simp [r_s_BannerOf_15, bannerOf, bannerOfOk, hb, h1, h2, tbl_len]
end Go.Proofs.Ytgefdcllialhkaa
