/- Banners with tails; in the program and in the reference. -/
import Derived.Test.YtgefdcllialhkaaCodeTail
import Derived.Test.YtgefdcllialhkaaBorder
import Derived.Test.YtgefdcllialhkaaProp
set_option linter.unusedVariables false
set_option linter.unusedSimpArgs false
namespace Go.Proofs.Ytgefdcllialhkaa
open Go.Abs

def absI (x : Int) : Int := max x (-x)
theorem s_l1Most (a b : Int) : PCall Try.prog n_s_l1Most [I a, I b] (I (max a b)) := by
  refine PCall.of fn_s_l1Most (by simp) ?_
  simp [c_s_l1Most, r_s_l1Most_0, r_s_l1Most_1, r_s_l1Most_2, r_s_l1Most_3]
  constructor <;> intros <;> omega
theorem s_l9Abs (x : Int) (h1 : -1000000000 ≤ x) (h2 : x ≤ 1000000000) : PCall Try.prog n_s_l9Abs [I x] (I (absI x)) := by
  refine PCall.of fn_s_l9Abs (by simp) ?_
  simp [c_s_l9Abs, r_s_l9Abs_0, r_s_l9Abs_1]
  rw [wrap64 (by omega) (by omega)]
  exact callQ_v (s_l1Most ..) (by simp [absI])
theorem i_absOf2 (x : Int) (h1 : -1000000000 ≤ x) (h2 : x ≤ 1000000000) : PCall Try.prog n_i_absOf [I x] (I (absI x)) := by
  refine PCall.of fn_i_absOf (by simp) ?_
  simp [c_i_absOf, r_i_absOf_0, r_i_absOf_1]
  rw [wrap64 (by omega) (by omega)]
  unfold absI
  split <;> omega

/-- Is the cell cut off? -/
def tailCut (b : List (List Int)) (d : Int) (x y : Nat) : Bool := decide (((wide b : Int) - x - 1) * b.length < d * (b.length - absI (2 * y + 1 - b.length)))
def tailF (b : List (List Int)) (d : Int) (x y : Nat) : Int := if tailCut b d x y then 0 else cell b y x
def tailOk (b : List (List Int)) (d : Int) : Bool := banner b && inR d 0 (wide b)
def tail (b : List (List Int)) (d : Int) : List (List Int) := if tailOk b d then tbl b.length (wide b) (tailF b d) else []

theorem tailF_bounds {r c d : Int} {x y : Nat} (hr : 1 ≤ r) (hr' : r ≤ 60) (hc : 1 ≤ c) (hc' : c ≤ 60) (hd : 0 ≤ d) (hd' : d ≤ 60) (hx : (x : Int) < c) (hy : (y : Int) < r) :
    (0 ≤ absI (2 * y + 1 - r) ∧ absI (2 * y + 1 - r) ≤ r) ∧ (0 ≤ (c - x - 1) * r ∧ (c - x - 1) * r ≤ 60 * 60) ∧ (0 ≤ d * (r - absI (2 * y + 1 - r)) ∧ d * (r - absI (2 * y + 1 - r)) ≤ 60 * 60) := by
  have h1 : 0 ≤ absI (2 * y + 1 - r) ∧ absI (2 * y + 1 - r) ≤ r := by unfold absI; omega
  refine ⟨h1, ⟨Int.mul_nonneg (by omega) (by omega), Int.mul_le_mul (by omega) (by omega) (by omega) (by omega)⟩, Int.mul_nonneg (by omega) (by omega), Int.mul_le_mul (by omega) (by omega) (by omega) (by omega)⟩

theorem i_TailBanner_1 {b : List (List Int)} (hb : banner b = true) (d : Int) (h2 : inR d 0 (wide b) = true) {x y : Nat} (hx : x < wide b) (hy : y < b.length) :
    PCall Try.prog n_i_TailBanner_1 [I x, I y, bx (I (wide b)), bx (I b.length), bx (I d), bx (roT b)] (I (tailF b d x y)) := by
  have hd := banner_dims hb
  have hr := hd.2.2.2.2 y hy
  have hlt : x < b[y].length := by omega
  have h2' := inR_iff.1 h2
  have ht := tailF_bounds (r := b.length) (c := wide b) (d := d) (x := x) (y := y) (by omega) (by omega) (by omega) (by omega) (by omega) (by omega) (by omega) (by omega)
  refine PCall.of fn_i_TailBanner_1 (by simp) ?_
  simp [c_i_TailBanner_1, r_i_TailBanner_1_0, r_i_TailBanner_1_1, p_i_TailBanner_1_1]
  rw [wrap64 (n := (wide b : Int) - x) (by omega) (by omega), wrap64 (n := (wide b : Int) - x - 1) (by omega) (by omega), wrap64 (n := ((wide b : Int) - x - 1) * b.length) (by omega) (by omega), wrap64 (n := 2 * (y : Int)) (by omega) (by omega), wrap64 (n := 2 * (y : Int) + 1) (by omega) (by omega), wrap64 (n := 2 * (y : Int) + 1 - b.length) (by omega) (by omega)]
  refine callD_v (i_absOf2 _ (by omega) (by omega)) ?_ ?_ ?_
  · simp
  · simp
  simp
  rw [wrap64 (n := (b.length : Int) - absI (2 * y + 1 - b.length)) (by omega) (by omega), wrap64 (n := d * ((b.length : Int) - absI (2 * y + 1 - b.length))) (by omega) (by omega)]
  refine ⟨oEnd_of (by first | kernel_rfl | simp) (by first | kernel_rfl | simp), fun h => ?_, fun h => ?_⟩
  · have h' : tailCut b d x y = true := by simpa [tailCut] using h
    simp [r_i_TailBanner_1_2, tailF, h']
  · have h' : tailCut b d x y = false := by simpa [tailCut] using h
    simp [r_i_TailBanner_1_3, tailF, h', hy, hlt, cell_get hy hlt]

theorem i_TailBanner (b : List (List Int)) (d : Int) : PCall Try.prog n_i_TailBanner [.ro 1 (b.map roI), I d] (.tup [.own 1 ((tail b d).map ownI), B (tailOk b d)]) := by
  refine PCall.ofN fn_i_TailBanner (by simp) ?_
  simp [c_i_TailBanner, r_i_TailBanner_0, r_i_TailBanner_1, p_i_TailBanner_1]
  refine callD_v (i_IsValidBanner ..) ?_ ?_ ?_
  · simp
  · simp
  cases hb : banner b with
  | false =>
    simp
    refine ⟨oEnd_of (by first | kernel_rfl | simp) (by first | kernel_rfl | simp), ?_⟩
    simp [r_i_TailBanner_2, tail, tailOk, hb]
  | true =>
  have hd := banner_dims hb
  have hw := wide_get (b := b) (by omega)
  simp [show 0 < b.length by omega, ← hw]
  refine callD_v (i_inside ..) ?_ ?_ ?_
  · simp
  · simp
  cases h2 : inR d 0 (wide b) with
  | false =>
    simp
    refine ⟨oEnd_of (by first | kernel_rfl | simp) (by first | kernel_rfl | simp), ?_⟩
    simp [r_i_TailBanner_2, tail, tailOk, h2]
  | true =>
  simp
  refine ⟨oEnd_of (by first | kernel_rfl | simp) (by first | kernel_rfl | simp), ?_⟩
  simp [r_i_TailBanner_3, p_i_TailBanner_3, show 0 < b.length by omega, ← hw]
  refine ⟨oEnd_of (by simp [p_i_TailBanner_3]) (by simp), ?_⟩
  simp [r_i_TailBanner_4]
  refine callQ_of (PCall.arg (i_table b.length (wide b) (tailF b d) n_i_TailBanner_1 [bx (I (wide b)), bx (I b.length), bx (I d), bx (roT b)] (by omega) (by omega) (by simp) (by simp) (by simp) (by simp) (fun x y hx hy => i_TailBanner_1 hb d h2 hx hy)) (by simp)) rfl (.inl (by simp)) (by simp) ?_
  simp [tail, tailOk, hb, h2]

theorem s_TailBanner (b : List (List Int)) (d : Int)  : PCall Try.prog n_s_TailBanner [.ro 1 (b.map roI), I d] (.tup [.own 1 ((tail b d).map ownI), B (tailOk b d)]) := by
  refine PCall.ofN fn_s_TailBanner (by simp) ?_
  simp [c_s_TailBanner, r_s_TailBanner_0, r_s_TailBanner_1, r_s_TailBanner_2]
  refine callQ_v (s_l24Good ..) ?_
  cases hb : banner b with
  | false => simp [r_s_TailBanner_3, tail, tailOk, hb]
  | true =>
  have hd := banner_dims hb
  have hw := wide_get (b := b) (by omega)
  simp [show 0 < b.length by omega, ← hw]
  refine callQ_v (s_l1In ..) ?_
  cases h2 : inR d 0 (wide b) with
  | false => simp [r_s_TailBanner_3, tail, tailOk, h2]
  | true =>
  have h2' := inR_iff.1 h2
  have hd := banner_dims hb
  have hw := wide_get (b := b) (by omega)
  simp [r_s_TailBanner_4, p_s_TailBanner_4, show 0 < b.length by omega, ← hw]
  refine ⟨oEnd_of (by first | kernel_rfl | simp) (by first | kernel_rfl | simp), ?_⟩
  simp [r_s_TailBanner_5, l_s_TailBanner_17]
  refine loopK (fun i : Nat => ⟨[(0, .ro 1 (b.map roI)), (1, I d), (7, I b.length), (8, I (wide b)), (6, .sl 12 0 i), (9, I i)], [(12, ⟨1, (tbl i (wide b) (tailF b d)).map ownI⟩)], []⟩) (fun i => b.length - i) (fun i => i ≤ b.length) 0 (Wk.list rfl (by simp) (by simp [tbl])) (by simp) ?_
  intro i hi K hN hR hE
  simp [r_s_TailBanner_6]
  refine ⟨fun hlt => ?_, fun hge => ?_⟩
  · have hr := hd.2.2.2.2 i hlt
    simp [r_s_TailBanner_7, r_s_TailBanner_8, l_s_TailBanner_14, hlt]

    refine loopK (fun k : Nat => ⟨[(0, .ro 1 (b.map roI)), (1, I d), (7, I b.length), (8, I (wide b)), (6, .sl 12 0 i), (9, I i), (10, .sl 37 0 k), (11, I k)], [(12, ⟨1, (tbl i (wide b) (tailF b d)).map ownI⟩), (37, ⟨1, ints (rowOf k fun x => tailF b d x i)⟩)], []⟩) (fun k => wide b - k) (fun k => k ≤ wide b) 0 (Wk.list rfl (by simp) (by simp [rowOf])) (by simp) ?_
    intro k hk K' hN' hR' hE'
    simp [r_s_TailBanner_9]
    refine ⟨fun hklt => ?_, fun hkge => ?_⟩
    · have hkr : k < b[i].length := by omega
      have ht := tailF_bounds (r := b.length) (c := wide b) (d := d) (x := k) (y := i) (by omega) (by omega) (by omega) (by omega) (by omega) (by omega) (by omega) (by omega)
      simp [r_s_TailBanner_10]
      rw [wrap64 (n := (wide b : Int) - k) (by omega) (by omega), wrap64 (n := (wide b : Int) - k - 1) (by omega) (by omega), wrap64 (n := ((wide b : Int) - k - 1) * b.length) (by omega) (by omega), wrap64 (n := 2 * (i : Int)) (by omega) (by omega), wrap64 (n := 2 * (i : Int) + 1) (by omega) (by omega), wrap64 (n := 2 * (i : Int) + 1 - b.length) (by omega) (by omega)]

      refine callQ_v (s_l9Abs _ (by omega) (by omega)) ?_
      simp
      rw [wrap64 (n := (b.length : Int) - absI (2 * i + 1 - b.length)) (by omega) (by omega), wrap64 (n := d * ((b.length : Int) - absI (2 * i + 1 - b.length))) (by omega) (by omega)]
      refine ⟨fun h => ?_, fun h => ?_⟩
      · have h' : tailCut b d k i = true := by simpa [tailCut] using h
        simp [r_s_TailBanner_11, hlt, hkr, rowOf_len]
        refine ⟨by unfold lenBound; omega, ?_⟩
        simp [r_s_TailBanner_13]
        rw [wrap64 (by omega) (by omega), List.take_of_length_le (by simp [rowOf_len])]
        refine hN' (k + 1) _ (by omega) (by omega) (Wk.trans (Wk.ren 62 37 (by decide) (by simp)) (Wk.list rfl ?_ ?_))
        · simp [AS.ren, ren, reN]
        · simp [AS.ren, ren, reN, renB, rowOf_succ, tailF, h']
      · have h' : tailCut b d k i = false := by simpa [tailCut] using h
        simp [r_s_TailBanner_12, hlt, hkr, rowOf_len]
        refine ⟨by unfold lenBound; omega, ?_⟩
        simp [r_s_TailBanner_13]
        rw [wrap64 (by omega) (by omega), List.take_of_length_le (by simp [rowOf_len])]
        refine hN' (k + 1) _ (by omega) (by omega) (Wk.trans (Wk.ren 72 37 (by decide) (by simp)) (Wk.list rfl ?_ ?_))
        · simp [AS.ren, ren, reN]
        · simp [AS.ren, ren, reN, renB, rowOf_succ, tailF, h', cell_get hlt hkr]
    · refine hE' _ _ ?_
      obtain rfl : k = wide b := by omega
      simp [r_s_TailBanner_15, tbl_len, rowOf_len]
      refine ⟨by unfold lenBound; omega, ?_⟩
      simp [r_s_TailBanner_16]
      rw [wrap64 (by omega) (by omega)]
      have hlen : ((tbl i (wide b) (tailF b d)).map ownI).length = i := by simp [tbl_len]
      rw [List.take_of_length_le (by omega)]
      refine hN (i + 1) _ (by omega) (by omega) (Wk.trans (Wk.fold1 76 i 37 (n := wide b) (by rfl) (by rfl) (app_get hlen) (by simp [rowOf_len]) (by simp) (by simp)) (Wk.trans (Wk.ren 76 12 (by decide) ?_) (Wk.list rfl ?_ ?_)))
      · simp [app_set hlen, rmbs]
      · simp [AS.ren, ren, reN]
      · simp [AS.ren, ren, reN, renB, rmbs, app_set hlen, tbl_succ]
  · refine hE _ _ ?_
    obtain rfl : i = b.length := by omega
    simp [r_s_TailBanner_18, tail, tailOk, hb, h2, tbl_len]

theorem tail_bounds (b : List (List Int)) (d : Int) : (tail b d).length ≤ 60 ∧ total (tail b d) ≤ 3600 := by
  unfold tail
  split
  · rename_i h
    have hb : banner b = true := by simp only [tailOk, Bool.and_eq_true] at h; exact h.1
    have hd := banner_dims hb
    exact tbl_bounds (by omega) (by omega)
  · simp
end Go.Proofs.Ytgefdcllialhkaa
