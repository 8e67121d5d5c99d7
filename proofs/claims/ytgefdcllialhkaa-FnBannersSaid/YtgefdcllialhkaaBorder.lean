/- Banners with a border; in the program and in the reference. -/
import Derived.Test.YtgefdcllialhkaaCodeBorder
import Derived.Test.YtgefdcllialhkaaMirror
set_option linter.unusedVariables false
set_option linter.unusedSimpArgs false
namespace Go.Proofs.Ytgefdcllialhkaa
open Go.Abs

theorem s_l1Least (a b : Int) : PCall Try.prog n_s_l1Least [I a, I b] (I (min a b)) := by
  refine PCall.of fn_s_l1Least (by simp) ?_
  simp [c_s_l1Least, r_s_l1Least_0, r_s_l1Least_1, r_s_l1Least_2, r_s_l1Least_3]
  constructor <;> intros <;> omega

/-- How far a cell is from the edge. -/
def edge (b : List (List Int)) (x y : Nat) : Int := min (min (x : Int) (wide b - 1 - x)) (min (y : Int) (b.length - 1 - y))
def borderF (b : List (List Int)) (t w : Int) (x y : Nat) : Int := if edge b x y < w then t else cell b y x
def borderOk (b : List (List Int)) (t w : Int) : Bool := banner b && inR t 1 9 && inR w 0 60
def border (b : List (List Int)) (t w : Int) : List (List Int) := if borderOk b t w then tbl b.length (wide b) (borderF b t w) else []

theorem i_BorderBanner_1 {b : List (List Int)} (hb : banner b = true) (t w : Int) {x y : Nat} (hx : x < wide b) (hy : y < b.length) :
    PCall Try.prog n_i_BorderBanner_1 [I x, I y, bx (I (wide b)), bx (I b.length), bx (I w), bx (I t), bx (roT b)] (I (borderF b t w x y)) := by
  have hd := banner_dims hb
  have hr := hd.2.2.2.2 y hy
  have hlt : x < b[y].length := by omega
  have e1 : IntKind.i64.wrap (IntKind.i64.wrap ((wide b : Int) - 1) - (x : Int)) = (wide b : Int) - 1 - x := by rw [wrap64 (n := (wide b : Int) - 1) (by omega) (by omega), wrap64 (by omega) (by omega)]
  have e2 : IntKind.i64.wrap (IntKind.i64.wrap ((b.length : Int) - 1) - (y : Int)) = (b.length : Int) - 1 - y := by rw [wrap64 (n := (b.length : Int) - 1) (by omega) (by omega), wrap64 (by omega) (by omega)]
  refine PCall.of fn_i_BorderBanner_1 (by simp) ?_
  simp [c_i_BorderBanner_1, r_i_BorderBanner_1_0, r_i_BorderBanner_1_1, e1, e2]
  have hm : (if (b.length : Int) - 1 - y < (if (wide b : Int) - 1 - x < (if y < x then (y : Int) else x) then (wide b : Int) - 1 - x else if y < x then (y : Int) else x) then (b.length : Int) - 1 - y else if (wide b : Int) - 1 - x < (if y < x then (y : Int) else x) then (wide b : Int) - 1 - x else if y < x then (y : Int) else x) =
      edge b x y := by unfold edge; split <;> split <;> omega
  rw [hm]
  refine ⟨fun h => ?_, fun h => ?_⟩
  · simp [r_i_BorderBanner_1_2, borderF, h]
  · have h' : ¬ edge b x y < w := by omega
    simp [r_i_BorderBanner_1_3, borderF, h', hy, hlt, cell_get hy hlt]

theorem i_BorderBanner (b : List (List Int)) (t w : Int) : PCall Try.prog n_i_BorderBanner [.ro 1 (b.map roI), I t, I w] (.tup [.own 1 ((border b t w).map ownI), B (borderOk b t w)]) := by
  refine PCall.ofN fn_i_BorderBanner (by simp) ?_
  simp [c_i_BorderBanner, r_i_BorderBanner_0, r_i_BorderBanner_1]
  refine callQ_v (i_IsValidBanner ..) ?_
  cases hb : banner b with
  | false => simp [r_i_BorderBanner_2, border, borderOk, hb]
  | true =>
  simp
  refine callQ_v (i_IsTincture ..) ?_
  cases h1 : inR t 1 9 with
  | false => simp [r_i_BorderBanner_2, border, borderOk, h1]
  | true =>
  simp
  refine callQ_v (i_inside ..) ?_
  cases h2 : inR w 0 60 with
  | false => simp [r_i_BorderBanner_2, border, borderOk, h2]
  | true =>
  have hd := banner_dims hb
  have hw := wide_get (b := b) (by omega)
  simp [r_i_BorderBanner_3, p_i_BorderBanner_3, show 0 < b.length by omega, ← hw]
  refine ⟨oEnd_of (by simp [p_i_BorderBanner_3]) (by simp), ?_⟩
  simp [r_i_BorderBanner_4]
  refine callQ_of (PCall.arg (i_table b.length (wide b) (borderF b t w) n_i_BorderBanner_1 [bx (I (wide b)), bx (I b.length), bx (I w), bx (I t), bx (roT b)] (by omega) (by omega) (by simp) (by simp) (by simp) (by simp) (fun x y hx hy => i_BorderBanner_1 hb t w hx hy)) (by simp)) rfl (.inl (by simp)) (by simp) ?_
  simp [border, borderOk, hb, h1, h2]

theorem s_BorderBanner (b : List (List Int)) (t w : Int)  : PCall Try.prog n_s_BorderBanner [.ro 1 (b.map roI), I t, I w] (.tup [.own 1 ((border b t w).map ownI), B (borderOk b t w)]) := by
  refine PCall.ofN fn_s_BorderBanner (by simp) ?_
  simp [c_s_BorderBanner, r_s_BorderBanner_0, r_s_BorderBanner_1, r_s_BorderBanner_2]
  refine callQ_v (s_l24Good ..) ?_
  cases hb : banner b with
  | false => simp [r_s_BorderBanner_3, border, borderOk, hb]
  | true =>
  simp
  refine callQ_v (s_l2Good ..) ?_
  cases h1 : inR t 1 9 with
  | false => simp [r_s_BorderBanner_3, border, borderOk, h1]
  | true =>
  simp
  refine callQ_v (s_l1In ..) ?_
  cases h2 : inR w 0 60 with
  | false => simp [r_s_BorderBanner_3, border, borderOk, h2]
  | true =>
  have hd := banner_dims hb
  have hw := wide_get (b := b) (by omega)
  simp [r_s_BorderBanner_4, p_s_BorderBanner_4, show 0 < b.length by omega, ← hw]
  refine ⟨oEnd_of (by first | kernel_rfl | simp) (by first | kernel_rfl | simp), ?_⟩
  simp [r_s_BorderBanner_5, l_s_BorderBanner_18]
  refine loopK (fun i : Nat => ⟨[(0, .ro 1 (b.map roI)), (1, I t), (2, I w), (9, I b.length), (10, I (wide b)), (8, .sl 15 0 i), (11, I i)], [(15, ⟨1, (tbl i (wide b) (borderF b t w)).map ownI⟩)], []⟩) (fun i => b.length - i) (fun i => i ≤ b.length) 0 (Wk.list rfl (by simp) (by simp [tbl])) (by simp) ?_
  intro i hi K hN hR hE
  simp [r_s_BorderBanner_6]
  refine ⟨fun hlt => ?_, fun hge => ?_⟩
  · have hr := hd.2.2.2.2 i hlt
    simp [r_s_BorderBanner_7, r_s_BorderBanner_8, l_s_BorderBanner_15, hlt]
    refine loopK (fun k : Nat => ⟨[(0, .ro 1 (b.map roI)), (1, I t), (2, I w), (9, I b.length), (10, I (wide b)), (8, .sl 15 0 i), (11, I i), (12, .sl 41 0 k), (13, I k)], [(15, ⟨1, (tbl i (wide b) (borderF b t w)).map ownI⟩), (41, ⟨1, ints (rowOf k fun x => borderF b t w x i)⟩)], []⟩) (fun k => wide b - k) (fun k => k ≤ wide b) 0 (Wk.list rfl (by simp) (by simp [rowOf])) (by simp) ?_
    intro k hk K' hN' hR' hE'
    simp [r_s_BorderBanner_9]
    refine ⟨fun hklt => ?_, fun hkge => ?_⟩
    · have hkr : k < b[i].length := by omega
      simp [r_s_BorderBanner_10]
      rw [wrap64 (n := (wide b : Int) - 1) (by omega) (by omega), wrap64 (by omega) (by omega)]
      refine callQ_v (s_l1Least ..) ?_
      simp
      rw [wrap64 (n := (b.length : Int) - 1) (by omega) (by omega), wrap64 (by omega) (by omega)]
      refine callQ_v (s_l1Least ..) ?_
      simp
      refine callQ_v (show PCall Try.prog n_s_l1Least _ (I (edge b k i)) from s_l1Least ..) ?_
      simp [r_s_BorderBanner_11]
      refine ⟨fun h => ?_, fun h => ?_⟩
      · skip
        simp [r_s_BorderBanner_12, hlt, hkr, rowOf_len]
        refine ⟨by unfold lenBound; omega, ?_⟩
        simp [r_s_BorderBanner_14]
        rw [wrap64 (by omega) (by omega), List.take_of_length_le (by simp [rowOf_len])]
        refine hN' (k + 1) _ (by omega) (by omega) (Wk.trans (Wk.ren 66 41 (by decide) (by simp)) (Wk.list rfl ?_ ?_))
        · simp [AS.ren, ren, reN]
        · simp [AS.ren, ren, reN, renB, rowOf_succ, borderF, h]
      · have h' : ¬ edge b k i < w := by omega
        simp [r_s_BorderBanner_13, hlt, hkr, rowOf_len]
        refine ⟨by unfold lenBound; omega, ?_⟩
        simp [r_s_BorderBanner_14]
        rw [wrap64 (by omega) (by omega), List.take_of_length_le (by simp [rowOf_len])]
        refine hN' (k + 1) _ (by omega) (by omega) (Wk.trans (Wk.ren 76 41 (by decide) (by simp)) (Wk.list rfl ?_ ?_))
        · simp [AS.ren, ren, reN]
        · simp [AS.ren, ren, reN, renB, rowOf_succ, borderF, h', cell_get hlt hkr]
    · refine hE' _ _ ?_
      obtain rfl : k = wide b := by omega
      simp [r_s_BorderBanner_16, tbl_len, rowOf_len]
      refine ⟨by unfold lenBound; omega, ?_⟩
      simp [r_s_BorderBanner_17]
      rw [wrap64 (by omega) (by omega)]
      have hlen : ((tbl i (wide b) (borderF b t w)).map ownI).length = i := by simp [tbl_len]
      rw [List.take_of_length_le (by omega)]
      refine hN (i + 1) _ (by omega) (by omega) (Wk.trans (Wk.fold1 80 i 41 (n := wide b) (by rfl) (by rfl) (app_get hlen) (by simp [rowOf_len]) (by simp) (by simp)) (Wk.trans (Wk.ren 80 15 (by decide) ?_) (Wk.list rfl ?_ ?_)))
      · simp [app_set hlen, rmbs]
      · simp [AS.ren, ren, reN]
      · simp [AS.ren, ren, reN, renB, rmbs, app_set hlen, tbl_succ]
  · refine hE _ _ ?_
    obtain rfl : i = b.length := by omega
    simp [r_s_BorderBanner_19, border, borderOk, hb, h1, h2, tbl_len]

theorem border_bounds (b : List (List Int)) (t w : Int) : (border b t w).length ≤ 60 ∧ total (border b t w) ≤ 3600 := by
  unfold border
  split
  · rename_i h
    have hb : banner b = true := by simp only [borderOk, Bool.and_eq_true] at h; exact h.1.1
    have hd := banner_dims hb
    exact tbl_bounds (by omega) (by omega)
  · simp
end Go.Proofs.Ytgefdcllialhkaa
