/- Banners: mirrored, with a border, with tails, of a picture; in the program and in the reference. -/
import Derived.Test.YtgefdcllialhkaaCodeMirror
import Derived.Test.YtgefdcllialhkaaTable
set_option linter.unusedVariables false
set_option linter.unusedSimpArgs false
namespace Go.Proofs.Ytgefdcllialhkaa
open Go.Abs

def cell (b : List (List Int)) (y x : Nat) : Int := (b.getD y []).getD x 0
theorem cell_get {b : List (List Int)} {y x : Nat} (hy : y < b.length) (hx : x < b[y].length) : cell b y x = b[y][x] := by simp [cell, hy, hx]
theorem banner_dims {b : List (List Int)} (h : banner b = true) : 1 ≤ b.length ∧ b.length ≤ 60 ∧ 1 ≤ wide b ∧ wide b ≤ 60 ∧ ∀ (i : Nat) (hi : i < b.length), b[i].length = wide b := by
  simp only [banner, Bool.and_eq_true, List.all_eq_true, rowOk, decide_eq_true_iff, inR_iff] at h
  exact ⟨by omega, by omega, by omega, by omega, fun i hi => (h.2 _ (List.getElem_mem hi)).1⟩
abbrev bx (v : V) : V := .rp 1 [v] 0 0
abbrev roT (b : List (List Int)) : V := .ro 1 (b.map roI)

/-! ### Mirrored -/
def mirrorF (b : List (List Int)) (x y : Nat) : Int := cell b y (wide b - 1 - x)
def mirror (b : List (List Int)) : List (List Int) := if banner b then tbl b.length (wide b) (mirrorF b) else []

theorem i_MirrorBanner_1 {b : List (List Int)} (hb : banner b = true) {x y : Nat} (hx : x < wide b) (hy : y < b.length) : PCall Try.prog n_i_MirrorBanner_1 [I x, I y, bx (roT b), bx (I (wide b))] (I (mirrorF b x y)) := by
  have hd := banner_dims hb
  have hr := hd.2.2.2.2 y hy
  have e : (IntKind.i64.wrap (IntKind.i64.wrap ((wide b : Int) - 1) - (x : Int))) = ((wide b - 1 - x : Nat) : Int) := by rw [wrap64 (n := (wide b : Int) - 1) (by omega) (by omega), wrap64 (by omega) (by omega)]; omega
  have hlt : wide b - 1 - x < b[y].length := by omega
  refine PCall.of fn_i_MirrorBanner_1 (by simp) ?_
  simp [c_i_MirrorBanner_1, r_i_MirrorBanner_1_0, r_i_MirrorBanner_1_1, p_i_MirrorBanner_1_1, hy, e, hlt]
  refine ⟨oEnd_of (by first | kernel_rfl | simp) (by first | kernel_rfl | simp), ?_⟩
  simp [mirrorF, cell_get hy hlt]

theorem i_MirrorBanner (b : List (List Int)) : PCall Try.prog n_i_MirrorBanner [.ro 1 (b.map roI)] (.tup [.own 1 ((mirror b).map ownI), B (banner b)]) := by
  refine PCall.ofN fn_i_MirrorBanner (by simp) ?_
  simp [c_i_MirrorBanner, r_i_MirrorBanner_0, r_i_MirrorBanner_1]
  refine callQ_v (i_IsValidBanner ..) ?_
  cases hb : banner b with
  | false => simp [r_i_MirrorBanner_2, mirror, hb]
  | true =>
  have hd := banner_dims hb
  have hw := wide_get (b := b) (by omega)
  simp [r_i_MirrorBanner_3, show 0 < b.length by omega, ← hw]
  simp [r_i_MirrorBanner_4]
  refine callQ_of (PCall.arg (i_table b.length (wide b) (mirrorF b) n_i_MirrorBanner_1 [bx (roT b), bx (I (wide b))] (by omega) (by omega) (by simp) (by simp) (by simp) (by simp) (fun x y hx hy => i_MirrorBanner_1 hb hx hy)) (by simp)) rfl (.inl (by simp)) (by simp) ?_
  simp [mirror, hb]

theorem s_MirrorBanner (b : List (List Int))  : PCall Try.prog n_s_MirrorBanner [.ro 1 (b.map roI)] (.tup [.own 1 ((mirror b).map ownI), B (banner b)]) := by
  refine PCall.ofN fn_s_MirrorBanner (by simp) ?_
  simp [c_s_MirrorBanner, r_s_MirrorBanner_0, r_s_MirrorBanner_1, r_s_MirrorBanner_2]
  refine callQ_v (s_l24Good ..) ?_
  cases hb : banner b with
  | false => simp [r_s_MirrorBanner_3, mirror, hb]
  | true =>
  have hd := banner_dims hb
  have hw := wide_get (b := b) (by omega)
  simp [r_s_MirrorBanner_4, l_s_MirrorBanner_14]
  refine loopK (fun i : Nat => ⟨[(0, .ro 1 (b.map roI)), (4, .sl 8 0 i), (5, I i)], [(8, ⟨1, (tbl i (wide b) (mirrorF b)).map ownI⟩)], []⟩) (fun i => b.length - i) (fun i => i ≤ b.length) 0 (Wk.list rfl (by simp) (by simp [tbl])) (by simp) ?_
  intro i hi K hN hR hE
  simp [r_s_MirrorBanner_5]
  refine ⟨fun hlt => ?_, fun hge => ?_⟩
  · have hr := hd.2.2.2.2 i hlt
    simp [r_s_MirrorBanner_6, r_s_MirrorBanner_7, l_s_MirrorBanner_11, hlt]
    rw [wrap64 (by omega) (by omega), hr]
    refine loopK (fun k : Nat => ⟨[(0, .ro 1 (b.map roI)), (4, .sl 8 0 i), (5, I i), (6, .sl 19 0 k), (7, I ((wide b : Int) - 1 - k))], [(8, ⟨1, (tbl i (wide b) (mirrorF b)).map ownI⟩), (19, ⟨1, ints (rowOf k fun x => mirrorF b x i)⟩)], []⟩) (fun k => wide b - k) (fun k => k ≤ wide b) 0 (Wk.list rfl (by simp) (by simp [rowOf])) (by simp) ?_
    intro k hk K' hN' hR' hE'
    simp [r_s_MirrorBanner_8]
    refine ⟨fun hklt => ?_, fun hkge => ?_⟩
    · have hkr : k < b[i].length := by omega
      have e : ((wide b : Int) - 1 - (k : Int)) = ((wide b - 1 - k : Nat) : Int) := by omega
      have hkr' : wide b - 1 - k < b[i].length := by omega
      rw [e]
      simp [r_s_MirrorBanner_9, hlt, hkr', rowOf_len]
      refine ⟨by unfold lenBound; omega, ?_⟩
      simp [r_s_MirrorBanner_10]
      rw [wrap64 (by omega) (by omega), List.take_of_length_le (by simp [rowOf_len])]
      refine hN' (k + 1) _ (by omega) (by omega) (Wk.trans (Wk.ren 39 19 (by decide) (by simp)) (Wk.list rfl ?_ ?_))
      · simp [AS.ren, ren, reN]; omega
      · simp [AS.ren, ren, reN, renB, rowOf_succ, mirrorF, cell_get hlt hkr']
    · refine hE' _ _ ?_
      obtain rfl : k = wide b := by omega
      simp [r_s_MirrorBanner_12, tbl_len, rowOf_len]
      refine ⟨by unfold lenBound; omega, ?_⟩
      simp [r_s_MirrorBanner_13]
      rw [wrap64 (by omega) (by omega)]
      have hlen : ((tbl i (wide b) (mirrorF b)).map ownI).length = i := by simp [tbl_len]
      rw [List.take_of_length_le (by omega)]
      refine hN (i + 1) _ (by omega) (by omega) (Wk.trans (Wk.fold1 43 i 19 (n := wide b) (by rfl) (by rfl) (app_get hlen) (by simp [rowOf_len]) (by simp) (by simp)) (Wk.trans (Wk.ren 43 8 (by decide) ?_) (Wk.list rfl ?_ ?_)))
      · simp [app_set hlen, rmbs]
      · simp [AS.ren, ren, reN]
      · simp [AS.ren, ren, reN, renB, rmbs, app_set hlen, tbl_succ]
  · refine hE _ _ ?_
    obtain rfl : i = b.length := by omega
    simp [r_s_MirrorBanner_15, mirror, hb, tbl_len]

theorem mirror_bounds (b : List (List Int)) : (mirror b).length ≤ 60 ∧ total (mirror b) ≤ 3600 := by
  unfold mirror
  split
  · rename_i h
    have hb : banner b = true := by exact h
    have hd := banner_dims hb
    exact tbl_bounds (by omega) (by omega)
  · simp
end Go.Proofs.Ytgefdcllialhkaa
