/- Pictures that are drawn, and the draws of the law of banners. -/
import Derived.Test.YtgefdcllialhkaaCodeDrawPic3
import Derived.Test.YtgefdcllialhkaaDrawPic2
set_option linter.unusedVariables false
set_option linter.unusedSimpArgs false
namespace Go.Proofs.Ytgefdcllialhkaa
open Go.Abs

theorem mod9 {a v : Int} (ha : 1 ≤ a ∧ a ≤ 9) (hv : 0 ≤ v ∧ v ≤ 7) : (1 ≤ 1 + (a + v).tmod 9 ∧ 1 + (a + v).tmod 9 ≤ 9) ∧ 1 + (a + v).tmod 9 ≠ a := by
  rw [Int.tmod_eq_emod_of_nonneg (by omega)]
  omega
set_option maxHeartbeats 1000000 in
theorem s_l1Cur_fieldOk (code : List UInt8) (k : Nat) (s : Int) (hk : k ≤ 10000000000) : ∃ (r0 : Field) (k' : Nat) (s' : Int), (fieldOk r0 = true ∧ (k ≤ k' ∧ k' ≤ k + 10)) ∧ MCall Try.prog n_s_l1Cur_field [curB code k s] [cR] (eField r0) [some (curB code k' s')] := by
  obtain ⟨v0, k1, s1, ⟨hv0, hk0⟩, hM0⟩ := s_l1Cur_tincture code k s (by omega)
  obtain ⟨v1, k2, s2, hk1, hM1⟩ := s_l1Cur_one code k1 s1 2 (by omega) (by omega)
  cases v1 with
  | true =>
    refine ⟨⟨0, 0, v0, 0⟩, k2, s2, ⟨by simp [fieldOk, inR]; omega, by omega⟩, ?_⟩
    refine MCall.of fn_s_l1Cur_field (by simp) rfl (by simp) ?_
    simp [c_s_l1Cur_field, r_s_l1Cur_field_0, r_s_l1Cur_field_1, r_s_l1Cur_field_2, r_s_l1Cur_field_3]
    refine callQ_Mz [1000000] [] (MCall.arg hM0 (by simp)) (by simp) (by simp) (by simp) (by simp) (by simp) (by first | rfl | simp) (by simp) ?_
    simp [c_s_l1Cur_field, r_s_l1Cur_field_0, r_s_l1Cur_field_1, r_s_l1Cur_field_2, r_s_l1Cur_field_3]
    refine callQ_Mz [1000000] [] (MCall.arg hM1 (by simp)) (by simp) (by simp) (by simp) (by simp) (by simp) (by first | rfl | simp) (by simp) ?_
    simp [c_s_l1Cur_field, r_s_l1Cur_field_0, r_s_l1Cur_field_1, r_s_l1Cur_field_2, r_s_l1Cur_field_3]
  | false =>
    obtain ⟨v3, k4, s4, ⟨hv3, hk3⟩, hM3⟩ := s_l1Cur_pick code k2 s2 7 (by omega) (by omega)
    obtain ⟨v4, k5, s5, ⟨hv4, hk4⟩, hM4⟩ := s_l1Cur_among code k4 s4 [0, 0, 1, 2, 3, 4] (by omega) (by simp) (by simp)
    obtain ⟨v5, k6, s6, ⟨hv5, hk5⟩, hM5⟩ := s_l1Cur_pick code k5 s5 8 (by omega) (by omega)
    have h9 := mod9 (a := v0) (v := v5) (by omega) (by omega)
    have hb4 : 0 ≤ v4 ∧ v4 ≤ 4 := by simp at hv4; omega
    have e1 : IntKind.i64.wrap (1 + v3) = 1 + v3 := wrap64 (by omega) (by omega)
    have e2 : IntKind.i64.wrap (v0 + v5) = v0 + v5 := wrap64 (by omega) (by omega)
    have e3 : IntKind.i64.wrap (1 + (v0 + v5).tmod 9) = 1 + (v0 + v5).tmod 9 := wrap64 (by omega) (by omega)
    refine ⟨⟨(IntKind.i64.wrap (1 + v3)), v4, v0, (IntKind.i64.wrap (1 + (Int.tmod (IntKind.i64.wrap (v0 + v5)) 9)))⟩, k6, s6, ⟨by rw [e1, e2, e3]; simp only [fieldOk, inR, if_neg (show ¬ (1 + v3 = 0) by omega), Bool.and_eq_true, decide_eq_true_iff, bne_iff_ne]; omega, by omega⟩, ?_⟩
    refine MCall.of fn_s_l1Cur_field (by simp) rfl (by simp) ?_
    simp [c_s_l1Cur_field, r_s_l1Cur_field_0, r_s_l1Cur_field_1, r_s_l1Cur_field_2, r_s_l1Cur_field_4, r_s_l1Cur_field_5, r_s_l1Cur_field_6, p_s_l1Cur_field_6, r_s_l1Cur_field_7]
    refine callQ_Mz [1000000] [] (MCall.arg hM0 (by simp)) (by simp) (by simp) (by simp) (by simp) (by simp) (by first | rfl | simp) (by simp) ?_
    simp [c_s_l1Cur_field, r_s_l1Cur_field_0, r_s_l1Cur_field_1, r_s_l1Cur_field_2, r_s_l1Cur_field_4, r_s_l1Cur_field_5, r_s_l1Cur_field_6, p_s_l1Cur_field_6, r_s_l1Cur_field_7]
    refine callQ_Mz [1000000] [] (MCall.arg hM1 (by simp)) (by simp) (by simp) (by simp) (by simp) (by simp) (by first | rfl | simp) (by simp) ?_
    simp [c_s_l1Cur_field, r_s_l1Cur_field_0, r_s_l1Cur_field_1, r_s_l1Cur_field_2, r_s_l1Cur_field_4, r_s_l1Cur_field_5, r_s_l1Cur_field_6, p_s_l1Cur_field_6, r_s_l1Cur_field_7]
    refine callQ_Mz [1000000] [] (MCall.arg hM3 (by simp)) (by simp) (by simp) (by simp) (by simp) (by simp) (by first | rfl | simp) (by simp) ?_
    simp [c_s_l1Cur_field, r_s_l1Cur_field_0, r_s_l1Cur_field_1, r_s_l1Cur_field_2, r_s_l1Cur_field_4, r_s_l1Cur_field_5, r_s_l1Cur_field_6, p_s_l1Cur_field_6, r_s_l1Cur_field_7]
    refine callQ_Mz [1000000] [15] (MCall.arg hM4 (by simp)) (by simp) (by simp) (by simp) (by simp) (by simp) (by first | rfl | simp) (by simp) ?_
    simp [c_s_l1Cur_field, r_s_l1Cur_field_0, r_s_l1Cur_field_1, r_s_l1Cur_field_2, r_s_l1Cur_field_4, r_s_l1Cur_field_5, r_s_l1Cur_field_6, p_s_l1Cur_field_6, r_s_l1Cur_field_7]
    refine callD_M [1000000] [] (l := [_]) (MCall.arg hM5 (by simp)) (by simp) (by simp) (by simp) (by simp) (by simp) (by first | rfl | simp) (by simp) (by simp) ?_
    simp [c_s_l1Cur_field, r_s_l1Cur_field_0, r_s_l1Cur_field_1, r_s_l1Cur_field_2, r_s_l1Cur_field_4, r_s_l1Cur_field_5, r_s_l1Cur_field_6, p_s_l1Cur_field_6, r_s_l1Cur_field_7]
    exact oEnd_of (by simp [p_s_l1Cur_field_6]) (by simp)
/-! A colour laid over a picture. -/
abbrev Pic := List (List Int)
def Shape (p : Pic) : Prop := p.length = 24 ∧ ∀ r ∈ p, r.length = 20
def dotS (h : Nat → Nat → Bool) (t : Int) (y x : Nat) (p : Pic) : Pic := if h x y then p.set y ((p[y]?.getD []).set x t) else p
def lineS (h : Nat → Nat → Bool) (t : Int) (p : Pic) (y n : Nat) : Pic := iterN (fun x p => dotS h t y x p) p n
def layS (h : Nat → Nat → Bool) (t : Int) (p : Pic) (n : Nat) : Pic := iterN (fun y p => lineS h t p y 20) p n
theorem Shape.set {p : Pic} (hp : Shape p) (y : Nat) {r : List Int} (hr : r.length = 20) : Shape (p.set y r) := by
  refine ⟨by simp [hp.1], fun q hq => ?_⟩
  rcases List.mem_or_eq_of_mem_set hq with h | rfl
  · exact hp.2 q h
  · exact hr
theorem Shape.row {p : Pic} (hp : Shape p) {y : Nat} (hy : y < 24) : ∃ r, p[y]? = some r ∧ r.length = 20 := by
  have h : y < p.length := by have := hp.1; omega
  exact ⟨p[y], List.getElem?_eq_getElem h, hp.2 _ (List.getElem_mem h)⟩
theorem dotS_shape {h : Nat → Nat → Bool} {t : Int} {y x : Nat} {p : Pic} (hp : Shape p) : Shape (dotS h t y x p) := by
  unfold dotS
  split
  · by_cases hy : y < 24
    · obtain ⟨r, hr, hl⟩ := hp.row hy
      exact hp.set y (by simp [hr, hl])
    · have : p.set y ((p[y]?.getD []).set x t) = p := List.set_eq_of_length_le (by have := hp.1; omega)
      rw [this]; exact hp
  · exact hp
theorem lineS_shape {h : Nat → Nat → Bool} {t : Int} {p : Pic} {y : Nat} (hp : Shape p) (n : Nat) : Shape (lineS h t p y n) := iterN_inv (P := Shape) hp (fun _ _ h => dotS_shape h) n
theorem layS_shape {h : Nat → Nat → Bool} {t : Int} {p : Pic} (hp : Shape p) (n : Nat) : Shape (layS h t p n) := iterN_inv (P := Shape) hp (fun _ _ h => lineS_shape h 20) n
theorem tbl_shape (F : Nat → Nat → Int) : Shape (tbl 24 20 F) := by
  refine ⟨tbl_len .., fun r hr => ?_⟩
  simp only [tbl, List.mem_map] at hr
  obtain ⟨y, _, rfl⟩ := hr
  exact rowOf_len ..
theorem tinct_fn (code : List UInt8) : ∃ g : Nat → Int → Int × Nat × Int, ∀ (k : Nat) (s : Int), k ≤ 100000000000 →
    ((k ≤ (g k s).2.1 ∧ (g k s).2.1 ≤ k + 2) ∧ MCall Try.prog n_s_l1Cur_tincture [curB code k s] [cR] (I (g k s).1) [some (curB code (g k s).2.1 (g k s).2.2)]) := by
  have key : ∀ (k : Nat) (s : Int), ∃ z : Int × Nat × Int, k ≤ 100000000000 → ((k ≤ z.2.1 ∧ z.2.1 ≤ k + 2) ∧ MCall Try.prog n_s_l1Cur_tincture [curB code k s] [cR] (I z.1) [some (curB code z.2.1 z.2.2)]) := fun k s => by
    by_cases hk : k ≤ 100000000000
    · obtain ⟨v, k', s', ⟨_, h1⟩, h2⟩ := s_l1Cur_tincture code k s hk
      exact ⟨(v, k', s'), fun _ => ⟨h1, h2⟩⟩
    · exact ⟨(0, 0, 0), fun h => absurd h hk⟩
  exact ⟨fun k s => (key k s).choose, fun k s hk => (key k s).choose_spec hk⟩
theorem cells_fn : ∃ g : Int → List Int, ∀ v, 0 ≤ v → v < 7 → (g v).length = 24 ∧ PCall Try.prog n_s_OrdinaryCells [I (1 + v)] (.tup [.agg [.own 1 ((g v).map I)], B true]) := by
  have key : ∀ v : Int, ∃ l : List Int, 0 ≤ v → v < 7 → l.length = 24 ∧ PCall Try.prog n_s_OrdinaryCells [I (1 + v)] (.tup [.agg [.own 1 (l.map I)], B true]) := fun v => by
    by_cases h : 0 ≤ v ∧ v < 7
    · obtain ⟨l, h1, h2⟩ := s_OrdinaryCells (1 + v) (by omega)
      exact ⟨l, fun _ _ => ⟨h1, h2⟩⟩
    · exact ⟨[], fun a b => absurd ⟨a, b⟩ h⟩
  exact ⟨fun v => (key v).choose, fun v a b => (key v).choose_spec a b⟩
theorem has_fn : ∃ h : List Int → Nat → Nat → Bool, ∀ (l : List Int) (x y : Nat), l.length = 24 → x < 20 → y < 24 → PCall Try.prog n_s_l9Has [.agg [.ro 1 (l.map I)], I x, I y] (B (h l x y)) :=
  choose3 (Q := fun l : List Int => l.length = 24) fun l x y hl hx hy => s_l9Has_in l x y hl hx hy
structure Trail where
  p : Pic
  k : Nat
  s : Int
def trailF (g7 gt : Nat → Int → Int × Nat × Int) (gc : Int → List Int) (h : List Int → Nat → Nat → Bool) (a : Trail) : Trail :=
  let z := g7 a.k a.s
  let t := gt z.2.1 z.2.2
  ⟨layS (h (gc z.1)) t.1 a.p 24, t.2.1, t.2.2⟩
set_option maxHeartbeats 4000000 in
theorem s_l1Cur_picture (code : List UInt8) (k : Nat) (s : Int) (hk : k ≤ 1000000) : ∃ (p : Pic) (k' : Nat) (s' : Int), (Shape p ∧ (k ≤ k' ∧ k' ≤ k + 100)) ∧
    MCall Try.prog n_s_l1Cur_picture [curB code k s] [cR] (.own 1 (p.map ownI)) [some (curB code k' s')] := by
  obtain ⟨f, k1, s1, ⟨hf, hk1⟩, hM1⟩ := s_l1Cur_fieldOk code k s (by omega)
  obtain ⟨F, hPF⟩ := s_FieldPicture f hf
  obtain ⟨v, k2, s2, ⟨hv, hk2⟩, hM2⟩ := s_l1Cur_pick code k1 s1 4 (by omega) (by omega)
  obtain ⟨g7, hg7⟩ := pick_fn code 7 (by omega)
  obtain ⟨gt, hgt⟩ := tinct_fn code
  obtain ⟨gc, hgc⟩ := cells_fn
  obtain ⟨h, hh⟩ := has_fn
  obtain ⟨n, hn⟩ : ∃ n : Nat, v = n := ⟨v.toNat, by omega⟩
  have hn3 : n ≤ 3 := by omega
  obtain ⟨u, hu⟩ : ∃ u : Nat → Trail, u = fun j => iterN (fun _ a => trailF g7 gt gc h a) ⟨tbl 24 20 F, k2, s2⟩ j := ⟨_, rfl⟩
  have hu0 : u 0 = ⟨tbl 24 20 F, k2, s2⟩ := by rw [hu]; rfl
  have hus : ∀ j, u (j + 1) = trailF g7 gt gc h (u j) := fun j => by rw [hu]; rfl
  have hinv : ∀ j, j ≤ 3 → Shape (u j).p ∧ k2 ≤ (u j).k ∧ (u j).k ≤ k2 + 4 * j := by
    intro j
    induction j with
    | zero => intro _; rw [hu0]; exact ⟨tbl_shape F, by dsimp only; omega⟩
    | succ j ih =>
      intro hj
      have ⟨i1, i2⟩ := ih (by omega)
      have a1 := (hg7 (u j).k (u j).s (by omega)).1.2
      have a2 := (hgt (g7 (u j).k (u j).s).2.1 (g7 (u j).k (u j).s).2.2 (by omega)).1
      rw [hus]
      refine ⟨layS_shape i1 24, ?_⟩
      simp only [trailF]; omega
  refine ⟨(u n).p, (u n).k, (u n).s, ⟨(hinv n hn3).1, by have := hinv n hn3; omega⟩, ?_⟩
  refine MCall.of fn_s_l1Cur_picture (by simp) rfl (by simp) ?_
  simp [c_s_l1Cur_picture, r_s_l1Cur_picture_0, r_s_l1Cur_picture_1]
  refine callQ_Mz [1000000] [] (MCall.arg hM1 (by simp)) (by simp) (by simp) (by simp) (by simp) (by simp) (by first | rfl | simp) (by simp) ?_
  simp
  refine callQ_of (PCall.arg hPF (by simp)) rfl (.inl (by simp)) (by simp) ?_
  simp [r_s_l1Cur_picture_2, l_s_l1Cur_picture_17]
  refine callQ_Mz [1000000] [] (MCall.arg hM2 (by simp)) (by simp) (by simp) (by simp) (by simp) (by simp) (by first | rfl | simp) (by simp) ?_
  rw [hn]
  simp
  refine loopK (fun j : Nat => ⟨[(0, cR), (3, .sl 14 0 24), (5, I ((n : Int) - j))], [(1000000, curB code (u j).k (u j).s), (14, ⟨1, (u j).p.map ownI⟩)], [1000000]⟩) (fun j => n - j) (fun j => j ≤ n) 0 (Wk.list rfl (by simp [tbl_len]) (by simp [hu0])) (by simp) ?_
  intro j hj K hN hR hE
  have hju := hinv j (by omega)
  have hjs := hus j
  obtain ⟨a, ha⟩ : ∃ a, u j = a := ⟨_, rfl⟩
  rw [ha] at hju hjs ⊢
  obtain ⟨P, ka, sa⟩ := a
  obtain ⟨hP, hka⟩ := hju
  dsimp only at hP hka ⊢
  obtain ⟨hz, hMz⟩ := hg7 ka sa (by omega)
  simp only [trailF] at hjs
  obtain ⟨z, hzz⟩ : ∃ z, g7 ka sa = z := ⟨_, rfl⟩
  rw [hzz] at hz hMz hjs
  obtain ⟨w, kz, sz⟩ := z
  dsimp only at hz hMz hjs
  obtain ⟨ht, hMt⟩ := hgt kz sz (by omega)
  obtain ⟨t, htt⟩ : ∃ t, gt kz sz = t := ⟨_, rfl⟩
  rw [htt] at ht hMt hjs
  obtain ⟨t, kt, st⟩ := t
  dsimp only at ht hMt hjs
  obtain ⟨hcl, hPC⟩ := hgc w (by omega) (by omega)
  generalize gc w = L at hcl hPC hjs
  have hhas := fun x y (hx : x < 20) (hy : y < 24) => hh L x y hcl hx hy
  generalize h L = q at hhas hjs
  simp [r_s_l1Cur_picture_3, r_s_l1Cur_picture_16]
  refine ⟨fun hlt => ?_, fun hge => ?_⟩
  · simp [r_s_l1Cur_picture_4]
    refine callQ_Mz [1000000] [] (MCall.arg hMz (by simp)) (by simp) (by simp) (by simp) (by simp) (by simp) (by first | rfl | simp) (by simp) ?_
    simp
    rw [wrap64 (n := 1 + w) (by omega) (by omega)]
    refine callQ_of hPC rfl (.inl (by simp)) (by simp) ?_
    simp [r_s_l1Cur_picture_5]
    refine callQ_Mz [1000000] [] (MCall.arg hMt (by simp)) (by simp) (by simp) (by simp) (by simp) (by simp) (by first | rfl | simp) (by simp) ?_
    simp [r_s_l1Cur_picture_6, l_s_l1Cur_picture_15]
    refine loopK (fun y : Nat => ⟨[(0, cR), (3, .sl 14 0 24), (5, I ((n : Int) - j)), (6, .ref 6 0 0), (8, I t), (9, I y)], [(1000000, curB code kt st), (6, ⟨1, [.agg [.sl 27 0 L.length]]⟩), (27, ⟨1, L.map I⟩), (14, ⟨1, (layS q t P y).map ownI⟩)], [1000000]⟩) (fun y => 24 - y) (fun y => y ≤ 24) 0 (Wk.list rfl (by simp) (by simp [layS, iterN])) (by simp) ?_
    intro y hy K' hN' hR' hE'
    have hPy := layS_shape (h := q) (t := t) hP y
    have hys : layS q t P (y + 1) = lineS q t (layS q t P y) y 20 := rfl
    obtain ⟨Q, hQ⟩ : ∃ Q, layS q t P y = Q := ⟨_, rfl⟩
    rw [hQ] at hPy hys ⊢
    simp [r_s_l1Cur_picture_7, r_s_l1Cur_picture_14]
    refine ⟨fun hylt => ?_, fun hyge => ?_⟩
    · simp [r_s_l1Cur_picture_8, l_s_l1Cur_picture_13]
      refine loopK (fun x : Nat => ⟨[(0, cR), (3, .sl 14 0 24), (5, I ((n : Int) - j)), (6, .ref 6 0 0), (8, I t), (9, I y), (10, I x)], [(1000000, curB code kt st), (6, ⟨1, [.agg [.sl 27 0 L.length]]⟩), (27, ⟨1, L.map I⟩), (14, ⟨1, (lineS q t Q y x).map ownI⟩)], [1000000]⟩) (fun x => 20 - x) (fun x => x ≤ 20) 0 (Wk.list rfl (by simp) (by simp [lineS, iterN])) (by simp) ?_
      intro x hx K2 hN2 hR2 hE2
      have hQx := lineS_shape (h := q) (t := t) (y := y) hPy x
      have hxs : lineS q t Q y (x + 1) = dotS q t y x (lineS q t Q y x) := rfl
      obtain ⟨R, hRR⟩ : ∃ R, lineS q t Q y x = R := ⟨_, rfl⟩
      rw [hRR] at hQx hxs ⊢
      simp [r_s_l1Cur_picture_9, r_s_l1Cur_picture_12]
      refine ⟨fun hxlt => ?_, fun hxge => ?_⟩
      · simp [r_s_l1Cur_picture_10]
        refine callQ_v (PCall.arg (hhas x y (by omega) (by omega)) (by simp [List.take_of_length_le])) ?_
        obtain ⟨r, hr, hrl⟩ := hQx.row (y := y) (by omega)
        have hm : (R.map ownI)[y]? = some (ownI r) := by simp [hr]
        have hyR : y < (R.map ownI).length := by have := hQx.1; simp; omega
        cases hc : q x y with
        | true =>
          simp
          refine wk_of _ (Wk.unfold1 14 y 500 (sz := 1) (es := r.map I) (by rfl) hm (by simp)) ?_
          simp [r_s_l1Cur_picture_11]
          have hset : ((R.map ownI).set y (.sl 500 0 r.length))[y]? = some (.sl 500 0 r.length) := by rw [List.getElem?_set_self hyR]
          rw [hset]
          refine ⟨by omega, ?_⟩
          simp [hrl]
          refine ⟨by omega, ?_⟩
          obtain ⟨c0, hc0⟩ : ∃ c0, r[x]? = some c0 := ⟨_, List.getElem?_eq_getElem (by omega)⟩
          rw [hc0]
          simp
          have hset2 : ((R.map ownI).set y (.sl 500 0 20))[y]? = some (.sl 500 0 20) := by rw [List.getElem?_set_self hyR]
          refine wk_of _ (Wk.fold1 14 y 500 (n := 20) (by rfl) (by rfl) hset2 (by simp [hrl]) (by simp) (by simp)) ?_
          simp [r_s_l1Cur_picture_12]
          rw [wrap64 (by omega) (by omega)]
          have hPR : dotS q t y x R = R.set y (r.set x t) := by simp [dotS, hc, hr]
          refine hN2 (x + 1) _ (by omega) (by omega) (Wk.list rfl ?_ ?_)
          · simp
          · simp [hxs, hPR]; rw [map_I_set']
        | false =>
          simp
          refine wk_of _ (Wk.refl _) ?_
          simp [r_s_l1Cur_picture_12]
          rw [wrap64 (by omega) (by omega)]
          refine hN2 (x + 1) _ (by omega) (by omega) (Wk.list rfl ?_ ?_)
          · simp
          · simp [hxs, dotS, hc]
      · obtain rfl : x = 20 := by omega
        refine hE2 _ _ ?_
        simp only [blockK_exit]
        simp
        rw [wrap64 (by omega) (by omega)]
        refine hN' (y + 1) _ (by omega) (by omega) (Wk.list rfl ?_ ?_)
        · simp
        · simp [hys, hRR]
    · obtain rfl : y = 24 := by omega
      refine hE' _ _ ?_
      simp only [blockK_exit]
      simp
      rw [wrap64 (by omega) (by omega)]
      refine hN (j + 1) _ (by omega) (by omega) (Wk.list rfl ?_ ?_)
      · simp; omega
      · simp [hjs, hQ]
  · obtain rfl : j = n := by omega
    refine hE _ _ ?_
    simp only [blockK_exit]
    simp [r_s_l1Cur_picture_18, ha, hP.1]
end Go.Proofs.Ytgefdcllialhkaa
