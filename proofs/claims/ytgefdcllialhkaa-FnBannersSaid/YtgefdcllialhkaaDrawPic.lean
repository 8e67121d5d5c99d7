/- What the reference's functions of the shield answer: that they answer at all. -/
import Derived.Test.YtgefdcllialhkaaCodeDrawPic
import Derived.Test.YtgefdcllialhkaaDrawArms
import Derived.Test.YtgefdcllialhkaaBannerOf
import Derived.Test.YtgefdcllialhkaaTail
set_option linter.unusedVariables false
set_option linter.unusedSimpArgs false
namespace Go.Proofs.Ytgefdcllialhkaa
open Go.Abs

theorem map_I_set' (l : List Int) (i : Nat) (v : Int) : (l.map I).set i (I v) = (l.set i v).map I := by rw [List.map_set]
theorem u64_nn (n : Int) : 0 ≤ IntKind.u64.wrap n := by
  have h1 : IntKind.u64.signed = false := rfl
  have h2 : IntKind.u64.bits = 64 := rfl
  simp only [IntKind.wrap, h1, h2, Bool.false_and, Bool.false_eq_true, if_false]
  omega
theorem s_l9Has_no (l : List Int) (x y : Int) (h : inR x 0 19 = false ∨ inR y 0 23 = false) : PCall Try.prog n_s_l9Has [.agg [.ro 1 (l.map I)], I x, I y] (B false) := by
  refine PCall.of fn_s_l9Has (by simp) ?_
  simp [c_s_l9Has, r_s_l9Has_0, r_s_l9Has_1]
  refine callQ_v (s_l1In ..) ?_
  cases h1 : inR x 0 19 with
  | false => simp
  | true =>
  simp
  refine callQ_v (s_l1In ..) ?_
  cases h2 : inR y 0 23 with
  | false => simp
  | true => rw [h1, h2] at h; simp at h
theorem s_l9Has_in (l : List Int) (x y : Nat) (hl : l.length = 24) (hx : x < 20) (hy : y < 24) : ∃ b, PCall Try.prog n_s_l9Has [.agg [.ro 1 (l.map I)], I x, I y] (B b) := by
  have hyl : y < l.length := by omega
  refine ⟨decide (IntKind.i64.wrap ((l[y].fdiv (2 ^ min (IntKind.u64.wrap (x : Int)).toNat IntKind.i64.bits) % 2 ^ IntKind.i64.bits).toNat &&& 1 % 2 ^ IntKind.i64.bits : Nat) = 1), ?_⟩
  have h1 : inR x 0 19 = true := by rw [inR_iff]; omega
  have h2 : inR y 0 23 = true := by rw [inR_iff]; omega
  refine PCall.of fn_s_l9Has (by simp) ?_
  simp [c_s_l9Has, r_s_l9Has_0, r_s_l9Has_1]
  refine callQ_v (s_l1In ..) ?_
  simp [h1]
  refine callQ_v (s_l1In ..) ?_
  simp [h2, hyl]
  exact ⟨u64_nn _, by rw [Bool.eq_iff_iff, beq_iff_eq, decide_eq_true_iff]⟩
theorem s_l9Empty : PCall Try.prog n_s_l9Empty [] (.agg [.own 1 ((List.replicate 24 0).map I)]) := by
  refine PCall.of fn_s_l9Empty (by simp) ?_
  simp [c_s_l9Empty, r_s_l9Empty_0, r_s_l9Empty_1]
  unfold lenBound; omega
theorem s_l9Add (l : List Int) (x y : Nat) (hl : l.length = 24) (hx : x < 20) (hy : y < 24) : ∃ v : Int, MCall Try.prog n_s_l9Add [⟨1, l.map I⟩] [.agg [.sl (mid 0) 0 24], I x, I y] (.tup []) [some ⟨1, (l.set y v).map I⟩] := by
  have hyl : y < l.length := by omega
  cases h : shield x y with
  | false =>
    refine ⟨l[y], ?_⟩
    refine MCall.of fn_s_l9Add (by simp) rfl (by simp) ?_
    simp [c_s_l9Add, r_s_l9Add_0, r_s_l9Add_1]
    refine callQ_v (s_l9In ..) ?_
    simp [h]
  | true =>
    refine ⟨IntKind.i64.wrap ((l[y] % 2 ^ IntKind.i64.bits).toNat ||| (IntKind.i64.wrap (2 ^ min (IntKind.u64.wrap (x : Int)).toNat IntKind.i64.bits) % 2 ^ IntKind.i64.bits).toNat : Nat), ?_⟩
    refine MCall.of fn_s_l9Add (by simp) rfl (by simp) ?_
    simp [c_s_l9Add, r_s_l9Add_0, r_s_l9Add_1]
    refine callQ_v (s_l9In ..) ?_
    simp [h, hyl, r_s_l9Add_2, p_s_l9Add_2]
    refine ⟨by omega, u64_nn _, ?_⟩
    exact ⟨by omega, oEnd_of (by simp [p_s_l9Add_2]) (by simp)⟩
theorem s_l9Down (x y : Int) (h1 : -1000 ≤ x ∧ x ≤ 1000) (h2 : -1000 ≤ y ∧ y ≤ 1000) : PCall Try.prog n_s_l9Down [I x, I y] (I (24 * (2 * x + 1) - 20 * (2 * y + 1))) := by
  refine PCall.of fn_s_l9Down (by simp) ?_
  simp [c_s_l9Down, r_s_l9Down_0, r_s_l9Down_1]
  rw [wrap64 (n := 2 * x) (by omega) (by omega), wrap64 (n := 2 * x + 1) (by omega) (by omega), wrap64 (n := 24 * (2 * x + 1)) (by omega) (by omega), wrap64 (n := 2 * y) (by omega) (by omega), wrap64 (n := 2 * y + 1) (by omega) (by omega), wrap64 (n := 20 * (2 * y + 1)) (by omega) (by omega), wrap64 (by omega) (by omega)]
theorem s_l9Ord (o x y : Int) (hx : 0 ≤ x ∧ x ≤ 19) (hy : 0 ≤ y ∧ y ≤ 23) : ∃ b, PCall Try.prog n_s_l9Ord [I o, I x, I y] (B b) := by
  by_cases h1 : o = 1
  · refine ⟨inR x 7 12, ?_⟩
    refine PCall.of fn_s_l9Ord (by simp) ?_
    simp [c_s_l9Ord, r_s_l9Ord_0, r_s_l9Ord_1, r_s_l9Ord_2, r_s_l9Ord_3, h1]
    exact callQ_v (s_l1In ..) (by simp)
  by_cases h2 : o = 2
  · refine ⟨inR y 8 15, ?_⟩
    refine PCall.of fn_s_l9Ord (by simp) ?_
    simp [c_s_l9Ord, r_s_l9Ord_0, r_s_l9Ord_1, r_s_l9Ord_2, r_s_l9Ord_3, r_s_l9Ord_4, r_s_l9Ord_5, h1, h2]
    exact callQ_v (s_l1In ..) (by simp)
  by_cases h3 : o = 3
  · refine ⟨decide (absI (24 * (2 * x + 1) - 20 * (2 * y + 1)) ≤ 160), ?_⟩
    refine PCall.of fn_s_l9Ord (by simp) ?_
    simp [c_s_l9Ord, r_s_l9Ord_0, r_s_l9Ord_1, r_s_l9Ord_2, r_s_l9Ord_3, r_s_l9Ord_4, r_s_l9Ord_5, r_s_l9Ord_6, r_s_l9Ord_7, h1, h2, h3]
    refine callQ_v (s_l9Down _ _ (by omega) (by omega)) ?_
    simp
    exact callQ_v (s_l9Abs _ (by omega) (by omega)) (by simp)
  by_cases h4 : o = 4
  · refine ⟨inR (2 * y + 1 - absI (2 * x - 19)) 11 22, ?_⟩
    have ha : 0 ≤ absI (2 * x - 19) ∧ absI (2 * x - 19) ≤ 100 := by unfold absI; omega
    refine PCall.of fn_s_l9Ord (by simp) ?_
    simp [c_s_l9Ord, r_s_l9Ord_0, r_s_l9Ord_1, r_s_l9Ord_2, r_s_l9Ord_3, r_s_l9Ord_4, r_s_l9Ord_5, r_s_l9Ord_6, r_s_l9Ord_7, r_s_l9Ord_8, r_s_l9Ord_9, h1, h2, h3, h4]
    rw [wrap64 (n := 2 * x) (by omega) (by omega), wrap64 (n := 2 * x - 19) (by omega) (by omega)]
    refine callQ_v (s_l9Abs _ (by omega) (by omega)) ?_
    simp
    rw [wrap64 (n := 2 * y) (by omega) (by omega), wrap64 (n := 2 * y + 1) (by omega) (by omega), wrap64 (by omega) (by omega)]
    exact callQ_v (s_l1In ..) (by simp)
  by_cases h5 : o = 5
  · refine ⟨inR x 8 11 || inR y 10 13, ?_⟩
    refine PCall.of fn_s_l9Ord (by simp) ?_
    simp [c_s_l9Ord, r_s_l9Ord_0, r_s_l9Ord_1, r_s_l9Ord_2, r_s_l9Ord_3, r_s_l9Ord_4, r_s_l9Ord_5, r_s_l9Ord_6, r_s_l9Ord_7, r_s_l9Ord_8, r_s_l9Ord_9, r_s_l9Ord_10, r_s_l9Ord_11, h1, h2, h3, h4, h5]
    refine callQ_v (s_l1In ..) ?_
    cases inR x 8 11 with
    | true => simp
    | false =>
      simp
      exact callQ_v (s_l1In ..) (by simp)
  by_cases h6 : o = 6
  · refine ⟨decide (absI (24 * (2 * x + 1) - 20 * (2 * y + 1)) ≤ 120) || decide (absI (24 * (2 * (19 - x) + 1) - 20 * (2 * y + 1)) ≤ 120), ?_⟩
    refine PCall.of fn_s_l9Ord (by simp) ?_
    simp [c_s_l9Ord, r_s_l9Ord_0, r_s_l9Ord_1, r_s_l9Ord_2, r_s_l9Ord_3, r_s_l9Ord_4, r_s_l9Ord_5, r_s_l9Ord_6, r_s_l9Ord_7, r_s_l9Ord_8, r_s_l9Ord_9, r_s_l9Ord_10, r_s_l9Ord_11, r_s_l9Ord_12, r_s_l9Ord_13, h1, h2, h3, h4, h5, h6]
    refine callQ_v (s_l9Down _ _ (by omega) (by omega)) ?_
    simp
    refine callQ_v (s_l9Abs _ (by omega) (by omega)) ?_
    by_cases h : absI (24 * (2 * x + 1) - 20 * (2 * y + 1)) ≤ 120
    · simp [h]
    · simp [h]
      rw [wrap64 (by omega) (by omega)]
      refine callQ_v (s_l9Down _ _ (by omega) (by omega)) ?_
      simp
      exact callQ_v (s_l9Abs _ (by omega) (by omega)) (by simp; omega)
  by_cases h7 : o = 7
  · refine ⟨decide (y < 8), ?_⟩
    refine PCall.of fn_s_l9Ord (by simp) ?_
    simp [c_s_l9Ord, r_s_l9Ord_0, r_s_l9Ord_1, r_s_l9Ord_2, r_s_l9Ord_3, r_s_l9Ord_4, r_s_l9Ord_5, r_s_l9Ord_6, r_s_l9Ord_7, r_s_l9Ord_8, r_s_l9Ord_9, r_s_l9Ord_10, r_s_l9Ord_11, r_s_l9Ord_12, r_s_l9Ord_13, r_s_l9Ord_14, r_s_l9Ord_15, h1, h2, h3, h4, h5, h6, h7]
  refine ⟨false, ?_⟩
  refine PCall.of fn_s_l9Ord (by simp) ?_
  simp [c_s_l9Ord, r_s_l9Ord_0, r_s_l9Ord_1, r_s_l9Ord_2, r_s_l9Ord_3, r_s_l9Ord_4, r_s_l9Ord_5, r_s_l9Ord_6, r_s_l9Ord_7, r_s_l9Ord_8, r_s_l9Ord_9, r_s_l9Ord_10, r_s_l9Ord_11, r_s_l9Ord_12, r_s_l9Ord_13, r_s_l9Ord_14, r_s_l9Ord_15, r_s_l9Ord_16, h1, h2, h3, h4, h5, h6, h7]
theorem tm2 {a : Int} (h : 0 ≤ a) : IntKind.i64.wrap (a.tmod 2) = a.tmod 2 := by
  have h1 : 0 ≤ a.tmod 2 ∧ a.tmod 2 < 2 := ⟨Int.tmod_nonneg _ h, Int.tmod_lt_of_pos _ (by omega)⟩
  exact wrap64 (by omega) (by omega)
theorem s_l9Part (d x y : Int) (hx : 0 ≤ x ∧ x ≤ 19) (hy : 0 ≤ y ∧ y ≤ 23) : ∃ v, PCall Try.prog n_s_l9Part [I d, I x, I y] (I v) := by
  have fin : ∀ b : Bool, ∃ v : Int, (b = true → v = 0) ∧ (b = false → v = 1) := fun b => ⟨if b then 0 else 1, by simp, by simp⟩
  by_cases h1 : d = 1
  · refine ⟨if x < 10 then 0 else 1, ?_⟩
    refine PCall.of fn_s_l9Part (by simp) ?_
    by_cases h : x < 10 <;> simp [c_s_l9Part, r_s_l9Part_0, r_s_l9Part_1, r_s_l9Part_2, r_s_l9Part_3, r_s_l9Part_4, r_s_l9Part_17, r_s_l9Part_18, r_s_l9Part_19, h1, h]
  by_cases h2 : d = 2
  · refine ⟨if y < 12 then 0 else 1, ?_⟩
    refine PCall.of fn_s_l9Part (by simp) ?_
    by_cases h : y < 12 <;> simp [c_s_l9Part, r_s_l9Part_0, r_s_l9Part_1, r_s_l9Part_2, r_s_l9Part_3, r_s_l9Part_4, r_s_l9Part_5, r_s_l9Part_6, r_s_l9Part_17, r_s_l9Part_18, r_s_l9Part_19, h1, h2, h]
  by_cases h3 : d = 3
  · refine ⟨if 0 < 24 * (2 * x + 1) - 20 * (2 * y + 1) then 0 else 1, ?_⟩
    refine PCall.of fn_s_l9Part (by simp) ?_
    simp [c_s_l9Part, r_s_l9Part_0, r_s_l9Part_1, r_s_l9Part_2, r_s_l9Part_3, r_s_l9Part_4, r_s_l9Part_5, r_s_l9Part_6, r_s_l9Part_7, r_s_l9Part_8, h1, h2, h3]
    refine callQ_v (s_l9Down _ _ (by omega) (by omega)) ?_
    by_cases h : 0 < 24 * (2 * x + 1) - 20 * (2 * y + 1) <;> simp [r_s_l9Part_17, r_s_l9Part_18, r_s_l9Part_19, h]
  by_cases h4 : d = 4
  · refine ⟨if decide (x < 10) == decide (y < 12) then 0 else 1, ?_⟩
    refine PCall.of fn_s_l9Part (by simp) ?_
    by_cases h : x < 10 <;> by_cases h' : y < 12 <;> simp [c_s_l9Part, r_s_l9Part_0, r_s_l9Part_1, r_s_l9Part_2, r_s_l9Part_3, r_s_l9Part_4, r_s_l9Part_5, r_s_l9Part_6, r_s_l9Part_7, r_s_l9Part_8, r_s_l9Part_9, r_s_l9Part_10, r_s_l9Part_17, r_s_l9Part_18, r_s_l9Part_19, h1, h2, h3, h4, h, h']
  by_cases h5 : d = 5
  · refine ⟨if decide (0 < 24 * (2 * x + 1) - 20 * (2 * y + 1)) == decide (0 < 24 * (2 * (19 - x) + 1) - 20 * (2 * y + 1)) then 0 else 1, ?_⟩
    refine PCall.of fn_s_l9Part (by simp) ?_
    simp [c_s_l9Part, r_s_l9Part_0, r_s_l9Part_1, r_s_l9Part_2, r_s_l9Part_3, r_s_l9Part_4, r_s_l9Part_5, r_s_l9Part_6, r_s_l9Part_7, r_s_l9Part_8, r_s_l9Part_9, r_s_l9Part_10, r_s_l9Part_11, r_s_l9Part_12, h1, h2, h3, h4, h5]
    refine callQ_v (s_l9Down _ _ (by omega) (by omega)) ?_
    simp
    rw [wrap64 (by omega) (by omega)]
    refine callQ_v (s_l9Down _ _ (by omega) (by omega)) ?_
    by_cases h : 0 < 24 * (2 * x + 1) - 20 * (2 * y + 1) <;> by_cases h' : 0 < 24 * (2 * (19 - x) + 1) - 20 * (2 * y + 1) <;> simp [r_s_l9Part_17, r_s_l9Part_18, r_s_l9Part_19, h, h']
  by_cases h6 : d = 6
  · refine ⟨if (((6 * x).tdiv 20).tmod 2) = 0 then 0 else 1, ?_⟩
    have e : 0 ≤ (6 * x).tdiv 20 ∧ (6 * x).tdiv 20 ≤ 10 := by rw [Int.tdiv_eq_ediv_of_nonneg (by omega)]; omega
    refine PCall.of fn_s_l9Part (by simp) ?_
    by_cases h : ((6 * x).tdiv 20).tmod 2 = 0 <;> simp [c_s_l9Part, r_s_l9Part_0, r_s_l9Part_1, r_s_l9Part_2, r_s_l9Part_3, r_s_l9Part_4, r_s_l9Part_5, r_s_l9Part_6, r_s_l9Part_7, r_s_l9Part_8, r_s_l9Part_9, r_s_l9Part_10, r_s_l9Part_11, r_s_l9Part_12, r_s_l9Part_13, r_s_l9Part_14, r_s_l9Part_17, r_s_l9Part_18, r_s_l9Part_19, h1, h2, h3, h4, h5, h6, h, wrap64 (n := 6 * x) (by omega) (by omega), wrap64 (n := (6 * x).tdiv 20) (by omega) (by omega), tm2 e.1]
  by_cases h7 : d = 7
  · refine ⟨if ((y.tdiv 4).tmod 2) = 0 then 0 else 1, ?_⟩
    have e : 0 ≤ y.tdiv 4 ∧ y.tdiv 4 ≤ 10 := by rw [Int.tdiv_eq_ediv_of_nonneg (by omega)]; omega
    refine PCall.of fn_s_l9Part (by simp) ?_
    by_cases h : (y.tdiv 4).tmod 2 = 0 <;> simp [c_s_l9Part, r_s_l9Part_0, r_s_l9Part_1, r_s_l9Part_2, r_s_l9Part_3, r_s_l9Part_4, r_s_l9Part_5, r_s_l9Part_6, r_s_l9Part_7, r_s_l9Part_8, r_s_l9Part_9, r_s_l9Part_10, r_s_l9Part_11, r_s_l9Part_12, r_s_l9Part_13, r_s_l9Part_14, r_s_l9Part_15, r_s_l9Part_16, r_s_l9Part_17, r_s_l9Part_18, r_s_l9Part_19, h1, h2, h3, h4, h5, h6, h7, h, wrap64 (n := y.tdiv 4) (by omega) (by omega), tm2 e.1]
  refine ⟨0, ?_⟩
  refine PCall.of fn_s_l9Part (by simp) ?_
  simp [c_s_l9Part, r_s_l9Part_0, r_s_l9Part_1, r_s_l9Part_2, r_s_l9Part_3, r_s_l9Part_4, r_s_l9Part_5, r_s_l9Part_6, r_s_l9Part_7, r_s_l9Part_8, r_s_l9Part_9, r_s_l9Part_10, r_s_l9Part_11, r_s_l9Part_12, r_s_l9Part_13, r_s_l9Part_14, r_s_l9Part_15, r_s_l9Part_16, r_s_l9Part_17, r_s_l9Part_18, r_s_l9Part_19, h1, h2, h3, h4, h5, h6, h7]
theorem s_l10Offsets (k : Int) : ∃ l : List Int, (0 < l.length ∧ l.length ≤ 8 ∧ ∀ x ∈ l, -1 ≤ x ∧ x ≤ 2) ∧ PCall Try.prog n_s_l10Offsets [I k] (.own 1 (l.map I)) := by
  by_cases h1 : k = 1
  · exact ⟨[0, 1, 1, 0], by decide, PCall.of fn_s_l10Offsets (by simp) (by simp [c_s_l10Offsets, r_s_l10Offsets_0, r_s_l10Offsets_1, r_s_l10Offsets_2, r_s_l10Offsets_3, r_s_l10Offsets_4, r_s_l10Offsets_5, r_s_l10Offsets_6, r_s_l10Offsets_7, r_s_l10Offsets_8, r_s_l10Offsets_9, r_s_l10Offsets_10, h1])⟩
  by_cases h2 : k = 2
  · exact ⟨[0, 1, 1, 0, 0, -1, -1, 0], by decide, PCall.of fn_s_l10Offsets (by simp) (by simp [c_s_l10Offsets, r_s_l10Offsets_0, r_s_l10Offsets_1, r_s_l10Offsets_2, r_s_l10Offsets_3, r_s_l10Offsets_4, r_s_l10Offsets_5, r_s_l10Offsets_6, r_s_l10Offsets_7, r_s_l10Offsets_8, r_s_l10Offsets_9, r_s_l10Offsets_10, h1, h2])⟩
  by_cases h3 : k = 3
  · exact ⟨[0, 0, 2, 2], by decide, PCall.of fn_s_l10Offsets (by simp) (by simp [c_s_l10Offsets, r_s_l10Offsets_0, r_s_l10Offsets_1, r_s_l10Offsets_2, r_s_l10Offsets_3, r_s_l10Offsets_4, r_s_l10Offsets_5, r_s_l10Offsets_6, r_s_l10Offsets_7, r_s_l10Offsets_8, r_s_l10Offsets_9, r_s_l10Offsets_10, h1, h2, h3])⟩
  by_cases h4 : k = 4
  · exact ⟨[0, 1, 2, 1], by decide, PCall.of fn_s_l10Offsets (by simp) (by simp [c_s_l10Offsets, r_s_l10Offsets_0, r_s_l10Offsets_1, r_s_l10Offsets_2, r_s_l10Offsets_3, r_s_l10Offsets_4, r_s_l10Offsets_5, r_s_l10Offsets_6, r_s_l10Offsets_7, r_s_l10Offsets_8, r_s_l10Offsets_9, r_s_l10Offsets_10, h1, h2, h3, h4])⟩
  exact ⟨[0], by decide, PCall.of fn_s_l10Offsets (by simp) (by simp [c_s_l10Offsets, r_s_l10Offsets_0, r_s_l10Offsets_1, r_s_l10Offsets_2, r_s_l10Offsets_3, r_s_l10Offsets_4, r_s_l10Offsets_5, r_s_l10Offsets_6, r_s_l10Offsets_7, r_s_l10Offsets_8, r_s_l10Offsets_9, r_s_l10Offsets_10, h1, h2, h3, h4])⟩
theorem s_l10Offset (k t : Int) (ht : 0 ≤ t ∧ t ≤ 1000) : ∃ v : Int, (-1 ≤ v ∧ v ≤ 2) ∧ PCall Try.prog n_s_l10Offset [I k, I t] (I v) := by
  obtain ⟨l, ⟨hl, hl8, hb⟩, hP⟩ := s_l10Offsets k
  have hr : 0 ≤ t.tmod l.length ∧ t.tmod l.length < l.length := ⟨Int.tmod_nonneg _ (by omega), Int.tmod_lt_of_pos _ (by omega)⟩
  have hi : (t.tmod l.length).toNat < l.length := by omega
  refine ⟨l[(t.tmod l.length).toNat], hb _ (List.getElem_mem _), ?_⟩
  refine PCall.of fn_s_l10Offset (by simp) ?_
  simp [c_s_l10Offset, r_s_l10Offset_0, r_s_l10Offset_1]
  refine callQ_of hP rfl (.inl (by simp)) (by simp) ?_
  simp [r_s_l10Offset_2]
  refine ⟨by intro e; simp [e] at hl, by omega, ?_⟩
  simp [hi]
theorem s_l10Down (k x y : Int) (hx : 0 ≤ x ∧ x ≤ 100) (hy : 0 ≤ y ∧ y ≤ 100) : ∃ v : Int, PCall Try.prog n_s_l10Down [I k, I x, I y] (I v) := by
  obtain ⟨v, hv, hP⟩ := s_l10Offset k (x + y) (by omega)
  refine ⟨24 * (2 * x + 1) - 20 * (2 * y + 1) - 40 * v, ?_⟩
  refine PCall.of fn_s_l10Down (by simp) ?_
  simp [c_s_l10Down, r_s_l10Down_0, r_s_l10Down_1]
  refine callQ_v (s_l9Down _ _ (by omega) (by omega)) ?_
  simp
  rw [wrap64 (by omega) (by omega)]
  refine callQ_v hP ?_
  simp
  rw [wrap64 (n := 40 * v) (by omega) (by omega), wrap64 (by omega) (by omega)]
theorem s_l10Part (f : Field) (x y : Int) (hx : 0 ≤ x ∧ x ≤ 19) (hy : 0 ≤ y ∧ y ≤ 23) : ∃ v, PCall Try.prog n_s_l10Part [eField f, I x, I y] (I v) := by
  obtain ⟨a, hA⟩ := s_l10Down f.line x y (by omega) (by omega)
  obtain ⟨a2, hA2⟩ := s_l10Down f.line (19 - x) y (by omega) (by omega)
  obtain ⟨oy, hoy, hOy⟩ := s_l10Offset f.line y (by omega)
  obtain ⟨ox, hox, hOx⟩ := s_l10Offset f.line x (by omega)
  obtain ⟨p1, hP1⟩ := s_l9Part f.division (max 0 (min 19 (x - oy))) y (by omega) (by omega)
  obtain ⟨p2, hP2⟩ := s_l9Part f.division x (max 0 (min 23 (y - ox))) (by omega) (by omega)
  by_cases h3 : f.division = 3
  · refine ⟨if 0 < a then 0 else 1, ?_⟩
    refine PCall.of fn_s_l10Part (by simp) ?_
    simp [c_s_l10Part, r_s_l10Part_0, r_s_l10Part_1, r_s_l10Part_2, r_s_l10Part_3, r_s_l10Part_4, h3]
    refine callQ_v (PCall.arg hA (by simp)) ?_
    by_cases h : 0 < a <;> simp [r_s_l10Part_15, r_s_l10Part_16, r_s_l10Part_17, h]
  by_cases h5 : f.division = 5
  · refine ⟨if decide (0 < a) == decide (0 < a2) then 0 else 1, ?_⟩
    refine PCall.of fn_s_l10Part (by simp) ?_
    simp [c_s_l10Part, r_s_l10Part_0, r_s_l10Part_1, r_s_l10Part_2, r_s_l10Part_3, r_s_l10Part_4, r_s_l10Part_5, r_s_l10Part_6, p_s_l10Part_6, h3, h5]
    refine callD_v (PCall.arg hA (by simp)) ?_ ?_ ?_
    · simp
    · simp
    simp
    rw [wrap64 (by omega) (by omega)]
    refine callD_v (PCall.arg hA2 (by simp)) ?_ ?_ ?_
    · simp
    · simp
    simp
    refine ⟨oEnd_of (by first | kernel_rfl | simp) (by first | kernel_rfl | simp), ?_⟩
    by_cases h : 0 < a <;> by_cases h' : 0 < a2 <;> simp [r_s_l10Part_15, r_s_l10Part_16, r_s_l10Part_17, h, h']
  by_cases h4 : f.division = 4
  · refine ⟨if decide (x - oy < 10) == decide (y - ox < 12) then 0 else 1, ?_⟩
    refine PCall.of fn_s_l10Part (by simp) ?_
    simp [c_s_l10Part, r_s_l10Part_0, r_s_l10Part_1, r_s_l10Part_2, r_s_l10Part_3, r_s_l10Part_4, r_s_l10Part_5, r_s_l10Part_6, p_s_l10Part_6, r_s_l10Part_7, r_s_l10Part_8, p_s_l10Part_8, h3, h5, h4]
    refine callD_v (PCall.arg hOy (by simp)) ?_ ?_ ?_
    · simp
    · simp
    simp
    refine callD_v (PCall.arg hOx (by simp)) ?_ ?_ ?_
    · simp
    · simp
    simp
    rw [wrap64 (n := x - oy) (by omega) (by omega), wrap64 (n := y - ox) (by omega) (by omega)]
    refine ⟨oEnd_of (by first | kernel_rfl | simp) (by first | kernel_rfl | simp), ?_⟩
    by_cases h : x - oy < 10 <;> by_cases h' : y - ox < 12 <;> simp [r_s_l10Part_15, r_s_l10Part_16, r_s_l10Part_17, h, h']
  by_cases h1 : f.division = 1 ∨ f.division = 6
  · refine ⟨p1, ?_⟩
    refine PCall.of fn_s_l10Part (by simp) ?_
    rcases h1 with h1 | h1
    all_goals
      simp [c_s_l10Part, r_s_l10Part_0, r_s_l10Part_1, r_s_l10Part_2, r_s_l10Part_3, r_s_l10Part_4, r_s_l10Part_5, r_s_l10Part_6, p_s_l10Part_6, r_s_l10Part_7, r_s_l10Part_8, p_s_l10Part_8, r_s_l10Part_9, r_s_l10Part_10, r_s_l10Part_11, p_s_l10Part_11, h3, h5, h4, h1]
      refine callD_v (PCall.arg hOy (by simp)) ?_ ?_ ?_
      · simp
      · simp
      simp
      rw [wrap64 (n := x - oy) (by omega) (by omega)]
      refine callD_v (PCall.arg (s_l1Least 19 (x - oy)) (by simp)) ?_ ?_ ?_
      · simp
      · simp
      simp
      refine callD_v (PCall.arg (s_l1Most 0 (min 19 (x - oy))) (by simp)) ?_ ?_ ?_
      · simp
      · simp
      simp
      refine callD_v (PCall.arg hP1 (by simp [h1])) ?_ ?_ ?_
      · simp
      · simp
      simp
      exact oEnd_of (by first | kernel_rfl | simp) (by first | kernel_rfl | simp)
  by_cases h2 : f.division = 2 ∨ f.division = 7
  · refine ⟨p2, ?_⟩
    refine PCall.of fn_s_l10Part (by simp) ?_
    rcases h2 with h2 | h2
    all_goals
      simp [c_s_l10Part, r_s_l10Part_0, r_s_l10Part_1, r_s_l10Part_2, r_s_l10Part_3, r_s_l10Part_4, r_s_l10Part_5, r_s_l10Part_6, p_s_l10Part_6, r_s_l10Part_7, r_s_l10Part_8, p_s_l10Part_8, r_s_l10Part_9, r_s_l10Part_10, r_s_l10Part_11, p_s_l10Part_11, r_s_l10Part_12, r_s_l10Part_13, r_s_l10Part_14, p_s_l10Part_14, h3, h5, h4, h1, h2]
      refine callD_v (PCall.arg hOx (by simp)) ?_ ?_ ?_
      · simp
      · simp
      simp
      rw [wrap64 (n := y - ox) (by omega) (by omega)]
      refine callD_v (PCall.arg (s_l1Least 23 (y - ox)) (by simp)) ?_ ?_ ?_
      · simp
      · simp
      simp
      refine callD_v (PCall.arg (s_l1Most 0 (min 23 (y - ox))) (by simp)) ?_ ?_ ?_
      · simp
      · simp
      simp
      refine callD_v (PCall.arg hP2 (by simp [h2])) ?_ ?_ ?_
      · simp
      · simp
      simp
      exact oEnd_of (by first | kernel_rfl | simp) (by first | kernel_rfl | simp)
  refine ⟨0, ?_⟩
  refine PCall.of fn_s_l10Part (by simp) ?_
  have h1a : f.division ≠ 1 := fun e => h1 (.inl e)
  have h1b : f.division ≠ 6 := fun e => h1 (.inr e)
  have h2a : f.division ≠ 2 := fun e => h2 (.inl e)
  have h2b : f.division ≠ 7 := fun e => h2 (.inr e)
  simp [c_s_l10Part, r_s_l10Part_0, r_s_l10Part_1, r_s_l10Part_2, r_s_l10Part_3, r_s_l10Part_4, r_s_l10Part_5, r_s_l10Part_6, p_s_l10Part_6, r_s_l10Part_7, r_s_l10Part_8, p_s_l10Part_8, r_s_l10Part_9, r_s_l10Part_10, r_s_l10Part_11, p_s_l10Part_11, r_s_l10Part_12, r_s_l10Part_13, r_s_l10Part_14, p_s_l10Part_14, r_s_l10Part_15, r_s_l10Part_16, r_s_l10Part_17, h3, h5, h4, h1a, h1b, h2a, h2b]
theorem s_FieldTincture (f : Field) (x y : Int) (hx : 0 ≤ x ∧ x ≤ 19) (hy : 0 ≤ y ∧ y ≤ 23) (hf : fieldOk f = true) : ∃ (t : Int) (o : Bool), PCall Try.prog n_s_FieldTincture [eField f, I x, I y] (.tup [I t, B o]) := by
  obtain ⟨p, hP⟩ := s_l10Part f x y hx hy
  cases hs : shield x y with
  | false =>
    refine ⟨0, false, ?_⟩
    refine PCall.of fn_s_FieldTincture (by simp) ?_
    simp [c_s_FieldTincture, r_s_FieldTincture_0, r_s_FieldTincture_1]
    refine callQ_v (PCall.arg (s_l3Good f) (by simp)) ?_
    simp [hf]
    refine callQ_v (s_l9In ..) ?_
    simp [hs, r_s_FieldTincture_2]
  | true =>
    refine ⟨if p = 0 then f.first else f.second, true, ?_⟩
    refine PCall.of fn_s_FieldTincture (by simp) ?_
    simp [c_s_FieldTincture, r_s_FieldTincture_0, r_s_FieldTincture_1]
    refine callQ_v (PCall.arg (s_l3Good f) (by simp)) ?_
    simp [hf]
    refine callQ_v (s_l9In ..) ?_
    simp [hs, r_s_FieldTincture_3]
    refine callQ_v (PCall.arg hP (by simp)) ?_
    by_cases h : p = 0 <;> simp [h, r_s_FieldTincture_4, r_s_FieldTincture_5]
theorem s_l14Other (f : Field) (t : Int) : PCall Try.prog n_s_l14Other [eField f, I t] (I (IntKind.i64.wrap (IntKind.i64.wrap (f.first + f.second) - t))) := by
  refine PCall.of fn_s_l14Other (by simp) ?_
  simp [c_s_l14Other, r_s_l14Other_0, r_s_l14Other_1]
end Go.Proofs.Ytgefdcllialhkaa
